import PyProof.Rows.All
import Wide.All
import OpenK.AllK
import Wide.FinOn
import HandS.Base
import HandS.Call
import HandS.List
import HandS.Comp
import HandS.Dict
import HandS.Iter
import HandS.Exc
import HandS.TryOnly
import HandS.ExcOwn
import HandS.Words
import HandS.WordsList
import HandS.WordsExc
import HandS.Ends
import HandS.Deep
import HandS.SortOrd
import HandS.TupLe
import HandS.TupAny
import HandS.Zip
import HandS.Small
import HandS.IsInst
import HandS.Conv
import HandS.Text
import HandS.Flow
import HandS.TryMany
import HandS.Codes
import HandS.TupMul
import KE.DataAny
import KE.DataIsa
import KE.GoesMore
import HandS.Style
import PyProof.ReprRoads
import KE.SortData
import PyProof.TupleOfSeq
import HandS.EndBits
import HandS.DictComp
import HandS.More
import HandS.ExcInit
import HandS.ExcField
import HandS.NestedK
import KE.KExcSuper
import KE.KSuper
import HandS.TupSets
import HandS.Strs
import HandS.SetFor
import KE.DataCmp
import PySem.Challenge.RW_schedkinds_k66_whole_right_cuts
set_option Elab.async false
set_option linter.all false
set_option maxRecDepth 100000
namespace D3
open PySem PySem.Spec PyProof.Rows L2

/-! ### data in the heap stay data in a larger one -/
theorem rd_up {H H' : Hp} {a : Addr} {u : HO} (s : Same H H') (h : Rd H a u) : Rd H' a u := by
  rcases h with h | ⟨o, h⟩
  · exact .inl (s _ _ h)
  · exact .inr ⟨o, s _ _ h⟩
theorem sqt_up {K : PySem.W.Frag} {H H' : Hp} {a : Addr} {xs : List V} (s : Same H H') (h : SqT K H a xs) : SqT K H' a xs := by
  rcases h with h | h
  · exact .inl (rd_up s h)
  · exact .inr h
mutual
theorem dp_up {K : PySem.W.Frag} {H H' : Hp} (s : Same H H') : ∀ {v : V} {d : PyData}, Dp K H v d → Dp K H' v d
  | _, _, .non => .non
  | _, _, .bl b => .bl b
  | _, _, .int i => .int i
  | _, _, .str x => .str x
  | _, _, .lst h t => .lst (s.seq h) (dps_up s t)
  | _, _, .tup h t => .tup (sqt_up s h) (dps_up s t)
theorem dps_up {K : PySem.W.Frag} {H H' : Hp} (s : Same H H') : ∀ {vs : List V} {ds : List PyData}, DpAll K H vs ds → DpAll K H' vs ds
  | _, _, .nil => .nil
  | _, _, .cons h t => .cons (dp_up s h) (dps_up s t)
end
theorem dps_len {K : PySem.W.Frag} {H : Hp} : ∀ {vs : List V} {ds : List PyData}, DpAll K H vs ds → vs.length = ds.length
  | _, _, .nil => rfl
  | _, _, .cons _ t => congrArg (· + 1) (dps_len t)
theorem dps_app {K : PySem.W.Frag} {H : Hp} : ∀ {vs ws : List V} {ds es : List PyData}, DpAll K H vs ds → DpAll K H ws es → DpAll K H (vs ++ ws) (ds ++ es)
  | _, _, _, _, .nil, h => h
  | _, _, _, _, .cons h t, h' => .cons h (dps_app t h')
theorem dps_get {K : PySem.W.Frag} {H : Hp} : ∀ {vs : List V} {ds : List PyData} {i : Nat} {d : PyData}, DpAll K H vs ds → ds[i]? = some d → ∃ v, vs[i]? = some v ∧ Dp K H v d
  | _, _, _, _, .nil, h => by simp at h
  | _, _, 0, _, .cons h t, e => by simp at e; subst e; exact ⟨_, rfl, h⟩
  | _, _, i + 1, d, .cons h t, e => by
    obtain ⟨v, e1, h1⟩ := dps_get (i := i) (d := d) t (by simpa using e)
    exact ⟨v, by simpa using e1, h1⟩
theorem dps_getV {K : PySem.W.Frag} {H : Hp} : ∀ {vs : List V} {ds : List PyData} {i : Nat} {v : V}, DpAll K H vs ds → vs[i]? = some v → ∃ d, ds[i]? = some d ∧ Dp K H v d
  | _, _, _, _, .nil, h => by simp at h
  | _, _, 0, _, .cons h t, e => by simp at e; subst e; exact ⟨_, rfl, h⟩
  | _, _, i + 1, v, .cons h t, e => by
    obtain ⟨d, e1, h1⟩ := dps_getV (i := i) (v := v) t (by simpa using e)
    exact ⟨d, by simpa using e1, h1⟩
theorem dps_take {K : PySem.W.Frag} {H : Hp} : ∀ {vs : List V} {ds : List PyData} (n : Nat), DpAll K H vs ds → DpAll K H (vs.take n) (ds.take n)
  | _, _, 0, _ => .nil
  | _, _, _ + 1, .nil => .nil
  | _, _, n + 1, .cons h t => .cons h (dps_take n t)
theorem dps_drop {K : PySem.W.Frag} {H : Hp} : ∀ {vs : List V} {ds : List PyData} (n : Nat), DpAll K H vs ds → DpAll K H (vs.drop n) (ds.drop n)
  | _, _, 0, h => h
  | _, _, _ + 1, .nil => .nil
  | _, _, n + 1, .cons h t => dps_drop n t
theorem dps_set {K : PySem.W.Frag} {H : Hp} {v : V} {d : PyData} (h : Dp K H v d) : ∀ {vs : List V} {ds : List PyData} (n : Nat), DpAll K H vs ds → DpAll K H (vs.set n v) (ds.set n d)
  | _, _, _, .nil => .nil
  | _, _, 0, .cons _ t => .cons h t
  | _, _, n + 1, .cons h' t => .cons h' (dps_set h n t)

/-! ### the part that is data: its tuples bear no dict -/
def BareU : HO → Prop
  | .tup _ => False
  | .frz o (.tup _) => o.dict = none
  | _ => True
/-- F is a part of H, its tuples are bare -/
structure Sb (F H : Hp) : Prop where
  s : Same F H
  b : ∀ a u, F a = some u → BareU u
instance {F H : Hp} : CoeOut (Sb F H) (Same F H) := ⟨Sb.s⟩
theorem Sb.trans {F H H' : Hp} (h : Sb F H) (s : Same H H') : Sb F H' := ⟨h.s.trans s, h.b⟩
theorem Sb.free {F H : Hp} (h : Sb F H) {a : Addr} (e : H a = none) : F a = none := h.s.free e
theorem Sb.seq {K : PySem.W.Frag} {F H : Hp} (h : Sb F H) {a : Addr} {xs : List V} (e : SqL K F a xs) : SqL K H a xs := h.s.seq e
theorem Sb.put {F H : Hp} {p : Addr} {o : HO} (s : Sb F H) (hp : H p = none) (hb : BareU o) : Sb (upd F p o) (upd H p o) := ⟨fun b x e => by
    by_cases hb : b = p
    · subst hb; rw [upd_same] at e ⊢; exact e
    · rw [upd_ne hb] at e ⊢; exact s.s _ _ e, fun b u e => by
    by_cases hb : b = p
    · subst hb; rw [upd_same] at e; cases e; assumption
    · rw [upd_ne hb] at e; exact s.b _ _ e⟩
theorem Sb.lst {F H : Hp} {a : Addr} {vs : List V} (s : Sb F H) (h : H a = some (.lst vs)) : Sb (upd F a (.lst vs)) H := ⟨fun b x e => by
    by_cases hb : b = a
    · subst hb; rw [upd_same] at e; rw [h]; exact e
    · rw [upd_ne hb] at e; exact s.s _ _ e, fun b u e => by
    by_cases hb : b = a
    · subst hb; rw [upd_same] at e; cases e; trivial
    · rw [upd_ne hb] at e; exact s.b _ _ e⟩
theorem _root_.L2.Same.sb {F F' H : Hp} (s : Same F F') (h : Sb F' H) : Sb F H := ⟨s.trans h.s, fun a u e => h.b a u (s _ _ e)⟩
theorem Sb.of {F H H' : Hp} (s : Sb F H) (k : ∀ b o, F b = some o → H' b = some o) : Sb F H' := ⟨k, s.b⟩
/-- a tuple that is new -/
theorem sqt_frz {K : PySem.W.Frag} {H : Hp} {p : Addr} {o : Obj} {xs : List V} : SqT K (upd H p (.frz o (.tup xs))) p xs := .inl (.inr ⟨o, upd_same⟩)

/-! ### slots -/
/-- an object of one's own, other than a list: a dict, its keys ints and texts -/
inductive Od where
  | dk (kvs : List (Key × PyData))
def OdOk (K : PySem.W.Frag) (F : Hp) (u : HO) : Od → Prop
  | .dk kvs => ∃ ws : List (Key × V), u = .dK ws ∧ Paired (fun (p : Key × V) (q : Key × PyData) => p.1 = q.1 ∧ Dp K F p.2 q.2) ws kvs
theorem odOk_up {K : PySem.W.Frag} {F F' : Hp} {u : HO} {o : Od} (s : Same F F') (h : OdOk K F u o) : OdOk K F' u o := by
  cases o with
  | dk kvs =>
    obtain ⟨ws, rfl, h⟩ := h
    refine ⟨ws, rfl, ?_⟩
    induction h with
    | nil => exact .nil
    | cons h t ih => exact .cons ⟨h.1, dp_up s h.2⟩ ih
/-- what a name of a def holds: nothing; data (never changed any more); a list of its own; the caller's list, lent; an object of its own -/
inductive Slot where
  | nil
  | val (d : PyData)
  | own (ds : List PyData)
  | io (ds : List PyData)
  | ob (o : Od)
abbrev Ev := List Slot
def Slot.isO : Slot → Bool
  | .own _ => true
  | .io _ => true
  | .ob _ => true
  | _ => false
/-- the ground: what must stay as it is, what stood, the part that is data, the lent list -/
structure Bs where
  P : Hp
  N : Addr → Prop
  F0 : Hp
  m : Option Addr
def SlOk (K : PySem.W.Frag) (B : Bs) (F H : Hp) (sv : Option (Option V)) : Slot → Prop
  | .nil => True
  | .val d => ∃ v, sv = some (some v) ∧ Dp K F v d
  | .own ds => ∃ a vs, sv = some (some (.ref a)) ∧ H a = some (.lst vs) ∧ F a = none ∧ ¬ B.N a ∧ DpAll K F vs ds
  | .io ds => ∃ a vs, sv = some (some (.ref a)) ∧ H a = some (.lst vs) ∧ F a = none ∧ B.m = some a ∧ DpAll K F vs ds
  | .ob o => ∃ a u, sv = some (some (.ref a)) ∧ H a = some u ∧ F a = none ∧ ¬ B.N a ∧ OdOk K F u o
structure SI (K : PySem.W.Frag) (B : Bs) (σ : L2.St) (ρ : Ev) (F H : Hp) : Prop where
  up : Same B.F0 F
  sub : Sb F H
  new : ∀ a o, F a = some o → B.F0 a = none → ¬ B.N a
  keep : ∀ a o, B.P a = some o → H a = some o
  pn : ∀ a o, B.P a = some o → B.N a
  there : ∀ a, B.N a → H a ≠ none
  lent : ∀ a, B.m = some a → F a = none ∧ B.N a ∧ B.P a = none ∧ ∃ xs, H a = some (.lst xs)
  len : ρ.length = σ.length
  slot : ∀ (i : Nat) (s : Slot), ρ[i]? = some s → SlOk K B F H σ[i]? s
  sep : ∀ (i j : Nat) (s t : Slot) (a : Addr), ρ[i]? = some s → ρ[j]? = some t → s.isO = true → t.isO = true → σ[i]? = some (some (.ref a)) → σ[j]? = some (some (.ref a)) → i = j
/-- a fresh list's place -/
structure Fresh (K : PySem.W.Frag) (B : Bs) (σ : L2.St) (ρ : Ev) (F H : Hp) (a : Addr) (ds : List PyData) : Prop where
  at_ : ∃ vs, H a = some (.lst vs) ∧ DpAll K F vs ds
  fF : F a = none
  fN : ¬ B.N a
  ne : ∀ (i : Nat) (s : Slot), ρ[i]? = some s → s.isO = true → σ[i]? ≠ some (some (.ref a))

section
variable {K : PySem.W.Frag} {B : Bs} {σ : L2.St} {ρ : Ev} {F F' H H' : Hp} {a p : Addr} {ds : List PyData}
theorem SlOk.grow {sv : Option (Option V)} {s : Slot} (h : SlOk K B F H sv s) (sF : Same F F') (sH : ∀ a, s.isO = true → sv = some (some (.ref a)) → H' a = H a ∧ F' a = F a) : SlOk K B F' H' sv s := by
  cases s with
  | nil => trivial
  | val d => obtain ⟨v, e, h⟩ := h; exact ⟨v, e, dp_up sF h⟩
  | own ds =>
    obtain ⟨a, vs, e, h1, h2, h3, h4⟩ := h
    obtain ⟨e1, e2⟩ := sH a rfl e
    exact ⟨a, vs, e, e1.trans h1, e2.trans h2, h3, dps_up sF h4⟩
  | io ds =>
    obtain ⟨a, vs, e, h1, h2, h3, h4⟩ := h
    obtain ⟨e1, e2⟩ := sH a rfl e
    exact ⟨a, vs, e, e1.trans h1, e2.trans h2, h3, dps_up sF h4⟩
  | ob o =>
    obtain ⟨a, vs, e, h1, h2, h3, h4⟩ := h
    obtain ⟨e1, e2⟩ := sH a rfl e
    exact ⟨a, vs, e, e1.trans h1, e2.trans h2, h3, odOk_up sF h4⟩
theorem SI.ownF (I : SI K B σ ρ F H) {i : Nat} {s : Slot} (e : ρ[i]? = some s) (o : s.isO = true) (es : σ[i]? = some (some (.ref a))) : F a = none ∧ ∃ u, H a = some u := by
  have h := I.slot i s e
  cases s with
  | nil => cases o
  | val d => cases o
  | own ds =>
    obtain ⟨b, vs, e1, h1, h2, h3, h4⟩ := h
    rw [es] at e1; cases e1
    exact ⟨h2, _, h1⟩
  | io ds =>
    obtain ⟨b, vs, e1, h1, h2, h3, h4⟩ := h
    rw [es] at e1; cases e1
    exact ⟨h2, _, h1⟩
  | ob o =>
    obtain ⟨b, vs, e1, h1, h2, h3, h4⟩ := h
    rw [es] at e1; cases e1
    exact ⟨h2, _, h1⟩
theorem SI.noN (I : SI K B σ ρ F H) (h : H a = none) : ¬ B.N a := fun n => I.there a n h
/-- the heap grows, and the part that stays with it, by new objects alone -/
theorem SI.grow (I : SI K B σ ρ F H) (sF : Same F F') (sub : Sb F' H') (sH : Same H H') (nw : ∀ a o, F' a = some o → F a = none → H a = none) : SI K B σ ρ F' H' := by
  have nF : ∀ a, F a = none → H a ≠ none → F' a = none := fun a h1 h2 => by
    cases e : F' a with
    | none => rfl
    | some o => exact absurd (nw a o e h1) h2
  refine ⟨I.up.trans sF, sub, fun a o e e0 => ?_, fun a o e => sH _ _ (I.keep a o e), I.pn, fun a n z => I.there a n (sH.free z), fun a hm => ?_, I.len, fun i s e => ?_, I.sep⟩
  · cases e1 : F a with
    | some o' => exact I.new a o' e1 e0
    | none => exact I.noN (nw a o e e1)
  · obtain ⟨h1, h3, h4, xs, h2⟩ := I.lent a hm
    exact ⟨nF a h1 (by rw [h2]; simp), h3, h4, xs, sH _ _ h2⟩
  · refine (I.slot i s e).grow sF fun a o es => ?_
    obtain ⟨h1, vs, h2⟩ := I.ownF e o es
    exact ⟨by rw [sH _ _ h2, h2], by rw [nF a h1 (by rw [h2]; simp), h1]⟩
theorem same_new {H : Hp} {p : Addr} {o : HO} (h : H p = none) : Same H (upd H p o) := fun b x e => by
  rw [upd_ne (ne_of_none e h)]; exact e
/-- a new object that stays -/
theorem SI.put (I : SI K B σ ρ F H) (o : HO) (h : H p = none) (hbu : BareU o) : SI K B σ ρ (upd F p o) (upd H p o) ∧ Same F (upd F p o) := by
  have hF : F p = none := I.sub.free h
  refine ⟨I.grow (same_new hF) (I.sub.put h hbu) (same_new h) fun a x e e0 => ?_, same_new hF⟩
  · by_cases hb : a = p
    · subst hb; exact h
    · rw [upd_ne hb, e0] at e; cases e
/-- a new list of one's own -/
theorem SI.fresh (I : SI K B σ ρ F H) {vs : List V} (h : H p = none) (hd : DpAll K F vs ds) : SI K B σ ρ F (upd H p (.lst vs)) ∧ Fresh K B σ ρ F (upd H p (.lst vs)) p ds := by
  refine ⟨I.grow (Same.refl _) (I.sub.trans (same_new h)) (same_new h) fun a o e e0 => (by rw [e0] at e; cases e), ⟨⟨vs, upd_same, hd⟩, I.sub.free h, I.noN h, fun i s e o es => ?_⟩⟩
  obtain ⟨_, ws, h2⟩ := I.ownF e o es
  rw [h] at h2; cases h2
/-- it stays from now on -/
theorem SI.freeze (I : SI K B σ ρ F H) (f : Fresh K B σ ρ F H a ds) : ∃ F', Same F F' ∧ SI K B σ ρ F' H ∧ Dp K F' (.ref a) (.list ds) := by
  obtain ⟨⟨vs, h1, h2⟩, h3, h4, h5⟩ := f
  have sF : Same F (upd F a (.lst vs)) := same_new h3
  refine ⟨upd F a (.lst vs), sF, ⟨I.up.trans sF, I.sub.lst h1, fun b o e e0 => ?_, I.keep, I.pn, I.there, fun b hm => ?_, I.len, fun i s e => (I.slot i s e).grow sF fun b o es => ⟨rfl, ?_⟩, I.sep⟩, .lst (SqL.of upd_same) (dps_up sF h2)⟩
  · by_cases hb : b = a
    · subst hb; exact h4
    · rw [upd_ne hb] at e; exact I.new b o e e0
  · obtain ⟨e1, e2⟩ := I.lent b hm
    refine ⟨?_, e2⟩
    by_cases hb : b = a
    · subst hb; exact absurd e2.1 h4
    · rw [upd_ne hb]; exact e1
  · have hb : b ≠ a := fun z => h5 i s e o (z ▸ es)
    rw [upd_ne hb]
/-- a fresh list is shielded while other things run -/
def Bs.with (B : Bs) (a : Addr) (vs : List V) : Bs := ⟨upd B.P a (.lst vs), fun b => B.N b ∨ b = a, B.F0, B.m⟩
theorem SI.shield (I : SI K B σ ρ F H) (f : Fresh K B σ ρ F H a ds) {vs : List V} (e : H a = some (.lst vs)) : SI K (B.with a vs) σ ρ F H := by
  obtain ⟨_, h3, h4, h5⟩ := f
  refine ⟨I.up, I.sub, fun b o e1 e0 z => ?_, fun b o e1 => ?_, fun b o e1 => ?_, fun b z => ?_, fun b hm => ?_, I.len, fun i s es => ?_, I.sep⟩
  · rcases z with z | z
    · exact I.new b o e1 e0 z
    · subst z; rw [h3] at e1; cases e1
  · by_cases hb : b = a
    · subst hb; exact e.trans (upd_same.symm.trans e1)
    · exact I.keep b o ((upd_ne hb).symm.trans e1)
  · by_cases hb : b = a
    · exact .inr hb
    · exact .inl (I.pn b o ((upd_ne hb).symm.trans e1))
  · rcases z with z | z
    · exact I.there b z
    · subst z; rw [e]; simp
  · obtain ⟨q1, q2, q3, q4⟩ := I.lent b hm
    have hb : b ≠ a := fun z => h4 (z ▸ q2)
    exact ⟨q1, .inl q2, (upd_ne hb).trans q3, q4⟩
  · have h := I.slot i s es
    cases s with
    | nil => trivial
    | val d => exact h
    | own ds' =>
      obtain ⟨b, ws, e1, q1, q2, q3, q4⟩ := h
      refine ⟨b, ws, e1, q1, q2, fun z => ?_, q4⟩
      rcases z with z | z
      · exact q3 z
      · exact h5 i _ es rfl (z ▸ e1)
    | io ds' => exact h
    | ob o =>
      obtain ⟨b, ws, e1, q1, q2, q3, q4⟩ := h
      refine ⟨b, ws, e1, q1, q2, fun z => ?_, q4⟩
      rcases z with z | z
      · exact q3 z
      · exact h5 i _ es rfl (z ▸ e1)
theorem SI.unshield {vs : List V} (I : SI K (B.with a vs) σ ρ F H) (f : DpAll K F vs ds) (nN : ¬ B.N a) (nF : B.F0 a = none) (pn : ∀ b o, B.P b = some o → B.N b) : SI K B σ ρ F H ∧ Fresh K B σ ρ F H a ds ∧ H a = some (.lst vs) := by
  have nP : B.P a = none := by
    cases q : B.P a with
    | none => rfl
    | some o => exact absurd (pn a o q) nN
  have hH : H a = some (.lst vs) := I.keep a _ upd_same
  have hF : F a = none := by
    cases e : F a with
    | none => rfl
    | some o => exact absurd (.inr rfl) (I.new a o e nF)
  have hne : ∀ (i : Nat) (s : Slot), ρ[i]? = some s → s.isO = true → σ[i]? ≠ some (some (.ref a)) := fun i s es o e => by
    have h := I.slot i s es
    cases s with
    | nil => cases o
    | val d => cases o
    | own ds' =>
      obtain ⟨b, ws, e1, q1, q2, q3, q4⟩ := h
      rw [e] at e1; cases e1
      exact q3 (.inr rfl)
    | io ds' =>
      obtain ⟨b, ws, e1, q1, q2, q3, q4⟩ := h
      rw [e] at e1; cases e1
      obtain ⟨_, _, z, _⟩ := I.lent a q3
      exact absurd (upd_same.symm.trans z) (by simp)
    | ob o' =>
      obtain ⟨b, ws, e1, q1, q2, q3, q4⟩ := h
      rw [e] at e1; cases e1
      exact q3 (.inr rfl)
  refine ⟨⟨I.up, I.sub, fun b o e e0 z => I.new b o e e0 (.inl z), fun b o e => I.keep b o ?_, pn, fun b z => I.there b (.inl z), fun b hm => ?_, I.len, fun i s es => ?_, I.sep⟩, ⟨⟨vs, hH, f⟩, hF, nN, hne⟩, hH⟩
  · exact (upd_ne fun z => by subst z; rw [nP] at e; cases e).trans e
  · obtain ⟨q1, q2, q3, q4⟩ := I.lent b hm
    have hb : b ≠ a := fun z => by
      subst z
      exact absurd (upd_same.symm.trans q3) (by simp)
    exact ⟨q1, q2.resolve_right hb, (upd_ne hb).symm.trans q3, q4⟩
  · have h := I.slot i s es
    cases s with
    | nil => trivial
    | val d => exact h
    | own ds' =>
      obtain ⟨b, ws, e1, q1, q2, q3, q4⟩ := h
      exact ⟨b, ws, e1, q1, q2, fun z => q3 (.inl z), q4⟩
    | io ds' => exact h
    | ob o' =>
      obtain ⟨b, ws, e1, q1, q2, q3, q4⟩ := h
      exact ⟨b, ws, e1, q1, q2, fun z => q3 (.inl z), q4⟩
/-- a fresh list is changed -/
theorem SI.rewrite (I : SI K B σ ρ F H) (f : Fresh K B σ ρ F H a ds) {vs : List V} {es : List PyData} (hd : DpAll K F vs es) : SI K B σ ρ F (upd H a (.lst vs)) ∧ Fresh K B σ ρ F (upd H a (.lst vs)) a es := by
  obtain ⟨⟨ws, h1, h2⟩, h3, h4, h5⟩ := f
  have nP : B.P a = none := by
    cases q : B.P a with
    | none => rfl
    | some o => exact absurd (I.pn a o q) h4
  refine ⟨⟨I.up, I.sub.of fun b o e => ?_, I.new, fun b o e => ?_, I.pn, fun b n => ?_, fun b hm => ?_, I.len, fun i s e => (I.slot i s e).grow (Same.refl _) fun b o eb => ⟨?_, rfl⟩, I.sep⟩, ⟨⟨vs, upd_same, hd⟩, h3, h4, h5⟩⟩
  · rw [upd_ne fun z => by subst z; rw [h3] at e; cases e]; exact I.sub.s _ _ e
  · rw [upd_ne fun z => by subst z; rw [nP] at e; cases e]; exact I.keep _ _ e
  · have hb : b ≠ a := fun z => h4 (z ▸ n)
    rw [upd_ne hb]; exact I.there b n
  · obtain ⟨q1, q2, q3, xs, q4⟩ := I.lent b hm
    have hb : b ≠ a := fun z => h4 (z ▸ q2)
    exact ⟨q1, q2, q3, xs, by rw [upd_ne hb]; exact q4⟩
  · have hb : b ≠ a := fun z => h5 i s e o (z ▸ eb)
    exact upd_ne hb
/-- a slot is set -/
theorem SI.set {i : Nat} {v : V} {s : Slot} (I : SI K B σ ρ F H) (h : SlOk K B F H (some (some v)) s) (hn : s.isO = true → ∀ (j : Nat) (t : Slot) (b : Addr), v = .ref b → ρ[j]? = some t → t.isO = true → j ≠ i → σ[j]? ≠ some (some (.ref b))) : SI K B (σ.set i (some v)) (ρ.set i s) F H := by
  refine ⟨I.up, I.sub, I.new, I.keep, I.pn, I.there, I.lent, by rw [List.length_set, List.length_set]; exact I.len, fun j t e => ?_, fun j k t u b ej ek ot ou fj fk => ?_⟩
  · by_cases hj : i = j
    · subst hj
      have hl : i < ρ.length := by
        have := (List.getElem?_eq_some_iff.mp e).1
        rwa [List.length_set] at this
      rw [List.getElem?_set_self hl] at e
      rw [List.getElem?_set_self (I.len ▸ hl)]
      cases e
      exact h
    · rw [List.getElem?_set_ne hj] at e ⊢; exact I.slot j t e
  · have key : ∀ {j : Nat} {t : Slot}, (ρ.set i s)[j]? = some t → t.isO = true → (σ.set i (some v))[j]? = some (some (.ref b)) → (j = i ∧ s.isO = true ∧ v = .ref b) ∨ (j ≠ i ∧ ρ[j]? = some t ∧ σ[j]? = some (some (.ref b))) := fun {j t} ej ot fj => by
      by_cases hj : i = j
      · subst hj
        have hl : i < ρ.length := by
          have := (List.getElem?_eq_some_iff.mp ej).1
          rwa [List.length_set] at this
        rw [List.getElem?_set_self hl] at ej
        rw [List.getElem?_set_self (I.len ▸ hl)] at fj
        cases ej
        cases fj
        exact .inl ⟨rfl, ot, rfl⟩
      · rw [List.getElem?_set_ne hj] at ej fj
        exact .inr ⟨fun z => hj z.symm, ej, fj⟩
    rcases key ej ot fj with ⟨rfl, q1, q2⟩ | ⟨n1, q1, q2⟩
    · rcases key ek ou fk with ⟨rfl, _, _⟩ | ⟨n2, q3, q4⟩
      · rfl
      · exact absurd q4 (hn q1 k u b q2 q3 ou n2)
    · rcases key ek ou fk with ⟨rfl, q3, q4⟩ | ⟨n2, q3, q4⟩
      · exact absurd q2 (hn q3 j t b q4 q1 ot n1)
      · exact I.sep j k t u b q1 q3 ot ou q2 q4
theorem SI.setV {i : Nat} {v : V} {d : PyData} (I : SI K B σ ρ F H) (h : Dp K F v d) : SI K B (σ.set i (some v)) (ρ.set i (.val d)) F H := I.set ⟨v, rfl, h⟩ fun o => by cases o
theorem SI.setL {i : Nat} (I : SI K B σ ρ F H) (f : Fresh K B σ ρ F H a ds) : SI K B (σ.set i (some (.ref a))) (ρ.set i (.own ds)) F H := by
  obtain ⟨⟨ws, h1, h2⟩, h3, h4, h5⟩ := f
  refine I.set ⟨a, ws, rfl, h1, h3, h4, h2⟩ fun _ j t b e ej ot _ => ?_
  cases e
  exact h5 j t ej ot
/-! an object of one's own, other than a list -/
structure FreshO (K : PySem.W.Frag) (B : Bs) (σ : L2.St) (ρ : Ev) (F H : Hp) (a : Addr) (o : Od) : Prop where
  at_ : ∃ u, H a = some u ∧ OdOk K F u o
  fF : F a = none
  fN : ¬ B.N a
  ne : ∀ (i : Nat) (s : Slot), ρ[i]? = some s → s.isO = true → σ[i]? ≠ some (some (.ref a))
theorem SI.freshO (I : SI K B σ ρ F H) {u : HO} {o : Od} (h : H p = none) (hd : OdOk K F u o) : SI K B σ ρ F (upd H p u) ∧ FreshO K B σ ρ F (upd H p u) p o := by
  refine ⟨I.grow (Same.refl _) (I.sub.trans (same_new h)) (same_new h) fun a o e e0 => (by rw [e0] at e; cases e), ⟨⟨u, upd_same, hd⟩, I.sub.free h, I.noN h, fun i s e o es => ?_⟩⟩
  obtain ⟨_, ws, h2⟩ := I.ownF e o es
  rw [h] at h2; cases h2
def Bs.withO (B : Bs) (a : Addr) (u : HO) : Bs := ⟨upd B.P a u, fun b => B.N b ∨ b = a, B.F0, B.m⟩
theorem SI.shieldO (I : SI K B σ ρ F H) {o : Od} (f : FreshO K B σ ρ F H a o) {u : HO} (e : H a = some u) : SI K (B.withO a u) σ ρ F H := by
  obtain ⟨_, h3, h4, h5⟩ := f
  refine ⟨I.up, I.sub, fun b o e1 e0 z => ?_, fun b o e1 => ?_, fun b o e1 => ?_, fun b z => ?_, fun b hm => ?_, I.len, fun i s es => ?_, I.sep⟩
  · rcases z with z | z
    · exact I.new b o e1 e0 z
    · subst z; rw [h3] at e1; cases e1
  · by_cases hb : b = a
    · subst hb; exact e.trans (upd_same.symm.trans e1)
    · exact I.keep b o ((upd_ne hb).symm.trans e1)
  · by_cases hb : b = a
    · exact .inr hb
    · exact .inl (I.pn b o ((upd_ne hb).symm.trans e1))
  · rcases z with z | z
    · exact I.there b z
    · subst z; rw [e]; simp
  · obtain ⟨q1, q2, q3, q4⟩ := I.lent b hm
    have hb : b ≠ a := fun z => h4 (z ▸ q2)
    exact ⟨q1, .inl q2, (upd_ne hb).trans q3, q4⟩
  · have h := I.slot i s es
    cases s with
    | nil => trivial
    | val d => exact h
    | own ds' =>
      obtain ⟨b, ws, e1, q1, q2, q3, q4⟩ := h
      refine ⟨b, ws, e1, q1, q2, fun z => ?_, q4⟩
      rcases z with z | z
      · exact q3 z
      · exact h5 i _ es rfl (z ▸ e1)
    | io ds' => exact h
    | ob o =>
      obtain ⟨b, ws, e1, q1, q2, q3, q4⟩ := h
      refine ⟨b, ws, e1, q1, q2, fun z => ?_, q4⟩
      rcases z with z | z
      · exact q3 z
      · exact h5 i _ es rfl (z ▸ e1)
theorem SI.unshieldO {u : HO} {o : Od} (I : SI K (B.withO a u) σ ρ F H) (f : OdOk K F u o) (nN : ¬ B.N a) (nF : B.F0 a = none) (pn : ∀ b o, B.P b = some o → B.N b) (nL : ∀ xs, u ≠ .lst xs) : SI K B σ ρ F H ∧ FreshO K B σ ρ F H a o ∧ H a = some u := by
  have nP : B.P a = none := by
    cases q : B.P a with
    | none => rfl
    | some o => exact absurd (pn a o q) nN
  have hH : H a = some u := I.keep a _ upd_same
  have hF : F a = none := by
    cases e : F a with
    | none => rfl
    | some o => exact absurd (.inr rfl) (I.new a o e nF)
  have hne : ∀ (i : Nat) (s : Slot), ρ[i]? = some s → s.isO = true → σ[i]? ≠ some (some (.ref a)) := fun i s es o e => by
    have h := I.slot i s es
    cases s with
    | nil => cases o
    | val d => cases o
    | own ds' =>
      obtain ⟨b, ws, e1, q1, q2, q3, q4⟩ := h
      rw [e] at e1; cases e1
      exact q3 (.inr rfl)
    | io ds' =>
      obtain ⟨b, ws, e1, q1, q2, q3, q4⟩ := h
      rw [e] at e1; cases e1
      obtain ⟨_, _, z, _⟩ := I.lent a q3
      exact absurd (upd_same.symm.trans z) (by simp)
    | ob o' =>
      obtain ⟨b, ws, e1, q1, q2, q3, q4⟩ := h
      rw [e] at e1; cases e1
      exact q3 (.inr rfl)
  refine ⟨⟨I.up, I.sub, fun b o e e0 z => I.new b o e e0 (.inl z), fun b o e => I.keep b o ?_, pn, fun b z => I.there b (.inl z), fun b hm => ?_, I.len, fun i s es => ?_, I.sep⟩, ⟨⟨u, hH, f⟩, hF, nN, hne⟩, hH⟩
  · exact (upd_ne fun z => by subst z; rw [nP] at e; cases e).trans e
  · obtain ⟨q1, q2, q3, q4⟩ := I.lent b hm
    have hb : b ≠ a := fun z => by
      subst z
      exact absurd (upd_same.symm.trans q3) (by simp)
    exact ⟨q1, q2.resolve_right hb, (upd_ne hb).symm.trans q3, q4⟩
  · have h := I.slot i s es
    cases s with
    | nil => trivial
    | val d => exact h
    | own ds' =>
      obtain ⟨b, ws, e1, q1, q2, q3, q4⟩ := h
      exact ⟨b, ws, e1, q1, q2, fun z => q3 (.inl z), q4⟩
    | io ds' => exact h
    | ob o' =>
      obtain ⟨b, ws, e1, q1, q2, q3, q4⟩ := h
      exact ⟨b, ws, e1, q1, q2, fun z => q3 (.inl z), q4⟩
theorem SI.rewriteO (I : SI K B σ ρ F H) {o o' : Od} (f : FreshO K B σ ρ F H a o) {u : HO} (hd : OdOk K F u o') : SI K B σ ρ F (upd H a u) ∧ FreshO K B σ ρ F (upd H a u) a o' := by
  obtain ⟨⟨ws, h1, h2⟩, h3, h4, h5⟩ := f
  have nP : B.P a = none := by
    cases q : B.P a with
    | none => rfl
    | some o => exact absurd (I.pn a o q) h4
  refine ⟨⟨I.up, I.sub.of fun b o e => ?_, I.new, fun b o e => ?_, I.pn, fun b n => ?_, fun b hm => ?_, I.len, fun i s e => (I.slot i s e).grow (Same.refl _) fun b o eb => ⟨?_, rfl⟩, I.sep⟩, ⟨⟨u, upd_same, hd⟩, h3, h4, h5⟩⟩
  · rw [upd_ne fun z => by subst z; rw [h3] at e; cases e]; exact I.sub.s _ _ e
  · rw [upd_ne fun z => by subst z; rw [nP] at e; cases e]; exact I.keep _ _ e
  · have hb : b ≠ a := fun z => h4 (z ▸ n)
    rw [upd_ne hb]; exact I.there b n
  · obtain ⟨q1, q2, q3, xs, q4⟩ := I.lent b hm
    have hb : b ≠ a := fun z => h4 (z ▸ q2)
    exact ⟨q1, q2, q3, xs, by rw [upd_ne hb]; exact q4⟩
  · have hb : b ≠ a := fun z => h5 i s e o (z ▸ eb)
    exact upd_ne hb
theorem SI.setO {i : Nat} {o : Od} (I : SI K B σ ρ F H) (f : FreshO K B σ ρ F H a o) : SI K B (σ.set i (some (.ref a))) (ρ.set i (.ob o)) F H := by
  obtain ⟨⟨ws, h1, h2⟩, h3, h4, h5⟩ := f
  refine I.set ⟨a, ws, rfl, h1, h3, h4, h2⟩ fun _ j t b e ej ot _ => ?_
  cases e
  exact h5 j t ej ot
theorem SI.takeO (I : SI K B σ ρ F H) {i : Nat} {o : Od} (e : ρ[i]? = some (.ob o)) : ∃ a, σ[i]? = some (some (.ref a)) ∧ SI K B σ (ρ.set i .nil) F H ∧ FreshO K B σ (ρ.set i .nil) F H a o := by
  obtain ⟨a, vs, es, h1, h2, h3, h4⟩ := I.slot i _ e
  have hi : i < ρ.length := (List.getElem?_eq_some_iff.mp e).1
  have eσ : σ.set i (some (.ref a)) = σ := by
    obtain ⟨hl, ei⟩ := List.getElem?_eq_some_iff.mp es
    rw [← ei, List.set_getElem_self]
  have I' := I.set (i := i) (v := .ref a) (s := .nil) trivial fun o => by cases o
  rw [eσ] at I'
  exact ⟨a, es, I', ⟨⟨vs, h1, h4⟩, h2, h3, fun j s ej os esj => by
    by_cases hj : i = j
    · subst hj
      rw [List.getElem?_set_self hi] at ej
      cases ej; cases os
    · rw [List.getElem?_set_ne hj] at ej
      exact hj (I.sep i j _ s a e ej rfl os es esj)⟩⟩
/-- the object in a name is changed -/
theorem SI.writeO (I : SI K B σ ρ F H) {i : Nat} {o o' : Od} {u : HO} (e : ρ[i]? = some (.ob o)) (es : σ[i]? = some (some (.ref a))) (hd : OdOk K F u o') : SI K B σ (ρ.set i (.ob o')) F (upd H a u) := by
  obtain ⟨b, eb, I1, f1⟩ := I.takeO e
  rw [es] at eb; cases eb
  obtain ⟨I2, f2⟩ := I1.rewriteO f1 hd
  have := I2.setO (i := i) f2
  have eσ : σ.set i (some (.ref a)) = σ := by
    obtain ⟨hl, ei⟩ := List.getElem?_eq_some_iff.mp es
    rw [← ei, List.set_getElem_self]
  rwa [eσ, List.set_set] at this
end
end D3

namespace D3
open PySem PySem.Spec PyProof.Rows L2

/-! ### new tuples, known to bear no dict -/
def NewT (H : Hp) (ys : List V) (Q : VK) : Prop := ∀ p o, H p = none → o.dict = none → Q (.ref p) (upd H p (.frz o (.tup ys)))
section
variable {X : Cx} {pins : List (Addr × Obj)} {σ : L2.St} {H : Hp} {s : Shared} {Q : VK} {ys : List V} {its : List Value}
theorem newT_end {ar : Array Value} (I : Inv X pins σ H s) (ea : ar = its.toArray) (hz : ys.length ≤ sizeLine) (r : Vals ys its) (q : NewT H ys Q) :
    EP X pins σ Q (.ref s.heap.objs.size) { s with heap := s.heap.push { cls := .type "tuple", data := .seq ar } } := by
  subst ea
  have free := I.hok.fresh (Nat.le_refl s.heap.objs.size)
  exact ⟨.ref _, upd H _ (.frz _ (.tup ys)), I.laid (t' := s.toks) (fun b ob e => Heap.get?_push_of_some _ e) (Nat.le_refl _) ⟨Heap.get?_push_size _ rfl, hz, its, r, IsTup.new _ _⟩, rfl, q _ _ free rfl⟩
end
section
variable {X : Cx} {es : List Expr} {t : TA} {pos : Pos}
/-- a display -/
theorem pe_tupB {k} (h : PA X es t) : PE X (.Tuple es k pos) (fun σ H Q => t σ H fun xs H1 => xs.length ≤ sizeLine ∧ NewT H1 xs Q) := ⟨fun pins s σ H Q I hq =>
  wpAny_Tuple_spliced (thn (h.run pos pins s σ H _ I hq) fun us s1 ⟨xs, H1, I1, r, z, q⟩ => ⟨r.length ▸ z, newT_end I1 rfl z r q⟩)⟩
/-- t + u -/
def rCatB (K : PySem.W.Frag) : R2 := fun x y H Q => ∃ (a b : Addr) (xs ys : List V), x = V.ref a ∧ y = V.ref b ∧ SqT K H a xs ∧ SqT K H b ys ∧ xs.length + ys.length ≤ sizeLine ∧
  (xs = [] → Q y H) ∧ (xs ≠ [] → ys = [] → Q x H) ∧ (xs ≠ [] → ys ≠ [] → NewT H (xs ++ ys) Q)
theorem op_catB : OpR X (binaryOp .Add) (rCatB X.K) := fun pins s σ H x y v u Q I rx ry ⟨a, b, xs, ys, ex, ey, ha, hb, hz, q0, q1, q2⟩ => by
  subst ex ey
  have ev : v = .ref a := rx
  have eu : u = .ref b := ry
  subst ev eu
  obtain ⟨i1, r1, p1, _⟩ := I.tuple ha
  obtain ⟨i2, r2, p2, _⟩ := I.tuple hb
  have n1 := r1.nil_iff
  have n2 := r2.nil_iff
  by_cases hx : xs = []
  · have : i1 = [] := n1.mpr hx
    subst this
    exact cat_tup0 p1 p2 ⟨.ref b, H, I, rfl, q0 hx⟩
  · have l1 := r1.length
    have l2 := r2.length
    refine HT.cat_tup p1 p2 (fun z => hx (n1.mp z)) (fun z => ⟨.ref a, H, I, rfl, q1 hx (n2.mp z)⟩) (fun z => ?_) (by omega)
    exact newT_end I rfl (by rw [List.length_append]; omega) (r1.append r2) (q2 hx fun w => z (n2.mpr w))
/-- t[lo:hi] -/
def rSlB (K : PySem.W.Frag) : V → Option Int → Option Int → Hp → VK → Prop := fun x lo hi H Q => ∃ (a : Addr) (xs : List V), x = V.ref a ∧ SqT K H a xs ∧
  ((HT.sIx xs.length 0 lo = 0 ∧ HT.sIx xs.length xs.length hi = xs.length) → Q x H) ∧ (¬ (HT.sIx xs.length 0 lo = 0 ∧ HT.sIx xs.length xs.length hi = xs.length) → NewT H (cutV xs lo hi) Q)
theorem sl_tupB : SlR X (rSlB X.K) := fun pins s σ H x v vl vu lo hi sl Q I rx hs pl pu ⟨a, xs, ex, ha, q1, q2⟩ => by
  by_cases hw : HT.sIx xs.length 0 lo = 0 ∧ HT.sIx xs.length xs.length hi = xs.length
  · subst ex
    exact sl_tupA pins s σ H _ v vl vu lo hi sl Q I rx hs pl pu ⟨a, xs, rfl, ha, fun _ => q1 hw, fun n => absurd hw n⟩
  · subst ex
    have ev : v = .ref a := rx
    subst ev
    obtain ⟨its, r, p, z⟩ := I.tuple ha
    have hn : its.toArray.size = xs.length := by rw [List.size_toArray, r.length]
    refine ⟨"tuple", _, PyProof.Rows.slot_tuple_getitem.lookup, p.typeIs, HT.getItem_tuple_cut p hs pl pu (hn.symm ▸ hw) ?_ (hn.symm ▸ z)⟩
    rw [hn]
    exact newT_end I rfl (Nat.le_trans (cutV_length xs lo hi) z) ((r.drop _).take _) (q2 hw)
/-- tuple(x) -/
theorem call_tupleB : CallR X (.type "tuple") (fun xs H Q => ∃ (p : Addr) (ys : List V), xs = [V.ref p] ∧ ((SqL X.K H p ys ∧ NewT H ys Q) ∨ (SqT X.K H p ys ∧ Q (.ref p) H))) := fun pins s σ H xs us Q I r ⟨p, ys, ex, h⟩ => by
  rcases h with ⟨hq, q⟩ | h
  · subst ex
    obtain ⟨u, eu, ru⟩ := vals1 r
    have ev : u = .ref p := ru
    subst eu ev
    obtain ⟨its, rv, pl, hz⟩ := I.list hq
    have ln := rv.length
    exact call_tuple_list pl.isList (fun h' kp => newT_end (I.kept (t' := s.toks) kp) rfl hz rv q) (by rw [List.size_toArray]; omega)
  · exact call_tuple_of pins s σ H xs us Q I r ⟨p, ys, ex, .inr h⟩
/-- tuple(range(n)) -/
theorem pe_tupRgB {te : L2.St → Hp → (Int → Int → Hp → Prop) → Prop} {e : Expr} {p pos : Pos} (hc : X.calm = true) (hg : Gl X "tuple") (hm : X.mg "tuple" = none) (he : PRg X e te) (na : starEach [e] X.env = (false, eval e X.env) :: starEach [] X.env := by rfl) :
    PE X (.Call (.Name "tuple" p) [e] [] pos) (fun σ H Q => te σ H fun a b H1 => RgOk a b ∧ NewT H1 (rgV a b) Q) := ⟨fun pins s σ H Q I h => by
  refine Call_ (ld_blt I hg hm boot_tuple (PyProof.Rows.callWith_type1 (args_cons (thn (he pins s σ H _ I h) fun x s1 ⟨r, a, b, t, u, v, H1, ex, hr, I1, ok, q⟩ => args_nil ?_) na) na))
  obtain ⟨o1, o2, o3, o4, o5⟩ := ok
  have hlen := rgV_length a b
  have sz := sizeLine_eq
  subst ex
  exact call_tuple_range (n := (b - a).toNat) (I1.ok.hd hc) hr (small_one o1 o2 o3 o4) (rangeSize_nat a b) o5 fun h' tk acc hk hi =>
    newT_end (I1.kept (t' := tk) hk) (by rw [Array.toArray_toList]) (by omega) (vals_rg hi) q⟩
end
/-! ### t * k -/
def rRepB (K : PySem.W.Frag) : R2 := fun x y H Q => ∃ (l : Addr) (k : Int) (xs : List V), x = V.ref l ∧ y = V.int k ∧ SqT K H l xs ∧ xs ≠ [] ∧ 2 ≤ k ∧ k ≤ 1000 ∧ xs.length ≤ 1000 ∧ NewT H (List.replicate k.toNat xs).flatten Q
theorem rep_facts {α : Type} {its : List α} {k : Int} (hn : its ≠ []) (h1 : 2 ≤ k) (h2 : k ≤ 1000) (hz : its.length ≤ 1000) : (its.toArray.isEmpty || k == 1) = false ∧ (decide (k ≤ 0) || its.toArray.isEmpty) = false ∧
    ((its.toArray.size : Nat) : Int) * k ≤ 1000000 ∧ (List.replicate k.toNat its).flatten.length ≤ 1000000 ∧ (decide (k < -(2 ^ 63)) || decide (k ≥ 2 ^ 63)) = false := by
  have e : its.toArray.isEmpty = false := by
    cases its with
    | nil => exact absurd rfl hn
    | cons _ _ => rfl
  have nk : (k == 1) = false := beq_eq_false_iff_ne.mpr (by omega)
  have k0 : decide (k ≤ 0) = false := decide_eq_false (by omega)
  refine ⟨by rw [e, nk]; rfl, by rw [e, k0]; rfl, ?_, ?_, ?_⟩
  · have a : ((its.length : Nat) : Int) * k ≤ 1000 * 1000 := Int.mul_le_mul (by omega) h2 (by omega) (by omega)
    rw [List.size_toArray]
    omega
  · rw [PyProof.Rows.lm_len_rep_flat]
    have a : k.toNat * its.length ≤ 1000 * 1000 := Nat.mul_le_mul (by omega) hz
    omega
  · have a : decide (k < -(2 ^ 63)) = false := decide_eq_false (by omega)
    have b : decide (k ≥ 2 ^ 63) = false := decide_eq_false (by omega)
    rw [a, b]
    rfl
theorem op_repB {X : Cx} : OpR X (binaryOp .Mult) (rRepB X.K) := fun pins s σ H x y v u Q I rx ry ⟨l, k, xs, ex, ey, hT, hne, h1, h2, hz, q⟩ => by
  subst ex ey
  have ev : v = .ref l := rx
  subst ev
  obtain ⟨t, rfl⟩ := ry
  obtain ⟨its, r, ⟨⟨cls, dd, data, sl⟩, ho, hc, n, hd⟩, hs⟩ := I.tuple hT
  dsimp only at hc hd
  subst hc hd
  have ln := r.length
  have hi : its ≠ [] := fun e => hne (by
    subst e
    cases r
    rfl)
  obtain ⟨c1, c2, c3, c4, c5⟩ := rep_facts hi h1 h2 (by omega)
  have sz := sizeLine_eq
  have few : Builtin.Tuple.tupleTooMany (((its.toArray.size : Nat) : Int) * k) = false := decide_eq_false (by omega)
  have mul := tuple_mulW l its.toArray n dd sl k t c5 c1 c2 (by omega) few (by rw [size_rep, List.size_toArray]; omega)
  refine wpAny_binaryOp_repeat_ref (T := "tuple") (U := "int") (by decide) ⟨_, ho, rfl⟩ (fun s' => PySem.typeIs_int s' k t) noFill_tuple_mul PySem.F.fills_int_mul PySem.F.slot_int_rmul repeat_tuple PySem.F.slot_int_index.lookup
    (call_meets PySem.F.slot_int_rmul (PySem.typeIs_int s k t) PySem.F.entry_int_rmul (PySem.F.args_int_rmul_2 _ _) (int_rmul_tuple k t l its.toArray n dd sl)
      ⟨ho, rfl, ⟨_, ho, rfl⟩, call_meets PySem.F.slot_tuple_mul ⟨_, ho, rfl⟩ PySem.F.entry_tuple_mul (PySem.F.args_tuple_mul_2 _ _) mul ⟨ho, ?_⟩⟩)
  rw [size_rep]
  have lx : (List.replicate k.toNat xs).flatten.length = (List.replicate k.toNat its).flatten.length := by rw [PyProof.Rows.lm_len_rep_flat, PyProof.Rows.lm_len_rep_flat, ln]
  exact newT_end I rfl (by omega) (r.rep k.toNat) q
end D3

namespace L2
open PySem PySem.Spec PyProof.Rows
section
variable {X : Cx} {e : Expr} {es : List Expr} {t t' : TE}
theorem PE.imp (h : PE X e t) (q : ∀ σ H Q, t' σ H Q → t σ H Q) : PE X e t' := ⟨fun pins s σ H Q I w => h.run pins s σ H Q I (q σ H Q w)⟩
theorem PA.imp {t t' : TA} (h : PA X es t) (q : ∀ σ H Q, t' σ H Q → t σ H Q) : PA X es t' := ⟨fun p pins s σ H Q I w => h.run p pins s σ H Q I (q σ H Q w)⟩
theorem PT.imp {t t' : TT} (h : PT X e t) (q : ∀ σ H Q, t' σ H Q → t σ H Q) : PT X e t' := ⟨fun pins s σ H Q I w => h.run pins s σ H Q I (q σ H Q w)⟩
theorem PW.imp {t t' : TT} (h : PW X e t) (q : ∀ σ H Q, t' σ H Q → t σ H Q) : PW X e t' := ⟨fun wh pins s σ H Q I w => h.run wh pins s σ H Q I (q σ H Q w)⟩
theorem PS.imp {st : Stmt} {t t' : TS} (h : PS X st t) (q : ∀ D σ H, t' D σ H → t D σ H) : PS X st t' := ⟨fun pins s σ H D I w => h.run pins s σ H D I (q D σ H w)⟩
theorem PSs.imp {st : List Stmt} {t t' : TS} (h : PSs X st t) (q : ∀ D σ H, t' D σ H → t D σ H) : PSs X st t' := ⟨fun pins s σ H D I w => h.run pins s σ H D I (q D σ H w)⟩
end

end L2
namespace D3
open PySem PySem.Spec PyProof.Rows L2

/-! ### what a piece of the text does to data -/
/-- an exception: its class's name, its fields -/
structure XV where
  cls : Str
  fs : List (Str × PyData)
inductive Rs (α : Type) where
  | ok (a : α) (ρ : Ev)
  | ex (x : XV) (ρ : Ev)
abbrev M (α : Type) := Ev → Option (Rs α)
section
variable {α β : Type}
def ret (a : α) : M α := fun ρ => some (.ok a ρ)
def bnd (f : M α) (g : α → M β) : M β := fun ρ => match f ρ with
  | some (.ok a ρ') => g a ρ'
  | some (.ex x ρ') => some (.ex x ρ')
  | none => none
def lft (o : Option α) : M α := fun ρ => match o with
  | some a => some (.ok a ρ)
  | none => none
/-- of a call's result -/
def lfx (o : Option (Except XV α)) : M α := fun ρ => match o with
  | some (.ok a) => some (.ok a ρ)
  | some (.error x) => some (.ex x ρ)
  | none => none
end

/-- how an exception lies in the heap -/
def XOk (K : PySem.W.Frag) (mg : Str → Option Value) (F : Hp) (x : XV) (c : Value) (d : Option Addr) : Prop :=
  ∃ C, mg x.cls = some (.ref C) ∧ c = .ref C ∧ (x.fs = [] ∨ ∃ da vs, d = some da ∧ F da = some (.xd vs) ∧ ∀ f e, x.fs.lookup f = some e → ∃ v, vs.lookup f = some v ∧ Dp K F v e)
theorem XOk.up {K : PySem.W.Frag} {mg : Str → Option Value} {F F' : Hp} {x : XV} {c : Value} {d : Option Addr} (h : XOk K mg F x c d) (s : Same F F') : XOk K mg F' x c d := by
  obtain ⟨C, h1, h2, h3⟩ := h
  refine ⟨C, h1, h2, h3.imp id ?_⟩
  rintro ⟨da, vs, e1, e2, e3⟩
  exact ⟨da, vs, e1, s _ _ e2, fun f e h => let ⟨v, q1, q2⟩ := e3 f e h; ⟨v, q1, dp_up s q2⟩⟩

/-- a relation of what the machine has and what the data are -/
abbrev RelD (β α : Type) := Bs → L2.St → Ev → Hp → Hp → β → α → Prop
section
variable {α α' β β' : Type} (K : PySem.W.Frag) (mg : Str → Option Value) (W : WX)
def tA (R : RelD β α) (B : Bs) (σ : L2.St) (ρ : Ev) (F : Hp) (f : M α) (Q : β → Hp → Prop) : Prop := ∃ r, f ρ = some r ∧
  (∀ a ρ', r = .ok a ρ' → ∀ b F' H', Same F F' → SI K B σ ρ' F' H' → R B σ ρ' F' H' b a → Q b H') ∧
  (∀ x ρ', r = .ex x ρ' → ∀ c d F' H', Same F F' → SI K B σ ρ' F' H' → XOk K mg F' x c d → W c d σ H')
def tR (R : RelD β α) (f : M α) : L2.St → Hp → (β → Hp → Prop) → Prop := fun σ H Q => ∃ B ρ F, SI K B σ ρ F H ∧ tA K mg W R B σ ρ F f Q
end
section
variable {α α' β β' : Type} {K : PySem.W.Frag} {mg : Str → Option Value} {W : WX} {B : Bs} {σ : L2.St} {ρ ρ' : Ev} {F F' H H' : Hp} {R : RelD β α} {R' : RelD β' α'}
theorem tA.up {f : M α} {Q : β → Hp → Prop} (h : tA K mg W R B σ ρ F f Q) (s : Same F F') : tA K mg W R B σ ρ F' f Q := by
  obtain ⟨r, e, h1, h2⟩ := h
  exact ⟨r, e, fun a ρ' q b F2 H2 s2 => h1 a ρ' q b F2 H2 (s.trans s2), fun x ρ' q c d F2 H2 s2 => h2 x ρ' q c d F2 H2 (s.trans s2)⟩
theorem tA.bind {f : M α} {g : α → M α'} {Q : β' → Hp → Prop} {P : β → Hp → Prop} (h : tA K mg W R' B σ ρ F (bnd f g) Q)
    (k : ∀ a ρ1 b F1 H1, Same F F1 → SI K B σ ρ1 F1 H1 → R B σ ρ1 F1 H1 b a → tA K mg W R' B σ ρ1 F1 (g a) Q → P b H1) : tA K mg W R B σ ρ F f P := by
  obtain ⟨r, e, h1, h2⟩ := h
  unfold bnd at e
  cases ef : f ρ with
  | none => rw [ef] at e; cases e
  | some r1 =>
    rw [ef] at e
    cases r1 with
    | ok a ρ1 =>
      refine ⟨_, ef, fun a' ρ' q b F1 H1 s1 I1 r1 => ?_, fun x ρ' q => (by cases q)⟩
      cases q
      exact k a ρ1 b F1 H1 s1 I1 r1 ⟨r, e, fun a2 ρ2 q b F2 H2 s2 => h1 a2 ρ2 q b F2 H2 (s1.trans s2), fun x ρ2 q c d F2 H2 s2 => h2 x ρ2 q c d F2 H2 (s1.trans s2)⟩
    | ex x ρ1 =>
      cases e
      refine ⟨_, ef, fun a' ρ' q => (by cases q), fun x' ρ' q c d F1 H1 s1 I1 xo => ?_⟩
      cases q
      exact h2 x ρ1 rfl c d F1 H1 s1 I1 xo
theorem tA.ret {a : α} {Q : β → Hp → Prop} (h : tA K mg W R B σ ρ F (ret a) Q) {b : β} (s : Same F F') (I : SI K B σ ρ F' H') (r : R B σ ρ F' H' b a) : Q b H' := by
  obtain ⟨r', e, h1, _⟩ := h
  cases e
  exact h1 a ρ rfl b F' H' s I r
theorem tA.lft {o : Option α} {Q : β → Hp → Prop} (h : tA K mg W R B σ ρ F (lft o) Q) : ∃ a, o = some a ∧ ∀ b F' H', Same F F' → SI K B σ ρ F' H' → R B σ ρ F' H' b a → Q b H' := by
  obtain ⟨r', e, h1, _⟩ := h
  cases o with
  | none => cases e
  | some a => cases e; exact ⟨a, rfl, fun b F' H' s I r => h1 a ρ rfl b F' H' s I r⟩
end

def rD (K : PySem.W.Frag) : RelD V PyData := fun _ _ _ F _ v d => Dp K F v d
def rDs (K : PySem.W.Frag) : RelD (List V) (List PyData) := fun _ _ _ F _ v d => DpAll K F v d
def rB : RelD Bool Bool := fun _ _ _ _ _ b c => b = c
/-- a list of one's own -/
def rL (K : PySem.W.Frag) : RelD V (List PyData) := fun B σ ρ F H v ds => ∃ a, v = .ref a ∧ Fresh K B σ ρ F H a ds
def rO (K : PySem.W.Frag) : RelD (Option Int) (Option Int) := fun _ _ _ _ _ b c => b = c

abbrev EV (X : Cx) (W : WX) (e : Expr) (f : M PyData) : Prop := PE X e (tR X.K X.mg W (rD X.K) f)
abbrev EL (X : Cx) (W : WX) (e : Expr) (f : M (List PyData)) : Prop := PE X e (tR X.K X.mg W (rL X.K) f)
abbrev AV (X : Cx) (W : WX) (es : List Expr) (f : M (List PyData)) : Prop := PA X es (tR X.K X.mg W (rDs X.K) f)
abbrev TV (X : Cx) (W : WX) (e : Expr) (f : M Bool) : Prop := PT X e (tR X.K X.mg W rB f)

/-! ### results that hang on data alone -/
/-- what follows with a value that is d, whatever is laid for it -/
def PR (K : PySem.W.Frag) (F H : Hp) (d : PyData) (Q : VK) : Prop := ∀ v F' H', Same F F' → Sb F' H' → Same H H' → (∀ a o, F' a = some o → F a = none → H a = none) → Dp K F' v d → Q v H'
/-- .. with a list of one's own -/
def PL (K : PySem.W.Frag) (F H : Hp) (ds : List PyData) (Q : VK) : Prop := ∀ a vs F' H', Same F F' → Sb F' H' → Same H H' → (∀ a o, F' a = some o → F a = none → H a = none) → H a = none → F' a = none → H' a = some (.lst vs) → DpAll K F' vs ds → Q (.ref a) H'
section
variable {K : PySem.W.Frag} {F H : Hp} {Q : VK}
theorem PR.here {d : PyData} (h : PR K F H d Q) (s : Sb F H) {v : V} (r : Dp K F v d) : Q v H := h v F H (Same.refl _) s (Same.refl _) (fun a o e e0 => by rw [e0] at e; cases e) r
theorem PR.put {d : PyData} (h : PR K F H d Q) (s : Sb F H) {p : Addr} {o : HO} (hp : H p = none) (hbu : BareU o) (r : Dp K (upd F p o) (.ref p) d) : Q (.ref p) (upd H p o) := by
  have hF := s.free hp
  refine h _ _ _ (same_new hF) (s.put hp hbu) (same_new hp) (fun a x e e0 => ?_) r
  · by_cases hb : a = p
    · subst hb; exact hp
    · rw [upd_ne hb, e0] at e; cases e
theorem PR.tup {ds : List PyData} (h : PR K F H (.tuple ds) Q) (s : Sb F H) {vs : List V} (r : DpAll K F vs ds) : NewT H vs Q := fun p o hp hd =>
  h.put s hp hd (.tup sqt_frz (dps_up (same_new (s.free hp)) r))
theorem PL.put {ds : List PyData} (h : PL K F H ds Q) (s : Sb F H) {p : Addr} {vs : List V} (hp : H p = none) (r : DpAll K F vs ds) : Q (.ref p) (upd H p (.lst vs)) :=
  h p vs F _ (Same.refl _) (s.trans (same_new hp)) (same_new hp) (fun a o e e0 => by rw [e0] at e; cases e) hp (s.free hp) upd_same r
/-- a list that is one's own may stay -/
theorem PL.of {ds : List PyData} (h : PR K F H (.list ds) Q) : PL K F H ds Q := fun a vs F' H' s1 s2 s3 nw hp hF hl r => by
  have sF : Same F' (upd F' a (.lst vs)) := same_new hF
  refine h _ (upd F' a (.lst vs)) H' (s1.trans sF) (s2.lst hl) s3 (fun b o e e0 => ?_) (.lst (SqL.of upd_same) (dps_up sF r))
  · by_cases hb : b = a
    · subst hb; exact hp
    · rw [upd_ne hb] at e; exact nw b o e e0
end
section
variable {K : PySem.W.Frag} {mg : Str → Option Value} {W : WX} {B : Bs} {σ : L2.St} {ρ : Ev} {F H : Hp} {Q : VK}
theorem SI.pr {d : PyData} (I : SI K B σ ρ F H) (h : ∀ b F' H', Same F F' → SI K B σ ρ F' H' → Dp K F' b d → Q b H') : PR K F H d Q := fun v F' H' s1 s2 s3 nw r => h v F' H' s1 (I.grow s1 s2 s3 nw) r
theorem SI.pl {ds : List PyData} (I : SI K B σ ρ F H) (h : ∀ b F' H', Same F F' → SI K B σ ρ F' H' → rL K B σ ρ F' H' b ds → Q b H') : PL K F H ds Q := fun a vs F' H' s1 s2 s3 nw hp hF hl r => by
  refine h _ F' H' s1 (I.grow s1 s2 s3 nw) ⟨a, rfl, ⟨⟨vs, hl, r⟩, hF, I.noN hp, fun i s e o es => ?_⟩⟩
  obtain ⟨_, ws, h2⟩ := I.ownF e o es
  rw [hp] at h2; cases h2
end

/-! ### data, or a list of one's own that is looked at -/
def Bo (K : PySem.W.Frag) (F H : Hp) (v : V) (d : PyData) : Prop := Dp K F v d ∨ ∃ a vs ds, v = .ref a ∧ d = .list ds ∧ H a = some (.lst vs) ∧ DpAll K F vs ds
theorem Bo.of {K : PySem.W.Frag} {F H : Hp} {v : V} {d : PyData} (h : Dp K F v d) : Bo K F H v d := .inl h
section
variable {K : PySem.W.Frag} {F H : Hp} {v : V}
theorem Bo.non (h : Bo K F H v .none) : v = .non := by
  rcases h with h | ⟨a, vs, ds, _, e, _⟩
  · cases h; rfl
  · cases e
theorem Bo.bl {b : Bool} (h : Bo K F H v (.bool b)) : v = .bl b := by
  rcases h with h | ⟨a, vs, ds, _, e, _⟩
  · cases h; rfl
  · cases e
theorem Bo.int {i : Int} (h : Bo K F H v (.int i)) : v = .int i := by
  rcases h with h | ⟨a, vs, ds, _, e, _⟩
  · cases h; rfl
  · cases e
theorem Bo.str {x : Str} (h : Bo K F H v (.str x)) : v = .str x := by
  rcases h with h | ⟨a, vs, ds, _, e, _⟩
  · cases h; rfl
  · cases e
theorem Bo.list {ds : List PyData} (h : Bo K F H v (.list ds)) (s : Sb F H) : ∃ a vs, v = .ref a ∧ SqL K H a vs ∧ DpAll K F vs ds := by
  rcases h with h | ⟨a, vs, es, e1, e, h1, h2⟩
  · cases h with
    | lst h1 h2 => exact ⟨_, _, rfl, s.seq h1, h2⟩
  · cases e; exact ⟨a, vs, e1, SqL.of h1, h2⟩
theorem Bo.tup {ds : List PyData} (h : Bo K F H v (.tuple ds)) (s : Sb F H) : ∃ a vs, v = .ref a ∧ SqT K H a vs ∧ DpAll K F vs ds := by
  rcases h with h | ⟨a, vs, es, e1, e, h1, h2⟩
  · cases h with
    | tup h1 h2 => exact ⟨_, _, rfl, sqt_up s h1, h2⟩
  · cases e
theorem Bo.dict {ds : List (PyData × PyData)} (h : Bo K F H v (.dict ds)) : False := by
  rcases h with h | ⟨a, vs, es, e1, e, h1, h2⟩
  · cases h
  · cases e
theorem Bo.dp {d : PyData} (h : Bo K F H v d) (s : Sb F H) : Dp K H v d := by
  rcases h with h | ⟨a, vs, ds, rfl, rfl, h1, h2⟩
  · exact dp_up s h
  · exact .lst (SqL.of h1) (dps_up s h2)
end
abbrev BoAll (K : PySem.W.Frag) (F H : Hp) : List V → List PyData → Prop := Paired (Bo K F H)
theorem bos_of {K : PySem.W.Frag} {F H : Hp} : ∀ {vs : List V} {ds : List PyData}, DpAll K F vs ds → BoAll K F H vs ds
  | _, _, .nil => .nil
  | _, _, .cons h t => .cons (.inl h) (bos_of t)
def rBo (K : PySem.W.Frag) : RelD V PyData := fun _ _ _ F H v d => Bo K F H v d
def rBos (K : PySem.W.Frag) : RelD (List V) (List PyData) := fun _ _ _ F H v d => BoAll K F H v d
abbrev EB (X : Cx) (W : WX) (e : Expr) (f : M PyData) : Prop := PE X e (tR X.K X.mg W (rBo X.K) f)
abbrev AB (X : Cx) (W : WX) (es : List Expr) (f : M (List PyData)) : Prop := PA X es (tR X.K X.mg W (rBos X.K) f)

/-- an operation on two data -/
def OpD (X : Cx) (f : Value → Value → Sem Value) (g : PyData → PyData → Option PyData) : Prop := OpR X f fun v u H Q => ∃ F x y d, Sb F H ∧ Bo X.K F H v x ∧ Bo X.K F H u y ∧ g x y = some d ∧ PR X.K F H d Q
def OpL (X : Cx) (f : Value → Value → Sem Value) (g : PyData → PyData → Option (List PyData)) : Prop := OpR X f fun v u H Q => ∃ F x y d, Sb F H ∧ Bo X.K F H v x ∧ Bo X.K F H u y ∧ g x y = some d ∧ PL X.K F H d Q
def UnD (X : Cx) (f : Value → Sem Value) (g : PyData → Option PyData) : Prop := UnR X f fun v H Q => ∃ F x d, Sb F H ∧ Bo X.K F H v x ∧ g x = some d ∧ PR X.K F H d Q
def IxD (X : Cx) (g : PyData → PyData → Option PyData) : Prop := IxR X fun v u H Q => ∃ F x y d, Sb F H ∧ Bo X.K F H v x ∧ Bo X.K F H u y ∧ g x y = some d ∧ PR X.K F H d Q
/-- a call of a built-in on data -/
def CallDa (X : Cx) (f : Value) (g : List PyData → Option PyData) : Prop := CallR X f fun vs H Q => ∃ F ds d, Sb F H ∧ BoAll X.K F H vs ds ∧ g ds = some d ∧ PR X.K F H d Q
def CallL (X : Cx) (f : Value) (g : List PyData → Option (List PyData)) : Prop := CallR X f fun vs H Q => ∃ F ds d, Sb F H ∧ BoAll X.K F H vs ds ∧ g ds = some d ∧ PL X.K F H d Q
theorem OpL.d {X : Cx} {f : Value → Value → Sem Value} {g : PyData → PyData → Option (List PyData)} (h : OpL X f g) : OpD X f fun x y => (g x y).map .list := by
  intro pins s σ H x y v u Q I rx ry ⟨F, d, e, r, sF, h1, h2, h3, h4⟩
  dsimp only at h3
  cases q : g d e with
  | none => rw [q] at h3; cases h3
  | some l => rw [q] at h3; cases h3; exact h pins s σ H x y v u Q I rx ry ⟨F, d, e, l, sF, h1, h2, q, PL.of h4⟩
theorem CallL.d {X : Cx} {f : Value} {g : List PyData → Option (List PyData)} (h : CallL X f g) : CallDa X f fun ds => (g ds).map .list := by
  intro pins s σ H vs us Q I r ⟨F, ds, e, sF, h1, h2, h3⟩
  dsimp only at h2
  cases q : g ds with
  | none => rw [q] at h2; cases h2
  | some es => rw [q] at h2; cases h2; exact h pins s σ H vs us Q I r ⟨F, ds, es, sF, h1, q, PL.of h3⟩
def orF {α β : Type} (g g' : α → Option β) : α → Option β := fun x => match g x with
  | some d => some d
  | none => g' x
def orF2 {α α' β : Type} (g g' : α → α' → Option β) : α → α' → Option β := fun x y => match g x y with
  | some d => some d
  | none => g' x y
/-- the sum of two rules of an operation -/
theorem OpD.or {X : Cx} {f : Value → Value → Sem Value} {g g' : PyData → PyData → Option PyData} (h : OpD X f g) (h' : OpD X f g') : OpD X f (orF2 g g') := by
  intro pins s σ H x y v u Q I rx ry ⟨F, d, e, r, sF, h1, h2, h3, h4⟩
  unfold orF2 at h3
  cases q : g d e with
  | none => simp only [q] at h3; exact h' pins s σ H x y v u Q I rx ry ⟨F, d, e, r, sF, h1, h2, h3, h4⟩
  | some ds => simp only [q] at h3; cases h3; exact h pins s σ H x y v u Q I rx ry ⟨F, d, e, r, sF, h1, h2, q, h4⟩
theorem CallDa.or {X : Cx} {f : Value} {g g' : List PyData → Option PyData} (h : CallDa X f g) (h' : CallDa X f g') : CallDa X f (orF g g') := by
  intro pins s σ H vs us Q I rx ⟨F, d, r, sF, h1, h3, h4⟩
  unfold orF at h3
  cases q : g d with
  | none => simp only [q] at h3; exact h' pins s σ H vs us Q I rx ⟨F, d, r, sF, h1, h3, h4⟩
  | some ds => simp only [q] at h3; cases h3; exact h pins s σ H vs us Q I rx ⟨F, d, r, sF, h1, q, h4⟩

/-! ### expressions -/
section
variable {X : Cx} {W : WX} {a b c e : Expr} {es : List Expr} {f g h : M PyData} {fl gl : M (List PyData)} {ft gt : M Bool} {pos : Pos}

def eFrz (f : M (List PyData)) : M PyData := bnd f fun ds => ret (.list ds)
theorem ev_frz (h : EL X W e fl) : EV X W e (eFrz fl) := h.imp fun σ H Q ⟨B, ρ, F, I, q⟩ => ⟨B, ρ, F, I, q.bind fun ds ρ1 v F1 H1 s1 I1 r1 q1 => by
  obtain ⟨p, rfl, fr⟩ := r1
  obtain ⟨F2, s2, I2, r2⟩ := I1.freeze fr
  exact q1.ret s2 I2 r2⟩
def eC (d : PyData) : M PyData := ret d
theorem ev_int {i : Int} {j} : EV X W (.Constant (.int i) j pos) (eC (.int i)) := pe_int.imp fun σ H Q ⟨B, ρ, F, I, q⟩ => q.ret (Same.refl _) I (.int i)
theorem ev_bl {i : Bool} {j} : EV X W (.Constant (.bool i) j pos) (eC (.bool i)) := pe_bl.imp fun σ H Q ⟨B, ρ, F, I, q⟩ => q.ret (Same.refl _) I (.bl i)
theorem ev_str {i : Str} {j} : EV X W (.Constant (.str i) j pos) (eC (.str i)) := pe_str.imp fun σ H Q ⟨B, ρ, F, I, q⟩ => q.ret (Same.refl _) I (.str i)
theorem ev_non {j} : EV X W (.Constant .none j pos) (eC .none) := pe_non.imp fun σ H Q ⟨B, ρ, F, I, q⟩ => q.ret (Same.refl _) I .non

/-- a name's data: a list of one's own stays from now on -/
def eVar (i : Nat) : M PyData := fun ρ => match ρ[i]? with
  | some (.val d) => some (.ok d ρ)
  | some (.own ds) => some (.ok (.list ds) (ρ.set i (.val (.list ds))))
  | _ => none
/-- .. borrowed: it is looked at, and goes no further -/
def look (ρ : Ev) (i : Nat) : Option PyData := match ρ[i]? with
  | some (.val d) => some d
  | some (.own ds) => some (.list ds)
  | some (.io ds) => some (.list ds)
  | _ => none
def eLook (i : Nat) : M PyData := fun ρ => lft (look ρ i) ρ
end
theorem SI.frzSlot {K : PySem.W.Frag} {B : Bs} {σ : L2.St} {ρ : Ev} {F H : Hp} (I : SI K B σ ρ F H) {i : Nat} {ds : List PyData} (e : ρ[i]? = some (.own ds)) :
    ∃ F' a, Same F F' ∧ σ[i]? = some (some (.ref a)) ∧ SI K B σ (ρ.set i (.val (.list ds))) F' H ∧ Dp K F' (.ref a) (.list ds) := by
  obtain ⟨a, vs, es, h1, h2, h3, h4⟩ := I.slot i _ e
  have hi : i < ρ.length := (List.getElem?_eq_some_iff.mp e).1
  have eσ : σ.set i (some (.ref a)) = σ := by
    obtain ⟨hl, ei⟩ := List.getElem?_eq_some_iff.mp es
    rw [← ei, List.set_getElem_self]
  have I' : SI K B σ (ρ.set i .nil) F H := by
    have := I.set (i := i) (v := .ref a) (s := .nil) trivial fun o => by cases o
    rwa [eσ] at this
  have fr : Fresh K B σ (ρ.set i .nil) F H a ds := ⟨⟨vs, h1, h4⟩, h2, h3, fun j s ej os esj => by
    by_cases hj : i = j
    · subst hj
      rw [List.getElem?_set_self hi] at ej
      cases ej; cases os
    · rw [List.getElem?_set_ne hj] at ej
      exact hj (I.sep i j _ s a e ej rfl os es esj)⟩
  obtain ⟨F2, s2, I2, r2⟩ := I'.freeze fr
  refine ⟨F2, a, s2, es, ?_, r2⟩
  have := I2.setV (i := i) r2
  rwa [eσ, List.set_set] at this
theorem SI.look {K : PySem.W.Frag} {B : Bs} {σ : L2.St} {ρ : Ev} {F H : Hp} (I : SI K B σ ρ F H) {i : Nat} {d : PyData} (e : look ρ i = some d) : ∃ v, σ[i]? = some (some v) ∧ Bo K F H v d := by
  unfold D3.look at e
  cases es : ρ[i]? with
  | none => rw [es] at e; cases e
  | some s =>
    rw [es] at e
    have h := I.slot i s es
    cases s with
    | nil => cases e
    | val d' => cases e; obtain ⟨v, e1, e2⟩ := h; exact ⟨v, e1, .inl e2⟩
    | own ds => cases e; obtain ⟨a, vs, e1, h1, h2, h3, h4⟩ := h; exact ⟨_, e1, .inr ⟨a, vs, ds, rfl, rfl, h1, h4⟩⟩
    | io ds => cases e; obtain ⟨a, vs, e1, h1, h2, h3, h4⟩ := h; exact ⟨_, e1, .inr ⟨a, vs, ds, rfl, rfl, h1, h4⟩⟩
    | ob o => cases e
section
variable {X : Cx} {W : WX} {a b c e : Expr} {es : List Expr} {f g h : M PyData} {fl gl : M (List PyData)} {ft gt : M Bool} {pos : Pos}
theorem ev_var (i : Nat) {x : Str} (hN : X.N[i]? = some x := by rfl) (hv : Vis X.env.scope x := by first | exact Or.inl rfl | exact Or.inr (Or.inl rfl) | exact Or.inr (Or.inr rfl)) (hd : (x == ("__debug__" : Str)) = false := by decide)
    (hcd : (x == ("__classdict__" : Str)) = false := by decide) : EV X W (.Name x pos) (eVar i) := (pe_var hN hv hd hcd).imp fun σ H Q ⟨B, ρ, F, I, r, er, q, _⟩ => by
  unfold eVar at er
  cases e : ρ[i]? with
  | none => rw [e] at er; cases er
  | some s =>
    rw [e] at er
    cases s with
    | nil => cases er
    | io ds => cases er
    | ob o => cases er
    | val d =>
      cases er
      obtain ⟨v, e1, e2⟩ := I.slot i _ e
      exact ⟨v, e1, q _ _ rfl v F H (Same.refl _) I e2⟩
    | own ds =>
      cases er
      obtain ⟨F', p, s1, e1, I1, r1⟩ := I.frzSlot e
      exact ⟨.ref p, e1, q _ _ rfl _ F' H s1 I1 r1⟩
theorem eb_var (i : Nat) {x : Str} (hN : X.N[i]? = some x := by rfl) (hv : Vis X.env.scope x := by first | exact Or.inl rfl | exact Or.inr (Or.inl rfl) | exact Or.inr (Or.inr rfl)) (hd : (x == ("__debug__" : Str)) = false := by decide)
    (hcd : (x == ("__classdict__" : Str)) = false := by decide) : EB X W (.Name x pos) (eLook i) := (pe_var hN hv hd hcd).imp fun σ H Q ⟨B, ρ, F, I, q⟩ => by
  have q' : tA X.K X.mg W (rBo X.K) B σ ρ F (lft (look ρ i)) Q := q
  obtain ⟨d, e, q1⟩ := q'.lft
  obtain ⟨v, e1, e2⟩ := I.look e
  exact ⟨v, e1, q1 v F H (Same.refl _) I e2⟩
theorem eb_of (h : EV X W e f) : EB X W e f := h.imp fun σ H Q ⟨B, ρ, F, I, r, er, q1, q2⟩ => ⟨B, ρ, F, I, r, er, fun a ρ' e v F' H' s1 I1 r1 => q1 a ρ' e v F' H' s1 I1 (.inl r1), q2⟩
def aNil : M (List PyData) := ret []
def aCons (f : M PyData) (g : M (List PyData)) : M (List PyData) := bnd f fun d => bnd g fun ds => ret (d :: ds)
theorem av_nil : AV X W [] aNil := pa_nil.imp fun σ H Q ⟨B, ρ, F, I, q⟩ => q.ret (Same.refl _) I .nil
theorem av_cons (he : EV X W e f) (hes : AV X W es fl) (hs : starEach (e :: es) X.env = (false, eval e X.env) :: starEach es X.env := by rfl) : AV X W (e :: es) (aCons f fl) := (pa_cons he hes hs).imp fun σ H Q ⟨B, ρ, F, I, q⟩ =>
  ⟨B, ρ, F, I, q.bind fun d ρ1 v F1 H1 s1 I1 r1 q1 => ⟨B, ρ1, F1, I1, q1.bind fun ds ρ2 vs F2 H2 s2 I2 r2 q2 => q2.ret (Same.refl _) I2 (.cons (dp_up s2 r1) r2)⟩⟩
theorem ab_of (h : AV X W es fl) : AB X W es fl := h.imp fun σ H Q ⟨B, ρ, F, I, r, er, q1, q2⟩ => ⟨B, ρ, F, I, r, er, fun a ρ' e v F' H' s1 I1 r1 => q1 a ρ' e v F' H' s1 I1 (bos_of r1), q2⟩
/-- a single argument that is looked at -/
def aOne (f : M PyData) : M (List PyData) := bnd f fun d => ret [d]
theorem ab_one (he : EB X W e f) (hs : starEach [e] X.env = [(false, eval e X.env)] := by rfl) : AB X W [e] (aOne f) := (pa_cons he pa_nil hs).imp fun σ H Q ⟨B, ρ, F, I, q⟩ =>
  ⟨B, ρ, F, I, q.bind fun d ρ1 v F1 H1 s1 I1 r1 q1 => q1.ret (Same.refl _) I1 (.cons r1 .nil)⟩
end
end D3

namespace D3
open PySem PySem.Spec PyProof.Rows L2

/-! ### operations -/
def addD : PyData → PyData → Option PyData
  | .int i, .int j => some (.int (i + j))
  | .str x, .str y => if x.length + y.length ≤ sizeLine then some (.str (x ++ y)) else none
  | .tuple xs, .tuple ys => if xs.length + ys.length ≤ sizeLine then some (.tuple (xs ++ ys)) else none
  | _, _ => none
def catD : PyData → PyData → Option (List PyData)
  | .list xs, .list ys => if xs.length + ys.length ≤ sizeLine then some (xs ++ ys) else none
  | _, _ => none
def subD : PyData → PyData → Option PyData
  | .int i, .int j => some (.int (i - j))
  | _, _ => none
def sm64 (i : Int) : Bool := decide (-(2 ^ 64) < i) && decide (i < 2 ^ 64)
def mulD : PyData → PyData → Option PyData
  | .int i, .int j => if sm64 i || sm64 j then some (.int (i * j)) else none
  | _, _ => none
def repD : PyData → PyData → Option (List PyData)
  | .list xs, .int k => if decide (-(2 ^ 63) ≤ k) && decide (k < 2 ^ 63) && decide (xs.length * k.toNat ≤ sizeLine) then some (List.replicate k.toNat xs).flatten else none
  | _, _ => none
def fdivD : PyData → PyData → Option PyData
  | .int i, .int j => if decide (0 < j) && decide (j < 1073741824) then some (.int (i / j)) else none
  | _, _ => none
def modD : PyData → PyData → Option PyData
  | .int i, .int j => if decide (0 < j) then some (.int (i % j)) else none
  | _, _ => none
def negD : PyData → Option PyData
  | .int i => some (.int (-i))
  | _ => none
def cmpI (p : Int → Int → Bool) : PyData → PyData → Option PyData
  | .int i, .int j => some (.bool (p i j))
  | _, _ => none
def eqD (x y : PyData) : Option PyData := if SeqAt.shaped x && SeqAt.shaped y then some (.bool (PyData.eqv x y)) else none
def neD (x y : PyData) : Option PyData := if SeqAt.shaped x && SeqAt.shaped y then some (.bool (!PyData.eqv x y)) else none
def isNone : PyData → Bool
  | .none => true
  | _ => false
def isND (x y : PyData) : Option PyData := match y with
  | .none => some (.bool (isNone x))
  | _ => none
def notND (x y : PyData) : Option PyData := match y with
  | .none => some (.bool (!isNone x))
  | _ => none
def inD (x y : PyData) : Option PyData := match y with
  | .list ds => if SeqAt.shaped x && SeqAt.shaped (.list ds) then some (.bool (ds.any fun z => PyData.eqv z x)) else none
  | _ => none
def notInD (x y : PyData) : Option PyData := match y with
  | .list ds => if SeqAt.shaped x && SeqAt.shaped (.list ds) then some (.bool (!ds.any fun z => PyData.eqv z x)) else none
  | _ => none
def flatD : PyData → Bool
  | .none => true
  | .bool _ => true
  | .int _ => true
  | .str _ => true
  | _ => false
def inT (x y : PyData) : Option PyData := match y with
  | .tuple ds => if flatD x && ds.all flatD then some (.bool (ds.any fun z => PyData.eqv z x)) else none
  | _ => none
def notInT (x y : PyData) : Option PyData := match y with
  | .tuple ds => if flatD x && ds.all flatD then some (.bool (!ds.any fun z => PyData.eqv z x)) else none
  | _ => none

section
variable {X : Cx}
theorem opd_add : OpD X (binaryOp .Add) addD := by
  intro pins s σ H x y v u Q I rx ry ⟨F, d, e, r, sF, h1, h2, h3, h4⟩
  cases d <;> cases e <;> simp only [addD] at h3 <;> try (cases h3; done)
  · cases h3
    exact op_add pins s σ H x y v u Q I rx ry ⟨_, _, h1.int, h2.int, h4.here sF (.int _)⟩
  · split at h3
    · cases h3
      exact op_add_str pins s σ H x y v u Q I rx ry ⟨_, _, h1.str, h2.str, by assumption, h4.here sF (.str _)⟩
    · cases h3
  · split at h3
    · rename_i hz
      cases h3
      obtain ⟨a, vs, rfl, q1, r1⟩ := h1.tup sF
      obtain ⟨b, ws, rfl, q2, r2⟩ := h2.tup sF
      have l1 := dps_len r1
      have l2 := dps_len r2
      refine op_catB pins s σ H _ _ v u Q I rx ry ⟨a, b, vs, ws, rfl, rfl, q1, q2, by omega, fun e => ?_, fun _ e' => ?_, fun _ _ => h4.tup sF (dps_app r1 r2)⟩
      · subst e
        cases r1
        rcases h2 with h2 | ⟨_, _, _, _, z, _⟩
        · exact h4.here sF h2
        · cases z
      · subst e'
        cases r2
        rcases h1 with h1 | ⟨_, _, _, _, z, _⟩
        · rw [List.append_nil] at h4; exact h4.here sF h1
        · cases z
    · cases h3
theorem opd_sub : OpD X (binaryOp .Sub) subD := by
  intro pins s σ H x y v u Q I rx ry ⟨F, d, e, r, sF, h1, h2, h3, h4⟩
  cases d <;> cases e <;> simp only [subD] at h3 <;> try (cases h3; done)
  cases h3
  exact op_sub pins s σ H x y v u Q I rx ry ⟨_, _, h1.int, h2.int, h4.here sF (.int _)⟩
theorem opd_mul : OpD X (binaryOp .Mult) mulD := by
  intro pins s σ H x y v u Q I rx ry ⟨F, d, e, r, sF, h1, h2, h3, h4⟩
  cases d <;> cases e <;> simp only [mulD] at h3 <;> try (cases h3; done)
  split at h3
  · rename_i hz
    cases h3
    simp only [sm64, Bool.or_eq_true, Bool.and_eq_true, decide_eq_true_eq] at hz
    exact op_mul pins s σ H x y v u Q I rx ry ⟨_, _, h1.int, h2.int, hz, h4.here sF (.int _)⟩
  · cases h3
theorem opd_fdiv : OpD X (binaryOp .FloorDiv) fdivD := by
  intro pins s σ H x y v u Q I rx ry ⟨F, d, e, r, sF, h1, h2, h3, h4⟩
  cases d <;> cases e <;> simp only [fdivD] at h3 <;> try (cases h3; done)
  split at h3
  · rename_i hz
    cases h3
    simp only [Bool.and_eq_true, decide_eq_true_eq] at hz
    exact op_fdiv pins s σ H x y v u Q I rx ry ⟨_, _, h1.int, h2.int, hz, h4.here sF (.int _)⟩
  · cases h3
theorem opd_mod : OpD X (binaryOp .Mod) modD := by
  intro pins s σ H x y v u Q I rx ry ⟨F, d, e, r, sF, h1, h2, h3, h4⟩
  cases d <;> cases e <;> simp only [modD] at h3 <;> try (cases h3; done)
  split at h3
  · rename_i hz
    cases h3
    simp only [decide_eq_true_eq] at hz
    exact op_mod pins s σ H x y v u Q I rx ry ⟨_, _, h1.int, h2.int, hz, h4.here sF (.int _)⟩
  · cases h3
theorem und_neg : UnD X (unaryOp .USub) negD := by
  intro pins s σ H x v Q I rx ⟨F, d, r, sF, h1, h3, h4⟩
  cases d <;> simp only [negD] at h3 <;> try (cases h3; done)
  cases h3
  exact un_neg pins s σ H x v Q I rx ⟨_, h1.int, h4.here sF (.int _)⟩
theorem opd_lt : OpD X (compareOp .Lt) (cmpI fun i j => decide (i < j)) := by
  intro pins s σ H x y v u Q I rx ry ⟨F, d, e, r, sF, h1, h2, h3, h4⟩
  cases d <;> cases e <;> simp only [cmpI] at h3 <;> try (cases h3; done)
  cases h3
  exact op_lt pins s σ H x y v u Q I rx ry ⟨_, _, h1.int, h2.int, h4.here sF (.bl _)⟩
theorem opd_le : OpD X (compareOp .LtE) (cmpI fun i j => decide (i ≤ j)) := by
  intro pins s σ H x y v u Q I rx ry ⟨F, d, e, r, sF, h1, h2, h3, h4⟩
  cases d <;> cases e <;> simp only [cmpI] at h3 <;> try (cases h3; done)
  cases h3
  exact op_le pins s σ H x y v u Q I rx ry ⟨_, _, h1.int, h2.int, h4.here sF (.bl _)⟩
theorem opd_gt : OpD X (compareOp .Gt) (cmpI fun i j => decide (j < i)) := by
  intro pins s σ H x y v u Q I rx ry ⟨F, d, e, r, sF, h1, h2, h3, h4⟩
  cases d <;> cases e <;> simp only [cmpI] at h3 <;> try (cases h3; done)
  cases h3
  exact op_gt pins s σ H x y v u Q I rx ry ⟨_, _, h1.int, h2.int, h4.here sF (.bl _)⟩
theorem opd_ge : OpD X (compareOp .GtE) (cmpI fun i j => decide (j ≤ i)) := by
  intro pins s σ H x y v u Q I rx ry ⟨F, d, e, r, sF, h1, h2, h3, h4⟩
  cases d <;> cases e <;> simp only [cmpI] at h3 <;> try (cases h3; done)
  cases h3
  exact op_ge pins s σ H x y v u Q I rx ry ⟨_, _, h1.int, h2.int, h4.here sF (.bl _)⟩
theorem opd_eq (hu : X.A.units + 64 < cLine) : OpD X (compareOp .Eq) eqD := by
  intro pins s σ H x y v u Q I rx ry ⟨F, d, e, r, sF, h1, h2, h3, h4⟩
  unfold eqD at h3
  split at h3
  · rename_i hz
    cases h3
    rw [Bool.and_eq_true] at hz
    exact op_eqD hu pins s σ H x y v u Q I rx ry ⟨d, e, h1.dp sF, h2.dp sF, hz.1, hz.2, h4.here sF (.bl _)⟩
  · cases h3
theorem opd_ne (hu : X.A.units + 64 < cLine) : OpD X (compareOp .NotEq) neD := by
  intro pins s σ H x y v u Q I rx ry ⟨F, d, e, r, sF, h1, h2, h3, h4⟩
  unfold neD at h3
  split at h3
  · rename_i hz
    cases h3
    rw [Bool.and_eq_true] at hz
    exact op_neD hu pins s σ H x y v u Q I rx ry ⟨d, e, h1.dp sF, h2.dp sF, hz.1, hz.2, h4.here sF (.bl _)⟩
  · cases h3
theorem Bo.isN {K : PySem.W.Frag} {F H : Hp} {v : V} {d : PyData} (h : Bo K F H v d) : decide (v = V.non) = isNone d := by
  rcases h with h | ⟨a, vs, ds, rfl, rfl, _⟩
  · cases h <;> simp [isNone]
  · simp [isNone]
theorem opd_is : OpD X (compareOp .Is) isND := by
  intro pins s σ H x y v u Q I rx ry ⟨F, d, e, r, sF, h1, h2, h3, h4⟩
  cases e <;> simp only [isND] at h3 <;> try (cases h3; done)
  cases h3
  exact op_isN pins s σ H x y v u Q I rx ry ⟨h2.non, by rw [h1.isN]; exact h4.here sF (.bl _)⟩
theorem opd_isnot : OpD X (compareOp .IsNot) notND := by
  intro pins s σ H x y v u Q I rx ry ⟨F, d, e, r, sF, h1, h2, h3, h4⟩
  cases e <;> simp only [notND] at h3 <;> try (cases h3; done)
  cases h3
  exact op_notN pins s σ H x y v u Q I rx ry ⟨h2.non, by rw [h1.isN]; exact h4.here sF (.bl _)⟩
theorem opd_inL (hu : X.A.units + 65 < cLine) : OpD X (compareOp .In) inD := by
  intro pins s σ H x y v u Q I rx ry ⟨F, d, e, r, sF, h1, h2, h3, h4⟩
  cases e <;> simp only [inD] at h3 <;> try (cases h3; done)
  split at h3
  · rename_i hz
    cases h3
    rw [Bool.and_eq_true] at hz
    exact op_inD hu pins s σ H x y v u Q I rx ry ⟨d, _, h1.dp sF, h2.dp sF, hz.1, hz.2, h4.here sF (.bl _)⟩
  · cases h3
theorem opd_notInL (hu : X.A.units + 65 < cLine) : OpD X (compareOp .NotIn) notInD := by
  intro pins s σ H x y v u Q I rx ry ⟨F, d, e, r, sF, h1, h2, h3, h4⟩
  cases e <;> simp only [notInD] at h3 <;> try (cases h3; done)
  split at h3
  · rename_i hz
    cases h3
    rw [Bool.and_eq_true] at hz
    exact op_notInD hu pins s σ H x y v u Q I rx ry ⟨d, _, h1.dp sF, h2.dp sF, hz.1, hz.2, h4.here sF (.bl _)⟩
  · cases h3
theorem dp_flat {K : PySem.W.Frag} {F : Hp} {v : V} {d : PyData} (h : Dp K F v d) (f : flatD d = true) : flatV v = true := by cases h <;> simp_all [flatD, flatV]
theorem dps_flat {K : PySem.W.Frag} {F : Hp} : ∀ {vs : List V} {ds : List PyData}, DpAll K F vs ds → ds.all flatD = true → vs.all flatV = true
  | _, _, .nil, _ => rfl
  | _, _, .cons h t, f => by
    rw [List.all_cons, Bool.and_eq_true] at f ⊢
    exact ⟨dp_flat h f.1, dps_flat t f.2⟩
theorem eqV_dp {K : PySem.W.Frag} {F : Hp} {v u : V} {d e : PyData} (h : Dp K F v d) (h' : Dp K F u e) (f : flatD d = true) (f' : flatD e = true) : eqV v u = PyData.eqv d e := by
  cases h <;> cases h' <;> first | rfl | (simp only [flatD] at f f'; cases f; done) | (simp only [flatD] at f f'; cases f'; done) | simp [eqV, PyData.eqv]
theorem inV_dp {K : PySem.W.Frag} {F : Hp} {v : V} {d : PyData} (h : Dp K F v d) (f : flatD d = true) : ∀ {vs : List V} {ds : List PyData}, DpAll K F vs ds → ds.all flatD = true → inV v vs = ds.any fun z => PyData.eqv z d
  | _, _, .nil, _ => rfl
  | _, _, .cons h1 t, f' => by
    rw [List.all_cons, Bool.and_eq_true] at f'
    have ih := inV_dp h f t f'.2
    unfold inV at ih ⊢
    rw [List.any_cons, List.any_cons, ih, eqV_dp h1 h f'.1 f]
theorem Bo.flat {K : PySem.W.Frag} {F H : Hp} {v : V} {d : PyData} (h : Bo K F H v d) (f : flatD d = true) : Dp K F v d := by
  rcases h with h | ⟨a, vs, ds, rfl, rfl, _⟩
  · exact h
  · cases f
theorem opd_inT : OpD X (compareOp .In) inT := by
  intro pins s σ H x y v u Q I rx ry ⟨F, d, e, r, sF, h1, h2, h3, h4⟩
  cases e <;> simp only [inT] at h3 <;> try (cases h3; done)
  split at h3
  · rename_i hz
    cases h3
    rw [Bool.and_eq_true] at hz
    obtain ⟨a, vs, rfl, q1, r1⟩ := h2.tup sF
    refine op_in_seq pins s σ H x _ v u Q I rx ry ⟨a, vs, rfl, .inr q1, dp_flat (h1.flat hz.1) hz.1, dps_flat r1 hz.2, ?_⟩
    rw [if_neg (by decide), inV_dp (h1.flat hz.1) hz.1 r1 hz.2]
    exact h4.here sF (.bl _)
  · cases h3
theorem opd_notInT : OpD X (compareOp .NotIn) notInT := by
  intro pins s σ H x y v u Q I rx ry ⟨F, d, e, r, sF, h1, h2, h3, h4⟩
  cases e <;> simp only [notInT] at h3 <;> try (cases h3; done)
  split at h3
  · rename_i hz
    cases h3
    rw [Bool.and_eq_true] at hz
    obtain ⟨a, vs, rfl, q1, r1⟩ := h2.tup sF
    refine op_notIn_seq pins s σ H x _ v u Q I rx ry ⟨a, vs, rfl, .inr q1, dp_flat (h1.flat hz.1) hz.1, dps_flat r1 hz.2, ?_⟩
    rw [if_pos rfl, inV_dp (h1.flat hz.1) hz.1 r1 hz.2]
    exact h4.here sF (.bl _)
  · cases h3
def inA : PyData → PyData → Option PyData := orF2 inD inT
def notInA : PyData → PyData → Option PyData := orF2 notInD notInT
theorem opd_in (hu : X.A.units + 65 < cLine) : OpD X (compareOp .In) inA := (opd_inL hu).or opd_inT
theorem opd_notIn (hu : X.A.units + 65 < cLine) : OpD X (compareOp .NotIn) notInA := (opd_notInL hu).or opd_notInT
end
end D3

namespace D3
open PySem PySem.Spec PyProof.Rows L2

section
variable {X : Cx}
/-- a list's object, as it lies -/
theorem list_obj {pins : List (Addr × Obj)} {s : Shared} {σ : L2.St} {H : Hp} {a : Addr} {xs : List V} (I : Inv X pins σ H s) (h : SqL X.K H a xs) :
    ∃ (its : List Value) (n : Nat) (dd : Option Addr) (sl : Array (Option Value)), Vals xs its ∧ s.heap.get? a = some { cls := .type "list", dict := dd, data := .seq its.toArray n, slots := sl } ∧ xs.length ≤ sizeLine := by
  obtain ⟨its, r, ⟨⟨cls, dd, dt, sl⟩, n, e, hc, hd, hz⟩, l⟩ := I.list h
  simp only at hc hz
  subst hc hz
  exact ⟨its, n, dd, sl, r, e, l⟩
theorem opl_cat : OpL X (binaryOp .Add) catD := by
  intro pins s σ H x y v u Q I rx ry ⟨F, d, e, r, sF, h1, h2, h3, h4⟩
  cases d <;> cases e <;> simp only [catD] at h3 <;> try (cases h3; done)
  split at h3
  · rename_i hz
    cases h3
    obtain ⟨a, vs, rfl, q1, r1⟩ := h1.list sF
    obtain ⟨b, ws, rfl, q2, r2⟩ := h2.list sF
    have l1 := dps_len r1
    have l2 := dps_len r2
    cases rx
    cases ry
    obtain ⟨its, n, dd, sl, rv, ho, _⟩ := list_obj I q1
    obtain ⟨its2, n2, dd2, sl2, rv2, ho2, _⟩ := list_obj I q2
    have m1 := rv.length
    have m2 := rv2.length
    have ea : its.toArray ++ its2.toArray = (its ++ its2).toArray := by simp
    refine concat_meets ⟨_, ho, rfl⟩ ⟨_, ho2, rfl⟩ noFill_list_add seq_list_add PySem.F.slot_list_add PySem.F.entry_list_add (PySem.F.args_list_add_2 _ _)
      (PyProof.Rows.list_addW a b its.toArray its2.toArray n n2 dd dd2 sl sl2 (by rw [List.size_toArray, List.size_toArray]; omega)) ⟨ho, ho2, ?_⟩
    rw [ea]
    exact ⟨.ref _, _, I.lnew (t' := s.toks) (rv.append rv2) (by rw [List.length_append]; omega), rfl, h4.put sF I.fresh (dps_app r1 r2)⟩
  · cases h3
theorem dps_rep {K : PySem.W.Frag} {F : Hp} {vs : List V} {ds : List PyData} (h : DpAll K F vs ds) : ∀ k : Nat, DpAll K F (List.replicate k vs).flatten (List.replicate k ds).flatten
  | 0 => .nil
  | k + 1 => by
    rw [List.replicate_succ, List.replicate_succ, List.flatten_cons, List.flatten_cons]
    exact dps_app h (dps_rep h k)
theorem sq_lst {K : PySem.W.Frag} {F H : Hp} {a : Addr} {vs : List V} (h : H a = some (.lst vs)) : SqL K H a vs := .of h

/-! ### subscripts -/
def ixD : PyData → PyData → Option PyData
  | .list xs, .int i => atI xs i
  | .tuple xs, .int i => atI xs i
  | .str z, .int i => if z.length ≤ sizeLine then (atI z.cps.toList i).map fun c => .str ⟨#[c]⟩ else none
  | _, _ => none
theorem dps_at {K : PySem.W.Frag} {F : Hp} {vs : List V} {ds : List PyData} {i : Int} {d : PyData} (h : DpAll K F vs ds) (e : atI ds i = some d) : ∃ v, atI vs i = some v ∧ Dp K F v d := by
  unfold atI at e ⊢
  rw [← dps_len h] at e
  cases q : ixN vs.length i with
  | none => rw [q] at e; cases e
  | some j =>
    rw [q] at e
    exact dps_get h e
theorem ixd_seq : IxD X ixD := by
  intro value slice pins s σ H x y v u Q I rx ry ⟨F, d, e, r, sF, h1, h2, h3, h4⟩
  cases d <;> cases e <;> simp only [ixD] at h3 <;> try (cases h3; done)
  · split at h3
    · rename_i z i hz
      cases q : atI z.cps.toList i with
      | none => rw [q] at h3; cases h3
      | some c =>
        rw [q] at h3
        cases h3
        exact ix_str value slice pins s σ H x y v u Q I rx ry ⟨z, i, c, h1.str, h2.int, hz, q, h4.here sF (.str _)⟩
    · cases h3
  · obtain ⟨a, vs, rfl, q1, r1⟩ := h1.list sF
    obtain ⟨w', q2, r2⟩ := dps_at r1 h3
    exact ix_list value slice pins s σ H _ y v u Q I rx ry ⟨a, vs, _, w', rfl, h2.int, q1, q2, h4.here sF r2⟩
  · obtain ⟨a, vs, rfl, q1, r1⟩ := h1.tup sF
    obtain ⟨w', q2, r2⟩ := dps_at r1 h3
    exact ix_tup value slice pins s σ H _ y v u Q I rx ry ⟨a, vs, _, w', rfl, h2.int, q1, q2, h4.here sF r2⟩

/-- the items of xs[lo:hi] -/
def cutD {α : Type} (xs : List α) (lo hi : Option Int) : List α := (xs.drop (HT.sIx xs.length 0 lo)).take (HT.sIx xs.length xs.length hi - HT.sIx xs.length 0 lo)
theorem dps_cut {K : PySem.W.Frag} {F : Hp} {vs : List V} {ds : List PyData} (h : DpAll K F vs ds) (lo hi : Option Int) : DpAll K F (cutV vs lo hi) (cutD ds lo hi) := by
  unfold cutV cutD
  rw [dps_len h]
  exact dps_take _ (dps_drop _ h)
def slTD (x : PyData) (lo hi : Option Int) : Option PyData := match x with
  | .tuple xs => some (.tuple (cutD xs lo hi))
  | _ => none
def slLD (x : PyData) (lo hi : Option Int) : Option (List PyData) := match x with
  | .list xs => some (cutD xs lo hi)
  | _ => none
def SlD (X : Cx) (g : PyData → Option Int → Option Int → Option PyData) : Prop := SlR X fun v lo hi H Q => ∃ F x d, Sb F H ∧ Bo X.K F H v x ∧ g x lo hi = some d ∧ PR X.K F H d Q
def SlL (X : Cx) (g : PyData → Option Int → Option Int → Option (List PyData)) : Prop := SlR X fun v lo hi H Q => ∃ F x d, Sb F H ∧ Bo X.K F H v x ∧ g x lo hi = some d ∧ PL X.K F H d Q
theorem cut_whole {α : Type} {xs : List α} {lo hi : Option Int} (h : HT.sIx xs.length 0 lo = 0 ∧ HT.sIx xs.length xs.length hi = xs.length) : cutD xs lo hi = xs := by
  unfold cutD
  rw [h.1, h.2, List.drop_zero, Nat.sub_zero, List.take_length]
theorem sld_tup : SlD X slTD := by
  intro pins s σ H x v vl vu lo hi sl Q I rx hs pl pu ⟨F, d, r, sF, h1, h3, h4⟩
  cases d <;> simp only [slTD] at h3 <;> try (cases h3; done)
  cases h3
  have h1' := h1
  obtain ⟨a, vs, rfl, q1, r1⟩ := h1.tup sF
  refine sl_tupB pins s σ H _ v vl vu lo hi sl Q I rx hs pl pu ⟨a, vs, rfl, q1, fun hw => ?_, fun _ => h4.tup sF (dps_cut r1 lo hi)⟩
  rw [dps_len r1] at hw
  rw [cut_whole hw] at h4
  rcases h1' with h1' | ⟨_, _, _, _, z, _⟩
  · exact h4.here sF h1'
  · cases z
theorem sll_list : SlL X slLD := by
  intro pins s σ H x v vl vu lo hi sl Q I rx hs pl pu ⟨F, d, r, sF, h1, h3, h4⟩
  cases d <;> simp only [slLD] at h3 <;> try (cases h3; done)
  cases h3
  obtain ⟨a, vs, rfl, q1, r1⟩ := h1.list sF
  exact sl_list pins s σ H _ v vl vu lo hi sl Q I rx hs pl pu ⟨a, vs, rfl, q1, fun p hp => h4.put sF hp (dps_cut r1 lo hi)⟩
def slAD (x : PyData) (lo hi : Option Int) : Option PyData := match x with
  | .tuple xs => some (.tuple (cutD xs lo hi))
  | .list xs => some (.list (cutD xs lo hi))
  | .str z => if z.length ≤ sizeLine then some (.str (cutS z lo hi)) else none
  | _ => none
theorem sld_any : SlD X slAD := by
  intro pins s σ H x v vl vu lo hi sl Q I rx hs pl pu ⟨F, d, r, sF, h1, h3, h4⟩
  cases d <;> simp only [slAD] at h3 <;> try (cases h3; done)
  · split at h3
    · cases h3
      exact sl_str pins s σ H _ v vl vu lo hi sl Q I rx hs pl pu ⟨_, h1.str, by assumption, h4.here sF (.str _)⟩
    · cases h3
  · cases h3
    exact sll_list pins s σ H _ v vl vu lo hi sl Q I rx hs pl pu ⟨F, _, _, sF, h1, rfl, PL.of h4⟩
  · cases h3
    exact sld_tup pins s σ H _ v vl vu lo hi sl Q I rx hs pl pu ⟨F, _, _, sF, h1, rfl, h4⟩
end

/-! ### expressions by their parts -/
section
variable {X : Cx} {W : WX} {a b c e : Expr} {es : List Expr} {f g h : M PyData} {fl gl : M (List PyData)} {ft gt : M Bool} {pos p2 : Pos}
def eBin (o : PyData → PyData → Option PyData) (f g : M PyData) : M PyData := bnd f fun x => bnd g fun y => lft (o x y)
def eBinL (o : PyData → PyData → Option (List PyData)) (f g : M PyData) : M (List PyData) := bnd f fun x => bnd g fun y => lft (o x y)
theorem bin_read {K : PySem.W.Frag} {mg : Str → Option Value} {o : PyData → PyData → Option PyData} {σ : L2.St} {H : Hp} {Q : VK} (q : tR K mg W (rD K) (eBin o f g) σ H Q) :
    tOp (fun v u H Q => ∃ F x y d, Sb F H ∧ Bo K F H v x ∧ Bo K F H u y ∧ o x y = some d ∧ PR K F H d Q) (tR K mg W (rD K) f) (tR K mg W (rBo K) g) σ H Q := by
  obtain ⟨B, ρ, F, I, q⟩ := q
  refine ⟨B, ρ, F, I, q.bind fun x ρ1 v F1 H1 s1 I1 r1 q1 => ⟨B, ρ1, F1, I1, q1.bind fun y ρ2 u F2 H2 s2 I2 r2 q2 => ?_⟩⟩
  obtain ⟨d, e, q3⟩ := q2.lft
  exact ⟨F2, x, y, d, I2.sub, .inl (dp_up s2 r1), r2, e, I2.pr q3⟩
theorem ev_bin {op : Operator} {o : PyData → PyData → Option PyData} (ho : OpD X (binaryOp op) o) (ha : EV X W a f) (hb : EB X W b g) : EV X W (.BinOp a op b pos) (eBin o f g) := (pe_op ho ha hb).imp fun _ _ _ q => bin_read q
theorem el_bin {op : Operator} {o : PyData → PyData → Option (List PyData)} (ho : OpL X (binaryOp op) o) (ha : EV X W a f) (hb : EB X W b g) : EL X W (.BinOp a op b pos) (eBinL o f g) := (pe_op ho ha hb).imp fun σ H Q ⟨B, ρ, F, I, q⟩ => by
  refine ⟨B, ρ, F, I, q.bind fun x ρ1 v F1 H1 s1 I1 r1 q1 => ⟨B, ρ1, F1, I1, q1.bind fun y ρ2 u F2 H2 s2 I2 r2 q2 => ?_⟩⟩
  obtain ⟨d, e, q3⟩ := q2.lft
  exact ⟨F2, x, y, d, I2.sub, .inl (dp_up s2 r1), r2, e, I2.pl q3⟩
theorem ev_cmp {op : CmpOp} {o : PyData → PyData → Option PyData} (ho : OpD X (compareOp op) o) (ha : EV X W a f) (hb : EB X W b g) (hm : behindInMarks op b = false) : EV X W (.Compare a [op] [b] pos) (eBin o f g) := (pe_cmpR ho ha hb hm).imp fun _ _ _ q => bin_read q
def asB : PyData → Option Bool
  | .bool b => some b
  | _ => none
def tBin (o : PyData → PyData → Option PyData) (f g : M PyData) : M Bool := bnd (eBin o f g) fun d => lft (asB d)
theorem asB_some {d : PyData} {b : Bool} (h : asB d = some b) : d = .bool b := by cases d <;> simp [asB] at h; rw [h]
theorem tv_cmp {op : CmpOp} {o : PyData → PyData → Option PyData} (ho : OpD X (compareOp op) o) (ha : EV X W a f) (hb : EB X W b g) (hm : behindInMarks op b = false) : TV X W (.Compare a [op] [b] pos) (tBin o f g) := (pt_cmpR ho ha hb hm).imp fun σ H Q ⟨B, ρ, F, I, q⟩ => by
  refine bin_read ⟨B, ρ, F, I, q.bind fun d ρ1 v F1 H1 s1 I1 r1 q1 => ?_⟩
  obtain ⟨k, e, q2⟩ := q1.lft
  rw [asB_some e] at r1
  cases r1
  exact ⟨k, rfl, q2 k F1 H1 (Same.refl _) I1 rfl⟩
/-- truth -/
def truD : PyData → Option Bool
  | .none => some false
  | .bool b => some b
  | .int i => some (i != 0)
  | .str y => if y.length ≤ sizeLine then some ((y.length : Int) != 0) else none
  | .list xs => some (!xs.isEmpty)
  | .tuple xs => some (!xs.isEmpty)
  | .dict _ => none
def tTru (f : M PyData) : M Bool := bnd f fun d => lft (truD d)
theorem dps_emp {K : PySem.W.Frag} {F : Hp} {vs : List V} {ds : List PyData} (h : DpAll K F vs ds) : vs.isEmpty = ds.isEmpty := by cases h <;> rfl
theorem Bo.tru {K : PySem.W.Frag} {F H : Hp} {v : V} {d : PyData} {k : Bool} (h : Bo K F H v d) (s : Sb F H) (e : truD d = some k) : TruV K v H k := by
  cases d <;> simp only [truD] at e
  · cases e; rw [h.non]; rfl
  · cases e; rw [h.bl]; rfl
  · cases e; rw [h.int]; rfl
  · split at e
    · cases e; rw [h.str]; exact ⟨by assumption, rfl⟩
    · cases e
  · cases e
    obtain ⟨a, vs, rfl, q1, r1⟩ := h.list s
    exact .inl ⟨vs, q1, by rw [dps_emp r1]⟩
  · cases e
    obtain ⟨a, vs, rfl, q1, r1⟩ := h.tup s
    exact .inr (.inl ⟨vs, q1, by rw [dps_emp r1]⟩)
  · cases e
theorem tv_val (he : EB X W e f) (hi : ∀ whole, isTrue e X.env whole = (do let v ← whole; standAt e.pos; holding [v] (truthy v)) := by intro _; rfl) : TV X W e (tTru f) := (pt_truth he hi).imp fun σ H Q ⟨B, ρ, F, I, q⟩ => by
  refine ⟨B, ρ, F, I, q.bind fun d ρ1 v F1 H1 s1 I1 r1 q1 => ?_⟩
  obtain ⟨k, e, q2⟩ := q1.lft
  exact ⟨k, r1.tru I1.sub e, q2 k F1 H1 (Same.refl _) I1 rfl⟩
def tNt (f : M Bool) : M Bool := bnd f fun c => ret (!c)
theorem tv_not (h : TV X W a ft) : TV X W (.UnaryOp .Not a pos) (tNt ft) := (pt_not h).imp fun σ H Q ⟨B, ρ, F, I, q⟩ => ⟨B, ρ, F, I, q.bind fun c ρ1 v F1 H1 s1 I1 r1 q1 => by
  cases r1
  exact q1.ret (Same.refl _) I1 rfl⟩
/-- and, or: chains -/
def tAn (f g : M Bool) : M Bool := bnd f fun c => if c then g else ret false
def tOrr (f g : M Bool) : M Bool := bnd f fun c => if c then ret true else g
abbrev WV (X : Cx) (W : WX) (e : Expr) (f : M Bool) : Prop := PW X e (tR X.K X.mg W rB f)
theorem wv_and1 (h : TV X W a ft) : WV X W (.BoolOp .And [a] pos) ft := pw_and1 h
theorem wv_or1 (h : TV X W a ft) : WV X W (.BoolOp .Or [a] pos) ft := pw_or1 h
theorem wv_and (ha : TV X W a ft) (hb : WV X W (.BoolOp .And (b :: es) pos) gt) : WV X W (.BoolOp .And (a :: b :: es) pos) (tAn ft gt) := (pw_and ha hb).imp fun σ H Q ⟨B, ρ, F, I, q⟩ => ⟨B, ρ, F, I, q.bind fun c ρ1 v F1 H1 s1 I1 r1 q1 => by
  rw [show v = c from r1]
  cases c with
  | true => rw [if_pos rfl] at q1 ⊢; exact ⟨B, ρ1, F1, I1, q1⟩
  | false => rw [if_neg (by decide)] at q1 ⊢; exact q1.ret (Same.refl _) I1 rfl⟩
theorem wv_or (ha : TV X W a ft) (hb : WV X W (.BoolOp .Or (b :: es) pos) gt) : WV X W (.BoolOp .Or (a :: b :: es) pos) (tOrr ft gt) := (pw_or ha hb).imp fun σ H Q ⟨B, ρ, F, I, q⟩ => ⟨B, ρ, F, I, q.bind fun c ρ1 v F1 H1 s1 I1 r1 q1 => by
  rw [show v = c from r1]
  cases c with
  | false => rw [if_neg (by decide)] at q1 ⊢; exact ⟨B, ρ1, F1, I1, q1⟩
  | true => rw [if_pos rfl] at q1 ⊢; exact q1.ret (Same.refl _) I1 rfl⟩
theorem tv_w (h : WV X W e ft) : TV X W e ft := h.pt
/-- .. as values: all but the last a bool -/
def eAn (f g : M PyData) : M PyData := bnd f fun d => bnd (lft (asB d)) fun c => if c then g else ret (.bool false)
def eOrr (f g : M PyData) : M PyData := bnd f fun d => bnd (lft (asB d)) fun c => if c then ret (.bool true) else g
theorem ev_one {op} (h : EV X W a f) : EV X W (.BoolOp op [a] pos) f := pe_one h
theorem tA.lftB {α β α' : Type} {K : PySem.W.Frag} {mg : Str → Option Value} {B : Bs} {σ : L2.St} {ρ : Ev} {F : Hp} {R : RelD β α} {o : Option α'} {g : α' → M α} {Q : β → Hp → Prop} (h : tA K mg W R B σ ρ F (bnd (D3.lft o) g) Q) : ∃ a, o = some a ∧ tA K mg W R B σ ρ F (g a) Q := by
  obtain ⟨r, e, h1, h2⟩ := h
  cases o with
  | none => cases e
  | some a => exact ⟨a, rfl, r, e, h1, h2⟩
theorem ev_and (ha : EV X W a f) (hb : EV X W (.BoolOp .And (b :: es) pos) g) : EV X W (.BoolOp .And (a :: b :: es) pos) (eAn f g) := (pe_and ha hb).imp fun σ H Q ⟨B, ρ, F, I, q⟩ => ⟨B, ρ, F, I, q.bind fun d ρ1 v F1 H1 s1 I1 r1 q1 => by
  obtain ⟨c, e, q2⟩ := q1.lftB
  rw [asB_some e] at r1
  cases r1
  refine ⟨c, rfl, ?_⟩
  cases c with
  | true => rw [if_pos rfl] at q2 ⊢; exact ⟨B, ρ1, F1, I1, q2⟩
  | false => rw [if_neg (by decide)] at q2 ⊢; exact q2.ret (Same.refl _) I1 (.bl false)⟩
theorem ev_or (ha : EV X W a f) (hb : EV X W (.BoolOp .Or (b :: es) pos) g) : EV X W (.BoolOp .Or (a :: b :: es) pos) (eOrr f g) := (pe_or ha hb).imp fun σ H Q ⟨B, ρ, F, I, q⟩ => ⟨B, ρ, F, I, q.bind fun d ρ1 v F1 H1 s1 I1 r1 q1 => by
  obtain ⟨c, e, q2⟩ := q1.lftB
  rw [asB_some e] at r1
  cases r1
  refine ⟨c, rfl, ?_⟩
  cases c with
  | false => rw [if_neg (by decide)] at q2 ⊢; exact ⟨B, ρ1, F1, I1, q2⟩
  | true => rw [if_pos rfl] at q2 ⊢; exact q2.ret (Same.refl _) I1 (.bl true)⟩
def eNt (f : M PyData) : M PyData := bnd f fun d => bnd (lft (asB d)) fun c => ret (.bool (!c))
theorem ev_not (h : EV X W a f) : EV X W (.UnaryOp .Not a pos) (eNt f) := (pe_not h).imp fun σ H Q ⟨B, ρ, F, I, q⟩ => ⟨B, ρ, F, I, q.bind fun d ρ1 v F1 H1 s1 I1 r1 q1 => by
  obtain ⟨c, e, q2⟩ := q1.lftB
  rw [asB_some e] at r1
  cases r1
  exact ⟨c, rfl, q2.ret (Same.refl _) I1 (.bl _)⟩⟩
def eIf {α : Type} (t : M Bool) (f g : M α) : M α := bnd t fun c => if c then f else g
theorem ev_if (hc : TV X W c ft) (ha : EV X W a f) (hb : EV X W b g) : EV X W (.IfExp c a b pos) (eIf ft f g) := (pe_ifExp hc ha hb).imp fun σ H Q ⟨B, ρ, F, I, q⟩ => ⟨B, ρ, F, I, q.bind fun d ρ1 v F1 H1 s1 I1 r1 q1 => by
  rw [show v = d from r1]
  cases d with
  | true => rw [if_pos rfl] at q1 ⊢; exact ⟨B, ρ1, F1, I1, q1⟩
  | false => rw [if_neg (by decide)] at q1 ⊢; exact ⟨B, ρ1, F1, I1, q1⟩⟩
theorem el_if (hc : TV X W c ft) (ha : EL X W a fl) (hb : EL X W b gl) : EL X W (.IfExp c a b pos) (eIf ft fl gl) := (pe_ifExp hc ha hb).imp fun σ H Q ⟨B, ρ, F, I, q⟩ => ⟨B, ρ, F, I, q.bind fun d ρ1 v F1 H1 s1 I1 r1 q1 => by
  rw [show v = d from r1]
  cases d with
  | true => rw [if_pos rfl] at q1 ⊢; exact ⟨B, ρ1, F1, I1, q1⟩
  | false => rw [if_neg (by decide)] at q1 ⊢; exact ⟨B, ρ1, F1, I1, q1⟩⟩
def eUn (o : PyData → Option PyData) (f : M PyData) : M PyData := bnd f fun x => lft (o x)
theorem ev_un {op : UnaryOp} {o : PyData → Option PyData} (ho : UnD X (unaryOp op) o) (ha : EB X W a f) : EV X W (.UnaryOp op a pos) (eUn o f) := (pe_un ho ha).imp fun σ H Q ⟨B, ρ, F, I, q⟩ => ⟨B, ρ, F, I, q.bind fun x ρ1 v F1 H1 s1 I1 r1 q1 => by
  obtain ⟨d, e, q2⟩ := q1.lft
  exact ⟨F1, x, d, I1.sub, r1, e, I1.pr q2⟩⟩
/-- a < b < c -/
def eChain (o o' : PyData → PyData → Option PyData) (f g h : M PyData) : M PyData := bnd f fun x => bnd g fun y => bnd (lft ((o x y).bind asB)) fun k => if k then bnd h fun z => lft (o' y z) else ret (.bool false)
theorem chain_read {K : PySem.W.Frag} {mg : Str → Option Value} {o o' : PyData → PyData → Option PyData} {σ : L2.St} {H : Hp} {Q : VK} (q : tR K mg W (rD K) (eChain o o' f g h) σ H Q) :
    tChain (fun v u H Q => ∃ F x y d, Sb F H ∧ Bo K F H v x ∧ Bo K F H u y ∧ o x y = some d ∧ PR K F H d Q) (fun v u H Q => ∃ F x y d, Sb F H ∧ Bo K F H v x ∧ Bo K F H u y ∧ o' x y = some d ∧ PR K F H d Q) (tR K mg W (rD K) f) (tR K mg W (rD K) g) (tR K mg W (rBo K) h) σ H Q := by
  obtain ⟨B, ρ, F, I, q⟩ := q
  refine ⟨B, ρ, F, I, q.bind fun x ρ1 v F1 H1 s1 I1 r1 q1 => ⟨B, ρ1, F1, I1, q1.bind fun y ρ2 u F2 H2 s2 I2 r2 q2 => ?_⟩⟩
  obtain ⟨k, e, q3⟩ := q2.lftB
  cases eo : o x y with
  | none => rw [eo] at e; cases e
  | some d =>
    rw [eo] at e
    have ed : d = .bool k := asB_some e
    subst ed
    refine ⟨F2, x, y, _, I2.sub, .inl (dp_up s2 r1), .inl r2, eo, I2.pr fun b F3 H3 s3 I3 r3 => ?_⟩
    cases r3
    refine ⟨k, rfl, ?_⟩
    cases k with
    | false => rw [if_neg (by decide)] at q3 ⊢; exact (q3.up s3).ret (Same.refl _) I3 (.bl false)
    | true =>
      rw [if_pos rfl] at q3 ⊢
      refine ⟨B, ρ2, F3, I3, (q3.up s3).bind fun z ρ4 w' F4 H4 s4 I4 r4 q4 => ?_⟩
      obtain ⟨d, e', q5⟩ := q4.lft
      exact ⟨F4, y, z, d, I4.sub, .inl (dp_up s4 (dp_up s3 r2)), r4, e', I4.pr q5⟩
theorem ev_chain {op op' : CmpOp} {o o' : PyData → PyData → Option PyData} (ho : OpD X (compareOp op) o) (ho' : OpD X (compareOp op') o') (ha : EV X W a f) (hb : EV X W b g) (hc : EB X W c h) (hm : lastMarks [op, op'] [b, c] = false := by with_unfolding_all rfl) :
    EV X W (.Compare a [op, op'] [b, c] pos) (eChain o o' f g h) := (pe_chain ho ho' ha hb hc hm).imp fun _ _ _ q => chain_read q
def tChn (o o' : PyData → PyData → Option PyData) (f g h : M PyData) : M Bool := bnd (eChain o o' f g h) fun d => lft (asB d)
theorem tv_chain {op op' : CmpOp} {o o' : PyData → PyData → Option PyData} (ho : OpD X (compareOp op) o) (ho' : OpD X (compareOp op') o') (ha : EV X W a f) (hb : EV X W b g) (hc : EB X W c h) (hm : lastMarks [op, op'] [b, c] = false := by with_unfolding_all rfl) :
    TV X W (.Compare a [op, op'] [b, c] pos) (tChn o o' f g h) := (pt_chain ho ho' ha hb hc hm).imp fun σ H Q ⟨B, ρ, F, I, q⟩ => by
  refine chain_read ⟨B, ρ, F, I, q.bind fun d ρ1 v F1 H1 s1 I1 r1 q1 => ?_⟩
  obtain ⟨k, e, q2⟩ := q1.lft
  rw [asB_some e] at r1
  cases r1
  exact ⟨k, rfl, q2 k F1 H1 (Same.refl _) I1 rfl⟩

/-! ### displays, subscripts -/
def eTup (f : M (List PyData)) : M PyData := bnd f fun ds => lft (if ds.length ≤ sizeLine then some (.tuple ds) else none)
theorem ev_tup {k} (h : AV X W es fl) : EV X W (.Tuple es k pos) (eTup fl) := (pe_tupB h).imp fun σ H Q ⟨B, ρ, F, I, q⟩ => ⟨B, ρ, F, I, q.bind fun ds ρ1 vs F1 H1 s1 I1 r1 q1 => by
  obtain ⟨d, e, q2⟩ := q1.lft
  split at e
  · rename_i hz
    cases e
    exact ⟨by rw [dps_len r1]; exact hz, (I1.pr q2).tup I1.sub r1⟩
  · cases e⟩
def eLst (f : M (List PyData)) : M (List PyData) := bnd f fun ds => lft (if ds.length ≤ sizeLine then some ds else none)
theorem el_lst (h : AV X W es fl) : EL X W (.List es pos) (eLst fl) := (pe_lst h).imp fun σ H Q ⟨B, ρ, F, I, q⟩ => ⟨B, ρ, F, I, q.bind fun ds ρ1 vs F1 H1 s1 I1 r1 q1 => by
  obtain ⟨d, e, q2⟩ := q1.lft
  split at e
  · rename_i hz
    cases e
    exact ⟨by rw [dps_len r1]; exact hz, fun p hp => (I1.pl q2).put I1.sub hp r1⟩
  · cases e⟩
theorem ev_ix {o : PyData → PyData → Option PyData} (ho : IxD X o) (ha : EV X W a f) (hb : EB X W b g) (hs : PlainIx b := by exact fun _ _ => rfl) : EV X W (.Subscript a b pos) (eBin o f g) := (pe_ix ho ha hb hs).imp fun _ _ _ q => bin_read q
/-- x[b], x looked at behind b -/
def eIxB (o : PyData → PyData → Option PyData) (i : Nat) (g : M PyData) : M PyData := bnd (eLook i) fun _ => bnd g fun y ρ => lft ((look ρ i).bind fun x => o x y) ρ
theorem tA.look {α β : Type} {K : PySem.W.Frag} {mg : Str → Option Value} {B : Bs} {σ : L2.St} {ρ : Ev} {F H : Hp} {R : RelD β α} {i : Nat} {g : PyData → M α} {Q : β → Hp → Prop} (h : tA K mg W R B σ ρ F (bnd (eLook i) g) Q) (I : SI K B σ ρ F H) :
    ∃ d v, D3.look ρ i = some d ∧ σ[i]? = some (some v) ∧ tA K mg W R B σ ρ F (g d) Q := by
  obtain ⟨r, e, h1, h2⟩ := h
  unfold bnd eLook at e
  cases q : D3.look ρ i with
  | none => rw [q] at e; cases e
  | some d =>
    rw [q] at e
    obtain ⟨v, e1, _⟩ := I.look q
    exact ⟨d, v, rfl, e1, r, e, h1, h2⟩
theorem ev_ixB {o : PyData → PyData → Option PyData} (ho : IxD X o) (i : Nat) {x : Str} (hb : EB X W b g) (hN : X.N[i]? = some x := by rfl) (hv : Vis X.env.scope x := by first | exact Or.inl rfl | exact Or.inr (Or.inl rfl) | exact Or.inr (Or.inr rfl)) (hs : PlainIx b := by exact fun _ _ => rfl) (hd : (x == ("__debug__" : Str)) = false := by decide)
    (hcd : (x == ("__classdict__" : Str)) = false := by decide) : EV X W (.Subscript (.Name x p2) b pos) (eIxB o i g) := (pe_ix ho (pe_var hN hv hd hcd) hb hs).imp fun σ H Q ⟨B, ρ, F, I, q⟩ => by
  obtain ⟨d0, v, _, ev, q0⟩ := q.look I
  refine ⟨v, ev, B, ρ, F, I, q0.bind fun y ρ2 u F2 H2 s2 I2 r2 q2 => ?_⟩
  have q3 : tA X.K X.mg W (rD X.K) B σ ρ2 F2 (lft ((look ρ2 i).bind fun x => o x y)) Q := q2
  obtain ⟨d, e, q4⟩ := q3.lft
  cases el : look ρ2 i with
  | none => rw [el] at e; cases e
  | some x =>
    rw [el] at e
    obtain ⟨v', ev', bo⟩ := I2.look el
    rw [ev] at ev'; cases ev'
    exact ⟨F2, x, y, d, I2.sub, bo, r2, e, I2.pr q4⟩
/-- the parts of a slice -/
abbrev OV (X : Cx) (W : WX) (e : Option Expr) (f : M (Option Int)) : Prop := PO X e (tR X.K X.mg W (rO X.K) f)
theorem ov_none : OV X W none (ret none) := ⟨fun pins s σ H Q I ⟨B, ρ, F, I1, q⟩ => po_none.run pins s σ H Q I (q.ret (Same.refl _) I1 rfl)⟩
def asI : PyData → Option Int
  | .int i => some i
  | _ => none
def oSome (f : M PyData) : M (Option Int) := bnd f fun d => lft ((asI d).map some)
theorem asI_some {d : PyData} {i : Int} (h : asI d = some i) : d = .int i := by cases d <;> simp [asI] at h; rw [h]
theorem ov_some (h : EV X W e f) : OV X W (some e) (oSome f) := ⟨fun pins s σ H Q I ⟨B, ρ, F, I1, q⟩ => (po_some h).run pins s σ H Q I ⟨B, ρ, F, I1, q.bind fun d ρ1 v F1 H1 s1 I1 r1 q1 => by
  obtain ⟨o, e, q2⟩ := q1.lft
  cases ei : asI d with
  | none => rw [ei] at e; cases e
  | some i =>
    rw [ei] at e
    cases e
    rw [asI_some ei] at r1
    cases r1
    exact ⟨i, rfl, q2 _ F1 H1 (Same.refl _) I1 rfl⟩⟩⟩
def eSl (o : PyData → Option Int → Option Int → Option PyData) (f : M PyData) (l u : M (Option Int)) : M PyData := bnd f fun x => bnd l fun lo => bnd u fun hi => lft (o x lo hi)
def eSlL (o : PyData → Option Int → Option Int → Option (List PyData)) (f : M PyData) (l u : M (Option Int)) : M (List PyData) := bnd f fun x => bnd l fun lo => bnd u fun hi => lft (o x lo hi)
theorem ev_sl {o : PyData → Option Int → Option Int → Option PyData} {lo hi : Option Expr} {l u : M (Option Int)} (ho : SlD X o) (ha : EV X W a f) (hl : OV X W lo l) (hu : OV X W hi u) : EV X W (.Subscript a (.Slice lo hi none p2) pos) (eSl o f l u) := (pe_slice ho ha hl hu).imp fun σ H Q ⟨B, ρ, F, I, q⟩ => by
  refine ⟨B, ρ, F, I, q.bind fun x ρ1 v F1 H1 s1 I1 r1 q1 => ⟨B, ρ1, F1, I1, q1.bind fun y ρ2 lo F2 H2 s2 I2 r2 q2 => ⟨B, ρ2, F2, I2, q2.bind fun z ρ3 hi F3 H3 s3 I3 r3 q3 => ?_⟩⟩⟩
  obtain ⟨d, e, q4⟩ := q3.lft
  have r2' : lo = y := r2
  have r3' : hi = z := r3
  subst r2' r3'
  exact ⟨F3, x, d, I3.sub, .inl (dp_up s3 (dp_up s2 r1)), e, I3.pr q4⟩
theorem el_sl {o : PyData → Option Int → Option Int → Option (List PyData)} {lo hi : Option Expr} {l u : M (Option Int)} (ho : SlL X o) (ha : EV X W a f) (hl : OV X W lo l) (hu : OV X W hi u) : EL X W (.Subscript a (.Slice lo hi none p2) pos) (eSlL o f l u) := (pe_slice ho ha hl hu).imp fun σ H Q ⟨B, ρ, F, I, q⟩ => by
  refine ⟨B, ρ, F, I, q.bind fun x ρ1 v F1 H1 s1 I1 r1 q1 => ⟨B, ρ1, F1, I1, q1.bind fun y ρ2 lo F2 H2 s2 I2 r2 q2 => ⟨B, ρ2, F2, I2, q2.bind fun z ρ3 hi F3 H3 s3 I3 r3 q3 => ?_⟩⟩⟩
  obtain ⟨d, e, q4⟩ := q3.lft
  have r2' : lo = y := r2
  have r3' : hi = z := r3
  subst r2' r3'
  exact ⟨F3, x, d, I3.sub, .inl (dp_up s3 (dp_up s2 r1)), e, I3.pl q4⟩

/-! ### calls of built-ins -/
def eCall (o : List PyData → Option PyData) (f : M (List PyData)) : M PyData := bnd f fun ds => lft (o ds)
def eCallL (o : List PyData → Option (List PyData)) (f : M (List PyData)) : M (List PyData) := bnd f fun ds => lft (o ds)
theorem call_read {K : PySem.W.Frag} {mg : Str → Option Value} {o : List PyData → Option PyData} {σ : L2.St} {H : Hp} {Q : VK} (q : tR K mg W (rD K) (eCall o fl) σ H Q) :
    tCB (fun vs H Q => ∃ F ds d, Sb F H ∧ BoAll K F H vs ds ∧ o ds = some d ∧ PR K F H d Q) (tR K mg W (rBos K) fl) σ H Q := by
  obtain ⟨B, ρ, F, I, q⟩ := q
  refine ⟨B, ρ, F, I, q.bind fun x ρ1 v F1 H1 s1 I1 r1 q1 => ?_⟩
  obtain ⟨d, e, q2⟩ := q1.lft
  exact ⟨F1, x, d, I1.sub, r1, e, I1.pr q2⟩
theorem callL_read {K : PySem.W.Frag} {mg : Str → Option Value} {o : List PyData → Option (List PyData)} {σ : L2.St} {H : Hp} {Q : VK} (q : tR K mg W (rL K) (eCallL o fl) σ H Q) :
    tCB (fun vs H Q => ∃ F ds d, Sb F H ∧ BoAll K F H vs ds ∧ o ds = some d ∧ PL K F H d Q) (tR K mg W (rBos K) fl) σ H Q := by
  obtain ⟨B, ρ, F, I, q⟩ := q
  refine ⟨B, ρ, F, I, q.bind fun x ρ1 v F1 H1 s1 I1 r1 q1 => ?_⟩
  obtain ⟨d, e, q2⟩ := q1.lft
  exact ⟨F1, x, d, I1.sub, r1, e, I1.pl q2⟩
section
variable {x : Str} {p pos : Pos} {id T : String}
theorem ev_callB {o : List PyData → Option PyData} (hc : CallDa X (.builtin id) o) (hg : Gl X x) (hm : X.mg x = none) (hv : bootBuiltins x = some (.builtin id)) (ha : AB X W (e :: es) fl) (hn : x ≠ "__name__" := by decide) (hdb : (x == ("__debug__" : Str)) = false := by decide)
    (he : starEach (e :: es) X.env = (false, eval e X.env) :: starEach es X.env := by rfl) (hpl : (backTo pos (starEach es X.env)).any (·.1) = false := by rfl) : EV X W (.Call (.Name x p) (e :: es) [] pos) (eCall o fl) := (pe_callB hc hg hm hv ha hn hdb he hpl).imp fun _ _ _ q => call_read q
theorem el_callB {o : List PyData → Option (List PyData)} (hc : CallL X (.builtin id) o) (hg : Gl X x) (hm : X.mg x = none) (hv : bootBuiltins x = some (.builtin id)) (ha : AB X W (e :: es) fl) (hn : x ≠ "__name__" := by decide) (hdb : (x == ("__debug__" : Str)) = false := by decide)
    (he : starEach (e :: es) X.env = (false, eval e X.env) :: starEach es X.env := by rfl) (hpl : (backTo pos (starEach es X.env)).any (·.1) = false := by rfl) : EL X W (.Call (.Name x p) (e :: es) [] pos) (eCallL o fl) := (pe_callB hc hg hm hv ha hn hdb he hpl).imp fun _ _ _ q => callL_read q
theorem ev_callT {o : List PyData → Option PyData} (hc : CallDa X (.type T) o) (hg : Gl X x) (hm : X.mg x = none) (hv : bootBuiltins x = some (.type T)) (ha : AB X W (e :: es) fl) (hn : x ≠ "__name__" := by decide) (hdb : (x == ("__debug__" : Str)) = false := by decide)
    (he : starEach (e :: es) X.env = (false, eval e X.env) :: starEach es X.env := by rfl) (hpl : (backTo pos (starEach es X.env)).any (·.1) = false := by rfl) : EV X W (.Call (.Name x p) (e :: es) [] pos) (eCall o fl) := (pe_callTy hc hg hm hv ha hn hdb he hpl).imp fun _ _ _ q => call_read q
theorem el_callT {o : List PyData → Option (List PyData)} (hc : CallL X (.type T) o) (hg : Gl X x) (hm : X.mg x = none) (hv : bootBuiltins x = some (.type T)) (ha : AB X W (e :: es) fl) (hn : x ≠ "__name__" := by decide) (hdb : (x == ("__debug__" : Str)) = false := by decide)
    (he : starEach (e :: es) X.env = (false, eval e X.env) :: starEach es X.env := by rfl) (hpl : (backTo pos (starEach es X.env)).any (·.1) = false := by rfl) : EL X W (.Call (.Name x p) (e :: es) [] pos) (eCallL o fl) := (pe_callTy hc hg hm hv ha hn hdb he hpl).imp fun _ _ _ q => callL_read q
end
end
end D3

namespace D3
open PySem PySem.Spec PyProof.Rows L2

/-! ### a def's promise where no repr is under way -/
structure FnG (P : Program) (w : World) (K : PySem.W.Frag) (mg : Str → Option Value) (base : Heap) (k : Nat) (f : Addr) (fd : FuncData) (ps : List Str) (sp : Sp) : Prop where
  len : ∀ vs H Q E, sp vs H Q E → vs.length = ps.length
  run : ∀ (A : Around) (outer : List Env) (s : Shared) (H : Hp) (args : Args) (us : List Value) (vs : List V) (Q : VK) (E : XK), Room k A → A.guards = some [] → Env0 P w K mg base A outer s H →
    BindsTo s fd args (ps.zip us) → Vals vs us → sp vs H Q E → codeAny (model P w) A (.call (.ref f) args) (CR (L2.CX P w) outer P w H s Q E) s
section
variable {P : Program} {w : World} {K : PySem.W.Frag} {mg : Str → Option Value} {base : Heap} {j k : Nat} {f : Addr} {fd : FuncData} {ps : List Str} {sp sp' : Sp}
theorem FnG.mono (F : FnG P w K mg base j f fd ps sp) (h : j ≤ k) : FnG P w K mg base k f fd ps sp :=
  ⟨F.len, fun A outer s H args us vs Q E hr => F.run A outer s H args us vs Q E (hr.mono h)⟩
theorem FnG.imp (F : FnG P w K mg base k f fd ps sp) (h : ∀ vs H Q E, sp' vs H Q E → sp vs H Q E) : FnG P w K mg base k f fd ps sp' :=
  ⟨fun vs H Q E q => F.len vs H Q E (h _ _ _ _ q), fun A outer s H args us vs Q E hr hg he hb hv hs => F.run A outer s H args us vs Q E hr hg he hb hv (h _ _ _ _ hs)⟩
/-- the context of a def's body -/
abbrev bodyX (P : Program) (w : World) (K : PySem.W.Frag) (mg : Str → Option Value) (base : Heap) (N : List Str) (qual : Str) (scope : Scope) (f : Addr) (cd : Value) (A : Around) (outer : List Env) (s : Shared) (H : Hp) (E : XK) : Cx := cxOf (L2.CX P w) P w K mg base N qual scope f cd A outer s H E
theorem Fun.okG {x qual : Str} {st : Stmt} {N : List Str} (F : L2.Fun K x qual st f fd) (S : FnScope N ps (defScope st)) (len : ∀ vs H Q E, sp vs H Q E → vs.length = ps.length)
    (hbody : ∀ (cdv : Value) (A : Around) (outer : List Env) (s : Shared) (H : Hp) (vs : List V) (Q : VK) (E : XK), Room k (A.deeper (envOfC qual (defScope st) s.heap.objs.size f cdv)) → (A.deeper (envOfC qual (defScope st) s.heap.objs.size f cdv)).guards = some [] → sp vs H Q E →
      ∃ t, PSs (bodyX P w K mg base N qual (defScope st) f cdv A outer s H E) (defBody st) t ∧ t { nx := fun _ H' => Q .non H', rt := Q } (start N vs) H) : FnG P w K mg base (k + 1) f fd ps sp := by
  obtain ⟨oc, od, kV, doc, pm, an, cdv, ct, osl, rfl, lk, hcd⟩ := F.ex
  refine ⟨len, fun A outer s H args us vs Q E hr hgd e0 hb rv hsp => ?_⟩
  have hl := len _ _ _ _ hsp
  have KX : K.In s.heap := e0.mod.kin.keeps fun b o e => (e0.bs b o e).1
  have lim : s.heap.NoLimit := e0.mod.nolimit.keeps fun b o e => (e0.bs b o e).1
  have kinds : ∀ y ∈ ps.zip us, (defScope st).names.lookup y.1 = some .local ∨ ((defScope st).names.lookup y.1 = some .cell ∧ ((cellsFrom (s.heap.objs.size + 1) (defScope st).names []).lookup y.1).isSome = true) := by
    rintro ⟨n, v⟩ hy
    rcases S.par n (List.of_mem_zip hy).1 with q | q
    · exact .inl q
    · exact .inr ⟨q, PySem.W.cellsFrom_some _ _ _ (.inl q)⟩
  refine codeAny_call_function hr.depth (KX _ _ lk) rfl S.co S.gen rfl (PySem.W.codeRec_of KX hcd) (hb _ _ _ _ ?_)
  refine wpAny_newFunctionEnv_cells S.kind kinds fun env he s1 x => ?_
  subst he
  refine ⟨lim.keeps x.toInCall.keep, codeAny_func ?_⟩
  obtain ⟨t, ht, hq⟩ := hbody cdv A outer s H vs Q E (hr.deeper _) hgd hsp
  have I := inv_start (CX := L2.CX P w) (E := E) S hr.hd e0 hl rv x
  refine wpAny_mono (ht.run [] s1 (start N vs) H _ I hq) (fun fl s' hs => ?_) fun e s' hs => hs
  cases fl with
  | ret u =>
    obtain ⟨v, σ', H', J, r, q⟩ := hs
    exact ⟨v, H', J.os, J.bare, J.base, J.hok, r, q⟩
  | next =>
    obtain ⟨σ', H', J, q⟩ := hs
    exact ⟨.non, H', J.os, J.bare, J.base, J.hok, rfl, q⟩
  | brk => obtain ⟨_, _, _, q⟩ := hs; exact q.elim
  | cont => obtain ⟨_, _, _, q⟩ := hs; exact q.elim
end

/-! ### promises on data -/
/-- what a def does to data -/
abbrev FV := List PyData → Option (Except XV PyData)
def New (F F' H : Hp) : Prop := ∀ a o, F' a = some o → F a = none → H a = none
def spV (K : PySem.W.Frag) (mg : Str → Option Value) (n : Nat) (m : FV) : Sp := fun vs H Q E => vs.length = n ∧ ∃ F ds r, Sb F H ∧ DpAll K F vs ds ∧ m ds = some r ∧
  (∀ d, r = .ok d → PR K F H d Q) ∧
  (∀ x, r = .error x → ∀ c dd F' H', Same F F' → Sb F' H' → Same H H' → New F F' H → XOk K mg F' x c dd → E c dd H')
/-- .. that hands back a new list -/
abbrev FL := List PyData → Option (List PyData)
def spL (K : PySem.W.Frag) (n : Nat) (m : FL) : Sp := fun vs H Q _ => vs.length = n ∧ ∃ F ds r, Sb F H ∧ DpAll K F vs ds ∧ m ds = some r ∧ PL K F H r Q
/-- .. that changes its first argument, a list of ints and lists -/
abbrev FI := List PyData → List PyData → Option (PyData × List PyData)
def spI (K : PySem.W.Frag) (n : Nat) (m : FI) : Sp := fun vs H Q _ => vs.length = n + 1 ∧ ∃ a ws xs es F ds r, vs = .ref a :: ws ∧ Sb F H ∧ F a = none ∧ H a = some (.lst xs) ∧ DpAll K F xs es ∧ DpAll K F ws ds ∧ m es ds = some r ∧
  ∀ v F' H' xs', Same F F' → Sb F' H' → (∀ b o, b ≠ a → H b = some o → H' b = some o) → New F F' H → H' a = some (.lst xs') → DpAll K F' xs' r.2 → Dp K F' v r.1 → Q v H'

section
variable {X : Cx} {W : WX} {e : Expr} {es : List Expr} {fl : M (List PyData)} {k : Nat} {f : Addr} {fd : FuncData} {ps : List Str} {x : Str} {p pos p2 : Pos} {sp : Sp}
theorem run_G {pins : List (Addr × Obj)} {σ : L2.St} {H : Hp} {s : Shared} {Q : VK} {E : L2.St → XK} {us : List Value} {vs : List V} (F : FnG X.prog X.w X.K X.mg X.base k f fd ps sp) (hr : Room k X.A) (hg : X.A.guards = some []) (hb : Binds X.K fd ps []) (hx : PassesAt (L2.CX X.prog X.w) X σ (E σ))
    (I : Inv X pins σ H s) (r : Vals vs us) (h : sp vs H Q (E σ)) : wpAny (model X.prog X.w) X.A (call (.ref f) us) (EP X pins σ Q) X.xe s := by
  have hl : us.length = ps.length := by rw [← r.length]; exact F.len _ _ _ _ h
  have b := hb s us I.kIn (by rw [List.append_nil]; exact hl)
  rw [List.append_nil] at b
  refine wpAny_call (codeAny_mono (F.run X.A X.stack s H ⟨us, []⟩ us vs Q (E σ) hr hg I.env0 b r h) fun r s' hq => ?_)
  cases r with
  | error e => exact hx pins H s e s' I hq
  | ok fl =>
    cases fl with
    | ret u => exact I.after hq
    | next => exact False.elim hq
    | brk => exact False.elim hq
    | cont => exact False.elim hq
theorem pe_callG {E : L2.St → XK} {t : TA} (F : FnG X.prog X.w X.K X.mg X.base k f fd ps sp) (hr : Room k X.A) (hgd : X.A.guards = some []) (hg : Gl X x) (hm : X.mg x = some (.ref f)) (hk : PySem.W.keepIn X.K (.ref f) = true) (hb : Binds X.K fd ps []) (hx : ∀ σ, PassesAt (L2.CX X.prog X.w) X σ (E σ))
    (ha : PA X (e :: es) t) (hdb : (x == ("__debug__" : Str)) = false := by decide) (he : starEach (e :: es) X.env = (false, eval e X.env) :: starEach es X.env := by rfl) (hpl : (backTo pos (starEach es X.env)).any (·.1) = false := by rfl) :
    PE X (.Call (.Name x p) (e :: es) [] pos) (tCallS sp E t) := by
  refine ⟨fun pins s σ H Q I h => ?_⟩
  refine wpAny_Call_Name_kw (ld_glob I hg hm ?_ hdb)
  refine PySem.W.callWith_K (h₀ := X.base) I.ok.mod.kin hk (thn (ha.run pos pins s σ H _ I h) fun us s1 ⟨vs, H1, I1, r, q⟩ => ⟨I1.kIn, ?_⟩) he hpl
  exact run_G F hr hgd hb (hx σ) I1 r q
theorem pe_callG0 {E : L2.St → XK} (F : FnG X.prog X.w X.K X.mg X.base k f fd ps sp) (hr : Room k X.A) (hgd : X.A.guards = some []) (hg : Gl X x) (hm : X.mg x = some (.ref f)) (hk : PySem.W.keepIn X.K (.ref f) = true) (hb : Binds X.K fd ps []) (hx : ∀ σ, PassesAt (L2.CX X.prog X.w) X σ (E σ))
    (hdb : (x == ("__debug__" : Str)) = false := by decide) : PE X (.Call (.Name x p) [] [] pos) (tCallS sp E tNil) := by
  refine ⟨fun pins s σ H Q I h => ?_⟩
  refine wpAny_Call_Name_kw (ld_glob I hg hm ?_ hdb)
  exact PySem.W.callWith_K0 I.kIn hk (run_G (us := []) F hr hgd hb (hx σ) I .nil h)
end
/-- a def that can be called: its name, its promise -/
structure Cal (P : Program) (w : World) (K : PySem.W.Frag) (mg : Str → Option Value) (base : Heap) (k : Nat) (x : Str) (sp : Sp) : Prop where
  ex : ∃ f fd ps, FnG P w K mg base k f fd ps sp ∧ mg x = some (.ref f) ∧ PySem.W.keepIn K (.ref f) = true ∧ Binds K fd ps []
/-- what stands around: not in an except suite, room, no repr under way, an exception is taken -/
structure Ar (X : Cx) (W : WX) (k : Nat) : Prop where
  calm : X.calm = true
  nd : X.N.Nodup
  room : Room k X.A
  gd : X.A.guards = some []
  tk : Takes X W

def eFn (m : FV) (f : M (List PyData)) : M PyData := bnd f fun ds => lfx (m ds)
def eFnL (m : FL) (f : M (List PyData)) : M (List PyData) := bnd f fun ds => lft (m ds)
theorem tA.lfx {α β : Type} {K : PySem.W.Frag} {mg : Str → Option Value} {W : WX} {B : Bs} {σ : L2.St} {ρ : Ev} {F : Hp} {R : RelD β α} {o : Option (Except XV α)} {Q : β → Hp → Prop} (h : tA K mg W R B σ ρ F (lfx o) Q) :
    ∃ r, o = some r ∧ (∀ a, r = .ok a → ∀ b F' H', Same F F' → SI K B σ ρ F' H' → R B σ ρ F' H' b a → Q b H') ∧ (∀ x, r = .error x → ∀ c d F' H', Same F F' → SI K B σ ρ F' H' → XOk K mg F' x c d → W c d σ H') := by
  obtain ⟨r, e, h1, h2⟩ := h
  unfold D3.lfx at e
  cases o with
  | none => cases e
  | some o =>
    cases o with
    | ok a => cases e; exact ⟨_, rfl, fun a' q => by cases q; exact h1 a ρ rfl, fun x q => by cases q⟩
    | error x => cases e; exact ⟨_, rfl, fun a' q => by (cases q), fun x' q => by cases q; exact h2 x ρ rfl⟩
section
variable {X : Cx} {W : WX} {e : Expr} {es : List Expr} {fl : M (List PyData)} {j k n : Nat} {x y : Str} {p pos p2 : Pos} {m : FV} {ml : FL} {mi : FI}
theorem fn_read {σ : L2.St} {H : Hp} {Q : VK} (q : tR X.K X.mg W (rD X.K) (eFn m fl) σ H Q) (hn : ∀ ds r, m ds = some r → ds.length = n) : tCallS (spV X.K X.mg n m) (WE W) (tR X.K X.mg W (rDs X.K) fl) σ H Q := by
  obtain ⟨B, ρ, F, I, q⟩ := q
  refine ⟨B, ρ, F, I, q.bind fun ds ρ1 vs F1 H1 s1 I1 r1 q1 => ?_⟩
  obtain ⟨r, e, h1, h2⟩ := q1.lfx
  exact ⟨(dps_len r1).trans (hn _ _ e), F1, ds, r, I1.sub, r1, e, fun d ed => I1.pr (h1 d ed), fun x ex c dd F' H' a1 a2 a3 a4 xo => h2 x ex c dd F' H' a1 (I1.grow a1 a2 a3 a4) xo⟩
/-- f(e, ..), f a def of the text -/
theorem ev_fn (C : Cal X.prog X.w X.K X.mg X.base k x (spV X.K X.mg n m)) (A : Ar X W j) (hk : k ≤ j) (hg : Gl X x) (ha : AV X W (e :: es) fl) (hn : ∀ ds r, m ds = some r → ds.length = n) (hdb : (x == ("__debug__" : Str)) = false := by decide)
    (he : starEach (e :: es) X.env = (false, eval e X.env) :: starEach es X.env := by rfl) (hpl : (backTo pos (starEach es X.env)).any (·.1) = false := by rfl) : EV X W (.Call (.Name x p) (e :: es) [] pos) (eFn m fl) := by
  obtain ⟨f, fd, ps, F, hm, hkp, hb⟩ := C.ex
  exact (pe_callG F (A.room.mono hk) A.gd hg hm hkp hb (passAt A.tk) ha hdb he hpl).imp fun _ _ _ q => fn_read q hn
theorem ev_fn0 (C : Cal X.prog X.w X.K X.mg X.base k x (spV X.K X.mg 0 m)) (A : Ar X W j) (hk : k ≤ j) (hg : Gl X x) (hn : ∀ ds r, m ds = some r → ds.length = 0) (hdb : (x == ("__debug__" : Str)) = false := by decide) : EV X W (.Call (.Name x p) [] [] pos) (eFn m aNil) := by
  obtain ⟨f, fd, ps, F, hm, hkp, hb⟩ := C.ex
  refine (pe_callG0 F (A.room.mono hk) A.gd hg hm hkp hb (passAt A.tk) hdb).imp fun σ H Q q => ?_
  have q' := fn_read (fl := aNil) q hn
  obtain ⟨B, ρ, F, I, q2⟩ := q'
  exact q2.ret (Same.refl _) I .nil
theorem el_fn (C : Cal X.prog X.w X.K X.mg X.base k x (spL X.K n ml)) (A : Ar X W j) (hk : k ≤ j) (hg : Gl X x) (ha : AV X W (e :: es) fl) (hn : ∀ ds r, ml ds = some r → ds.length = n) (hdb : (x == ("__debug__" : Str)) = false := by decide)
    (he : starEach (e :: es) X.env = (false, eval e X.env) :: starEach es X.env := by rfl) (hpl : (backTo pos (starEach es X.env)).any (·.1) = false := by rfl) : EL X W (.Call (.Name x p) (e :: es) [] pos) (eFnL ml fl) := by
  obtain ⟨f, fd, ps, F, hm, hkp, hb⟩ := C.ex
  refine (pe_callG F (A.room.mono hk) A.gd hg hm hkp hb (passAt A.tk) ha hdb he hpl).imp fun σ H Q ⟨B, ρ, F, I, q⟩ => ?_
  refine ⟨B, ρ, F, I, q.bind fun ds ρ1 vs F1 H1 s1 I1 r1 q1 => ?_⟩
  obtain ⟨r, e, h1⟩ := q1.lft
  exact ⟨(dps_len r1).trans (hn _ _ e), F1, ds, r, I1.sub, r1, e, I1.pl h1⟩
end
/-! ### a lent list -/
def lentD (s : Slot) : Option (List PyData) := match s with
  | .own ds => some ds
  | .io ds => some ds
  | _ => none
def lentS (s : Slot) (ds : List PyData) : Slot := match s with
  | .own _ => .own ds
  | .io _ => .io ds
  | s => s
/-- f(x, e, ..): x, a list of one's own or a lent one, is lent -/
def eFnI (m : FI) (i : Nat) (f : M (List PyData)) : M PyData := bnd (eLook i) fun _ => bnd f fun ds ρ => match ρ[i]? with
  | some s => match lentD s with
    | some xs => match m xs ds with
      | some r => some (.ok r.1 (ρ.set i (lentS s r.2)))
      | none => none
    | none => none
  | none => none
theorem SI.ownP {K : PySem.W.Frag} {B : Bs} {σ : L2.St} {ρ : Ev} {F H : Hp} {i : Nat} {s : Slot} {a : Addr} (I : SI K B σ ρ F H) (e : ρ[i]? = some s) (o : s.isO = true) (es : σ[i]? = some (some (.ref a))) : B.P a = none := by
  have h := I.slot i s e
  cases s with
  | nil => cases o
  | val d => cases o
  | own ds =>
    obtain ⟨b, vs, e1, h1, h2, h3, h4⟩ := h
    rw [es] at e1; cases e1
    cases q : B.P a with
    | none => rfl
    | some o => exact absurd (I.pn a o q) h3
  | io ds =>
    obtain ⟨b, vs, e1, h1, h2, h3, h4⟩ := h
    rw [es] at e1; cases e1
    exact (I.lent a h3).2.2.1
  | ob u =>
    obtain ⟨b, vs, e1, h1, h2, h3, h4⟩ := h
    rw [es] at e1; cases e1
    cases q : B.P a with
    | none => rfl
    | some o => exact absurd (I.pn a o q) h3
/-- a lent list is changed by a callee, new data may be laid -/
theorem SI.lentTo {K : PySem.W.Frag} {B : Bs} {σ : L2.St} {ρ : Ev} {F F' H H' : Hp} {i : Nat} {s : Slot} {a : Addr} {xs : List V} {ds : List PyData} (I : SI K B σ ρ F H) (e : ρ[i]? = some s) (o : s.isO = true) (es : σ[i]? = some (some (.ref a))) (hls : ∀ u, s ≠ .ob u)
    (s1 : Same F F') (s2 : Sb F' H') (s3 : ∀ b o, b ≠ a → H b = some o → H' b = some o) (nw : New F F' H) (hx : H' a = some (.lst xs)) (hd : DpAll K F' xs ds) : SI K B σ (ρ.set i (lentS s ds)) F' H' := by
  obtain ⟨hFa, vs, hHa⟩ := I.ownF e o es
  have nP := I.ownP e o es
  have nF : ∀ b, F b = none → H b ≠ none → F' b = none := fun b h1 h2 => by
    cases q : F' b with
    | none => rfl
    | some o => exact absurd (nw b o q h1) h2
  have hi : i < ρ.length := (List.getElem?_eq_some_iff.mp e).1
  have key : ∀ {j : Nat} {t : Slot}, (ρ.set i (lentS s ds))[j]? = some t → (j = i ∧ t = lentS s ds) ∨ (j ≠ i ∧ ρ[j]? = some t) := fun {j t} ej => by
    by_cases hj : i = j
    · subst hj
      rw [List.getElem?_set_self hi] at ej
      cases ej
      exact .inl ⟨rfl, rfl⟩
    · rw [List.getElem?_set_ne hj] at ej
      exact .inr ⟨fun z => hj z.symm, ej⟩
  refine ⟨I.up.trans s1, s2, fun b o e1 e0 n => ?_, fun b o e1 => ?_, I.pn, fun b n z => ?_, fun b hm => ?_, by rw [List.length_set]; exact I.len, fun j t ej => ?_, fun j k t u b ej ek ot ou fj fk => ?_⟩
  · cases q : F b with
    | some o' => exact I.new b o' q e0 n
    | none => exact I.there b n (nw b o e1 q)
  · exact s3 b o (fun z => by subst z; rw [nP] at e1; cases e1) (I.keep b o e1)
  · have h0 := I.there b n
    by_cases hb : b = a
    · subst hb; rw [hx] at z; cases z
    · cases q : H b with
      | none => exact h0 q
      | some o => rw [s3 b o hb q] at z; cases z
  · obtain ⟨q1, q2, q3, ys, q4⟩ := I.lent b hm
    refine ⟨nF b q1 (by rw [q4]; simp), q2, q3, ?_⟩
    by_cases hb : b = a
    · subst hb; exact ⟨xs, hx⟩
    · exact ⟨ys, s3 b _ hb q4⟩
  · rcases key ej with ⟨rfl, rfl⟩ | ⟨nj, ej⟩
    · have h := I.slot j s e
      cases s with
      | nil => cases o
      | val d => cases o
      | own es' =>
        obtain ⟨b, ws, e1, h1, h2, h3, h4⟩ := h
        rw [es] at e1; cases e1
        exact ⟨a, xs, es, hx, nF a h2 (by rw [h1]; simp), h3, hd⟩
      | io es' =>
        obtain ⟨b, ws, e1, h1, h2, h3, h4⟩ := h
        rw [es] at e1; cases e1
        exact ⟨a, xs, es, hx, nF a h2 (by rw [h1]; simp), h3, hd⟩
      | ob u => exact absurd rfl (hls u)
    · refine (I.slot j t ej).grow s1 fun b ot eb => ?_
      obtain ⟨h1, ys, h2⟩ := I.ownF ej ot eb
      have hb : b ≠ a := fun z => nj (I.sep j i t s a ej e ot o (z ▸ eb) es)
      exact ⟨by rw [s3 b _ hb h2, h2], by rw [nF b h1 (by rw [h2]; simp), h1]⟩
  · have hO : ∀ {j : Nat} {t : Slot}, (ρ.set i (lentS s ds))[j]? = some t → t.isO = true → ∃ t', ρ[j]? = some t' ∧ t'.isO = true := fun {j t} ej ot => by
      rcases key ej with ⟨rfl, rfl⟩ | ⟨_, ej⟩
      · exact ⟨s, e, o⟩
      · exact ⟨t, ej, ot⟩
    obtain ⟨t', e1, o1⟩ := hO ej ot
    obtain ⟨u', e2, o2⟩ := hO ek ou
    exact I.sep j k t' u' b e1 e2 o1 o2 fj fk
section
variable {X : Cx} {W : WX} {e : Expr} {es : List Expr} {fl : M (List PyData)} {j k n : Nat} {x y : Str} {p pos p2 : Pos} {mi : FI}
theorem lentD_isO {s : Slot} {ds : List PyData} (h : lentD s = some ds) : s.isO = true := by cases s <;> first | rfl | cases h
theorem lentD_ob {s : Slot} {ds : List PyData} (h : lentD s = some ds) : ∀ u, s ≠ .ob u := fun u e => by subst e; cases h
theorem SI.lentOf {K : PySem.W.Frag} {B : Bs} {σ : L2.St} {ρ : Ev} {F H : Hp} {i : Nat} {s : Slot} {ds : List PyData} (I : SI K B σ ρ F H) (e : ρ[i]? = some s) (h : lentD s = some ds) : ∃ a vs, σ[i]? = some (some (.ref a)) ∧ H a = some (.lst vs) ∧ F a = none ∧ DpAll K F vs ds := by
  have q := I.slot i s e
  cases s with
  | nil => cases h
  | val d => cases h
  | own es => cases h; obtain ⟨a, vs, e1, h1, h2, _, h4⟩ := q; exact ⟨a, vs, e1, h1, h2, h4⟩
  | io es => cases h; obtain ⟨a, vs, e1, h1, h2, _, h4⟩ := q; exact ⟨a, vs, e1, h1, h2, h4⟩
  | ob u => cases h
theorem ev_fnI (i : Nat) (C : Cal X.prog X.w X.K X.mg X.base k x (spI X.K n mi)) (A : Ar X W j) (hk : k ≤ j) (hg : Gl X x) (ha : AV X W es fl) (hn : ∀ xs ds r, mi xs ds = some r → ds.length = n) (hN : X.N[i]? = some y := by rfl)
    (hv : Vis X.env.scope y := by first | exact Or.inl rfl | exact Or.inr (Or.inl rfl) | exact Or.inr (Or.inr rfl)) (hd : (y == ("__debug__" : Str)) = false := by decide) (hcd : (y == ("__classdict__" : Str)) = false := by decide) (hdb : (x == ("__debug__" : Str)) = false := by decide)
    (he : starEach (.Name y p2 :: es) X.env = (false, eval (.Name y p2) X.env) :: starEach es X.env := by rfl) (hpl : (backTo pos (starEach es X.env)).any (·.1) = false := by rfl) : EV X W (.Call (.Name x p) (.Name y p2 :: es) [] pos) (eFnI mi i fl) := by
  obtain ⟨f, fd, ps, F, hm, hkp, hb⟩ := C.ex
  refine (pe_callG F (A.room.mono hk) A.gd hg hm hkp hb (passAt A.tk) (pa_cons (pe_var hN hv hd hcd) ha he) hdb he hpl).imp fun σ H Q ⟨B, ρ, F, I, q⟩ => ?_
  obtain ⟨d0, v, _, ev, q0⟩ := q.look I
  refine ⟨v, ev, B, ρ, F, I, q0.bind fun ds ρ1 vs F1 H1 s1 I1 r1 q1 => ?_⟩
  obtain ⟨r, er, h1, _⟩ := q1
  dsimp only at er
  cases es : ρ1[i]? with
  | none => rw [es] at er; cases er
  | some s =>
    rw [es] at er
    dsimp only at er
    cases el : lentD s with
    | none => rw [el] at er; cases er
    | some xs =>
      rw [el] at er
      dsimp only at er
      cases em : mi xs ds with
      | none => rw [em] at er; cases er
      | some o =>
        rw [em] at er
        cases er
        obtain ⟨a, ws, e1, h2, h3, h4⟩ := I1.lentOf es el
        rw [ev] at e1; cases e1
        refine ⟨by rw [List.length_cons, dps_len r1, hn _ _ _ em], a, vs, ws, xs, F1, ds, o, rfl, I1.sub, h3, h2, h4, r1, em, fun v F' H' xs' t1 t2 t3 t4 t5 t6 t7 => ?_⟩
        exact h1 _ _ rfl v F' H' t1 (I1.lentTo es (lentD_isO el) ev (lentD_ob el) t1 t2 t3 t4 t5 t6) t7
end
end D3

namespace D3
open PySem PySem.Spec PyProof.Rows L2

/-! ### statements -/
inductive RV where
  | val (d : PyData)
  | own (ds : List PyData)
  | ob (o : Od)
inductive Fl where
  | nx
  | rt (r : RV)
  | bk
  | ct
def RvOk (K : PySem.W.Frag) (B : Bs) (σ : L2.St) (ρ : Ev) (F H : Hp) (v : V) : RV → Prop
  | .val d => Dp K F v d
  | .own ds => ∃ a, v = .ref a ∧ Fresh K B σ ρ F H a ds
  | .ob o => ∃ a, v = .ref a ∧ FreshO K B σ ρ F H a o
def EndOk (K : PySem.W.Frag) (B : Bs) (ρ : Ev) (F : Hp) (D : Ends) : Fl → Prop
  | .nx => ∀ σ' F' H', Same F F' → SI K B σ' ρ F' H' → D.nx σ' H'
  | .rt r => ∀ v σ' F' H', Same F F' → SI K B σ' ρ F' H' → RvOk K B σ' ρ F' H' v r → D.rt v H'
  | .bk => ∀ σ' F' H', Same F F' → SI K B σ' ρ F' H' → D.bk σ' H'
  | .ct => ∀ σ' F' H', Same F F' → SI K B σ' ρ F' H' → D.ct σ' H'
theorem EndOk.up {K : PySem.W.Frag} {B : Bs} {ρ : Ev} {F F' : Hp} {D : Ends} {fl : Fl} (h : EndOk K B ρ F D fl) (s : Same F F') : EndOk K B ρ F' D fl := by
  cases fl with
  | nx => exact fun σ2 F2 H2 s2 => h σ2 F2 H2 (s.trans s2)
  | rt r => exact fun v σ2 F2 H2 s2 => h v σ2 F2 H2 (s.trans s2)
  | bk => exact fun σ2 F2 H2 s2 => h σ2 F2 H2 (s.trans s2)
  | ct => exact fun σ2 F2 H2 s2 => h σ2 F2 H2 (s.trans s2)
section
variable (K : PySem.W.Frag) (mg : Str → Option Value) (W : WX)
def tAS (B : Bs) (ρ : Ev) (F : Hp) (f : M Fl) (D : Ends) : Prop := ∃ r, f ρ = some r ∧ (∀ fl ρ', r = .ok fl ρ' → EndOk K B ρ' F D fl) ∧
  (∀ x ρ', r = .ex x ρ' → ∀ c d σ' F' H', Same F F' → SI K B σ' ρ' F' H' → XOk K mg F' x c d → W c d σ' H')
def tS (f : M Fl) : TS := fun D σ H => ∃ B ρ F, SI K B σ ρ F H ∧ tAS K mg W B ρ F f D
end
abbrev SV (X : Cx) (W : WX) (st : Stmt) (f : M Fl) : Prop := PS X st (tS X.K X.mg W f)
abbrev BV (X : Cx) (W : WX) (st : List Stmt) (f : M Fl) : Prop := PSs X st (tS X.K X.mg W f)
section
variable {α β : Type} {K : PySem.W.Frag} {mg : Str → Option Value} {W : WX} {B : Bs} {σ : L2.St} {ρ ρ' : Ev} {F F' H H' : Hp} {R : RelD β α} {D : Ends}
theorem tAS.up {f : M Fl} (h : tAS K mg W B ρ F f D) (s : Same F F') : tAS K mg W B ρ F' f D := by
  obtain ⟨r, e, h1, h2⟩ := h
  exact ⟨r, e, fun fl ρ' q => (h1 fl ρ' q).up s, fun x ρ' q c d σ' F2 H2 s2 => h2 x ρ' q c d σ' F2 H2 (s.trans s2)⟩
theorem tAS.bind {f : M α} {g : α → M Fl} {P : β → Hp → Prop} (h : tAS K mg W B ρ F (bnd f g) D) (k : ∀ a ρ1 b F1 H1, Same F F1 → SI K B σ ρ1 F1 H1 → R B σ ρ1 F1 H1 b a → tAS K mg W B ρ1 F1 (g a) D → P b H1) : tA K mg W R B σ ρ F f P := by
  obtain ⟨r, e, h1, h2⟩ := h
  unfold bnd at e
  cases ef : f ρ with
  | none => rw [ef] at e; cases e
  | some r1 =>
    rw [ef] at e
    cases r1 with
    | ok a ρ1 =>
      refine ⟨_, ef, fun a' ρ' q b F1 H1 s1 I1 r1 => ?_, fun x ρ' q => (by cases q)⟩
      cases q
      refine k a ρ1 b F1 H1 s1 I1 r1 (tAS.up ⟨r, e, h1, h2⟩ s1)
    | ex x ρ1 =>
      cases e
      refine ⟨_, ef, fun a' ρ' q => (by cases q), fun x' ρ' q c d F1 H1 s1 I1 xo => ?_⟩
      cases q
      exact h2 x ρ1 rfl c d σ F1 H1 s1 I1 xo
theorem tAS.ret {fl : Fl} (h : tAS K mg W B ρ F (ret fl) D) : EndOk K B ρ F D fl := by
  obtain ⟨r, e, h1, _⟩ := h
  cases e
  exact h1 fl ρ rfl
end
/-- the name's state is set, on to the next -/
def nxt (i : Nat) (s : Slot) : M Fl := fun ρ => some (.ok .nx (ρ.set i s))
theorem tAS.nxt {K : PySem.W.Frag} {mg : Str → Option Value} {W : WX} {B : Bs} {ρ : Ev} {F : Hp} {D : Ends} {i : Nat} {s : Slot} (h : tAS K mg W B ρ F (nxt i s) D) : EndOk K B (ρ.set i s) F D .nx := by
  obtain ⟨r, e, h1, _⟩ := h
  cases e
  exact h1 .nx _ rfl
def seqS (f g : M Fl) : M Fl := fun ρ => match f ρ with
  | some (.ok .nx ρ1) => g ρ1
  | r => r
section
variable {X : Cx} {W : WX} {e c : Expr} {es : List Expr} {f g : M PyData} {fl gl : M (List PyData)} {ft : M Bool} {st : Stmt} {rest body orelse : List Stmt} {s1 s2 : M Fl} {pos p2 p3 : Pos} {j k : Nat}
theorem bv_nil : BV X W [] (ret .nx) := pss_nil.imp fun D σ H ⟨B, ρ, F, I, h⟩ => h.ret σ F H (Same.refl _) I
theorem bv_one (h : SV X W st s1) : BV X W [st] s1 := pss_one h
theorem bv_cons (h1 : SV X W st s1) (h2 : BV X W rest s2) : BV X W (st :: rest) (seqS s1 s2) := (pss_cons h1 h2).imp fun D σ H ⟨B, ρ, F, I, r, e, q1, q2⟩ => by
  unfold seqS at e
  cases ef : s1 ρ with
  | none => rw [ef] at e; cases e
  | some r1 =>
    rw [ef] at e
    cases r1 with
    | ex x ρ1 => cases e; exact ⟨B, ρ, F, I, _, ef, fun fl ρ' q => (by cases q), q2⟩
    | ok fl ρ1 =>
      cases fl with
      | nx =>
        refine ⟨B, ρ, F, I, _, ef, fun fl ρ' q => ?_, fun x ρ' q => (by cases q)⟩
        cases q
        exact fun σ' F' H' s' I' => ⟨B, _, F', I', tAS.up ⟨r, e, q1, q2⟩ s'⟩
      | rt v => cases e; exact ⟨B, ρ, F, I, _, ef, fun fl ρ' q => (by cases q; exact q1 _ _ rfl), fun x ρ' q => (by cases q)⟩
      | bk => cases e; exact ⟨B, ρ, F, I, _, ef, fun fl ρ' q => (by cases q; exact q1 _ _ rfl), fun x ρ' q => (by cases q)⟩
      | ct => cases e; exact ⟨B, ρ, F, I, _, ef, fun fl ρ' q => (by cases q; exact q1 _ _ rfl), fun x ρ' q => (by cases q)⟩
theorem sv_pass : SV X W (.Pass pos) (ret .nx) := ps_pass.imp fun D σ H ⟨B, ρ, F, I, h⟩ => h.ret σ F H (Same.refl _) I
theorem sv_break : SV X W (.Break pos) (ret .bk) := ps_break.imp fun D σ H ⟨B, ρ, F, I, h⟩ => h.ret σ F H (Same.refl _) I
theorem sv_cont : SV X W (.Continue pos) (ret .ct) := ps_continue.imp fun D σ H ⟨B, ρ, F, I, h⟩ => h.ret σ F H (Same.refl _) I
def sDrop {α : Type} (f : M α) : M Fl := bnd f fun _ => ret .nx
theorem sv_expr (he : EV X W e f) (hs : swapsWith e none pos.line X.env = pure false := by rfl) : SV X W (.Expr e pos) (sDrop f) := (ps_expr he hs).imp fun D σ H ⟨B, ρ, F, I, h⟩ => ⟨B, ρ, F, I, h.bind fun d ρ1 v F1 H1 s1 I1 r1 q1 => q1.ret σ F1 H1 (Same.refl _) I1⟩
def sRet (f : M PyData) : M Fl := bnd f fun d => ret (.rt (.val d))
def sRetL (f : M (List PyData)) : M Fl := bnd f fun d => ret (.rt (.own d))
theorem sv_ret (he : EV X W e f) : SV X W (.Return (some e) pos) (sRet f) := (ps_ret he).imp fun D σ H ⟨B, ρ, F, I, h⟩ => ⟨B, ρ, F, I, h.bind fun d ρ1 v F1 H1 s1 I1 r1 q1 => q1.ret v σ F1 H1 (Same.refl _) I1 r1⟩
theorem sv_retL (he : EL X W e fl) : SV X W (.Return (some e) pos) (sRetL fl) := (ps_ret he).imp fun D σ H ⟨B, ρ, F, I, h⟩ => ⟨B, ρ, F, I, h.bind fun d ρ1 v F1 H1 s1 I1 r1 q1 => q1.ret v σ F1 H1 (Same.refl _) I1 r1⟩
theorem sv_retN : SV X W (.Return none pos) (ret (.rt (.val .none))) := ps_retN.imp fun D σ H ⟨B, ρ, F, I, h⟩ => h.ret .non σ F H (Same.refl _) I .non
/-- return x, x a list of one's own -/
def sRetO (i : Nat) : M Fl := fun ρ => match ρ[i]? with
  | some (.own ds) => some (.ok (.rt (.own ds)) (ρ.set i .nil))
  | some (.val d) => some (.ok (.rt (.val d)) ρ)
  | _ => none
theorem SI.take {K : PySem.W.Frag} {B : Bs} {σ : L2.St} {ρ : Ev} {F H : Hp} (I : SI K B σ ρ F H) {i : Nat} {ds : List PyData} (e : ρ[i]? = some (.own ds)) :
    ∃ a, σ[i]? = some (some (.ref a)) ∧ SI K B σ (ρ.set i .nil) F H ∧ Fresh K B σ (ρ.set i .nil) F H a ds := by
  obtain ⟨a, vs, es, h1, h2, h3, h4⟩ := I.slot i _ e
  have hi : i < ρ.length := (List.getElem?_eq_some_iff.mp e).1
  have eσ : σ.set i (some (.ref a)) = σ := by
    obtain ⟨hl, ei⟩ := List.getElem?_eq_some_iff.mp es
    rw [← ei, List.set_getElem_self]
  have I' := I.set (i := i) (v := .ref a) (s := .nil) trivial fun o => by cases o
  rw [eσ] at I'
  exact ⟨a, es, I', ⟨⟨vs, h1, h4⟩, h2, h3, fun j s ej os esj => by
    by_cases hj : i = j
    · subst hj
      rw [List.getElem?_set_self hi] at ej
      cases ej; cases os
    · rw [List.getElem?_set_ne hj] at ej
      exact hj (I.sep i j _ s a e ej rfl os es esj)⟩⟩
theorem sv_retO (i : Nat) {x : Str} (hN : X.N[i]? = some x := by rfl) (hv : Vis X.env.scope x := by first | exact Or.inl rfl | exact Or.inr (Or.inl rfl) | exact Or.inr (Or.inr rfl)) (hd : (x == ("__debug__" : Str)) = false := by decide)
    (hcd : (x == ("__classdict__" : Str)) = false := by decide) : SV X W (.Return (some (.Name x p2)) pos) (sRetO i) := (ps_ret (pe_var hN hv hd hcd)).imp fun D σ H ⟨B, ρ, F, I, r, e, h1, _⟩ => by
  unfold sRetO at e
  cases q : ρ[i]? with
  | none => rw [q] at e; cases e
  | some s =>
    rw [q] at e
    cases s with
    | nil => cases e
    | io ds => cases e
    | ob o => cases e
    | val d =>
      cases e
      obtain ⟨v, e1, e2⟩ := I.slot i _ q
      exact ⟨v, e1, h1 _ _ rfl v σ F H (Same.refl _) I e2⟩
    | own ds =>
      cases e
      obtain ⟨a, e1, I1, f1⟩ := I.take q
      exact ⟨.ref a, e1, h1 _ _ rfl _ σ F H (Same.refl _) I1 ⟨a, rfl, f1⟩⟩
def sSet (i : Nat) (f : M PyData) : M Fl := bnd f fun d => nxt i (.val d)
def sSetL (i : Nat) (f : M (List PyData)) : M Fl := bnd f fun d => nxt i (.own d)
theorem sv_set (i : Nat) {x : Str} (hN : X.N.Nodup) (he : EV X W e f) (hi : X.N[i]? = some x := by rfl) (hx : Loc X.env.scope x := by first | exact Or.inl rfl | exact Or.inr rfl) (hs : swapsWith e (some (.Name x p2)) pos.line X.env = pure false := by rfl)
    (hf : X.fn x = true ∨ X.env.scope.names.lookup x = some .local := by first | exact .inl rfl | exact .inr rfl) : SV X W (.Assign [.Name x p2] e pos) (sSet i f) := (ps_set hN hi hx he hs hf).imp fun D σ H ⟨B, ρ, F, I, h⟩ =>
  ⟨B, ρ, F, I, h.bind fun d ρ1 v F1 H1 s1 I1 r1 q1 => q1.nxt _ F1 H1 (Same.refl _) (I1.setV r1)⟩
theorem sv_setL (i : Nat) {x : Str} (hN : X.N.Nodup) (he : EL X W e fl) (hi : X.N[i]? = some x := by rfl) (hx : Loc X.env.scope x := by first | exact Or.inl rfl | exact Or.inr rfl) (hs : swapsWith e (some (.Name x p2)) pos.line X.env = pure false := by rfl)
    (hf : X.fn x = true ∨ X.env.scope.names.lookup x = some .local := by first | exact .inl rfl | exact .inr rfl) : SV X W (.Assign [.Name x p2] e pos) (sSetL i fl) := (ps_set hN hi hx he hs hf).imp fun D σ H ⟨B, ρ, F, I, h⟩ =>
  ⟨B, ρ, F, I, h.bind fun d ρ1 v F1 H1 s1 I1 r1 q1 => by
    obtain ⟨a, rfl, fr⟩ := r1
    exact q1.nxt _ F1 H1 (Same.refl _) (I1.setL fr)⟩
theorem sv_if (hc : TV X W c ft) (ha : BV X W body s1) (hb : BV X W orelse s2) : SV X W (.If c body orelse pos) (eIf ft s1 s2) := (ps_if hc ha hb).imp fun D σ H ⟨B, ρ, F, I, h⟩ => ⟨B, ρ, F, I, h.bind fun d ρ1 v F1 H1 s1 I1 r1 q1 => by
  rw [show v = d from r1]
  cases d with
  | true => rw [if_pos rfl] at q1 ⊢; exact ⟨B, ρ1, F1, I1, q1⟩
  | false => rw [if_neg (by decide)] at q1 ⊢; exact ⟨B, ρ1, F1, I1, q1⟩⟩
end

/-! ### targets -/
/-- what a target gets: data, or (rw) a new tuple of data that goes no further -/
def Itm (rw : Bool) (K : PySem.W.Frag) (F H : Hp) (v : V) (d : PyData) : Prop := Dp K F v d ∨ (rw = true ∧ ∃ a vs ds, v = .ref a ∧ d = .tuple ds ∧ H a = some (.tup vs) ∧ DpAll K F vs ds)
theorem Itm.dp {K : PySem.W.Frag} {F H : Hp} {v : V} {d : PyData} (h : Itm false K F H v d) : Dp K F v d := by
  rcases h with h | ⟨h, _⟩
  · exact h
  · cases h
/-- a target's reading: the slots that it sets -/
def tG (rw : Bool) (K : PySem.W.Frag) (as : PyData → Ev → Option Ev) (vs : List Nat) : TG := fun v σ H Q => ∃ B ρ F d ρ', SI K B σ ρ F H ∧ Itm rw K F H v d ∧ as d ρ = some ρ' ∧
  ∀ σ', SI K B σ' ρ' F H → σ'.length = σ.length → (∀ j, j ∉ vs → σ'[j]? = σ[j]?) → Q σ' H
abbrev GV (X : Cx) (tg : Expr) (as : PyData → Ev → Option Ev) (vs : List Nat) (rw : Bool := false) : Prop := PG X tg (tG rw X.K as vs)
def tGs (K : PySem.W.Frag) (as : List PyData → Ev → Option Ev) (vs : List Nat) : TGs := fun v σ H Q => ∃ B ρ F d ρ', SI K B σ ρ F H ∧ DpAll K F v d ∧ as d ρ = some ρ' ∧
  ∀ σ', SI K B σ' ρ' F H → σ'.length = σ.length → (∀ j, j ∉ vs → σ'[j]? = σ[j]?) → Q σ' H
abbrev GVs (X : Cx) (tg : List Expr) (as : List PyData → Ev → Option Ev) (vs : List Nat) : Prop := PGs X tg (tGs X.K as vs)
def gNm (i : Nat) : PyData → Ev → Option Ev := fun d ρ => some (ρ.set i (.val d))
def gN0 : List PyData → Ev → Option Ev := fun ds ρ => match ds with
  | [] => some ρ
  | _ => none
def gCn (a : PyData → Ev → Option Ev) (b : List PyData → Ev → Option Ev) : List PyData → Ev → Option Ev := fun ds ρ => match ds with
  | d :: ds => (a d ρ).bind (b ds)
  | [] => none
def gTp (n : Nat) (b : List PyData → Ev → Option Ev) : PyData → Ev → Option Ev := fun d ρ => match d with
  | .tuple ds => if ds.length = n then b ds ρ else none
  | _ => none
section
variable {X : Cx} {e : Expr} {es : List Expr} {as : PyData → Ev → Option Ev} {bs : List PyData → Ev → Option Ev} {vs ws : List Nat} {pos : Pos}
theorem _root_.L2.PG.imp {t t' : TG} {tg : Expr} (h : PG X tg t) (q : ∀ v σ H Q, t' v σ H Q → t v σ H Q) : PG X tg t' := ⟨fun pins s σ H v u Q I r w => h.run pins s σ H v u Q I r (q v σ H Q w)⟩
theorem _root_.L2.PGs.imp {t t' : TGs} {tg : List Expr} (h : PGs X tg t) (q : ∀ v σ H Q, t' v σ H Q → t v σ H Q) : PGs X tg t' := ⟨fun pins s σ H v u Q I r w => h.run pins s σ H v u Q I r (q v σ H Q w)⟩
theorem gv_name (i : Nat) {x : Str} (hN : X.N.Nodup) (hi : X.N[i]? = some x := by rfl) (hx : Loc X.env.scope x := by first | exact Or.inl rfl | exact Or.inr rfl) (hf : X.fn x = true ∨ X.env.scope.names.lookup x = some .local := by first | exact .inl rfl | exact .inr rfl) : GV X (.Name x pos) (gNm i) [i] :=
  (pg_name hN hi hx hf).imp fun v σ H Q ⟨B, ρ, F, d, ρ', I, h, e, q⟩ => by
    cases e
    exact q _ (I.setV h.dp) List.length_set fun j hj => List.getElem?_set_ne fun z => hj (by simp [z])
theorem gvs_nil : GVs X [] gN0 [] := pgs_nil.imp fun v σ H Q ⟨B, ρ, F, d, ρ', I, h, e, q⟩ => by
  cases h with
  | nil => cases e; exact ⟨rfl, q σ I rfl fun _ _ => rfl⟩
  | cons _ _ => cases e
theorem gvs_cons (h1 : GV X e as vs) (h2 : GVs X es bs ws) (hs : (assignEach (e :: es) X.env).map (·.2) = assign e X.env :: (assignEach es X.env).map (·.2) := by rfl) : GVs X (e :: es) (gCn as bs) (vs ++ ws) := (pgs_cons h1 h2 hs).imp fun v σ H Q ⟨B, ρ, F, d, ρ', I, h, e, q⟩ => by
  cases h with
  | nil => cases e
  | @cons v1 vr d1 dr r1 rr =>
    have e' : (as d1 ρ).bind (bs dr) = some ρ' := e
    cases ea : as d1 ρ with
    | none => rw [ea] at e'; cases e'
    | some ρ1 =>
      rw [ea] at e'
      exact ⟨v1, vr, rfl, B, ρ, F, d1, ρ1, I, .inl r1, ea, fun σ1 I1 l1 k1 => ⟨B, ρ1, F, dr, ρ', I1, rr, e', fun σ2 I2 l2 k2 => q σ2 I2 (l2.trans l1) fun j hj => by
        rw [List.mem_append, not_or] at hj
        rw [k2 j hj.2, k1 j hj.1]⟩⟩
theorem gv_tup {rw : Bool} {k n : Nat} (hc : X.calm = true) (h : GVs X es bs vs) (hn : (assignEach es X.env).length = n := by rfl) (hst : (assignEach es X.env).findIdx? (·.1) = none := by rfl) : GV X (.Tuple es k pos) (gTp n bs) vs rw := (pg_tup hc h hn hst).imp fun v σ H Q ⟨B, ρ, F, d, ρ', I, h, e, q⟩ => by
  cases d <;> simp only [gTp] at e <;> try (cases e; done)
  split at e
  · rename_i hl
    rcases h with h | ⟨_, a, xs, ds, rfl, ed, h1, h2⟩
    · cases h with
      | @tup a xs ds h1 h2 => exact ⟨a, xs, rfl, sqt_up I.sub h1, (dps_len h2).trans hl, B, ρ, F, _, ρ', I, h2, e, q⟩
    · cases ed
      exact ⟨a, xs, rfl, .inl (.inl h1), (dps_len h2).trans hl, B, ρ, F, _, ρ', I, h2, e, q⟩
  · cases e
end
def sAsg (f : M PyData) (as : PyData → Ev → Option Ev) : M Fl := bnd f fun d ρ => match as d ρ with
  | some ρ' => some (.ok .nx ρ')
  | none => none
section
variable {X : Cx} {W : WX} {e c tg : Expr} {es : List Expr} {f g : M PyData} {fl gl : M (List PyData)} {as : PyData → Ev → Option Ev} {vs : List Nat} {pos p2 p3 : Pos}
/-- a, b = e -/
theorem sv_asg (he : EV X W e f) (hg : GV X tg as vs) (hs : swapsWithSole [tg] e pos.line X.env = pure false := by rfl) (hw : swappedStores [tg] e X.env = pure none := by rfl) (h1 : (assignEach [tg] X.env).map (·.2) = [assign tg X.env] := by rfl) : SV X W (.Assign [tg] e pos) (sAsg f as) :=
  (ps_asg he hg hs hw h1).imp fun D σ H ⟨B, ρ, F, I, h⟩ => ⟨B, ρ, F, I, h.bind fun d ρ1 v F1 H1 s1 I1 r1 q1 => by
    obtain ⟨r, er, h1, h2⟩ := q1
    dsimp only at er
    cases ea : as d ρ1 with
    | none => rw [ea] at er; cases er
    | some ρ2 =>
      rw [ea] at er
      cases er
      exact ⟨B, ρ1, F1, d, ρ2, I1, .inl r1, ea, fun σ2 I2 _ _ => h1 _ _ rfl σ2 F1 H1 (Same.refl _) I2⟩⟩
end
end D3

namespace D3
open PySem PySem.Spec PyProof.Rows L2

/-! ### changes of a list of one's own -/
def nFl (o : Option Ev) : Option (Rs Fl) := match o with
  | some ρ => some (.ok .nx ρ)
  | none => none
/-- x stands for a list of one's own, or a lent one -/
def eOwn (i : Nat) : M Unit := fun ρ => match ρ[i]? with
  | some s => if (lentD s).isSome then some (.ok () ρ) else none
  | none => none
/-- x.append(e) -/
def appS (i : Nat) (d : PyData) (ρ : Ev) : Option Ev := match ρ[i]? with
  | some s => match lentD s with
    | some ds => if ds.length < sizeLine then some (ρ.set i (lentS s (ds ++ [d]))) else none
    | none => none
  | none => none
def sApp (i : Nat) (f : M PyData) : M Fl := bnd (eOwn i) fun _ => bnd f fun d ρ => nFl (appS i d ρ)
def extS (i : Nat) (e : PyData) (ρ : Ev) : Option Ev := match ρ[i]? with
  | some s => match lentD s, e with
    | some ds, .list es => if ds.length + es.length ≤ sizeLine then some (ρ.set i (lentS s (ds ++ es))) else none
    | _, _ => none
  | none => none
def sExt (i : Nat) (f : M PyData) : M Fl := bnd (eOwn i) fun _ => bnd f fun d ρ => nFl (extS i d ρ)
/-- x[j] = d -/
def putS (i : Nat) (d k : PyData) (ρ : Ev) : Option Ev := match ρ[i]? with
  | some s => match lentD s, k with
    | some ds, .int k => match ixN ds.length k with
      | some j => some (ρ.set i (lentS s (ds.set j d)))
      | none => none
    | _, _ => none
  | none => none
def sPut (i : Nat) (f : M PyData) (g : M PyData) : M Fl := bnd f fun d => bnd (eOwn i) fun _ => bnd g fun k ρ => nFl (putS i d k ρ)
theorem tAS.own {K : PySem.W.Frag} {mg : Str → Option Value} {W : WX} {B : Bs} {σ : L2.St} {ρ : Ev} {F H : Hp} {D : Ends} {i : Nat} {g : Unit → M Fl} (h : tAS K mg W B ρ F (bnd (eOwn i) g) D) (I : SI K B σ ρ F H) :
    ∃ a vs, σ[i]? = some (some (.ref a)) ∧ H a = some (.lst vs) ∧ tAS K mg W B ρ F (g ()) D := by
  obtain ⟨r, e, h1, h2⟩ := h
  unfold bnd eOwn at e
  cases q : ρ[i]? with
  | none => rw [q] at e; cases e
  | some s =>
    rw [q] at e
    have hs := I.slot i s q
    cases s with
    | nil => cases e
    | val d => cases e
    | own ds => obtain ⟨a, vs, e1, e2, _⟩ := hs; exact ⟨a, vs, e1, e2, r, e, h1, h2⟩
    | io ds => obtain ⟨a, vs, e1, e2, _⟩ := hs; exact ⟨a, vs, e1, e2, r, e, h1, h2⟩
    | ob o => cases e
theorem tAS.look {K : PySem.W.Frag} {mg : Str → Option Value} {W : WX} {B : Bs} {σ : L2.St} {ρ : Ev} {F H : Hp} {D : Ends} {i : Nat} {g : PyData → M Fl} (h : tAS K mg W B ρ F (bnd (eLook i) g) D) (I : SI K B σ ρ F H) :
    ∃ d v, D3.look ρ i = some d ∧ σ[i]? = some (some v) ∧ tAS K mg W B ρ F (g d) D := by
  obtain ⟨r, e, h1, h2⟩ := h
  unfold bnd eLook at e
  cases q : D3.look ρ i with
  | none => rw [q] at e; cases e
  | some d =>
    rw [q] at e
    obtain ⟨v, e1, _⟩ := I.look q
    exact ⟨d, v, rfl, e1, r, e, h1, h2⟩
theorem tAS.fl {K : PySem.W.Frag} {mg : Str → Option Value} {W : WX} {B : Bs} {ρ : Ev} {F : Hp} {D : Ends} {o : Ev → Option Ev} (h : tAS K mg W B ρ F (fun ρ => nFl (o ρ)) D) : ∃ ρ', o ρ = some ρ' ∧ EndOk K B ρ' F D .nx := by
  obtain ⟨r, e, h1, h2⟩ := h
  dsimp only at e
  cases q : o ρ with
  | none => rw [q] at e; cases e
  | some ρ' => rw [q] at e; cases e; exact ⟨ρ', rfl, h1 _ _ rfl⟩
/-- a list of one's own, or a lent one, is changed -/
theorem SI.change {K : PySem.W.Frag} {B : Bs} {σ : L2.St} {ρ : Ev} {F H : Hp} {i : Nat} {s : Slot} {a : Addr} {xs : List V} {ds : List PyData} (I : SI K B σ ρ F H) (e : ρ[i]? = some s) (o : s.isO = true) (es : σ[i]? = some (some (.ref a))) (hls : ∀ u, s ≠ .ob u) (hd : DpAll K F xs ds) : SI K B σ (ρ.set i (lentS s ds)) F (upd H a (.lst xs)) :=
  I.lentTo e o es hls (Same.refl _) (I.sub.of fun b o e1 => by
    obtain ⟨h1, _⟩ := I.ownF e ‹_› es
    have hb : b ≠ a := fun z => by subst z; rw [h1] at e1; cases e1
    rw [upd_ne hb]; exact I.sub.s _ _ e1) (fun b o hb e1 => (upd_ne hb).trans e1) (fun b o e1 e0 => by rw [e0] at e1; cases e1) upd_same hd
section
open PySem.AutoSeq1 PySem.MeetsSeq PySem.MeetsSeq2 PySem.MeetsSeq3
theorem ext_any (l b : Addr) (xs ys : Array Value) (n n2 : Nat) (dd2 : Option Addr) (sl2 : Array (Option Value)) (c0 : ¬(!xs.isEmpty && Builtin.List.listTooLong (xs.size + ys.size)) = true) (c1 : xs.size ≤ sizeLine) (c2 : xs.size + ys.size ≤ sizeLine + 1) :
    Meets (Builtin.«list.extend» ⟨[.ref l, .ref b], []⟩) (fun _ R s => s.heap.get? l = some { cls := .type "list", data := .seq xs n } ∧ s.heap.get? b = some { cls := .type "list", dict := dd2, data := .seq ys n2, slots := sl2 } ∧ R (.ok (.ret Value.none)) { s with heap := s.heap.update l (Obj.mapSeq fun x => x ++ ys) }) :=
  .of_wp fun prog w A R s h => by
    obtain ⟨hp, g, d, tk, os⟩ := s
    obtain ⟨hl, hb, h⟩ := h
    have g1 := idx_int
    have g2 := AutoSeq1.sub_tuple_tuple
    have g3 := AutoSeq1.sub_list_list
    have g4 := AutoSeq1.sub_tuple_list
    have g5 := AutoSeq1.sub_list_tuple
    have hz' : (xs ++ ys).size ≤ sizeLine + 1 := by rw [Array.size_append]; exact c2
    wp_walk using (wpAny_updateSeq hl rfl (hz := c1) (_hz' := hz')), wpAny_loadPart' hl, wpAny_loadPart' hb
    exact ⟨_, rfl, h⟩
end
def rExtA (K : PySem.W.Frag) : V → List V → Hp → VK → Prop := fun x vs H Q => ∃ l b xs zs, x = .ref l ∧ vs = [.ref b] ∧ H l = some (.lst xs) ∧ SqL K H b zs ∧ xs.length + zs.length ≤ sizeLine ∧ Q .non (upd H l (.lst (xs ++ zs)))
theorem mt_extA {X : Cx} : MtR X "list.extend" (rExtA X.K) := by
  intro pins s σ H x vs u us Q I rx rv h
  obtain ⟨l, b, xs, zs, rfl, rfl, hH, hB, hz, q⟩ := h
  cases rx
  obtain ⟨w', rfl, rw'⟩ := rv.one
  cases rw'
  obtain ⟨z, its, n, r, hl, e⟩ := I.lstM hH
  obtain ⟨its2, n2, dd2, sl2, r2, e2, _⟩ := list_obj I hB
  have hl2 := r2.length
  have hsz : its.toArray.size + its2.toArray.size ≤ sizeLine := by rw [List.size_toArray, List.size_toArray]; omega
  have hlong : ¬ (!its.toArray.isEmpty && Builtin.List.listTooLong (its.toArray.size + its2.toArray.size)) = true := by
    rw [notLongL hsz, Bool.and_false]
    exact Bool.false_ne_true
  refine call_meets PySem.F.slot_list_extend ⟨_, e, rfl⟩ PySem.F.entry_list_extend (PySem.F.args_list_extend_2 _ _) (ext_any l b its.toArray its2.toArray n n2 dd2 sl2 hlong (by rw [List.size_toArray]; omega) (by omega)) ⟨e, e2, ?_⟩
  exact ⟨.non, _, I.lset (its' := its ++ its2) hH e (by simp) (r.append r2) (by rw [List.length_append]; omega), rfl, q⟩
section
variable {X : Cx} {W : WX} {e c tg o : Expr} {es : List Expr} {f g : M PyData} {fl gl : M (List PyData)} {pos p2 p3 p4 apos : Pos} {x : Str}
theorem sv_append (i : Nat) (he : EV X W e f) (hN : X.N[i]? = some x := by rfl) (hv : Vis X.env.scope x := by first | exact Or.inl rfl | exact Or.inr (Or.inl rfl) | exact Or.inr (Or.inr rfl)) (hd : (x == ("__debug__" : Str)) = false := by decide)
    (hcd : (x == ("__classdict__" : Str)) = false := by decide) (h1 : starEach [e] X.env = [(false, eval e X.env)] := by rfl)
    (hp : ∀ {to : TE} {t : TA} {r : V → List V → Hp → VK → Prop}, PE X (.Name x p2) to → PA X [e] t → MtR X "list.append" r → PE X (.Call (.Attribute (.Name x p2) "append" apos) [e] [] p3) (tBM X.K "list" r to t) := by
      intro _ _ _ ho ha hm; exact pe_bm PySem.F.plainAttrs_list PySem.F.slot_list_append PySem.F.type_list_append hm ho ha)
    (hs : swapsWith (.Call (.Attribute (.Name x p2) "append" apos) [e] [] p3) none pos.line X.env = pure false := by rfl) : SV X W (.Expr (.Call (.Attribute (.Name x p2) "append" apos) [e] [] p3) pos) (sApp i f) :=
  (ps_expr (hp (pe_var hN hv hd hcd) (pa_cons he pa_nil h1) mt_append) hs).imp fun D σ H ⟨B, ρ, F, I, h⟩ => by
    obtain ⟨a, vs, ev, hH, q0⟩ := h.own I
    refine ⟨.ref a, ev, .inl ⟨rfl, _, SqL.of hH⟩, B, ρ, F, I, q0.bind fun d ρ1 v F1 H1 s1 I1 r1 q1 => ?_⟩
    obtain ⟨ρ2, e2, q2⟩ := q1.fl
    unfold appS at e2
    cases es : ρ1[i]? with
    | none => rw [es] at e2; cases e2
    | some s =>
      rw [es] at e2
      dsimp only at e2
      cases el : lentD s with
      | none => rw [el] at e2; cases e2
      | some ds =>
        rw [el] at e2
        dsimp only at e2
        split at e2
        · rename_i hz
          cases e2
          obtain ⟨b, ws, e1, h2, h3, h4⟩ := I1.lentOf es el
          rw [ev] at e1; cases e1
          exact ⟨a, ws, v, rfl, rfl, h2, by rw [dps_len h4]; exact hz, q2 σ F1 _ (Same.refl _) (I1.change es (lentD_isO el) ev (lentD_ob el) (dps_app h4 (.cons r1 .nil)))⟩
        · cases e2
theorem sv_extend (i : Nat) (he : EB X W e f) (hN : X.N[i]? = some x := by rfl) (hv : Vis X.env.scope x := by first | exact Or.inl rfl | exact Or.inr (Or.inl rfl) | exact Or.inr (Or.inr rfl)) (hd : (x == ("__debug__" : Str)) = false := by decide)
    (hcd : (x == ("__classdict__" : Str)) = false := by decide) (h1 : starEach [e] X.env = [(false, eval e X.env)] := by rfl)
    (hp : ∀ {to : TE} {t : TA} {r : V → List V → Hp → VK → Prop}, PE X (.Name x p2) to → PA X [e] t → MtR X "list.extend" r → PE X (.Call (.Attribute (.Name x p2) "extend" apos) [e] [] p3) (tBM X.K "list" r to t) := by
      intro _ _ _ ho ha hm; exact pe_bm PySem.F.plainAttrs_list PySem.F.slot_list_extend PySem.F.type_list_extend hm ho ha)
    (hs : swapsWith (.Call (.Attribute (.Name x p2) "extend" apos) [e] [] p3) none pos.line X.env = pure false := by rfl) : SV X W (.Expr (.Call (.Attribute (.Name x p2) "extend" apos) [e] [] p3) pos) (sExt i f) :=
  (ps_expr (hp (pe_var hN hv hd hcd) (pa_cons he pa_nil h1) mt_extA) hs).imp fun D σ H ⟨B, ρ, F, I, h⟩ => by
    obtain ⟨a, vs, ev, hH, q0⟩ := h.own I
    refine ⟨.ref a, ev, .inl ⟨rfl, _, SqL.of hH⟩, B, ρ, F, I, q0.bind fun d ρ1 v F1 H1 s1 I1 r1 q1 => ?_⟩
    obtain ⟨ρ2, e2, q2⟩ := q1.fl
    unfold extS at e2
    cases es : ρ1[i]? with
    | none => rw [es] at e2; cases e2
    | some s =>
      rw [es] at e2
      dsimp only at e2
      cases el : lentD s with
      | none => rw [el] at e2; cases e2
      | some ds =>
        rw [el] at e2
        cases d <;> dsimp only at e2 <;> try (cases e2; done)
        split at e2
        · rename_i hz
          cases e2
          obtain ⟨b, ws, e1, h2, h3, h4⟩ := I1.lentOf es el
          rw [ev] at e1; cases e1
          obtain ⟨c, zs, rfl, h5, h6⟩ := r1.list I1.sub
          exact ⟨a, c, ws, zs, rfl, rfl, h2, h5, by rw [dps_len h4, dps_len h6]; exact hz, q2 σ F1 _ (Same.refl _) (I1.change es (lentD_isO el) ev (lentD_ob el) (dps_app h4 h6))⟩
        · cases e2
theorem sv_put (i : Nat) (he : EV X W e f) (hk : EV X W c g) (hN : X.N[i]? = some x := by rfl) (hv : Vis X.env.scope x := by first | exact Or.inl rfl | exact Or.inr (Or.inl rfl) | exact Or.inr (Or.inr rfl)) (hd : (x == ("__debug__" : Str)) = false := by decide)
    (hcd : (x == ("__classdict__" : Str)) = false := by decide)
    (ha : ∀ v, assign (.Subscript (.Name x p2) c p3) X.env v = (do
      let ov ← holding [v] (eval (.Name x p2) X.env)
      let iv ← holding [v, ov] (eval c X.env)
      standAt p3
      holding [v, ov, iv] (setItem ov iv v)
      release [v, ov, iv] []) := by intro _; rfl)
    (hs : swapsWithSole [.Subscript (.Name x p2) c p3] e pos.line X.env = pure false := by rfl) (hw : swappedStores [.Subscript (.Name x p2) c p3] e X.env = pure none := by rfl)
    (h1 : (assignEach [.Subscript (.Name x p2) c p3] X.env).map (·.2) = [assign (.Subscript (.Name x p2) c p3) X.env] := by rfl) : SV X W (.Assign [.Subscript (.Name x p2) c p3] e pos) (sPut i f g) :=
  (ps_asg he (pg_sub (pe_var hN hv hd hcd) hk set_list ha) hs hw h1).imp fun D σ H ⟨B, ρ, F, I, h⟩ => by
    refine ⟨B, ρ, F, I, h.bind fun d ρ1 v F1 H1 s1 I1 r1 q1 => ?_⟩
    obtain ⟨a, vs, ev, hH, q0⟩ := q1.own I1
    refine ⟨.ref a, ev, B, ρ1, F1, I1, q0.bind fun kd ρ2 u F2 H2 s2 I2 r2 q2 => ?_⟩
    obtain ⟨ρ3, e3, q3⟩ := q2.fl
    unfold putS at e3
    cases es : ρ2[i]? with
    | none => rw [es] at e3; cases e3
    | some s =>
      rw [es] at e3
      dsimp only at e3
      cases el : lentD s with
      | none => rw [el] at e3; cases e3
      | some ds =>
        rw [el] at e3
        cases kd <;> dsimp only at e3 <;> try (cases e3; done)
        rename_i kk
        cases ek : ixN ds.length kk with
        | none => rw [ek] at e3; cases e3
        | some j =>
          rw [ek] at e3
          cases e3
          cases r2
          obtain ⟨b, ws, e1, h2, h3, h4⟩ := I2.lentOf es el
          rw [ev] at e1; cases e1
          exact ⟨a, ws, kk, j, rfl, rfl, h2, by rw [dps_len h4]; exact ek, q3 σ F2 _ (Same.refl _) (I2.change es (lentD_isO el) ev (lentD_ob el) (dps_set (dp_up s2 r1) j h4))⟩
end
end D3

namespace D3
open PySem PySem.Spec PyProof.Rows L2

/-! ### what is walked -/
structure ItOk (rw : Bool) (K : PySem.W.Frag) (F : Hp) (J : It) (items : List PyData) : Prop where
  go : ∀ (i : Nat) (d : PyData) (H : Hp), items[i]? = some d → Sb F H → J.go i H
  yld : ∀ (i : Nat) (d : PyData) (F2 H2 H3 : Hp) (x : V), items[i]? = some d → Same F F2 → Sb F2 H2 → J.yld i H2 x H3 → ∃ F3, Same F2 F3 ∧ Sb F3 H3 ∧ Same H2 H3 ∧ New F2 F3 H2 ∧ Itm rw K F3 H3 x d
  stop : ∀ (H : Hp), Sb F H → J.stop items.length H
theorem ItOk.up {rw : Bool} {K : PySem.W.Frag} {F F' : Hp} {J : It} {items : List PyData} (h : ItOk rw K F J items) (s : Same F F') : ItOk rw K F' J items :=
  ⟨fun i d H e q => h.go i d H e (s.sb q), fun i d F2 H2 H3 x e q => h.yld i d F2 H2 H3 x e (s.trans q), fun H q => h.stop H (s.sb q)⟩
def rI (rw : Bool) (K : PySem.W.Frag) : RelD It (List PyData) := fun _ _ _ F _ J items => ItOk rw K F J items
abbrev IV (X : Cx) (W : WX) (tg it : Expr) (f : M (List PyData)) (rw : Bool := false) : Prop := PI X tg it (tR X.K X.mg W (rI rw X.K) f)
theorem _root_.L2.PI.imp {X : Cx} {tg it : Expr} {t t' : TI} (h : PI X tg it t) (q : ∀ σ H R, t' σ H R → t σ H R) : PI X tg it t' := ⟨fun pins s σ H R I w => h.run pins s σ H R I (q σ H R w)⟩
theorem new_refl {F H : Hp} : New F F H := fun a o e e0 => by rw [e0] at e; cases e
theorem itOk_list {K : PySem.W.Frag} {F : Hp} {a : Addr} {ds : List PyData} (h : Dp K F (.ref a) (.list ds)) : ItOk false K F (Itl K a) ds := by
  cases h with
  | @lst _ xs _ h1 h2 =>
    refine ⟨fun i d H e s => ?_, fun i d F2 H2 H3 x e s s2 y => ?_, fun H s => ⟨xs, s.seq h1, by rw [dps_len h2]; exact Nat.le_refl _⟩⟩
    · obtain ⟨v, e1, _⟩ := dps_get h2 e
      exact ⟨xs, v, s.seq h1, e1⟩
    · obtain ⟨rfl, y⟩ := y
      obtain ⟨v, e1, r1⟩ := dps_get h2 e
      have e2 := y xs ((s.trans s2).seq h1)
      rw [e1] at e2; cases e2
      exact ⟨F2, Same.refl _, s2, Same.refl _, new_refl, .inl (dp_up s r1)⟩
theorem itOk_tup {K : PySem.W.Frag} {F : Hp} {a : Addr} {ds : List PyData} (h : Dp K F (.ref a) (.tuple ds)) : ItOk false K F (Itt K a) ds := by
  cases h with
  | @tup _ xs _ h1 h2 =>
    refine ⟨fun i d H e s => ?_, fun i d F2 H2 H3 x e s s2 y => ?_, fun H s => ⟨xs, sqt_up s h1, by rw [dps_len h2]; exact Nat.le_refl _⟩⟩
    · obtain ⟨v, e1, _⟩ := dps_get h2 e
      exact ⟨xs, v, sqt_up s h1, e1⟩
    · obtain ⟨rfl, y⟩ := y
      obtain ⟨v, e1, r1⟩ := dps_get h2 e
      have e2 := y xs (sqt_up (s.trans s2) h1)
      rw [e1] at e2; cases e2
      exact ⟨F2, Same.refl _, s2, Same.refl _, new_refl, .inl (dp_up s r1)⟩
/-- lo, lo + 1, .. -/
def rgD (lo hi : Int) : List PyData := (List.range (hi - lo).toNat).map fun i => .int (lo + (i : Nat))
theorem rgD_len (lo hi : Int) : (rgD lo hi).length = (hi - lo).toNat := by unfold rgD; rw [List.length_map, List.length_range]
theorem rgD_get {lo hi : Int} {i : Nat} {d : PyData} (e : (rgD lo hi)[i]? = some d) : i < (hi - lo).toNat ∧ d = .int (lo + (i : Nat)) := by
  unfold rgD at e
  rw [List.getElem?_map] at e
  cases q : (List.range (hi - lo).toNat)[i]? with
  | none => rw [q] at e; cases e
  | some j =>
    rw [q] at e
    obtain ⟨h1, h2⟩ := List.getElem?_eq_some_iff.mp q
    rw [List.getElem_range] at h2
    rw [List.length_range] at h1
    subst h2
    cases e
    exact ⟨h1, rfl⟩
theorem itOk_range {K : PySem.W.Frag} {F : Hp} (lo hi : Int) : ItOk false K F (Itr lo (hi - lo).toNat) (rgD lo hi) := by
  refine ⟨fun i d H e s => (rgD_get e).1, fun i d F2 H2 H3 x e s s2 y => ?_, fun H s => by rw [rgD_len]; exact Nat.le_refl _⟩
  obtain ⟨rfl, rfl⟩ := y
  obtain ⟨_, rfl⟩ := rgD_get e
  exact ⟨F2, Same.refl _, s2, Same.refl _, new_refl, .inl (.int _)⟩
section
variable {X : Cx} {W : WX} {tg e a b : Expr} {es : List Expr} {f g : M PyData} {fl : M (List PyData)} {p pos : Pos}
/-- what a value gives, walked -/
def seqD : PyData → Option (List PyData)
  | .list ds => some ds
  | .tuple ds => some ds
  | _ => none
def iSeq (f : M PyData) : M (List PyData) := bnd f fun d => lft (seqD d)
theorem iv_seq (he : EV X W e f) : IV X W tg e (iSeq f) := by
  refine ⟨fun pins s σ H R I h => ?_⟩
  obtain ⟨B, ρ, F, I0, q⟩ := h
  -- by the one rule or the other, as the value comes
  refine thn (he.run pins s σ H (fun x H1 => ∃ a, x = .ref a ∧ ((∃ ds, SqL X.K H1 a ds ∧ R (Itl X.K a) H1) ∨ ∃ ds, SqT X.K H1 a ds ∧ R (Itt X.K a) H1)) I ⟨B, ρ, F, I0, q.bind fun d ρ1 v F1 H1 s1 I1 r1 q1 => ?_⟩) fun u s1 ⟨x, H1, I1, rx, a, ex, q1⟩ => ?_
  · obtain ⟨ds, e1, q2⟩ := q1.lft
    cases d <;> simp only [seqD] at e1 <;> try (cases e1; done)
    · cases e1
      have r1' := r1
      cases r1' with
      | @lst a xs _ h1 h2 => exact ⟨a, rfl, .inl ⟨xs, I1.sub.seq h1, q2 _ F1 H1 (Same.refl _) I1 (itOk_list r1)⟩⟩
    · cases e1
      have r1' := r1
      cases r1' with
      | @tup a xs _ h1 h2 => exact ⟨a, rfl, .inr ⟨xs, sqt_up I1.sub h1, q2 _ F1 H1 (Same.refl _) I1 (itOk_tup r1)⟩⟩
  · subst ex
    cases rx
    rcases q1 with ⟨ds, h1, q⟩ | ⟨ds, h1, q⟩
    · obtain ⟨its, rv, p, hz⟩ := I1.list h1
      refine wpAny_pyIter_list p.isList ?_
      exact ⟨s1.heap.objs.size, [s1.heap.objs.size], _, _, H1, rfl, I1.kept (t' := s1.toks) fun b o e => Heap.get?_push_of_some _ e, turn_list a _, ⟨_, Heap.get?_push_size _ rfl, rfl, rfl⟩, fun b hb => by
        have e : b = s1.heap.objs.size := by simpa using hb
        subst e
        exact I1.fpOk (Nat.le_refl _) (I1.hok.fresh (Nat.le_refl _)), q⟩
    · obtain ⟨its, rv, p, hz⟩ := I1.tuple h1
      refine wpAny_pyIter_tuple (show s1.heap.IsTuple a its.toArray from p) ?_
      exact ⟨s1.heap.objs.size, [s1.heap.objs.size], _, _, H1, rfl, I1.kept (t' := s1.toks) fun b o e => Heap.get?_push_of_some _ e, turn_tuple a _, ⟨_, Heap.get?_push_size _ rfl, rfl, rfl⟩, fun b hb => by
        have e : b = s1.heap.objs.size := by simpa using hb
        subst e
        exact I1.fpOk (Nat.le_refl _) (I1.hok.fresh (Nat.le_refl _)), q⟩
def sm62 (i : Int) : Bool := decide (-(2 ^ 62) ≤ i) && decide (i < 2 ^ 62)
theorem sm62_of {i : Int} (h : sm62 i = true) : -(2 ^ 62) ≤ i ∧ i < 2 ^ 62 := by
  simpa only [sm62, Bool.and_eq_true, decide_eq_true_eq] using h
def rg1 : List PyData → Option (List PyData)
  | [.int j] => if sm62 j then some (rgD 0 j) else none
  | _ => none
def rg2 : List PyData → Option (List PyData)
  | [.int i, .int j] => if sm62 i && sm62 j then some (rgD i j) else none
  | _ => none
def iRg1 (f : M (List PyData)) : M (List PyData) := bnd f fun ds => lft (rg1 ds)
def iRg2 (f : M (List PyData)) : M (List PyData) := bnd f fun ds => lft (rg2 ds)
theorem iv_range1 (hg : Gl X "range") (hm : X.mg "range" = none) (ha : AV X W [a] fl) (hs : starEach [a] X.env = [(false, eval a X.env)] := by rfl) : IV X W tg (.Call (.Name "range" p) [a] [] pos) (iRg1 fl) := (pi_range1 hg hm ha hs).imp fun σ H R ⟨B, ρ, F, I, q⟩ => ⟨B, ρ, F, I, q.bind fun ds ρ1 vs F1 H1 s1 I1 r1 q1 => by
  obtain ⟨l, e, q2⟩ := q1.lft
  unfold rg1 at e
  split at e
  · rename_i j
    split at e
    · rename_i hz
      cases e
      cases r1 with
      | cons h t =>
        cases t
        cases h
        obtain ⟨h1, h2⟩ := sm62_of hz
        refine ⟨j, rfl, h1, h2, q2 _ F1 H1 (Same.refl _) I1 ?_⟩
        have := itOk_range (K := X.K) (F := F1) 0 j
        rwa [Int.sub_zero] at this
    · cases e
  · cases e⟩
theorem iv_range2 (hg : Gl X "range") (hm : X.mg "range" = none) (ha : AV X W [a, b] fl) (hs : starEach [a, b] X.env = [(false, eval a X.env), (false, eval b X.env)] := by rfl) (hs2 : starEach [b] X.env = [(false, eval b X.env)] := by rfl) : IV X W tg (.Call (.Name "range" p) [a, b] [] pos) (iRg2 fl) := (pi_range2 hg hm ha hs hs2).imp fun σ H R ⟨B, ρ, F, I, q⟩ => ⟨B, ρ, F, I, q.bind fun ds ρ1 vs F1 H1 s1 I1 r1 q1 => by
  obtain ⟨l, e, q2⟩ := q1.lft
  unfold rg2 at e
  split at e
  · rename_i i j
    split at e
    · rename_i hz
      cases e
      rw [Bool.and_eq_true] at hz
      cases r1 with
      | cons h t =>
        cases t with
        | cons h' t =>
          cases t
          cases h
          cases h'
          obtain ⟨h1, h2⟩ := sm62_of hz.1
          obtain ⟨h3, h4⟩ := sm62_of hz.2
          exact ⟨i, j, rfl, ⟨h1, h2, h3, h4⟩, q2 _ F1 H1 (Same.refl _) I1 (itOk_range i j)⟩
    · cases e
  · cases e⟩
end

/-! ### loops -/
def forD (as : PyData → Ev → Option Ev) (body : M Fl) : List PyData → M Fl
  | [], ρ => some (.ok .nx ρ)
  | d :: ds, ρ => match as d ρ with
    | none => none
    | some ρ1 => match body ρ1 with
      | some (.ok .nx ρ2) => forD as body ds ρ2
      | some (.ok .ct ρ2) => forD as body ds ρ2
      | some (.ok .bk ρ2) => some (.ok .nx ρ2)
      | r => r
def sFor (f : M (List PyData)) (as : PyData → Ev → Option Ev) (body : M Fl) : M Fl := bnd f (forD as body)
section
variable {X : Cx} {W : WX} {tg it c : Expr} {body : List Stmt} {fl : M (List PyData)} {as : PyData → Ev → Option Ev} {vs : List Nat} {s1 : M Fl} {ft : M Bool} {pos : Pos}
theorem getE_cons {α : Type} {l : List α} {i : Nat} {d : α} {ds : List α} (h : l.drop i = d :: ds) : l[i]? = some d ∧ l.drop (i + 1) = ds := by
  have h1 : l[i]? = some d := by
    have := List.getElem?_drop (xs := l) (i := i) (j := 0)
    rw [h] at this
    simpa using this.symm
  refine ⟨h1, ?_⟩
  rw [← List.tail_drop, h]
  rfl
theorem sv_for {rw : Bool} (po : PassesOwn (model X.prog X.w) X.A X.env X.xe) (hc : X.calm = true) (hi : IV X W tg it fl rw) (hg : GV X tg as vs rw) (hb : BV X W body s1) (hs : ∀ x, foldedSetIterable it X.env x = pure x := by intro _; rfl) : SV X W (.For tg it body [] pos) (sFor fl as s1) :=
  (ps_for po hc hi hg hb hs).imp fun D σ H ⟨B, ρ, F, I, h⟩ => ⟨B, ρ, F, I, h.bind fun items ρ1 J F1 H1 a1 I1 ok q1 => by
    have ok' : ItOk rw X.K F1 J items := ok
    refine ⟨fun i m σ H => i + m = items.length ∧ ∃ ρ F, Same F1 F ∧ SI X.K B σ ρ F H ∧ tAS X.K X.mg W B ρ F (forD as s1 (items.drop i)) D, ⟨items.length, Nat.zero_add _, ρ1, F1, Same.refl _, I1, by rw [List.drop_zero]; exact q1⟩, ?_⟩
    rintro i m σ2 H2 ⟨em, ρ2, F2, s2, I2, q2⟩
    cases ed : items.drop i with
    | nil =>
      have hl : items.length ≤ i := List.drop_eq_nil_iff.mp ed
      have ei : i = items.length := by omega
      rw [ed] at q2
      obtain ⟨r, er, h1, _⟩ := q2
      cases er
      refine .inl ⟨by rw [ei]; exact ok'.stop H2 (s2.sb I2.sub), h1 .nx ρ2 rfl σ2 F2 H2 (Same.refl _) I2⟩
    | cons d ds =>
      obtain ⟨e1, e2⟩ := getE_cons ed
      have hi : i < items.length := (List.getElem?_eq_some_iff.mp e1).1
      rw [ed] at q2
      obtain ⟨r, er, h1, h2⟩ := q2
      unfold forD at er
      cases ea : as d ρ2 with
      | none => rw [ea] at er; cases er
      | some ρ3 =>
        rw [ea] at er
        dsimp only at er
        refine .inr ⟨ok'.go i d H2 e1 (s2.sb I2.sub), fun σ' H' => ∃ ρ F, Same F1 F ∧ SI X.K B σ' ρ F H' ∧ tAS X.K X.mg W B ρ F (forD as s1 ds) D, fun σ' H' ⟨ρ', F', t1, t2, t3⟩ => ⟨m - 1, by omega, by omega, ρ', F', t1, t2, by rw [e2]; exact t3⟩, fun x H3 y => ?_⟩
        obtain ⟨F3, t1, t2, t3, t4, t5⟩ := ok'.yld i d F2 H2 H3 x e1 s2 I2.sub y
        refine ⟨B, ρ2, F3, d, ρ3, I2.grow t1 t2 t3 t4, t5, ea, fun σ4 I4 _ _ => ⟨B, ρ3, F3, I4, ?_⟩⟩
        have st : Same F1 F3 := s2.trans t1
        cases eb : s1 ρ3 with
        | none => rw [eb] at er; cases er
        | some rb =>
          rw [eb] at er
          refine ⟨_, eb, fun fl ρ' qe => ?_, fun x ρ' qe c d σ' F' H' sF I' xo => ?_⟩
          · subst qe
            cases fl with
            | nx => exact fun σ' F' H' sF I' => ⟨ρ', F', st.trans sF, I', tAS.up ⟨r, er, h1, h2⟩ (t1.trans sF)⟩
            | ct => exact fun σ' F' H' sF I' => ⟨ρ', F', st.trans sF, I', tAS.up ⟨r, er, h1, h2⟩ (t1.trans sF)⟩
            | bk => cases er; exact fun σ' F' H' sF I' => h1 .nx ρ' rfl σ' F' H' (t1.trans sF) I'
            | rt v => cases er; exact fun w σ' F' H' sF I' => h1 _ ρ' rfl w σ' F' H' (t1.trans sF) I'
          · subst qe
            cases er
            exact h2 x ρ' rfl c d σ' F' H' (t1.trans sF) I' xo⟩
/-- while, n turns at most -/
def whlD (t : M Bool) (body : M Fl) : Nat → M Fl
  | 0, _ => none
  | n + 1, ρ => match t ρ with
    | some (.ok false ρ1) => some (.ok .nx ρ1)
    | some (.ok true ρ1) => match body ρ1 with
      | some (.ok .nx ρ2) => whlD t body n ρ2
      | some (.ok .ct ρ2) => whlD t body n ρ2
      | some (.ok .bk ρ2) => some (.ok .nx ρ2)
      | r => r
    | some (.ex x ρ1) => some (.ex x ρ1)
    | none => none
theorem sv_while (n : Nat) (po : PassesOwn (model X.prog X.w) X.A X.env X.xe) (hc : TV X W c ft) (hb : BV X W body s1) : SV X W (.While c body [] pos) (whlD ft s1 n) :=
  (ps_while po hc hb).imp fun D σ H ⟨B, ρ, F, I, h⟩ => by
    refine ⟨fun m σ H => ∃ ρ F, SI X.K B σ ρ F H ∧ tAS X.K X.mg W B ρ F (whlD ft s1 m) D, ⟨n, ρ, F, I, h⟩, ?_⟩
    rintro m σ2 H2 ⟨ρ2, F2, I2, r, er, h1, h2⟩
    cases m with
    | zero => cases er
    | succ m =>
      unfold whlD at er
      cases et : ft ρ2 with
      | none => rw [et] at er; cases er
      | some rt =>
        rw [et] at er
        refine ⟨B, ρ2, F2, I2, _, et, fun b ρ3 qe k F3 H3 s3 I3 ek => ?_, fun x ρ3 qe c d F3 H3 s3 I3 xo => ?_⟩
        · subst qe
          rw [show k = b from ek]
          cases b with
          | false => rw [if_neg (by decide)]; cases er; exact h1 .nx ρ3 rfl σ2 F3 H3 s3 I3
          | true =>
            rw [if_pos rfl]
            dsimp only at er
            refine ⟨fun σ' H' => ∃ ρ F, SI X.K B σ' ρ F H' ∧ tAS X.K X.mg W B ρ F (whlD ft s1 m) D, fun σ' H' q => ⟨m, Nat.lt_succ_self _, q⟩, B, ρ3, F3, I3, ?_⟩
            cases eb : s1 ρ3 with
            | none => rw [eb] at er; cases er
            | some rb =>
              rw [eb] at er
              refine ⟨_, eb, fun fl ρ' qe => ?_, fun x ρ' qe c d σ' F' H' sF I' xo => ?_⟩
              · subst qe
                cases fl with
                | nx => exact fun σ' F' H' sF I' => ⟨ρ', F', I', tAS.up ⟨r, er, h1, h2⟩ (s3.trans sF)⟩
                | ct => exact fun σ' F' H' sF I' => ⟨ρ', F', I', tAS.up ⟨r, er, h1, h2⟩ (s3.trans sF)⟩
                | bk => cases er; exact fun σ' F' H' sF I' => h1 .nx ρ' rfl σ' F' H' (s3.trans sF) I'
                | rt v => cases er; exact fun w σ' F' H' sF I' => h1 _ ρ' rfl w σ' F' H' (s3.trans sF) I'
              · subst qe
                cases er
                exact h2 x ρ' rfl c d σ' F' H' (s3.trans sF) I' xo
        · subst qe
          cases er
          exact h2 x ρ3 rfl c d σ2 F3 H3 s3 I3 xo
end

/-! ### comprehensions -/
def wipeE (ρ : Ev) : List Nat → Ev
  | [] => ρ
  | v :: vs => (wipeE ρ vs).set v .nil
/-- the block's own names as they stood outside -/
def backE (ρ ρ' : Ev) : List Nat → Ev
  | [] => ρ'
  | v :: vs => match ρ[v]? with
    | some s => (backE ρ ρ' vs).set v s
    | none => backE ρ ρ' vs
def noOwn (ρ : Ev) (vs : List Nat) : Bool := vs.all fun v => match ρ[v]? with
  | some s => !s.isO
  | none => true
theorem SI.unset {K : PySem.W.Frag} {B : Bs} {σ : L2.St} {ρ : Ev} {F H : Hp} (I : SI K B σ ρ F H) (i : Nat) : SI K B (σ.set i none) (ρ.set i .nil) F H := by
  have key : ∀ {j : Nat} {t : Slot}, (ρ.set i .nil)[j]? = some t → (t = .nil) ∨ (j ≠ i ∧ ρ[j]? = some t) := fun {j t} ej => by
    by_cases hj : i = j
    · subst hj
      have hl : i < ρ.length := by
        have := (List.getElem?_eq_some_iff.mp ej).1
        rwa [List.length_set] at this
      rw [List.getElem?_set_self hl] at ej
      cases ej
      exact .inl rfl
    · rw [List.getElem?_set_ne hj] at ej
      exact .inr ⟨fun z => hj z.symm, ej⟩
  refine ⟨I.up, I.sub, I.new, I.keep, I.pn, I.there, I.lent, by rw [List.length_set, List.length_set]; exact I.len, fun j t ej => ?_, fun j k t u b ej ek ot ou fj fk => ?_⟩
  · rcases key ej with rfl | ⟨nj, ej⟩
    · trivial
    · rw [List.getElem?_set_ne (Ne.symm nj)]; exact I.slot j t ej
  · rcases key ej with rfl | ⟨nj, ej⟩
    · cases ot
    · rcases key ek with rfl | ⟨nk, ek⟩
      · cases ou
      · rw [List.getElem?_set_ne (Ne.symm nj)] at fj
        rw [List.getElem?_set_ne (Ne.symm nk)] at fk
        exact I.sep j k t u b ej ek ot ou fj fk
theorem SI.wipe {K : PySem.W.Frag} {B : Bs} {σ : L2.St} {ρ : Ev} {F H : Hp} (I : SI K B σ ρ F H) : ∀ vs : List Nat, SI K B (L2.wipe σ vs) (wipeE ρ vs) F H
  | [] => I
  | v :: vs => (I.wipe vs).unset v
theorem wipeE_get {ρ : Ev} {j : Nat} : ∀ {vs : List Nat}, j ∉ vs → (wipeE ρ vs)[j]? = ρ[j]?
  | [], _ => rfl
  | v :: vs, h => by
    rw [List.mem_cons, not_or] at h
    show ((wipeE ρ vs).set v .nil)[j]? = _
    rw [List.getElem?_set_ne (Ne.symm h.1)]
    exact wipeE_get h.2
theorem wipe_get {σ : L2.St} {j : Nat} : ∀ {vs : List Nat}, j ∉ vs → (L2.wipe σ vs)[j]? = σ[j]?
  | [], _ => rfl
  | v :: vs, h => by
    rw [List.mem_cons, not_or] at h
    show ((L2.wipe σ vs).set v none)[j]? = _
    rw [List.getElem?_set_ne (Ne.symm h.1)]
    exact wipe_get h.2
theorem backE_len (ρ ρ' : Ev) : ∀ vs : List Nat, (backE ρ ρ' vs).length = ρ'.length
  | [] => rfl
  | v :: vs => by
    unfold backE
    split
    · rw [List.length_set]; exact backE_len ρ ρ' vs
    · exact backE_len ρ ρ' vs
theorem backE_get {ρ ρ' : Ev} (hl : ρ.length = ρ'.length) {j : Nat} : ∀ {vs : List Nat}, (backE ρ ρ' vs)[j]? = if j ∈ vs then ρ[j]? else ρ'[j]?
  | [] => by simp [backE]
  | v :: vs => by
    have ih := backE_get hl (j := j) (vs := vs)
    unfold backE
    cases q : ρ[v]? with
    | none =>
      dsimp only
      rw [ih]
      by_cases hj : j = v
      · subst hj
        have h1 : ρ'[j]? = none := by
          rw [List.getElem?_eq_none_iff] at q ⊢
          omega
        rw [if_pos List.mem_cons_self]
        split
        · rfl
        · rw [h1, q]
      · simp [hj]
    | some s =>
      dsimp only
      by_cases hj : v = j
      · subst hj
        have hv : v < (backE ρ ρ' vs).length := by
          rw [backE_len, ← hl]; exact (List.getElem?_eq_some_iff.mp q).1
        rw [List.getElem?_set_self hv, if_pos List.mem_cons_self, q]
      · rw [List.getElem?_set_ne hj, ih]
        simp [Ne.symm hj]
/-- out of the block -/
theorem SI.back {K : PySem.W.Frag} {B : Bs} {σ : L2.St} {ρ ρ' : Ev} {F F' H H' : Hp} {vs : List Nat} (I : SI K B σ ρ F H) (I' : SI K B (L2.wipe σ vs) ρ' F' H') (s : Same F F') (hn : noOwn ρ vs = true) : SI K B σ (backE ρ ρ' vs) F' H' := by
  have hl : ρ.length = ρ'.length := by rw [I.len, I'.len, wipe_length]
  have no : ∀ {j : Nat} {t : Slot}, j ∈ vs → ρ[j]? = some t → t.isO = false := fun {j t} hj e => by
    have := List.all_eq_true.mp hn j hj
    rw [e] at this
    simpa using this
  refine ⟨I'.up, I'.sub, I'.new, I'.keep, I'.pn, I'.there, I'.lent, by rw [backE_len, ← hl]; exact I.len, fun j t e => ?_, fun j k t u b ej ek ot ou fj fk => ?_⟩
  · rw [backE_get hl] at e
    split at e
    · rename_i hj
      have h := I.slot j t e
      have := no hj e
      cases t with
      | nil => trivial
      | val d => obtain ⟨v, e1, e2⟩ := h; exact ⟨v, e1, dp_up s e2⟩
      | own ds => cases this
      | io ds => cases this
      | ob o => cases this
    · rename_i hj
      have h := I'.slot j t e
      rwa [wipe_get hj] at h
  · rw [backE_get hl] at ej ek
    split at ej
    · rename_i hj; rw [no hj ej] at ot; cases ot
    · rename_i hj
      split at ek
      · rename_i hk; rw [no hk ek] at ou; cases ou
      · rename_i hk
        rw [← wipe_get hj] at fj
        rw [← wipe_get hk] at fk
        exact I'.sep j k t u b ej ek ot ou fj fk
/-- the tests of a clause -/
abbrev WX0 : WX := fun _ _ _ _ => False
abbrev CV (X : Cx) (ifs : List Expr) (f : M Bool) : Prop := PTs X ifs (tR X.K X.mg WX0 rB f)
theorem cv_nil {X : Cx} : CV X [] (ret true) := ⟨fun pins s σ H Q I ⟨B, ρ, F, I1, q⟩ => pts_nil.run pins s σ H Q I (q.ret (Same.refl _) I1 rfl)⟩
theorem cv_one {X : Cx} {c : Expr} {f : M Bool} (h : TV X WX0 c f) : CV X [c] f := pts_one h
def compD (as : PyData → Ev → Option Ev) (t : M Bool) (e : M PyData) (vs : List Nat) : List PyData → List PyData → M (List PyData)
  | [], acc, ρ => some (.ok acc ρ)
  | d :: ds, acc, ρ => match as d ρ with
    | none => none
    | some ρ1 => match t ρ1 with
      | some (.ok true ρ2) => match e ρ2 with
        | some (.ok y ρ3) => compD as t e vs ds (acc ++ [y]) (wipeE ρ3 vs)
        | _ => none
      | some (.ok false ρ2) => compD as t e vs ds acc (wipeE ρ2 vs)
      | _ => none
def lcD (as : PyData → Ev → Option Ev) (t : M Bool) (e : M PyData) (vs : List Nat) (items : List PyData) : M (List PyData) := fun ρ =>
  if items.length ≤ sizeLine && noOwn ρ vs then match compD as t e vs items [] (wipeE ρ vs) with
    | some (.ok l ρ') => some (.ok l (backE ρ ρ' vs))
    | _ => none
  else none
def eLc (f : M (List PyData)) (as : PyData → Ev → Option Ev) (t : M Bool) (e : M PyData) (vs : List Nat) : M (List PyData) := bnd f (lcD as t e vs)
theorem wipe_same {σ τ : L2.St} {vs ws : List Nat} (hl : σ.length = τ.length) (h : ∀ j, j ∉ ws → σ[j]? = τ[j]?) (hw : ∀ j ∈ ws, j ∈ vs) : L2.wipe σ vs = L2.wipe τ vs := by
  apply List.ext_getElem?
  intro j
  by_cases hj : j ∈ vs
  · have z : ∀ {u : L2.St} {vs : List Nat}, j ∈ vs → (L2.wipe u vs)[j]? = if j < u.length then some none else none := by
      intro u vs
      induction vs with
      | nil => intro h; cases h
      | cons v vs ih =>
        intro h
        show ((L2.wipe u vs).set v none)[j]? = _
        by_cases hv : v = j
        · subst hv
          by_cases hlt : v < u.length
          · rw [List.getElem?_set_self (by rw [wipe_length]; exact hlt), if_pos hlt]
          · rw [List.getElem?_eq_none (by rw [List.length_set, wipe_length]; omega), if_neg hlt]
        · rw [List.getElem?_set_ne hv]
          exact ih ((List.mem_cons.mp h).resolve_left (Ne.symm hv))
    rw [z hj, z hj, hl]
  · rw [wipe_get hj, wipe_get hj]
    exact h j fun z => hj (hw j z)
theorem wipe_wipe (σ : L2.St) (vs : List Nat) : L2.wipe (L2.wipe σ vs) vs = L2.wipe σ vs :=
  wipe_same (ws := vs) (wipe_length σ vs) (fun j hj => wipe_get hj) fun _ h => h
section
variable {X : Cx} {W : WX} {tg it elt : Expr} {ifs : List Expr} {fl : M (List PyData)} {as : PyData → Ev → Option Ev} {vs : List Nat} {ft : M Bool} {fe : M PyData} {pos : Pos} {scope : Scope} {own : List (Str × Nat)}
/-- the block's context -/
abbrev blkX (X : Cx) (scope : Scope) (s : Shared) (H : Hp) (C : Addr) (cl : List (Str × Addr)) (fp : List Addr) : Cx := X.blk s H scope (compEnvC scope cl C X.env) fp
/-- .. while the objects of G stand -/
structure ItOkG (rw : Bool) (K : PySem.W.Frag) (F G : Hp) (J : It) (items : List PyData) : Prop where
  go : ∀ (i : Nat) (d : PyData) (H : Hp), items[i]? = some d → Sb F H → Same G H → J.go i H
  yld : ∀ (i : Nat) (d : PyData) (F2 H2 H3 : Hp) (x : V), items[i]? = some d → Same F F2 → Sb F2 H2 → Same G H2 → J.yld i H2 x H3 → ∃ F3, Same F2 F3 ∧ Sb F3 H3 ∧ Same H2 H3 ∧ New F2 F3 H2 ∧ Itm rw K F3 H3 x d
  stop : ∀ (H : Hp), Sb F H → Same G H → J.stop items.length H
theorem ItOk.g {rw : Bool} {K : PySem.W.Frag} {F G : Hp} {J : It} {items : List PyData} (h : ItOk rw K F J items) : ItOkG rw K F G J items := ⟨fun i d H e s _ => h.go i d H e s, fun i d F2 H2 H3 x e s s2 _ => h.yld i d F2 H2 H3 x e s s2, fun H s _ => h.stop H s⟩
def lcAft (g : TG) (tt : TT) (te : TE) (vs : List Nat) (σ : L2.St) (Q : VK) : It → Hp → Prop := fun J H1 => ∀ D, H1 D = none → ∃ W : Nat → Nat → Hp → Prop, (∃ m, W 0 m (upd H1 D (.lst []))) ∧ ∀ i m H, W i m H →
  (J.stop i H ∧ Q (.ref D) H) ∨ (J.go i H ∧ ∃ Nx : Hp → Prop, (∀ H', Nx H' → ∃ m', m' < m ∧ W (i + 1) m' H') ∧ ∀ x H', J.yld i H x H' → g x (L2.wipe σ vs) H' fun σ2 H2 => L2.wipe σ2 vs = L2.wipe σ vs ∧ tt σ2 H2 fun b H3 =>
    if b = true then te σ2 H3 fun y H4 => ∃ acc, H4 D = some (.lst acc) ∧ acc.length < sizeLine ∧ Nx (upd H4 D (.lst (acc ++ [y]))) else Nx H3)
theorem lc_core {rw : Bool} {K : PySem.W.Frag} {mg : Str → Option Value} {ws : List Nat} {σ : L2.St} {Q : VK} {B : Bs} {ρ1 : Ev} {F1 H1 G : Hp} {J : It} {items : List PyData} (hw : ∀ j ∈ ws, j ∈ vs) (I1 : SI K B σ ρ1 F1 H1) (ok' : ItOkG rw K F1 G J items) (hG : Same G B.P)
    (q1 : tA K mg W (rL K) B σ ρ1 F1 (lcD as ft fe vs items) Q) : lcAft (tG rw K as ws) (tR K mg WX0 rB ft) (tR K mg WX0 (rD K) fe) vs σ Q J H1 := by
  have gH : ∀ {σ : L2.St} {ρ : Ev} {F H : Hp}, SI K B σ ρ F H → Same G H := fun I b o e => I.keep b o (hG b o e)
  intro D hD
  obtain ⟨r, er, h1, h2⟩ := q1
  unfold lcD at er
  split at er
  · rename_i hz
    rw [Bool.and_eq_true] at hz
    obtain ⟨hz, hno⟩ := hz
    have hz : items.length ≤ sizeLine := of_decide_eq_true hz
    cases ec : compD as ft fe vs items [] (wipeE ρ1 vs) with
    | none => rw [ec] at er; cases er
    | some rc =>
      rw [ec] at er
      cases rc with
      | ex x ρ' => cases er
      | ok l ρ' =>
        cases er
        obtain ⟨I2, fr2⟩ := I1.fresh (vs := []) (ds := []) hD .nil
        have fF : B.F0 D = none := by
          cases e : B.F0 D with
          | none => rfl
          | some o =>
            have z := I1.sub.s _ _ (I1.up _ _ e)
            rw [hD] at z; cases z
        refine ⟨fun i m H => i + m = items.length ∧ ∃ ρ F acc, acc.length ≤ i ∧ Same F1 F ∧ SI K B (L2.wipe σ vs) ρ F H ∧ Fresh K B (L2.wipe σ vs) ρ F H D acc ∧ compD as ft fe vs (items.drop i) acc ρ = some (.ok l ρ'), ⟨items.length, Nat.zero_add _, wipeE ρ1 vs, F1, [], Nat.le_refl _, Same.refl _, I2.wipe vs, ?_, by rw [List.drop_zero]; exact ec⟩, ?_⟩
        · refine ⟨fr2.at_, fr2.fF, fr2.fN, fun j s ej os esj => ?_⟩
          obtain ⟨_, ws, h5⟩ := (I1.wipe vs).ownF ej os esj
          rw [hD] at h5; cases h5
        rintro i m H3 ⟨em, ρ3, F3, acc, hacc, s3, I3, fr3, ec3⟩
        cases ed : items.drop i with
        | nil =>
          have hl : items.length ≤ i := List.drop_eq_nil_iff.mp ed
          have ei : i = items.length := by omega
          rw [ed] at ec3
          cases ec3
          have Ib := I1.back I3 s3 hno
          refine .inl ⟨by rw [ei]; exact ok'.stop H3 (s3.sb I3.sub) (gH I3), h1 _ _ rfl _ F3 H3 s3 Ib ⟨D, rfl, fr3.at_, fr3.fF, fr3.fN, fun j s ej os esj => ?_⟩⟩
          have hl : ρ1.length = ρ'.length := by rw [I1.len, I3.len, wipe_length]
          rw [backE_get hl] at ej
          split at ej
          · rename_i hj
            have := List.all_eq_true.mp hno j hj
            rw [ej] at this
            simp [os] at this
          · rename_i hj
            rw [← wipe_get hj] at esj
            exact fr3.ne j s ej os esj
        | cons d ds =>
          obtain ⟨e1, e2⟩ := getE_cons ed
          have hi : i < items.length := (List.getElem?_eq_some_iff.mp e1).1
          rw [ed] at ec3
          unfold compD at ec3
          cases ea : as d ρ3 with
          | none => rw [ea] at ec3; cases ec3
          | some ρ4 =>
            rw [ea] at ec3
            dsimp only at ec3
            cases et : ft ρ4 with
            | none => rw [et] at ec3; cases ec3
            | some rt =>
              cases rt with
              | ex x ρ5 => rw [et] at ec3; cases ec3
              | ok b ρ5 =>
                rw [et] at ec3
                obtain ⟨av, ha1, ha2⟩ := fr3.at_
                have hDx : H3 D = some (.lst av) := ha1
                refine .inr ⟨ok'.go i d H3 e1 (s3.sb I3.sub) (gH I3), fun H' => ∃ ρ F acc, acc.length ≤ i + 1 ∧ Same F1 F ∧ SI K B (L2.wipe σ vs) ρ F H' ∧ Fresh K B (L2.wipe σ vs) ρ F H' D acc ∧ compD as ft fe vs ds acc ρ = some (.ok l ρ'), fun H' ⟨ρ6, F6, acc6, t1, t2, t3, t4, t5⟩ => ⟨m - 1, by omega, by omega, ρ6, F6, acc6, t1, t2, t3, t4, by rw [e2]; exact t5⟩, fun x H4 y => ?_⟩
                obtain ⟨F4, t1, t2, t3, t4, t5⟩ := ok'.yld i d F3 H3 H4 x e1 s3 I3.sub (gH I3) y
                -- the list is shielded
                have I4 := (I3.shield fr3 hDx).grow t1 t2 t3 t4
                refine ⟨B.with D av, ρ3, F4, d, ρ4, I4, t5, ea, fun σ5 I5 l5 k5 => ?_⟩
                have w5 : L2.wipe σ5 vs = L2.wipe σ vs := by
                  rw [← wipe_wipe σ vs]
                  exact wipe_same (ws := ws) l5 k5 hw
                refine ⟨w5, B.with D av, ρ4, F4, I5, _, et, fun b' ρ6 qe k F6 H6 s6 I6 ek => ?_, fun x ρ6 qe => by cases qe⟩
                cases qe
                rw [show k = b from ek]
                have ha2' : DpAll K F6 av acc := dps_up s6 (dps_up t1 ha2)
                have leave : ∀ {ρ7 : Ev} {F7 H7 : Hp}, Same F6 F7 → SI K (B.with D av) σ5 ρ7 F7 H7 → SI K B (L2.wipe σ vs) (wipeE ρ7 vs) F7 H7 ∧ Fresh K B (L2.wipe σ vs) (wipeE ρ7 vs) F7 H7 D acc ∧ H7 D = some (.lst av) := fun {ρ7 F7 H7} s7 I7 => by
                  have I8 := I7.wipe vs
                  rw [w5] at I8
                  exact I8.unshield (dps_up s7 ha2') fr3.fN fF I3.pn
                cases b with
                | false =>
                  rw [if_neg (by decide)]
                  obtain ⟨u1, u2, _⟩ := leave (Same.refl _) I6
                  exact ⟨_, F6, acc, by omega, (s3.trans t1).trans s6, u1, u2, ec3⟩
                | true =>
                  rw [if_pos rfl]
                  dsimp only at ec3
                  cases ee : fe ρ5 with
                  | none => rw [ee] at ec3; cases ec3
                  | some re =>
                    cases re with
                    | ex x ρ7 => rw [ee] at ec3; cases ec3
                    | ok y ρ7 =>
                      rw [ee] at ec3
                      refine ⟨B.with D av, ρ5, F6, I6, _, ee, fun y' ρ8 qe yv F7 H7 s7 I7 ry => ?_, fun x ρ8 qe => by cases qe⟩
                      cases qe
                      obtain ⟨u1, u2, u3⟩ := leave s7 I7
                      obtain ⟨u4, u5⟩ := u1.rewrite u2 (dps_app (dps_up s7 ha2') (.cons ry .nil))
                      refine ⟨av, u3, by rw [dps_len ha2]; omega, _, F7, acc ++ [y], ?_, ((s3.trans t1).trans s6).trans s7, u4, u5, ec3⟩
                      rw [List.length_append]
                      exact Nat.succ_le_succ hacc
  · cases er
theorem lc_read {rw : Bool} {K : PySem.W.Frag} {mg : Str → Option Value} {ws : List Nat} {σ : L2.St} {H : Hp} {Q : VK} (hw : ∀ j ∈ ws, j ∈ vs) (h : tR K mg W (rL K) (eLc fl as ft fe vs) σ H Q) :
    tLc (tR K mg W (rI rw K) fl) (tG rw K as ws) (tR K mg WX0 rB ft) (tR K mg WX0 (rD K) fe) vs σ H Q := by
  obtain ⟨B, ρ, F, I, h⟩ := h
  exact ⟨B, ρ, F, I, h.bind fun items ρ1 J F1 H1 a1 I1 ok q1 => lc_core hw I1 (show ItOk rw K F1 J items from ok).g (G := fun _ => none) (fun b o e => by cases e) q1⟩
theorem el_lc {rw : Bool} {vs : List Nat} (hc : X.calm = true) (hN : X.N.Nodup) (hi : IV X W tg it fl rw) (ok : BlkOk X.N X.env.scope scope own) {ws : List Nat} (hg : ∀ s H C cl fp, GV (blkX X scope s H C cl fp) tg as ws rw) (ht : ∀ s H C cl fp, CV (blkX X scope s H C cl fp) ifs ft)
    (he : ∀ s H C cl fp, EV (blkX X scope s H C cl fp) WX0 elt fe) (hvs : own.map (·.2) = vs := by rfl) (hw : ∀ j ∈ ws, j ∈ vs := by decide) (hs : ∀ x, foldedSetIterable it X.env x = pure x := by intro _; rfl) : EL X W (.ListComp elt [⟨tg, it, ifs, 0⟩] scope pos) (eLc fl as ft fe vs) := by
  subst hvs
  exact (pe_lc hc hN hi ok hg ht he hs).imp fun _ _ _ q => lc_read hw q
/-- y = [..] -/
theorem sv_setLc {rw : Bool} {vs : List Nat} (i : Nat) {y : Str} {py spos : Pos} (hc : X.calm = true) (hN : X.N.Nodup) (hi : IV X W tg it fl rw) (ok : BlkOk X.N X.env.scope scope own) {ws : List Nat} (hg : ∀ s H C cl fp, GV (blkX X scope s H C cl fp) tg as ws rw) (ht : ∀ s H C cl fp, CV (blkX X scope s H C cl fp) ifs ft)
    (he : ∀ s H C cl fp, EV (blkX X scope s H C cl fp) WX0 elt fe) (hsw : swapsWith (.ListComp elt [⟨tg, it, ifs, 0⟩] scope pos) (some (.Name y py)) spos.line X.env = pure true) (hvs : own.map (·.2) = vs := by rfl) (hw : ∀ j ∈ ws, j ∈ vs := by decide) (hs : ∀ x, foldedSetIterable it X.env x = pure x := by intro _; rfl)
    (hy : X.N[i]? = some y := by rfl) (hyl : X.env.scope.names.lookup y = some .local := by rfl) : SV X W (.Assign [.Name y py] (.ListComp elt [⟨tg, it, ifs, 0⟩] scope pos) spos) (sSetL i (eLc fl as ft fe vs)) := by
  subst hvs
  exact (ps_setLc hc hN hy hyl hsw hi ok hg ht he hs).imp fun D σ H ⟨B, ρ, F, I, h⟩ => lc_read hw ⟨B, ρ, F, I, h.bind fun d ρ1 v F1 H1 s1 I1 r1 q1 => by
    obtain ⟨a, rfl, fr⟩ := r1
    exact q1.nxt _ F1 H1 (Same.refl _) (I1.setL fr)⟩
end
end D3

namespace D3
open PySem PySem.Spec PyProof.Rows L2

/-! ### raise, try -/
def sRaise (c : Str) : M Fl := fun ρ => some (.ex ⟨c, []⟩ ρ)
/-- an own exception class that may be raised by its name with a text -/
structure ExcC (K : PySem.W.Frag) (mg : Str → Option Value) (x : Str) (C : Addr) : Prop where
  gC : mg x = some (.ref C)
  xC : PySem.W.excIn K C [.type "ValueError", .type "Exception", .type "BaseException", .type "object"] "ValueError.__new__" = true
  kC : PySem.W.keepIn K (.ref C) = true
  bC : PySem.W.subIn K (.ref C) (.type "BaseException") = some true
  tC : PySem.W.typeIn K (.ref C) = some (.type "type")
section
variable {X : Cx} {W : WX} {x m : Str} {C : Addr} {j : Nat} {p p2 pos pos' cpos np : Pos} {k : Nat} {body suite : List Stmt} {b0 : Stmt} {sb ss : M Fl}
theorem sv_raise (hc : X.calm = true) (tk : Takes X W) (E : ExcC X.K X.mg x C) (hg : Gl X x) (hdb : (x == ("__debug__" : Str)) = false := by decide) : SV X W (.Raise (some (.Call (.Name x p) [.Constant (.str m) j p2] [] cpos)) none pos) (sRaise x) :=
  (ps_raise hc tk (pmk_own PySem.F.excBase_ValueError E.xC E.gC E.kC (raises_own E.bC E.tC) hg hdb)).imp fun D σ H ⟨B, ρ, F, I, r, er, h1, h2⟩ => by
    cases er
    exact h2 _ ρ rfl (.ref C) none σ F H (Same.refl _) I ⟨C, E.gC, rfl, .inl rfl⟩
def noEx {α : Type} : Option (Rs α) → Option (Rs α)
  | some (.ok a ρ) => some (.ok a ρ)
  | _ => none
/-- try: body except X: suite; which exceptions X takes, by their classes' names -/
def sTry (mt : Str → Option Bool) (body suite : M Fl) : M Fl := fun ρ => match body ρ with
  | some (.ex x ρ1) => match mt x.cls with
    | some true => noEx (suite ρ1)
    | some false => some (.ex x ρ1)
    | none => none
  | r => r
/-- mt tells what the clause X takes -/
def Mt (K : PySem.W.Frag) (mg : Str → Option Value) (mt : Str → Option Bool) (c : Value) : Prop := ∀ x b, mt x = some b → ∀ C, mg x = some (.ref C) → PySem.W.exmOne K (.ref C) c = some b
theorem sv_try {mt : Str → Option Bool} {c : Value} (hs : X.stack = X.env :: X.outer) (hf : X.env.frame = some X.env.locals) (hc : Names X x c) (tk : Takes X W) (hm : Mt X.K X.mg mt c)
    (hb : ∀ (W : WX) (pn : List (Addr × Obj)) (xe : Value → Shared → Prop), Takes (X.tr pn xe) W → PassesOwn (model X.prog X.w) X.A X.env xe → BV (X.tr pn xe) W body sb)
    (hsu : ∀ (a : Addr) (pn : List (Addr × Obj)), BV (X.suite a pn) WX0 (b0 :: suite) ss) : SV X W (.Try body [.ExceptHandler (some (.Name x np)) none (b0 :: suite) pos'] [] [] pos) (sTry mt sb ss) :=
  (ps_try_only hs hf hc tk (tb := fun W => tS X.K X.mg W sb) (ts := fun _ _ _ => tS X.K X.mg WX0 ss) hb fun a oe cls d pn _ _ => hsu a _).imp fun D σ H ⟨B, ρ, F, I, r, er, h1, h2⟩ => by
    unfold sTry at er
    cases eb : sb ρ with
    | none => rw [eb] at er; cases er
    | some rb =>
      rw [eb] at er
      cases rb with
      | ok fl ρ1 => cases er; exact ⟨B, ρ, F, I, _, eb, fun fl' ρ' q => (by cases q; exact h1 _ _ rfl), fun x ρ' q => (by cases q)⟩
      | ex x ρ1 =>
        dsimp only at er
        refine ⟨B, ρ, F, I, _, eb, fun fl' ρ' q => (by cases q), fun x' ρ' q c' d σ' F' H' sF I' xo => ?_⟩
        cases q
        cases em : mt x.cls with
        | none => rw [em] at er; cases er
        | some b =>
          rw [em] at er
          obtain ⟨C, g1, rfl, _⟩ := id xo
          refine ⟨b, hm _ _ em C g1, fun hb a ha => ?_, fun hb => ?_⟩
          · subst hb
            dsimp only at er
            cases es : ss ρ1 with
            | none => rw [es] at er; cases er
            | some rs =>
              rw [es] at er
              cases rs with
              | ex x2 ρ2 => cases er
              | ok fl ρ2 => cases er; exact ⟨B, ρ1, F', I', _, es, fun fl ρ' q => (h1 fl ρ' q).up sF, fun x2 ρ' q => (by cases q)⟩
          · subst hb
            cases er
            exact h2 x ρ1 rfl _ d σ' F' H' sF I' xo
end

/-! ### a def by its body's meaning -/
def startE (n : Nat) (ds : List PyData) : Ev := ds.map .val ++ List.replicate (n - ds.length) .nil
def outV : Option (Rs Fl) → Option (Except XV PyData)
  | some (.ok (.rt (.val d)) _) => some (.ok d)
  | some (.ok (.rt (.own ds)) _) => some (.ok (.list ds))
  | some (.ok .nx _) => some (.ok .none)
  | some (.ex x _) => some (.error x)
  | _ => none
/-- n parameters, N names -/
def runV (n N : Nat) (b : M Fl) : FV := fun ds => if ds.length = n then outV (b (startE N ds)) else none
def outL : Option (Rs Fl) → Option (List PyData)
  | some (.ok (.rt (.own ds)) _) => some ds
  | _ => none
def runL (n N : Nat) (b : M Fl) : FL := fun ds => if ds.length = n then outL (b (startE N ds)) else none
def startI (n : Nat) (es ds : List PyData) : Ev := .io es :: (ds.map .val ++ List.replicate (n - (ds.length + 1)) .nil)
def outI : Option (Rs Fl) → Option (PyData × List PyData)
  | some (.ok (.rt (.val d)) (.io es :: _)) => some (d, es)
  | some (.ok (.rt (.own ds)) (.io es :: _)) => some (.list ds, es)
  | some (.ok .nx (.io es :: _)) => some (.none, es)
  | _ => none
/-- the first of n + 1 parameters is lent -/
def runI (n N : Nat) (b : M Fl) : FI := fun es ds => if ds.length = n then outI (b (startI N es ds)) else none
theorem runV_len {n N : Nat} {b : M Fl} : ∀ ds r, runV n N b ds = some r → ds.length = n := fun ds r h => by
  unfold runV at h
  split at h
  · assumption
  · cases h
theorem runL_len {n N : Nat} {b : M Fl} : ∀ ds r, runL n N b ds = some r → ds.length = n := fun ds r h => by
  unfold runL at h
  split at h
  · assumption
  · cases h
theorem runI_len {n N : Nat} {b : M Fl} : ∀ es ds r, runI n N b es ds = some r → ds.length = n := fun es ds r h => by
  unfold runI at h
  split at h
  · assumption
  · cases h
theorem startE_get {n : Nat} {ds : List PyData} {i : Nat} {s : Slot} (h : (startE n ds)[i]? = some s) : s = .nil ∨ ∃ d, ds[i]? = some d ∧ s = .val d := by
  unfold startE at h
  by_cases hi : i < ds.length
  · rw [List.getElem?_append_left (by simpa using hi), List.getElem?_map] at h
    cases q : ds[i]? with
    | none => rw [q] at h; cases h
    | some d => rw [q] at h; cases h; exact .inr ⟨d, rfl, rfl⟩
  · rw [List.getElem?_append_right (by simpa using hi), List.getElem?_replicate] at h
    split at h
    · cases h; exact .inl rfl
    · cases h
theorem start_get {N : List Str} {vs : List V} {i : Nat} {v : V} (h : vs[i]? = some v) : (L2.start N vs)[i]? = some (some v) := by
  have hi := (List.getElem?_eq_some_iff.mp h).1
  unfold L2.start
  rw [List.getElem?_append_left (by simpa using hi), List.getElem?_map, h]
  rfl
/-- the entry of a def: all that stands stays -/
def Bs.entry (H F : Hp) : Bs := ⟨H, fun a => H a ≠ none, F, none⟩
theorem SI.start {K : PySem.W.Frag} {F H : Hp} {N : List Str} {vs : List V} {ds : List PyData} (s : Sb F H) (h : DpAll K F vs ds) : SI K (Bs.entry H F) (L2.start N vs) (startE N.length ds) F H := by
  refine ⟨Same.refl _, s, fun a o e e0 => ?_, fun a o e => e, fun a o e z => ?_, fun a n => n, fun a hm => ?_, ?_, fun i t e => ?_, fun i j t u a ei ej ot ou fi fj => ?_⟩
  · have e0' : F a = none := e0
    rw [e0'] at e; cases e
  · have e' : H a = some o := e
    rw [e'] at z; cases z
  · cases hm
  · unfold startE L2.start
    rw [List.length_append, List.length_append, List.length_map, List.length_map, List.length_replicate, List.length_replicate, dps_len h]
  · rcases startE_get e with rfl | ⟨d, e1, rfl⟩
    · trivial
    · obtain ⟨v, e2, r⟩ := dps_get h e1
      exact ⟨v, start_get e2, r⟩
  · rcases startE_get ei with rfl | ⟨d, e1, rfl⟩ <;> cases ot
theorem SI.ends {K : PySem.W.Frag} {F F' H H' : Hp} {σ : L2.St} {ρ : Ev} (I : SI K (Bs.entry H F) σ ρ F' H') : Same H H' ∧ New F F' H :=
  ⟨fun a o e => I.keep a o e, fun a o e e0 => by
    cases q : H a with
    | none => rfl
    | some u => exact absurd (by show H a ≠ none; rw [q]; simp) (I.new a o e e0)⟩
section
variable {P : Program} {w : World} {K : PySem.W.Frag} {mg : Str → Option Value} {base : Heap} {k : Nat} {f : Addr} {fd : FuncData} {N ps : List Str} {x qual : Str} {st : Stmt} {b : M Fl}
abbrev WE1 (E : XK) : WX := fun c d _ H => E c d H
theorem okV (F : L2.Fun K x qual st f fd) (S : FnScope N ps (defScope st))
    (hb : ∀ (cdv : Value) (A : Around) (outer : List Env) (s : Shared) (H : Hp) (E : XK), Ar (bodyX P w K mg base N qual (defScope st) f cdv A outer s H E) (WE1 E) k → PassesOwn (model P w) (A.deeper (envOfC qual (defScope st) s.heap.objs.size f cdv)) (envOfC qual (defScope st) s.heap.objs.size f cdv) (bodyX P w K mg base N qual (defScope st) f cdv A outer s H E).xe →
      BV (bodyX P w K mg base N qual (defScope st) f cdv A outer s H E) (WE1 E) (defBody st) b) : FnG P w K mg base (k + 1) f fd ps (spV K mg ps.length (runV ps.length N.length b)) := by
  refine Fun.okG F S (fun vs H Q E h => h.1) fun cdv A outer s H vs Q E hr hg h => ?_
  obtain ⟨hl, G, ds, r, sF, hd, hm, h1, h2⟩ := h
  refine ⟨_, hb cdv A outer s H E ⟨rfl, S.nd, hr, hg, takes_of rfl rfl rfl rfl⟩ (passes_of rfl), Bs.entry H G, startE N.length ds, G, SI.start sF hd, ?_⟩
  unfold runV at hm
  rw [if_pos (by rw [← dps_len hd]; exact hl)] at hm
  cases eb : b (startE N.length ds) with
  | none => rw [eb] at hm; cases hm
  | some rb =>
    rw [eb] at hm
    refine ⟨rb, eb, fun fl ρ' q => ?_, fun x ρ' q c d σ' F' H' s1 I' xo => ?_⟩
    · subst q
      cases fl with
      | nx => cases hm; exact fun σ' F' H' s1 I' => h1 _ rfl .non F' H' s1 I'.sub I'.ends.1 I'.ends.2 .non
      | bk => cases hm
      | ct => cases hm
      | rt rv =>
        cases rv with
        | val d => cases hm; exact fun v σ' F' H' s1 I' rv => h1 _ rfl v F' H' s1 I'.sub I'.ends.1 I'.ends.2 rv
        | own ds' =>
          cases hm
          intro v σ' F' H' s1 I' rv
          obtain ⟨a, rfl, fr⟩ := rv
          obtain ⟨F2, s2, I2, r2⟩ := I'.freeze fr
          exact h1 _ rfl _ F2 H' (s1.trans s2) I2.sub I2.ends.1 I2.ends.2 r2
        | ob o => cases hm
    · subst q
      cases hm
      exact h2 x rfl c d F' H' s1 I'.sub I'.ends.1 I'.ends.2 xo
theorem okL (F : L2.Fun K x qual st f fd) (S : FnScope N ps (defScope st))
    (hb : ∀ (cdv : Value) (A : Around) (outer : List Env) (s : Shared) (H : Hp) (E : XK), Ar (bodyX P w K mg base N qual (defScope st) f cdv A outer s H E) (WE1 E) k → PassesOwn (model P w) (A.deeper (envOfC qual (defScope st) s.heap.objs.size f cdv)) (envOfC qual (defScope st) s.heap.objs.size f cdv) (bodyX P w K mg base N qual (defScope st) f cdv A outer s H E).xe →
      BV (bodyX P w K mg base N qual (defScope st) f cdv A outer s H E) (WE1 E) (defBody st) b) : FnG P w K mg base (k + 1) f fd ps (spL K ps.length (runL ps.length N.length b)) := by
  refine Fun.okG F S (fun vs H Q E h => h.1) fun cdv A outer s H vs Q E hr hg h => ?_
  obtain ⟨hl, G, ds, r, sF, hd, hm, h1⟩ := h
  refine ⟨_, hb cdv A outer s H E ⟨rfl, S.nd, hr, hg, takes_of rfl rfl rfl rfl⟩ (passes_of rfl), Bs.entry H G, startE N.length ds, G, SI.start sF hd, ?_⟩
  unfold runL at hm
  rw [if_pos (by rw [← dps_len hd]; exact hl)] at hm
  cases eb : b (startE N.length ds) with
  | none => rw [eb] at hm; cases hm
  | some rb =>
    rw [eb] at hm
    refine ⟨rb, eb, fun fl ρ' q => ?_, fun x ρ' q => by subst q; cases hm⟩
    subst q
    cases fl with
    | nx => cases hm
    | bk => cases hm
    | ct => cases hm
    | rt rv =>
      cases rv with
      | val d => cases hm
      | own ds' =>
        cases hm
        intro v σ' F' H' s1 I' rv
        obtain ⟨a, rfl, ⟨ws, e1, e2⟩, fF, fN, _⟩ := rv
        refine h1 a ws F' H' s1 I'.sub I'.ends.1 I'.ends.2 ?_ fF e1 e2
        cases q : H a with
        | none => rfl
        | some u => exact absurd (by show H a ≠ none; rw [q]; simp) fN
      | ob o => cases hm
end
/-- the entry of a def with a lent list -/
def Bs.lend (H F : Hp) (a : Addr) : Bs := ⟨fun b => if b = a then none else H b, fun b => H b ≠ none, F, some a⟩
theorem startI_get {n : Nat} {es ds : List PyData} {i : Nat} {s : Slot} (h : (startI n es ds)[i]? = some s) : (i = 0 ∧ s = .io es) ∨ ∃ j, i = j + 1 ∧ (s = .nil ∨ ∃ d, ds[j]? = some d ∧ s = .val d) := by
  cases i with
  | zero => cases h; exact .inl ⟨rfl, rfl⟩
  | succ j =>
    refine .inr ⟨j, rfl, ?_⟩
    have h' : (startE (n - 1) ds)[j]? = some s := by
      have e : startI n es ds = .io es :: startE (n - 1) ds := by
        unfold startI startE
        rw [show n - 1 - ds.length = n - (ds.length + 1) by omega]
      rw [e] at h
      simpa using h
    exact startE_get h'
theorem SI.startI {K : PySem.W.Frag} {F H : Hp} {N : List Str} {a : Addr} {xs ws : List V} {es ds : List PyData} (s : Sb F H) (hF : F a = none) (hH : H a = some (.lst xs)) (hx : DpAll K F xs es) (h : DpAll K F ws ds) :
    SI K (Bs.lend H F a) (L2.start N (.ref a :: ws)) (startI N.length es ds) F H := by
  refine ⟨Same.refl _, s, fun b o e e0 => ?_, fun b o e => ?_, fun b o e z => ?_, fun b n => n, fun b hm => ?_, ?_, fun i t e => ?_, fun i j t u b ei ej ot ou fi fj => ?_⟩
  · have e0' : F b = none := e0
    rw [e0'] at e; cases e
  · by_cases hb : b = a
    · have e' : (if b = a then none else H b) = some o := e
      rw [if_pos hb] at e'; cases e'
    · have e' : (if b = a then none else H b) = some o := e
      rwa [if_neg hb] at e'
  · by_cases hb : b = a
    · have e' : (if b = a then none else H b) = some o := e
      rw [if_pos hb] at e'; cases e'
    · have e' : (if b = a then none else H b) = some o := e
      rw [if_neg hb] at e'
      rw [e'] at z; cases z
  · cases hm
    exact ⟨hF, by show H a ≠ none; rw [hH]; simp, if_pos rfl, xs, hH⟩
  · unfold D3.startI L2.start
    simp only [List.length_append, List.length_map, List.length_replicate, List.length_cons, dps_len h]
    omega
  · rcases startI_get e with ⟨rfl, rfl⟩ | ⟨j, rfl, rfl | ⟨d, e1, rfl⟩⟩
    · exact ⟨a, xs, start_get rfl, hH, hF, rfl, hx⟩
    · trivial
    · obtain ⟨v, e2, r⟩ := dps_get h e1
      exact ⟨v, start_get (by simpa using e2), r⟩
  · have one : ∀ {i : Nat} {t : Slot}, (D3.startI N.length es ds)[i]? = some t → t.isO = true → i = 0 := fun {i t} e o => by
      rcases startI_get e with ⟨rfl, rfl⟩ | ⟨j, rfl, rfl | ⟨d, e1, rfl⟩⟩
      · rfl
      · cases o
      · cases o
    rw [one ei ot, one ej ou]
section
variable {P : Program} {w : World} {K : PySem.W.Frag} {mg : Str → Option Value} {base : Heap} {k n : Nat} {f : Addr} {fd : FuncData} {N ps : List Str} {x qual : Str} {st : Stmt} {b : M Fl}
theorem okI (F : L2.Fun K x qual st f fd) (S : FnScope N ps (defScope st)) (hn : ps.length = n + 1)
    (hb : ∀ (cdv : Value) (A : Around) (outer : List Env) (s : Shared) (H : Hp) (E : XK), Ar (bodyX P w K mg base N qual (defScope st) f cdv A outer s H E) (WE1 E) k → PassesOwn (model P w) (A.deeper (envOfC qual (defScope st) s.heap.objs.size f cdv)) (envOfC qual (defScope st) s.heap.objs.size f cdv) (bodyX P w K mg base N qual (defScope st) f cdv A outer s H E).xe →
      BV (bodyX P w K mg base N qual (defScope st) f cdv A outer s H E) (WE1 E) (defBody st) b) : FnG P w K mg base (k + 1) f fd ps (spI K n (runI n N.length b)) := by
  refine Fun.okG F S (fun vs H Q E h => by rw [hn]; exact h.1) fun cdv A outer s H vs Q E hr hg h => ?_
  obtain ⟨hl, a, ws, xs, es, G, ds, r, rfl, sF, hFa, hHa, hx, hd, hm, h1⟩ := h
  refine ⟨_, hb cdv A outer s H E ⟨rfl, S.nd, hr, hg, takes_of rfl rfl rfl rfl⟩ (passes_of rfl), Bs.lend H G a, startI N.length es ds, G, SI.startI sF hFa hHa hx hd, ?_⟩
  have hdl : ds.length = n := by
    rw [← dps_len hd]
    simpa using hl
  unfold runI at hm
  rw [if_pos hdl] at hm
  have fin : ∀ {es' : List PyData} {ρ' : Ev} {v : V} {d : PyData} {σ' : L2.St} {F' H' : Hp}, r = (d, es') → Same G F' → SI K (Bs.lend H G a) σ' (.io es' :: ρ') F' H' → Dp K F' v d → Q v H' := fun {es' ρ' v d σ' F' H'} er s1 I' rv => by
    subst er
    obtain ⟨b, zs, _, e2, _, e3, e4⟩ := I'.slot 0 _ rfl
    cases e3
    refine h1 v F' H' zs s1 I'.sub (fun b o hb e => I'.keep b o (by show (if b = a then none else H b) = some o; rw [if_neg hb]; exact e)) (fun b o e e0 => ?_) e2 e4 rv
    cases q : H b with
    | none => rfl
    | some u => exact absurd (by show H b ≠ none; rw [q]; simp) (I'.new b o e e0)
  cases eb : b (startI N.length es ds) with
  | none => rw [eb] at hm; cases hm
  | some rb =>
    rw [eb] at hm
    refine ⟨rb, eb, fun fl ρ' q => ?_, fun x ρ' q => by subst q; cases hm⟩
    subst q
    cases ρ' with
    | nil => cases fl with
      | nx => cases hm
      | bk => cases hm
      | ct => cases hm
      | rt rv => cases rv <;> cases hm
    | cons s0 ρ' =>
      cases s0 with
      | nil => cases fl with
        | nx => cases hm
        | bk => cases hm
        | ct => cases hm
        | rt rv => cases rv <;> cases hm
      | val d => cases fl with
        | nx => cases hm
        | bk => cases hm
        | ct => cases hm
        | rt rv => cases rv <;> cases hm
      | own d => cases fl with
        | nx => cases hm
        | bk => cases hm
        | ct => cases hm
        | rt rv => cases rv <;> cases hm
      | io es' => cases fl with
        | nx => cases hm; exact fun σ' F' H' s1 I' => fin rfl s1 I' .non
        | bk => cases hm
        | ct => cases hm
        | rt rv =>
          cases rv with
          | val d => cases hm; exact fun v σ' F' H' s1 I' rv => fin rfl s1 I' rv
          | own d =>
            cases hm
            intro v σ' F' H' s1 I' rv
            obtain ⟨c, rfl, fr⟩ := rv
            obtain ⟨F2, s2, I2, r2⟩ := I'.freeze fr
            exact fin rfl (s1.trans s2) I2 r2
          | ob o => cases hm
      | ob o => cases fl with
        | nx => cases hm
        | bk => cases hm
        | ct => cases hm
        | rt rv => cases rv <;> cases hm
end
end D3

namespace D3
open PySem PySem.Spec PyProof.Rows L2

/-! ### built-ins on data -/
def lenD : List PyData → Option PyData
  | [.list xs] => some (.int xs.length)
  | [.tuple xs] => some (.int xs.length)
  | [.str z] => if z.length ≤ sizeLine then some (.int z.length) else none
  | _ => none
def tupleD : List PyData → Option PyData
  | [.list xs] => some (.tuple xs)
  | [.tuple xs] => some (.tuple xs)
  | _ => none
def listD : List PyData → Option (List PyData)
  | [.list xs] => some xs
  | [.tuple xs] => some xs
  | _ => none
def boolsD : List PyData → Option (List Bool)
  | [] => some []
  | .bool b :: ds => (boolsD ds).map (b :: ·)
  | _ :: _ => none
def intsD : List PyData → Option (List Int)
  | [] => some []
  | .int b :: ds => (intsD ds).map (b :: ·)
  | _ :: _ => none
def allD : List PyData → Option PyData
  | [.list xs] => (boolsD xs).map fun bs => .bool (bs.all id)
  | _ => none
def anyD : List PyData → Option PyData
  | [.list xs] => (boolsD xs).map fun bs => .bool (bs.any id)
  | _ => none
def sumD : List PyData → Option PyData
  | [.list xs] => (intsD xs).map fun bs => .int bs.sum
  | _ => none
def intD : List PyData → Option PyData
  | [.int i] => some (.int i)
  | [.bool k] => some (.int (if k then 1 else 0))
  | _ => none
def absD : List PyData → Option PyData
  | [.int i] => some (.int (if i < 0 then -i else i))
  | _ => none
theorem bools_of {K : PySem.W.Frag} {F : Hp} : ∀ {vs : List V} {ds : List PyData} {bs : List Bool}, DpAll K F vs ds → boolsD ds = some bs → vs = bs.map V.bl
  | _, _, bs, .nil, e => by cases e; rfl
  | _, _, bs, .cons (d := d) h t, e => by
    cases h <;> simp only [boolsD] at e <;> try (cases e; done)
    rename_i b
    cases q : boolsD _ with
    | none => rw [q] at e; cases e
    | some l => rw [q] at e; cases e; rw [bools_of t q]; rfl
theorem ints_of {K : PySem.W.Frag} {F : Hp} : ∀ {vs : List V} {ds : List PyData} {bs : List Int}, DpAll K F vs ds → intsD ds = some bs → vs = bs.map V.int
  | _, _, bs, .nil, e => by cases e; rfl
  | _, _, bs, .cons (d := d) h t, e => by
    cases h <;> simp only [intsD] at e <;> try (cases e; done)
    rename_i b
    cases q : intsD _ with
    | none => rw [q] at e; cases e
    | some l => rw [q] at e; cases e; rw [ints_of t q]; rfl
theorem bos_one {K : PySem.W.Frag} {F H : Hp} {vs : List V} {d : PyData} (h : BoAll K F H vs [d]) : ∃ v, vs = [v] ∧ Bo K F H v d := by
  cases h with
  | cons h t => cases t; exact ⟨_, rfl, h⟩
section
variable {X : Cx}
theorem cd_len : CallDa X (.builtin "len") lenD := by
  intro pins s σ H vs us Q I r ⟨F, ds, d, sF, h0, h2, h3⟩
  unfold lenD at h2
  split at h2
  · cases h2
    obtain ⟨v, rfl, h1⟩ := bos_one h0
    obtain ⟨a, ws, rfl, q1, r1⟩ := h1.list sF
    refine call_len_seq pins s σ H _ us Q I r ⟨a, ws, rfl, .inl q1, ?_⟩
    rw [dps_len r1]; exact h3.here sF (.int _)
  · cases h2
    obtain ⟨v, rfl, h1⟩ := bos_one h0
    obtain ⟨a, ws, rfl, q1, r1⟩ := h1.tup sF
    refine call_len_seq pins s σ H _ us Q I r ⟨a, ws, rfl, .inr q1, ?_⟩
    rw [dps_len r1]; exact h3.here sF (.int _)
  · split at h2
    · cases h2
      obtain ⟨v, rfl, h1⟩ := bos_one h0
      rw [h1.str] at r
      exact call_len_str pins s σ H _ us Q I r ⟨_, rfl, by assumption, h3.here sF (.int _)⟩
    · cases h2
  · cases h2
theorem cd_tuple : CallDa X (.type "tuple") tupleD := by
  intro pins s σ H vs us Q I r ⟨F, ds, d, sF, h0, h2, h3⟩
  unfold tupleD at h2
  split at h2
  · cases h2
    obtain ⟨v, rfl, h1⟩ := bos_one h0
    obtain ⟨a, ws, rfl, q1, r1⟩ := h1.list sF
    exact call_tupleB pins s σ H _ us Q I r ⟨a, ws, rfl, .inl ⟨q1, h3.tup sF r1⟩⟩
  · cases h2
    obtain ⟨v, rfl, h1⟩ := bos_one h0
    have h1' := h1
    obtain ⟨a, ws, rfl, q1, r1⟩ := h1.tup sF
    refine call_tupleB pins s σ H _ us Q I r ⟨a, ws, rfl, .inr ⟨q1, ?_⟩⟩
    rcases h1' with h1' | ⟨_, _, _, _, z, _⟩
    · exact h3.here sF h1'
    · cases z
  · cases h2
theorem cl_list : CallL X (.type "list") listD := by
  intro pins s σ H vs us Q I r ⟨F, ds, d, sF, h0, h2, h3⟩
  unfold listD at h2
  split at h2
  · cases h2
    obtain ⟨v, rfl, h1⟩ := bos_one h0
    obtain ⟨a, ws, rfl, q1, r1⟩ := h1.list sF
    exact call_list_of pins s σ H _ us Q I r ⟨a, ws, rfl, .inl q1, fun l hl => h3.put sF hl r1⟩
  · cases h2
    obtain ⟨v, rfl, h1⟩ := bos_one h0
    obtain ⟨a, ws, rfl, q1, r1⟩ := h1.tup sF
    exact call_list_of pins s σ H _ us Q I r ⟨a, ws, rfl, .inr q1, fun l hl => h3.put sF hl r1⟩
  · cases h2
theorem cd_all (hc : X.calm = true) : CallDa X (.builtin "all") allD := by
  intro pins s σ H vs us Q I r ⟨F, ds, d, sF, h0, h2, h3⟩
  unfold allD at h2
  split at h2
  · obtain ⟨v, rfl, h1⟩ := bos_one h0
    obtain ⟨a, ws, rfl, q1, r1⟩ := h1.list sF
    cases q : boolsD _ with
    | none => rw [q] at h2; cases h2
    | some bs =>
      rw [q] at h2; cases h2
      rw [bools_of r1 q] at q1
      exact cr_all hc pins s σ H _ us Q I r ⟨a, bs, rfl, q1, h3.here sF (.bl _)⟩
  · cases h2
theorem cd_any (hc : X.calm = true) : CallDa X (.builtin "any") anyD := by
  intro pins s σ H vs us Q I r ⟨F, ds, d, sF, h0, h2, h3⟩
  unfold anyD at h2
  split at h2
  · obtain ⟨v, rfl, h1⟩ := bos_one h0
    obtain ⟨a, ws, rfl, q1, r1⟩ := h1.list sF
    cases q : boolsD _ with
    | none => rw [q] at h2; cases h2
    | some bs =>
      rw [q] at h2; cases h2
      rw [bools_of r1 q] at q1
      exact cr_any hc pins s σ H _ us Q I r ⟨a, bs, rfl, q1, h3.here sF (.bl _)⟩
  · cases h2
theorem cd_sum (hc : X.calm = true) : CallDa X (.builtin "sum") sumD := by
  intro pins s σ H vs us Q I r ⟨F, ds, d, sF, h0, h2, h3⟩
  unfold sumD at h2
  split at h2
  · obtain ⟨v, rfl, h1⟩ := bos_one h0
    obtain ⟨a, ws, rfl, q1, r1⟩ := h1.list sF
    cases q : intsD _ with
    | none => rw [q] at h2; cases h2
    | some bs =>
      rw [q] at h2; cases h2
      rw [ints_of r1 q] at q1
      exact cr_sum hc pins s σ H _ us Q I r ⟨a, bs, rfl, q1, h3.here sF (.int _)⟩
  · cases h2
theorem cd_int : CallDa X (.type "int") intD := by
  intro pins s σ H vs us Q I r ⟨F, ds, d, sF, h0, h2, h3⟩
  unfold intD at h2
  split at h2
  · cases h2
    obtain ⟨v, rfl, h1⟩ := bos_one h0
    rw [h1.int] at r
    exact call_int1 pins s σ H _ us Q I r (.inl ⟨_, rfl, h3.here sF (.int _)⟩)
  · cases h2
    obtain ⟨v, rfl, h1⟩ := bos_one h0
    rw [h1.bl] at r
    exact call_int1 pins s σ H _ us Q I r (.inr ⟨_, rfl, h3.here sF (.int _)⟩)
  · cases h2
theorem cd_abs : CallDa X (.builtin "abs") absD := by
  intro pins s σ H vs us Q I r ⟨F, ds, d, sF, h0, h2, h3⟩
  unfold absD at h2
  split at h2
  · cases h2
    obtain ⟨v, rfl, h1⟩ := bos_one h0
    rw [h1.int] at r
    exact call_abs pins s σ H _ us Q I r ⟨_, rfl, h3.here sF (.int _)⟩
  · cases h2
/-! ### isinstance -/
inductive Tg where
  | none | bool | int | str | list | tuple | dict
def tgD : PyData → Tg
  | .none => .none
  | .bool _ => .bool
  | .int _ => .int
  | .str _ => .str
  | .list _ => .list
  | .tuple _ => .tuple
  | .dict _ => .dict
def Tg.nm : Tg → String
  | .none => "NoneType"
  | .bool => "bool"
  | .int => "int"
  | .str => "str"
  | .list => "list"
  | .tuple => "tuple"
  | .dict => "dict"
def tyN (d : PyData) : String := (tgD d).nm
theorem tyx_list {K : PySem.W.Frag} {H : Hp} {a : Addr} {xs : List V} (h : SqL K H a xs) : TyX K H (.ref a) (.type "list") := by
  rcases h with (h | ⟨o, h⟩) | ⟨o, its, n, h, hc, _⟩
  · exact .base (.lst h)
  · exact .base (.frz h)
  · exact .kList h hc
theorem tyx_tup {K : PySem.W.Frag} {H : Hp} {a : Addr} {xs : List V} (h : SqT K H a xs) : TyX K H (.ref a) (.type "tuple") := by
  rcases h with (h | ⟨o, h⟩) | ⟨o, its, n, h, hc, _⟩
  · exact .base (.tup h)
  · exact .fTuple h
  · exact .kTuple h hc
theorem Bo.tyx {K : PySem.W.Frag} {F H : Hp} {v : V} {d : PyData} (h : Bo K F H v d) (s : Sb F H) : TyX K H v (.type (tyN d)) := by
  cases d with
  | none => rw [h.non]; exact .base .non
  | bool b => rw [h.bl]; exact .base (.bl b)
  | int i => rw [h.int]; exact .base (.int i)
  | str x => rw [h.str]; exact .base (.str x)
  | list ds => obtain ⟨a, vs, rfl, q, _⟩ := h.list s; exact tyx_list q
  | tuple ds => obtain ⟨a, vs, rfl, q, _⟩ := h.tup s; exact tyx_tup q
  | dict kvs => exact h.dict.elim
/-- isinstance(d, T) -/
inductive TyT where
  | int | bool | str | tuple | list | dict
def TyT.nm : TyT → String
  | .int => "int"
  | .bool => "bool"
  | .str => "str"
  | .tuple => "tuple"
  | .list => "list"
  | .dict => "dict"
def isiG : TyT → Tg → Bool
  | .int, .int => true
  | .int, .bool => true
  | .bool, .bool => true
  | .str, .str => true
  | .tuple, .tuple => true
  | .list, .list => true
  | .dict, .dict => true
  | _, _ => false
def isiB (T : TyT) (d : PyData) : Bool := isiG T (tgD d)
theorem isi_kitG (T : TyT) (g : Tg) : kitB g.nm T.nm = some (isiG T g) := by cases T <;> cases g <;> decide +kernel
theorem isi_kit (T : TyT) (d : PyData) : kitB (tyN d) T.nm = some (isiB T d) := isi_kitG T _
def eIsi (T : TyT) (f : M PyData) : M PyData := bnd f fun d => ret (.bool (isiB T d))
end
section
variable {X : Cx} {W : WX} {e : Expr} {f : M PyData} {x : Str} {p p2 pos : Pos}
theorem ev_isi (T : TyT) (hg : Gl X "isinstance") (hm : X.mg "isinstance" = none) (hgT : Gl X x) (hmT : X.mg x = none) (hvT : bootBuiltins x = some (.type T.nm)) (ha : EB X W e f) (hn : x ≠ "__name__" := by decide) (hd : (x == ("__debug__" : Str)) = false := by decide)
    (he : starEach [e, .Name x p2] X.env = (false, eval e X.env) :: starEach [.Name x p2] X.env := by rfl) (he2 : starEach [.Name x p2] X.env = (false, eval (.Name x p2) X.env) :: starEach [] X.env := by rfl) (hpl : (backTo pos (starEach [.Name x p2] X.env)).any (·.1) = false := by rfl) :
    EV X W (.Call (.Name "isinstance" p) [e, .Name x p2] [] pos) (eIsi T f) :=
  (pe_callB call_isi hg hm (by decide +kernel) (pa_cons ha (pa_cons (pe_bltn (v := .ty T.nm) hgT hmT hvT rfl hn hd) pa_nil he2) he) (by decide) (by decide) he hpl).imp fun σ H Q ⟨B, ρ, F, I, q⟩ => ⟨B, ρ, F, I, q.bind fun d ρ1 v F1 H1 s1 I1 r1 q1 => by
    exact ⟨v, .ty T.nm, .type (tyN d), .type T.nm, isiB T d, rfl, .ty _, r1.tyx I1.sub, kit_ty (isi_kit T d), q1.ret (Same.refl _) I1 (.bl _)⟩⟩
end
end D3

namespace D3
open PySem PySem.Spec PyProof.Rows L2

/-! ### zip -/
def zipD (xs ys : List PyData) : List PyData := (xs.zip ys).map fun p => .tuple [p.1, p.2]
theorem zipD_get {xs ys : List PyData} {i : Nat} {d : PyData} (e : (zipD xs ys)[i]? = some d) : ∃ x y, xs[i]? = some x ∧ ys[i]? = some y ∧ d = .tuple [x, y] := by
  unfold zipD at e
  rw [List.getElem?_map] at e
  cases q : (xs.zip ys)[i]? with
  | none => rw [q] at e; cases e
  | some z =>
    rw [q] at e
    cases e
    obtain ⟨q1, q2⟩ := List.getElem?_zip_eq_some.mp q
    exact ⟨z.1, z.2, q1, q2, rfl⟩
theorem zipD_len (xs ys : List PyData) : (zipD xs ys).length = min xs.length ys.length := by unfold zipD; rw [List.length_map, List.length_zip]
/-- a new tuple of data -/
theorem lay_tup {K : PySem.W.Frag} {F H : Hp} {T : Addr} {xs : List V} {ds : List PyData} (s : Sb F H) (hT : H T = none) (h : DpAll K F xs ds) :
    Same F F ∧ Sb F (upd H T (.tup xs)) ∧ Same H (upd H T (.tup xs)) ∧ New F F H ∧ Itm true K F (upd H T (.tup xs)) (.ref T) (.tuple ds) :=
  ⟨Same.refl _, s.trans (same_new hT), same_new hT, new_refl, .inr ⟨rfl, T, xs, ds, rfl, rfl, upd_same, h⟩⟩
theorem itOk_zipL {K : PySem.W.Frag} {F : Hp} {a b : Addr} {xs ys : List PyData} (h1 : Dp K F (.ref a) (.list xs)) (h2 : Dp K F (.ref b) (.list ys)) : ItOk true K F (Itz K a b) (zipD xs ys) := by
  cases h1 with
  | @lst _ vs _ h1 r1 =>
    cases h2 with
    | @lst _ ws _ h2 r2 =>
      refine ⟨fun i d H e s => ?_, fun i d F2 H2 H3 x e s s2 y => ?_, fun H s => ⟨vs, ws, s.seq h1, s.seq h2, ?_⟩⟩
      · obtain ⟨x, y, e1, e2, rfl⟩ := zipD_get e
        obtain ⟨v, q1, _⟩ := dps_get r1 e1
        obtain ⟨u, q2, _⟩ := dps_get r2 e2
        exact ⟨vs, ws, v, u, s.seq h1, s.seq h2, q1, q2⟩
      · obtain ⟨T, v, u, rfl, hT, rfl, y1, y2⟩ := y
        obtain ⟨x, y, e1, e2, rfl⟩ := zipD_get e
        obtain ⟨v', q1, t1⟩ := dps_get r1 e1
        obtain ⟨u', q2, t2⟩ := dps_get r2 e2
        have z1 := y1 vs ((s.trans s2).seq h1)
        have z2 := y2 ws ((s.trans s2).seq h2)
        rw [q1] at z1; rw [q2] at z2
        cases z1; cases z2
        obtain ⟨g1, g2, g3, g4, g5⟩ := lay_tup s2 hT (.cons (dp_up s t1) (.cons (dp_up s t2) .nil))
        exact ⟨_, g1, g2, g3, g4, g5⟩
      · rw [zipD_len, dps_len r1, dps_len r2]; omega
theorem itOk_zipT {K : PySem.W.Frag} {F : Hp} {a b : Addr} {xs ys : List PyData} (h1 : Dp K F (.ref a) (.tuple xs)) (h2 : Dp K F (.ref b) (.tuple ys)) : ItOk true K F (RZ.ItzT K a b) (zipD xs ys) := by
  cases h1 with
  | @tup _ vs _ h1 r1 =>
    cases h2 with
    | @tup _ ws _ h2 r2 =>
      refine ⟨fun i d H e s => ?_, fun i d F2 H2 H3 x e s s2 y => ?_, fun H s => ⟨vs, ws, sqt_up s h1, sqt_up s h2, ?_⟩⟩
      · obtain ⟨x, y, e1, e2, rfl⟩ := zipD_get e
        obtain ⟨v, q1, _⟩ := dps_get r1 e1
        obtain ⟨u, q2, _⟩ := dps_get r2 e2
        exact ⟨vs, ws, v, u, sqt_up s h1, sqt_up s h2, q1, q2⟩
      · obtain ⟨T, v, u, rfl, hT, rfl, y1, y2⟩ := y
        obtain ⟨x, y, e1, e2, rfl⟩ := zipD_get e
        obtain ⟨v', q1, t1⟩ := dps_get r1 e1
        obtain ⟨u', q2, t2⟩ := dps_get r2 e2
        have z1 := y1 vs (sqt_up (s.trans s2) h1)
        have z2 := y2 ws (sqt_up (s.trans s2) h2)
        rw [q1] at z1; rw [q2] at z2
        cases z1; cases z2
        obtain ⟨g1, g2, g3, g4, g5⟩ := lay_tup s2 hT (.cons (dp_up s t1) (.cons (dp_up s t2) .nil))
        exact ⟨_, g1, g2, g3, g4, g5⟩
      · rw [zipD_len, dps_len r1, dps_len r2]; omega
def zip2 : List PyData → Option (List PyData)
  | [.list xs, .list ys] => some (zipD xs ys)
  | [.tuple xs, .tuple ys] => some (zipD xs ys)
  | _ => none
def iZp (f : M (List PyData)) : M (List PyData) := bnd f fun ds => lft (zip2 ds)
section
variable {X : Cx} {W : WX} {e e2 : Expr} {f g : M PyData} {fl gl : M (List PyData)} {p pos tpos : Pos} {elts : List Expr} {kk : Nat}
theorem dps_two {K : PySem.W.Frag} {F : Hp} {vs : List V} {x y : PyData} (h : DpAll K F vs [x, y]) : ∃ v u, vs = [v, u] ∧ Dp K F v x ∧ Dp K F u y := by
  cases h with
  | cons h t => cases t with
    | cons h' t => cases t; exact ⟨_, _, rfl, h, h'⟩
theorem iv_zip (hg : Gl X "zip") (hm : X.mg "zip" = none) (ha : AV X W [e, e2] fl)
    (hs : starEach [e, e2] X.env = (false, eval e X.env) :: starEach [e2] X.env := by rfl) (hpl : (backTo pos (starEach [e2] X.env)).any (·.1) = false := by rfl) :
    IV X W (.Tuple elts kk tpos) (.Call (.Name "zip" p) [e, e2] [] pos) (iZp fl) true := (RZ.pi_zipA hg hm ha hs hpl).imp fun σ H R ⟨B, ρ, F, I, q⟩ => ⟨B, ρ, F, I, q.bind fun ds ρ1 vs F1 H1 s1 I1 r1 q1 => by
  obtain ⟨l, e, q2⟩ := q1.lft
  unfold zip2 at e
  split at e
  · cases e
    obtain ⟨v, u, rfl, h1, h2⟩ := dps_two r1
    have h1' := h1
    have h2' := h2
    cases h1' with
    | @lst a xs _ g1 g2 => cases h2' with
      | @lst b ys _ g3 g4 => exact ⟨a, b, xs, ys, rfl, .inl ⟨I1.sub.seq g1, I1.sub.seq g3, q2 _ F1 H1 (Same.refl _) I1 (itOk_zipL h1 h2)⟩⟩
  · cases e
    obtain ⟨v, u, rfl, h1, h2⟩ := dps_two r1
    have h1' := h1
    have h2' := h2
    cases h1' with
    | @tup a xs _ g1 g2 => cases h2' with
      | @tup b ys _ g3 g4 => exact ⟨a, b, xs, ys, rfl, .inr ⟨sqt_up I1.sub g1, sqt_up I1.sub g3, q2 _ F1 H1 (Same.refl _) I1 (itOk_zipT h1 h2)⟩⟩
  · cases e⟩
end

/-! ### enumerate -/
section
open PySem.AutoSeq1 (wpAny_loadPart')
theorem enum_newT (t : Addr) (items : Array Value) (n : Nat) (dd : Option Addr) (sl : Array (Option Value)) :
    Meets (Builtin.«enumerate.__new__» ⟨[.type "enumerate", .ref t], []⟩) (fun _ R s => s.heap.get? t = some { cls := .type "tuple", dict := dd, data := .seq items n, slots := sl } ∧ R (.ok (.ret (.ref (s.heap.push { cls := .type "tuple_iterator", data := .fields #[.ref t, .int 0 0] }).objs.size)))
      { s with heap := (s.heap.push { cls := .type "tuple_iterator", data := .fields #[.ref t, .int 0 0] }).push { cls := .type "enumerate", data := .fields #[.none, .bool false, .ref s.heap.objs.size, rawInt 0, .none, .none] } }) :=
  .of_wp fun prog w A R s h => by
    obtain ⟨hp, g, d, tk, os⟩ := s
    obtain ⟨hl, q⟩ := h
    have hsub := PySem.sub_enumerate
    have hT : (Shared.heap ⟨hp, g, d, tk, os⟩).IsTuple t items := ⟨_, hl, rfl, n, rfl⟩
    wp_walk using wpAny_loadPart' hl
    refine wpAny_stack_any fun st => wpAny_pure ?_
    split
    · rename_i c _ _ _ _ _
      cases (c == Value.type "enumerate")
      all_goals (wp_walk using wpAny_loadPart' hl, wpAny_pyIter_tuple hT; exact ⟨_, rfl, q⟩)
    · wp_walk using wpAny_loadPart' hl, wpAny_pyIter_tuple hT
      exact ⟨_, rfl, q⟩
end
theorem call_enumT {prog : Program} {w : World} {A : Around} {E : Value → Shared → Prop} {s : Shared} {t : Addr} {items : Array Value} {Q : Value → Shared → Prop} (hT : s.heap.IsTuple t items)
    (h : ∀ h', IsEnum h' (s.heap.objs.size + 1) s.heap.objs.size 0 .none → h'.IsTupleIter s.heap.objs.size t 0 → (∀ b o, s.heap.get? b = some o → h'.get? b = some o) → Q (.ref (s.heap.objs.size + 1)) { s with heap := h' }) :
    wpAny (model prog w) A (call (.type "enumerate") [.ref t]) Q E s := by
  obtain ⟨⟨c, dct, dt, sl⟩, hl, hc, n, hd⟩ := hT
  simp only at hc hd
  subst hc hd
  refine callType_new PySem.F.called_enumerate (by decide) (PySem.F.typeCall_enumerate_1 _) (PySem.F.newCall_enumerate_1 _) (fun obj => PySem.F.args_object_init_2 obj _) PySem.F.entry_enumerate_new (enum_newT t items n dct sl) ⟨hl, ?_⟩
  have hz : (s.heap.push { cls := .type "tuple_iterator", data := .fields #[.ref t, .int 0 0] }).objs.size = s.heap.objs.size + 1 := Heap.size_push ..
  show _ ∧ _
  rw [hz]
  have he : IsEnum ((s.heap.push { cls := .type "tuple_iterator", data := .fields #[.ref t, .int 0 0] }).push { cls := .type "enumerate", data := .fields #[.none, .bool false, .ref s.heap.objs.size, rawInt 0, .none, .none] }) (s.heap.objs.size + 1) s.heap.objs.size 0 .none := by
    have q := Heap.get?_push_size (s.heap.push { cls := .type "tuple_iterator", data := .fields #[.ref t, .int 0 0] }) (o := { cls := .type "enumerate", data := .fields #[.none, .bool false, .ref s.heap.objs.size, rawInt 0, .none, .none] }) rfl
    rw [hz] at q
    exact q
  exact ⟨⟨_, he, rfl⟩, h _ he ⟨_, Heap.get?_push_of_some _ (Heap.get?_push_size _ rfl), rfl, rfl⟩ fun b o x => Heap.get?_push_of_some _ (Heap.get?_push_of_some _ x)⟩
/-- the tuple at a, each item in a new pair -/
def IteT (K : PySem.W.Frag) (a : Addr) : It :=
  ⟨fun i H => ∃ (xs : List V) (x : V), SqT K H a xs ∧ xs[i]? = some x, fun i H v H' => ∃ T x, v = .ref T ∧ H T = none ∧ H' = upd H T (.tup [.int (i : Nat), x]) ∧ ∀ xs, SqT K H a xs → xs[i]? = some x, fun i H => ∃ xs : List V, SqT K H a xs ∧ xs.length = i⟩
theorem turn_enumT {P : Program} {w : World} {K : PySem.W.Frag} {elts : List Expr} {kk : Nat} {tpos : Pos} (a e it : Addr) :
    Turn P w K (.Tuple elts kk tpos) (IteT K a) [e, it] e (fun i h => (∃ old, IsEnum h e it ((i : Nat) : Int) old) ∧ h.IsTupleIter it a i ∧ e ≠ it ∧ a ≠ it ∧ a ≠ e) where
  mem := by simp
  obj := fun i h st b hb => by
    obtain ⟨⟨old, he⟩, ⟨o, ho, hc, hd⟩, _⟩ := st
    rcases (show b = e ∨ b = it by simpa using hb) with z | z
    · rw [z]; exact ⟨_, he, fun v q => nomatch q⟩
    · rw [z]; exact ⟨o, ho, fun v q => by rw [hd] at q; cases q⟩
  keep := fun i h h' st k => let ⟨⟨old, he⟩, hi, hne⟩ := st; ⟨⟨old, k e (by simp) _ he⟩, hi.at fun o q => k it (by simp) o q, hne⟩
  item := by
    intro X hP hw hK hc i pins s σ H E I hf st hg
    subst hP hw hK
    obtain ⟨⟨old, he⟩, hit, hne, hat, hae⟩ := st
    obtain ⟨xs, x, hq, hx⟩ := hg
    obtain ⟨its, rv, p, hz⟩ := I.tuple hq
    obtain ⟨u, hu, ru⟩ := rv.get hx
    have hel : e < s.heap.objs.size := Heap.lt_size he
    have hil : it < s.heap.objs.size := by obtain ⟨_, q, _⟩ := hit; exact Heap.lt_size q
    have hlt : i < its.toArray.size := by
      have := (List.getElem?_eq_some_iff.mp hu).1
      simpa using this
    refine wpAny_pyNext_enum_itemD (Draws.tuple (A := X.A.in1) (I.ok.hd hc) it a hat its.toArray) he ⟨hit, p⟩ hlt hne (fun z => ?_) fun u' h' tk hP ho hst hT hsz hk => ?_
    · rcases (show e = it ∨ e = a by simpa using z) with z | z
      · exact hne z
      · exact hae z.symm
    have eu : u' = u := by
      have z : its[i]? = some u' := by simpa using hP
      rw [hu] at z
      exact (Option.some.inj z).symm
    subst eu
    refine ⟨_, rfl, wpAny_letOwnedTupleGo_enum (s := { s with heap := h', toks := tk + 1 }) ho fun h'' he' sb => ?_⟩
    have hT2 : h''.get? s.heap.objs.size = some { cls := .type "tuple", data := .seq #[.int i tk, u'] } := (sb.2 _ (Nat.ne_of_gt hel)).trans hT
    have new : ObjOk X.prog X.w (upd H s.heap.objs.size (.tup [.int (i : Nat), x])) h'' s.heap.objs.size (.tup [.int (i : Nat), x]) :=
      ⟨by show 2 ≤ sizeLine; decide, [.int i tk, u'], .cons ⟨_, rfl⟩ (.cons ru .nil), ⟨_, hT2, rfl, _, rfl⟩⟩
    have I1 : Inv X pins σ (upd H s.heap.objs.size (.tup [.int (i : Nat), x])) { s with heap := h'', toks := tk + 1 } :=
      I.turnedNew (ch := [e, it]) (fun b ob hb q => (sb.2 b (fun z => hb (by simp [z]))).trans (hk b ob (fun z => hb (by simp [z])) (fun z => hb (by simp [z])) q)) hf (Nat.le_refl _) new
    refine ⟨.ref s.heap.objs.size, _, I1, rfl, ⟨_, x, rfl, I.hok.fresh (Nat.le_refl _), rfl, fun ys hy => by rw [I.tuple_inj hy hq]; exact hx⟩, ⟨⟨u', ?_⟩, hst.1.at fun o q => (sb.2 it (Ne.symm hne)).trans q, hne, hat, hae⟩, fun b hb => ?_⟩
    · rw [show ((i + 1 : Nat) : Int) = (i : Int) + 1 by omega]; exact he'
    · have hb' : b < s.heap.objs.size := by
        rcases (show b = e ∨ b = it by simpa using hb) with z | z
        · rw [z]; exact hel
        · rw [z]; exact hil
      rw [upd_ne (Nat.ne_of_lt hb')]
      exact (hf b hb).1
  done := by
    intro X hP hw hK hc i pins s σ H E I hf st hg
    subst hP hw hK
    obtain ⟨⟨old, he⟩, hit, hne, hat, hae⟩ := st
    obtain ⟨xs, hq, hx⟩ := hg
    obtain ⟨its, rv, p, hz⟩ := I.tuple hq
    obtain ⟨f0, f1, f2, f3, f4, f5⟩ := hf it (by simp)
    have hl := rv.length
    have ei : i = its.toArray.size := by simp; omega
    subst ei
    exact wpAny_pyNext_enum_endD (Draws.tuple (A := X.A.in1) (I.ok.hd hc) it a hat its.toArray) he ⟨hit, p⟩ fun h' eb => ⟨rfl, I.turned (t' := s.toks) (fun b o hb q => eb b o hb q) f0 f1 f3 f4 f5⟩
  self := fun A i s Q E st h => let ⟨⟨_, he⟩, _⟩ := st; wpAny_pyIter_enum he h
def enumD (xs : List PyData) : List PyData := xs.zipIdx.map fun p => .tuple [.int (p.2 : Nat), p.1]
theorem enumD_get {xs : List PyData} {i : Nat} {d : PyData} (e : (enumD xs)[i]? = some d) : ∃ x, xs[i]? = some x ∧ d = .tuple [.int (i : Nat), x] := by
  unfold enumD at e
  rw [List.getElem?_map, List.getElem?_zipIdx] at e
  cases q : xs[i]? with
  | none => rw [q] at e; cases e
  | some x => rw [q] at e; cases e; exact ⟨x, rfl, by simp⟩
theorem enumD_len (xs : List PyData) : (enumD xs).length = xs.length := by unfold enumD; rw [List.length_map, List.length_zipIdx]
theorem itOk_enumL {K : PySem.W.Frag} {F : Hp} {a : Addr} {xs : List PyData} (h1 : Dp K F (.ref a) (.list xs)) : ItOk true K F (Ite K a) (enumD xs) := by
  cases h1 with
  | @lst _ vs _ h1 r1 =>
    refine ⟨fun i d H e s => ?_, fun i d F2 H2 H3 x e s s2 y => ?_, fun H s => ⟨vs, s.seq h1, by rw [enumD_len, dps_len r1]; exact Nat.le_refl _⟩⟩
    · obtain ⟨x, e1, rfl⟩ := enumD_get e
      obtain ⟨v, q1, _⟩ := dps_get r1 e1
      exact ⟨vs, v, s.seq h1, q1⟩
    · obtain ⟨T, v, rfl, hT, rfl, y1⟩ := y
      obtain ⟨x, e1, rfl⟩ := enumD_get e
      obtain ⟨v', q1, t1⟩ := dps_get r1 e1
      have z1 := y1 vs ((s.trans s2).seq h1)
      rw [q1] at z1
      cases z1
      obtain ⟨g1, g2, g3, g4, g5⟩ := lay_tup s2 hT (.cons (.int _) (.cons (dp_up s t1) .nil))
      exact ⟨_, g1, g2, g3, g4, g5⟩
theorem itOk_enumT {K : PySem.W.Frag} {F : Hp} {a : Addr} {xs : List PyData} (h1 : Dp K F (.ref a) (.tuple xs)) : ItOk true K F (IteT K a) (enumD xs) := by
  cases h1 with
  | @tup _ vs _ h1 r1 =>
    refine ⟨fun i d H e s => ?_, fun i d F2 H2 H3 x e s s2 y => ?_, fun H s => ⟨vs, sqt_up s h1, by rw [enumD_len, dps_len r1]⟩⟩
    · obtain ⟨x, e1, rfl⟩ := enumD_get e
      obtain ⟨v, q1, _⟩ := dps_get r1 e1
      exact ⟨vs, v, sqt_up s h1, q1⟩
    · obtain ⟨T, v, rfl, hT, rfl, y1⟩ := y
      obtain ⟨x, e1, rfl⟩ := enumD_get e
      obtain ⟨v', q1, t1⟩ := dps_get r1 e1
      have z1 := y1 vs (sqt_up (s.trans s2) h1)
      rw [q1] at z1
      cases z1
      obtain ⟨g1, g2, g3, g4, g5⟩ := lay_tup s2 hT (.cons (.int _) (.cons (dp_up s t1) .nil))
      exact ⟨_, g1, g2, g3, g4, g5⟩
def enum1 : List PyData → Option (List PyData)
  | [.list xs] => some (enumD xs)
  | [.tuple xs] => some (enumD xs)
  | _ => none
def iEn (f : M (List PyData)) : M (List PyData) := bnd f fun ds => lft (enum1 ds)
section
variable {X : Cx} {W : WX} {e : Expr} {fl : M (List PyData)} {p pos tpos : Pos} {elts : List Expr} {kk : Nat}
theorem dps_one {K : PySem.W.Frag} {F : Hp} {vs : List V} {x : PyData} (h : DpAll K F vs [x]) : ∃ v, vs = [v] ∧ Dp K F v x := by
  cases h with
  | cons h t => cases t; exact ⟨_, rfl, h⟩
def iEnumA (K : PySem.W.Frag) (ta : TA) : TI := fun σ H R => ta σ H fun vs H1 => ∃ a xs, vs = [.ref a] ∧ ((SqL K H1 a xs ∧ R (Ite K a) H1) ∨ (SqT K H1 a xs ∧ R (IteT K a) H1))
theorem pi_enumA {ta : TA} (hg : Gl X "enumerate") (hm : X.mg "enumerate" = none) (ha : PA X [e] ta) (hs : starEach [e] X.env = [(false, eval e X.env)] := by rfl) : PI X (.Tuple elts kk tpos) (.Call (.Name "enumerate" p) [e] [] pos) (iEnumA X.K ta) := by
  refine ⟨fun pins s σ H R I h => ?_⟩
  refine Call_ (ld_blt I hg hm boot_enumerate (PyProof.Rows.callWith_type1 (thn (ha.run pos pins s σ H _ I h) fun us s1 ⟨vs, H1, I1, r1, q1⟩ => ?_) hs rfl))
  obtain ⟨a, xs, rfl, q1⟩ := q1
  obtain rfl := Vals.ref1 r1
  have hle : ∀ b, b ∈ [s1.heap.objs.size + 1, s1.heap.objs.size] → s1.heap.objs.size ≤ b := fun b hb => by
    rcases (show b = s1.heap.objs.size + 1 ∨ b = s1.heap.objs.size by simpa using hb) with z | z
    · rw [z]; exact Nat.le_add_right _ _
    · rw [z]; exact Nat.le_refl _
  rcases q1 with ⟨hq, q⟩ | ⟨hq, q⟩
  · obtain ⟨its, rv, p', hz⟩ := I1.list hq
    refine call_enumerate_list p'.isList fun h' he hit hsz hk => wpAny_pyIter_enum he ?_
    have I2 : Inv X pins σ H1 { s1 with heap := h' } := I1.kept (t' := s1.toks) hk
    exact ⟨s1.heap.objs.size + 1, [s1.heap.objs.size + 1, s1.heap.objs.size], _, _, H1, rfl, I2, turn_enum a (s1.heap.objs.size + 1) s1.heap.objs.size, ⟨⟨.none, he⟩, hit, Nat.succ_ne_self _⟩, fun b hb => I1.fpOk (hle b hb) (I1.hok.fresh (hle b hb)), q⟩
  · obtain ⟨its, rv, p', hz⟩ := I1.tuple hq
    have al : a < s1.heap.objs.size := by obtain ⟨o, ho, _⟩ := p'; exact Heap.lt_size ho
    refine call_enumT (show s1.heap.IsTuple a its.toArray from p') fun h' he hit hk => wpAny_pyIter_enum he ?_
    have I2 : Inv X pins σ H1 { s1 with heap := h' } := I1.kept (t' := s1.toks) hk
    exact ⟨s1.heap.objs.size + 1, [s1.heap.objs.size + 1, s1.heap.objs.size], _, _, H1, rfl, I2, turn_enumT a (s1.heap.objs.size + 1) s1.heap.objs.size, ⟨⟨.none, he⟩, hit, Nat.succ_ne_self _, Nat.ne_of_lt al, Nat.ne_of_lt (Nat.lt_succ_of_lt al)⟩, fun b hb => I1.fpOk (hle b hb) (I1.hok.fresh (hle b hb)), q⟩
theorem iv_enum (hg : Gl X "enumerate") (hm : X.mg "enumerate" = none) (ha : AV X W [e] fl) (hs : starEach [e] X.env = [(false, eval e X.env)] := by rfl) : IV X W (.Tuple elts kk tpos) (.Call (.Name "enumerate" p) [e] [] pos) (iEn fl) true :=
  (pi_enumA hg hm ha hs).imp fun σ H R ⟨B, ρ, F, I, q⟩ => ⟨B, ρ, F, I, q.bind fun ds ρ1 vs F1 H1 s1 I1 r1 q1 => by
  obtain ⟨l, e, q2⟩ := q1.lft
  unfold enum1 at e
  split at e
  · cases e
    obtain ⟨v, rfl, h1⟩ := dps_one r1
    have h1' := h1
    cases h1' with
    | @lst a xs _ g1 g2 => exact ⟨a, xs, rfl, .inl ⟨I1.sub.seq g1, q2 _ F1 H1 (Same.refl _) I1 (itOk_enumL h1)⟩⟩
  · cases e
    obtain ⟨v, rfl, h1⟩ := dps_one r1
    have h1' := h1
    cases h1' with
    | @tup a xs _ g1 g2 => exact ⟨a, xs, rfl, .inr ⟨sqt_up I1.sub g1, q2 _ F1 H1 (Same.refl _) I1 (itOk_enumT h1)⟩⟩
  · cases e⟩
end
end D3

namespace D3
open PySem PySem.Spec PyProof.Rows L2

/-! ### several values at once, lists of one's own among them -/
inductive AI where
  | val (d : PyData)
  | own (ds : List PyData)
def AI.slot : AI → Slot
  | .val d => .val d
  | .own ds => .own ds
inductive MsOk (K : PySem.W.Frag) (B : Bs) (σ : L2.St) (ρ : Ev) (F H : Hp) : List Addr → List V → List AI → Prop where
  | nil {T : List Addr} : MsOk K B σ ρ F H T [] []
  | val {T : List Addr} {v : V} {d : PyData} {vs : List V} {as : List AI} (h : Dp K F v d) (t : MsOk K B σ ρ F H T vs as) : MsOk K B σ ρ F H T (v :: vs) (.val d :: as)
  | own {T : List Addr} {a : Addr} {ds : List PyData} {vs : List V} {as : List AI} (n : a ∉ T) (h : Fresh K B σ ρ F H a ds) (t : MsOk K B σ ρ F H (a :: T) vs as) : MsOk K B σ ρ F H T (.ref a :: vs) (.own ds :: as)
section
variable {K : PySem.W.Frag} {mg : Str → Option Value} {W : WX} {B : Bs} {σ : L2.St} {ρ : Ev} {F F' H H' : Hp} {a p : Addr} {ds : List PyData} {T T' : List Addr} {vs ws : List V} {as : List AI}
theorem MsOk.sub (h : MsOk K B σ ρ F H T vs as) : ∀ {T' : List Addr}, (∀ x ∈ T', x ∈ T) → MsOk K B σ ρ F H T' vs as := by
  induction h with
  | nil => exact fun _ => .nil
  | val h t ih => exact fun s => .val h (ih s)
  | own n h t ih => exact fun s => .own (fun z => n (s _ z)) h (ih fun x hx => by
      rcases List.mem_cons.mp hx with z | z
      · exact List.mem_cons.mpr (.inl z)
      · exact List.mem_cons.mpr (.inr (s x z)))
theorem Fresh.bare (h : Fresh K (B.with a ws) σ ρ F H p ds) : p ≠ a ∧ Fresh K B σ ρ F H p ds :=
  ⟨fun z => h.fN (.inr z), h.at_, h.fF, fun z => h.fN (.inl z), h.ne⟩
theorem MsOk.bare {vs : List V} (h : MsOk K (B.with a ws) σ ρ F H T vs as) : MsOk K B σ ρ F H (a :: T) vs as := by
  induction h with
  | nil => exact .nil
  | val h t ih => exact .val h ih
  | own n h t ih =>
    obtain ⟨h1, h2⟩ := h.bare
    refine .own (fun z => ?_) h2 (ih.sub fun x hx => ?_)
    · rcases List.mem_cons.mp z with z | z
      · exact h1 z
      · exact n z
    · simp only [List.mem_cons] at hx ⊢
      rcases hx with z | z | z
      · exact .inr (.inl z)
      · exact .inl z
      · exact .inr (.inr z)
theorem Fresh.grow (h : Fresh K B σ ρ F H a ds) (sH : Same H H') : Fresh K B σ ρ F H' a ds := by
  obtain ⟨⟨vs, h1, h2⟩, h3, h4, h5⟩ := h
  exact ⟨⟨vs, sH _ _ h1, h2⟩, h3, h4, h5⟩
theorem MsOk.grow (h : MsOk K B σ ρ F H T vs as) (sH : Same H H') : MsOk K B σ ρ F H' T vs as := by
  induction h with
  | nil => exact .nil
  | val h t ih => exact .val h ih
  | own n h t ih => exact .own n (h.grow sH) ih
/-- slots are set -/
def setsV : L2.St → List Nat → List V → L2.St
  | σ, i :: is, v :: vs => setsV (σ.set i (some v)) is vs
  | σ, _, _ => σ
def setsE : Ev → List Nat → List AI → Ev
  | ρ, i :: is, a :: as => setsE (ρ.set i a.slot) is as
  | ρ, _, _ => ρ
theorem Fresh.setO {i : Nat} {v : V} {s : Slot} (h : Fresh K B σ ρ F H a ds) (hs : s.isO = true → v ≠ .ref a) : Fresh K B (σ.set i (some v)) (ρ.set i s) F H a ds := by
  refine ⟨h.at_, h.fF, h.fN, fun j t e o es => ?_⟩
  by_cases hj : i = j
  · subst hj
    have hl : i < ρ.length := by
      have := (List.getElem?_eq_some_iff.mp e).1
      rwa [List.length_set] at this
    rw [List.getElem?_set_self hl] at e
    cases e
    have hl2 : i < σ.length := by
      have := (List.getElem?_eq_some_iff.mp es).1
      rwa [List.length_set] at this
    rw [List.getElem?_set_self hl2] at es
    exact hs o (by simpa using es)
  · rw [List.getElem?_set_ne hj] at e es
    exact h.ne j t e o es
theorem MsOk.setV (h : MsOk K B σ ρ F H T vs as) {i : Nat} {v : V} {d : PyData} : MsOk K B (σ.set i (some v)) (ρ.set i (.val d)) F H T vs as := by
  induction h with
  | nil => exact .nil
  | val h t ih => exact .val h ih
  | own n h t ih => exact .own n (h.setO fun o => by cases o) ih
theorem MsOk.setL (h : MsOk K B σ ρ F H T vs as) {i : Nat} {ds : List PyData} (ha : a ∈ T) : MsOk K B (σ.set i (some (.ref a))) (ρ.set i (.own ds)) F H T vs as := by
  induction h with
  | nil => exact .nil
  | val h t ih => exact .val h (ih ha)
  | own n h t ih => exact .own n (h.setO fun _ z => by cases z; exact n ha) (ih (List.mem_cons_of_mem _ ha))
theorem SI.sets : ∀ {is : List Nat} {vs : List V} {as : List AI} {σ : L2.St} {ρ : Ev} {T : List Addr}, SI K B σ ρ F H → MsOk K B σ ρ F H T vs as → SI K B (setsV σ is vs) (setsE ρ is as) F H
  | [], _, _, _, _, _, I, h => by cases h <;> exact I
  | _ :: _, _, _, _, _, _, I, .nil => I
  | i :: is, _, _, _, _, _, I, .val h t => SI.sets (is := is) (I.setV h) t.setV
  | i :: is, _, _, _, _, _, I, .own n h t => SI.sets (is := is) (I.setL h) (t.setL List.mem_cons_self)
def rMs (K : PySem.W.Frag) : RelD (List V) (List AI) := fun B σ ρ F H vs as => MsOk K B σ ρ F H [] vs as
theorem MsOk.len (h : MsOk K B σ ρ F H T vs as) : vs.length = as.length := by
  induction h with
  | nil => rfl
  | val h t ih => exact congrArg (· + 1) ih
  | own n h t ih => exact congrArg (· + 1) ih
end
abbrev AM (X : Cx) (W : WX) (es : List Expr) (f : M (List AI)) : Prop := PA X es (tR X.K X.mg W (rMs X.K) f)
def mVal (f : M PyData) (g : M (List AI)) : M (List AI) := bnd f fun d => bnd g fun as => ret (.val d :: as)
def mOwn (f : M (List PyData)) (g : M (List AI)) : M (List AI) := bnd f fun d => bnd g fun as => ret (.own d :: as)
section
variable {X : Cx} {W : WX} {e : Expr} {es : List Expr} {f : M PyData} {fl : M (List PyData)} {fm : M (List AI)}
theorem am_nil : AM X W [] (ret []) := pa_nil.imp fun σ H Q ⟨B, ρ, F, I, q⟩ => q.ret (Same.refl _) I .nil
theorem MsOk.cov {K : PySem.W.Frag} {B : Bs} {σ : L2.St} {ρ : Ev} {F H : Hp} {T : List Addr} {v : V} {d : PyData} {vs : List V} {as : List AI} (h : Dp K F v d) (t : MsOk K B σ ρ F H T vs as) : MsOk K B σ ρ F H T (v :: vs) (.val d :: as) := .val h t
theorem am_val (he : EV X W e f) (hes : AM X W es fm) (hs : starEach (e :: es) X.env = (false, eval e X.env) :: starEach es X.env := by rfl) : AM X W (e :: es) (mVal f fm) := (pa_cons he hes hs).imp fun σ H Q ⟨B, ρ, F, I, q⟩ =>
  ⟨B, ρ, F, I, q.bind fun d ρ1 v F1 H1 s1 I1 r1 q1 => ⟨B, ρ1, F1, I1, q1.bind fun ds ρ2 vs F2 H2 s2 I2 r2 q2 => q2.ret (Same.refl _) I2 (.val (dp_up s2 r1) r2)⟩⟩
theorem am_own (he : EL X W e fl) (hes : AM X W es fm) (hs : starEach (e :: es) X.env = (false, eval e X.env) :: starEach es X.env := by rfl) : AM X W (e :: es) (mOwn fl fm) := (pa_cons he hes hs).imp fun σ H Q ⟨B, ρ, F, I, q⟩ =>
  ⟨B, ρ, F, I, q.bind fun ds ρ1 v F1 H1 s1 I1 r1 q1 => by
    obtain ⟨a, rfl, fr⟩ := r1
    obtain ⟨vs, h1, h2⟩ := fr.at_
    have fF : B.F0 a = none := I1.up.free fr.fF
    refine ⟨B.with a vs, ρ1, F1, I1.shield fr h1, ?_⟩
    obtain ⟨r, er, k1, k2⟩ := q1
    unfold bnd at er
    cases eg : fm ρ1 with
    | none => rw [eg] at er; cases er
    | some rg =>
      rw [eg] at er
      refine ⟨rg, eg, fun as ρ2 qe ws F2 H2 s2 I2 r2 => ?_, fun x ρ2 qe c d F2 H2 s2 I2 xo => ?_⟩
      · subst qe
        cases er
        obtain ⟨I3, fr3, _⟩ := I2.unshield (dps_up s2 h2) fr.fN fF I1.pn
        exact k1 _ _ rfl _ F2 H2 s2 I3 (.own (by simp) fr3 r2.bare)
      · subst qe
        cases er
        obtain ⟨I3, _, _⟩ := I2.unshield (dps_up s2 h2) fr.fN fF I1.pn
        exact k2 _ _ rfl c d F2 H2 s2 I3 xo⟩
/-- x, y, .. = e, f, .. -/
def sPar (is : List Nat) (f : M (List AI)) : M Fl := bnd f fun as ρ => if as.length = is.length then some (.ok .nx (setsE ρ is as)) else none
theorem tAS.par {K : PySem.W.Frag} {mg : Str → Option Value} {W : WX} {B : Bs} {ρ : Ev} {F : Hp} {D : Ends} {is : List Nat} {as : List AI} (h : tAS K mg W B ρ F (fun ρ => if as.length = is.length then some (.ok .nx (setsE ρ is as)) else none) D) : as.length = is.length ∧ EndOk K B (setsE ρ is as) F D .nx := by
  obtain ⟨r, e, h1, _⟩ := h
  dsimp only at e
  split at e
  · cases e; exact ⟨by assumption, h1 _ _ rfl⟩
  · cases e
variable {i j l : Nat} {x y z : Str} {a b c : Expr} {px py pz pt pos pt2 : Pos} {kt k2 : Nat}
theorem sv_par2 (i j : Nat) (hc : X.calm = true) (hN : X.N.Nodup) (ha : AM X W [a, b] fm) (hi : X.N[i]? = some x := by rfl) (hj : X.N[j]? = some y := by rfl) (hij : i ≠ j := by decide)
    (hx : X.env.scope.names.lookup x = some .local := by rfl) (hy : X.env.scope.names.lookup y = some .local := by rfl)
    (hw : swappedStores [.Tuple [.Name x px, .Name y py] kt pt] (.Tuple [a, b] k2 pt2) X.env = pure (some [x, y]) := by rfl)
    (hs : swapsWithSole [.Tuple [.Name x px, .Name y py] kt pt] (.Tuple [a, b] k2 pt2) pos.line X.env = pure false := by rfl) :
    SV X W (.Assign [.Tuple [.Name x px, .Name y py] kt pt] (.Tuple [a, b] k2 pt2) pos) (sPar [i, j] fm) := (ps_par hc hN hi hj hij hx hy ha hw hs).imp fun D σ H ⟨B, ρ, F, I, h⟩ => ⟨B, ρ, F, I, h.bind fun as ρ1 vs F1 H1 s1 I1 r1 q1 => by
  obtain ⟨el, q2⟩ := q1.par
  have r1' : MsOk X.K B σ ρ1 F1 H1 [] vs as := r1
  have hl := r1'.len
  match vs, hl.trans el with
  | [v, w], _ => exact ⟨v, w, rfl, q2 _ F1 H1 (Same.refl _) (I1.sets (is := [i, j]) r1')⟩⟩
theorem sv_par3 (i j l : Nat) (hc : X.calm = true) (hN : X.N.Nodup) (ha : AM X W [a, b, c] fm) (hi : X.N[i]? = some x := by rfl) (hj : X.N[j]? = some y := by rfl) (hl : X.N[l]? = some z := by rfl) (hij : i ≠ j := by decide) (hil : i ≠ l := by decide) (hjl : j ≠ l := by decide)
    (hx : X.env.scope.names.lookup x = some .local := by rfl) (hy : X.env.scope.names.lookup y = some .local := by rfl) (hz : X.env.scope.names.lookup z = some .local := by rfl)
    (hw : swappedStores [.Tuple [.Name x px, .Name y py, .Name z pz] kt pt] (.Tuple [a, b, c] k2 pt2) X.env = pure (some [x, y, z]) := by rfl)
    (hs : swapsWithSole [.Tuple [.Name x px, .Name y py, .Name z pz] kt pt] (.Tuple [a, b, c] k2 pt2) pos.line X.env = pure false := by rfl) :
    SV X W (.Assign [.Tuple [.Name x px, .Name y py, .Name z pz] kt pt] (.Tuple [a, b, c] k2 pt2) pos) (sPar [i, j, l] fm) := (ps_par3 hc hN hi hj hl hij hil hjl hx hy hz ha hw hs).imp fun D σ H ⟨B, ρ, F, I, h⟩ => ⟨B, ρ, F, I, h.bind fun as ρ1 vs F1 H1 s1 I1 r1 q1 => by
  obtain ⟨el, q2⟩ := q1.par
  have r1' : MsOk X.K B σ ρ1 F1 H1 [] vs as := r1
  have hl := r1'.len
  match vs, hl.trans el with
  | [u, v, w], _ => exact ⟨u, v, w, rfl, q2 _ F1 H1 (Same.refl _) (I1.sets (is := [i, j, l]) r1')⟩⟩
/-- targets that are names -/
def gNs (is : List Nat) : TGs := fun vs σ H Q => vs.length = is.length ∧ Q (setsV σ is vs) H
theorem gn_nil : PGs X [] (gNs []) := pgs_nil.imp fun vs σ H Q ⟨e, q⟩ => by
  cases vs with
  | nil => exact ⟨rfl, q⟩
  | cons _ _ => cases e
theorem gn_cons (i : Nat) {ts : List Expr} {is : List Nat} {x : Str} {p : Pos} (hN : X.N.Nodup) (h2 : PGs X ts (gNs is)) (hi : X.N[i]? = some x := by rfl) (hx : Loc X.env.scope x := by first | exact Or.inl rfl | exact Or.inr rfl)
    (hf : X.fn x = true ∨ X.env.scope.names.lookup x = some .local := by first | exact .inl rfl | exact .inr rfl) (hs : (assignEach (.Name x p :: ts) X.env).map (·.2) = assign (.Name x p) X.env :: (assignEach ts X.env).map (·.2) := by rfl) : PGs X (.Name x p :: ts) (gNs (i :: is)) := (pgs_cons (pg_name hN hi hx hf) h2 hs).imp fun vs σ H Q ⟨e, q⟩ => by
  cases vs with
  | nil => cases e
  | cons v vs => exact ⟨v, vs, rfl, by simpa using e, q⟩
/-- .. through a tuple -/
theorem sv_parG {is : List Nat} {n : Nat} {tg : List Expr} (hc : X.calm = true) (ha : AM X W es fm) (hg : PGs X tg (gNs is)) (hl : is.length = n := by rfl) (hz : is.length ≤ 15 := by decide)
    (hn : (assignEach tg X.env).length = n := by rfl) (hst : (assignEach tg X.env).findIdx? (·.1) = none := by rfl)
    (hs : swapsWithSole [.Tuple tg kt pt] (.Tuple es k2 pt2) pos.line X.env = pure false := by rfl) (hw : swappedStores [.Tuple tg kt pt] (.Tuple es k2 pt2) X.env = pure none := by rfl) (h1 : (assignEach [.Tuple tg kt pt] X.env).map (·.2) = [assign (.Tuple tg kt pt) X.env] := by rfl) :
    SV X W (.Assign [.Tuple tg kt pt] (.Tuple es k2 pt2) pos) (sPar is fm) := (ps_asg (pe_tup ha) (pg_tup hc hg hn hst) hs hw h1).imp fun D σ H ⟨B, ρ, F, I, h⟩ => ⟨B, ρ, F, I, h.bind fun as ρ1 vs F1 H1 s1 I1 r1 q1 => by
  obtain ⟨el, q2⟩ := q1.par
  have r1' : MsOk X.K B σ ρ1 F1 H1 [] vs as := r1
  have z15 : 15 ≤ sizeLine := by decide
  have el2 := r1'.len
  refine ⟨by omega, fun p hp => ⟨p, vs, rfl, SqT.of upd_same, by omega, by omega, ?_⟩⟩
  have I2 := I1.grow (Same.refl _) (I1.sub.trans (same_new (o := .tup vs) hp)) (same_new hp) fun a o e e0 => (by rw [e0] at e; cases e)
  exact q2 _ F1 _ (Same.refl _) (I2.sets (r1'.grow (same_new hp)))⟩
end
end D3

namespace D3
open PySem PySem.Spec PyProof.Rows L2

/-! ### lists and tuples times an int -/
theorem SI.freezeAt {K : PySem.W.Frag} {B : Bs} {σ : L2.St} {ρ : Ev} {F H : Hp} {a : Addr} {ds : List PyData} {vs : List V} (I : SI K B σ ρ F H) (f : Fresh K B σ ρ F H a ds) (e : H a = some (.lst vs)) : ∃ F', Same F F' ∧ SI K B σ ρ F' H ∧ F' a = some (.lst vs) ∧ DpAll K F' vs ds := by
  obtain ⟨⟨ws, h1, h2⟩, h3, h4, h5⟩ := f
  rw [e] at h1
  cases h1
  have sF : Same F (upd F a (.lst vs)) := same_new h3
  refine ⟨upd F a (.lst vs), sF, ⟨I.up.trans sF, I.sub.lst e, fun b o e1 e0 => ?_, I.keep, I.pn, I.there, fun b hm => ?_, I.len, fun i s e1 => (I.slot i s e1).grow sF fun b o es => ⟨rfl, ?_⟩, I.sep⟩, upd_same, dps_up sF h2⟩
  · by_cases hb : b = a
    · subst hb; exact h4
    · rw [upd_ne hb] at e1; exact I.new b o e1 e0
  · obtain ⟨e1, e2⟩ := I.lent b hm
    refine ⟨?_, e2⟩
    by_cases hb : b = a
    · subst hb; exact absurd e2.1 h4
    · rw [upd_ne hb]; exact e1
  · have hb : b ≠ a := fun z => h5 i s e1 o (z ▸ es)
    rw [upd_ne hb]
section
variable {X : Cx} {W : WX} {a b : Expr} {f g : M PyData} {fl : M (List PyData)} {pos : Pos}
def eRep (f : M (List PyData)) (g : M PyData) : M (List PyData) := bnd f fun xs => bnd g fun y => lft (repD (.list xs) y)
theorem el_rep (ha : EL X W a fl) (hb : EB X W b g) : EL X W (.BinOp a .Mult b pos) (eRep fl g) := (pe_op op_rep ha hb).imp fun σ H Q ⟨B, ρ, F, I, q⟩ => ⟨B, ρ, F, I, q.bind fun xs ρ1 v F1 H1 s1 I1 r1 q1 => by
  obtain ⟨p, rfl, fr⟩ := r1
  obtain ⟨vs, e1, e2⟩ := fr.at_
  obtain ⟨F2, s2, I2, h1, h2⟩ := I1.freezeAt fr e1
  refine ⟨B, ρ1, F2, I2, (q1.up s2).bind fun y ρ3 u F3 H3 s3 I3 r3 q3 => ?_⟩
  obtain ⟨d, e, q4⟩ := q3.lft
  cases y <;> simp only [repD] at e <;> try (cases e; done)
  rename_i k
  split at e
  · rename_i hz
    cases e
    simp only [Bool.and_eq_true, decide_eq_true_eq] at hz
    exact ⟨p, k, vs, rfl, r3.int, I3.sub.s _ _ (s3 _ _ h1), hz.1.1, hz.1.2, by rw [dps_len h2]; exact hz.2, fun p hp => (I3.pl q4).put I3.sub hp (dps_rep (dps_up s3 h2) _)⟩
  · cases e⟩
/-- a tuple times 1 is itself -/
theorem tuple_mul1 (l : Addr) (items : Array Value) (n : Nat) (dd : Option Addr) (sl : Array (Option Value)) (u : Tok) :
    Meets (Builtin.«tuple.__mul__» ⟨[.ref l, .int 1 u], []⟩) (fun _ R s => s.heap.get? l = some { cls := .type "tuple", dict := dd, data := .seq items n, slots := sl } ∧ R (.ok (.ret (Value.ref l))) s) :=
  .of_wp fun prog w A R s h => by
    obtain ⟨hp, g, d, tk, os⟩ := s
    obtain ⟨hl, h⟩ := h
    have f1 := AutoSeq1.idx_int
    wp_walk using AutoSeq1.wpAny_loadPart' hl
    repeat (first
      | (refine wpAny_ite_false (by decide) ?_; wp_walk using AutoSeq1.wpAny_loadPart' hl)
      | (refine wpAny_ite_true (by simp) ?_; wp_walk using AutoSeq1.wpAny_loadPart' hl))
    exact ⟨_, rfl, h⟩
def repT (x y : PyData) : Option PyData := match x, y with
  | .tuple xs, .int k => if xs.isEmpty then none else if k = 1 then some (.tuple xs) else if decide (2 ≤ k) && decide (k ≤ 1000) && decide (xs.length ≤ 1000) then some (.tuple (List.replicate k.toNat xs).flatten) else none
  | _, _ => none
theorem op_rep1 : OpR X (binaryOp .Mult) (fun x y H Q => ∃ l xs, x = .ref l ∧ y = .int 1 ∧ SqT X.K H l xs ∧ Q (.ref l) H) := by
  intro pins s σ H x y v u Q I rx ry h
  obtain ⟨l, xs, rfl, rfl, hT, q⟩ := h
  cases rx
  obtain ⟨t, rfl⟩ := ry
  obtain ⟨its, r, ⟨⟨cls, dd, data, sl⟩, ho, hc, n, hd⟩, hs⟩ := I.tuple hT
  simp only at hc hd
  subst hc hd
  exact wpAny_binaryOp_repeat_ref (T := "tuple") (U := "int") (by decide) ⟨_, ho, rfl⟩ (fun s' => PySem.typeIs_int s' 1 t) noFill_tuple_mul PySem.F.fills_int_mul PySem.F.slot_int_rmul repeat_tuple PySem.F.slot_int_index.lookup
    (call_meets PySem.F.slot_int_rmul (PySem.typeIs_int s 1 t) PySem.F.entry_int_rmul (PySem.F.args_int_rmul_2 _ _) (int_rmul_tuple 1 t l its.toArray n dd sl)
      ⟨ho, rfl, ⟨_, ho, rfl⟩, call_meets PySem.F.slot_tuple_mul ⟨_, ho, rfl⟩ PySem.F.entry_tuple_mul (PySem.F.args_tuple_mul_2 _ _) (tuple_mul1 l its.toArray n dd sl t) ⟨ho, .ref l, H, I, rfl, q⟩⟩)
theorem opd_repT : OpD X (binaryOp .Mult) repT := by
  intro pins s σ H x y v u Q I rx ry ⟨F, d, e, r, sF, h1, h2, h3, h4⟩
  cases d <;> cases e <;> simp only [repT] at h3 <;> try (cases h3; done)
  split at h3
  · cases h3
  · rename_i hne
    have h1' := h1
    obtain ⟨a, vs, rfl, q1, r1⟩ := h1.tup sF
    split at h3
    · rename_i hk
      cases h3
      subst hk
      refine op_rep1 pins s σ H _ y v u Q I rx ry ⟨a, vs, rfl, h2.int, q1, ?_⟩
      rcases h1' with h1' | ⟨_, _, _, _, z, _⟩
      · exact h4.here sF h1'
      · cases z
    · split at h3
      · rename_i hz
        cases h3
        simp only [Bool.and_eq_true, decide_eq_true_eq] at hz
        exact op_repB pins s σ H _ y v u Q I rx ry ⟨a, _, vs, rfl, h2.int, q1, fun z => by subst z; cases r1; exact hne rfl, hz.1.1, hz.1.2, by rw [dps_len r1]; exact hz.2, h4.tup sF (dps_rep r1 _)⟩
      · cases h3
theorem opd_mulA : OpD X (binaryOp .Mult) (orF2 mulD repT) := opd_mul.or opd_repT
def mulA : PyData → PyData → Option PyData := orF2 mulD repT

/-! ### repr -/
def showOk (d : PyData) : Bool := d.showable && !d.hasDict && decide (d.depth ≤ 64) && decide (d.shown.length ≤ sizeLine)
def reprD : List PyData → Option PyData
  | [d] => if showOk d then some (.str d.shown) else none
  | _ => none
theorem cd_repr (gd : X.A.guards = some []) (hu : X.A.units + 66 < cLine) : CallDa X (.builtin "repr") reprD := by
  intro pins s σ H vs us Q I r ⟨F, ds, d, sF, h0, h2, h3⟩
  unfold reprD at h2
  split at h2
  · rename_i e
    split at h2
    · rename_i hz
      cases h2
      simp only [showOk, Bool.and_eq_true, decide_eq_true_eq, Bool.not_eq_true'] at hz
      obtain ⟨⟨⟨g1, g2⟩, g3⟩, g4⟩ := hz
      obtain ⟨v, rfl, b1⟩ := bos_one h0
      obtain ⟨u, rfl, ru⟩ := vals1 r
      obtain ⟨as, R⟩ := Dp.reads I e v u (b1.dp sF) ru
      have fin : ∀ (h' : Heap) (u : Tok) (tk : Tok), (∀ b o, s.heap.get? b = some o → h'.get? b = some o) → EP X pins σ Q (.str e.shown u) { s with heap := h', toks := tk } := fun h' u tk hk =>
        ⟨.str e.shown, H, I.kept (t' := tk) hk, ⟨_, rfl⟩, h3.here sF (.str _)⟩
      cases e with
      | none => rw [b1.non] at ru; cases (show u = Value.none from ru); exact PySem.P.repr_of_none (fin s.heap _ _ fun _ _ q => q)
      | bool b => rw [b1.bl] at ru; cases (show u = Value.bool b from ru); exact PySem.P.repr_of_bool (fin s.heap _ _ fun _ _ q => q)
      | int i =>
        rw [b1.int] at ru
        obtain ⟨t, rfl⟩ := ru
        exact PySem.P.repr_of_int (by simpa [PyData.showable] using g1) (fin s.heap _ _ fun _ _ q => q)
      | str x =>
        rw [b1.str] at ru
        obtain ⟨t, rfl⟩ := ru
        exact PySem.P.repr_of_str (fin s.heap _ _ fun _ _ q => q) g4
      | list xs =>
        obtain ⟨a, ws, rfl, _, _⟩ := b1.list sF
        cases (show u = Value.ref a from ru)
        exact repr_of_reads' R g1 (PyData.noDict_hsm g2) gd (by omega) (fun _ _ q => q) (fun h' u tk hk => fin h' u tk hk) g4
      | tuple xs =>
        obtain ⟨a, ws, rfl, _, _⟩ := b1.tup sF
        cases (show u = Value.ref a from ru)
        exact repr_of_reads' R g1 (PyData.noDict_hsm g2) gd (by omega) (fun _ _ q => q) (fun h' u tk hk => fin h' u tk hk) g4
      | dict kvs => exact b1.dict.elim
    · cases h2
  · cases h2
/-! ### list(range(..)) -/
end
end D3

namespace D3
open PySem PySem.Spec PyProof.Rows L2

/-! ### list(range(..)) -/
section
variable {X : Cx} {W : WX} {a b e : Expr} {f g : M PyData} {fl : M (List PyData)} {p p2 pos pos2 : Pos}
def sm24 (i : Int) : Bool := decide (0 ≤ i) && decide (i ≤ 16777216)
def rgS : PyData → Option (List PyData)
  | .int j => if sm24 j then some (rgD 0 j) else none
  | _ => none
def rgS2 : PyData → PyData → Option (List PyData)
  | .int i, .int j => if sm24 i && sm24 j then some (rgD i j) else none
  | _, _ => none
theorem dps_rg {K : PySem.W.Frag} {F : Hp} (a b : Int) : DpAll K F (rgV a b) (rgD a b) := by
  unfold rgV rgD
  generalize List.range (b - a).toNat = l
  induction l with
  | nil => exact .nil
  | cons i l ih => exact .cons (.int _) ih
def eLrg (f : M PyData) : M (List PyData) := bnd f fun d => lft (rgS d)
theorem el_listRg (hc : X.calm = true) (hg : Gl X "list") (hm : X.mg "list" = none) (hg2 : Gl X "range") (hm2 : X.mg "range" = none) (ha : EV X W a f) (na : starEach [.Call (.Name "range" p2) [a] [] pos2] X.env = (false, eval (.Call (.Name "range" p2) [a] [] pos2) X.env) :: starEach [] X.env := by rfl)
    (nb : starEach [a] X.env = (false, eval a X.env) :: starEach [] X.env := by rfl) : EL X W (.Call (.Name "list" p) [.Call (.Name "range" p2) [a] [] pos2] [] pos) (eLrg f) :=
  (pe_listRg hc hg hm (prg_1 hg2 hm2 ha nb) na).imp fun σ H Q ⟨B, ρ, F, I, q⟩ => ⟨B, ρ, F, I, q.bind fun d ρ1 v F1 H1 s1 I1 r1 q1 => by
    obtain ⟨l, e, q2⟩ := q1.lft
    cases d <;> simp only [rgS] at e <;> try (cases e; done)
    split at e
    · rename_i hz
      cases e
      cases r1
      simp only [sm24, Bool.and_eq_true, decide_eq_true_eq] at hz
      exact ⟨_, rfl, .of_le (by omega) (by omega) (by omega) (by omega), fun q hq => (I1.pl q2).put I1.sub hq (dps_rg 0 _)⟩
    · cases e⟩
def eTrg (f : M PyData) : M PyData := bnd f fun d => lft ((rgS d).map .tuple)
theorem ev_tupRg (hc : X.calm = true) (hg : Gl X "tuple") (hm : X.mg "tuple" = none) (hg2 : Gl X "range") (hm2 : X.mg "range" = none) (ha : EV X W a f) (na : starEach [.Call (.Name "range" p2) [a] [] pos2] X.env = (false, eval (.Call (.Name "range" p2) [a] [] pos2) X.env) :: starEach [] X.env := by rfl)
    (nb : starEach [a] X.env = (false, eval a X.env) :: starEach [] X.env := by rfl) : EV X W (.Call (.Name "tuple" p) [.Call (.Name "range" p2) [a] [] pos2] [] pos) (eTrg f) :=
  (pe_tupRgB hc hg hm (prg_1 hg2 hm2 ha nb) na).imp fun σ H Q ⟨B, ρ, F, I, q⟩ => ⟨B, ρ, F, I, q.bind fun d ρ1 v F1 H1 s1 I1 r1 q1 => by
    obtain ⟨l, e, q2⟩ := q1.lft
    cases d <;> simp only [rgS] at e <;> try (cases e; done)
    split at e
    · rename_i hz
      cases e
      cases r1
      simp only [sm24, Bool.and_eq_true, decide_eq_true_eq] at hz
      exact ⟨_, rfl, .of_le (by omega) (by omega) (by omega) (by omega), (I1.pr q2).tup I1.sub (dps_rg 0 _)⟩
    · cases e⟩
/-! ### x += e, ints -/
def intO (o : Int → Int → Int) : PyData → PyData → Option PyData
  | .int i, .int j => some (.int (o i j))
  | _, _ => none
def sAug (o : Int → Int → Int) (i : Nat) (f : M PyData) : M Fl := bnd (eLook i) fun x => bnd f fun y => bnd (lft (intO o x y)) fun d => nxt i (.val d)
theorem sv_aug {x : Str} (i : Nat) {op : Operator} {o : Int → Int → Int} (ho : PIp X op (ipI o)) (hN : X.N.Nodup) (he : EV X W e f) (hi : X.N[i]? = some x := by rfl) (hx : Loc X.env.scope x := by first | exact Or.inl rfl | exact Or.inr rfl)
    (hf : X.fn x = true ∨ X.env.scope.names.lookup x = some .local := by first | exact .inl rfl | exact .inr rfl) : SV X W (.AugAssign (.Name x p2) op e pos) (sAug o i f) := (ps_aug hN hi hx he ho hf).imp fun D σ H ⟨B, ρ, F, I, h⟩ => by
  obtain ⟨d, v, el, ev, h2⟩ := h.look I
  obtain ⟨v', ev', bo⟩ := I.look el
  rw [ev] at ev'
  cases ev'
  refine ⟨v, ev, B, ρ, F, I, h2.bind fun y ρ1 u F1 H1 s1 I1 r1 q1 => ?_⟩
  obtain ⟨r, er, h1, _⟩ := q1
  unfold bnd D3.lft at er
  cases d <;> cases y <;> simp only [intO] at er <;> try (cases er; done)
  cases er
  cases r1
  exact ⟨_, _, bo.int, rfl, h1 .nx _ rfl _ F1 H1 (Same.refl _) (I1.setV (.int _))⟩
end

/-! ### two clauses -/
def compD2 (as : PyData → Ev → Option Ev) (t : M Bool) (f1 : M (List PyData)) (as1 : PyData → Ev → Option Ev) (t1 : M Bool) (e : M PyData) (vs vs1 : List Nat) : List PyData → List PyData → M (List PyData)
  | [], acc, ρ => some (.ok acc ρ)
  | d :: ds, acc, ρ => match as d ρ with
    | none => none
    | some ρ1 => match t ρ1 with
      | some (.ok true ρ2) => match f1 ρ2 with
        | some (.ok items ρ3) => match compD as1 t1 e vs1 items acc (wipeE ρ3 vs1) with
          | some (.ok acc' ρ4) => compD2 as t f1 as1 t1 e vs vs1 ds acc' (wipeE ρ4 vs)
          | _ => none
        | _ => none
      | some (.ok false ρ2) => compD2 as t f1 as1 t1 e vs vs1 ds acc (wipeE ρ2 vs)
      | _ => none
def lcD2 (as : PyData → Ev → Option Ev) (t : M Bool) (f1 : M (List PyData)) (as1 : PyData → Ev → Option Ev) (t1 : M Bool) (e : M PyData) (vs vs1 : List Nat) (items : List PyData) : M (List PyData) := fun ρ =>
  if noOwn ρ vs then match compD2 as t f1 as1 t1 e vs vs1 items [] (wipeE ρ vs) with
    | some (.ok l ρ') => if l.length ≤ sizeLine then some (.ok l (backE ρ ρ' vs)) else none
    | _ => none
  else none
def eLc2 (f : M (List PyData)) (as : PyData → Ev → Option Ev) (t : M Bool) (f1 : M (List PyData)) (as1 : PyData → Ev → Option Ev) (t1 : M Bool) (e : M PyData) (vs vs1 : List Nat) : M (List PyData) := bnd f (lcD2 as t f1 as1 t1 e vs vs1)
theorem compD_le {as : PyData → Ev → Option Ev} {t : M Bool} {e : M PyData} {vs : List Nat} : ∀ {items acc l : List PyData} {ρ ρ' : Ev}, compD as t e vs items acc ρ = some (.ok l ρ') → acc.length ≤ l.length
  | [], acc, l, ρ, ρ', h => by cases h; exact Nat.le_refl _
  | d :: ds, acc, l, ρ, ρ', h => by
    unfold compD at h
    split at h
    · cases h
    · split at h
      · split at h
        · have := compD_le h
          rw [List.length_append] at this
          exact Nat.le_of_succ_le this
        · cases h
      · exact compD_le h
      · cases h
theorem compD2_le {as as1 : PyData → Ev → Option Ev} {t t1 : M Bool} {f1 : M (List PyData)} {e : M PyData} {vs vs1 : List Nat} : ∀ {items acc l : List PyData} {ρ ρ' : Ev}, compD2 as t f1 as1 t1 e vs vs1 items acc ρ = some (.ok l ρ') → acc.length ≤ l.length
  | [], acc, l, ρ, ρ', h => by cases h; exact Nat.le_refl _
  | d :: ds, acc, l, ρ, ρ', h => by
    unfold compD2 at h
    split at h
    · cases h
    · split at h
      · split at h
        · split at h
          · exact Nat.le_trans (compD_le (by assumption)) (compD2_le h)
          · cases h
        · cases h
      · exact compD2_le h
      · cases h
section
variable {X : Cx} {W : WX} {tg it elt tg1 it1 : Expr} {ifs ifs1 : List Expr} {fl f1 : M (List PyData)} {as as1 : PyData → Ev → Option Ev} {vs vs1 : List Nat} {ft ft1 : M Bool} {fe : M PyData} {pos : Pos} {scope : Scope} {own : List (Str × Nat)}
theorem wipe_sub (σ : L2.St) {vs vs1 : List Nat} (h : ∀ j ∈ vs1, j ∈ vs) : L2.wipe (L2.wipe σ vs1) vs = L2.wipe σ vs :=
  wipe_same (ws := vs1) (wipe_length σ vs1) (fun j hj => wipe_get hj) h
theorem lc2_read {K : PySem.W.Frag} {mg : Str → Option Value} {ws ws1 : List Nat} {σ : L2.St} {H : Hp} {Q : VK} (hw : ∀ j ∈ ws, j ∈ vs) (hw1 : ∀ j ∈ ws1, j ∈ vs1) (hv : ∀ j ∈ vs1, j ∈ vs) (h : tR K mg W (rL K) (eLc2 fl as ft f1 as1 ft1 fe vs vs1) σ H Q) :
    tLc2 (tR K mg W (rI rw K) fl) (tG rw K as ws) (tR K mg WX0 rB ft) (tR K mg WX0 (rI rw1 K) f1) (tG rw1 K as1 ws1) (tR K mg WX0 rB ft1) (tR K mg WX0 (rD K) fe) vs vs1 σ H Q := by
  obtain ⟨B, ρ, F, I, h⟩ := h
  refine ⟨B, ρ, F, I, h.bind fun items ρ1 J F1 H1 a1 I1 ok q1 D hD => ?_⟩
  have ok' : ItOk rw K F1 J items := ok
  obtain ⟨r, er, h1, h2⟩ := q1
  unfold lcD2 at er
  split at er
  · rename_i hno
    cases ec : compD2 as ft f1 as1 ft1 fe vs vs1 items [] (wipeE ρ1 vs) with
    | none => rw [ec] at er; cases er
    | some rc =>
      rw [ec] at er
      cases rc with
      | ex x ρ' => cases er
      | ok l ρ' =>
        dsimp only at er
        split at er
        · rename_i hz
          cases er
          obtain ⟨I2, fr2⟩ := I1.fresh (vs := []) (ds := []) hD .nil
          have fF : B.F0 D = none := by
            cases e : B.F0 D with
            | none => rfl
            | some o =>
              have z := I1.sub.s _ _ (I1.up _ _ e)
              rw [hD] at z; cases z
          refine ⟨fun i m H => i + m = items.length ∧ ∃ ρ F acc, Same F1 F ∧ SI K B (L2.wipe σ vs) ρ F H ∧ Fresh K B (L2.wipe σ vs) ρ F H D acc ∧ compD2 as ft f1 as1 ft1 fe vs vs1 (items.drop i) acc ρ = some (.ok l ρ'), ⟨items.length, Nat.zero_add _, wipeE ρ1 vs, F1, [], Same.refl _, I2.wipe vs, ?_, by rw [List.drop_zero]; exact ec⟩, ?_⟩
          · refine ⟨fr2.at_, fr2.fF, fr2.fN, fun j s ej os esj => ?_⟩
            obtain ⟨_, ws, h5⟩ := (I1.wipe vs).ownF ej os esj
            rw [hD] at h5; cases h5
          rintro i m H3 ⟨em, ρ3, F3, acc, s3, I3, fr3, ec3⟩
          cases ed : items.drop i with
          | nil =>
            have hl : items.length ≤ i := List.drop_eq_nil_iff.mp ed
            have ei : i = items.length := by omega
            rw [ed] at ec3
            cases ec3
            have Ib := I1.back I3 s3 hno
            refine .inl ⟨by rw [ei]; exact ok'.stop H3 (s3.sb I3.sub), h1 _ _ rfl _ F3 H3 s3 Ib ⟨D, rfl, fr3.at_, fr3.fF, fr3.fN, fun j s ej os esj => ?_⟩⟩
            have hl : ρ1.length = ρ'.length := by rw [I1.len, I3.len, wipe_length]
            rw [backE_get hl] at ej
            split at ej
            · rename_i hj
              have := List.all_eq_true.mp hno j hj
              rw [ej] at this
              simp [os] at this
            · rename_i hj
              rw [← wipe_get hj] at esj
              exact fr3.ne j s ej os esj
          | cons d ds =>
            obtain ⟨e1, e2⟩ := getE_cons ed
            have hi : i < items.length := (List.getElem?_eq_some_iff.mp e1).1
            rw [ed] at ec3
            unfold compD2 at ec3
            cases ea : as d ρ3 with
            | none => rw [ea] at ec3; cases ec3
            | some ρ4 =>
              rw [ea] at ec3
              dsimp only at ec3
              cases et : ft ρ4 with
              | none => rw [et] at ec3; cases ec3
              | some rt =>
                cases rt with
                | ex x ρ5 => rw [et] at ec3; cases ec3
                | ok b ρ5 =>
                  rw [et] at ec3
                  obtain ⟨av, ha1, ha2⟩ := fr3.at_
                  have hDx : H3 D = some (.lst av) := ha1
                  refine .inr ⟨ok'.go i d H3 e1 (s3.sb I3.sub), fun H' => ∃ ρ F acc, Same F1 F ∧ SI K B (L2.wipe σ vs) ρ F H' ∧ Fresh K B (L2.wipe σ vs) ρ F H' D acc ∧ compD2 as ft f1 as1 ft1 fe vs vs1 ds acc ρ = some (.ok l ρ'), fun H' ⟨ρ6, F6, acc6, t2, t3, t4, t5⟩ => ⟨m - 1, by omega, by omega, ρ6, F6, acc6, t2, t3, t4, by rw [e2]; exact t5⟩, fun x H4 y => ?_⟩
                  obtain ⟨F4, t1, t2, t3, t4, t5⟩ := ok'.yld i d F3 H3 H4 x e1 s3 I3.sub y
                  -- the list is shielded
                  have I4 := (I3.shield fr3 hDx).grow t1 t2 t3 t4
                  refine ⟨B.with D av, ρ3, F4, d, ρ4, I4, t5, ea, fun σ5 I5 l5 k5 => ?_⟩
                  have w5 : L2.wipe σ5 vs = L2.wipe σ vs := by
                    rw [← wipe_wipe σ vs]
                    exact wipe_same (ws := ws) l5 k5 hw
                  refine ⟨w5, B.with D av, ρ4, F4, I5, _, et, fun b' ρ6 qe k F6 H6 s6 I6 ek => ?_, fun x ρ6 qe => by cases qe⟩
                  cases qe
                  rw [show k = b from ek]
                  have ha2' : DpAll K F6 av acc := dps_up s6 (dps_up t1 ha2)
                  cases b with
                  | false =>
                    rw [if_neg (by decide)]
                    have I8 := I6.wipe vs
                    rw [w5] at I8
                    obtain ⟨u1, u2, _⟩ := I8.unshield ha2' fr3.fN fF I3.pn
                    exact ⟨_, F6, acc, (s3.trans t1).trans s6, u1, u2, ec3⟩
                  | true =>
                    rw [if_pos rfl]
                    dsimp only at ec3
                    cases e4 : f1 ρ5 with
                    | none => rw [e4] at ec3; cases ec3
                    | some rf =>
                      cases rf with
                      | ex x ρ7 => rw [e4] at ec3; cases ec3
                      | ok items1 ρ7 =>
                        rw [e4] at ec3
                        dsimp only at ec3
                        refine ⟨B.with D av, ρ5, F6, I6, _, e4, fun it1 ρ8 qe J1 F7 H7 s7 I7 okj => ?_, fun x ρ8 qe => by cases qe⟩
                        cases qe
                        have ok1 : ItOk rw1 K F7 J1 items1 := okj
                        cases e5 : compD as1 ft1 fe vs1 items1 acc (wipeE ρ7 vs1) with
                        | none => rw [e5] at ec3; cases ec3
                        | some rc1 =>
                          cases rc1 with
                          | ex x ρ9 => rw [e5] at ec3; cases ec3
                          | ok acc' ρ9 =>
                            rw [e5] at ec3
                            dsimp only at ec3
                            have s17 : Same F1 F7 := ((s3.trans t1).trans s6).trans s7
                            have I7w := I7.wipe vs1
                            obtain ⟨u1, u2, _⟩ := I7w.unshield (dps_up s7 ha2') fr3.fN fF I3.pn
                            refine ⟨fun j k H => j + k = items1.length ∧ ∃ ρ F ac, Same F7 F ∧ SI K B (L2.wipe σ5 vs1) ρ F H ∧ Fresh K B (L2.wipe σ5 vs1) ρ F H D ac ∧ compD as1 ft1 fe vs1 (items1.drop j) ac ρ = some (.ok acc' ρ9), ⟨items1.length, Nat.zero_add _, wipeE ρ7 vs1, F7, acc, Same.refl _, u1, u2, by rw [List.drop_zero]; exact e5⟩, ?_⟩
                            rintro j k Hj ⟨ek2, ρj, Fj, ac, sj, Ij, frj, ecj⟩
                            cases ed1 : items1.drop j with
                            | nil =>
                              have hl : items1.length ≤ j := List.drop_eq_nil_iff.mp ed1
                              have ej : j = items1.length := by omega
                              rw [ed1] at ecj
                              cases ecj
                              obtain ⟨aw, b1, b2⟩ := frj.at_
                              have Iw := (Ij.shield frj b1).wipe vs
                              rw [wipe_sub σ5 hv, w5] at Iw
                              obtain ⟨v1, v2, _⟩ := Iw.unshield b2 frj.fN fF Ij.pn
                              exact .inl ⟨by rw [ej]; exact ok1.stop Hj (sj.sb Ij.sub), _, Fj, _, s17.trans sj, v1, v2, ec3⟩
                            | cons d1 ds1 =>
                              obtain ⟨g1, g2⟩ := getE_cons ed1
                              have hj : j < items1.length := (List.getElem?_eq_some_iff.mp g1).1
                              rw [ed1] at ecj
                              unfold compD at ecj
                              cases ga : as1 d1 ρj with
                              | none => rw [ga] at ecj; cases ecj
                              | some ρa =>
                                rw [ga] at ecj
                                dsimp only at ecj
                                cases gt : ft1 ρa with
                                | none => rw [gt] at ecj; cases ecj
                                | some rt1 =>
                                  cases rt1 with
                                  | ex x ρb => rw [gt] at ecj; cases ecj
                                  | ok b1 ρb =>
                                    rw [gt] at ecj
                                    obtain ⟨aw, hb1, hb2⟩ := frj.at_
                                    refine .inr ⟨ok1.go j d1 Hj g1 (sj.sb Ij.sub), fun H' => ∃ ρ F ac, Same F7 F ∧ SI K B (L2.wipe σ5 vs1) ρ F H' ∧ Fresh K B (L2.wipe σ5 vs1) ρ F H' D ac ∧ compD as1 ft1 fe vs1 ds1 ac ρ = some (.ok acc' ρ9), fun H' ⟨ρ6, F6, acc6, t2, t3, t4, t5⟩ => ⟨k - 1, by omega, by omega, ρ6, F6, acc6, t2, t3, t4, by rw [g2]; exact t5⟩, fun x H4 y => ?_⟩
                                    obtain ⟨Fk, t1, t2, t3, t4, t5⟩ := ok1.yld j d1 Fj Hj H4 x g1 sj Ij.sub y
                                    have Ik := (Ij.shield frj hb1).grow t1 t2 t3 t4
                                    refine ⟨B.with D aw, ρj, Fk, d1, ρa, Ik, t5, ga, fun σ6 I6 l6 k6 => ?_⟩
                                    have w6 : L2.wipe σ6 vs1 = L2.wipe σ5 vs1 := by
                                      rw [← wipe_wipe σ5 vs1]
                                      exact wipe_same (ws := ws1) l6 k6 hw1
                                    refine ⟨w6, B.with D aw, ρa, Fk, I6, _, gt, fun b' ρ6 qe k Fm Hm sm Im ek => ?_, fun x ρ6 qe => by cases qe⟩
                                    cases qe
                                    rw [show k = b1 from ek]
                                    have hb2' : DpAll K Fm aw ac := dps_up sm (dps_up t1 hb2)
                                    have leave : ∀ {ρ7 : Ev} {F7 H7 : Hp}, Same Fm F7 → SI K (B.with D aw) σ6 ρ7 F7 H7 → SI K B (L2.wipe σ5 vs1) (wipeE ρ7 vs1) F7 H7 ∧ Fresh K B (L2.wipe σ5 vs1) (wipeE ρ7 vs1) F7 H7 D ac ∧ H7 D = some (.lst aw) := fun {ρ7 F7 H7} s7 I7 => by
                                      have I8 := I7.wipe vs1
                                      rw [w6] at I8
                                      exact I8.unshield (dps_up s7 hb2') frj.fN fF Ij.pn
                                    cases b1 with
                                    | false =>
                                      rw [if_neg (by decide)]
                                      obtain ⟨u1, u2, _⟩ := leave (Same.refl _) Im
                                      exact ⟨_, Fm, ac, (sj.trans t1).trans sm, u1, u2, ecj⟩
                                    | true =>
                                      rw [if_pos rfl]
                                      dsimp only at ecj
                                      cases ee : fe ρb with
                                      | none => rw [ee] at ecj; cases ecj
                                      | some re =>
                                        cases re with
                                        | ex x ρ7 => rw [ee] at ecj; cases ecj
                                        | ok yd ρ7 =>
                                          rw [ee] at ecj
                                          refine ⟨B.with D aw, ρb, Fm, Im, _, ee, fun y' ρ8 qe yv F8 H8 s8 I8 ry => ?_, fun x ρ8 qe => by cases qe⟩
                                          cases qe
                                          obtain ⟨u1, u2, u3⟩ := leave s8 I8
                                          obtain ⟨u4, u5⟩ := u1.rewrite u2 (dps_app (dps_up s8 hb2') (.cons ry .nil))
                                          have z1 := compD_le ecj
                                          have z2 := compD2_le ec3
                                          rw [List.length_append] at z1
                                          refine ⟨aw, u3, by rw [dps_len hb2]; exact Nat.lt_of_lt_of_le (Nat.lt_of_lt_of_le (Nat.lt_succ_self _) (Nat.le_trans z1 z2)) hz, _, F8, ac ++ [yd], ((sj.trans t1).trans sm).trans s8, u4, u5, ecj⟩
        · cases er
  · cases er
theorem el_lc2 {rw rw1 : Bool} {vs : List Nat} (hc : X.calm = true) (hN : X.N.Nodup) (hi : IV X W tg it fl rw) (ok : BlkOk X.N X.env.scope scope own) {ws ws1 : List Nat} (hg : ∀ s H C cl fp, GV (blkX X scope s H C cl fp) tg as ws rw) (ht : ∀ s H C cl fp, CV (blkX X scope s H C cl fp) ifs ft)
    (hi1 : ∀ s H C cl fp, IV (blkX X scope s H C cl fp) WX0 tg1 it1 f1 rw1) (hg1 : ∀ s H C cl fp, GV (blkX X scope s H C cl fp) tg1 as1 ws1 rw1) (ht1 : ∀ s H C cl fp, CV (blkX X scope s H C cl fp) ifs1 ft1)
    (he : ∀ s H C cl fp, EV (blkX X scope s H C cl fp) WX0 elt fe) (hvs : own.map (·.2) = vs := by rfl) (hw : ∀ j ∈ ws, j ∈ vs := by decide) (hv : ∀ j ∈ ws1, j ∈ vs := by decide) (hs : ∀ x, foldedSetIterable it X.env x = pure x := by intro _; rfl) (hs1 : ∀ env x, foldedSetIterable it1 env x = pure x := by intro _ _; rfl) :
    EL X W (.ListComp elt [⟨tg, it, ifs, 0⟩, ⟨tg1, it1, ifs1, 0⟩] scope pos) (eLc2 fl as ft f1 as1 ft1 fe vs ws1) := by
  subst hvs
  exact (pe_lc2 hc hN hi ok hv hg ht hi1 hg1 ht1 he hs hs1).imp fun _ _ _ q => lc2_read hw (fun _ h => h) hv q
theorem sv_setLc2 {rw rw1 : Bool} {vs : List Nat} (i : Nat) {y : Str} {py spos : Pos} (hc : X.calm = true) (hN : X.N.Nodup) (hi : IV X W tg it fl rw) (ok : BlkOk X.N X.env.scope scope own) {ws ws1 : List Nat} (hg : ∀ s H C cl fp, GV (blkX X scope s H C cl fp) tg as ws rw) (ht : ∀ s H C cl fp, CV (blkX X scope s H C cl fp) ifs ft)
    (hi1 : ∀ s H C cl fp, IV (blkX X scope s H C cl fp) WX0 tg1 it1 f1 rw1) (hg1 : ∀ s H C cl fp, GV (blkX X scope s H C cl fp) tg1 as1 ws1 rw1) (ht1 : ∀ s H C cl fp, CV (blkX X scope s H C cl fp) ifs1 ft1)
    (he : ∀ s H C cl fp, EV (blkX X scope s H C cl fp) WX0 elt fe) (hsw : swapsWith (.ListComp elt [⟨tg, it, ifs, 0⟩, ⟨tg1, it1, ifs1, 0⟩] scope pos) (some (.Name y py)) spos.line X.env = pure true) (hvs : own.map (·.2) = vs := by rfl) (hw : ∀ j ∈ ws, j ∈ vs := by decide) (hv : ∀ j ∈ ws1, j ∈ vs := by decide) (hs : ∀ x, foldedSetIterable it X.env x = pure x := by intro _; rfl) (hs1 : ∀ env x, foldedSetIterable it1 env x = pure x := by intro _ _; rfl)
    (hy : X.N[i]? = some y := by rfl) (hyl : X.env.scope.names.lookup y = some .local := by rfl) :
    SV X W (.Assign [.Name y py] (.ListComp elt [⟨tg, it, ifs, 0⟩, ⟨tg1, it1, ifs1, 0⟩] scope pos) spos) (sSetL i (eLc2 fl as ft f1 as1 ft1 fe vs ws1)) := by
  subst hvs
  exact (ps_setLc2 hc hN hy hyl hsw hi ok hv hg ht hi1 hg1 ht1 he hs hs1).imp fun D σ H ⟨B, ρ, F, I, h⟩ => lc2_read hw (fun _ h => h) hv ⟨B, ρ, F, I, h.bind fun d ρ1 v F1 H1 s1 I1 r1 q1 => by
    obtain ⟨a, rfl, fr⟩ := r1
    exact q1.nxt _ F1 H1 (Same.refl _) (I1.setL fr)⟩
end

/-! ### a list of one's own, walked in a block: it stays one's own -/
section
variable {X : Cx} {W : WX} {tg elt e : Expr} {ifs : List Expr} {as : PyData → Ev → Option Ev} {vs : List Nat} {ft : M Bool} {fe : M PyData} {pos p2 : Pos} {scope : Scope} {own : List (Str × Nat)} {x : Str}
def iAny (K : PySem.W.Frag) (te : TE) : TI := fun σ H R => te σ H fun x H1 => ∃ a, x = .ref a ∧ ((∃ ds, SqL K H1 a ds ∧ R (Itl K a) H1) ∨ ∃ ds, SqT K H1 a ds ∧ R (Itt K a) H1)
theorem pi_any {te : TE} (he : PE X e te) : PI X tg e (iAny X.K te) := by
  refine ⟨fun pins s σ H R I h => thn (he.run pins s σ H _ I h) fun u s1 ⟨x, H1, I1, rx, a, ex, q1⟩ => ?_⟩
  subst ex
  cases rx
  have hfp : ∀ b, b ∈ [s1.heap.objs.size] → FpOk X pins H1 b := fun b hb => by
    have e : b = s1.heap.objs.size := by simpa using hb
    subst e
    exact I1.fpOk (Nat.le_refl _) (I1.hok.fresh (Nat.le_refl _))
  rcases q1 with ⟨ds, h1, q⟩ | ⟨ds, h1, q⟩
  · obtain ⟨its, rv, p, hz⟩ := I1.list h1
    exact wpAny_pyIter_list p.isList ⟨s1.heap.objs.size, [s1.heap.objs.size], _, _, H1, rfl, I1.kept (t' := s1.toks) fun b o e => Heap.get?_push_of_some _ e, turn_list a _, ⟨_, Heap.get?_push_size _ rfl, rfl, rfl⟩, hfp, q⟩
  · obtain ⟨its, rv, p, hz⟩ := I1.tuple h1
    exact wpAny_pyIter_tuple (show s1.heap.IsTuple a its.toArray from p) ⟨s1.heap.objs.size, [s1.heap.objs.size], _, _, H1, rfl, I1.kept (t' := s1.toks) fun b o e => Heap.get?_push_of_some _ e, turn_tuple a _, ⟨_, Heap.get?_push_size _ rfl, rfl, rfl⟩, hfp, q⟩
def eLcO (i : Nat) (as : PyData → Ev → Option Ev) (t : M Bool) (e : M PyData) (vs : List Nat) : M (List PyData) := fun ρ => match ρ[i]? with
  | some (.own ds) => if i ∈ vs then none else match lcD as t e vs ds (ρ.set i .nil) with
    | some (.ok l ρ') => some (.ok l (ρ'.set i (.own ds)))
    | _ => none
  | some (.val d) => match seqD d with
    | some ds => lcD as t e vs ds ρ
    | none => none
  | _ => none
theorem itOkG_own {K : PySem.W.Frag} {F : Hp} {a : Addr} {xs : List V} {ds : List PyData} (h2 : DpAll K F xs ds) : ItOkG false K F (fun b => if b = a then some (.lst xs) else none) (Itl K a) ds := by
  have at_ : ∀ {H : Hp}, Same (fun b => if b = a then some (.lst xs) else none) H → H a = some (.lst xs) := fun s => s a _ (if_pos rfl)
  refine ⟨fun i d H e s g => ?_, fun i d F2 H2 H3 x e s s2 g y => ?_, fun H s g => ⟨xs, SqL.of (at_ g), by rw [dps_len h2]; exact Nat.le_refl _⟩⟩
  · obtain ⟨v, e1, _⟩ := dps_get h2 e
    exact ⟨xs, v, SqL.of (at_ g), e1⟩
  · obtain ⟨rfl, y⟩ := y
    obtain ⟨v, e1, r1⟩ := dps_get h2 e
    have e2 := y xs (SqL.of (at_ g))
    rw [e1] at e2
    cases e2
    exact ⟨F2, Same.refl _, s2, Same.refl _, new_refl, .inl (dp_up s r1)⟩
theorem lcD_up {K : PySem.W.Frag} {mg : Str → Option Value} {B : Bs} {σ : L2.St} {ρ : Ev} {F H : Hp} {a : Addr} {i : Nat} {xs : List V} {ds : List PyData} {Q : VK} (I : SI K B σ (ρ.set i .nil) F H) (fr : Fresh K B σ (ρ.set i .nil) F H a ds) (hH : H a = some (.lst xs)) (hd : DpAll K F xs ds) (es : σ[i]? = some (some (.ref a)))
    (q : tA K mg W (rL K) B σ ρ F (fun ρ => match lcD as ft fe vs ds (ρ.set i .nil) with
      | some (.ok l ρ') => some (.ok l (ρ'.set i (.own ds)))
      | _ => none) Q) : tA K mg W (rL K) (B.with a xs) σ (ρ.set i .nil) F (lcD as ft fe vs ds) Q := by
  obtain ⟨r, er, k1, k2⟩ := q
  dsimp only at er
  cases el : lcD as ft fe vs ds (ρ.set i .nil) with
  | none => rw [el] at er; cases er
  | some rl =>
    rw [el] at er
    cases rl with
    | ex x ρ' => cases er
    | ok l ρ' =>
      cases er
      refine ⟨_, el, fun l' ρ2 qe v F2 H2 s2 I2 r2 => ?_, fun x ρ2 qe => (by cases qe)⟩
      cases qe
      obtain ⟨b, rfl, frb⟩ := r2
      have fF : B.F0 a = none := I.up.free fr.fF
      obtain ⟨hb1, hb2⟩ := frb.bare
      obtain ⟨I3, fr3, _⟩ := I2.unshield (dps_up s2 hd) fr.fN fF I.pn
      have I4 := I3.setL (i := i) fr3
      have eσ : σ.set i (some (.ref a)) = σ := by
        obtain ⟨hl, ei⟩ := List.getElem?_eq_some_iff.mp es
        rw [← ei, List.set_getElem_self]
      rw [eσ] at I4
      refine k1 _ _ rfl _ F2 H2 s2 I4 ⟨b, rfl, ?_⟩
      have := hb2.setO (i := i) (v := .ref a) (s := .own ds) fun _ z => hb1 (by cases z; rfl)
      rwa [eσ] at this
theorem lcO_read {K : PySem.W.Frag} {mg : Str → Option Value} {ws : List Nat} {σ : L2.St} {H : Hp} {Q : VK} (i : Nat) (hw : ∀ j ∈ ws, j ∈ vs) (h : tR K mg W (rL K) (eLcO i as ft fe vs) σ H Q) :
    tLc (iAny K (tVar i)) (tG false K as ws) (tR K mg WX0 rB ft) (tR K mg WX0 (rD K) fe) vs σ H Q := by
  obtain ⟨B, ρ, F, I, r, er, k1, k2⟩ := h
  unfold eLcO at er
  cases e : ρ[i]? with
  | none => rw [e] at er; cases er
  | some s =>
    rw [e] at er
    cases s with
    | nil => cases er
    | io ds => cases er
    | ob o => cases er
    | val d =>
      dsimp only at er
      obtain ⟨v, e1, e2⟩ := I.slot i _ e
      cases d <;> simp only [seqD] at er <;> try (cases er; done)
      · have e3 := e2
        cases e3 with
        | @lst a xs _ h1 h2 => exact ⟨_, e1, a, rfl, .inl ⟨xs, I.sub.seq h1, lc_core hw I (itOk_list e2).g (G := fun _ => none) (fun b o e => by cases e) ⟨r, er, k1, k2⟩⟩⟩
      · have e3 := e2
        cases e3 with
        | @tup a xs _ h1 h2 => exact ⟨_, e1, a, rfl, .inr ⟨xs, sqt_up I.sub h1, lc_core hw I (itOk_tup e2).g (G := fun _ => none) (fun b o e => by cases e) ⟨r, er, k1, k2⟩⟩⟩
    | own ds =>
      dsimp only at er
      split at er
      · cases er
      obtain ⟨a, e1, I1, fr⟩ := I.take e
      obtain ⟨xs, h1, h2⟩ := fr.at_
      refine ⟨_, e1, a, rfl, .inl ⟨xs, SqL.of h1, ?_⟩⟩
      refine lc_core hw (I1.shield fr h1) (itOkG_own h2) (fun b o eb => ?_) (lcD_up I1 fr h1 h2 e1 ⟨r, er, k1, k2⟩)
      split at eb
      · rename_i hb
        subst hb
        cases eb
        exact upd_same
      · cases eb
theorem el_lcO {vs : List Nat} (i : Nat) (hc : X.calm = true) (hN : X.N.Nodup) (ok : BlkOk X.N X.env.scope scope own) {ws : List Nat} (hg : ∀ s H C cl fp, GV (blkX X scope s H C cl fp) tg as ws) (ht : ∀ s H C cl fp, CV (blkX X scope s H C cl fp) ifs ft)
    (he : ∀ s H C cl fp, EV (blkX X scope s H C cl fp) WX0 elt fe) (hn : X.N[i]? = some x := by rfl) (hv : Vis X.env.scope x := by first | exact Or.inl rfl | exact Or.inr (Or.inl rfl) | exact Or.inr (Or.inr rfl)) (hd : (x == ("__debug__" : Str)) = false := by decide)
    (hcd : (x == ("__classdict__" : Str)) = false := by decide) (hvs : own.map (·.2) = vs := by rfl) (hw : ∀ j ∈ ws, j ∈ vs := by decide) (hs : ∀ y, foldedSetIterable (.Name x p2) X.env y = pure y := by intro _; rfl) : EL X W (.ListComp elt [⟨tg, .Name x p2, ifs, 0⟩] scope pos) (eLcO i as ft fe vs) := by
  subst hvs
  exact (pe_lc hc hN (pi_any (pe_var hn hv hd hcd)) ok hg ht he hs).imp fun _ _ _ q => lcO_read i hw q
end
/-! ### a slice of a name looked at -/
section
variable {X : Cx} {W : WX} {pos p2 p3 : Pos} {x : Str}
def eSlB (o : PyData → Option Int → Option Int → Option PyData) (i : Nat) (l u : M (Option Int)) : M PyData := bnd (eLook i) fun _ => bnd l fun lo => bnd u fun hi => fun ρ => lft ((look ρ i).bind fun x => o x lo hi) ρ
theorem ev_slB {o : PyData → Option Int → Option Int → Option PyData} {lo hi : Option Expr} {l u : M (Option Int)} (ho : SlD X o) (i : Nat) (hl : OV X W lo l) (hu : OV X W hi u) (hN : X.N[i]? = some x := by rfl) (hv : Vis X.env.scope x := by first | exact Or.inl rfl | exact Or.inr (Or.inl rfl) | exact Or.inr (Or.inr rfl)) (hd : (x == ("__debug__" : Str)) = false := by decide)
    (hcd : (x == ("__classdict__" : Str)) = false := by decide) : EV X W (.Subscript (.Name x p3) (.Slice lo hi none p2) pos) (eSlB o i l u) := (pe_slice ho (pe_var hN hv hd hcd) hl hu).imp fun σ H Q ⟨B, ρ, F, I, q⟩ => by
  obtain ⟨d0, v, _, ev, q0⟩ := q.look I
  refine ⟨v, ev, B, ρ, F, I, q0.bind fun y ρ2 lo F2 H2 s2 I2 r2 q2 => ⟨B, ρ2, F2, I2, q2.bind fun z ρ3 hi F3 H3 s3 I3 r3 q3 => ?_⟩⟩
  have q4 : tA X.K X.mg W (rD X.K) B σ ρ3 F3 (lft ((look ρ3 i).bind fun x => o x y z)) Q := q3
  obtain ⟨d, e, q5⟩ := q4.lft
  cases el : look ρ3 i with
  | none => rw [el] at e; cases e
  | some w0 =>
    rw [el] at e
    obtain ⟨v', ev', bo⟩ := I3.look el
    rw [ev] at ev'; cases ev'
    have r2' : lo = y := r2
    have r3' : hi = z := r3
    subst r2' r3'
    exact ⟨F3, w0, d, I3.sub, bo, e, I3.pr q5⟩
end
end D3

namespace D3
open PySem PySem.Spec PyProof.Rows L2

/-! ### insertion sort is the stable sort -/
section
variable {α : Type}
def insD (le : α → α → Bool) (x : α) : List α → List α
  | [] => [x]
  | y :: ys => if le x y then x :: y :: ys else y :: insD le x ys
def isort (le : α → α → Bool) : List α → List α
  | [] => []
  | x :: xs => insD le x (isort le xs)
theorem insD_perm (le : α → α → Bool) (x : α) : ∀ l : List α, (insD le x l).Perm (x :: l)
  | [] => .refl _
  | y :: ys => by
    unfold insD
    split
    · exact .refl _
    · exact ((insD_perm le x ys).cons y).trans (.swap x y ys)
theorem isort_perm (le : α → α → Bool) : ∀ l : List α, (isort le l).Perm l
  | [] => .refl _
  | x :: xs => (insD_perm le x _).trans ((isort_perm le xs).cons x)
theorem insD_sorted {le : α → α → Bool} (h : PySem.W.TotalLe le) (x : α) : ∀ {l : List α}, l.Pairwise (fun a b => le a b = true) → (insD le x l).Pairwise (fun a b => le a b = true)
  | [], _ => by simp [insD]
  | y :: ys, p => by
    unfold insD
    split
    · rename_i hxy
      refine List.pairwise_cons.mpr ⟨fun z hz => ?_, p⟩
      rcases List.mem_cons.mp hz with rfl | hz
      · exact hxy
      · exact h.trans _ _ _ hxy ((List.pairwise_cons.mp p).1 z hz)
    · rename_i hxy
      obtain ⟨p1, p2⟩ := List.pairwise_cons.mp p
      refine List.pairwise_cons.mpr ⟨fun z hz => ?_, insD_sorted h x p2⟩
      rcases List.mem_cons.mp ((insD_perm le x ys).mem_iff.mp hz) with rfl | hz
      · rcases h.total z y with q | q
        · exact absurd q hxy
        · exact q
      · exact p1 z hz
theorem isort_sorted {le : α → α → Bool} (h : PySem.W.TotalLe le) : ∀ l : List α, (isort le l).Pairwise (fun a b => le a b = true)
  | [] => .nil
  | x :: xs => insD_sorted h x (isort_sorted h xs)
theorem insD_filter {le : α → α → Bool} (h : PySem.W.TotalLe le) (x c : α) : ∀ l : List α, (insD le x l).filter (PySem.W.sameRank le c) = (x :: l).filter (PySem.W.sameRank le c)
  | [] => rfl
  | y :: ys => by
    unfold insD
    split
    · rfl
    · rename_i hxy
      rw [List.filter_cons, insD_filter h x c ys]
      simp only [List.filter_cons]
      by_cases hx : PySem.W.sameRank le c x = true
      · by_cases hy : PySem.W.sameRank le c y = true
        · unfold PySem.W.sameRank at hx hy
          rw [Bool.and_eq_true] at hx hy
          exact absurd (h.trans _ _ _ hx.2 hy.1) hxy
        · simp [hx, hy]
      · simp [hx]
theorem isort_filter {le : α → α → Bool} (h : PySem.W.TotalLe le) (c : α) : ∀ l : List α, (isort le l).filter (PySem.W.sameRank le c) = l.filter (PySem.W.sameRank le c)
  | [] => rfl
  | x :: xs => by
    show (insD le x (isort le xs)).filter _ = _
    rw [insD_filter h, List.filter_cons, List.filter_cons, isort_filter h c xs]
theorem isort_eq {le : α → α → Bool} (h : PySem.W.TotalLe le) (l : List α) : l.mergeSort le = isort le l :=
  (PySem.W.sort_unique h (isort_sorted h l) fun c => isort_filter h c l).symm
end

/-! ### sorted(x) of a list or a tuple -/
section
open PySem.W PySem.Calls
variable {prog : Program} {w : World} {A : Around} {E : Value → Shared → Prop} {s : Shared}
theorem sorted_seq {l : Addr} {T : String} {o : Obj} {items : List Value} {n : Nat} {κ : Heap → KeyKind} {Q : Value → Shared → Prop} (hT : T = "list" ∨ T = "tuple") (ho : s.heap.get? l = some o) (hc : o.cls = .type T) (hd : o.data = .seq items.toArray n) (hL : items.length ≤ sizeLine)
    (S : ∀ h₁ : Heap, (∀ b u, s.heap.get? b = some u → h₁.get? b = some u) → SortsAt prog w A.in1.in1 { s with heap := sortingHeap (h₁.push (seqObj "list" items.toArray 0)) h₁.objs.size items } (κ h₁) items)
    (h : ∀ h₁ : Heap, (∀ b u, s.heap.get? b = some u → h₁.get? b = some u) → Q (.ref h₁.objs.size) { s with heap := sortedHeap (h₁.push (seqObj "list" items.toArray 0)) h₁.objs.size items (sortVals (κ h₁) false items items).toArray }) :
    wpAny (model prog w) A (call (.builtin "sorted") [.ref l]) Q E s := by
  refine call_function_entry_kw kind_sorted plain_sorted entry_sorted (args_sorted1 _) ?_
  unfold Builtin.«sorted»
  refine wpAny_bind (m := checkCount "sorted" 1 1 _) (wpAny_pure ?_)
  refine wpAny_bind (wpAny_collect_seq l hT ho hc hd (fun h₁ k₁ => ?_) (by simpa using hL))
  refine wpAny_bind (wpAny_newList ?_ (by simpa using hL))
  have ht : (h₁.push (seqObj "list" items.toArray 0)).get? h₁.objs.size = some (seqObj "list" items.toArray 0) := Heap.get?_push_size _ rfl
  refine wpAny_bind (wpAny_holding (wpAny_call_entry_kw (s := { s with heap := h₁.push (seqObj "list" items.toArray 0) }) slot_list_sort ⟨_, ht, rfl⟩ entry_list_sort ?body (args_list_sort _)))
  case body =>
    show wpAny (model prog w) A.in1.in1 (Builtin.«list.sort» ⟨[.ref h₁.objs.size], []⟩) _ _ { s with heap := h₁.push (seqObj "list" items.toArray 0) }
    exact list_sort_vals (s := { s with heap := h₁.push (seqObj "list" items.toArray 0) }) ht (S h₁ k₁) hL ⟨.none, rfl, wpAny_pure ⟨_, rfl, h h₁ k₁⟩⟩
theorem old_sorting {h₁ : Heap} {items : List Value} {b : Addr} {u : Obj} (e : h₁.get? b = some u) : (sortingHeap (h₁.push (seqObj "list" items.toArray 0)) h₁.objs.size items).get? b = some u :=
  sortingHeap_old (Nat.ne_of_lt (Heap.lt_size e)) (Heap.get?_push_of_some _ e)
theorem old_sorted {h₁ : Heap} {items : List Value} {out : Array Value} {b : Addr} {u : Obj} (e : h₁.get? b = some u) : (sortedHeap (h₁.push (seqObj "list" items.toArray 0)) h₁.objs.size items out).get? b = some u := by
  have hl := Heap.lt_size e
  rw [PyProof.Rows.sortedHeap_old (Nat.ne_of_lt hl) (by rw [Heap.size_push]; exact Nat.lt_succ_of_lt hl)]
  exact Heap.get?_push_of_some _ e
theorem at_sorted {h₁ : Heap} {items : List Value} {out : Array Value} : ∃ e, (sortedHeap (h₁.push (seqObj "list" items.toArray 0)) h₁.objs.size items out).get? h₁.objs.size = some (seqObj "list" out e) :=
  PyProof.Rows.sortedHeap_at (n := 0) (Heap.get?_push_size _ rfl)
end
/-- alike, and no () among tuples: so they can be sorted -/
def tupC : PyData → Bool
  | .tuple (_ :: _) => true
  | _ => false
def othC : PyData → Bool
  | .tuple _ => false
  | .none => false
  | _ => true
def sortOk (ds : List PyData) : Bool := (ds.all fun d => ds.all fun e => PySem.W.alike d e) && (ds.all tupC || ds.all othC) && (ds.all fun d => decide (d.depth ≤ 60)) && decide (ds.length ≤ sizeLine)
def leD (a b : PyData) : Bool := !PySem.W.dataLt b a
theorem leD_eq : PySem.W.dataLe false (id : PyData → PyData) = leD := rfl
theorem leD_total : PySem.W.TotalLe leD := by
  rw [← leD_eq]
  exact PySem.W.sortLe_total _ false _
def sortD (ds : List PyData) : List PyData := isort leD ds
def sortedD : List PyData → Option (List PyData)
  | [.list ds] => if sortOk ds then some (sortD ds) else none
  | [.tuple ds] => if sortOk ds then some (sortD ds) else none
  | _ => none
theorem tupC_of {d : PyData} (h : tupC d = true) : ∃ x r, d = .tuple (x :: r) := by
  unfold tupC at h
  split at h
  · exact ⟨_, _, rfl⟩
  · cases h
theorem othC_of {d : PyData} (h : othC d = true) : d ≠ .none ∧ ∀ xs, d ≠ .tuple xs := by
  cases d <;> first | (cases h; done) | exact ⟨by simp, by simp⟩
theorem sortOk_of {ds : List PyData} (h : sortOk ds = true) : PySem.W.AllAlike ds ∧ PySem.W.Sortable ds ∧ (∀ d ∈ ds, d.depth ≤ 60) ∧ ds.length ≤ sizeLine := by
  unfold sortOk at h
  simp only [Bool.and_eq_true, Bool.or_eq_true, List.all_eq_true, decide_eq_true_eq] at h
  obtain ⟨⟨⟨h1, h2⟩, h3⟩, h4⟩ := h
  refine ⟨fun d hd d' hd' => h1 d hd d' hd', ?_, h3, h4⟩
  rcases h2 with h2 | h2
  · exact .inl fun d hd => tupC_of (h2 d hd)
  · exact .inr fun d hd => othC_of (h2 d hd)
/-- how the values stand for the data -/
def StV (K : PySem.W.Frag) (F : Hp) (u : Value) (d : PyData) : Prop := ∃ v, RelV v u ∧ Dp K F v d
theorem stV_of {K : PySem.W.Frag} {F : Hp} : ∀ {vs : List V} {ds : List PyData} {us : List Value}, DpAll K F vs ds → Vals vs us → PySem.W.EachIs (StV K F) us ds
  | _, _, _, .nil, .nil => .nil
  | _, _, _, .cons h t, .cons r rr => .cons ⟨_, r, h⟩ (stV_of t rr)
theorem stV_back {K : PySem.W.Frag} {F : Hp} : ∀ {us : List Value} {ds : List PyData}, PySem.W.EachIs (StV K F) us ds → ∃ vs, Vals vs us ∧ DpAll K F vs ds
  | _, _, .nil => ⟨[], .nil, .nil⟩
  | _, _, .cons ⟨v, r, h⟩ t => by
    obtain ⟨vs, rr, hh⟩ := stV_back t
    exact ⟨v :: vs, .cons r rr, .cons h hh⟩
section
variable {X : Cx}
open PySem.W in
theorem sorted_run {pins : List (Addr × Obj)} {s : Shared} {σ : L2.St} {F H : Hp} {a : Addr} {vs : List V} {its : List Value} {ds : List PyData} {T : String} {o : Obj} {n : Nat} {Q : VK} (hu : X.A.units + 66 < cLine) (I : Inv X pins σ H s) (sF : Sb F H) (hT : T = "list" ∨ T = "tuple")
    (ho : s.heap.get? a = some o) (hc : o.cls = .type T) (hd : o.data = .seq its.toArray n) (rv : Vals vs its) (r1 : DpAll X.K F vs ds) (hz : sortOk ds = true) (h3 : PL X.K F H (sortD ds) Q) :
    wpAny (model X.prog X.w) X.A (call (.builtin "sorted") [.ref a]) (EP X pins σ Q) X.xe s := by
  obtain ⟨hal, hk, hdp, hlen⟩ := sortOk_of hz
  obtain ⟨as, R⟩ := Dp.readsAll I ds vs its (dps_up sF r1) rv
  have er0 := readsAll_each (id : PyData → PyData) (vs := its) (bs := ds) (by rwa [List.map_id])
  have hl : its.length = ds.length := by rw [← rv.length, dps_len r1]
  have er : ∀ h₁ : Heap, (∀ b u, s.heap.get? b = some u → h₁.get? b = some u) → EachIs (fun v d => ∃ as, Reads (sortingHeap (h₁.push (seqObj "list" its.toArray 0)) h₁.objs.size its) v (id d) as) its ds := fun h₁ k₁ =>
    er0.mono fun _ _ ⟨as, r⟩ => ⟨as, PyProof.Rows.Reads.keeps (fun b u e => old_sorting (k₁ b u e)) r⟩
  refine sorted_seq (κ := fun h₁ => dataKind (sortingHeap (h₁.push (seqObj "list" its.toArray 0)) h₁.objs.size its) ds) hT ho hc hd (by omega) (fun h₁ k₁ => ?_) fun h₁ k₁ => ?_
  · exact SortsAt.data (s := { s with heap := sortingHeap (h₁.push (seqObj "list" its.toArray 0)) h₁.objs.size its }) (er h₁ k₁) hal hk fun d hd => by
      have := hdp d hd
      show X.A.units + 1 + 1 + d.depth < cLine
      omega
  · have out := sortVals_data (h' := sortingHeap (h₁.push (seqObj "list" its.toArray 0)) h₁.objs.size its) (enc := (id : PyData → PyData)) false (stV_of r1 rv) (er h₁ k₁) (by rw [List.map_id]; exact hal)
    rw [List.map_id, leD_eq, isort_eq leD_total] at out
    obtain ⟨ws, rw', rd⟩ := stV_back out
    have I2 : Inv X pins σ H { s with heap := h₁ } := I.kept (t' := s.toks) k₁
    obtain ⟨ep, hat⟩ := at_sorted (h₁ := h₁) (items := its) (out := (sortVals (dataKind (sortingHeap (h₁.push (seqObj "list" its.toArray 0)) h₁.objs.size its) ds) false its its).toArray)
    have hlen2 : ws.length ≤ sizeLine := by
      rw [dps_len rd]
      have : (isort leD ds).length = ds.length := (isort_perm leD ds).length_eq
      omega
    have hn : H h₁.objs.size = none := I2.hok.fresh (Nat.le_refl _)
    exact ⟨.ref _, upd H h₁.objs.size (.lst ws), I2.laid (t' := s.toks) (fun b u e => old_sorted e) (Nat.le_refl _) ⟨hlen2, _, ep, rw', hat⟩, rfl, h3.put sF hn rd⟩
theorem cl_sorted (hu : X.A.units + 66 < cLine) : CallL X (.builtin "sorted") sortedD := by
  intro pins s σ H vs us Q I r ⟨F, ds, d, sF, h0, h2, h3⟩
  unfold sortedD at h2
  split at h2
  · split at h2
    · rename_i hz
      cases h2
      obtain ⟨v, rfl, b1⟩ := bos_one h0
      obtain ⟨a, ws, rfl, q1, r1⟩ := b1.list sF
      obtain rfl := Vals.ref1 r
      obtain ⟨its, n, dd, sl, rv, ho, _⟩ := list_obj I q1
      exact sorted_run hu I sF (.inl rfl) ho rfl rfl rv r1 hz h3
    · cases h2
  · split at h2
    · rename_i hz
      cases h2
      obtain ⟨v, rfl, b1⟩ := bos_one h0
      obtain ⟨a, ws, rfl, q1, r1⟩ := b1.tup sF
      obtain rfl := Vals.ref1 r
      obtain ⟨its, rv, ⟨o, ho, hc, n, hd⟩, _⟩ := I.tuple q1
      exact sorted_run hu I sF (.inr rfl) ho hc hd rv r1 hz h3
    · cases h2
  · cases h2
end
end D3

namespace D3
open PySem PySem.Spec PyProof.Rows L2

/-! ### what stands around, in blocks and tries -/
theorem takes_none {X : Cx} : Takes X WX0 := fun u s' ⟨a, B, sI, pins, σ, H, cls, d, e, I, nb, up, sky, na, os, ag, w⟩ => w.elim
section
variable {X : Cx} {W W' : WX} {k j : Nat}
theorem Ar.blk (A : Ar X W k) {scope : Scope} {s : Shared} {H : Hp} {C : Addr} {cl : List (Str × Addr)} {fp : List Addr} : Ar (blkX X scope s H C cl fp) WX0 k := ⟨A.calm, A.nd, A.room, A.gd, takes_none⟩
theorem Ar.tr (A : Ar X W k) {pn : List (Addr × Obj)} {xe : Value → Shared → Prop} (tk : Takes (X.tr pn xe) W') : Ar (X.tr pn xe) W' k := ⟨A.calm, A.nd, A.room, A.gd, tk⟩
theorem Ar.u64 (A : Ar X W k) : X.A.units + 64 < cLine := A.room.units
theorem Ar.u65 (A : Ar X W k) : X.A.units + 65 < cLine := by have := A.room.un; omega
theorem Ar.u66 (A : Ar X W k) : X.A.units + 66 < cLine := by have := A.room.un; omega
end

/-! ### names of the module -/
/-- a def of the text -/
structure FnD (K : PySem.W.Frag) (mg : Str → Option Value) (x : Str) (st : Stmt) : Prop where
  ex : ∃ f fd, L2.Fun K x x st f fd ∧ mg x = some (.ref f)
theorem fnD_mk {K : PySem.W.Frag} {h : Heap} {mg : Str → Option Value} {x : Str} {st : Stmt} {f : Addr} {oc : Value} {od an : Option Addr} {osl : Array (Option Value)} {kV doc pm cdv ct : Value} (X : K.In h) (G : h.Ns mainGlobals mg) (a : PySem.W.nsIn K mainGlobals x = some (some (.ref f)))
    (l : K.lookup f = some ⟨oc, od, .func (PySem.W.fnOf x x (defArgs st) (defBody st) (defScope st) .none kV doc pm an cdv ct), osl⟩) (c : PySem.W.codeIn K cdv x = true) (k : PySem.W.keepIn K (.ref f) = true) : FnD K mg x st :=
  ⟨f, _, fun_mk l c k, PySem.W.mg_of X G a⟩
/-- how its arguments are bound -/
def BindN (x : Str) (st : Stmt) (ps : List Str) : Prop := ∀ (kV doc pm : Value) (an : Option Addr) (cdv ct : Value) (us : List Value), us.length = ps.length → bindArgs (PySem.W.fnOf x x (defArgs st) (defBody st) (defScope st) .none kV doc pm an cdv ct) ⟨us, []⟩ = pure (ps.zip us)
section
variable {P : Program} {w : World} {K : PySem.W.Frag} {mg : Str → Option Value} {base : Heap} {k n : Nat} {N ps : List Str} {x : Str} {st : Stmt} {b : M Fl}
theorem calV (D : FnD K mg x st) (S : FnScope N ps (defScope st)) (hB : BindN x st ps)
    (hb : ∀ (f : Addr) (cdv : Value) (A : Around) (outer : List Env) (s : Shared) (H : Hp) (E : XK), Ar (bodyX P w K mg base N x (defScope st) f cdv A outer s H E) (WE1 E) k → PassesOwn (model P w) (A.deeper (envOfC x (defScope st) s.heap.objs.size f cdv)) (envOfC x (defScope st) s.heap.objs.size f cdv) (bodyX P w K mg base N x (defScope st) f cdv A outer s H E).xe →
      BV (bodyX P w K mg base N x (defScope st) f cdv A outer s H E) (WE1 E) (defBody st) b) : Cal P w K mg base (k + 1) x (spV K mg ps.length (runV ps.length N.length b)) := by
  obtain ⟨f, fd, F, hm⟩ := D.ex
  exact ⟨f, fd, ps, okV F S (hb f), hm, F.kp, F.binds hB⟩
theorem calL (D : FnD K mg x st) (S : FnScope N ps (defScope st)) (hB : BindN x st ps)
    (hb : ∀ (f : Addr) (cdv : Value) (A : Around) (outer : List Env) (s : Shared) (H : Hp) (E : XK), Ar (bodyX P w K mg base N x (defScope st) f cdv A outer s H E) (WE1 E) k → PassesOwn (model P w) (A.deeper (envOfC x (defScope st) s.heap.objs.size f cdv)) (envOfC x (defScope st) s.heap.objs.size f cdv) (bodyX P w K mg base N x (defScope st) f cdv A outer s H E).xe →
      BV (bodyX P w K mg base N x (defScope st) f cdv A outer s H E) (WE1 E) (defBody st) b) : Cal P w K mg base (k + 1) x (spL K ps.length (runL ps.length N.length b)) := by
  obtain ⟨f, fd, F, hm⟩ := D.ex
  exact ⟨f, fd, ps, okL F S (hb f), hm, F.kp, F.binds hB⟩
theorem calI (D : FnD K mg x st) (S : FnScope N ps (defScope st)) (hB : BindN x st ps) (hn : ps.length = n + 1)
    (hb : ∀ (f : Addr) (cdv : Value) (A : Around) (outer : List Env) (s : Shared) (H : Hp) (E : XK), Ar (bodyX P w K mg base N x (defScope st) f cdv A outer s H E) (WE1 E) k → PassesOwn (model P w) (A.deeper (envOfC x (defScope st) s.heap.objs.size f cdv)) (envOfC x (defScope st) s.heap.objs.size f cdv) (bodyX P w K mg base N x (defScope st) f cdv A outer s H E).xe →
      BV (bodyX P w K mg base N x (defScope st) f cdv A outer s H E) (WE1 E) (defBody st) b) : Cal P w K mg base (k + 1) x (spI K n (runI n N.length b)) := by
  obtain ⟨f, fd, F, hm⟩ := D.ex
  exact ⟨f, fd, ps, okI F S hn (hb f), hm, F.kp, F.binds hB⟩
end
/-- a module's constant -/
structure GlD (K : PySem.W.Frag) (mg : Str → Option Value) (x : Str) (d : PyData) : Prop where
  ex : ∃ u v, mg x = some u ∧ RelV v u ∧ ∀ F, Dp K F v d
theorem glD_int {K : PySem.W.Frag} {h : Heap} {mg : Str → Option Value} {x : Str} {i : Int} {t : Tok} (X : K.In h) (G : h.Ns mainGlobals mg) (a : PySem.W.nsIn K mainGlobals x = some (some (.int i t))) : GlD K mg x (.int i) :=
  ⟨_, .int i, PySem.W.mg_of X G a, ⟨_, rfl⟩, fun _ => .int i⟩
section
variable {X : Cx} {W : WX} {x : Str} {d : PyData} {pos : Pos}
theorem ev_gl (D : GlD X.K X.mg x d) (hg : Gl X x) (hd : (x == ("__debug__" : Str)) = false := by decide) : EV X W (.Name x pos) (eC d) := by
  obtain ⟨u, v, hm, r, h⟩ := D.ex
  exact (pe_glob hg hm r hd).imp fun σ H Q ⟨B, ρ, F, I, q⟩ => q.ret (Same.refl _) I (h F)
end

/-! ### the end: a law's call -/
theorem ints_dp {K : PySem.W.Frag} {F : Hp} : ∀ ns : List Int, DpAll K F (ns.map V.int) (ns.map PyData.int)
  | [] => .nil
  | n :: ns => .cons (.int n) (ints_dp ns)
section
variable {P : Program} {w : World} {K : PySem.W.Frag} {mg mb : Str → Option Value} {k : Nat} {fa a : Addr} {fd : FuncData} {x : Str} {sp : Sp} {s₁ : Shared} {vs : List Value} {ns : List Int}
/-- in a heap H where the script alone may be tracked -/
theorem law_in (H : Hp) (KX : K.In s₁.heap) (hns : s₁.heap.Ns mainGlobals mg) (hb : s₁.heap.Ns builtinsNs mb) (hbb : ∀ x : Str, x ≠ "__name__" → mb x = bootBuiltins x) (hlim : s₁.heap.NoLimit) (hg : s₁.gens = #[])
    (ha : s₁.heap.get? a = some { cls := .type "list", data := .seq vs.toArray }) (hr : Room k callerA) (hgd : callerA.guards = some [])
    (F : ∀ base : Heap, K.In base → base.Ns mainGlobals mg → FnG P w K mg base k fa fd [x] sp) (hbind : ∀ (s : Shared) (u : Value), BindsTo s fd ⟨[u], []⟩ [(x, u)])
    (hsp : sp [.ref a] H (fun v _ => v = .bl true) fun _ _ _ => False) (hO : Only H) (hok : HOk P w H s₁.heap) (hA : ∀ b, H b ≠ none → b = a) (hK : H a ≠ none → K.lookup a = none) :
    codeAny (model P w) callerA (.call (.ref fa) ⟨[.ref a], []⟩) (fun r s' => r = .ok (.ret (.bool true)) ∧ OldK s₁.heap s'.heap ∧ s'.os = s₁.os ∧ AllBare s'.gens) s₁ := by
  have nn : ∀ {b : Addr} {o : Obj}, s₁.heap.get? b = some o → (b = a → False) → H b = none := fun {b o} _ n => by
    cases q : H b with
    | none => rfl
    | some u => exact (n (hA b (by rw [q]; simp))).elim
  have old : ∀ {b : Addr} {o : Obj}, s₁.heap.get? b = some o → H b = none → (hidT s₁.heap H).get? b = some o := fun e n => hidT_get e n
  have nsK : ∀ {b : Addr} {m : Str → Option Value}, s₁.heap.Ns b m → (hidT s₁.heap H).Ns b m := fun {b m} ⟨o, es, ep, e, d, r⟩ => ⟨o, es, ep, old e (nn e fun z => by
    subst z
    rw [ha] at e
    cases e
    have d' : Data.seq vs.toArray _ = Data.dict es ep := d
    cases d'), d, r⟩
  have hKb : K.In (hidT s₁.heap H) := fun b o e => old (KX b o e) (by
    cases q : H b with
    | none => rfl
    | some u =>
      have eb := hA b (by rw [q]; simp)
      subst eb
      have hk := hK (by rw [q]; simp)
      rw [hk] at e
      cases e)
  obtain ⟨mc, l1, l2⟩ := hlim
  have hM : Mod K mg (hidT s₁.heap H) := ⟨hKb, nsK hns, ⟨mb, nsK hb, hbb⟩, ⟨mc, nsK l1, l2⟩⟩
  have e0 : Env0 P w K mg (hidT s₁.heap H) callerA [] s₁ H := by
    refine ⟨rfl, hM, fun b o e => of_hidT e, Nat.le_of_eq (hidT_size _ _), trivial, fun b hb => ?_, hok, .of_eq hg⟩
    have hb' : b ∈ ([] : List Addr) := hb
    cases hb'
  refine codeAny_mono ((F _ hKb (nsK hns)).run callerA [] s₁ H ⟨[.ref a], []⟩ [.ref a] [.ref a] _ _ hr hgd e0 (hbind s₁ (.ref a)) (.cons rfl .nil) hsp) fun r s' h => ?_
  have fin : ∀ {u : Value}, CE [] P w H s₁ (fun v _ => v = V.bl true) u s' → u = Value.bool true ∧ OldK s₁.heap s'.heap ∧ s'.os = s₁.os ∧ AllBare s'.gens := fun {u} hq => by
    obtain ⟨v, H', os, bare, un, hok', r', q⟩ := hq
    have ev : v = V.bl true := q
    subst ev
    refine ⟨r', OldK.of_keep fun b o e => ?_, os, bare⟩
    rcases hO b with z | ⟨ob, xs, z⟩
    · refine un.keep b o e z (fun y => ?_) (by simp)
      have y' : b ∈ ([] : List Addr) := y
      cases y'
    · obtain ⟨e1, _⟩ := hok b _ z
      obtain ⟨e2, _⟩ := hok' b _ (un.frzs b ob _ z)
      rw [e] at e1
      cases e1
      exact e2
  cases r with
  | error e =>
    have h' : L2.CX P w [] H s₁ (fun _ _ _ => False) e s' := h
    obtain ⟨_, _, _, _, _, _, _, _, _, _, _, _, f⟩ := h'
    exact f.elim
  | ok fl =>
    cases fl with
    | next => exact False.elim h
    | brk => exact False.elim h
    | cont => exact False.elim h
    | ret u =>
      obtain ⟨rfl, q⟩ := fin h
      exact ⟨rfl, q⟩
theorem law_G (KX : K.In s₁.heap) (hns : s₁.heap.Ns mainGlobals mg) (hb : s₁.heap.Ns builtinsNs mb) (hbb : ∀ x : Str, x ≠ "__name__" → mb x = bootBuiltins x) (hlim : s₁.heap.NoLimit) (hg : s₁.gens = #[])
    (ha : s₁.heap.get? a = some { cls := .type "list", data := .seq vs.toArray }) (hi : IntsAre vs ns) (hl : ns.length ≤ sizeLine) (hr : Room k callerA) (hgd : callerA.guards = some [])
    (F : ∀ base : Heap, K.In base → base.Ns mainGlobals mg → FnG P w K mg base k fa fd [x] sp) (hbind : ∀ (s : Shared) (u : Value), BindsTo s fd ⟨[u], []⟩ [(x, u)])
    (hsp : ∀ H : Hp, SqL K H a (ns.map V.int) → (∀ b u, H b = some u → BareU u) → sp [.ref a] H (fun v _ => v = .bl true) fun _ _ _ => False) :
    codeAny (model P w) callerA (.call (.ref fa) ⟨[.ref a], []⟩) (fun r s' => r = .ok (.ret (.bool true)) ∧ OldK s₁.heap s'.heap ∧ s'.os = s₁.os ∧ AllBare s'.gens) s₁ := by
  have rv := vals_ints hi
  cases hk : K.lookup a with
  | some o =>
    have e := KX a o hk
    rw [ha] at e
    cases e
    refine law_in (fun _ => none) KX hns hb hbb hlim hg ha hr hgd F hbind (hsp _ (.inr ⟨_, vs.toArray, _, hk, rfl, rfl, rfl, ?_, by simpa using rv⟩) fun b u z => nomatch z) (fun _ => .inl rfl) (fun b u z => ?_) (fun b z => absurd rfl z) fun z => absurd rfl z
    · rw [List.size_toArray, hi.length]; exact hl
    · have z' : (none : Option HO) = some u := z
      cases z'
  | none =>
    have on : ∀ {b : Addr} {u : HO}, (if b = a then some (HO.frz { cls := .type "list", data := .seq vs.toArray } (.lst (ns.map V.int))) else none) = some u → b = a ∧ u = HO.frz { cls := .type "list", data := .seq vs.toArray } (.lst (ns.map V.int)) := fun {b u} z => by
      by_cases hb : b = a
      · rw [if_pos hb] at z; cases z; exact ⟨hb, rfl⟩
      · rw [if_neg hb] at z; cases z
    refine law_in (fun b => if b = a then some (.frz { cls := .type "list", data := .seq vs.toArray } (.lst (ns.map V.int))) else none) KX hns hb hbb hlim hg ha hr hgd F hbind (hsp _ (.inl (.inr ⟨_, if_pos rfl⟩)) fun b u z => by
      obtain ⟨_, rfl⟩ := on z
      trivial) (fun b => ?_) (fun b u z => ?_) (fun b z => ?_) fun _ => hk
    · by_cases hb : b = a
      · exact .inr ⟨_, _, if_pos hb⟩
      · exact .inl (if_neg hb)
    · obtain ⟨rfl, rfl⟩ := on z
      exact ⟨ha, by rw [List.length_map]; exact hl, vs, _, rv, ha⟩
    · cases q : (if b = a then some (HO.frz { cls := .type "list", data := .seq vs.toArray } (.lst (ns.map V.int))) else none) with
      | none => exact absurd q z
      | some u => exact (on q).1
end
/-- the goal that k_head leaves -/
theorem walk_G {l : PySem.W.OpenLaw} {n k : Nat} {q : Program} {loose : List Str} {XP : (Str → Option Value) → Heap → Prop} {YP : World → Heap → Prop} {d : DefRec} {K : Params → PySem.W.Frag} {m : FV} {x : Str}
    (hn : l.most = some n) (hn2 : n ≤ sizeLine) (hdf : d.params.defaults = []) (hr : Room k callerA) (hgd : callerA.guards = some []) (hY : ∀ (w : World) (h : Heap), YP w h → (K w.params).In h)
    (F : ∀ (w : World) (mg : Str → Option Value) (fa : Addr) (h : Heap), (K w.params).In h → h.Ns mainGlobals mg → mg d.name = some (.ref fa) → ∃ fd : FuncData, (∀ (s : Shared) (u : Value), BindsTo s fd ⟨[u], []⟩ [(x, u)]) ∧ ∀ base : Heap, FnG l.prog w (K w.params) mg base k fa fd [x] (spV (K w.params) mg 1 m))
    (hlaw : ∀ ns : List Int, ns.length ≤ n → (∀ z ∈ ns, Builtin.Int.intBits z ≤ 1048576) → m [.list (ns.map .int)] = some (.ok (.bool true))) :
    PySem.W.WalkO q loose XP YP l.row.toRowW d [] (fun f vs => PySem.call f vs) := by
  refine Att.attach_callB hn hdf fun w s₀ s₁ mg mb fa o pm cd doc a vs ns G Y ho hd hcd hmg hobj hints hlen hbits hg => ?_
  have KX := hY w _ Y
  obtain ⟨fd, hb, hF⟩ := F w mg fa _ KX G.T.g hmg
  refine law_G KX G.T.g G.T.b G.T.builtins G.T.nolimit hg hobj hints (Nat.le_trans hlen hn2) hr hgd (fun base _ _ => hF base) hb fun H hS hB => ?_
  refine ⟨rfl, H, _, _, ⟨Same.refl _, hB⟩, .cons (.lst hS (ints_dp ns)) .nil, hlaw ns hlen hbits, fun r e v F' H' _ _ _ _ hv => ?_, fun z e => by cases e⟩
  cases e
  cases hv
  rfl
theorem lawV {P : Program} {w : World} {K : PySem.W.Frag} {mg : Str → Option Value} {k : Nat} {N : List Str} {x y : Str} {st : Stmt} {b : M Fl} {fa : Addr} (D : FnD K mg x st) (hfa : mg x = some (.ref fa)) (S : FnScope N [y] (defScope st)) (hB : BindN x st [y])
    (hb : ∀ (base : Heap) (f : Addr) (cdv : Value) (A : Around) (outer : List Env) (s : Shared) (H : Hp) (E : XK), Ar (bodyX P w K mg base N x (defScope st) f cdv A outer s H E) (WE1 E) k → PassesOwn (model P w) (A.deeper (envOfC x (defScope st) s.heap.objs.size f cdv)) (envOfC x (defScope st) s.heap.objs.size f cdv) (bodyX P w K mg base N x (defScope st) f cdv A outer s H E).xe →
      BV (bodyX P w K mg base N x (defScope st) f cdv A outer s H E) (WE1 E) (defBody st) b) :
    ∃ fd : FuncData, (∀ (s : Shared) (u : Value), BindsTo s fd ⟨[u], []⟩ [(y, u)]) ∧ ∀ base : Heap, FnG P w K mg base (k + 1) fa fd [y] (spV K mg 1 (runV 1 N.length b)) := by
  obtain ⟨f, fd, F, hm⟩ := D.ex
  rw [hfa] at hm
  cases hm
  refine ⟨fd, fun s u => ?_, fun base => okV F S (hb base fa)⟩
  obtain ⟨oc, od, kV, doc, pm, an, cdv, ct, osl, rfl, lk, hcd⟩ := F.ex
  exact .of_eq (hB kV doc pm an cdv ct [u] rfl)

/-! ### exceptions of the text, built-ins' names -/
theorem exm_of {K : PySem.W.Frag} {C D : Addr} {b : Bool} (h1 : PySem.W.subIn K (.ref D) (.type "BaseException") = some true) (h2 : PySem.W.isClsIn K D = true) (h3 : PySem.W.typeIn K (.ref D) = some (.type "type")) (h4 : PySem.W.subIn K (.ref C) (.ref D) = some b) : PySem.W.exmOne K (.ref C) (.ref D) = some b := by
  have h2' : (PySem.W.clsIn K D).isSome = true := h2
  have e1 : (PySem.W.subIn K (.ref D) (.type "BaseException") == some true) = true := by rw [h1]; rfl
  have e2 : ((PySem.W.clsIn K D).isSome && PySem.W.typeIn K (.ref D) == some (.type "type")) = true := by rw [h2', h3]; rfl
  unfold PySem.W.exmOne
  rw [if_pos e1]
  show (if ((PySem.W.clsIn K D).isSome && PySem.W.typeIn K (.ref D) == some (.type "type")) = true then PySem.W.subIn K (.ref C) (.ref D) else none) = some b
  rw [if_pos e2]
  exact h4
/-- a class of the text over ValueError -/
structure ExD (K : PySem.W.Frag) (mg : Str → Option Value) (x : Str) : Prop where
  ex : ∃ C, ExcC K mg x C ∧ PySem.W.exmOne K (.ref C) (.ref C) = some true
theorem exD_mk {K : PySem.W.Frag} {h : Heap} {mg : Str → Option Value} {x : Str} {C : Addr} (X : K.In h) (G : h.Ns mainGlobals mg) (a : PySem.W.nsIn K mainGlobals x = some (some (.ref C))) (e : PySem.W.excIn K C [.type "ValueError", .type "Exception", .type "BaseException", .type "object"] "ValueError.__new__" = true)
    (k : PySem.W.keepIn K (.ref C) = true) (b : PySem.W.subIn K (.ref C) (.type "BaseException") = some true) (t : PySem.W.typeIn K (.ref C) = some (.type "type")) (i : PySem.W.isClsIn K C = true) (s : PySem.W.subIn K (.ref C) (.ref C) = some true) : ExD K mg x :=
  ⟨C, ⟨PySem.W.mg_of X G a, e, k, b, t⟩, exm_of b i t s⟩
/-- a clause of one class: itself, and no other of these -/
def mtOne (c : Str) (no : List Str) : Str → Option Bool := fun x => if x = c then some true else if x ∈ no then some false else none
section
variable {X : Cx} {W : WX} {x m : Str} {j : Nat} {p p2 pos pos' cpos np : Pos} {k : Nat} {body suite : List Stmt} {b0 : Stmt} {sb ss : M Fl}
theorem sv_raiseD (hc : X.calm = true) (tk : Takes X W) (E : ExD X.K X.mg x) (hg : Gl X x) (hdb : (x == ("__debug__" : Str)) = false := by decide) : SV X W (.Raise (some (.Call (.Name x p) [.Constant (.str m) j p2] [] cpos)) none pos) (sRaise x) := by
  obtain ⟨C, h, _⟩ := E.ex
  exact sv_raise hc tk h hg hdb
theorem sv_try1 (A : Ar X W k) (E : ExD X.K X.mg x) (hs : X.stack = X.env :: X.outer) (hf : X.env.frame = some X.env.locals) (hg : Gl X x)
    (hb : ∀ (W : WX) (pn : List (Addr × Obj)) (xe : Value → Shared → Prop), Ar (X.tr pn xe) W k → PassesOwn (model X.prog X.w) X.A X.env xe → BV (X.tr pn xe) W body sb)
    (hsu : ∀ (a : Addr) (pn : List (Addr × Obj)), BV (X.suite a pn) WX0 (b0 :: suite) ss) (hdb : (x == ("__debug__" : Str)) = false := by decide) : SV X W (.Try body [.ExceptHandler (some (.Name x np)) none (b0 :: suite) pos'] [] [] pos) (sTry (mtOne x []) sb ss) := by
  obtain ⟨C, h, e⟩ := E.ex
  refine sv_try (c := .ref C) hs hf ⟨hg, hdb, .inl h.gC⟩ A.tk (fun y b hy D hD => ?_) (fun W pn xe tk po => hb W pn xe (A.tr tk) po) hsu
  unfold mtOne at hy
  split at hy
  · cases hy
    subst y
    rw [h.gC] at hD
    cases hD
    exact e
  · rw [if_neg (by simp)] at hy
    cases hy
end
theorem bb_len : bootBuiltins "len" = some (.builtin "len") := by decide +kernel
theorem bb_all : bootBuiltins "all" = some (.builtin "all") := by decide +kernel
theorem bb_any : bootBuiltins "any" = some (.builtin "any") := by decide +kernel
theorem bb_sum : bootBuiltins "sum" = some (.builtin "sum") := by decide +kernel
theorem bb_abs : bootBuiltins "abs" = some (.builtin "abs") := by decide +kernel
theorem bb_repr : bootBuiltins "repr" = some (.builtin "repr") := by decide +kernel
theorem bb_sorted : bootBuiltins "sorted" = some (.builtin "sorted") := by decide +kernel
theorem bb_tuple : bootBuiltins "tuple" = some (.type "tuple") := by decide +kernel
theorem bb_list : bootBuiltins "list" = some (.type "list") := by decide +kernel
theorem bb_int : bootBuiltins "int" = some (.type "int") := by decide +kernel
theorem bb_bool : bootBuiltins "bool" = some (.type "bool") := by decide +kernel
theorem bb_str : bootBuiltins "str" = some (.type "str") := by decide +kernel
theorem bb_dict : bootBuiltins "dict" = some (.type "dict") := by decide +kernel
/-- what a while loop may turn at most -/
def fuelN : Nat := 18446744073709551616
end D3

namespace LCG
/-! ### the powers of 48271 modulo 2147483647 are all units: the stream of draws comes to each number -/
abbrev pp : Nat := 2147483647
/-- 48271 to the e-th -/
def pw (e : Nat) : Nat := 48271 ^ e % pp
def pm1 (a : Nat) (b : Bool) : Nat := (a * a % pp) * (if b then 48271 else 1) % pp
def pm (l : List Bool) : Nat := l.foldl pm1 1
def bv1 (a : Nat) (b : Bool) : Nat := 2 * a + (if b then 1 else 0)
def bv (l : List Bool) : Nat := l.foldl bv1 0
theorem pm1_eq (a : Nat) (b : Bool) : pm1 (pw a) b = pw (bv1 a b) := by
  unfold pm1 pw bv1
  cases b
  · simp only [Bool.false_eq_true, if_false, Nat.mul_one, Nat.add_zero]
    rw [Nat.mod_mod, ← Nat.mul_mod, ← Nat.pow_add, ← Nat.two_mul]
  · simp only [if_true]
    rw [← Nat.mul_mod, Nat.mod_mul_mod, ← Nat.pow_add, ← Nat.two_mul, ← Nat.pow_succ]
theorem pm_from : ∀ (l : List Bool) (a : Nat), l.foldl pm1 (pw a) = pw (l.foldl bv1 a)
  | [], a => rfl
  | b :: l, a => by
    show l.foldl pm1 (pm1 (pw a) b) = pw (l.foldl bv1 (bv1 a b))
    rw [pm1_eq]
    exact pm_from l _
theorem pm_eq (l : List Bool) : pm l = pw (bv l) := pm_from l 0
theorem gp_full : pw (2147483646) = 1 := by
  have h := pm_eq [true, true, true, true, true, true, true, true, true, true, true, true, true, true, true, true, true, true, true, true, true, true, true, true, true, true, true, true, true, true, false]
  have e : bv [true, true, true, true, true, true, true, true, true, true, true, true, true, true, true, true, true, true, true, true, true, true, true, true, true, true, true, true, true, true, false] = 2147483646 := by decide
  have e2 : pm [true, true, true, true, true, true, true, true, true, true, true, true, true, true, true, true, true, true, true, true, true, true, true, true, true, true, true, true, true, true, false] = 1 := by decide +kernel
  rw [e, e2] at h
  exact h.symm
theorem gp_2 : pw 1073741823 ≠ 1 := by
  have h := pm_eq [true, true, true, true, true, true, true, true, true, true, true, true, true, true, true, true, true, true, true, true, true, true, true, true, true, true, true, true, true, true]
  have e : bv [true, true, true, true, true, true, true, true, true, true, true, true, true, true, true, true, true, true, true, true, true, true, true, true, true, true, true, true, true, true] = 1073741823 := by decide
  have e2 : pm [true, true, true, true, true, true, true, true, true, true, true, true, true, true, true, true, true, true, true, true, true, true, true, true, true, true, true, true, true, true] = 2147483646 := by decide +kernel
  rw [e, e2] at h
  rw [← h]
  decide
theorem gp_3 : pw 715827882 ≠ 1 := by
  have h := pm_eq [true, false, true, false, true, false, true, false, true, false, true, false, true, false, true, false, true, false, true, false, true, false, true, false, true, false, true, false, true, false]
  have e : bv [true, false, true, false, true, false, true, false, true, false, true, false, true, false, true, false, true, false, true, false, true, false, true, false, true, false, true, false, true, false] = 715827882 := by decide
  have e2 : pm [true, false, true, false, true, false, true, false, true, false, true, false, true, false, true, false, true, false, true, false, true, false, true, false, true, false, true, false, true, false] = 634005911 := by decide +kernel
  rw [e, e2] at h
  rw [← h]
  decide
theorem gp_7 : pw 306783378 ≠ 1 := by
  have h := pm_eq [true, false, false, true, false, false, true, false, false, true, false, false, true, false, false, true, false, false, true, false, false, true, false, false, true, false, false, true, false]
  have e : bv [true, false, false, true, false, false, true, false, false, true, false, false, true, false, false, true, false, false, true, false, false, true, false, false, true, false, false, true, false] = 306783378 := by decide
  have e2 : pm [true, false, false, true, false, false, true, false, false, true, false, false, true, false, false, true, false, false, true, false, false, true, false, false, true, false, false, true, false] = 1752599774 := by decide +kernel
  rw [e, e2] at h
  rw [← h]
  decide
theorem gp_11 : pw 195225786 ≠ 1 := by
  have h := pm_eq [true, false, true, true, true, false, true, false, false, false, true, false, true, true, true, false, true, false, false, false, true, false, true, true, true, false, true, false]
  have e : bv [true, false, true, true, true, false, true, false, false, false, true, false, true, true, true, false, true, false, false, false, true, false, true, true, true, false, true, false] = 195225786 := by decide
  have e2 : pm [true, false, true, true, true, false, true, false, false, false, true, false, true, true, true, false, true, false, false, false, true, false, true, true, true, false, true, false] = 219454379 := by decide +kernel
  rw [e, e2] at h
  rw [← h]
  decide
theorem gp_31 : pw 69273666 ≠ 1 := by
  have h := pm_eq [true, false, false, false, false, true, false, false, false, false, true, false, false, false, false, true, false, false, false, false, true, false, false, false, false, true, false]
  have e : bv [true, false, false, false, false, true, false, false, false, false, true, false, false, false, false, true, false, false, false, false, true, false, false, false, false, true, false] = 69273666 := by decide
  have e2 : pm [true, false, false, false, false, true, false, false, false, false, true, false, false, false, false, true, false, false, false, false, true, false, false, false, false, true, false] = 64 := by decide +kernel
  rw [e, e2] at h
  rw [← h]
  decide
theorem gp_151 : pw 14221746 ≠ 1 := by
  have h := pm_eq [true, true, false, true, true, false, false, true, false, false, false, false, false, false, false, true, true, false, true, true, false, false, true, false]
  have e : bv [true, true, false, true, true, false, false, true, false, false, false, false, false, false, false, true, true, false, true, true, false, false, true, false] = 14221746 := by decide
  have e2 : pm [true, true, false, true, true, false, false, true, false, false, false, false, false, false, false, true, true, false, true, true, false, false, true, false] = 556613938 := by decide +kernel
  rw [e, e2] at h
  rw [← h]
  decide
theorem gp_331 : pw 6487866 ≠ 1 := by
  have h := pm_eq [true, true, false, false, false, true, false, true, true, true, true, true, true, true, true, false, false, true, true, true, false, true, false]
  have e : bv [true, true, false, false, false, true, false, true, true, true, true, true, true, true, true, false, false, true, true, true, false, true, false] = 6487866 := by decide
  have e2 : pm [true, true, false, false, false, true, false, true, true, true, true, true, true, true, true, false, false, true, true, true, false, true, false] = 1627574666 := by decide +kernel
  rw [e, e2] at h
  rw [← h]
  decide

theorem pw_add (a b : Nat) : pw (a + b) = pw a * pw b % pp := by
  unfold pw
  rw [Nat.pow_add, Nat.mul_mod]
theorem pw_lt (a : Nat) : pw a < pp := Nat.mod_lt _ (by decide)
theorem one_mod : 1 % pp = 1 := by decide
theorem pw_add1 {a b : Nat} (h : pw a = 1) : pw (a + b) = pw b := by
  rw [pw_add, h, Nat.one_mul]
  exact Nat.mod_eq_of_lt (pw_lt b)
theorem pw_mul1 {a : Nat} (h : pw a = 1) : ∀ k : Nat, pw (a * k) = 1
  | 0 => by rw [Nat.mul_zero]; decide
  | k + 1 => by
    rw [Nat.mul_succ, Nat.add_comm, pw_add1 h]
    exact pw_mul1 h k
theorem pw_mod1 {a b : Nat} (ha : pw a = 1) (hb : pw b = 1) : pw (a % b) = 1 := by
  have h := Nat.div_add_mod a b
  rw [← h, pw_add1 (pw_mul1 hb _)] at ha
  exact ha
theorem pw_gcd : ∀ {a b : Nat}, pw a = 1 → pw b = 1 → pw (Nat.gcd a b) = 1 := by
  intro a b
  induction a, b using Nat.gcd.induction with
  | H0 b => intro _ hb; rw [Nat.gcd_zero_left]; exact hb
  | H1 a b ha ih => intro h1 h2; rw [Nat.gcd_rec]; exact ih (pw_mod1 h2 h1) h1
theorem two_div {q : Nat} (h : ∀ d ≤ q, d ∣ q → d = 1 ∨ d = q) (hq : 0 < q) (e : Nat) : Nat.gcd e q = 1 ∨ q ∣ e := by
  rcases h _ (Nat.le_of_dvd hq (Nat.gcd_dvd_right e q)) (Nat.gcd_dvd_right e q) with h | h
  · exact .inl h
  · right; rw [← h]; exact Nat.gcd_dvd_left e q
def primes : List Nat := [2, 3, 7, 11, 31, 151, 331]
theorem pr_2 : ∀ d ≤ 2, d ∣ 2 → d = 1 ∨ d = 2 := by decide
theorem pr_3 : ∀ d ≤ 3, d ∣ 3 → d = 1 ∨ d = 3 := by decide
theorem pr_7 : ∀ d ≤ 7, d ∣ 7 → d = 1 ∨ d = 7 := by decide
theorem pr_11 : ∀ d ≤ 11, d ∣ 11 → d = 1 ∨ d = 11 := by decide
theorem pr_31 : ∀ d ≤ 31, d ∣ 31 → d = 1 ∨ d = 31 := by decide
theorem pr_151 : ∀ d ≤ 151, d ∣ 151 → d = 1 ∨ d = 151 := by decide +kernel
theorem pr_331 : ∀ d ≤ 331, d ∣ 331 → d = 1 ∨ d = 331 := by decide +kernel
theorem some_prime {e : Nat} (h : e ∣ 2147483646) (h1 : e ≠ 1) : 2 ∣ e ∨ 3 ∣ e ∨ 7 ∣ e ∨ 11 ∣ e ∨ 31 ∣ e ∨ 151 ∣ e ∨ 331 ∣ e := by
  rcases two_div pr_2 (by decide) e with g2 | g; rotate_left; · exact .inl g
  rcases two_div pr_3 (by decide) e with g3 | g; rotate_left; · exact .inr (.inl g)
  rcases two_div pr_7 (by decide) e with g7 | g; rotate_left; · exact .inr (.inr (.inl g))
  rcases two_div pr_11 (by decide) e with g11 | g; rotate_left; · exact .inr (.inr (.inr (.inl g)))
  rcases two_div pr_31 (by decide) e with g31 | g; rotate_left; · exact .inr (.inr (.inr (.inr (.inl g))))
  rcases two_div pr_151 (by decide) e with g151 | g; rotate_left; · exact .inr (.inr (.inr (.inr (.inr (.inl g)))))
  rcases two_div pr_331 (by decide) e with g331 | g; rotate_left; · exact .inr (.inr (.inr (.inr (.inr (.inr g)))))
  exfalso
  have k1 : e ∣ 2 * (3 * (3 * (7 * (11 * (31 * (151 * (331 * 1))))))) := h
  have k2 := Nat.Coprime.dvd_of_dvd_mul_left g2 k1
  have k3 := Nat.Coprime.dvd_of_dvd_mul_left g3 k2
  have k4 := Nat.Coprime.dvd_of_dvd_mul_left g3 k3
  have k5 := Nat.Coprime.dvd_of_dvd_mul_left g7 k4
  have k6 := Nat.Coprime.dvd_of_dvd_mul_left g11 k5
  have k7 := Nat.Coprime.dvd_of_dvd_mul_left g31 k6
  have k8 := Nat.Coprime.dvd_of_dvd_mul_left g151 k7
  have k9 := Nat.Coprime.dvd_of_dvd_mul_left g331 k8
  exact h1 (Nat.dvd_one.mp k9)
theorem no_small {m : Nat} (h0 : 0 < m) (h1 : m < 2147483646) : pw m ≠ 1 := fun hm => by
  have hg := pw_gcd hm gp_full
  have d1 : Nat.gcd m 2147483646 ∣ m := Nat.gcd_dvd_left _ _
  have d2 : Nat.gcd m 2147483646 ∣ 2147483646 := Nat.gcd_dvd_right _ _
  obtain ⟨e, he⟩ := d2
  have hle := Nat.le_of_dvd h0 d1
  have key : ∀ q r : Nat, q * r = 2147483646 → q ∣ e → pw r ≠ 1 → False := fun q r hq ⟨e', he'⟩ hr => by
    have hq0 : 0 < q := by
      cases q with
      | zero => simp at hq
      | succ q => omega
    have e2 : r = Nat.gcd m 2147483646 * e' := by
      refine Nat.eq_of_mul_eq_mul_left hq0 ?_
      rw [hq, Nat.mul_left_comm, ← he']
      exact he
    exact hr (by rw [e2]; exact pw_mul1 hg e')
  have hne : e ≠ 1 := fun z => by
    subst z
    rw [Nat.mul_one] at he
    omega
  rcases some_prime ⟨_, by rw [Nat.mul_comm]; exact he⟩ hne with g | g | g | g | g | g | g
  · exact key 2 1073741823 (by decide) g gp_2
  · exact key 3 715827882 (by decide) g gp_3
  · exact key 7 306783378 (by decide) g gp_7
  · exact key 11 195225786 (by decide) g gp_11
  · exact key 31 69273666 (by decide) g gp_31
  · exact key 151 14221746 (by decide) g gp_151
  · exact key 331 6487866 (by decide) g gp_331
theorem ginv (i : Nat) : 48271 ^ i * 1899818559 ^ i % pp = 1 := by
  rw [← Nat.mul_pow, Nat.pow_mod, show 48271 * 1899818559 % pp = 1 by decide, Nat.one_pow]
  exact one_mod
/-- a unit may be left out -/
theorem cancel {i a b : Nat} (h : 48271 ^ i * a % pp = 48271 ^ i * b % pp) : a % pp = b % pp := by
  have k : ∀ x : Nat, 1899818559 ^ i * (48271 ^ i * x % pp) % pp = x % pp := fun x => by
    rw [Nat.mul_mod_mod, ← Nat.mul_assoc, Nat.mul_comm (1899818559 ^ i), Nat.mul_mod, ginv, Nat.one_mul, Nat.mod_mod]
  rw [← k a, ← k b, h]
theorem pw_inj {i j : Nat} (hi : i < 2147483646) (hj : j < 2147483646) (h : pw i = pw j) : i = j := by
  have key : ∀ {i j : Nat}, i < j → j < 2147483646 → pw i = pw j → False := fun {i j} hij hj h => by
    refine no_small (m := j - i) (by omega) (by omega) ?_
    have e : 48271 ^ i * 1 % pp = 48271 ^ i * 48271 ^ (j - i) % pp := by
      rw [Nat.mul_one, ← Nat.pow_add, show i + (j - i) = j by omega]
      exact h
    have := cancel e
    rw [one_mod] at this
    exact this.symm
  rcases Nat.lt_trichotomy i j with h1 | h1 | h1
  · exact (key h1 hj h).elim
  · exact h1
  · exact (key h1 hi h.symm).elim
theorem pw_pos (i : Nat) : 0 < pw i := by
  cases q : pw i with
  | succ n => omega
  | zero =>
    exfalso
    have h := ginv i
    rw [Nat.mul_mod] at h
    have q' : 48271 ^ i % pp = 0 := q
    rw [q', Nat.zero_mul] at h
    exact absurd h (by decide)
/-- as many places as numbers -/
theorem onto : ∀ (n : Nat) (f : Nat → Nat), (∀ i, i < n → f i < n) → (∀ i j, i < n → j < n → f i = f j → i = j) → ∀ v, v < n → ∃ i, i < n ∧ f i = v
  | 0, _, _, _, v, hv => absurd hv (Nat.not_lt_zero _)
  | n + 1, f, hf, inj, v, hv => by
    by_cases hm : f n = v
    · exact ⟨n, Nat.lt_succ_self n, hm⟩
    have fn := hf n (Nat.lt_succ_self n)
    have ih := onto n (fun i => if f i = n then f n else f i) (fun i hi => ?_) (fun i j hi hj e => ?_)
    · by_cases hvn : v = n
      · subst hvn
        obtain ⟨i, hi, e⟩ := ih (f v) (by omega)
        try dsimp only at e
        split at e
        · exact ⟨i, by omega, by assumption⟩
        · have := inj i v (by omega) (by omega) e
          omega
      · obtain ⟨i, hi, e⟩ := ih v (by omega)
        try dsimp only at e
        split at e
        · exact absurd e hm
        · exact ⟨i, by omega, e⟩
    · have h1 := hf i (by omega)
      try dsimp only
      split
      · rename_i h2
        have : f n ≠ n := fun z => by
          have := inj i n (by omega) (by omega) (h2.trans z.symm)
          omega
        omega
      · omega
    · try dsimp only at e
      split at e <;> split at e
      · rename_i h1 h2; exact inj i j (by omega) (by omega) (h1.trans h2.symm)
      · rename_i h1 h2; have := inj n j (by omega) (by omega) e; omega
      · rename_i h1 h2; have := inj i n (by omega) (by omega) e; omega
      · exact inj i j (by omega) (by omega) e
theorem all_units {v : Nat} (h0 : 0 < v) (h1 : v < pp) : ∃ i, i < 2147483646 ∧ pw i = v := by
  have h1' : v < 2147483647 := h1
  have inj : ∀ i j, i < 2147483646 → j < 2147483646 → pw i - 1 = pw j - 1 → i = j := fun i j hi hj e => pw_inj hi hj (by have := pw_pos i; have := pw_pos j; omega)
  have bd : ∀ i, i < 2147483646 → pw i - 1 < 2147483646 := fun i _ => by have h2 : pw i < 2147483647 := pw_lt i; have := pw_pos i; omega
  obtain ⟨i, hi, e⟩ := onto 2147483646 (fun i => pw i - 1) bd inj (v - 1) (by omega)
  have := pw_pos i
  try dsimp only at e
  exact ⟨i, hi, by omega⟩
/-- from u to v -/
theorem reach {u v : Nat} (u0 : 0 < u) (u1 : u < pp) (v0 : 0 < v) (v1 : v < pp) : ∃ j, j < 2147483646 ∧ 48271 ^ (j + 1) * u % pp = v := by
  obtain ⟨a, ha, ea⟩ := all_units u0 u1
  obtain ⟨b, hb, eb⟩ := all_units v0 v1
  have key : ∀ k : Nat, (∃ m, k + a = b + 2147483646 * m) → 48271 ^ k * u % pp = v := fun k ⟨m, hk⟩ => by
    rw [← ea]
    show 48271 ^ k * (48271 ^ a % pp) % pp = v
    rw [Nat.mul_mod_mod, ← Nat.pow_add, hk]
    show pw _ = v
    rw [Nat.add_comm, pw_add1 (pw_mul1 gp_full m), eb]
  by_cases h : a < b
  · exact ⟨b - a - 1, by omega, key _ ⟨0, by omega⟩⟩
  · exact ⟨b + 2147483646 - a - 1, by omega, key _ ⟨1, by omega⟩⟩
/-! ### the seeds -/
def nxtC (c : Nat) : Nat := (c * 48271 + 11) % 2147483647
def itC : Nat → Nat → Nat
  | 0, c => c
  | j + 1, c => nxtC (itC j c)
/-- the seed that stays -/
abbrev x0 : Nat := 1973665155
theorem nxt_x0 : nxtC x0 = x0 := by decide
theorem sh (c : Nat) : (nxtC c + (pp - x0)) % pp = 48271 * (c + (pp - x0)) % pp := by
  unfold nxtC
  show ((c * 48271 + 11) % pp + (pp - x0)) % pp = _
  rw [Nat.mod_add_mod, Nat.mul_add, Nat.mul_comm 48271 c]
  have e : 48271 * (pp - x0) = (11 + (pp - x0)) + pp * 3907 := by decide
  rw [e, ← Nat.add_assoc, Nat.add_mul_mod_self_left, ← Nat.add_assoc]
theorem sh_it (c : Nat) : ∀ j, (itC j c + (pp - x0)) % pp = 48271 ^ j * (c + (pp - x0)) % pp
  | 0 => by rw [Nat.pow_zero, Nat.one_mul]; rfl
  | j + 1 => by
    show (nxtC (itC j c) + (pp - x0)) % pp = _
    rw [sh, ← Nat.mul_mod_mod, sh_it c j, Nat.mul_mod_mod, ← Nat.mul_assoc, Nat.pow_succ, Nat.mul_comm (48271 ^ j)]
theorem it_lt (c : Nat) (h : c < pp) : ∀ j, itC j c < pp
  | 0 => h
  | j + 1 => Nat.mod_lt _ (by decide)
theorem comes {c v : Nat} (hc : c < pp) (hx : c ≠ x0) (hv : v < pp) (vx : v ≠ x0) : ∃ j, j < 2147483646 ∧ itC (j + 1) c = v := by
  have nz : ∀ {w : Nat}, w < pp → w ≠ x0 → 0 < (w + (pp - x0)) % pp := fun {w} h1 h2 => by
    have h1' : w < 2147483647 := h1
    have h2' : w ≠ 1973665155 := h2
    show 0 < (w + 173818492) % 2147483647
    omega
  obtain ⟨j, hj, e⟩ := reach (nz hc hx) (Nat.mod_lt _ (by decide)) (nz hv vx) (Nat.mod_lt _ (by decide))
  refine ⟨j, hj, ?_⟩
  rw [Nat.mul_mod_mod, ← sh_it c (j + 1)] at e
  have hl : itC (j + 1) c < 2147483647 := it_lt c hc (j + 1)
  have hv' : v < 2147483647 := hv
  have e' : (itC (j + 1) c + 173818492) % 2147483647 = (v + 173818492) % 2147483647 := e
  omega
end LCG

/-! ### orders that go with pairs: plain lists -/
namespace Ord
def Ranked (P : List (Nat × Nat)) (L : List Nat) : Prop := ∃ r : Nat → Nat, ∀ a b, (a, b) ∈ P → a ∈ L → b ∈ L → r a < r b
def hasPre (P : List (Nat × Nat)) (L : List Nat) (t : Nat) : Bool := P.any fun p => p.2 == t && L.contains p.1
def hasPost (P : List (Nat × Nat)) (L : List Nat) (t : Nat) : Bool := P.any fun p => p.1 == t && L.contains p.2
def peel (P : List (Nat × Nat)) (L : List Nat) : List Nat := L.filter (hasPost P L)
variable {P : List (Nat × Nat)} {L L' : List Nat}
theorem Ranked.sub (h : Ranked P L) (s : ∀ x ∈ L', x ∈ L) : Ranked P L' := let ⟨r, h⟩ := h; ⟨r, fun a b p ha hb => h a b p (s a ha) (s b hb)⟩
theorem ranked_nil : Ranked P [] := ⟨fun _ => 0, fun a b _ ha => by cases ha⟩
theorem hasPre_of {a t : Nat} (h : (a, t) ∈ P) (ha : a ∈ L) : hasPre P L t = true := by
  unfold hasPre
  rw [List.any_eq_true]
  exact ⟨(a, t), h, by simp [ha]⟩
theorem hasPre_ex {t : Nat} (h : hasPre P L t = true) : ∃ a, (a, t) ∈ P ∧ a ∈ L := by
  unfold hasPre at h
  obtain ⟨⟨a, b⟩, h1, h2⟩ := List.any_eq_true.mp h
  obtain ⟨rfl, h3⟩ : b = t ∧ a ∈ L := by simpa using h2
  exact ⟨a, h1, h3⟩
theorem hasPost_of {b t : Nat} (h : (t, b) ∈ P) (hb : b ∈ L) : hasPost P L t = true := by
  unfold hasPost
  rw [List.any_eq_true]
  exact ⟨(t, b), h, by simp [hb]⟩
theorem hasPost_ex {t : Nat} (h : hasPost P L t = true) : ∃ b, (t, b) ∈ P ∧ b ∈ L := by
  unfold hasPost at h
  obtain ⟨⟨a, b⟩, h1, h2⟩ := List.any_eq_true.mp h
  obtain ⟨rfl, h3⟩ : a = t ∧ b ∈ L := by simpa using h2
  exact ⟨b, h1, h3⟩
theorem min_of (r : Nat → Nat) : ∀ {L : List Nat}, L ≠ [] → ∃ x ∈ L, ∀ y ∈ L, r x ≤ r y
  | [], h => absurd rfl h
  | [x], _ => ⟨x, by simp, by simp⟩
  | x :: y :: l, _ => by
    obtain ⟨m, hm, hl⟩ := min_of r (L := y :: l) (by simp)
    by_cases q : r x ≤ r m
    · refine ⟨x, by simp, fun z hz => ?_⟩
      rcases List.mem_cons.mp hz with rfl | hz
      · omega
      · have := hl z hz; omega
    · refine ⟨m, by simp [List.mem_cons.mp hm], fun z hz => ?_⟩
      rcases List.mem_cons.mp hz with rfl | hz
      · omega
      · exact hl z hz
theorem max_of (r : Nat → Nat) : ∀ {L : List Nat}, L ≠ [] → ∃ x ∈ L, ∀ y ∈ L, r y ≤ r x
  | [], h => absurd rfl h
  | [x], _ => ⟨x, by simp, by simp⟩
  | x :: y :: l, _ => by
    obtain ⟨m, hm, hl⟩ := max_of r (L := y :: l) (by simp)
    by_cases q : r m ≤ r x
    · refine ⟨x, by simp, fun z hz => ?_⟩
      rcases List.mem_cons.mp hz with rfl | hz
      · omega
      · have := hl z hz; omega
    · refine ⟨m, by simp [List.mem_cons.mp hm], fun z hz => ?_⟩
      rcases List.mem_cons.mp hz with rfl | hz
      · omega
      · exact hl z hz
theorem Ranked.free (h : Ranked P L) (hn : L ≠ []) : ∃ x ∈ L, hasPre P L x = false := by
  obtain ⟨r, h⟩ := h
  obtain ⟨x, hx, hm⟩ := min_of r hn
  refine ⟨x, hx, ?_⟩
  cases e : hasPre P L x with
  | false => rfl
  | true =>
    obtain ⟨a, h1, h2⟩ := hasPre_ex e
    have := h a x h1 h2 hx
    have := hm a h2
    omega
theorem ranked_free {x : Nat} (hx : hasPre P L x = false) : Ranked P L ↔ Ranked P (L.filter (· != x)) := by
  constructor
  · exact fun h => h.sub fun y hy => (List.mem_filter.mp hy).1
  · rintro ⟨r, h⟩
    refine ⟨fun y => if y = x then 0 else r y + 1, fun a b p ha hb => ?_⟩
    have hbx : b ≠ x := fun q => by
      subst q
      rw [hasPre_of p ha] at hx
      cases hx
    show (if a = x then 0 else r a + 1) < if b = x then 0 else r b + 1
    rw [if_neg hbx]
    by_cases q : a = x
    · rw [if_pos q]; omega
    · rw [if_neg q]
      have := h a b p (List.mem_filter.mpr ⟨ha, by simpa using q⟩) (List.mem_filter.mpr ⟨hb, by simpa using hbx⟩)
      omega
theorem free_shorter {x : Nat} (hx : x ∈ L) : (L.filter (· != x)).length < L.length := by
  refine Nat.lt_of_le_of_ne (List.length_filter_le _ _) fun q => ?_
  have := List.length_filter_eq_length_iff.mp q x hx
  simp at this
theorem ranked_peel : Ranked P L ↔ Ranked P (peel P L) := by
  constructor
  · exact fun h => h.sub fun y hy => (List.mem_filter.mp hy).1
  · rintro ⟨r, h⟩
    by_cases hn : L = []
    · subst hn; exact ranked_nil
    obtain ⟨m, _, hm⟩ := max_of r hn
    refine ⟨fun y => if hasPost P L y = true then r y else r m + 1, fun a b p ha hb => ?_⟩
    show (if hasPost P L a = true then r a else r m + 1) < if hasPost P L b = true then r b else r m + 1
    rw [if_pos (hasPost_of p hb)]
    split
    · exact h a b p (List.mem_filter.mpr ⟨ha, hasPost_of p hb⟩) (List.mem_filter.mpr ⟨hb, by assumption⟩)
    · have := hm a ha; omega
theorem Ranked.peel_shorter (h : Ranked P L) (hn : L ≠ []) : (peel P L).length < L.length := by
  obtain ⟨r, h⟩ := h
  obtain ⟨x, hx, hm⟩ := max_of r hn
  refine Nat.lt_of_le_of_ne (List.length_filter_le _ _) fun q => ?_
  obtain ⟨b, h1, h2⟩ := hasPost_ex (List.length_filter_eq_length_iff.mp q x hx)
  have := h x b h1 hx h2
  have := hm b h2
  omega
end Ord
/-! ### runs in order -/
namespace Cut
/-- t stands as often in a run as it has pieces -/
def expF : Nat → List (List Nat) → List Nat
  | _, [] => []
  | i, c :: C => List.replicate (c.length + 1) i ++ expF (i + 1) C
theorem expF_ge : ∀ {i : Nat} {C : List (List Nat)}, ∀ x ∈ expF i C, i ≤ x ∧ x < i + C.length
  | i, [], x, h => by cases h
  | i, c :: C, x, h => by
    rcases List.mem_append.mp h with h | h
    · rw [(List.mem_replicate.mp h).2]
      simp
    · have := expF_ge x h
      rw [List.length_cons]
      omega
theorem expF_sorted : ∀ {i : Nat} {C : List (List Nat)}, (expF i C).Pairwise (· ≤ ·)
  | i, [] => .nil
  | i, c :: C => by
    unfold expF
    rw [List.pairwise_append]
    refine ⟨?_, expF_sorted, fun a ha b hb => ?_⟩
    · rw [List.pairwise_replicate]
      exact .inr (Nat.le_refl _)
    · rw [(List.mem_replicate.mp ha).2]
      have := expF_ge b hb
      omega
theorem expF_count : ∀ {i : Nat} {C : List (List Nat)} {t : Nat} {c : List Nat}, C[t]? = some c → (expF i C).count (i + t) = c.length + 1
  | i, [], t, c, h => by simp at h
  | i, c' :: C, 0, c, h => by
    have : c' = c := by simpa using h
    subst this
    have z : (expF (i + 1) C).count i = 0 := List.count_eq_zero_of_not_mem fun q => by have := expF_ge _ q; omega
    rw [Nat.add_zero]
    unfold expF
    rw [List.count_append, List.count_replicate_self, z]
  | i, c' :: C, t + 1, c, h => by
    have ih := expF_count (i := i + 1) (t := t) (C := C) (by simpa using h)
    unfold expF
    rw [List.count_append, show i + (t + 1) = i + 1 + t by omega, ih]
    have : (List.replicate (c'.length + 1) i).count (i + 1 + t) = 0 := List.count_eq_zero_of_not_mem fun q => by have := (List.mem_replicate.mp q).2; omega
    omega
theorem expF_len : ∀ {i : Nat} {C : List (List Nat)}, (expF i C).length = (C.map fun c => c.length + 1).sum
  | i, [] => rfl
  | i, c :: C => by
    unfold expF
    rw [List.length_append, List.length_replicate, expF_len, List.map_cons, List.sum_cons]
theorem perm_exp {C : List (List Nat)} {R : List Nat} (h1 : ∀ t c, C[t]? = some c → R.count t = c.length + 1) (h2 : ∀ t ∈ R, t < C.length) : R.Perm (expF 0 C) := by
  rw [List.perm_iff_count]
  intro t
  by_cases ht : t < C.length
  · rw [h1 t C[t] (List.getElem?_eq_getElem ht)]
    have := expF_count (i := 0) (List.getElem?_eq_getElem ht)
    rw [Nat.zero_add] at this
    exact this.symm
  · rw [List.count_eq_zero_of_not_mem fun q => ht (h2 t q), List.count_eq_zero_of_not_mem fun q => by have := expF_ge _ q; omega]
/-! pieces -/
variable {α : Type}
def sl (t : List α) (a b : Nat) : List α := (t.drop a).take (b - a)
def piecesF (t : List α) : Nat → List Nat → List (List α)
  | a, [] => [sl t a t.length]
  | a, k :: c => sl t a k :: piecesF t k c
theorem piecesF_len (t : List α) : ∀ (a : Nat) (c : List Nat), (piecesF t a c).length = c.length + 1
  | _, [] => rfl
  | _, k :: c => by
    show (piecesF t k c).length + 1 = _
    rw [piecesF_len t k c, List.length_cons]
def endsF (t : List α) (a : Nat) (c : List Nat) : List Nat := a :: (c ++ [t.length])
theorem pieces_zip (t : List α) {β : Type} (f : Nat → Nat → β) (g : List α → β) (h : ∀ a b, a ≤ t.length → b ≤ t.length → f a b = g (sl t a b)) : ∀ (a : Nat) (c : List Nat), a ≤ t.length → (∀ k ∈ c, k ≤ t.length) → List.zipWith f (endsF t a c) ((endsF t a c).drop 1) = (piecesF t a c).map g
  | a, [], ha, _ => by
    show [f a t.length] = [g (sl t a t.length)]
    rw [h a _ ha (Nat.le_refl _)]
  | a, k :: c, ha, hc => by
    have hk := hc k (by simp)
    have ih := pieces_zip t f g h k c hk fun x hx => hc x (by simp [hx])
    show f a k :: List.zipWith f (endsF t k c) ((endsF t k c).drop 1) = g (sl t a k) :: (piecesF t k c).map g
    rw [h a k ha hk, ih]
theorem pieces_ix (t : List α) {β : Type} (f : Nat → Nat → β) (g : List α → β) (h : ∀ a b, a ≤ t.length → b ≤ t.length → f a b = g (sl t a b)) (e : Nat → Nat) : ∀ (a : Nat) (c : List Nat), a ≤ t.length → (∀ k ∈ c, k ≤ t.length) → ∀ (j : Nat), (∀ i, i < c.length + 2 → (endsF t a c)[i]? = some (e (j + i))) → (List.range (c.length + 1)).map (fun i => f (e (j + i)) (e (j + i + 1))) = (piecesF t a c).map g
  | a, [], ha, _, j, he => by
    have h0 : a = e j := by simpa [endsF] using he 0 (by simp)
    have h1 : t.length = e (j + 1) := by simpa [endsF] using he 1 (by simp)
    show [f (e (j + 0)) (e (j + 0 + 1))] = [g (sl t a t.length)]
    rw [Nat.add_zero, ← h0, ← h1, h a _ ha (Nat.le_refl _)]
  | a, k :: c, ha, hc, j, he => by
    have hk := hc k (by simp)
    have ih := pieces_ix t f g h e k c hk (fun x hx => hc x (by simp [hx])) (j + 1) fun i hi => by
      have := he (i + 1) (by rw [List.length_cons]; omega)
      rw [show j + 1 + i = j + (i + 1) by omega, ← this]
      rfl
    have h0 : a = e j := by simpa [endsF] using he 0 (by simp)
    have h1 : k = e (j + 1) := by simpa [endsF] using he 1 (by simp)
    rw [List.length_cons, List.range_succ_eq_map, List.map_cons, List.map_map]
    show f (e (j + 0)) (e (j + 0 + 1)) :: _ = g (sl t a k) :: (piecesF t k c).map g
    rw [Nat.add_zero, ← h0, ← h1, h a k ha hk, ← ih]
    congr 1
    refine List.map_congr_left fun i _ => ?_
    show f (e (j + (i + 1))) (e (j + (i + 1) + 1)) = f (e (j + 1 + i)) (e (j + 1 + i + 1))
    rw [show j + (i + 1) = j + 1 + i by omega]
end Cut

namespace D3
open PySem PySem.Spec PyProof.Rows L2

/-! ### dicts of one's own, keys ints and texts -/
def getK (kvs : List (Key × PyData)) (k : Key) : Option PyData := match kvs with
  | [] => none
  | p :: r => if p.1 = k then some p.2 else getK r k
def hasK (kvs : List (Key × PyData)) (k : Key) : Bool := (getK kvs k).isSome
def setK (kvs : List (Key × PyData)) (k : Key) (d : PyData) : List (Key × PyData) := if hasK kvs k then kvs.map (fun p => if p.1 = k then (p.1, d) else p) else kvs ++ [(k, d)]
def keyD : PyData → Option Key
  | .int i => some (.inl i)
  | .str x => some (.inr x)
  | _ => none
abbrev KR (K : PySem.W.Frag) (F : Hp) : List (Key × V) → List (Key × PyData) → Prop := Paired fun (p : Key × V) (q : Key × PyData) => p.1 = q.1 ∧ Dp K F p.2 q.2
section
variable {K : PySem.W.Frag} {F F' H : Hp} {ws : List (Key × V)} {kvs : List (Key × PyData)} {k : Key} {v : V} {d : PyData}
theorem key_of {x : PyData} (h : keyD x = some k) (r : Dp K F v x) : v = kV k := by
  cases x <;> simp only [keyD] at h <;> try (cases h; done)
  · cases h; cases r; rfl
  · cases h; cases r; rfl
theorem kr_get : ∀ {ws : List (Key × V)} {kvs : List (Key × PyData)}, KR K F ws kvs → (∀ d, getK kvs k = some d → ∃ v, valV ws k = some v ∧ Dp K F v d) ∧ (getK kvs k = none → valV ws k = none)
  | _, _, .nil => ⟨fun d e => by (cases e), fun _ => rfl⟩
  | p :: ws, q :: kvs, .cons h t => by
    obtain ⟨ih1, ih2⟩ := kr_get t
    by_cases e : p.1 = k
    · rw [valV_pos e]
      have e' : q.1 = k := h.1 ▸ e
      have g : getK (q :: kvs) k = some q.2 := by show (if q.1 = k then some q.2 else _) = _; rw [if_pos e']
      rw [g]
      exact ⟨fun d ed => by cases ed; exact ⟨_, rfl, h.2⟩, fun z => by cases z⟩
    · rw [valV_neg e]
      have e' : ¬ q.1 = k := fun z => e (h.1.trans z)
      have g : getK (q :: kvs) k = getK kvs k := by show (if q.1 = k then some q.2 else _) = _; rw [if_neg e']
      rw [g]
      exact ⟨ih1, ih2⟩
theorem kr_some (r : KR K F ws kvs) : (valV ws k).isSome = hasK kvs k := by
  obtain ⟨h1, h2⟩ := kr_get (k := k) r
  unfold hasK
  cases e : getK kvs k with
  | none => rw [h2 e]; rfl
  | some d => obtain ⟨v, e1, _⟩ := h1 d e; rw [e1]; rfl
theorem kr_app {ws' : List (Key × V)} {kvs' : List (Key × PyData)} : ∀ {ws : List (Key × V)} {kvs : List (Key × PyData)}, KR K F ws kvs → KR K F ws' kvs' → KR K F (ws ++ ws') (kvs ++ kvs')
  | _, _, .nil, r => r
  | _, _, .cons h t, r => .cons h (kr_app t r)
theorem kr_map (hd : Dp K F v d) : ∀ {ws : List (Key × V)} {kvs : List (Key × PyData)}, KR K F ws kvs → KR K F (ws.map fun kv => if kv.1 = k then (kv.1, v) else kv) (kvs.map fun p => if p.1 = k then (p.1, d) else p)
  | _, _, .nil => .nil
  | p :: ws, q :: kvs, .cons h t => by
    refine .cons ?_ (kr_map hd t)
    show (if p.1 = k then (p.1, v) else p).1 = (if q.1 = k then (q.1, d) else q).1 ∧ Dp K F (if p.1 = k then (p.1, v) else p).2 (if q.1 = k then (q.1, d) else q).2
    by_cases e : p.1 = k
    · have e' : q.1 = k := h.1 ▸ e
      rw [if_pos e, if_pos e']
      exact ⟨h.1, hd⟩
    · have e' : ¬ q.1 = k := fun z => e (h.1.trans z)
      rw [if_neg e, if_neg e']
      exact h
theorem kr_put (r : KR K F ws kvs) (hd : Dp K F v d) : KR K F (putK ws k v) (setK kvs k d) := by
  unfold putK setK
  rw [valV_any, kr_some r]
  split
  · exact kr_map hd r
  · exact kr_app r (.cons ⟨rfl, hd⟩ .nil)
theorem kr_up (s : Same F F') (r : KR K F ws kvs) : KR K F' ws kvs := by
  induction r with
  | nil => exact .nil
  | cons h t ih => exact .cons ⟨h.1, dp_up s h.2⟩ ih
theorem setK_len (kvs : List (Key × PyData)) (k : Key) (d : PyData) : (setK kvs k d).length ≤ kvs.length + 1 := by
  unfold setK
  split
  · rw [List.length_map]; omega
  · rw [List.length_append]; exact Nat.le_refl _
end
/-- a dict of one's own -/
def rOd (K : PySem.W.Frag) : RelD V Od := fun B σ ρ F H v o => ∃ a, v = .ref a ∧ FreshO K B σ ρ F H a o
abbrev EO (X : Cx) (W : WX) (e : Expr) (f : M Od) : Prop := PE X e (tR X.K X.mg W (rOd X.K) f)
/-! a name that holds a dict -/
def dkAt (ρ : Ev) (i : Nat) : Option (List (Key × PyData)) := match ρ[i]? with
  | some (.ob (.dk kvs)) => some kvs
  | _ => none
def eDk (i : Nat) : M (List (Key × PyData)) := fun ρ => lft (dkAt ρ i) ρ
theorem dkAt_some {ρ : Ev} {i : Nat} {kvs : List (Key × PyData)} (h : dkAt ρ i = some kvs) : ρ[i]? = some (.ob (.dk kvs)) := by
  unfold dkAt at h
  split at h
  · rename_i e; cases h; exact e
  · cases h
theorem SI.dkOf {K : PySem.W.Frag} {B : Bs} {σ : L2.St} {ρ : Ev} {F H : Hp} {i : Nat} {kvs : List (Key × PyData)} (I : SI K B σ ρ F H) (h : dkAt ρ i = some kvs) : ∃ a ws, σ[i]? = some (some (.ref a)) ∧ H a = some (.dK ws) ∧ KR K F ws kvs := by
  obtain ⟨a, u, e1, h1, _, _, ws, rfl, r⟩ := I.slot i _ (dkAt_some h)
  exact ⟨a, ws, e1, h1, r⟩
theorem tA.dk {β α : Type} {K : PySem.W.Frag} {mg : Str → Option Value} {W : WX} {B : Bs} {σ : L2.St} {ρ : Ev} {F H : Hp} {R : RelD β α} {i : Nat} {g : List (Key × PyData) → M α} {Q : β → Hp → Prop} (h : tA K mg W R B σ ρ F (bnd (eDk i) g) Q) (I : SI K B σ ρ F H) :
    ∃ kvs a, dkAt ρ i = some kvs ∧ σ[i]? = some (some (.ref a)) ∧ tA K mg W R B σ ρ F (g kvs) Q := by
  obtain ⟨r, e, h1, h2⟩ := h
  unfold bnd eDk at e
  cases q : dkAt ρ i with
  | none => rw [q] at e; cases e
  | some kvs =>
    rw [q] at e
    obtain ⟨a, ws, e1, _⟩ := I.dkOf q
    exact ⟨kvs, a, rfl, e1, r, e, h1, h2⟩
/-- x[e], x a dict of one's own -/
def eDGet (i : Nat) (g : M PyData) : M PyData := bnd (eDk i) fun _ => bnd g fun y ρ => lft ((dkAt ρ i).bind fun kvs => (keyD y).bind fun k => getK kvs k) ρ
def tDkIn (i : Nat) (neg : Bool) (g : M PyData) : M Bool := bnd g fun y => bnd (eDk i) fun kvs => lft ((keyD y).map fun k => if neg then !hasK kvs k else hasK kvs k)
def putKS (i : Nat) (d y : PyData) (ρ : Ev) : Option Ev := (dkAt ρ i).bind fun kvs => (keyD y).bind fun k => if kvs.length < sizeLine then some (ρ.set i (.ob (.dk (setK kvs k d)))) else none
def sDkPut (i : Nat) (f g : M PyData) : M Fl := bnd f fun d => bnd (eDk i) fun _ => bnd g fun y ρ => nFl (putKS i d y ρ)
def intK : List (Key × PyData) → Option (List Int)
  | [] => some []
  | (.inl i, _) :: r => (intK r).map (i :: ·)
  | (.inr _, _) :: _ => none
def leZ (a b : Int) : Bool := decide (a ≤ b)
/-- sorted(x), x a dict of one's own whose keys are ints -/
def sortK (kvs : List (Key × PyData)) : Option (List PyData) := (intK kvs).bind fun ks => if ks.length < 64 then some ((isort leZ ks).map .int) else none
def eDkSorted (i : Nat) : M (List PyData) := bnd (eDk i) fun kvs => lft (sortK kvs)
section
variable {X : Cx} {W : WX} {b e it tg kx vx : Expr} {g f fk fv : M PyData} {pos p2 pos' : Pos} {k : Nat}
theorem ev_dget (A : Ar X W k) (i : Nat) {x : Str} (hb : EV X W b g) (hN : X.N[i]? = some x := by rfl) (hv : Vis X.env.scope x := by first | exact Or.inl rfl | exact Or.inr (Or.inl rfl) | exact Or.inr (Or.inr rfl)) (hs : NoSl b := by exact fun _ _ => rfl) (hd : (x == ("__debug__" : Str)) = false := by decide)
    (hcd : (x == ("__classdict__" : Str)) = false := by decide) : EV X W (.Subscript (.Name x p2) b pos) (eDGet i g) := (pe_dget (by have := A.room.units; omega) (pe_var hN hv hd hcd) hb hs).imp fun σ H Q ⟨B, ρ, F, I, q⟩ => by
  obtain ⟨_, a, _, ea, q0⟩ := q.dk I
  refine ⟨.ref a, ea, B, ρ, F, I, q0.bind fun y ρ2 u F2 H2 s2 I2 r2 q2 => ?_⟩
  have q3 : tA X.K X.mg W (rD X.K) B σ ρ2 F2 (lft ((dkAt ρ2 i).bind fun kvs => (keyD y).bind fun k => getK kvs k)) Q := q2
  obtain ⟨d, e, q4⟩ := q3.lft
  cases el : dkAt ρ2 i with
  | none => rw [el] at e; cases e
  | some kvs =>
    rw [el] at e
    cases ek : keyD y with
    | none => rw [ek] at e; cases e
    | some kk =>
      rw [ek] at e
      have e' : getK kvs kk = some d := e
      obtain ⟨a', ws, ea', hH, r⟩ := I2.dkOf el
      rw [ea] at ea'; cases ea'
      obtain ⟨v, ev, rv⟩ := (kr_get r).1 d e'
      have ey := key_of ek r2
      subst ey
      exact ⟨a, v, rfl, by rw [← ev]; exact DGet.k hH, q4 v F2 H2 (Same.refl _) I2 rv⟩
theorem tv_dkin (A : Ar X W k) (i : Nat) {x : Str} (hb : EV X W b g) (hN : X.N[i]? = some x := by rfl) (hv : Vis X.env.scope x := by first | exact Or.inl rfl | exact Or.inr (Or.inl rfl) | exact Or.inr (Or.inr rfl)) (hd : (x == ("__debug__" : Str)) = false := by decide)
    (hcd : (x == ("__classdict__" : Str)) = false := by decide) (hm : behindInMarks .In (.Name x p2) = false := by rfl) : TV X W (.Compare b [.In] [.Name x p2] pos) (tDkIn i false g) := (pt_cmp (pc_din (by have := A.room.units; omega) hb (pe_var hN hv hd hcd)) hm).imp fun σ H Q ⟨B, ρ, F, I, q⟩ => by
  refine ⟨B, ρ, F, I, q.bind fun y ρ2 u F2 H2 s2 I2 r2 q2 => ?_⟩
  obtain ⟨kvs, a, el, ea, q3⟩ := q2.dk I2
  obtain ⟨c, e, q4⟩ := q3.lft
  cases ek : keyD y with
  | none => rw [ek] at e; cases e
  | some kk =>
    rw [ek] at e
    cases e
    obtain ⟨a', ws, ea', hH, r⟩ := I2.dkOf el
    rw [ea] at ea'; cases ea'
    have ey := key_of ek r2
    subst ey
    exact ⟨.ref a, ea, a, _, rfl, DGet.k hH, _, rfl, q4 _ F2 H2 (Same.refl _) I2 (kr_some r)⟩
theorem tv_dknotin (A : Ar X W k) (i : Nat) {x : Str} (hb : EV X W b g) (hN : X.N[i]? = some x := by rfl) (hv : Vis X.env.scope x := by first | exact Or.inl rfl | exact Or.inr (Or.inl rfl) | exact Or.inr (Or.inr rfl)) (hd : (x == ("__debug__" : Str)) = false := by decide)
    (hcd : (x == ("__classdict__" : Str)) = false := by decide) (hm : behindInMarks .NotIn (.Name x p2) = false := by rfl) : TV X W (.Compare b [.NotIn] [.Name x p2] pos) (tDkIn i true g) := (pt_cmp (pc_dnotin (by have := A.room.units; omega) hb (pe_var hN hv hd hcd)) hm).imp fun σ H Q ⟨B, ρ, F, I, q⟩ => by
  refine ⟨B, ρ, F, I, q.bind fun y ρ2 u F2 H2 s2 I2 r2 q2 => ?_⟩
  obtain ⟨kvs, a, el, ea, q3⟩ := q2.dk I2
  obtain ⟨c, e, q4⟩ := q3.lft
  cases ek : keyD y with
  | none => rw [ek] at e; cases e
  | some kk =>
    rw [ek] at e
    cases e
    obtain ⟨a', ws, ea', hH, r⟩ := I2.dkOf el
    rw [ea] at ea'; cases ea'
    have ey := key_of ek r2
    subst ey
    exact ⟨.ref a, ea, a, _, rfl, DGet.k hH, _, rfl, q4 _ F2 H2 (Same.refl _) I2 (congrArg Bool.not (kr_some r))⟩
theorem sv_dkput (A : Ar X W k) (i : Nat) {x : Str} (he : EV X W e f) (hb : EV X W b g) (hN : X.N[i]? = some x := by rfl) (hv : Vis X.env.scope x := by first | exact Or.inl rfl | exact Or.inr (Or.inl rfl) | exact Or.inr (Or.inr rfl)) (hd : (x == ("__debug__" : Str)) = false := by decide)
    (hcd : (x == ("__classdict__" : Str)) = false := by decide) (hs : swapsWith e (some (.Subscript (.Name x p2) b pos')) pos.line X.env = pure false := by rfl) : SV X W (.Assign [.Subscript (.Name x p2) b pos'] e pos) (sDkPut i f g) := (ps_dput (by have := A.room.units; omega) (pe_var hN hv hd hcd) hb he hs).imp fun D σ H ⟨B, ρ, F, I, q⟩ => by
  refine ⟨B, ρ, F, I, q.bind fun d ρ1 v F1 H1 s1 I1 r1 q1 => ?_⟩
  obtain ⟨r, er, k1, k2⟩ := q1
  unfold bnd eDk at er
  cases el1 : dkAt ρ1 i with
  | none => rw [el1] at er; cases er
  | some kvs1 =>
    rw [el1] at er
    obtain ⟨a, ws1, ea, _⟩ := I1.dkOf el1
    have q2 : tAS X.K X.mg W B ρ1 F1 (bnd g fun y ρ => nFl (putKS i d y ρ)) D := ⟨r, er, k1, k2⟩
    refine ⟨.ref a, ea, B, ρ1, F1, I1, q2.bind fun y ρ2 u F2 H2 s2 I2 r2 q3 => ?_⟩
    obtain ⟨ρ3, e3, k3⟩ := tAS.fl q3
    unfold putKS at e3
    cases el : dkAt ρ2 i with
    | none => rw [el] at e3; cases e3
    | some kvs =>
      rw [el] at e3
      cases ek : keyD y with
      | none => rw [ek] at e3; cases e3
      | some kk =>
        rw [ek] at e3
        dsimp only [Option.bind_some] at e3
        split at e3
        · rename_i hz
          cases e3
          obtain ⟨a', ws, ea', hH, rk⟩ := I2.dkOf el
          rw [ea] at ea'; cases ea'
          have ey := key_of ek r2
          subst ey
          refine ⟨a, _, rfl, DPut.k hH (by rw [Paired.length rk]; exact hz), k3 σ F2 _ (Same.refl _) (I2.writeO (dkAt_some el) ea ⟨_, rfl, kr_put rk (dp_up s2 r1)⟩)⟩
        · cases e3

/-! sorted keys -/
theorem leZ_total : PySem.W.TotalLe leZ := ⟨fun a b c h1 h2 => by simp [leZ] at *; omega, fun a b => by simp [leZ]; omega⟩
theorem intK_keys {K : PySem.W.Frag} {F : Hp} : ∀ {ws : List (Key × V)} {kvs : List (Key × PyData)} {ks : List Int}, KR K F ws kvs → intK kvs = some ks → ws.map (·.1) = ks.map Sum.inl
  | _, _, ks, .nil, h => by cases h; rfl
  | p :: ws, (q, d) :: kvs, ks, .cons h t, e => by
    cases q with
    | inr x => cases e
    | inl i =>
      have e' : (intK kvs).map (i :: ·) = some ks := e
      cases ei : intK kvs with
      | none => rw [ei] at e'; cases e'
      | some ls =>
        rw [ei] at e'
        cases e'
        rw [List.map_cons, List.map_cons, intK_keys t ei, h.1]
theorem el_dksorted (A : Ar X W k) (i : Nat) {x y : Str} (hg : Gl X y) (hm : X.mg y = none) (hy : bootBuiltins y = some (.builtin "sorted")) (hN : X.N[i]? = some x := by rfl) (hv : Vis X.env.scope x := by first | exact Or.inl rfl | exact Or.inr (Or.inl rfl) | exact Or.inr (Or.inr rfl)) (hd : (x == ("__debug__" : Str)) = false := by decide)
    (hcd : (x == ("__classdict__" : Str)) = false := by decide) (hn : y ≠ "__name__" := by decide) (hdb : (y == ("__debug__" : Str)) = false := by decide) (he : starEach [.Name x p2] X.env = (false, eval (.Name x p2) X.env) :: starEach [] X.env := by rfl) (hpl : (backTo pos (starEach [] X.env)).any (·.1) = false := by rfl) : EL X W (.Call (.Name y pos') [.Name x p2] [] pos) (eDkSorted i) :=
  (pe_callB (call_sortedDI A.calm) hg hm hy (pa_cons (pe_var hN hv hd hcd) pa_nil he) hn hdb he hpl).imp fun σ H Q ⟨B, ρ, F, I, q⟩ => by
  obtain ⟨kvs, a, el, ea, q0⟩ := q.dk I
  obtain ⟨ds, e, q1⟩ := q0.lft
  unfold sortK at e
  cases ek : intK kvs with
  | none => rw [ek] at e; cases e
  | some ks =>
    rw [ek] at e
    dsimp only [Option.bind_some] at e
    split at e
    · rename_i hl
      cases e
      obtain ⟨a', ws, ea', hH, rk⟩ := I.dkOf el
      rw [ea] at ea'; cases ea'
      refine ⟨.ref a, ea, a, ws, ks, rfl, .inl hH, intK_keys rk ek, hl, fun ys p hp hs hf => ?_⟩
      have e2 : ys = isort leZ ks := List.Perm.eq_of_pairwise (fun a b _ _ h1 h2 => Int.le_antisymm h1 h2) hs ((isort_sorted leZ_total ks).imp fun h => by simpa [leZ] using h) (hp.trans (isort_perm leZ ks).symm)
      subst e2
      have dz : ∀ l : List Int, DpAll X.K F (l.map V.int) (l.map PyData.int) := fun l => by
        induction l with
        | nil => exact .nil
        | cons z zs ih => exact .cons (.int z) ih
      obtain ⟨I2, f2⟩ := I.fresh hf (dz (isort leZ ks))
      exact q1 _ F _ (Same.refl _) I2 ⟨p, rfl, f2⟩
    · cases e
/-! names, results -/
def sSetOb (i : Nat) (f : M Od) : M Fl := bnd f fun o => nxt i (.ob o)
theorem sv_setOb {fo : M Od} (i : Nat) {x : Str} (hN : X.N.Nodup) (he : EO X W e fo) (hi : X.N[i]? = some x := by rfl) (hx : Loc X.env.scope x := by first | exact Or.inl rfl | exact Or.inr rfl) (hs : swapsWith e (some (.Name x p2)) pos.line X.env = pure false := by rfl)
    (hf : X.fn x = true ∨ X.env.scope.names.lookup x = some .local := by first | exact .inl rfl | exact .inr rfl) : SV X W (.Assign [.Name x p2] e pos) (sSetOb i fo) := (ps_set hN hi hx he hs hf).imp fun D σ H ⟨B, ρ, F, I, h⟩ =>
  ⟨B, ρ, F, I, h.bind fun o ρ1 v F1 H1 s1 I1 r1 q1 => by
    obtain ⟨a, rfl, fr⟩ := r1
    exact q1.nxt _ F1 H1 (Same.refl _) (I1.setO fr)⟩
def sRetOb (i : Nat) : M Fl := fun ρ => match ρ[i]? with
  | some (.ob o) => some (.ok (.rt (.ob o)) (ρ.set i .nil))
  | _ => none
theorem sv_retOb (i : Nat) {x : Str} (hN : X.N[i]? = some x := by rfl) (hv : Vis X.env.scope x := by first | exact Or.inl rfl | exact Or.inr (Or.inl rfl) | exact Or.inr (Or.inr rfl)) (hd : (x == ("__debug__" : Str)) = false := by decide)
    (hcd : (x == ("__classdict__" : Str)) = false := by decide) : SV X W (.Return (some (.Name x p2)) pos) (sRetOb i) := (ps_ret (pe_var hN hv hd hcd)).imp fun D σ H ⟨B, ρ, F, I, r, e, h1, _⟩ => by
  unfold sRetOb at e
  cases q : ρ[i]? with
  | none => rw [q] at e; cases e
  | some s =>
    rw [q] at e
    cases s with
    | nil => cases e
    | val d => cases e
    | own ds => cases e
    | io ds => cases e
    | ob o =>
      cases e
      obtain ⟨a, e1, I1, f1⟩ := I.takeO q
      exact ⟨.ref a, e1, h1 _ _ rfl _ σ F H (Same.refl _) I1 ⟨a, rfl, f1⟩⟩
end
/-- a def that returns a fresh dict -/
abbrev FO := List PyData → Option Od
def PO' (K : PySem.W.Frag) (F H : Hp) (o : Od) (Q : VK) : Prop := ∀ a u F' H', Same F F' → Sb F' H' → Same H H' → (∀ a o, F' a = some o → F a = none → H a = none) → H a = none → F' a = none → H' a = some u → OdOk K F' u o → Q (.ref a) H'
theorem SI.po {K : PySem.W.Frag} {B : Bs} {σ : L2.St} {ρ : Ev} {F H : Hp} {Q : VK} {o : Od} (I : SI K B σ ρ F H) (h : ∀ b F' H', Same F F' → SI K B σ ρ F' H' → rOd K B σ ρ F' H' b o → Q b H') : PO' K F H o Q := fun a u F' H' s1 s2 s3 nw hp hF hl r => by
  refine h _ F' H' s1 (I.grow s1 s2 s3 nw) ⟨a, rfl, ⟨⟨u, hl, r⟩, hF, I.noN hp, fun i s e o es => ?_⟩⟩
  obtain ⟨_, ws, h2⟩ := I.ownF e o es
  rw [hp] at h2; cases h2
def spO (K : PySem.W.Frag) (n : Nat) (m : FO) : Sp := fun vs H Q _ => vs.length = n ∧ ∃ F ds r, Sb F H ∧ DpAll K F vs ds ∧ m ds = some r ∧ PO' K F H r Q
def outO : Option (Rs Fl) → Option Od
  | some (.ok (.rt (.ob o)) _) => some o
  | _ => none
def runO (n N : Nat) (b : M Fl) : FO := fun ds => if ds.length = n then outO (b (startE N ds)) else none
theorem runO_len {n N : Nat} {b : M Fl} : ∀ ds r, runO n N b ds = some r → ds.length = n := fun ds r h => by
  unfold runO at h
  split at h
  · assumption
  · cases h
def eFnO (m : FO) (f : M (List PyData)) : M Od := bnd f fun ds => lft (m ds)
section
variable {X : Cx} {W : WX} {e : Expr} {es : List Expr} {fl : M (List PyData)} {j k n : Nat} {x y : Str} {p pos p2 : Pos} {mo : FO}
theorem eo_fn (C : Cal X.prog X.w X.K X.mg X.base k x (spO X.K n mo)) (A : Ar X W j) (hk : k ≤ j) (hg : Gl X x) (ha : AV X W (e :: es) fl) (hn : ∀ ds r, mo ds = some r → ds.length = n) (hdb : (x == ("__debug__" : Str)) = false := by decide)
    (he : starEach (e :: es) X.env = (false, eval e X.env) :: starEach es X.env := by rfl) (hpl : (backTo pos (starEach es X.env)).any (·.1) = false := by rfl) : EO X W (.Call (.Name x p) (e :: es) [] pos) (eFnO mo fl) := by
  obtain ⟨f, fd, ps, F, hm, hkp, hb⟩ := C.ex
  refine (pe_callG F (A.room.mono hk) A.gd hg hm hkp hb (passAt A.tk) ha hdb he hpl).imp fun σ H Q ⟨B, ρ, F, I, q⟩ => ?_
  refine ⟨B, ρ, F, I, q.bind fun ds ρ1 vs F1 H1 s1 I1 r1 q1 => ?_⟩
  obtain ⟨r, e, h1⟩ := q1.lft
  exact ⟨(dps_len r1).trans (hn _ _ e), F1, ds, r, I1.sub, r1, e, I1.po h1⟩
end
section
variable {P : Program} {w : World} {K : PySem.W.Frag} {mg : Str → Option Value} {base : Heap} {k : Nat} {f : Addr} {fd : FuncData} {N ps : List Str} {x qual : Str} {st : Stmt} {b : M Fl}
theorem okO (F : L2.Fun K x qual st f fd) (S : FnScope N ps (defScope st))
    (hb : ∀ (cdv : Value) (A : Around) (outer : List Env) (s : Shared) (H : Hp) (E : XK), Ar (bodyX P w K mg base N qual (defScope st) f cdv A outer s H E) (WE1 E) k → PassesOwn (model P w) (A.deeper (envOfC qual (defScope st) s.heap.objs.size f cdv)) (envOfC qual (defScope st) s.heap.objs.size f cdv) (bodyX P w K mg base N qual (defScope st) f cdv A outer s H E).xe →
      BV (bodyX P w K mg base N qual (defScope st) f cdv A outer s H E) (WE1 E) (defBody st) b) : FnG P w K mg base (k + 1) f fd ps (spO K ps.length (runO ps.length N.length b)) := by
  refine Fun.okG F S (fun vs H Q E h => h.1) fun cdv A outer s H vs Q E hr hg h => ?_
  obtain ⟨hl, G, ds, r, sF, hd, hm, h1⟩ := h
  refine ⟨_, hb cdv A outer s H E ⟨rfl, S.nd, hr, hg, takes_of rfl rfl rfl rfl⟩ (passes_of rfl), Bs.entry H G, startE N.length ds, G, SI.start sF hd, ?_⟩
  unfold runO at hm
  rw [if_pos (by rw [← dps_len hd]; exact hl)] at hm
  cases eb : b (startE N.length ds) with
  | none => rw [eb] at hm; cases hm
  | some rb =>
    rw [eb] at hm
    refine ⟨rb, eb, fun fl ρ' q => ?_, fun x ρ' q => by subst q; cases hm⟩
    subst q
    cases fl with
    | nx => cases hm
    | bk => cases hm
    | ct => cases hm
    | rt rv =>
      cases rv with
      | val d => cases hm
      | own d => cases hm
      | ob o =>
        cases hm
        intro v σ' F' H' s1 I' rv
        obtain ⟨a, rfl, ⟨u, e1, e2⟩, fF, fN, _⟩ := rv
        refine h1 a u F' H' s1 I'.sub I'.ends.1 I'.ends.2 ?_ fF e1 e2
        cases q : H a with
        | none => rfl
        | some u => exact absurd (by show H a ≠ none; rw [q]; simp) fN
end
end D3

namespace D3
open PySem PySem.Spec PyProof.Rows L2
/-! ### {k: v for ..} -/
def compK (as : PyData → Ev → Option Ev) (t : M Bool) (ek ev : M PyData) (vs : List Nat) : List PyData → List (Key × PyData) → M (List (Key × PyData))
  | [], acc, ρ => some (.ok acc ρ)
  | d :: ds, acc, ρ => match as d ρ with
    | none => none
    | some ρ1 => match t ρ1 with
      | some (.ok true ρ2) => match ek ρ2 with
        | some (.ok y ρ3) => match ev ρ3 with
          | some (.ok z ρ4) => match keyD y with
            | some k => compK as t ek ev vs ds (setK acc k z) (wipeE ρ4 vs)
            | none => none
          | _ => none
        | _ => none
      | some (.ok false ρ2) => compK as t ek ev vs ds acc (wipeE ρ2 vs)
      | _ => none
def dcK (as : PyData → Ev → Option Ev) (t : M Bool) (ek ev : M PyData) (vs : List Nat) (items : List PyData) : M Od := fun ρ =>
  if items.length ≤ sizeLine && noOwn ρ vs then match compK as t ek ev vs items [] (wipeE ρ vs) with
    | some (.ok l ρ') => some (.ok (.dk l) (backE ρ ρ' vs))
    | _ => none
  else none
def eDc (f : M (List PyData)) (as : PyData → Ev → Option Ev) (t : M Bool) (ek ev : M PyData) (vs : List Nat) : M Od := bnd f (dcK as t ek ev vs)
section
variable {X : Cx} {W : WX} {tg it kx vx : Expr} {ifs : List Expr} {fl : M (List PyData)} {as : PyData → Ev → Option Ev} {vs : List Nat} {ft : M Bool} {fk fv : M PyData} {pos : Pos} {scope : Scope} {own : List (Str × Nat)}
theorem dck_core {rw : Bool} {K : PySem.W.Frag} {mg : Str → Option Value} {ws : List Nat} {σ : L2.St} {Q : VK} {B : Bs} {ρ1 : Ev} {F1 H1 : Hp} {J : It} {items : List PyData} (hw : ∀ j ∈ ws, j ∈ vs) (I1 : SI K B σ ρ1 F1 H1) (ok' : ItOk rw K F1 J items)
    (q1 : tA K mg W (rOd K) B σ ρ1 F1 (dcK as ft fk fv vs items) Q) : ∀ D, H1 D = none → ∃ W : Nat → Nat → Hp → Prop, (∃ m, W 0 m (upd H1 D (.dK []))) ∧ ∀ i m H, W i m H →
      (J.stop i H ∧ Q (.ref D) H) ∨ (J.go i H ∧ ∃ Nx : Hp → Prop, (∀ H', Nx H' → ∃ m', m' < m ∧ W (i + 1) m' H') ∧ ∀ x H', J.yld i H x H' → tG rw K as ws x (L2.wipe σ vs) H' fun σ2 H2 => L2.wipe σ2 vs = L2.wipe σ vs ∧ tR K mg WX0 rB ft σ2 H2 fun b H3 =>
        if b = true then tR K mg WX0 (rD K) fk σ2 H3 fun y H4 => tR K mg WX0 (rD K) fv σ2 H4 fun z H5 => ∃ kvs k, y = kV k ∧ H5 D = some (.dK kvs) ∧ kvs.length < sizeLine ∧ Nx (upd H5 D (.dK (putK kvs k z))) else Nx H3) := by
  intro D hD
  obtain ⟨r, er, h1, h2⟩ := q1
  unfold dcK at er
  split at er
  · rename_i hz
    rw [Bool.and_eq_true] at hz
    obtain ⟨hz, hno⟩ := hz
    have hz : items.length ≤ sizeLine := of_decide_eq_true hz
    cases ec : compK as ft fk fv vs items [] (wipeE ρ1 vs) with
    | none => rw [ec] at er; cases er
    | some rc =>
      rw [ec] at er
      cases rc with
      | ex x ρ' => cases er
      | ok l ρ' =>
        cases er
        obtain ⟨I2, fr2⟩ := I1.freshO (o := .dk []) (u := .dK []) hD ⟨[], rfl, .nil⟩
        have fF : B.F0 D = none := by
          cases e : B.F0 D with
          | none => rfl
          | some o =>
            have z := I1.sub.s _ _ (I1.up _ _ e)
            rw [hD] at z; cases z
        refine ⟨fun i m H => i + m = items.length ∧ ∃ ρ F acc, acc.length ≤ i ∧ Same F1 F ∧ SI K B (L2.wipe σ vs) ρ F H ∧ FreshO K B (L2.wipe σ vs) ρ F H D (.dk acc) ∧ compK as ft fk fv vs (items.drop i) acc ρ = some (.ok l ρ'), ⟨items.length, Nat.zero_add _, wipeE ρ1 vs, F1, [], Nat.le_refl _, Same.refl _, I2.wipe vs, ?_, by rw [List.drop_zero]; exact ec⟩, ?_⟩
        · refine ⟨fr2.at_, fr2.fF, fr2.fN, fun j s ej os esj => ?_⟩
          obtain ⟨_, ws, h5⟩ := (I1.wipe vs).ownF ej os esj
          rw [hD] at h5; cases h5
        rintro i m H3 ⟨em, ρ3, F3, acc, hacc, s3, I3, fr3, ec3⟩
        cases ed : items.drop i with
        | nil =>
          have hl : items.length ≤ i := List.drop_eq_nil_iff.mp ed
          have ei : i = items.length := by omega
          rw [ed] at ec3
          cases ec3
          have Ib := I1.back I3 s3 hno
          refine .inl ⟨by rw [ei]; exact ok'.stop H3 (s3.sb I3.sub), h1 _ _ rfl _ F3 H3 s3 Ib ⟨D, rfl, fr3.at_, fr3.fF, fr3.fN, fun j s ej os esj => ?_⟩⟩
          have hl : ρ1.length = ρ'.length := by rw [I1.len, I3.len, wipe_length]
          rw [backE_get hl] at ej
          split at ej
          · rename_i hj
            have := List.all_eq_true.mp hno j hj
            rw [ej] at this
            simp [os] at this
          · rename_i hj
            rw [← wipe_get hj] at esj
            exact fr3.ne j s ej os esj
        | cons d ds =>
          obtain ⟨e1, e2⟩ := getE_cons ed
          have hi : i < items.length := (List.getElem?_eq_some_iff.mp e1).1
          rw [ed] at ec3
          unfold compK at ec3
          cases ea : as d ρ3 with
          | none => rw [ea] at ec3; cases ec3
          | some ρ4 =>
            rw [ea] at ec3
            dsimp only at ec3
            cases et : ft ρ4 with
            | none => rw [et] at ec3; cases ec3
            | some rt =>
              cases rt with
              | ex x ρ5 => rw [et] at ec3; cases ec3
              | ok b ρ5 =>
                rw [et] at ec3
                obtain ⟨u0, ha1, av, hu, ha2⟩ := fr3.at_
                subst hu
                refine .inr ⟨ok'.go i d H3 e1 (s3.sb I3.sub), fun H' => ∃ ρ F acc, acc.length ≤ i + 1 ∧ Same F1 F ∧ SI K B (L2.wipe σ vs) ρ F H' ∧ FreshO K B (L2.wipe σ vs) ρ F H' D (.dk acc) ∧ compK as ft fk fv vs ds acc ρ = some (.ok l ρ'), fun H' ⟨ρ6, F6, acc6, t1, t2, t3, t4, t5⟩ => ⟨m - 1, by omega, by omega, ρ6, F6, acc6, t1, t2, t3, t4, by rw [e2]; exact t5⟩, fun x H4 y => ?_⟩
                obtain ⟨F4, t1, t2, t3, t4, t5⟩ := ok'.yld i d F3 H3 H4 x e1 s3 I3.sub y
                have I4 := (I3.shieldO fr3 ha1).grow t1 t2 t3 t4
                refine ⟨B.withO D (.dK av), ρ3, F4, d, ρ4, I4, t5, ea, fun σ5 I5 l5 k5 => ?_⟩
                have w5 : L2.wipe σ5 vs = L2.wipe σ vs := by
                  rw [← wipe_wipe σ vs]
                  exact wipe_same (ws := ws) l5 k5 hw
                refine ⟨w5, B.withO D (.dK av), ρ4, F4, I5, _, et, fun b' ρ6 qe k F6 H6 s6 I6 ek => ?_, fun x ρ6 qe => by cases qe⟩
                cases qe
                rw [show k = b from ek]
                have ha2' : KR K F6 av acc := kr_up s6 (kr_up t1 ha2)
                have leave : ∀ {ρ7 : Ev} {F7 H7 : Hp}, Same F6 F7 → SI K (B.withO D (.dK av)) σ5 ρ7 F7 H7 → SI K B (L2.wipe σ vs) (wipeE ρ7 vs) F7 H7 ∧ FreshO K B (L2.wipe σ vs) (wipeE ρ7 vs) F7 H7 D (.dk acc) ∧ H7 D = some (.dK av) := fun {ρ7 F7 H7} s7 I7 => by
                  have I8 := I7.wipe vs
                  rw [w5] at I8
                  exact I8.unshieldO ⟨av, rfl, kr_up s7 ha2'⟩ fr3.fN fF I3.pn fun xs e => by cases e
                cases b with
                | false =>
                  rw [if_neg (by decide)]
                  obtain ⟨u1, u2, _⟩ := leave (Same.refl _) I6
                  exact ⟨_, F6, acc, by omega, (s3.trans t1).trans s6, u1, u2, ec3⟩
                | true =>
                  rw [if_pos rfl]
                  dsimp only at ec3
                  cases ee : fk ρ5 with
                  | none => rw [ee] at ec3; cases ec3
                  | some re =>
                    cases re with
                    | ex x ρ7 => rw [ee] at ec3; cases ec3
                    | ok yd ρ7 =>
                      rw [ee] at ec3
                      dsimp only at ec3
                      cases ev : fv ρ7 with
                      | none => rw [ev] at ec3; cases ec3
                      | some rv =>
                        cases rv with
                        | ex x ρ8 => rw [ev] at ec3; cases ec3
                        | ok zd ρ8 =>
                          rw [ev] at ec3
                          dsimp only at ec3
                          cases ky : keyD yd with
                          | none => rw [ky] at ec3; cases ec3
                          | some kk =>
                            rw [ky] at ec3
                            dsimp only at ec3
                            refine ⟨B.withO D (.dK av), ρ5, F6, I6, _, ee, fun y' ρ9 qe yv F7 H7 s7 I7 ry => ?_, fun x ρ8 qe => by cases qe⟩
                            cases qe
                            refine ⟨B.withO D (.dK av), ρ7, F7, I7, _, ev, fun z' ρ10 qe zv F8 H8 s8 I8 rz => ?_, fun x ρ8 qe => by cases qe⟩
                            cases qe
                            obtain ⟨u1, u2, u3⟩ := leave (s7.trans s8) I8
                            obtain ⟨u4, u5⟩ := u1.rewriteO u2 (u := .dK (putK av kk zv)) (o' := .dk (setK acc kk zd)) ⟨_, rfl, kr_put (kr_up (s7.trans s8) ha2') rz⟩
                            refine ⟨av, kk, key_of ky ry, u3, by rw [Paired.length ha2]; omega, _, F8, setK acc kk zd, ?_, (((s3.trans t1).trans s6).trans s7).trans s8, u4, u5, ec3⟩
                            have := setK_len acc kk zd
                            omega
  · cases er
theorem dck_read {K : PySem.W.Frag} {mg : Str → Option Value} {ws : List Nat} {σ : L2.St} {H : Hp} {Q : VK} (hw : ∀ j ∈ ws, j ∈ vs) (h : tR K mg W (rOd K) (eDc fl as ft fk fv vs) σ H Q) :
    tDc (tR K mg W (rI rw K) fl) (tG rw K as ws) (tR K mg WX0 rB ft) (tR K mg WX0 (rD K) fk) (tR K mg WX0 (rD K) fv) vs σ H Q := by
  obtain ⟨B, ρ, F, I, h⟩ := h
  exact ⟨B, ρ, F, I, h.bind fun items ρ1 J F1 H1 a1 I1 ok q1 => dck_core hw I1 (show ItOk rw K F1 J items from ok) q1⟩
theorem eo_dc {rw : Bool} {vs : List Nat} (hc : X.calm = true) (hN : X.N.Nodup) (hi : IV X W tg it fl rw) (ok : BlkOk X.N X.env.scope scope own) {ws : List Nat} (hg : ∀ s H C cl fp, GV (blkX X scope s H C cl fp) tg as ws rw) (ht : ∀ s H C cl fp, CV (blkX X scope s H C cl fp) ifs ft)
    (hk : ∀ s H C cl fp, EV (blkX X scope s H C cl fp) WX0 kx fk) (he : ∀ s H C cl fp, EV (blkX X scope s H C cl fp) WX0 vx fv) (hvs : own.map (·.2) = vs := by rfl) (hw : ∀ j ∈ ws, j ∈ vs := by decide) (hs : ∀ x, foldedSetIterable it X.env x = pure x := by intro _; rfl) : EO X W (.DictComp kx vx [⟨tg, it, ifs, 0⟩] scope pos) (eDc fl as ft fk fv vs) := by
  subst hvs
  exact (pe_dc hc hN hi ok hg ht hk he hs).imp fun _ _ _ q => dck_read hw q
/-- name = {..}, on one line, the name a local -/
theorem ps_setDc {i : Nat} {y : Str} {py : Pos} {spos : Pos} {wi : TI} {g : TG} {tt : TT} {tk tv : TE} (hc : X.calm = true) (hN : X.N.Nodup) (hy : X.N[i]? = some y) (hyl : X.env.scope.names.lookup y = some .local)
    (hsw : swapsWith (.DictComp kx vx [⟨tg, it, ifs, 0⟩] scope pos) (some (.Name y py)) spos.line X.env = pure true) (hi : PI X tg it wi) (ok : BlkOk X.N X.env.scope scope own)
    (hg : ∀ s H C cl fp, PG (blkX X scope s H C cl fp) tg g) (ht : ∀ s H C cl fp, PTs (blkX X scope s H C cl fp) ifs tt) (hk : ∀ s H C cl fp, PE (blkX X scope s H C cl fp) kx tk) (he : ∀ s H C cl fp, PE (blkX X scope s H C cl fp) vx tv) (hs : ∀ x, foldedSetIterable it X.env x = pure x := by intro _; rfl) :
    PS X (.Assign [.Name y py] (.DictComp kx vx [⟨tg, it, ifs, 0⟩] scope pos) spos) (tAsg (tDc wi g tt tk tv (own.map (·.2))) (gName i)) := by
  refine ⟨fun pins s σ H D I h => ?_⟩; rw [exec_Assign_Name_used _ _ _ _ hsw]
  refine wpAny_bind (wpAny_standAt (wpAny_bind ?_)); show wpAny _ X.A (do let _ ← comprehension (.DictComp kx vx [⟨tg, it, ifs, 0⟩] scope pos) scope X.env (firstIterPos [⟨tg, it, ifs, 0⟩] pos) newDict false (eval it X.env) (some (assign (.Name y py) X.env))) _ _ s
  have h : tDc wi g tt tk tv (own.map (·.2)) σ H (fun x H1 => gName i x σ H1 D.nx) := h
  refine wpAny_bind (thn (dc_core (Qf := fun _ s' => SP X pins D .next s') hc hN I hi ok hg ht hk he hs h fun L C s' m H' I' q hn f => ?_) fun _ s' hq => wpAny_pure (wpAny_pure hq))
  show wpAny _ _ (assign (.Name y py) X.env (.ref L)) _ _ _; refine wpAny_assign_Name (store_ok2 (v := V.ref L) I' hN hy (.inl hyl) rfl (fun s2 I2 ⟨a, sb, ha⟩ => ?_) (.inr hyl))
  obtain ⟨f0, f1, f2, f3, f4, f5⟩ := f; have haC : C ≠ a := by
    rcases ha with z | z <;> first | (rw [z]; exact f1) | exact fun e => f4 y a z e.symm
  refine ⟨m, hn.sameBut sb haC, fun h3 sb3 => ?_⟩; exact ⟨_, H', I2.turned (t' := s2.toks) (fun b o hb e => (sb3.2 b hb).trans e) f0 f1 f3 f4 f5, q⟩
theorem sv_setDc {rw : Bool} {vs : List Nat} (i : Nat) {y : Str} {py spos : Pos} (hc : X.calm = true) (hN : X.N.Nodup) (hi : IV X W tg it fl rw) (ok : BlkOk X.N X.env.scope scope own) {ws : List Nat} (hg : ∀ s H C cl fp, GV (blkX X scope s H C cl fp) tg as ws rw) (ht : ∀ s H C cl fp, CV (blkX X scope s H C cl fp) ifs ft)
    (hk : ∀ s H C cl fp, EV (blkX X scope s H C cl fp) WX0 kx fk) (he : ∀ s H C cl fp, EV (blkX X scope s H C cl fp) WX0 vx fv) (hsw : swapsWith (.DictComp kx vx [⟨tg, it, ifs, 0⟩] scope pos) (some (.Name y py)) spos.line X.env = pure true) (hvs : own.map (·.2) = vs := by rfl) (hw : ∀ j ∈ ws, j ∈ vs := by decide) (hs : ∀ x, foldedSetIterable it X.env x = pure x := by intro _; rfl)
    (hy : X.N[i]? = some y := by rfl) (hyl : X.env.scope.names.lookup y = some .local := by rfl) : SV X W (.Assign [.Name y py] (.DictComp kx vx [⟨tg, it, ifs, 0⟩] scope pos) spos) (sSetOb i (eDc fl as ft fk fv vs)) := by
  subst hvs
  exact (ps_setDc hc hN hy hyl hsw hi ok hg ht hk he hs).imp fun D σ H ⟨B, ρ, F, I, h⟩ => dck_read hw ⟨B, ρ, F, I, h.bind fun d ρ1 v F1 H1 s1 I1 r1 q1 => by
    obtain ⟨a, rfl, fr⟩ := r1
    exact q1.nxt _ F1 H1 (Same.refl _) (I1.setO fr)⟩
theorem sw_trueD {gs : List Comprehension} {pos py : Pos} {y : Str} {l : Nat} {env : Env} (hk : env.scope.kind = .function) (hy : env.scope.names.lookup y = some .local) (hl : (py.line == pos.line) = true)
    (ha : (scope.names.any fun (n, k) => n == y && (k == .local || k == .cell)) = false) : swapsWith (.DictComp kx vx gs scope pos) (some (.Name y py)) l env = pure true := by
  have hb : env.blockKind = .function := by unfold Env.blockKind; rw [hk]; rfl
  unfold swapsWith; simp only [hb, show env.kindOf y = some .local from hy, ha, Expr.pos, hl]; rfl
end
section
variable {P : Program} {w : World} {K : PySem.W.Frag} {mg : Str → Option Value} {base : Heap} {k : Nat} {N ps : List Str} {x : Str} {st : Stmt} {b : M Fl}
theorem calO (D : FnD K mg x st) (S : FnScope N ps (defScope st)) (hB : BindN x st ps)
    (hb : ∀ (f : Addr) (cdv : Value) (A : Around) (outer : List Env) (s : Shared) (H : Hp) (E : XK), Ar (bodyX P w K mg base N x (defScope st) f cdv A outer s H E) (WE1 E) k → PassesOwn (model P w) (A.deeper (envOfC x (defScope st) s.heap.objs.size f cdv)) (envOfC x (defScope st) s.heap.objs.size f cdv) (bodyX P w K mg base N x (defScope st) f cdv A outer s H E).xe →
      BV (bodyX P w K mg base N x (defScope st) f cdv A outer s H E) (WE1 E) (defBody st) b) : Cal P w K mg base (k + 1) x (spO K ps.length (runO ps.length N.length b)) := by
  obtain ⟨f, fd, F, hm⟩ := D.ex
  exact ⟨f, fd, ps, okO F S (hb f), hm, F.kp, F.binds hB⟩
end
end D3

namespace D3
open PySem PySem.Spec PyProof.Rows L2

/-! ### an exception class of the text whose __init__(self, y) says super().__init__(y); self.y = y -/
/-- what __init__ promises -/
def spIni (K : PySem.W.Frag) (C : Addr) (y : Str) : Sp := fun vs H Q _ => ∃ a v, vs = [.ref a, v] ∧ H a = some (exo a C none) ∧ ∀ dx, H dx = none → dx ≠ a → Q .non (upd (upd H dx (exd dx [(y, v)])) a (exo a C (some dx)))
/-- all that the heap behind the top says of C and its __init__ at f -/
structure IniC (P : Program) (K : PySem.W.Frag) (mg : Str → Option Value) (C f : Addr) (fd : FuncData) (y : Str) : Prop where
  T : OexC K C
  ini : PySem.W.findIn K (.ref C) "__init__" = some (some (.ref f))
  tI : PySem.W.typeIn K (.ref f) = some (.type "function")
  noy : PySem.W.findIn K (.ref C) y = some none
  up : PySem.W.ks_superIn K C C "__init__" = some (some (.builtin "ValueError.__init__"))
  sub : PySem.W.subIn K (.ref C) (.type "ValueError") = some true
  mro : PySem.W.mroIn K C (.ref C) = some true
  st : PySem.W.nsIn K PySem.cStatics "thirdparty.any" = some none
  sup : mg "super" = none
  nsup : (P.main.scope.names.lookup ("super" : Str)).isSome = false
  ydb : (y == ("__debug__" : Str)) = false
  ycd : (y == ("__classdict__" : Str)) = false
  fn : ∃ (qual : Str) (params : Arguments) (body : List Stmt) (scope : Scope) (dV kV doc pm ct oc ccl cl : Value) (an od cdd cld : Option Addr) (osl ccs csl : Array (Option Value)) (cda cc : Addr) (ar : Arg) (tl : Array Value) (file : Str) (tf : Tok) (p0 p1 p2 p3 p4 p5 p6 p7 p8 p9 : Pos),
    fd = PySem.W.ksFn "__init__" qual params body scope dV kV doc pm an (.ref cda) ct cc ∧ K.lookup f = some ⟨oc, od, .func fd, osl⟩ ∧ PySem.W.codeIn K (.ref cda) qual = true ∧ NdefX.NScope ["self", y, "__class__"] ["self", y] ["__class__"] scope ∧
    (params.posonlyargs ++ params.args).head? = some ar ∧ ar.arg = "self" ∧ K.lookup cda = some ⟨ccl, cdd, .fields tl, ccs⟩ ∧ tl[2]? = some (.str file tf) ∧ ((P.main.file : Str) == file) = true ∧ K.lookup cc = some ⟨cl, cld, .cell (some (.ref C)), csl⟩ ∧
    scope.names.lookup ("super" : Str) = some .globalImplicit ∧
    (p2.endLine == p4.line) = true ∧ body = [.Expr (.Call (.Attribute (.Call (.Name "super" p0) [] [] p1) "__init__" p2) [.Name y p3] [] p4) p5, .Assign [.Attribute (.Name "self" p6) y p7] (.Name y p8) p9]

section
open PySem.W PySem.Calls
variable {X : Cx} {pins : List (Addr × Obj)} {σ : L2.St} {H : Hp} {s : Shared} {A : Around} {E : Value → Shared → Prop}
/-- the wrapper of ValueError.__init__ is called: nothing of it is told -/
theorem wrap_call {u a C : Addr} {rest : List Value} {Q : Value → Shared → Prop} (T : OexC X.K C) (I : Inv X pins σ H s) (e : H a = some (exo a C none)) (hu : s.heap.get? u = some (kxs_mw "ValueError.__init__" a)) (hl : rest.length ≤ sizeLine)
    (h : ∀ s', Inv X pins σ H s' → Q .none s') : wpAny (model X.prog X.w) A (call (.ref u) rest) Q E s := by
  obtain ⟨nm, q, N, bs, bm, sn, sub, ab, col, dd, k0, k1, k2, k3, k5, hC, hbm⟩ := T.cls
  have hC' := I.kIn _ _ hC
  obtain ⟨t1, hoe⟩ := exo_at I.hok e
  obtain ⟨hp, g, d, t, os⟩ := s
  refine wpAny_call (codeAny_of_tree (show wpAny _ A.in1 (callAny (.ref u) ⟨rest, []⟩) _ _ _ from ?_))
  simp only [callAny]
  refine wpAny_bind (wpAny_load hu ?_)
  dsimp only [kxs_mw]
  refine KFB.if_so (by decide) (wpAny_bind (check_bound_init F.excBase_ValueError.toExcCallFacts hC' hoe rfl ?_))
  refine wpAny_bind (wpAny_pure (wpAny_pure ⟨plainId_quiet F.excBase_ValueError.init.plain _, codeAny_builtin F.excBase_ValueError.initEntry ?_⟩))
  refine exc_init_tree (cls := .ref C) (t0 := t1) (dv := none) (c2 := .none) (c3 := .none) (b4 := .bool false) hoe hl fun h' k hx _ => ?_
  have J := I.write (t' := t) (x := a) (e := a) (o := exo a C none) (by rw [e]; trivial) (.inl rfl) k ⟨_, hx⟩ (exo_ok hx)
  have same : upd H a (exo a C none) = H := funext fun b => by
    by_cases hb : b = a
    · rw [hb, upd_same, e]
    · rw [upd_ne hb]
  rw [same] at J
  exact h _ J
end

section
open PySem.W PySem.Calls
variable {CX : CXT} {P : Program} {w : World} {K : PySem.W.Frag} {mg : Str → Option Value} {base : Heap} {k : Nat} {C f : Addr} {fd : FuncData} {y : Str}
theorem ini_ok (D : IniC P K mg C f fd "reason") : FnOk P w K mg base CX (k + 1) f fd ["self", "reason"] (spIni K C "reason") := by
  obtain ⟨qual, params, body, scope, dV, kV, doc, pm, ct, oc, ccl, cl, an, od, cdd, cld, osl, ccs, csl, cda, cc, ar, tl, file, tf, p0, p1, p2, p3, p4, p5, p6, p7, p8, p9, rfl, lk, hcd, S, hp, har, hcode, hvs, hfile, hcell, hks, hpos, hbody⟩ := D.fn
  refine ⟨fun vs H Q E ⟨a, v, e, _⟩ => by rw [e]; rfl, fun A outer s H args us vs Q E hr e0 hb rv hsp => ?_⟩
  obtain ⟨a, v, rfl, ea, hq⟩ := hsp
  obtain ⟨u0, us', rfl, ru0, rv'⟩ : ∃ u0 us', us = u0 :: us' ∧ RelV (.ref a) u0 ∧ Vals [v] us' := by cases rv with | cons r t => exact ⟨_, _, rfl, r, t⟩
  obtain ⟨u1, rfl, ru1⟩ := vals1 rv'
  obtain rfl : u0 = Value.ref a := ru0
  have KX : K.In s.heap := e0.mod.kin.keeps fun b o e => (e0.bs b o e).1
  have lim : s.heap.NoLimit := e0.mod.nolimit.keeps fun b o e => (e0.bs b o e).1
  let N : NdefX.NF := ⟨"__init__", qual, params, body, scope, [("__class__", cc)], cda⟩
  have yd := D.ydb
  refine ks_codeAny_call_defAt (fd := ksFn "__init__" qual params body scope dV kV doc pm an (.ref cda) ct cc) (body := body) (binds := ([("self" : Str), "reason"] : List Str).zip [Value.ref a, u1]) hr.depth (KX _ _ lk) rfl lim (codeRec_of KX hcd) rfl hb S.nocell (fun z hz => S.par z.1 (List.of_mem_zip hz).1)
    (fun h1 hns kp => ?_) S.co S.gen S.kind
  have cells : NdefX.CellsAt N.cl ["__class__"] [none] s.heap H := by
    have look : ∀ z c, N.cl.lookup z = some c → z = "__class__" ∧ c = cc := fun z c e => by
      by_cases hz : z = ("__class__" : Str)
      · subst hz
        have e' : List.lookup ("__class__" : Str) [(("__class__" : Str), cc)] = some c := e
        simp [List.lookup] at e'
        exact ⟨rfl, e'.symm⟩
      · have e' : List.lookup z [(("__class__" : Str), cc)] = some c := e
        have hb : (z == ("__class__" : Str)) = false := by simpa using hz
        simp [List.lookup, hb] at e'
    have cb : base.get? cc = some ⟨cl, cld, .cell (some (.ref C)), csl⟩ := e0.mod.kin _ _ hcell
    refine ⟨rfl, fun z c e => ?_, fun x z c e1 e2 => (look _ _ e1).1.trans (look _ _ e2).1.symm, fun i z hz => ?_⟩
    · obtain ⟨_, rfl⟩ := look z c e
      exact ⟨(e0.bs _ _ cb).2, _, _, (e0.bs _ _ cb).1, rfl⟩
    · cases i with
      | zero =>
        cases hz
        refine ⟨cc, ?_, fun v hv => by cases hv⟩
        show List.lookup ("__class__" : Str) [(("__class__" : Str), cc)] = some cc
        simp [List.lookup]
      | succ i => cases hz
  have I : Inv (NdefX.ncx CX P w K mg base ["self", "reason", "__class__"] N f A outer s H E) [] (NdefX.startF ["self", "reason", "__class__"] [.ref a, v] [none]) H { s with heap := h1, toks := s.toks + 2 } :=
    NdefX.inv_startN (F := N) S hr.hd e0 rfl (.cons rfl (.cons ru1 .nil)) cells hns kp
  let X := NdefX.ncx CX P w K mg base ["self", "reason", "__class__"] N f A outer s H E
  obtain ⟨nm, q0, Nc, bs, bm, sn, sub, ab, col, dd, k0, k1, k2, k3, k5, hC, hbm⟩ := D.T.cls
  have hcl : clsIn K C = some { name := nm, bases := bs, mro := .ref C :: bm, ns := Nc, qualname := q0, hasDict := true, slotNames := sn, subclasses := sub, abstract := ab, collection := col, hasDel := false } := by unfold clsIn; rw [hC] <;> rfl
  obtain ⟨t1, hoe⟩ := exo_at I.hok ea
  have K1 : K.In h1 := I.kIn
  subst hbody
  show _root_.PySem.wpAt (model P w) (A.deeper (ksEnv qual scope s.heap.objs.size f (.ref cda) cc)) _ (execs _ (ksEnv qual scope s.heap.objs.size f (.ref cda) cc)) _ _ _
  have mp : ∀ (few : Bool) (o : Expr) (env : Env), methodCallPos few o env p2 p4 = pure p4 := fun few o env => by
    unfold methodCallPos
    rw [if_pos (by rw [hpos]; simp)]
  have he : eval (.Call (.Attribute (.Call (.Name "super" p0) [] [] p1) "__init__" p2) [.Name "reason" p3] [] p4) (ksEnv qual scope s.heap.objs.size f (.ref cda) cc) = (do
      let ov ← attributeBase (.Call (.Name "super" p0) [] [] p1) "__init__" (ksEnv qual scope s.heap.objs.size f (.ref cda) cc) (eval (.Call (.Name "super" p0) [] [] p1) (ksEnv qual scope s.heap.objs.size f (.ref cda) cc))
      standAt p2.atName
      let (g, first) ← holding [ov] (getMethod ov "__init__" (do return (← importBound (.Call (.Name "super" p0) [] [] p1) (ksEnv qual scope s.heap.objs.size f (.ref cda) cc)).getD true))
      callWith p4 g first (backTo p4 (starEach [.Name "reason" p3] (ksEnv qual scope s.heap.objs.size f (.ref cda) cc))) []) := by
    show (attributeBase (.Call (.Name "super" p0) [] [] p1) "__init__" (ksEnv qual scope s.heap.objs.size f (.ref cda) cc) (eval (.Call (.Name "super" p0) [] [] p1) (ksEnv qual scope s.heap.objs.size f (.ref cda) cc)) >>= fun ov => standAt p2.atName >>= fun _ => methodCall (.Call (.Name "super" p0) [] [] p1) "__init__" p2 p4 (ksEnv qual scope s.heap.objs.size f (.ref cda) cc) ov 1 (backTo p4 (starEach [.Name "reason" p3] (ksEnv qual scope s.heap.objs.size f (.ref cda) cc))) []) = _
    refine congrArg _ (funext fun ov => congrArg _ (funext fun _ => ?_))
    unfold methodCall
    simp only [mp, pure_bind]
    rfl
  refine ks_wpAt_execs_cons (ks_wpAt_Expr_any (hi := by
    have kd : scope.kind = .function := S.kind
    unfold interactive
    simp [kd]) (ks_wpAt_MethodCall (he := he) (ks_wpAt_super_base (env := ksEnv qual scope s.heap.objs.size f (.ref cda) cc) hks (S.frk _ (by simp)) (by decide) rfl (kp _ _ (KX _ _ lk)) rfl hp rfl (kp _ _ (KX _ _ hcode)) rfl hvs hfile D.nsup ?_)))
  obtain ⟨mb, hb1, hb2⟩ := I.mod.blt
  refine ks_loadName_global S.kind hks (loadGlobal_builtin (env := ksEnv qual scope s.heap.objs.size f (.ref cda) cc) (I.mod.glob.keeps I.bk) D.sup (hb1.keeps I.bk) ((hb2 _ (by decide)).trans PyProof.Rows.Boot.super) ⟨rfl, ?_⟩)
  refine wpAny_loadName_free S.kind (S.frk _ (by simp)) rfl ⟨_, kp _ _ (KX _ _ hcell), rfl⟩ ?_
  rw [har]
  have lself : (([("self" : Str), "reason"] : List Str).zip [Value.ref a, u1]).reverse.lookup ("self" : Str) = some (Value.ref a) := NdefX.zip_look (i := 0) (by decide) rfl rfl
  have ly : (([("self" : Str), "reason"] : List Str).zip [Value.ref a, u1]).reverse.lookup ("reason" : Str) = some u1 := NdefX.zip_look (i := 1) (by decide) rfl rfl
  refine wpAny_loadName_local S.kind (S.par _ (by simp)) hns lself ?_
  refine ks_wpAny_isType_cls (K1 _ _ hC) rfl ⟨rfl, ?_⟩
  refine ks_wpAny_call_super (K1 _ _ hC) rfl hoe rfl (fun c e => by cases e) (looks_mroIn K1 D.mro) fun h2 e2 kk2 => ?_
  have K2 : K.In h2 := K1.keeps kk2
  have I0 : InstAt h2 a { cls := .ref C, dict := none, data := .fields #[.ref t1, .none, .none, .none, .bool false, .none] } C none := ⟨kk2 _ _ hoe, rfl, rfl, trivial⟩
  have al : alongIn K "__init__" (((Value.ref C :: bm).dropWhile (· != .ref C)).drop 1) = some (some (.builtin "ValueError.__init__")) := by
    have z := D.up
    unfold ks_superIn at z
    rw [hcl] at z
    exact z
  refine kxs_getMethod kxs_ValueError e2 (looks_opaque K2 D.st) (l₀ := .ref C :: bm) (fun A Q E s k q => wpAny_bind ((looks_clsIn K2 hcl) A _ E s k (wpAny_pure q))) rfl K2 al (I0.type.andThen (looks_subIn K2 D.sub)) (ks_ne K2 I0 hcl) (by decide) ?_
  have kk3 : ∀ b o, h1.get? b = some o → (h2.push (kxs_mw "ValueError.__init__" a)).get? b = some o := fun b o e => Heap.get?_push_of_some _ (kk2 b o e)
  have I3 := I.kept (t' := s.toks + 2 + 1) kk3
  have hns3 : (h2.push (kxs_mw "ValueError.__init__" a)).Ns s.heap.objs.size fun z => (([("self" : Str), "reason"] : List Str).zip [Value.ref a, u1]).reverse.lookup z := by
    obtain ⟨oL, es, ep, hL, r⟩ := hns
    exact ⟨oL, es, ep, kk3 _ _ hL, r⟩
  have hmw : (h2.push (kxs_mw "ValueError.__init__" a)).get? h2.objs.size = some (kxs_mw "ValueError.__init__" a) := Heap.get?_push_at rfl rfl
  show wpAny _ _ (callWith p4 (.ref h2.objs.size) [] (backTo p4 (starEach [.Name "reason" p3] (ksEnv qual scope s.heap.objs.size f (.ref cda) cc))) []) _ _ _
  refine kxs_callWith (i := "ValueError.__init__") (x := a) rfl (evalArgs_plain (show wpAny _ _ (spliced (backTo p4 (starEach [.Name "reason" p3] (ksEnv qual scope s.heap.objs.size f (.ref cda) cc)))) _ _ _ from PyProof.Rows.args_cons (wpAny_Name (wpAny_loadName_local S.kind (S.par _ (by simp)) hns3 ly (PyProof.Rows.args_nil ⟨hmw, ?_⟩)) (by decide)) rfl))
  refine wrap_call (X := X) D.T I3 ea hmw (by rw [sizeLine_eq]; simp) fun s4 I4 => ?_
  have hN0 : X.N[0]? = some ("self" : Str) := rfl
  have hN1 : X.N[1]? = some ("reason" : Str) := rfl
  have v0 : Vis X.env.scope ("self" : Str) := .inl (S.par _ (by simp))
  have v1 : Vis X.env.scope ("reason" : Str) := .inl (S.par _ (by simp))
  have fin := (pss_one (ps_ost (X := X) (f := "reason") (p' := p7) (pos := p9) (pe_var (pos := p6) hN0 v0) (pe_var (pos := p8) hN1 v1))).run [] s4 _ H { nx := fun _ H' => Q .non H', rt := Q } I4
    ⟨v, rfl, .ref a, rfl, a, C, rfl, D.T, D.noy, .inl ⟨ea, hq⟩⟩
  refine wpAt_of_wpAny (wpAny_mono fin (fun fl s' hs => ?_) fun e s' hs => hs)
  cases fl with
  | next =>
    obtain ⟨σ', H', J, q⟩ := hs
    exact ⟨.non, H', J.os, J.bare, J.base, J.hok, rfl, q⟩
  | ret u =>
    obtain ⟨v', σ', H', J, r, q⟩ := hs
    exact ⟨v', H', J.os, J.bare, J.base, J.hok, r, q⟩
  | brk => obtain ⟨_, _, _, q⟩ := hs; exact q.elim
  | cont => obtain ⟨_, _, _, q⟩ := hs; exact q.elim
end
end D3

namespace D3
open PySem PySem.Spec PyProof.Rows L2

/-- such a class under its name -/
structure IniD (P : Program) (K : PySem.W.Frag) (mg : Str → Option Value) (x : Str) : Prop where
  ex : ∃ C f fd, IniC P K mg C f fd "reason" ∧ mg x = some (.ref C) ∧ Binds K fd ["self", "reason"] [] ∧ PySem.W.exmOne K (.ref C) (.ref C) = some true ∧ XfC K C
/-- raise c("..") -/
def sRaiseF (c f : Str) (d : PyData) : M Fl := fun ρ => some (.ex ⟨c, [(f, d)]⟩ ρ)
theorem new_xd {H : Hp} {a dx : Addr} {u v : HO} {w w' : HO} (ha : H a = none) (hd : dx ≠ a) : upd (del (upd (upd (upd H a u) dx v) a w) a) dx w' = upd H dx w' := funext fun b => by
  by_cases h1 : b = dx
  · rw [h1, upd_same, upd_same]
  · rw [upd_ne h1, upd_ne h1]
    by_cases h2 : b = a
    · rw [h2, del_same, ha]
    · rw [del_ne h2, upd_ne h2, upd_ne h1, upd_ne h2]
/-- nothing is let out -/
abbrev CX0f : CXT := fun _ _ _ _ _ _ => False
section
variable {X : Cx} {W : WX} {k : Nat} {x m : Str} {j : Nat} {p p2 pos cpos : Pos}
theorem sv_raiseF (A : Ar X W k) (hk : 2 ≤ k) (D : IniD X.prog X.K X.mg x) (hg : Gl X x) (hdb : (x == ("__debug__" : Str)) = false := by decide) : SV X W (.Raise (some (.Call (.Name x p) [.Constant (.str m) j p2] [] cpos)) none pos) (sRaiseF x "reason" (.str m)) := by
  obtain ⟨C, f, fd, IC, hm, hb, _⟩ := D.ex
  have hnx : Passes CX0f X (fun _ _ _ => False) := fun _ _ _ _ _ _ _ z => z.elim
  have mk := pmk_oex (X := X) (p := p) (pos := cpos) (ds := []) (dvs := []) IC.T IC.ini IC.tI (ini_ok (CX := CX0f) (P := X.prog) (w := X.w) (base := X.base) (k := 0) IC) (A.room.mono hk) hb .nil hnx hg hm (pa_cons (pe_str (x := m) (j := j) (pos := p2)) pa_nil) hdb
  refine (ps_raise A.calm A.tk mk).imp fun D σ H ⟨B, ρ, F, I, r, er, h1, h2⟩ => ?_
  cases er
  refine ⟨by simp, fun a ha => ⟨a, .str m, rfl, upd_same, fun dx hd hne => ⟨rfl, dx, [("reason", .str m)], upd_same, ?_, ?_, ?_⟩⟩⟩
  · rw [upd_ne hne, upd_same]
  · rwa [upd_ne hne] at hd
  · rw [upd_ne hne] at hd
    have e := new_xd (u := exo a C none) (v := exd dx [("reason", V.str m)]) (w := exo a C (some dx)) (w' := .xd [("reason", V.str m)]) ha hne
    rw [e]
    obtain ⟨I2, s2⟩ := I.put (.xd [("reason", .str m)]) hd trivial
    refine h2 _ ρ rfl (.ref C) (some dx) σ _ _ s2 I2 ⟨C, hm, rfl, .inr ⟨dx, _, rfl, upd_same, fun g e he => ?_⟩⟩
    have he' : List.lookup g [(("reason" : Str), PyData.str m)] = some e := he
    by_cases hg2 : g = ("reason" : Str)
    · subst hg2
      simp [List.lookup] at he'
      subst he'
      exact ⟨.str m, by simp [List.lookup], .str m⟩
    · have hb2 : (g == ("reason" : Str)) = false := by simpa using hg2
      simp [List.lookup, hb2] at he'
end

/-! ### try with several clauses, some of them naming the exception -/
abbrev SuT := Addr → Value → Option Addr → TS
/-- where a suite ends: the name of 'as' (slot i) is gone -/
def Dgone (i : Nat) (D : Ends) : Ends := { nx := fun τ G => D.nx (τ.set i none) G, rt := D.rt, bk := fun τ G => D.bk (τ.set i none) G, ct := fun τ G => D.ct (τ.set i none) G }
def suW (o : Option Nat) (ts : SuT) (D : Ends) (cls : Value) (d : Option Addr) (τ : L2.St) (G : Hp) (a : Addr) : Prop := match o with
  | none => ts a cls d D τ G
  | some i => ts a cls d (Dgone i D) (τ.set i (some (.ref a))) G
def wCl (K : PySem.W.Frag) (Wo : WX) (D : Ends) : List (Value × Option Nat × SuT) → WX
  | [] => Wo
  | (c, o, ts) :: more => fun cls d τ G => ∃ b, PySem.W.exmOne K cls c = some b ∧ (b = true → ∀ a, G a = none → suW o ts D cls d τ G a) ∧ (b = false → wCl K Wo D more cls d τ G)
def asOk (X : Cx) : Option Nat → Option Str → Prop
  | none, none => True
  | some i, some n => X.N[i]? = some n ∧ X.env.kindOf n = some .local
  | _, _ => False
inductive ClOk (X : Cx) : List ExceptHandler → List (Value × Option Nat × SuT) → Prop
  | nil : ClOk X [] []
  | cons {x : Str} {c : Value} {o : Option Nat} {n : Option Str} {ts : SuT} {s0 : Stmt} {su : List Stmt} {np p' : Pos} {hds : List ExceptHandler} {l : List (Value × Option Nat × SuT)} (hc : Names X x c) (ha : asOk X o n)
      (hsu : ∀ (a : Addr) (oe : Obj) (cls : Value) (d : Option Addr) (pn : List (Addr × Obj)), Zc cls d oe → (∃ vs, oe.data = .fields vs) → PSs (X.suite a ((a, oe) :: pn)) (s0 :: su) (ts a cls d)) (more : ClOk X hds l) :
      ClOk X (.ExceptHandler (some (.Name x np)) n (s0 :: su) p' :: hds) ((c, o, ts) :: l)
section
variable {X : Cx} {body : List Stmt} {h0 : ExceptHandler} {hds : List ExceptHandler} {l : List (Value × Option Nat × SuT)} {pos : Pos} {tb : WX → TS} {Wo : WX}
/-- an exception in flight that no clause takes goes on -/
theorem pass_on {pins : List (Addr × Obj)} {D : Ends} {a : Addr} {cls : Value} {d : Option Addr} {B h3 : Heap} {s1 : Shared} (hs : X.stack = X.env :: X.outer) (hf : X.env.frame = some X.env.locals) (tk : Takes X Wo)
    (fl : HandSPX.FlyingZ B (X.env :: X.outer) a (Zc cls d) h3)
    (xe : ∀ h4, HandSPX.HeldZ B (X.env :: X.outer) a (Zc cls d) X.env.locals h4 → h3.UpToSlots h4 → XE X Wo (.ref a) { s1 with heap := h4 }) : wpAny (model X.prog X.w) X.A (handleBy (.ref a) X.env []) (SP X pins D) X.xe { s1 with heap := h3 } := by
  refine wpAny_handleBy_nil ?_
  obtain ⟨_, _, _, oe, vs, T, oT, us, q1, q2, q3, q4, _⟩ := id fl
  unfold PySem.passOn
  refine wpAny_bind (wpAny_field q1 q3 q4 ?_)
  rw [if_neg (by simp : ¬ ((Value.ref T == Value.none) = true))]
  have go : wpAny (model X.prog X.w) X.A (setFlight (.ref a) X.env.frame) (fun _ s4 => wpAny (model X.prog X.w) X.A (throw (.ref a) : Sem Flow) (SP X pins D) X.xe s4) X.xe { s1 with heap := h3 } := by
    rw [hf]
    exact HandSPX.setFlight_upZ fl fun h4 k1 k2 => wpAny_throw (tk _ _ (xe h4 k1 k2))
  first | exact wpAny_bind (wpAny_pure (wpAny_bind go)) | exact wpAny_bind go

theorem ps_tryM (hs : X.stack = X.env :: X.outer) (hf : X.env.frame = some X.env.locals) (hN : X.N.Nodup) (tk : Takes X Wo) (hh : ClOk X (h0 :: hds) l)
    (hb : ∀ (W : WX) (pn : List (Addr × Obj)) (xe : Value → Shared → Prop), Takes (X.tr pn xe) W → PassesOwn (model X.prog X.w) X.A X.env xe → PSs (X.tr pn xe) body (tb W)) : PS X (.Try body (h0 :: hds) [] [] pos) (fun D τ G => tb (wCl X.K Wo D l) D τ G) := by
  refine ⟨fun pins s τ0 G0 D I h => wpAny_Try_except (wpAny_mono ((hb (wCl X.K Wo D l) (X.pn ++ pins) (fun e s1 => wpAny (model X.prog X.w) X.A (noteFrame e X.env) (fun _ s2 => wpAny (model X.prog X.w) X.A (setFlight e none) (fun _ s3 =>
    wpAny (model X.prog X.w) X.A (handleBy e X.env (h0 :: hds)) (SP X pins D) X.xe s3) X.xe s2) X.xe s1) (fun v t xx => ?_) PassesOwn.looking).run [] s τ0 G0 D (I.toTry _) h) (fun fl t hsp => ?_) fun e t he => he)⟩
  · obtain ⟨a, B, sI, ps', τ, G, cls, d, rfl, J0, nb, up, sky, na, os, ag, wx⟩ := xx
    have ok := I.ok
    have J : Inv X pins τ G sI := J0.ofTry ok
    have hfr : X.A.frames = some (X.env :: X.outer) := ok.frames.trans (by rw [hs])
    have sky' : Sky B (X.env :: X.outer) a (Zc cls d) X.env.locals t.heap := hs ▸ sky
    refine Sky.land Zc.steady hfr hf sky' fun h3 fl3 up3 => ?_
    have lands : ∀ h4, HandSPX.FlyingZ B (X.env :: X.outer) a (Zc cls d) h4 → h3.UpToSlots h4 → ∃ oe, Inv (X.suite a ((a, oe) :: (X.pn ++ pins))) [] τ G { t with heap := h4 } ∧ Inv X pins τ G { t with heap := h4 } ∧ Zc cls d oe ∧ (∃ vs, oe.data = .fields vs) ∧ h4.get? a = some oe := fun h4 f4 u4 => by
      have J4 : Inv X pins τ G { t with heap := h4 } := J.landed nb f4.1 ((up.trans up3).trans u4) os ag
      obtain ⟨oe, vs, q1, q2, q3⟩ := f4.there
      have nfr : a ∉ frs (X.env :: X.outer) := fun hm => by
        obtain ⟨_, o', e', hnf⟩ := f4.2.2.1.mem hm
        rw [q1] at e'
        cases e'
        exact hnf _ q3
      refine ⟨oe, J4.suite q1 q3 na (fun z => nfr (List.mem_filterMap.mpr ⟨X.env, .head _, by rw [hf, z]⟩)) (fun hm => ?_), J4, q2, ⟨vs, q3⟩, q1⟩
      obtain ⟨e, h1, h2⟩ := List.mem_filterMap.mp hm
      exact nfr (List.mem_filterMap.mpr ⟨e, .tail _ h1, h2⟩)
    obtain ⟨oe3, S3, J3, hz3, _, he3⟩ := lands h3 fl3 fun b o e _ => ⟨o.slots, e⟩
    have go : ∀ {hs' : List ExceptHandler} {l' : List (Value × Option Nat × SuT)}, ClOk X hs' l' → wCl X.K Wo D l' cls d τ G → wpAny (model X.prog X.w) X.A (handleBy (.ref a) X.env hs') (SP X pins D) X.xe { t with heap := h3 } := by
      intro hs' l' hk
      induction hk with
      | nil => exact fun w => pass_on hs hf tk fl3 fun h4 k1 k2 => ⟨a, B, sI, pins, τ, G, cls, d, rfl, J, nb, (up.trans up3).trans k2, .inr (.inr (by rw [hs]; exact k1)), na, os, ag, w⟩
      | @cons x c o n ts s0 su np p' hds2 l2 hc ha hsu more ih =>
        rintro ⟨b, hb1, hyes, hno⟩
        refine wpAny_handleBy_cons (codeAny_handlers_test ?_) (by intro q; cases q)
        have hm := PySem.W.exm_one (M := model X.prog X.w) J3.kIn (show PySem.W.Looks (model X.prog X.w) h3 (typeOf (.ref a)) cls from fun _ _ _ _ k q => wpAny_typeOf_ref (k _ _ he3) (by rw [hz3.1]; exact q)) hb1
        have look : ∀ {Q E : Value → Shared → Prop}, Q c { t with heap := h3 } → wpAny (model X.prog X.w) (X.A.mark (some (.ref a))) (eval (.Name x np) X.env) Q E { t with heap := h3 } := fun {Q E} q => by
          obtain ⟨g1, g2, g3 | ⟨g3, g4, g5⟩⟩ := hc
          · exact ld_glob (X := X.suite a ((a, oe3) :: (X.pn ++ pins))) S3 g1 g3 q g2
          · exact ld_blt (X := X.suite a ((a, oe3) :: (X.pn ++ pins))) S3 g1 g3 g4 q g5 g2
        refine look (hm.here ?_)
        cases b with
        | false => exact ih (hno rfl)
        | true =>
          have w := hyes rfl a na
          cases o with
          | none =>
            cases n with
            | some n => exact ha.elim
            | none =>
              refine codeAny_handlers_suite (HandSPX.lands_againZ fl3 fun h4 f4 u4 => ?_)
              obtain ⟨oe4, S4, J4, hz4, hd4, _⟩ := lands h4 f4 u4
              refine wpAny_mono ((hsu a oe4 cls d (X.pn ++ pins) hz4 hd4).run [] _ _ G _ S4 w) (fun f t6 hsp => ?_) (fun _ _ z => z.elim)
              cases f with
              | next => obtain ⟨τ6, G6, S6, q6⟩ := hsp; exact ⟨_, _, S6.unsuite ok, q6⟩
              | brk => obtain ⟨τ6, G6, S6, q6⟩ := hsp; exact ⟨_, _, S6.unsuite ok, q6⟩
              | cont => obtain ⟨τ6, G6, S6, q6⟩ := hsp; exact ⟨_, _, S6.unsuite ok, q6⟩
              | ret u => obtain ⟨v6, τ6, G6, S6, r6, q6⟩ := hsp; exact ⟨_, _, _, S6.unsuite ok, r6, q6⟩
          | some i =>
            cases n with
            | none => exact ha.elim
            | some n =>
              refine codeAny_handlers_suite_as (HandSPX.lands_againZ fl3 fun h4 f4 u4 => ?_)
              obtain ⟨oe4, S4, J4, hz4, hd4, _⟩ := lands h4 f4 u4
              refine store_ok (X := X.suite a ((a, oe4) :: (X.pn ++ pins))) (v := .ref a) S4 hN ha.1 (.inl ha.2) rfl (fun t5 S5 => ?_) (.inr ha.2)
              refine wpAny_mono ((hsu a oe4 cls d (X.pn ++ pins) hz4 hd4).run [] t5 _ G _ S5 w) (fun f t6 hsp => ?_) (fun _ _ z => z.elim)
              have bye : ∀ {τ6 : L2.St} {G6 : Hp} {Q : Shared → Prop}, Inv (X.suite a ((a, oe4) :: (X.pn ++ pins))) [] τ6 G6 t6 → (∀ t7, Inv X pins (τ6.set i none) G6 t7 → Q t7) → wpAny (model X.prog X.w) X.A (do bindName X.env n .none; unbindBehindTheSuite X.env n p') (fun _ t7 => Q t7) X.xe t6 :=
                fun {τ6 G6 Q} S6 hq => gone_ok (S6.unsuite ok) hN ha.1 ha.2 hq
              cases f with
              | next => obtain ⟨τ6, G6, S6, q6⟩ := hsp; exact bye S6 fun t7 J7 => ⟨_, _, J7, q6⟩
              | brk => obtain ⟨τ6, G6, S6, q6⟩ := hsp; exact bye S6 fun t7 J7 => ⟨_, _, J7, q6⟩
              | cont => obtain ⟨τ6, G6, S6, q6⟩ := hsp; exact bye S6 fun t7 J7 => ⟨_, _, J7, q6⟩
              | ret u => obtain ⟨v6, τ6, G6, S6, r6, q6⟩ := hsp; exact bye S6 fun t7 J7 => ⟨_, _, _, J7, r6, q6⟩
    exact go hh wx
  · cases fl with
    | next => obtain ⟨τ, G, J, q⟩ := hsp; exact wpAny_execs_nil ⟨τ, G, J.ofTry I.ok, q⟩
    | brk => obtain ⟨τ, G, J, q⟩ := hsp; exact ⟨τ, G, J.ofTry I.ok, q⟩
    | cont => obtain ⟨τ, G, J, q⟩ := hsp; exact ⟨τ, G, J.ofTry I.ok, q⟩
    | ret u => obtain ⟨v, τ, G, J, r, q⟩ := hsp; exact ⟨v, τ, G, J.ofTry I.ok, r, q⟩
end
end D3

namespace D3
open PySem PySem.Spec PyProof.Rows L2

theorem PR.up {K : PySem.W.Frag} {F F' H H' : Hp} {d : PyData} {Q : VK} (h : PR K F H d Q) (sF : Same F F') (sH : Same H H') (nw : ∀ a o, F' a = some o → F a = none → H a = none) : PR K F' H' d Q := fun v F2 H2 s1 s2 s3 n2 r => h v F2 H2 (sF.trans s1) s2 (sH.trans s3) (fun a o e e0 => by
  cases q : F' a with
  | some u => exact nw a u q e0
  | none => exact sH.free (n2 a o e q)) r
/-! ### what an except suite says of the caught exception -/
/-- e, in the suite of 'except .. as' (slot i): a value of the exception's fields -/
def SE (X : Cx) (i : Nat) (e : Expr) (fx : XV → Option PyData) : Prop := ∀ (a : Addr) (oe : Obj) (cls : Value) (d : Option Addr) (pn : List (Addr × Obj)), Zc cls d oe → (∃ vs, oe.data = .fields vs) →
  PE (X.suite a ((a, oe) :: pn)) e fun σ H Q => ∃ F x r, Sb F H ∧ σ[i]? = some (some (.ref a)) ∧ XOk X.K X.mg F x cls d ∧ fx x = some r ∧ PR X.K F H r Q
def xAdd (f g : XV → Option PyData) : XV → Option PyData := fun x => match f x, g x with
  | some a, some b => addD a b
  | _, _ => none
def xFld (c f : Str) : XV → Option PyData := fun x => if x.cls = c then x.fs.lookup f else none
def xC (d : PyData) : XV → Option PyData := fun _ => some d
section
variable {X : Cx} {i j : Nat} {a b e : Expr} {f g : XV → Option PyData} {n m c : Str} {p pos : Pos}
theorem se_str : SE X i (.Constant (.str m) j pos) (xC (.str m)) := fun a oe cls d pn _ _ => pe_str.imp fun σ H Q ⟨F, x, r, s, _, _, e, q⟩ => by
  cases e
  exact q.here s (.str m)
theorem se_add (h1 : SE X i a f) (h2 : SE X i b g) : SE X i (.BinOp a .Add b pos) (xAdd f g) := fun ad oe cls d pn hz hf => (pe_op (opd_add (X := X.suite ad ((ad, oe) :: pn))) (h1 ad oe cls d pn hz hf) (h2 ad oe cls d pn hz hf)).imp fun σ H Q ⟨F, x, r, s, es, xo, er, q⟩ => by
  unfold xAdd at er
  cases e1 : f x with
  | none => rw [e1] at er; cases er
  | some u =>
    cases e2 : g x with
    | none => rw [e1, e2] at er; cases er
    | some w =>
      rw [e1, e2] at er
      refine ⟨F, x, u, s, es, xo, e1, fun v F1 H1 s1 s2 s3 n1 r1 => ⟨F1, x, w, s2, es, xo.up s1, e2, fun v2 F2 H2 t1 t2 t3 n2 r2 => ⟨F2, u, w, r, t2, .inl (dp_up t1 r1), .inl r2, er, ?_⟩⟩⟩
      refine q.up (s1.trans t1) (s3.trans t3) fun b o z z0 => ?_
      cases q1 : F1 b with
      | some y => exact n1 b y q1 z0
      | none => exact s3.free (n2 b o z q1)
theorem se_fld (hN : X.N[i]? = some n) (hv : Vis X.env.scope n) (D : IniD X.prog X.K X.mg c) (hd : (n == ("__debug__" : Str)) = false := by decide) (hcd : (n == ("__classdict__" : Str)) = false := by decide)
    (hb : attributeBase (.Name n p) "reason" X.env (eval (.Name n p) X.env) = eval (.Name n p) X.env := by rfl) : SE X i (.Attribute (.Name n p) "reason" pos) (xFld c "reason") := fun ad oe cls d pn hz hf => by
  obtain ⟨C, fI, fd, IC, hm, _, _, xf⟩ := D.ex
  refine (pe_xf (X := X) (C := C) xf IC.noy hz hf (pe_var (X := X.suite ad ((ad, oe) :: pn)) hN hv hd hcd) hb).imp fun σ H Q ⟨F, x, r, s, es, xo, er, q⟩ => ?_
  unfold xFld at er
  split at er
  · rename_i hc
    obtain ⟨C', h1, h2, h3⟩ := xo
    rw [hc, hm] at h1
    cases h1
    rcases h3 with h3 | ⟨da, vs, e1, e2, e3⟩
    · rw [h3] at er; cases er
    · obtain ⟨v, k1, k2⟩ := e3 _ _ er
      exact ⟨_, es, rfl, h2, da, vs, v, e1, s.s _ _ e2, k1, q.here s k2⟩
  · cases er
end
/-! ### try, many clauses, on data -/
def xRet (i : Nat) (fx : XV → Option PyData) : XV → M Fl := fun x ρ => match fx x with
  | some d => if i < ρ.length then some (.ok (.rt (.val d)) (ρ.set i .nil)) else none
  | none => none
def xPl (s : M Fl) : XV → M Fl := fun _ => s
def clRun (x : XV) (ρ : Ev) : List ((Str → Option Bool) × (XV → M Fl)) → Option (Rs Fl)
  | [] => some (.ex x ρ)
  | (mt, su) :: r => match mt x.cls with
    | some true => noEx (su x ρ)
    | some false => clRun x ρ r
    | none => none
def sTryM (body : M Fl) (cls : List ((Str → Option Bool) × (XV → M Fl))) : M Fl := fun ρ => match body ρ with
  | some (.ex x ρ1) => clRun x ρ1 cls
  | r => r
/-- a clause's suite -/
inductive ClD (X : Cx) : List ExceptHandler → List ((Str → Option Bool) × (XV → M Fl)) → Prop
  | nil : ClD X [] []
  | plain {x : Str} {c : Value} {mt : Str → Option Bool} {s0 : Stmt} {su : List Stmt} {ss : M Fl} {np p' : Pos} {hds : List ExceptHandler} {l : List ((Str → Option Bool) × (XV → M Fl))} (hc : Names X x c) (hm : Mt X.K X.mg mt c)
      (hs : ∀ (a : Addr) (pn : List (Addr × Obj)), BV (X.suite a pn) WX0 (s0 :: su) ss) (more : ClD X hds l) : ClD X (.ExceptHandler (some (.Name x np)) none (s0 :: su) p' :: hds) ((mt, xPl ss) :: l)
  | as {x n : Str} {c : Value} {mt : Str → Option Bool} {i : Nat} {e : Expr} {fx : XV → Option PyData} {np p' rp : Pos} {hds : List ExceptHandler} {l : List ((Str → Option Bool) × (XV → M Fl))} (hc : Names X x c) (hm : Mt X.K X.mg mt c)
      (hi : X.N[i]? = some n) (hn : X.env.kindOf n = some .local) (he : SE X i e fx) (more : ClD X hds l) : ClD X (.ExceptHandler (some (.Name x np)) (some n) [.Return (some e) rp] p' :: hds) ((mt, xRet i fx) :: l)
section
variable {X : Cx} {W : WX} {body : List Stmt} {h0 : ExceptHandler} {hds : List ExceptHandler} {cl : List ((Str → Option Bool) × (XV → M Fl))} {sb : M Fl} {pos : Pos} {k : Nat}
theorem clD_ok (c : ClD X hds cl) : ∃ l, ClOk X hds l ∧ ∀ (D : Ends) (τ : L2.St) (G F : Hp) (B : Bs) (ρ : Ev) (x : XV) (cls : Value) (d : Option Addr) (r : Rs Fl), SI X.K B τ ρ F G → XOk X.K X.mg F x cls d → clRun x ρ cl = some r →
    (∀ fl ρ', r = .ok fl ρ' → EndOk X.K B ρ' F D fl) → (∀ x ρ', r = .ex x ρ' → ∀ c d σ' F' H', Same F F' → SI X.K B σ' ρ' F' H' → XOk X.K X.mg F' x c d → W c d σ' H') → wCl X.K W D l cls d τ G := by
  induction c with
  | nil => exact ⟨[], .nil, fun D τ G F B ρ x cls d r I xo er _ h2 => by cases er; exact h2 x ρ rfl cls d τ F G (Same.refl _) I xo⟩
  | @plain x c mt s0 su ss np p' hds l hc hm hs more ih =>
    obtain ⟨l', k1, k2⟩ := ih
    refine ⟨(c, none, fun _ _ _ => tS X.K X.mg WX0 ss) :: l', .cons hc trivial (fun a oe cls d pn _ _ => hs a _) k1, fun D τ G F B ρ y cls d r I xo er h1 h2 => ?_⟩
    unfold clRun at er
    cases em : mt y.cls with
    | none => rw [em] at er; cases er
    | some b =>
      rw [em] at er
      obtain ⟨C, g1, rfl, _⟩ := id xo
      refine ⟨b, hm _ _ em C g1, fun hb a _ => ?_, fun hb => ?_⟩
      · subst hb
        dsimp only [xPl] at er
        cases e2 : ss ρ with
        | none => rw [e2] at er; cases er
        | some rs =>
          rw [e2] at er
          cases rs with
          | ex _ _ => cases er
          | ok fl ρ2 => cases er; exact ⟨B, ρ, F, I, _, e2, fun fl ρ' q => by cases q; exact h1 _ _ rfl, fun _ _ q => by cases q⟩
      · subst hb
        exact k2 D τ G F B ρ y _ d r I xo er h1 h2
  | @as x n c mt i e fx np p' rp hds l hc hm hi hn he more ih =>
    obtain ⟨l', k1, k2⟩ := ih
    refine ⟨(c, some i, fun a cls d D σ H => ∃ F x r, Sb F H ∧ σ[i]? = some (some (.ref a)) ∧ XOk X.K X.mg F x cls d ∧ fx x = some r ∧ PR X.K F H r D.rt) :: l', .cons hc ⟨hi, hn⟩ (fun a oe cls d pn hz hf => pss_one ((ps_ret (he a oe cls d pn hz hf)).imp fun D σ H q => q)) k1, fun D τ G F B ρ y cls d r I xo er h1 h2 => ?_⟩
    unfold clRun at er
    cases em : mt y.cls with
    | none => rw [em] at er; cases er
    | some b =>
      rw [em] at er
      obtain ⟨C, g1, rfl, _⟩ := id xo
      refine ⟨b, hm _ _ em C g1, fun hb a _ => ?_, fun hb => ?_⟩
      · subst hb
        dsimp only [xRet] at er
        cases e2 : fx y with
        | none => rw [e2] at er; cases er
        | some v =>
          rw [e2] at er
          by_cases hl : i < ρ.length
          case neg => simp [hl, noEx] at er
          simp only [hl, if_true, noEx] at er
          cases er
          have I2 : SI X.K B (τ.set i (some (.ref a))) (ρ.set i .nil) F G := I.set (i := i) (v := .ref a) (s := .nil) trivial fun o => by cases o
          have hlt : i < τ.length := by rw [← I.len]; exact hl
          exact ⟨F, y, v, I.sub, by rw [List.getElem?_set_self hlt], xo, e2, I2.pr fun u F' H' s1 I3 rv => h1 _ _ rfl u _ F' H' s1 I3 rv⟩
      · subst hb
        exact k2 D τ G F B ρ y _ d r I xo er h1 h2

theorem sv_tryM (A : Ar X W k) (hs : X.stack = X.env :: X.outer) (hf : X.env.frame = some X.env.locals) (hc : ClD X (h0 :: hds) cl)
    (hb : ∀ (W : WX) (pn : List (Addr × Obj)) (xe : Value → Shared → Prop), Ar (X.tr pn xe) W k → PassesOwn (model X.prog X.w) X.A X.env xe → BV (X.tr pn xe) W body sb) : SV X W (.Try body (h0 :: hds) [] [] pos) (sTryM sb cl) := by
  obtain ⟨l, k1, k2⟩ := clD_ok (W := W) hc
  refine (ps_tryM hs hf A.nd A.tk k1 (tb := fun W => tS X.K X.mg W sb) fun W pn xe tk po => hb W pn xe (A.tr tk) po).imp fun D σ H ⟨B, ρ, F, I, r, er, h1, h2⟩ => ?_
  unfold sTryM at er
  cases eb : sb ρ with
  | none => rw [eb] at er; cases er
  | some rb =>
    rw [eb] at er
    cases rb with
    | ok fl ρ1 => cases er; exact ⟨B, ρ, F, I, _, eb, fun fl' ρ' q => (by cases q; exact h1 _ _ rfl), fun x ρ' q => (by cases q)⟩
    | ex x ρ1 =>
      refine ⟨B, ρ, F, I, _, eb, fun fl' ρ' q => (by cases q), fun x' ρ' q c' d σ' F' H' sF I' xo => ?_⟩
      cases q
      exact k2 D σ' H' F' B ρ1 x c' d r I' xo er (fun fl ρ' q => (h1 fl ρ' q).up sF) fun x ρ' q c d σ2 F2 H2 s2 => h2 x ρ' q c d σ2 F2 H2 (sF.trans s2)
end
end D3

namespace D3
open PySem PySem.Spec PyProof.Rows L2

/-- x's exceptions are not taken by a clause of c -/
structure NoX (K : PySem.W.Frag) (mg : Str → Option Value) (x c : Str) : Prop where
  no : ∀ C D, mg x = some (.ref C) → mg c = some (.ref D) → PySem.W.exmOne K (.ref C) (.ref D) = some false
theorem noX_mk {K : PySem.W.Frag} {h : Heap} {mg : Str → Option Value} {x c : Str} {C D : Addr} (X : K.In h) (G : h.Ns mainGlobals mg) (a : PySem.W.nsIn K mainGlobals x = some (some (.ref C))) (a2 : PySem.W.nsIn K mainGlobals c = some (some (.ref D)))
    (h1 : PySem.W.subIn K (.ref D) (.type "BaseException") = some true) (h2 : PySem.W.isClsIn K D = true) (h3 : PySem.W.typeIn K (.ref D) = some (.type "type")) (h4 : PySem.W.subIn K (.ref C) (.ref D) = some false) : NoX K mg x c := ⟨fun C' D' e e' => by
  rw [PySem.W.mg_of X G a] at e
  rw [PySem.W.mg_of X G a2] at e'
  cases e
  cases e'
  exact exm_of h1 h2 h3 h4⟩
/-- a class that a clause may name -/
structure ClN (K : PySem.W.Frag) (mg : Str → Option Value) (x : Str) : Prop where
  ex : ∃ C, mg x = some (.ref C) ∧ PySem.W.exmOne K (.ref C) (.ref C) = some true
theorem ExD.cln {K : PySem.W.Frag} {mg : Str → Option Value} {x : Str} (E : ExD K mg x) : ClN K mg x := let ⟨C, h, e⟩ := E.ex; ⟨C, h.gC, e⟩
theorem IniD.cln {P : Program} {K : PySem.W.Frag} {mg : Str → Option Value} {x : Str} (E : IniD P K mg x) : ClN K mg x := let ⟨C, _, _, _, h, _, e, _⟩ := E.ex; ⟨C, h, e⟩
theorem mt_one {K : PySem.W.Frag} {mg : Str → Option Value} {c : Str} {C : Addr} {no : List Str} (hC : mg c = some (.ref C)) (e : PySem.W.exmOne K (.ref C) (.ref C) = some true) (hno : ∀ y ∈ no, NoX K mg y c) : Mt K mg (mtOne c no) (.ref C) := fun y b hy D hD => by
  unfold mtOne at hy
  split at hy
  · rename_i hyc
    cases hy
    rw [hyc, hC] at hD
    cases hD
    exact e
  · split at hy
    · rename_i hm
      cases hy
      exact (hno y hm).no D C hD hC
    · cases hy
section
variable {X : Cx} {x n : Str} {no : List Str} {i : Nat} {s0 : Stmt} {su : List Stmt} {ss : M Fl} {np p' rp : Pos} {hds : List ExceptHandler} {e : Expr} {fx : XV → Option PyData} {l : List ((Str → Option Bool) × (XV → M Fl))}
theorem cl_pl (E : ClN X.K X.mg x) (hg : Gl X x) (hno : ∀ y ∈ no, NoX X.K X.mg y x) (hs : ∀ (a : Addr) (pn : List (Addr × Obj)), BV (X.suite a pn) WX0 (s0 :: su) ss) (more : ClD X hds l) (hdb : (x == ("__debug__" : Str)) = false := by decide) :
    ClD X (.ExceptHandler (some (.Name x np)) none (s0 :: su) p' :: hds) ((mtOne x no, xPl ss) :: l) := by
  obtain ⟨C, h, e⟩ := E.ex
  exact .plain (c := .ref C) ⟨hg, hdb, .inl h⟩ (mt_one h e hno) hs more
theorem cl_as (i : Nat) (E : ClN X.K X.mg x) (hg : Gl X x) (hno : ∀ y ∈ no, NoX X.K X.mg y x) (he : SE X i e fx) (more : ClD X hds l) (hi : X.N[i]? = some n := by rfl) (hn : X.env.kindOf n = some .local := by rfl) (hdb : (x == ("__debug__" : Str)) = false := by decide) :
    ClD X (.ExceptHandler (some (.Name x np)) (some n) [.Return (some e) rp] p' :: hds) ((mtOne x no, xRet i fx) :: l) := by
  obtain ⟨C, h, e⟩ := E.ex
  exact .as (c := .ref C) ⟨hg, hdb, .inl h⟩ (mt_one h e hno) hi hn he more
end
theorem no_nil {K : PySem.W.Frag} {mg : Str → Option Value} {c : Str} : ∀ y ∈ ([] : List Str), NoX K mg y c := fun _ h => absurd h (by simp)
theorem no_cons {K : PySem.W.Frag} {mg : Str → Option Value} {c y : Str} {l : List Str} (h : NoX K mg y c) (t : ∀ y ∈ l, NoX K mg y c) : ∀ z ∈ y :: l, NoX K mg z c := fun z hz => by
  rcases List.mem_cons.mp hz with rfl | hz
  · exact h
  · exact t z hz
/-- behind the top: such a class -/
theorem iniD_mk {P : Program} {K : PySem.W.Frag} {h : Heap} {mg : Str → Option Value} {x nm q qual : Str} {C f N cda cc : Addr} {bs bm : List Value} {sn : List Str} {sb : List Value} {ab : Bool} {col : Option Bool} {dd od cdd cld an : Option Addr} {k0 k1 k2 k3 k5 : Option Value}
    {oc ccl cl2 doc pm ct : Value} {osl ccs csl : Array (Option Value)} {params : Arguments} {body : List Stmt} {scope : Scope} {ar : Arg} {tl : Array Value} {file : Str} {tf : Tok} {p0 p1 p2 p3 p4 p5 p6 p7 p8 p9 : Pos}
    (X : K.In h) (G : h.Ns mainGlobals mg) (a : PySem.W.nsIn K mainGlobals x = some (some (.ref C)))
    (cl : K.lookup C = some (excClassObj nm q C N bs bm true sn sb ab col dd k0 k1 k2 k3 k5 "ValueError.__new__")) (hbm : PySem.HandSPX.refsVE bm = true) (sa : PySem.W.findIn K (.ref C) "__setattr__" = some (some (.builtin "object.__setattr__")))
    (exC : PySem.W.subIn K (.ref C) (.type "BaseException") = some true) (tyC : PySem.W.typeIn K (.ref C) = some (.type "type")) (kC : PySem.W.keepIn K (.ref C) = true) (ini : PySem.W.findIn K (.ref C) "__init__" = some (some (.ref f)))
    (tI : PySem.W.typeIn K (.ref f) = some (.type "function")) (noy : PySem.W.findIn K (.ref C) "reason" = some none) (up : PySem.W.ks_superIn K C C "__init__" = some (some (.builtin "ValueError.__init__"))) (sub : PySem.W.subIn K (.ref C) (.type "ValueError") = some true)
    (mro : PySem.W.mroIn K C (.ref C) = some true) (st : PySem.W.nsIn K PySem.cStatics "thirdparty.any" = some none) (sup : PySem.W.nsIn K mainGlobals "super" = some none) (nsup : (P.main.scope.names.lookup ("super" : Str)).isSome = false)
    (lk : K.lookup f = some ⟨oc, od, .func (PySem.W.ksFn "__init__" qual params body scope .none .none doc pm an (.ref cda) ct cc), osl⟩) (cd : PySem.W.codeIn K (.ref cda) qual = true) (S : NdefX.nscB ["self", "reason", "__class__"] ["self", "reason"] ["__class__"] scope = true)
    (hp : (params.posonlyargs ++ params.args).head? = some ar) (har : ar.arg = "self") (hcode : K.lookup cda = some ⟨ccl, cdd, .fields tl, ccs⟩) (hvs : tl[2]? = some (.str file tf)) (hfile : ((P.main.file : Str) == file) = true)
    (hcell : K.lookup cc = some ⟨cl2, cld, .cell (some (.ref C)), csl⟩) (hks : scope.names.lookup ("super" : Str) = some .globalImplicit) (hpos : (p2.endLine == p4.line) = true)
    (hbody : body = [.Expr (.Call (.Attribute (.Call (.Name "super" p0) [] [] p1) "__init__" p2) [.Name "reason" p3] [] p4) p5, .Assign [.Attribute (.Name "self" p6) "reason" p7] (.Name "reason" p8) p9])
    (is : PySem.W.isClsIn K C = true) (ss : PySem.W.subIn K (.ref C) (.ref C) = some true) (ga : PySem.W.findIn K (.ref C) "__getattribute__" = some (some (.builtin "BaseException.__getattribute__"))) (gg : PySem.W.findIn K (.ref C) "__getattr__" = some none)
    (hd : PySem.W.hasDictIn K C = true) (bi : ∀ us : List Value, us.length = 2 → bindArgs (PySem.W.ksFn "__init__" qual params body scope .none .none doc pm an (.ref cda) ct cc) ⟨us, []⟩ = pure (([("self" : Str), "reason"] : List Str).zip us)) : IniD P K mg x :=
  ⟨C, f, _, ⟨⟨⟨nm, q, N, bs, bm, sn, sb, ab, col, dd, k0, k1, k2, k3, k5, cl, hbm⟩, sa, exC, tyC, kC⟩, ini, tI, noy, up, sub, mro, st, PySem.W.mg_none_of X G sup, nsup, by decide, by decide,
    ⟨qual, params, body, scope, .none, .none, doc, pm, ct, oc, ccl, cl2, an, od, cdd, cld, osl, ccs, csl, cda, cc, ar, tl, file, tf, p0, p1, p2, p3, p4, p5, p6, p7, p8, p9, rfl, lk, cd, NdefX.nscope_by S, hp, har, hcode, hvs, hfile, hcell, hks, hpos, hbody⟩⟩,
    PySem.W.mg_of X G a, .all bi, exm_of exC is tyC ss, ⟨ga, gg, exC, hd⟩⟩
end D3

namespace D3
open PySem PySem.Spec PyProof.Rows L2

/-! ### set(x), x a tuple of tuples of ints -/
abbrev set0 (w : World) : Obj := { cls := .type "set", dict := none, data := .set #[] 0 (.fresh 0 0 (!w.params.followText "set-order")) }
section
variable {P : Program} {w : World} {A : Around} {E : Value → Shared → Prop} {s : Shared}
set_option maxHeartbeats 3200000 in
theorem set_of_tup {l : Addr} {its : Array Value} (ks : List (Addr × List Int)) {Q : Value → Shared → Prop} (hh : A.handled = none) (hl : s.heap.IsTuple l its) (hit : its.toList = ks.map fun p => Value.ref p.1) (hk : ∀ p ∈ ks, IsT P w s.heap p.2 p.1)
    (hfew : ks.length < 64) (hu : A.units + 3 < cLine)
    (h : ∀ (h' : Heap) (tk : Nat) L es ep t, SetTR P w h' s.heap.objs.size L es ep t → Got ks ks.length L → (∀ b o, s.heap.get? b = some o → h'.get? b = some o) → Q (.ref s.heap.objs.size) { s with heap := h', toks := tk }) : wpAny (model P w) A (call (.type "set") [.ref l]) Q E s := by
  have hsz : its.size = ks.length := by rw [← Array.length_toList, hit, List.length_map]
  obtain ⟨c, tl, hmro⟩ := F.called_set.mro
  have k1 := F.called_set.made
  have k2 := F.called_set.sub
  have k3 := F.called_set.notType
  have k4 := F.called_set.canCreate
  have k5 := F.typeCall_set_1 (.ref l)
  refine wpAny_call (codeAny_of_tree (show wpAny _ _ (callAny (.type "set") _) _ _ _ from wpAny_pure ⟨Code.quiet_builtin _ (by decide +kernel), codeAny_builtin F.entry_type_call ?_⟩))
  rw [Around.under_plain (weight_type_call_type "set" [.ref l] []) rfl]
  repeat (any_goals (first | assumption | wp_step))
  refine codeAny_mono (code_set_led1 (.ref l) (E := E) (Q₁ := fun obj s₁ => obj = .ref s.heap.objs.size ∧ s₁ = { s with heap := s.heap.push (set0 w) }) ⟨rfl, rfl⟩) fun r s₁ hr => ?_
  cases r with
  | error e => exact hr
  | ok fl =>
    cases fl with
    | next => exact hr.elim
    | brk => exact hr.elim
    | cont => exact hr.elim
    | ret obj =>
      obtain ⟨rfl, rfl⟩ := hr
      have hS : (s.heap.push (set0 w)).get? s.heap.objs.size = some (set0 w) := Heap.get?_push_size _ rfl
      have hT : Shared.TypeIs { s with heap := s.heap.push (set0 w) } (.ref s.heap.objs.size) "set" := ⟨_, hS, rfl⟩
      have k6 := F.called_set.init.lookup
      have k7 := F.called_set.init.bind (.ref s.heap.objs.size)
      repeat (any_goals (first | assumption | wp_step))
      refine codeAny_mono (codeAny_call_builtin (R := wants (fun r s₂ => r = .none ∧ ∃ h' tk L es ep t, s₂ = { s with heap := h', toks := tk } ∧ SetTR P w h' s.heap.objs.size L es ep t ∧ Got ks ks.length L ∧ (∀ b o, s.heap.get? b = some o → h'.get? b = some o)) E)
        F.called_set.init.plain F.entry_set_init (check_set_init_1 hT ?_)) fun r₂ s₂ hr₂ => ?_
      · obtain ⟨⟨oc, od, odt, osl⟩, hol, hcl, nl, hdl⟩ := hl
        dsimp only at hcl hdl
        subst hcl hdl
        have hol' : (s.heap.push (set0 w)).get? l = some { cls := .type "tuple", dict := od, data := .seq its nl, slots := osl } := Heap.get?_push_of_some _ hol
        have z1 := F.sub_tuple_set
        have z2 := F.sub_tuple_frozenset
        have z3 : (Value.type "tuple" == Value.type "dict") = false := by decide
        have hl1 : (s.heap.push (set0 w)).IsTuple l its := ⟨_, hol', rfl, nl, rfl⟩
        unfold Builtin.«set.__init__» noKeywords Builtin.Frozenset.updateFrom
        generalize hPI : pyIter = PI
        wp_walk
        subst hPI
        refine wpAny_pyIter_tuple hl1 (wpAny_bind (wpAny_runValue ?_))
        have hlS : l < s.heap.objs.size := Heap.lt_size hol
        have hh3 : A.in1.in1.in1.handled = none := by simp [hh]
        have sz1 : (s.heap.push (set0 w)).objs.size = s.heap.objs.size + 1 := Heap.size_push ..
        have neI : l ≠ (s.heap.push (set0 w)).objs.size := by rw [sz1]; exact Nat.ne_of_lt (Nat.lt_succ_of_lt hlS)
        have hSf : s.heap.objs.size ∉ [(s.heap.push (set0 w)).objs.size, l] := by
          rw [sz1]
          simp only [List.mem_cons, List.not_mem_nil, or_false, not_or]
          exact ⟨Nat.ne_of_lt (Nat.lt_succ_self _), Nat.ne_of_gt hlS⟩
        have hval : ∀ (i : Nat) (v : Value), its[i]? = some v → ∃ p, ks[i]? = some p ∧ v = .ref p.1 := fun i v hv => by
          have q : (ks.map fun p => Value.ref p.1)[i]? = some v := by rw [← hit, Array.getElem?_toList]; exact hv
          rw [List.getElem?_map] at q
          obtain ⟨p, e1, e2⟩ := Option.map_eq_some_iff.mp q
          exact ⟨p, e1, e2.symm⟩
        have none_at : ∀ b, s.heap.objs.size ≤ b → s.heap.get? b = none := fun b hb => Heap.get?_none_of_le hb
        refine set_update_tups ((Walks.tuple hh3 _ l neI its).toS) s.heap.objs.size hSf ks hsz hfew hval s.heap hk (none_at _ (Nat.le_refl _)) (fun b hb => none_at b (by rw [List.mem_singleton.mp hb, sz1]; omega)) hu (its.size - 0) 0 _ (by omega) (Nat.zero_le _)
          ⟨⟨_, Heap.get?_push_size _ rfl, rfl, rfl⟩, hl1.push _⟩ (fun b o e => Heap.get?_push_of_some _ (Heap.get?_push_of_some _ e)) ⟨[], #[], 0, _, setTR_fresh (Heap.get?_push_of_some _ hS), Got.zero ks⟩ fun s' L es ep t hm hS' g' kp => ?_
        obtain ⟨h', g2, d', tk', os'⟩ := s'
        obtain rfl : g2 = s.gens := hm.gens
        obtain rfl : d' = s.drawn := hm.drawn
        obtain rfl : os' = s.os := hm.os
        rw [hsz] at g'
        exact wpAny_pure (wpAny_pure ⟨rfl, h', tk', L, es, ep, t, rfl, hS', g', kp⟩)
      · cases r₂ with
        | error e => exact hr₂
        | ok fl₂ =>
          cases fl₂ with
          | next => exact hr₂.elim
          | brk => exact hr₂.elim
          | cont => exact hr₂.elim
          | ret r =>
            obtain ⟨rfl, h', tk, L, es, ep, t, rfl, hS', g', kp⟩ := hr₂
            repeat (any_goals (first | assumption | wp_step))
            exact h _ _ _ _ _ _ hS' g' kp
end
end D3

namespace D3
open PySem PySem.Spec PyProof.Rows L2

/-! ### the members of a list in ascending order, each once -/
section
variable {α : Type}
def insK (key : α → Int) (x : α) : List α → List α
  | [] => [x]
  | y :: ys => if key x < key y then x :: y :: ys else if key x = key y then y :: ys else y :: insK key x ys
def usortK (key : α → Int) : List α → List α
  | [] => []
  | x :: xs => insK key x (usortK key xs)
theorem mem_insK {key : α → Int} {x z : α} : ∀ {l : List α}, z ∈ insK key x l → z = x ∨ z ∈ l
  | [], h => .inl (by simpa [insK] using h)
  | y :: ys, h => by
    unfold insK at h
    split at h
    · rcases List.mem_cons.mp h with h | h
      · exact .inl h
      · exact .inr h
    · split at h
      · exact .inr h
      · rcases List.mem_cons.mp h with h | h
        · exact .inr (h ▸ .head _)
        · exact (mem_insK h).imp id (.tail _)
theorem insK_mem {key : α → Int} {x z : α} : ∀ {l : List α}, (∀ y ∈ l, key x = key y → x = y) → (z = x ∨ z ∈ l) → z ∈ insK key x l
  | [], _, h => by
    rcases h with rfl | h
    · simp [insK]
    · cases h
  | y :: ys, hi, h => by
    unfold insK
    split
    · rcases h with rfl | h
      · exact .head _
      · exact .tail _ h
    · split
      · rename_i e
        rcases h with rfl | h
        · exact hi y (.head _) e ▸ .head _
        · exact h
      · rcases h with h | h
        · exact .tail _ (insK_mem (fun w hw => hi w (.tail _ hw)) (.inl h))
        · rcases List.mem_cons.mp h with h | h
          · exact h ▸ .head _
          · exact .tail _ (insK_mem (fun w hw => hi w (.tail _ hw)) (.inr h))
theorem insK_asc {key : α → Int} (x : α) : ∀ {l : List α}, l.Pairwise (fun a b => key a < key b) → (insK key x l).Pairwise (fun a b => key a < key b)
  | [], _ => by simp [insK]
  | y :: ys, p => by
    obtain ⟨p1, p2⟩ := List.pairwise_cons.mp p
    unfold insK
    split
    · rename_i h
      refine List.pairwise_cons.mpr ⟨fun z hz => ?_, p⟩
      rcases List.mem_cons.mp hz with rfl | hz
      · exact h
      · have := p1 z hz; omega
    · split
      · exact p
      · rename_i h1 h2
        refine List.pairwise_cons.mpr ⟨fun z hz => ?_, insK_asc x p2⟩
        rcases mem_insK hz with rfl | hz
        · omega
        · exact p1 z hz
theorem usortK_asc {key : α → Int} : ∀ l : List α, (usortK key l).Pairwise (fun a b => key a < key b)
  | [] => .nil
  | x :: xs => insK_asc x (usortK_asc xs)
theorem of_usortK {key : α → Int} {z : α} : ∀ {l : List α}, z ∈ usortK key l → z ∈ l
  | [], h => h
  | x :: xs, h => by
    rcases mem_insK h with rfl | h
    · exact .head _
    · exact .tail _ (of_usortK h)
theorem in_usortK {key : α → Int} {z : α} : ∀ {l : List α}, (∀ a ∈ l, ∀ b ∈ l, key a = key b → a = b) → z ∈ l → z ∈ usortK key l
  | [], _, h => h
  | x :: xs, inj, h => insK_mem (fun y hy e => inj x (.head _) y (.tail _ (of_usortK hy)) e) ((List.mem_cons.mp h).imp id (in_usortK fun a ha b hb => inj a (.tail _ ha) b (.tail _ hb)))
theorem asc_eq {key : α → Int} : ∀ {l m : List α}, l.Pairwise (fun a b => key a < key b) → m.Pairwise (fun a b => key a < key b) → (∀ z, z ∈ l ↔ z ∈ m) → l = m
  | [], [], _, _, _ => rfl
  | [], y :: _, _, _, h => absurd ((h y).mpr (.head _)) (by simp)
  | x :: _, [], _, _, h => absurd ((h x).mp (.head _)) (by simp)
  | x :: xs, y :: ys, p, q, h => by
    obtain ⟨p1, p2⟩ := List.pairwise_cons.mp p
    obtain ⟨q1, q2⟩ := List.pairwise_cons.mp q
    have e : x = y := by
      rcases List.mem_cons.mp ((h x).mp (.head _)) with e | hx
      · exact e
      · rcases List.mem_cons.mp ((h y).mpr (.head _)) with e | hy
        · exact e.symm
        · have := q1 x hx
          have := p1 y hy
          omega
    subst e
    refine congrArg _ (asc_eq p2 q2 fun z => ⟨fun hz => ?_, fun hz => ?_⟩)
    · rcases List.mem_cons.mp ((h z).mp (.tail _ hz)) with e | hz'
      · have := p1 z hz; rw [e] at this; omega
      · exact hz'
    · rcases List.mem_cons.mp ((h z).mpr (.tail _ hz)) with e | hz'
      · have := q1 z hz; rw [e] at this; omega
      · exact hz'
end
def pairsD : List PyData → Option (List (Int × Int))
  | [] => some []
  | .tuple [.int i, .int j] :: ds => (pairsD ds).map ((i, j) :: ·)
  | _ => none
def keyP (p : Int × Int) : Int := p.1 * 64 + p.2
def boxP (p : Int × Int) : Bool := decide (0 ≤ p.1) && decide (p.1 < 64) && decide (0 ≤ p.2) && decide (p.2 < 64)
abbrev dP (p : Int × Int) : PyData := .tuple [.int p.1, .int p.2]
def usortI (l : List Int) : List Int := usortK id l
def usortP (l : List (Int × Int)) : List (Int × Int) := usortK keyP l
theorem boxP_of {p : Int × Int} (h : boxP p = true) : 0 ≤ p.1 ∧ p.1 < 64 ∧ 0 ≤ p.2 ∧ p.2 < 64 := by
  unfold boxP at h
  simp only [Bool.and_eq_true, decide_eq_true_eq] at h
  omega
theorem keyP_inj {p q : Int × Int} (hp : boxP p = true) (hq : boxP q = true) (h : keyP p = keyP q) : p = q := by
  have := boxP_of hp
  have := boxP_of hq
  unfold keyP at h
  exact Prod.ext (by omega) (by omega)
/-- sorted(set(d)) -/
def ssetD : PyData → Option (List PyData)
  | .tuple ds => match intsD ds with
    | some ns => if ns.length < 64 then some ((usortI ns).map .int) else none
    | none => match pairsD ds with
      | some ps => if decide (ps.length < 64) && ps.all boxP then some ((usortP ps).map dP) else none
      | none => none
  | _ => none
/-- len(set(d)) -/
def slenD : PyData → Option PyData
  | .tuple ds => match intsD ds with
    | some ns => if ns.length < 64 then some (.int (usortI ns).length) else none
    | none => none
  | _ => none
section
variable {K : PySem.W.Frag} {F : Hp}
theorem intsD_dp : ∀ {ds : List PyData} {vs : List V} {ns : List Int}, intsD ds = some ns → DpAll K F vs ds → vs = ns.map V.int ∧ ds = ns.map PyData.int
  | [], _, _, h, .nil => by cases h; exact ⟨rfl, rfl⟩
  | d :: ds, _, ns, h, .cons hd t => by
    cases d with
    | int i =>
      unfold intsD at h
      cases e : intsD ds with
      | none => rw [e] at h; cases h
      | some l =>
        rw [e] at h
        cases h
        obtain ⟨e1, e2⟩ := intsD_dp e t
        cases hd
        exact ⟨by rw [e1]; rfl, by rw [e2]; rfl⟩
    | _ => cases h
/-- the pairs' places -/
theorem pairsD_dp : ∀ {ds : List PyData} {vs : List V} {ps : List (Int × Int)}, pairsD ds = some ps → DpAll K F vs ds → ∃ ks : List (Addr × List Int), vs = ks.map (fun p => V.ref p.1) ∧ ks.map (·.2) = ps.map (fun p => [p.1, p.2]) ∧ ∀ p ∈ ks, SqT K F p.1 (p.2.map V.int)
  | [], _, _, h, .nil => by cases h; exact ⟨[], rfl, rfl, by simp⟩
  | d :: ds, _, ps, h, .cons hd t => by
    unfold pairsD at h
    split at h
    · rename_i heq; cases heq
    · rename_i i j ds' heq
      cases heq
      cases e : pairsD ds with
      | none => rw [e] at h; cases h
      | some l =>
        rw [e] at h
        cases h
        obtain ⟨ks, e1, e2, e3⟩ := pairsD_dp e t
        cases hd with
        | @tup a xs _ h1 h2 =>
          cases h2 with
          | cons a1 t1 => cases t1 with
            | cons a2 t2 =>
              cases t2
              cases a1
              cases a2
              refine ⟨(a, [i, j]) :: ks, by rw [e1]; rfl, by rw [List.map_cons, e2]; rfl, fun p hp => ?_⟩
              rcases List.mem_cons.mp hp with rfl | hp
              · exact h1
              · exact e3 p hp
    · cases h
end
end D3

namespace D3
open PySem PySem.Spec PyProof.Rows L2

/-! ### sorted(set(x)), len(set(x)): x a tuple of ints, of pairs of ints -/
/-- set(x) -/
def rSetD (K : PySem.W.Frag) (P : Program) (w : World) : List V → Hp → VK → Prop := fun xs H Q => (∃ (l : Addr) (ns : List Int), xs = [V.ref l] ∧ SqT K H l (ns.map V.int) ∧ ns.length < 64 ∧ ∀ a c, H a = none → c ≤ ns.length → Q (.ref a) (upd H a (SetO w a (fun j => decide (j ∈ ns)) c))) ∨
  (∃ (l : Addr) (ks : List (Addr × List Int)), xs = [V.ref l] ∧ SqT K H l (ks.map fun p => V.ref p.1) ∧ (∀ p ∈ ks, SqT K H p.1 (p.2.map V.int)) ∧ ks.length < 64 ∧ ∀ a L, H a = none → (∀ p ∈ L, p ∈ ks) → (∀ p ∈ ks, p.2 ∈ L.map (·.2)) → Q (.ref a) (upd H a (SetTO P w a L)))
section
variable {X : Cx}
theorem cr_setD (hc : X.calm = true) (hu : X.A.units + 64 < cLine) : CallR X (.type "set") (rSetD X.K X.prog X.w) := by
  intro pins s σ H xs us Q I r h
  have hn : H s.heap.objs.size = none := I.hok.fresh (Nat.le_refl _)
  rcases h with ⟨l, ns, rfl, hq, h64, q⟩ | ⟨l, ks, rfl, hq, hk, h64, q⟩
  · obtain rfl := Vals.ref1 r
    obtain ⟨its, rv, hl, hz⟩ := I.tuple hq
    refine call_set_tupI (P := X.prog) (w := X.w) ns (I.ok.hd hc) hl (by simpa using rv.ints) (by unfold scanBound; omega) fun h' tk c R hc' k => ?_
    exact ⟨.ref s.heap.objs.size, _, I.laid (t' := tk) k (Nat.le_refl _) (setO_new R), rfl, q _ c hn hc'⟩
  · obtain rfl := Vals.ref1 r
    obtain ⟨its, rv, hl, hz⟩ := I.tuple hq
    refine set_of_tup (P := X.prog) (w := X.w) ks (I.ok.hd hc) hl (by simpa using refs_of_vals rv) (fun p hp => I.isT (hk p hp)) h64 (by omega) fun h' tk L es ep t R g k => ?_
    exact ⟨.ref s.heap.objs.size, _, I.laid (t' := tk) k (Nat.le_refl _) (setTO_new R.t0), rfl, q _ L hn (fun p hp => List.mem_of_mem_take (g.sub p hp)) fun p hp => g.all p (by rw [List.take_length]; exact hp)⟩
/-- sorted of such a set -/
def rSrtD (K : PySem.W.Frag) (P : Program) (w : World) : List V → Hp → VK → Prop := fun xs H Q => rSortedSet w xs H Q ∨ rSortedT K P w xs H Q
theorem cr_srtD (hc : X.calm = true) : CallR X (.builtin "sorted") (rSrtD X.K X.prog X.w) := by
  intro pins s σ H xs us Q I r h
  rcases h with h | h
  · exact cr_sortedSet hc pins s σ H xs us Q I r h
  · exact cr_sortedT hc pins s σ H xs us Q I r h
/-- len of a set of ints -/
def rLenD (w : World) : List V → Hp → VK → Prop := fun xs H Q => ∃ (a : Addr) (S : Int → Bool) (n : Nat), xs = [V.ref a] ∧ H a = some (SetO w a S n) ∧ ∀ ks : List Int, ks.Nodup → (∀ k, S k = true ↔ k ∈ ks) → ks.length = n → Q (.int n) H
theorem cr_lenD : CallR X (.builtin "len") (rLenD X.w) := by
  intro pins s σ H xs us Q I r h
  obtain ⟨a, S, n, rfl, ha, q⟩ := h
  obtain rfl := Vals.ref1 r
  obtain ⟨o, es, ep, t, ho, hex, hd, hg, hnd, hm, hsc, hf, hn, _⟩ := setO_get I ha
  refine call_len_set ho hex hd hf (by unfold scanBound at hsc; omega) ⟨.int n, H, I.tok _, ⟨_, by rw [hn]⟩, q _ hnd hm (by rw [List.length_map, Array.length_toList]; exact hn)⟩
end
theorem SI.garb {K : PySem.W.Frag} {B : Bs} {σ : L2.St} {ρ : Ev} {F H : Hp} {p : Addr} (I : SI K B σ ρ F H) (o : HO) (h : H p = none) : SI K B σ ρ F (upd H p o) := I.grow (Same.refl _) (I.sub.trans (same_new h)) (same_new h) fun a u e e0 => by rw [e0] at e; cases e
def eSset (f : M PyData) : M (List PyData) := bnd f fun d => lft (ssetD d)
def eSlen (f : M PyData) : M PyData := bnd f fun d => lft (slenD d)
theorem len_of_same {a b : List Int} (ha : a.Nodup) (hb : b.Nodup) (h : ∀ k, k ∈ a ↔ k ∈ b) : a.length = b.length := (List.perm_ext_iff_of_nodup ha hb |>.mpr h).length_eq
theorem asc_nodup {l : List Int} (h : l.Pairwise (· < ·)) : l.Nodup := h.imp fun {a b} h => by omega
theorem dps_pairs {K : PySem.W.Frag} {F : Hp} : ∀ {L : List (Addr × List Int)} {qs : List (Int × Int)}, L.map (·.2) = qs.map (fun x => [x.1, x.2]) → (∀ r ∈ L, SqT K F r.1 (r.2.map V.int)) → DpAll K F (L.map fun q => V.ref q.1) (qs.map dP)
  | [], [], _, _ => .nil
  | [], _ :: _, h, _ => by cases h
  | _ :: _, [], h, _ => by cases h
  | r :: L, x :: qs, h, hs => by
    rw [List.map_cons, List.map_cons] at h
    injection h with h1 h2
    have z := hs r (.head _)
    rw [h1] at z
    exact .cons (.tup z (.cons (.int _) (.cons (.int _) .nil))) (dps_pairs h2 fun q hq => hs q (.tail _ hq))
section
variable {X : Cx} {W : WX} {e : Expr} {f : M PyData} {k : Nat} {p p2 q pos : Pos}
theorem el_sset (A : Ar X W k) (hg : Gl X "sorted") (hm : X.mg "sorted" = none) (hg2 : Gl X "set") (hm2 : X.mg "set" = none) (h : EB X W e f)
    (na : starEach [e] X.env = (false, eval e X.env) :: starEach [] X.env := by rfl) (na2 : starEach [.Call (.Name "set" p2) [e] [] q] X.env = (false, eval (.Call (.Name "set" p2) [e] [] q) X.env) :: starEach [] X.env := by rfl) :
    EL X W (.Call (.Name "sorted" p) [.Call (.Name "set" p2) [e] [] q] [] pos) (eSset f) := by
  refine (pe_callB (cr_srtD A.calm) hg hm bb_sorted (pa_cons (pe_callTy (cr_setD A.calm (by have := A.room.un; omega)) hg2 hm2 PyProof.Rows.boot_set (pa_cons h pa_nil na) (he := na)) pa_nil na2) (he := na2)).imp fun σ H Q ⟨B, ρ, F, I, q⟩ => ⟨B, ρ, F, I, q.bind fun d ρ1 v F1 H1 s1 I1 r1 q1 => ?_⟩
  obtain ⟨ds, er, q2⟩ := q1.lft
  unfold ssetD at er
  split at er
  · rename_i es
    obtain ⟨a, vs, rfl, hq, hd⟩ := r1.tup I1.sub
    split at er
    · rename_i ns hns
      split at er
      · rename_i h64
        cases er
        obtain ⟨rfl, rfl⟩ := intsD_dp hns hd
        refine .inl ⟨a, ns, rfl, hq, h64, fun a2 c ha hc => .inl ⟨a2, _, c, rfl, upd_same, by omega, fun ms b hp hmem _ hb => ?_⟩⟩
        have em : ms = usortI ns := asc_eq (key := id) hp (usortK_asc ns) fun z => by
          rw [hmem z, decide_eq_true_eq]
          exact ⟨in_usortK fun a _ b _ h => h, of_usortK⟩
        rw [em]
        obtain ⟨I3, fr⟩ := (I1.garb (SetO X.w a2 _ c) ha).fresh hb (ints_dp (usortI ns))
        exact q2 _ F1 _ (Same.refl _) I3 ⟨b, rfl, fr⟩
      · cases er
    · split at er
      · rename_i ps hps
        split at er
        · rename_i hok
          cases er
          rw [Bool.and_eq_true, decide_eq_true_eq, List.all_eq_true] at hok
          obtain ⟨ks, rfl, e2, e3⟩ := pairsD_dp hps hd
          have ek : ∀ r ∈ ks, ∃ x ∈ ps, r.2 = [x.1, x.2] := fun r hr => by
            have z : r.2 ∈ ks.map (·.2) := List.mem_map_of_mem hr
            rw [e2] at z
            obtain ⟨x, h1, h2⟩ := List.mem_map.mp z
            exact ⟨x, h1, h2.symm⟩
          have hl : ks.length = ps.length := by simpa using congrArg List.length e2
          refine .inr ⟨a, ks, rfl, hq, fun r hr => sqt_up I1.sub (e3 r hr), by omega, fun a2 L ha hL hL2 => .inr ⟨a2, L, 2, 64, rfl, upd_same, fun r hr => ?_, by omega, fun r hr => ?_, fun L' b hp hnd hlen hpw hb => ?_⟩⟩
          · exact sqt_up (same_new ha) (sqt_up I1.sub (e3 r (hL r hr)))
          · obtain ⟨x, hx, ex⟩ := ek r (hL r hr)
            have := boxP_of (hok.2 x hx)
            refine ⟨by rw [ex]; rfl, fun m hm' => ?_⟩
            rw [ex] at hm'
            rcases List.mem_cons.mp hm' with rfl | hm'
            · omega
            · rcases List.mem_cons.mp hm' with rfl | hm'
              · omega
              · cases hm'
          · obtain ⟨qs, eq, hqs⟩ : ∃ qs : List (Int × Int), L'.map (·.2) = qs.map (fun x => [x.1, x.2]) ∧ ∀ x ∈ qs, x ∈ ps := by
              have all : ∀ r ∈ L', ∃ x ∈ ps, r.2 = [x.1, x.2] := fun r hr => ek r (hL r (hp.mem_iff.mp hr))
              clear hnd hlen hpw hp q2 hb
              induction L' with
              | nil => exact ⟨[], rfl, by simp⟩
              | cons r L' ih =>
                obtain ⟨qs, e4, e5⟩ := ih fun r hr => all r (.tail _ hr)
                obtain ⟨x, hx, ex⟩ := all r (.head _)
                exact ⟨x :: qs, by rw [List.map_cons, ex, e4]; rfl, fun y hy => by
                  rcases List.mem_cons.mp hy with rfl | hy
                  · exact hx
                  · exact e5 y hy⟩
            have inj : ∀ a ∈ ps, ∀ b ∈ ps, keyP a = keyP b → a = b := fun a ha b hb => keyP_inj (hok.2 a ha) (hok.2 b hb)
            have em : qs = usortP ps := by
              refine asc_eq (key := keyP) ?_ (usortK_asc ps) fun z => ⟨fun hz => in_usortK inj (hqs z hz), fun hz => ?_⟩
              · have w1 : (L'.map (·.2)).Pairwise fun u v => TS.code 64 u ≤ TS.code 64 v := List.pairwise_map.mpr hpw
                rw [eq] at w1 hnd
                have w2 := (List.pairwise_map.mp w1).and (List.pairwise_map.mp hnd)
                refine w2.imp_of_mem fun {x y} hx hy ⟨u1, u2⟩ => ?_
                rw [code_pair, code_pair] at u1
                rcases Int.lt_or_eq_of_le (show keyP x ≤ keyP y from u1) with u | u
                · exact u
                · exact absurd (by rw [inj x (hqs x hx) y (hqs y hy) u]) u2
              · have z1 : [z.1, z.2] ∈ ks.map (·.2) := by
                  rw [e2]
                  exact List.mem_map_of_mem (f := fun p : Int × Int => [p.1, p.2]) (of_usortK hz)
                obtain ⟨r, hr, er⟩ := List.mem_map.mp z1
                have z2 := (hp.map (·.2)).mem_iff.mpr (hL2 r hr)
                rw [eq, er] at z2
                obtain ⟨x, hx, ex⟩ := List.mem_map.mp z2
                have ex' : ([x.1, x.2] : List Int) = [z.1, z.2] := ex
                injection ex' with a1 a2
                injection a2 with a3 _
                have : x = z := Prod.ext a1 a3
                rw [← this]
                exact hx
            rw [em] at eq
            obtain ⟨I3, fr⟩ := (I1.garb (SetTO X.prog X.w a2 L) ha).fresh hb (dps_pairs eq fun r hr => e3 r (hL r (hp.mem_iff.mp hr)))
            exact q2 _ F1 _ (Same.refl _) I3 ⟨b, rfl, fr⟩
        · cases er
      · cases er
  · cases er

theorem ev_slen (A : Ar X W k) (hg : Gl X "len") (hm : X.mg "len" = none) (hg2 : Gl X "set") (hm2 : X.mg "set" = none) (h : EB X W e f)
    (na : starEach [e] X.env = (false, eval e X.env) :: starEach [] X.env := by rfl) (na2 : starEach [.Call (.Name "set" p2) [e] [] q] X.env = (false, eval (.Call (.Name "set" p2) [e] [] q) X.env) :: starEach [] X.env := by rfl) :
    EV X W (.Call (.Name "len" p) [.Call (.Name "set" p2) [e] [] q] [] pos) (eSlen f) := by
  refine (pe_callB cr_lenD hg hm bb_len (pa_cons (pe_callTy (cr_setD A.calm (by have := A.room.un; omega)) hg2 hm2 PyProof.Rows.boot_set (pa_cons h pa_nil na) (he := na)) pa_nil na2) (he := na2)).imp fun σ H Q ⟨B, ρ, F, I, q⟩ => ⟨B, ρ, F, I, q.bind fun d ρ1 v F1 H1 s1 I1 r1 q1 => ?_⟩
  obtain ⟨r, er, q2⟩ := q1.lft
  unfold slenD at er
  split at er
  · obtain ⟨a, vs, rfl, hq, hd⟩ := r1.tup I1.sub
    split at er
    · rename_i ns hns
      split at er
      · rename_i h64
        cases er
        obtain ⟨rfl, rfl⟩ := intsD_dp hns hd
        refine .inl ⟨a, ns, rfl, hq, h64, fun a2 c ha hc => ⟨a2, _, c, rfl, upd_same, fun ks hnd hmem hlen => ?_⟩⟩
        have e1 : c = (usortI ns).length := by
          rw [← hlen]
          refine len_of_same hnd (asc_nodup (usortK_asc (key := id) ns)) fun z => ?_
          rw [← hmem z, decide_eq_true_eq]
          exact ⟨in_usortK fun a _ b _ h => h, of_usortK⟩
        rw [e1]
        exact q2 _ F1 _ (Same.refl _) (I1.garb (SetO X.w a2 _ _) ha) (.int _)
      · cases er
    · cases er
  · cases er
end
end D3

namespace D3
open PySem PySem.Spec PyProof.Rows L2

/-! ### tuples compared -/
def gtT : PyData → PyData → Option PyData
  | .tuple xs, .tuple ys => if PySem.W.alike (.tuple xs) (.tuple ys) && decide ((PyData.tuple xs).depth ≤ 60) then some (.bool (PySem.W.dataLt (.tuple ys) (.tuple xs))) else none
  | _, _ => none
def gtA : PyData → PyData → Option PyData := orF2 (cmpI fun i j => decide (j < i)) gtT
section
variable {X : Cx}
theorem opd_gtT (hu : X.A.units + 66 < cLine) : OpD X (compareOp .Gt) gtT := by
  intro pins s σ H x y v u Q I rx ry ⟨F, d, e, r, sF, h1, h2, h3, h4⟩
  unfold gtT at h3
  split at h3
  · split at h3
    · rename_i hz
      cases h3
      rw [Bool.and_eq_true, decide_eq_true_eq] at hz
      obtain ⟨as, R1⟩ := Dp.reads I _ _ _ (h1.dp sF) rx
      obtain ⟨bs, R2⟩ := Dp.reads I _ _ _ (h2.dp sF) ry
      exact PySem.W.rcGt_alike _ _ X.A s v u as bs R1 R2 hz.1 (by simp) (by omega) X.prog X.w _ _ ⟨.bl _, H, I, rfl, h4.here sF (.bl _)⟩
    · cases h3
  · cases h3
theorem opd_gtA (hu : X.A.units + 66 < cLine) : OpD X (compareOp .Gt) gtA := OpD.or opd_gt (opd_gtT hu)
end
/-! ### x[::-1], x a list -/
def revD : PyData → Option (List PyData)
  | .list ds => some ds.reverse
  | _ => none
def eRevL (f : M PyData) : M (List PyData) := bnd f fun d => lft (revD d)
theorem dps_rev {K : PySem.W.Frag} {H : Hp} : ∀ {vs : List V} {ds : List PyData}, DpAll K H vs ds → DpAll K H vs.reverse ds.reverse
  | _, _, .nil => .nil
  | _, _, .cons h t => by
    rw [List.reverse_cons, List.reverse_cons]
    exact dps_app (dps_rev t) (.cons h .nil)
section
variable {X : Cx} {W : WX} {e : Expr} {f : M PyData} {k : Nat} {p1 p2 p3 pos : Pos}
theorem el_revL (h : EB X W e f) : EL X W (.Subscript e (.Slice none none (some (.UnaryOp .USub (.Constant (.int 1) k p1) p2)) p3) pos) (eRevL f) := (pe_revL h).imp fun σ H Q ⟨B, ρ, F, I, q⟩ => ⟨B, ρ, F, I, q.bind fun d ρ1 v F1 H1 s1 I1 r1 q1 => by
  obtain ⟨ds, er, q2⟩ := q1.lft
  unfold revD at er
  split at er
  · cases er
    obtain ⟨a, vs, rfl, hq, hd⟩ := r1.list I1.sub
    refine ⟨a, vs, rfl, hq, fun p hp => ?_⟩
    obtain ⟨I3, fr⟩ := I1.fresh hp (dps_rev hd)
    exact q2 _ F1 _ (Same.refl _) I3 ⟨p, rfl, fr⟩
  · cases er⟩
end
end D3

namespace D3
open PySem PySem.Spec PyProof.Rows L2

/-! ### o.index(x), o.count(x), o a tuple or a list -/
def kBare (K : PySem.W.Frag) : Bool := K.all fun p => (p.2.cls != .type "tuple") || p.2.dict.isNone
theorem kBare_at {K : PySem.W.Frag} (h : kBare K = true) {a : Addr} {o : Obj} (e : K.lookup a = some o) (hc : o.cls = .type "tuple") : o.dict = none := by
  have key : ∀ K : PySem.W.Frag, K.all (fun p => (p.2.cls != .type "tuple") || p.2.dict.isNone) = true → K.lookup a = some o → o.dict = none := by
    intro K
    induction K with
    | nil => intro _ e; cases e
    | cons p r ih =>
      intro h e
      obtain ⟨b, u⟩ := p
      rw [List.all_cons, Bool.and_eq_true] at h
      rw [List.lookup_cons] at e
      split at e
      · cases e
        have h1 := h.1
        have hz : (o.cls != Value.type "tuple") = false := by
          rw [hc]
          decide +kernel
        dsimp only at h1
        rw [hz, Bool.false_or] at h1
        exact Option.isNone_iff_eq_none.mp h1
      · exact ih h.2 e
  exact key K h e
section
variable {X : Cx} {pins : List (Addr × Obj)} {σ : L2.St} {F H : Hp} {s : Shared}
theorem tup_bare (hK : kBare X.K = true) (I : Inv X pins σ H s) (sF : Sb F H) {a : Addr} {ds : List PyData} (h : Dp X.K F (.ref a) (.tuple ds)) : ∃ ob, s.heap.get? a = some ob ∧ ob.dict = none := by
  cases h with
  | tup hq _ =>
    rcases hq with (e | ⟨o, e⟩) | ⟨o, its, n, hk, hc, _⟩
    · exact absurd (sF.b _ _ e) (by simp [BareU])
    · exact ⟨o, (I.hok a _ (sF.s _ _ e)).1, sF.b _ _ e⟩
    · exact ⟨o, I.kIn a o hk, kBare_at hK hk hc⟩
/-- what an item is, by the datum at its place -/
theorem at_items {its : List Value} {ds : List PyData} (hmap : its.map (SeqAt.readOf s.heap) = ds) (m : Nat) (hm : m < its.toArray.size) : SeqAt.readOf s.heap its.toArray[m] = ds[m]'(by rw [← hmap, List.length_map]; simpa using hm) := by
  subst hmap
  simp
end
/-- where d stands first -/
def findD (ds : List PyData) (d : PyData) : Option Nat := ds.findIdx? fun z => PyData.eqv z d
theorem findD_some {ds : List PyData} {d : PyData} {j : Nat} (h : findD ds d = some j) : ∃ hj : j < ds.length, PyData.eqv ds[j] d = true ∧ ∀ m (hm : m < j), PyData.eqv (ds[m]'(by omega)) d = false := by
  unfold findD at h
  obtain ⟨hj, h1, h2⟩ := List.findIdx?_eq_some_iff_getElem.mp h
  exact ⟨hj, h1, fun m hm => by simpa using h2 m hm⟩
def rTIdx (K : PySem.W.Frag) : V → List V → Hp → VK → Prop := fun x xs H Q => ∃ (a : Addr) (y : V) (d : PyData) (ds : List PyData) (j : Nat), x = V.ref a ∧ xs = [y] ∧ Dp K H (V.ref a) (.tuple ds) ∧ Dp K H y d ∧
  SeqAt.shaped (.tuple ds) = true ∧ SeqAt.shaped d = true ∧ findD ds d = some j ∧ Q (.int (j : Nat)) H
def rTCnt (K : PySem.W.Frag) : V → List V → Hp → VK → Prop := fun x xs H Q => ∃ (a : Addr) (y : V) (d : PyData) (ds : List PyData), x = V.ref a ∧ xs = [y] ∧ Dp K H (V.ref a) (.tuple ds) ∧ Dp K H y d ∧
  SeqAt.shaped (.tuple ds) = true ∧ SeqAt.shaped d = true ∧ Q (.int (ds.countP fun z => PyData.eqv z d : Nat)) H
theorem countP_read {h : Heap} {d : PyData} {its : List Value} {ds : List PyData} (hmap : its.map (SeqAt.readOf h) = ds) : its.countP (fun u => PyData.eqv (SeqAt.readOf h u) d) = ds.countP fun z => PyData.eqv z d := by
  subst hmap
  rw [List.countP_map]
  rfl
section
variable {X : Cx}
theorem mt_tIdx (hu : X.A.units + 65 < cLine) : MtR X "tuple.index" (rTIdx X.K) := fun pins s σ H x xs v us Q I rx rxs ⟨a, y, d, ds, j, ex, exs, hl, hy, sl, sd, hf, q⟩ => by
  subst ex exs
  have ev : v = .ref a := rx
  subst ev
  obtain ⟨u, eu, ru⟩ := vals1 rxs
  subst eu
  obtain ⟨bs, r1⟩ := Dp.reads I d y u hy ru
  cases hl with
  | tup hq ha =>
    obtain ⟨its, rv, pl, hz⟩ := I.tuple hq
    obtain ⟨⟨cls, dd, dt, sls⟩, ho, hc, n, hd⟩ := pl
    dsimp only at hc hd
    subst hc hd
    obtain ⟨as, h4⟩ := Dp.readsAll I ds _ its ha rv
    have lay : PyData.canLayAll0 ds = true := SeqAt.canLay_of_shaped sl
    have hmap : its.map (SeqAt.readOf s.heap) = ds := SeqAt.readsAll_map ds its as lay h4
    have hlen : its.length = ds.length := by rw [← hmap, List.length_map]
    obtain ⟨hj, hit, hno⟩ := findD_some hf
    have hj' : j < its.toArray.size := by rw [List.size_toArray, hlen]; exact hj
    refine call_meets PySem.F.slot_tuple_index ⟨_, ho, rfl⟩ PySem.F.entry_tuple_index (PySem.F.args_tuple_index_2 _ _)
      (TI.tuple_indexAt a its.toArray n dd sls u (fun w => PyData.eqv (SeqAt.readOf s.heap w) d) j hj' ?_ fun m hm hmj => ?_) ⟨ho, SeqAt.items_eqAt (vs := its.toArray) (show ReadsAll s.heap its.toArray.toList ds as from h4) r1 lay (SeqAt.canLay_of_shaped sd) (room_in_shaped sd hu), ?_⟩
    · rw [at_items hmap j hj']
      exact hit
    · rw [at_items hmap m hm]
      exact hno m hmj
    · exact ⟨.int (j : Nat), H, I.tok _, ⟨_, rfl⟩, q⟩
theorem mt_tCnt (hu : X.A.units + 65 < cLine) : MtR X "tuple.count" (rTCnt X.K) := fun pins s σ H x xs v us Q I rx rxs ⟨a, y, d, ds, ex, exs, hl, hy, sl, sd, q⟩ => by
  subst ex exs
  have ev : v = .ref a := rx
  subst ev
  obtain ⟨u, eu, ru⟩ := vals1 rxs
  subst eu
  obtain ⟨bs, r1⟩ := Dp.reads I d y u hy ru
  cases hl with
  | tup hq ha =>
    obtain ⟨its, rv, pl, hz⟩ := I.tuple hq
    obtain ⟨⟨cls, dd, dt, sls⟩, ho, hc, n, hd⟩ := pl
    dsimp only at hc hd
    subst hc hd
    obtain ⟨as, h4⟩ := Dp.readsAll I ds _ its ha rv
    have lay : PyData.canLayAll0 ds = true := SeqAt.canLay_of_shaped sl
    have hmap : its.map (SeqAt.readOf s.heap) = ds := SeqAt.readsAll_map ds its as lay h4
    refine call_meets PySem.F.slot_tuple_count ⟨_, ho, rfl⟩ PySem.F.entry_tuple_count (PySem.F.args_tuple_count_2 _ _)
      (SeqAt.tuple_countAt a its.toArray n dd sls u fun w => PyData.eqv (SeqAt.readOf s.heap w) d) ⟨ho, SeqAt.items_eqAt (vs := its.toArray) (show ReadsAll s.heap its.toArray.toList ds as from h4) r1 lay (SeqAt.canLay_of_shaped sd) (room_in_shaped sd hu), ?_⟩
    have e : its.toArray.toList.countP (fun w => PyData.eqv (SeqAt.readOf s.heap w) d) = ds.countP fun z => PyData.eqv z d := countP_read hmap
    rw [e]
    exact ⟨.int _, H, I.tok _, ⟨_, rfl⟩, q⟩
end
def idxD : PyData → PyData → Option PyData
  | .tuple ds, d => if SeqAt.shaped (.tuple ds) && SeqAt.shaped d then (findD ds d).map fun j => .int (j : Nat) else none
  | .list ds, d => if SeqAt.shaped (.list ds) && SeqAt.shaped d then (findD ds d).map fun j => .int (j : Nat) else none
  | _, _ => none
def cntD : PyData → PyData → Option PyData
  | .tuple ds, d => if SeqAt.shaped (.tuple ds) && SeqAt.shaped d then some (.int (ds.countP fun z => PyData.eqv z d : Nat)) else none
  | _, _ => none
theorem idx_of {sh sd : Bool} {o : Option Nat} {r : PyData} (h : (if (sh && sd) = true then o.map (fun j => PyData.int (j : Nat)) else none) = some r) : sh = true ∧ sd = true ∧ ∃ j, o = some j ∧ r = .int (j : Nat) := by
  split at h
  · rename_i hz
    rw [Bool.and_eq_true] at hz
    cases o with
    | none => cases h
    | some j => cases h; exact ⟨hz.1, hz.2, j, rfl, rfl⟩
  · cases h
theorem cnt_of {sh sd : Bool} {n r : PyData} (h : (if (sh && sd) = true then some n else none) = some r) : sh = true ∧ sd = true ∧ r = n := by
  split at h
  · rename_i hz
    rw [Bool.and_eq_true] at hz
    cases h
    exact ⟨hz.1, hz.2, rfl⟩
  · cases h
def eMt (m : PyData → PyData → Option PyData) (f g : M PyData) : M PyData := bnd f fun x => bnd (lft (seqD x)) fun _ => bnd g fun y => lft (m x y)
section
variable {X : Cx} {W : WX} {o e : Expr} {f g : M PyData} {k : Nat} {apos cpos : Pos} {name : Str} {m : PyData → PyData → Option PyData}
/-- o.name(e): o a tuple, or a list -/
theorem ev_mt {idT idL : String} (A : Ar X W k) (hK : kBare X.K = true) (slotT : PySem.Slot "tuple" name idT) (tyT : typeOf (.builtin idT) = pure (.type "method_descriptor")) (slotL : PySem.Slot "list" name idL) (tyL : typeOf (.builtin idL) = pure (.type "method_descriptor"))
    (ruleT : ∀ pins (s : Shared) σ H (a : Addr) (y : V) (u : Value) (Q : VK), Inv X pins σ H s → RelV y u → (∃ F ds d r, Sb F H ∧ Dp X.K F (.ref a) (.tuple ds) ∧ Dp X.K F y d ∧ m (.tuple ds) d = some r ∧ PR X.K F H r Q) → wpAny (model X.prog X.w) X.A (call (.builtin idT) [.ref a, u]) (EP X pins σ Q) X.xe s)
    (ruleL : ∀ pins (s : Shared) σ H (a : Addr) (y : V) (u : Value) (Q : VK), Inv X pins σ H s → RelV y u → (∃ F ds d r, Sb F H ∧ Dp X.K F (.ref a) (.list ds) ∧ Dp X.K F y d ∧ m (.list ds) d = some r ∧ PR X.K F H r Q) → wpAny (model X.prog X.w) X.A (call (.builtin idL) [.ref a, u]) (EP X pins σ Q) X.xe s)
    (ho : EV X W o f) (he : EV X W e g) (hbase : attributeBase o name X.env (eval o X.env) = eval o X.env := by rfl)
    (hfew : ((backTo cpos (starEach [e] X.env)).all (fun x => !x.1) && (backToKw cpos (keywordEach [] X.env)).all (fun x => x.1.isSome) && decide ([e].length + ([] : List Keyword).length + (if ([] : List Keyword).isEmpty then 0 else 1) < 30)) = true := by rfl)
    (hline : (apos.endLine == cpos.line) = true := by rfl) (hs : starEach [e] X.env = [(false, eval e X.env)] := by rfl) (hs1 : backTo cpos (starEach [e] X.env) = [(false, eval e X.env)] := by rfl) :
    EV X W (.Call (.Attribute o name apos) [e] [] cpos) (eMt m f g) := by
  refine ⟨fun pins s σ H Q I ⟨B, ρ, F, I0, q⟩ => ?_⟩
  refine wpAny_Call_method_late hbase hfew hline rfl (thn (ho.run pins s σ H (fun x H1 => ∃ B ρ1 F1 d ds, SI X.K B σ ρ1 F1 H1 ∧ Dp X.K F1 x d ∧ seqD d = some ds ∧ tA X.K X.mg W (rD X.K) B σ ρ1 F1 (bnd g fun y => lft (m d y)) Q) I
    ⟨B, ρ, F, I0, q.bind fun d ρ1 v F1 H1 s1 I1 r1 q1 => ?_⟩) fun v s1 ⟨x, H1, I1, rx, B, ρ1, F1, d, ds, S1, hd, hds, q1⟩ => ?_)
  · have q2 := q1
    obtain ⟨r, er, _⟩ := q2
    cases hsd : seqD d with
    | none => rw [hsd] at er; cases er
    | some ds =>
      refine ⟨B, ρ1, F1, d, ds, I1, r1, hsd, ?_⟩
      rw [hsd] at q1
      exact q1
  · have go : ∀ (id : String) (a : Addr), (∀ (s : Shared) H (y : V) (u : Value) (Q : VK), Inv X pins σ H s → RelV y u → (∃ F d' r, Sb F H ∧ Dp X.K F (.ref a) d ∧ Dp X.K F y d' ∧ m d d' = some r ∧ PR X.K F H r Q) → wpAny (model X.prog X.w) X.A (call (.builtin id) [.ref a, u]) (EP X pins σ Q) X.xe s) → x = .ref a →
        wpAny (model X.prog X.w) X.A (callWith cpos (.builtin id) [.ref a] (backTo cpos (starEach [e] X.env)) []) (EP X pins σ Q) X.xe s1 := by
      intro id a rule ex
      subst ex
      rw [hs1]
      refine Calls.callWith_builtin rfl (Calls.evalArgs_plain (Calls.spliced_cons ?_))
      refine thn (he.run pins s1 σ H1 (fun y H2 => ∃ ρ2 F2 d' r, SI X.K B σ ρ2 F2 H2 ∧ Same F1 F2 ∧ Dp X.K F2 y d' ∧ m d d' = some r ∧ PR X.K F2 H2 r Q) I1 ⟨B, ρ1, F1, S1, q1.bind fun d' ρ2 y F2 H2 s2 I2 r2 q2 => ?_⟩) fun u s2 ⟨y, H2, I2, ry, ρ2, F2, d', r, S2, s12, hy, hm, hq⟩ => ?_
      · obtain ⟨r, er, q3⟩ := q2.lft
        exact ⟨ρ2, F2, d', r, I2, s2, r2, er, I2.pr q3⟩
      · exact Calls.spliced_nil (rule s2 H2 y u Q I2 ry ⟨F2, d', r, S2.sub, dp_up s12 hd, hy, hm, hq⟩)
    cases d <;> simp only [seqD] at hds <;> try (cases hds; done)
    · rename_i es
      cases hd with
      | @lst a xs _ h1 h2 =>
        have ev : v = .ref a := rx
        subst ev
        obtain ⟨its, rv, ⟨o, n, ho', hc, hdn, hdt⟩, hz⟩ := I1.list (S1.sub.seq h1)
        refine ⟨"list", idL, PySem.F.plainAttrs_list, slotL, tyL, ⟨o, ho', hc⟩, fun b eb => ?_, go idL a (fun s H y u Q I ry ⟨F, d', r, k1, k2, k3, k4, k5⟩ => ruleL pins s σ H a y u Q I ry ⟨F, es, d', r, k1, k2, k3, k4, k5⟩) rfl⟩
        cases eb
        exact ⟨o, ho', hdn⟩
    · rename_i es
      have hd' := hd
      cases hd' with
      | @tup a xs _ h1 h2 =>
        have ev : v = .ref a := rx
        subst ev
        obtain ⟨its, rv, pl, hz⟩ := I1.tuple (sqt_up S1.sub h1)
        obtain ⟨ob, e1, e2⟩ := tup_bare hK I1 S1.sub hd
        refine ⟨"tuple", idT, PySem.F.plainAttrs_tuple, slotT, tyT, pl.typeIs, fun b eb => ?_, go idT a (fun s H y u Q I ry ⟨F, d', r, k1, k2, k3, k4, k5⟩ => ruleT pins s σ H a y u Q I ry ⟨F, es, d', r, k1, k2, k3, k4, k5⟩) rfl⟩
        cases eb
        exact ⟨ob, e1, e2⟩
theorem ev_idx (A : Ar X W k) (hK : kBare X.K = true) (ho : EV X W o f) (he : EV X W e g) (hbase : attributeBase o "index" X.env (eval o X.env) = eval o X.env := by rfl)
    (hfew : ((backTo cpos (starEach [e] X.env)).all (fun x => !x.1) && (backToKw cpos (keywordEach [] X.env)).all (fun x => x.1.isSome) && decide ([e].length + ([] : List Keyword).length + (if ([] : List Keyword).isEmpty then 0 else 1) < 30)) = true := by rfl)
    (hline : (apos.endLine == cpos.line) = true := by rfl) (hs : starEach [e] X.env = [(false, eval e X.env)] := by rfl) (hs1 : backTo cpos (starEach [e] X.env) = [(false, eval e X.env)] := by rfl) :
    EV X W (.Call (.Attribute o "index" apos) [e] [] cpos) (eMt idxD f g) := by
  refine ev_mt A hK PySem.F.slot_tuple_index rfl PySem.F.slot_list_index rfl (fun pins s σ H a y u Q I ry ⟨F, ds, d, r, sF, h1, h2, hm, q⟩ => ?_) (fun pins s σ H a y u Q I ry ⟨F, ds, d, r, sF, h1, h2, hm, q⟩ => ?_) ho he hbase hfew hline hs hs1
  · obtain ⟨z1, z2, j, hf, rfl⟩ := idx_of (show (if (SeqAt.shaped (.tuple ds) && SeqAt.shaped d) = true then (findD ds d).map (fun j => PyData.int (j : Nat)) else none) = some r from hm)
    exact mt_tIdx A.u65 pins s σ H (.ref a) [y] (.ref a) [u] Q I rfl (.cons ry .nil) ⟨a, y, d, ds, j, rfl, rfl, dp_up sF h1, dp_up sF h2, z1, z2, hf, q.here sF (.int _)⟩
  · obtain ⟨z1, z2, j, hf, rfl⟩ := idx_of (show (if (SeqAt.shaped (.list ds) && SeqAt.shaped d) = true then (findD ds d).map (fun j => PyData.int (j : Nat)) else none) = some r from hm)
    obtain ⟨hj, hit, hno⟩ := findD_some hf
    exact mt_indexD A.u65 pins s σ H (.ref a) [y] (.ref a) [u] Q I rfl (.cons ry .nil) ⟨a, y, d, ds, j, ds[j], rfl, rfl, dp_up sF h1, dp_up sF h2, z1, z2, List.getElem?_eq_getElem hj, hit, fun m z' hm e => by
      obtain ⟨_, ez⟩ := List.getElem?_eq_some_iff.mp e
      rw [← ez]
      exact hno m hm, q.here sF (.int _)⟩
theorem ev_cnt (A : Ar X W k) (hK : kBare X.K = true) (ho : EV X W o f) (he : EV X W e g) (hbase : attributeBase o "count" X.env (eval o X.env) = eval o X.env := by rfl)
    (hfew : ((backTo cpos (starEach [e] X.env)).all (fun x => !x.1) && (backToKw cpos (keywordEach [] X.env)).all (fun x => x.1.isSome) && decide ([e].length + ([] : List Keyword).length + (if ([] : List Keyword).isEmpty then 0 else 1) < 30)) = true := by rfl)
    (hline : (apos.endLine == cpos.line) = true := by rfl) (hs : starEach [e] X.env = [(false, eval e X.env)] := by rfl) (hs1 : backTo cpos (starEach [e] X.env) = [(false, eval e X.env)] := by rfl) :
    EV X W (.Call (.Attribute o "count" apos) [e] [] cpos) (eMt cntD f g) := by
  refine ev_mt A hK PySem.F.slot_tuple_count rfl PySem.F.slot_list_count rfl (fun pins s σ H a y u Q I ry ⟨F, ds, d, r, sF, h1, h2, hm, q⟩ => ?_) (fun pins s σ H a y u Q I ry ⟨F, ds, d, r, sF, h1, h2, hm, q⟩ => ?_) ho he hbase hfew hline hs hs1
  · obtain ⟨z1, z2, rfl⟩ := cnt_of (show (if (SeqAt.shaped (.tuple ds) && SeqAt.shaped d) = true then some (.int (ds.countP fun z => PyData.eqv z d : Nat)) else none) = some r from hm)
    exact mt_tCnt A.u65 pins s σ H (.ref a) [y] (.ref a) [u] Q I rfl (.cons ry .nil) ⟨a, y, d, ds, rfl, rfl, dp_up sF h1, dp_up sF h2, z1, z2, q.here sF (.int _)⟩
  · cases hm
end
end D3

namespace D3
open PySem PySem.Spec PyProof.Rows L2

/-! ### t[::-1] -/
theorem adj_rev (n : Nat) : Builtin.Slice.sliceAdjust none none (-1) (n : Int) = ((n : Int) - 1, -1) ∧ Builtin.Slice.slicePlaces ((n : Int) - 1) (-1) (-1) = n := by
  constructor
  · simp [Builtin.Slice.sliceAdjust]
  · unfold Builtin.Slice.slicePlaces
    simp
    split <;> omega
theorem rev_pick (its : List Value) : ((List.range its.length).filterMap fun k : Nat => its.toArray[(((its.length : Nat) : Int) - 1 + (k : Int) * (-1)).toNat]?) = its.reverse := by
  have e : ∀ k ∈ List.range its.length, its.toArray[(((its.length : Nat) : Int) - 1 + (k : Int) * (-1)).toNat]? = some (its.reverse[k]?.getD .none) := fun k hk => by
    have hk : k < its.length := by simpa using hk
    have e1 : (((its.length : Nat) : Int) - 1 + (k : Int) * (-1)).toNat = its.length - 1 - k := by omega
    rw [e1, List.getElem?_reverse hk]
    simp only [List.getElem?_toArray]
    rw [List.getElem?_eq_getElem (by omega)]
    rfl
  have h2 : (List.range its.length).filterMap (fun k : Nat => its.toArray[(((its.length : Nat) : Int) - 1 + (k : Int) * (-1)).toNat]?) = (List.range its.length).filterMap fun k => some (its.reverse[k]?.getD .none) := by
    have key : ∀ l : List Nat, (∀ k ∈ l, its.toArray[(((its.length : Nat) : Int) - 1 + (k : Int) * (-1)).toNat]? = some (its.reverse[k]?.getD .none)) → l.filterMap (fun k : Nat => its.toArray[(((its.length : Nat) : Int) - 1 + (k : Int) * (-1)).toNat]?) = l.filterMap fun k => some (its.reverse[k]?.getD .none) := by
      intro l
      induction l with
      | nil => intro _; rfl
      | cons a l ih =>
        intro h
        rw [List.filterMap_cons, List.filterMap_cons, h a (.head _), ih fun k hk => h k (.tail _ hk)]
    exact key _ e
  rw [h2, List.filterMap_eq_map']
  apply List.ext_getElem?
  intro i
  by_cases h : i < its.length
  · rw [List.getElem?_map, List.getElem?_range h, Option.map_some, List.getElem?_eq_getElem (by simpa using h)]
    rfl
  · rw [List.getElem?_eq_none (by simpa using h), List.getElem?_eq_none (by simpa using h)]
section
variable {prog : Program} {w : World} {A : Around} {E : Value → Shared → Prop} {s : Shared}
theorem sliceApplied_rev {sl : Addr} {v1 v2 v3 : Value} {n : Nat} {Q : Int × Int × Nat → Shared → Prop} (hs : s.heap.IsSliceOf sl v1 v2 v3) (p1 : IsPart v1 none) (p2 : IsPart v2 none) (p3 : IsPart v3 (some (-1))) (h : Q ((n : Int) - 1, -1, n) s) :
    wpAny (model prog w) A (Builtin.Slice.sliceApplied (.ref sl) (pure (n : Int))) Q E s := by
  obtain ⟨ob, hob, _, hdat⟩ := id hs
  obtain ⟨a1, a2⟩ := adj_rev n
  unfold Builtin.Slice.sliceApplied Builtin.Slice.sliceFields
  have f3 : wpAny (model prog w) A (field (.ref sl) 2) (fun x s' => x = v3 ∧ s' = s) E s := wpAny_field hob hdat (x := v3) rfl ⟨rfl, rfl⟩
  refine wpAny_bind (wpAny_bind (wpAny_field hob hdat (x := v1) rfl (wpAny_bind (wpAny_field hob hdat (x := v2) rfl (wpAny_bind (wpAny_field hob hdat (x := v3) rfl (wpAny_pure ?_)))))))
  refine wpAny_bind (HT.slicePart_ p3 ?_)
  show wpAny _ _ (if ((-1 : Int) == 0) = true then _ else _) _ _ s
  rw [if_neg (by decide)]
  refine wpAny_bind (HT.slicePart_ p1 (wpAny_bind (HT.slicePart_ p2 (wpAny_bind (wpAny_pure ?_)))))
  show wpAny _ _ (pure ((Builtin.Slice.sliceAdjust none none (-1) (n : Int)).1, (-1 : Int), Builtin.Slice.slicePlaces (Builtin.Slice.sliceAdjust none none (-1) (n : Int)).1 (Builtin.Slice.sliceAdjust none none (-1) (n : Int)).2 (-1))) _ _ s
  rw [a1, a2]
  exact wpAny_pure h
theorem getItem_tupRev {t sl : Addr} {its : List Value} {v1 v2 v3 : Value} {Q : Value → Shared → Prop} (ht : IsTup s.heap t its.toArray) (hs : s.heap.IsSliceOf sl v1 v2 v3) (p1 : IsPart v1 none) (p2 : IsPart v2 none) (p3 : IsPart v3 (some (-1))) (hz : its.length ≤ sizeLine)
    (h : Q (.ref s.heap.objs.size) { s with heap := s.heap.push { cls := .type "tuple", data := .seq its.reverse.toArray } }) : wpAny (model prog w) A (getItem (.ref t) (.ref sl)) Q E s := by
  obtain ⟨ob, hob, hcl, hdat⟩ := id hs
  have sT : s.TypeIs (.ref sl) "slice" := ⟨ob, hob, hcl⟩
  have fits : sizeOk (.seq its.reverse.toArray) := by
    show its.reverse.toArray.size ≤ sizeLine
    rw [List.size_toArray, List.length_reverse]
    exact hz
  unfold getItem
  try with_reducible refine wpAny_holding ?_
  first | refine wpAny_bind (wpAny_pure ?_) | skip
  refine wpAny_bind (wpAny_sequenceKey ht.typeIs (by decide) ?_)
  refine wpAny_bind (wpAny_callSpecial?_slot (name := Str.ofString "__getitem__") ht.typeIs PyProof.Rows.slot_tuple_getitem (wpAny_call_entry PyProof.Rows.slot_tuple_getitem ht.typeIs PySem.F.entry_tuple_getitem ?_ (PySem.F.args_tuple_getitem_2 _ _)))
  show wpAny _ _ (Builtin.Tuple.tupleItemsOf (.ref t) >>= _) _ _ s
  refine wpAny_bind (tupleItemsOf_ ht (wpAny_bind (wpAny_typeOf sT ?_)))
  rw [if_pos (by decide)]
  have sz : its.toArray.size = its.length := List.size_toArray
  refine wpAny_bind (sliceApplied_rev hs p1 p2 p3 ?_)
  show wpAny _ _ (if ((((its.toArray.size : Nat) : Int) - 1) == 0 && ((-1 : Int) == 1) && (its.toArray.size == its.toArray.size)) = true then _ else _) _ _ s
  rw [if_neg (by simp)]
  rw [sz, rev_pick]
  first
    | exact wpAny_bind (m := Builtin.Tuple.tupleExact _) (wpAny_newObj_type (wpAny_pure ⟨_, rfl, wpAny_pure h⟩) fits)
    | exact wpAny_bind (m := Builtin.Tuple.tupleExact _) (wpAny_newObj_type (wpAny_bind (wpAny_pure (wpAny_pure ⟨_, rfl, wpAny_pure h⟩))) fits)
    | exact wpAny_bind (wpAny_bind (m := Builtin.Tuple.tupleExact _) (wpAny_newObj_type (wpAny_pure (wpAny_pure ⟨_, rfl, wpAny_pure h⟩)) fits))
    | exact wpAny_bind (wpAny_bind (m := Builtin.Tuple.tupleExact _) (wpAny_newObj_type (wpAny_pure ⟨_, rfl, wpAny_pure h⟩) fits))
end
section
variable {X : Cx} {W : WX} {e : Expr} {f : M PyData} {te : TE} {k : Nat} {p1 p2 p3 pos : Pos}
theorem pe_revT (he : PE X e te) : PE X (.Subscript e (.Slice none none (some (.UnaryOp .USub (.Constant (.int 1) k p1) p2)) p3) pos) (fun σ H Q => te σ H fun x H1 => ∃ (a : Addr) (xs : List V), x = V.ref a ∧ SqT X.K H1 a xs ∧ NewT H1 xs.reverse Q) := ⟨fun pins s σ H Q I h => by
  have step : PO X (some (.UnaryOp .USub (.Constant (.int 1) k p1) p2)) (tPart (tUn (rU fun i => .int (-i)) (tC (.int 1)))) := po_some (pe_un un_neg pe_int)
  refine Subscript_ (thn (he.run pins s σ H _ I h) fun v s1 ⟨x, H1, I1, r1, a, xs, ex, hx, q⟩ => ?_)
  subst ex
  have ev : v = .ref a := r1
  subst ev
  refine wpAny_Slice (thn (po_none.run pins s1 σ H1 (fun o H2 => o = none ∧ H2 = H1) I1 ⟨rfl, rfl⟩) fun u1 s2 ⟨o1, H2, I2, g1, eo1, eH2⟩ => ?_)
  subst eo1
  refine thn (po_none.run pins s2 σ H2 (fun o H3 => o = none ∧ H3 = H2) I2 ⟨rfl, rfl⟩) fun u2 s3 ⟨o2, H3, I3, g2, eo2, eH3⟩ => ?_
  subst eo2
  refine thn (step.run pins s3 σ H3 (fun o H4 => o = some (-1) ∧ H4 = H3) I3 ⟨1, rfl, -1, rfl, rfl, rfl⟩) fun u3 s4 ⟨o3, H4, I4, g3, eo3, eH4⟩ => ?_
  subst eo3
  have eH : H4 = H1 := by rw [eH4, eH3, eH2]
  clear eH4 eH3 eH2
  subst eH
  have I5 : Inv X pins σ H4 { s4 with heap := s4.heap.push { cls := .type "slice", data := .fields #[u1, u2, u3] } } := I4.kept (t' := s4.toks) fun b ob z => Heap.get?_push_of_some _ z
  obtain ⟨its, r, ht, hz⟩ := I5.tuple hx
  have hl := r.length
  show wpAny (model X.prog X.w) X.A (subscriptTail e (.Slice none none (some (.UnaryOp .USub (.Constant (.int 1) k p1) p2)) p3) (.ref a) (.ref s4.heap.objs.size)) _ _ _
  refine tail_any (ops := [.ref a, .ref s4.heap.objs.size]) ht.typeIs (PyProof.Rows.slot_tuple_getitem.lookup) ?_ (by with_unfolding_all rfl)
  exact getItem_tupRev ht (Heap.IsSliceOf.new _ u1 u2 u3) g1 g2 g3 (by omega) (newT_end I5 rfl (by rw [List.length_reverse]; exact hz) r.reverse q)⟩
def revA : PyData → Option PyData
  | .list ds => some (.list ds.reverse)
  | .tuple ds => some (.tuple ds.reverse)
  | _ => none
def eRevA (f : M PyData) : M PyData := bnd f fun d => lft (revA d)
theorem ev_revA (h : EV X W e f) : EV X W (.Subscript e (.Slice none none (some (.UnaryOp .USub (.Constant (.int 1) k p1) p2)) p3) pos) (eRevA f) := ⟨fun pins s σ H Q I ⟨B, ρ, F, I0, q⟩ => by
  obtain ⟨r, er, g1, g2⟩ := q
  unfold eRevA bnd at er
  cases ef : f ρ with
  | none => rw [ef] at er; cases er
  | some rf =>
    rw [ef] at er
    cases rf with
    | ex x ρ' =>
      cases er
      exact (pe_revT h).run pins s σ H Q I ⟨B, ρ, F, I0, _, ef, fun a ρ2 z => (by cases z), fun x' ρ2 z c d F' H' s' I' xo => by
        cases z
        exact g2 x ρ' rfl c d F' H' s' I' xo⟩
    | ok d ρ' =>
      have er' : lft (revA d) ρ' = some r := er
      cases d <;> simp only [revA, lft] at er' <;> try (cases er'; done)
      · cases er'
        refine (pe_revL h).run pins s σ H Q I ⟨B, ρ, F, I0, _, ef, fun a ρ2 z v F' H' s' I' r1 => ?_, fun x ρ2 z => by cases z⟩
        cases z
        cases r1 with
        | @lst a xs _ h1 h2 => exact ⟨a, xs, rfl, I'.sub.seq h1, fun p hp => (PL.of (I'.pr fun b F2 H2 s2 I2 r2 => g1 _ ρ' rfl b F2 H2 (s'.trans s2) I2 r2)).put I'.sub hp (dps_rev h2)⟩
      · cases er'
        refine (pe_revT h).run pins s σ H Q I ⟨B, ρ, F, I0, _, ef, fun a ρ2 z v F' H' s' I' r1 => ?_, fun x ρ2 z => by cases z⟩
        cases z
        cases r1 with
        | @tup a xs _ h1 h2 => exact ⟨a, xs, rfl, sqt_up I'.sub h1, (I'.pr fun b F2 H2 s2 I2 r2 => g1 _ ρ' rfl b F2 H2 (s'.trans s2) I2 r2).tup I'.sub (dps_rev h2)⟩⟩
end
end D3

namespace D3
open PySem PySem.Spec PyProof.Rows L2

/-! ### a < b < c < d -/
def tLnk {α : Type} (o : PyData → PyData → Option PyData) (x y : PyData) (g : Bool → M α) : M α := bnd (lft ((o x y).bind asB)) g
def tChn3 (o1 o2 o3 : PyData → PyData → Option PyData) (f g h i : M PyData) : M Bool := bnd f fun x => bnd g fun y => tLnk o1 x y fun k => if k then bnd h fun z => tLnk o2 y z fun k => if k then bnd i fun w => tLnk o3 z w ret else ret false else ret false
theorem lnk_some {α : Type} {o : PyData → PyData → Option PyData} {x y : PyData} {g : Bool → M α} {ρ : Ev} {r : Rs α} (h : tLnk o x y g ρ = some r) : ∃ k, o x y = some (.bool k) ∧ g k ρ = some r := by
  unfold tLnk bnd at h
  cases eo : o x y with
  | none => rw [eo] at h; cases h
  | some d =>
    rw [eo] at h
    cases d with
    | bool k => exact ⟨k, rfl, h⟩
    | _ => cases h
section
variable {X : Cx} {W : WX} {pins : List (Addr × Obj)} {B : Bs} {σ : L2.St} {ρ : Ev} {F H : Hp} {s : Shared}
/-- one comparison of the chain -/
theorem link_D {α β : Type} {R : RelD β α} {op : CmpOp} {o : PyData → PyData → Option PyData} {g : Bool → M α} {Q : β → Hp → Prop} {x y : PyData} {a b : V} {v u : Value} (ho : OpD X (compareOp op) o) (I : Inv X pins σ H s) (S : SI X.K B σ ρ F H) (ra : RelV a v) (rb : RelV b u) (ha : Bo X.K F H a x) (hb : Bo X.K F H b y)
    (q : tA X.K X.mg W R B σ ρ F (tLnk o x y g) Q) : wpAny (model X.prog X.w) X.A (compareOp op v u) (fun c s' => ∃ k F' H', c = .bool k ∧ Inv X pins σ H' s' ∧ SI X.K B σ ρ F' H' ∧ Same F F' ∧ tA X.K X.mg W R B σ ρ F' (g k) Q) X.xe s := by
  obtain ⟨r, er, g1, g2⟩ := q
  obtain ⟨k, eo, er'⟩ := lnk_some er
  refine thn (ho pins s σ H a b v u (fun z H3 => ∃ F3, z = .bl k ∧ SI X.K B σ ρ F3 H3 ∧ Same F F3) I ra rb ⟨F, x, y, _, S.sub, ha, hb, eo, S.pr fun c F3 H3 s3 I3 r3 => ?_⟩) fun c s3 ⟨z, H3, I3, r3, F3, ez, S3, s3'⟩ => ?_
  · cases r3
    exact ⟨F3, rfl, I3, s3⟩
  · subst ez
    exact ⟨k, F3, H3, r3, I3, S3, s3', r, er', fun a ρ' z b F4 H4 s4 => g1 a ρ' z b F4 H4 (s3'.trans s4), fun x ρ' z c d F4 H4 s4 => g2 x ρ' z c d F4 H4 (s3'.trans s4)⟩
end
section
variable {X : Cx} {W : WX} {a b c d : Expr} {f g h i : M PyData} {op1 op2 op3 : CmpOp} {o1 o2 o3 : PyData → PyData → Option PyData} {pos : Pos}
theorem tv_chain3 (h1 : OpD X (compareOp op1) o1) (h2 : OpD X (compareOp op2) o2) (h3 : OpD X (compareOp op3) o3) (ha : EV X W a f) (hb : EV X W b g) (hc : EV X W c h) (hd : EB X W d i) (hm : lastMarks [op1, op2, op3] [b, c, d] = false := by with_unfolding_all rfl) :
    TV X W (.Compare a [op1, op2, op3] [b, c, d] pos) (tChn3 o1 o2 o3 f g h i) := ⟨fun pins s σ H Q I ⟨B, ρ, F, I0, q⟩ => by
  refine isTrue_chain (thn (ha.run pins s σ H (fun v H1 => ∃ ρ1 F1 x, SI X.K B σ ρ1 F1 H1 ∧ Dp X.K F1 v x ∧ tA X.K X.mg W rB B σ ρ1 F1 (bnd g fun y => tLnk o1 x y fun k => if k then bnd h fun z => tLnk o2 y z fun k => if k then bnd i fun w => tLnk o3 z w ret else ret false else ret false) Q) I
    ⟨B, ρ, F, I0, q.bind fun x ρ1 v F1 H1 s1 I1 r1 q1 => ⟨ρ1, F1, x, I1, r1, q1⟩⟩) fun va s1 ⟨v, H1, J1, r1, ρ1, F1, x, S1, d1, q1⟩ => ?_) hm
  refine test_link (thn (hb.run pins s1 σ H1 (fun v H2 => ∃ ρ2 F2 y, SI X.K B σ ρ2 F2 H2 ∧ Same F1 F2 ∧ Dp X.K F2 v y ∧ tA X.K X.mg W rB B σ ρ2 F2 (tLnk o1 x y fun k => if k then bnd h fun z => tLnk o2 y z fun k => if k then bnd i fun w => tLnk o3 z w ret else ret false else ret false) Q) J1
    ⟨B, ρ1, F1, S1, q1.bind fun y ρ2 v F2 H2 s2 I2 r2 q2 => ⟨ρ2, F2, y, I2, s2, r2, q2⟩⟩) fun vb s2 ⟨u, H2, J2, r2, ρ2, F2, y, S2, t2, d2, q2⟩ => ?_)
  refine wpAny_mono (link_D h1 J2 S2 r1 r2 (.inl (dp_up t2 d1)) (.inl d2) q2) (fun c1 s3 ⟨k, F3, H3, ec, J3, S3, t3, q3⟩ => ?_) fun _ _ e => e
  subst ec
  refine wpAny_truthy_bool ?_
  cases k with
  | false =>
    rw [if_neg (by decide)] at q3 ⊢
    exact q3.ret (Same.refl _) S3 rfl |> fun z => ⟨H3, J3, z⟩
  | true =>
    rw [if_pos rfl] at q3 ⊢
    refine test_link (thn (hc.run pins s3 σ H3 (fun v H4 => ∃ ρ4 F4 z, SI X.K B σ ρ4 F4 H4 ∧ Same F3 F4 ∧ Dp X.K F4 v z ∧ tA X.K X.mg W rB B σ ρ4 F4 (tLnk o2 y z fun k => if k then bnd i fun w => tLnk o3 z w ret else ret false) Q) J3
      ⟨B, ρ2, F3, S3, q3.bind fun z ρ4 v F4 H4 s4 I4 r4 q4 => ⟨ρ4, F4, z, I4, s4, r4, q4⟩⟩) fun vc s4 ⟨w, H4, J4, r4, ρ4, F4, z, S4, t4, d4, q4⟩ => ?_)
    refine wpAny_mono (link_D h2 J4 S4 r2 r4 (.inl (dp_up t4 (dp_up t3 d2))) (.inl d4) q4) (fun c1 s5 ⟨k, F5, H5, ec, J5, S5, t5, q5⟩ => ?_) fun _ _ e => e
    subst ec
    refine wpAny_truthy_bool ?_
    cases k with
    | false =>
      rw [if_neg (by decide)] at q5 ⊢
      exact q5.ret (Same.refl _) S5 rfl |> fun z => ⟨H5, J5, z⟩
    | true =>
      rw [if_pos rfl] at q5 ⊢
      refine test_last (thn (hd.run pins s5 σ H5 (fun v H6 => ∃ ρ6 F6 w, SI X.K B σ ρ6 F6 H6 ∧ Same F5 F6 ∧ Bo X.K F6 H6 v w ∧ tA X.K X.mg W rB B σ ρ6 F6 (tLnk o3 z w ret) Q) J5
        ⟨B, ρ4, F5, S5, q5.bind fun w ρ6 v F6 H6 s6 I6 r6 q6 => ⟨ρ6, F6, w, I6, s6, r6, q6⟩⟩) fun vd s6 ⟨w', H6, J6, r6, ρ6, F6, w, S6, t6, d6, q6⟩ => ?_)
      refine wpAny_mono (link_D h3 J6 S6 r4 r6 (.inl (dp_up t6 (dp_up t5 d4))) d6 q6) (fun c1 s7 ⟨k, F7, H7, ec, J7, S7, t7, q7⟩ => ?_) fun _ _ e => e
      subst ec
      exact wpAny_truthy_bool ⟨H7, J7, q7.ret (Same.refl _) S7 rfl⟩⟩
end
/-- a body of which nothing is said -/
theorem bv_none {X : Cx} {W : WX} {st : List Stmt} : BV X W st fun _ => none := ⟨fun _ _ _ _ _ _ ⟨_, _, _, _, r, er, _⟩ => by cases er⟩
/-- a + b: ints, texts, tuples, lists -/
def addL : PyData → PyData → Option PyData := orF2 addD fun x y => (catD x y).map .list
theorem opd_addL {X : Cx} : OpD X (binaryOp .Add) addL := OpD.or opd_add opl_cat.d
end D3

namespace K66
open PySem PySem.Spec PyProof.Rows L2 D3

/-! ### what the defs do to data -/
def k_MOST_PROGRAMS : PyData := .int 4
def k_MOST_DEEDS : PyData := .int 5
def k_MOST_VARIABLES : PyData := .int 5
def sem_is_whole : M Fl := (sRet (eAn (eIsi .int (eLook 0)) (eNt (eIsi .bool (eLook 0)))))
def fn_is_whole : FV := runV 1 1 sem_is_whole
def sem_do_touch : M Fl := (sRet (eAn (eBin eqD (eIxB ixD 0 (eC (.int 1))) (eIxB ixD 1 (eC (.int 1)))) (eBin inA (eC (.str "w")) (eTup (aCons (eIxB ixD 0 (eC (.int 0))) (aCons (eIxB ixD 1 (eC (.int 0))) aNil))))))
def fn_do_touch : FV := runV 2 2 sem_do_touch
def sem_piece_of : M Fl := (sRet (eCall lenD (aOne (eFrz (eLc (iSeq (eVar 0)) (gNm 2) (tBin (cmpI fun i j => decide (i ≤ j)) (eVar 2) (eLook 1)) (eVar 2) [2])))))
def fn_piece_of : FV := runV 2 3 sem_piece_of
def sem__law_draw : M Fl := (seqS (sSet 1 (eC (.int 7)))
    (seqS (sFor (iSeq (eVar 0)) (gNm 2) (sSet 1 (eBin modD (eCall intD (aOne (eBin addD (eBin addD (eBin mulA (eVar 1) (eC (.int 48271))) (eBin modD (eCall absD (aOne (eCall intD (aOne (eLook 2))))) (eC (.int 65521)))) (eC (.int 1))))) (eC (.int 2147483647)))))
    (sRetL (eLst (aCons (eFrz (eLc (iSeq (eVar 0)) (gNm 2) (ret true) (eCall absD (aOne (eCall intD (aOne (eLook 2))))) [2])) (aCons (eUn negD (eC (.int 1))) (aCons (eC (.int 0)) (aCons (eVar 1) aNil))))))))
def fn__law_draw : FL := runL 1 3 sem__law_draw
def sem__law_take : M Fl := (seqS (eIf (tBin eqD (eIxB ixD 0 (eC (.int 2))) (eC (.int 0))) (seqS (sPut 0 (eBin addD (eIxB ixD 0 (eC (.int 1))) (eC (.int 1))) (eC (.int 1)))
    (seqS (eIf (tBin (cmpI fun i j => decide (i < j)) (eIxB ixD 0 (eC (.int 1))) (eCall lenD (aOne (eIxB ixD 0 (eC (.int 0)))))) (sPut 0 (eBin ixD (eIxB ixD 0 (eC (.int 0))) (eIxB ixD 0 (eC (.int 1)))) (eC (.int 2))) (ret .nx))
    (eIf (tBin eqD (eIxB ixD 0 (eC (.int 2))) (eC (.int 0))) (seqS (sPut 0 (eBin modD (eCall intD (aOne (eBin addD (eBin mulA (eIxB ixD 0 (eC (.int 3))) (eC (.int 48271))) (eC (.int 11))))) (eC (.int 2147483647))) (eC (.int 3)))
    (sPut 0 (eIxB ixD 0 (eC (.int 3))) (eC (.int 2)))) (ret .nx)))) (ret .nx))
    (seqS (sSet 2 (eBin modD (eCall intD (aOne (eIxB ixD 0 (eC (.int 2))))) (eLook 1)))
    (seqS (sPut 0 (eBin fdivD (eIxB ixD 0 (eC (.int 2))) (eLook 1)) (eC (.int 2)))
    (sRetO 2))))
def fn__law_take : FI := runI 1 3 sem__law_take
def sem__law_says : M Fl := (sRet (eAn (eIsi .bool (eLook 0)) (eBin eqD (eVar 0) (eLook 1))))
def fn__law_says : FV := runV 2 2 sem__law_says
def sem__law_pieces : M Fl := (seqS (sSetL 2 (eLst aNil))
    (seqS (sFor (iRg1 (aCons (eCall lenD (aOne (eLook 0))) aNil)) (gNm 3) (seqS (sSetL 4 (eBinL catD (eFrz (eBinL catD (eFrz (eLst (aCons (eC (.int 0)) aNil))) (eFrz (eCallL listD (aOne (eIxB ixD 1 (eLook 3))))))) (eFrz (eLst (aCons (eCall lenD (aOne (eIxB ixD 0 (eLook 3)))) aNil)))))
    (sApp 2 (eFrz (eLc (iRg2 (aCons (eC (.int 1)) (aCons (eCall lenD (aOne (eLook 4))) aNil))) (gNm 5) (ret true) (eSl slAD (eIxB ixD 0 (eLook 3)) (oSome (eIxB ixD 4 (eBin subD (eVar 5) (eC (.int 1))))) (oSome (eIxB ixD 4 (eLook 5)))) [5])))))
    (sRetO 2)))
def fn__law_pieces : FV := runV 2 6 sem__law_pieces
def sem__law_touch : M Fl := (sRet (eCall anyD (aOne (eFrz (eLc (iSeq (eVar 1)) (gNm 2) (ret true) (eCall anyD (aOne (eFrz (eLc (iSeq (eVar 0)) (gNm 3) (ret true) (eAn (eBin eqD (eIxB ixD 3 (eC (.int 1))) (eIxB ixD 2 (eC (.int 1)))) (eOrr (eBin eqD (eIxB ixD 3 (eC (.int 0))) (eC (.str "w"))) (eBin eqD (eIxB ixD 2 (eC (.int 0))) (eC (.str "w"))))) [3])))) [2])))))
def fn__law_touch : FV := runV 2 4 sem__law_touch
def sem__law_runs : M Fl := (seqS (sSetL 1 (eLst (aCons (eTup aNil) aNil)))
    (seqS (sFor (iRg1 (aCons (eCall sumD (aOne (eLook 0))) aNil)) (gNm 2) (seqS (sSetL 3 (eLst aNil))
    (seqS (sFor (iSeq (eVar 1)) (gNm 4) (sSetL 3 (eBinL catD (eVar 3) (eFrz (eLc (iRg1 (aCons (eCall lenD (aOne (eLook 0))) aNil)) (gNm 5) (tBin (cmpI fun i j => decide (i < j)) (eMt cntD (eVar 4) (eVar 5)) (eIxB ixD 0 (eLook 5))) (eBin addD (eVar 4) (eTup (aCons (eVar 5) aNil))) [5])))))
    (sSet 1 (eVar 3)))))
    (sRetO 1)))
def fn__law_runs : FV := runV 1 6 sem__law_runs
def sem__law_number : M Fl := (sRet (eCall lenD (aOne (eFrz (eLc (iSeq (eIxB ixD 0 (eLook 1))) (gNm 3) (tBin (cmpI fun i j => decide (i ≤ j)) (eVar 3) (eLook 2)) (eVar 3) [3])))))
def fn__law_number : FV := runV 3 4 sem__law_number
def sem_is_deed : M Fl := (seqS (eIf (tOrr (tNt (tTru (eIsi .tuple (eLook 0)))) (tOrr (tBin neD (eCall lenD (aOne (eLook 0))) (eC (.int 2))) (tOrr (tNt (tTru (eIsi .str (eIxB ixD 0 (eC (.int 0)))))) (tBin notInA (eIxB ixD 0 (eC (.int 0))) (eTup (aCons (eC (.str "r")) (aCons (eC (.str "w")) aNil))))))) (sRet (eC (.bool false))) (ret .nx))
    (sRet (eAn (eFn fn_is_whole (aCons (eIxB ixD 0 (eC (.int 1))) aNil)) (eChain (cmpI fun i j => decide (i ≤ j)) (cmpI fun i j => decide (i < j)) (eC (.int 0)) (eIxB ixD 0 (eC (.int 1))) (eC k_MOST_VARIABLES)))))
def fn_is_deed : FV := runV 1 1 sem_is_deed
def sem_is_places : M Fl := (seqS (eIf (tOrr (tNt (tTru (eIsi .tuple (eLook 1)))) (tNt (tTru (eCall allD (aOne (eFrz (eLc (iSeq (eVar 1)) (gNm 4) (ret true) (eAn (eFn fn_is_whole (aCons (eVar 4) aNil)) (eChain (cmpI fun i j => decide (i ≤ j)) (cmpI fun i j => decide (i < j)) (eC (.int 1)) (eVar 4) (eCall lenD (aOne (eLook 0))))) [4]))))))) (sRet (eC (.bool false))) (ret .nx))
    (sRet (eCall allD (aOne (eFrz (eLc (iZp (aCons (eVar 1) (aCons (eSlB slAD 1 (oSome (eC (.int 1))) (ret none)) aNil))) (gTp 2 (gCn (gNm 2) (gCn (gNm 3) gN0))) (ret true) (eBin (cmpI fun i j => decide (i < j)) (eVar 2) (eLook 3)) [2, 3]))))))
def fn_is_places : FV := runV 2 5 sem_is_places
def sem_rows_touch : M Fl := (sRet (eCall anyD (aOne (eFrz (eLc2 (iSeq (eVar 0)) (gNm 2) (ret true) (iSeq (eVar 1)) (gNm 3) (ret true) (eFn fn_do_touch (aCons (eVar 2) (aCons (eVar 3) aNil))) [2, 3] [3])))))
def fn_rows_touch : FV := runV 2 4 sem_rows_touch
def sem_is_names : M Fl := (seqS (eIf (tOrr (tNt (tTru (eIsi .tuple (eLook 2)))) (tOrr (tBin eqD (eCall lenD (aOne (eLook 2))) (eC (.int 0))) (tNt (tTru (eCall allD (aOne (eFrz (eLc (iSeq (eVar 2)) (gNm 3) (ret true) (eFn fn_is_whole (aCons (eVar 3) aNil)) [3])))))))) (sRet (eC (.bool false))) (ret .nx))
    (sRet (eAn (eCall allD (aOne (eFrz (eLc (iSeq (eVar 2)) (gNm 3) (ret true) (eAn (eChain (cmpI fun i j => decide (i ≤ j)) (cmpI fun i j => decide (i < j)) (eC (.int 0)) (eVar 3) (eCall lenD (aOne (eLook 0)))) (eBin neD (eVar 3) (eLook 1))) [3])))) (eBin eqD (eSlen (eLook 2)) (eCall lenD (aOne (eLook 2)))))))
def fn_is_names : FV := runV 3 4 sem_is_names
def sem__law_texts : M Fl := (seqS (sPar [2, 3] (mVal (eBin addD (eC (.int 2)) (eFnI fn__law_take 0 (aCons (eC (.int 4)) aNil))) (mOwn (eLst aNil) (ret []))))
    (seqS (sFor (iRg1 (aCons (eBin addD (eC (.int 1)) (eFnI fn__law_take 0 (aCons (eVar 1) aNil))) aNil)) (gNm 4) (sApp 3 (eCall tupleD (aOne (eFrz (eLc (iRg1 (aCons (eBin addD (eC (.int 1)) (eFnI fn__law_take 0 (aCons (eC (.int 3)) aNil))) aNil)) (gNm 5) (ret true) (eTup (aCons (eBin ixD (eFrz (eLst (aCons (eC (.str "r")) (aCons (eC (.str "w")) aNil)))) (eFnI fn__law_take 0 (aCons (eC (.int 2)) aNil))) (aCons (eFnI fn__law_take 0 (aCons (eVar 2) aNil)) aNil))) [5]))))))
    (sRet (eCall tupleD (aOne (eLook 3))))))
def fn__law_texts : FI := runI 1 6 sem__law_texts
def sem__law_cut : M Fl := (sRet (eCall tupleD (aOne (eFrz (eLc (iSeq (eVar 1)) (gNm 2) (ret true) (eCall tupleD (aOne (eFrz (eLc (iRg2 (aCons (eC (.int 1)) (aCons (eCall lenD (aOne (eLook 2))) aNil))) (gNm 3) (tBin eqD (eFnI fn__law_take 0 (aCons (eC (.int 2)) aNil)) (eC (.int 0))) (eVar 3) [3])))) [2])))))
def fn__law_cut : FI := runI 1 4 sem__law_cut
def sem__law_in_order : M Fl := (seqS (sPar [3, 4, 5] (mVal (eFn fn__law_pieces (aCons (eVar 0) (aCons (eVar 1) aNil))) (mOwn (eRep (eLst (aCons (eC (.int 0)) aNil)) (eCall lenD (aOne (eLook 0)))) (mOwn (eLst aNil) (ret [])))))
    (seqS (sFor (iSeq (eVar 2)) (gNm 6) (seqS (sApp 5 (eTup (aCons (eVar 6) (aCons (eBin ixD (eIxB ixD 3 (eLook 6)) (eIxB ixD 4 (eLook 6))) aNil))))
    (sPut 4 (eBin addD (eIxB ixD 4 (eLook 6)) (eC (.int 1))) (eVar 6))))
    (seqS (sSetL 7 (eLst aNil))
    (seqS (sFor (iRg1 (aCons (eCall lenD (aOne (eLook 5))) aNil)) (gNm 8) (sSetL 7 (eBinL catD (eVar 7) (eFrz (eLc (iRg1 (aCons (eVar 8) aNil)) (gNm 11) (tAn (tBin neD (eBin ixD (eIxB ixD 5 (eLook 11)) (eC (.int 0))) (eBin ixD (eIxB ixD 5 (eLook 8)) (eC (.int 0)))) (tTru (eFn fn__law_touch (aCons (eBin ixD (eIxB ixD 5 (eLook 11)) (eC (.int 1))) (aCons (eBin ixD (eIxB ixD 5 (eLook 8)) (eC (.int 1))) aNil))))) (eTup (aCons (eBin ixD (eIxB ixD 5 (eLook 11)) (eC (.int 0))) (aCons (eBin ixD (eIxB ixD 5 (eLook 8)) (eC (.int 0))) aNil))) [11])))))
    (seqS (sSetL 9 (eLrg (eCall lenD (aOne (eLook 0)))))
    (seqS (sFor (iSeq (eVar 0)) (gNm 10) (sSetL 9 (eLc (iSeq (eVar 9)) (gNm 6) (tTru (eCall anyD (aOne (eFrz (eLc (iSeq (eVar 7)) (gTp 2 (gCn (gNm 12) (gCn (gNm 13) gN0))) (ret true) (eAn (eBin eqD (eVar 12) (eLook 6)) (eBin inA (eVar 13) (eLook 9))) [12, 13]))))) (eVar 6) [6])))
    (sRet (eBin eqD (eVar 9) (eFrz (eLst aNil))))))))))
def fn__law_in_order : FV := runV 3 14 sem__law_in_order
def sem__law_is_ring : M Fl := (seqS (eIf (tOrr (tNt (tTru (eIsi .tuple (eLook 2)))) (tOrr (tBin neD (eCall lenD (aOne (eLook 2))) (eC (.int 5))) (tOrr (tNt (tTru (eIsi .str (eIxB ixD 2 (eC (.int 0)))))) (tOrr (tBin neD (eIxB ixD 2 (eC (.int 0))) (eC (.str "ring"))) (tNt (tTru (eIsi .tuple (eIxB ixD 2 (eC (.int 3)))))))))) (sRet (eC (.bool false))) (ret .nx))
    (seqS (sAsg (eSlB slAD 2 (oSome (eC (.int 1))) (ret none)) (gTp 4 (gCn (gNm 3) (gCn (gNm 4) (gCn (gNm 5) (gCn (gNm 6) gN0))))))
    (seqS (eIf (tOrr (tBin eqD (eVar 5) (eTup aNil)) (tNt (tTru (eCall allD (aOne (eFrz (eLc (iSeq (eBin addD (eTup (aCons (eVar 3) (aCons (eVar 4) (aCons (eVar 6) aNil)))) (eLook 5))) (gNm 8) (ret true) (eAn (eIsi .int (eLook 8)) (eNt (eIsi .bool (eLook 8)))) [8]))))))) (sRet (eC (.bool false))) (ret .nx))
    (seqS (eIf (tOrr (tNt (tChn (cmpI fun i j => decide (i ≤ j)) (cmpI fun i j => decide (i < j)) (eC (.int 0)) (eVar 3) (eCall lenD (aOne (eLook 0))))) (tOrr (tNt (tChn3 (cmpI fun i j => decide (i ≤ j)) (cmpI fun i j => decide (i < j)) (cmpI fun i j => decide (i < j)) (eC (.int 0)) (eVar 4) (eVar 6) (eCall lenD (aOne (eIxB ixD 0 (eLook 3)))))) (tBin neD (eSlen (eBin addD (eVar 5) (eTup (aCons (eVar 3) aNil)))) (eBin addD (eCall lenD (aOne (eLook 5))) (eC (.int 1)))))) (sRet (eC (.bool false))) (ret .nx))
    (seqS (eIf (tOrr (tNt (tTru (eCall allD (aOne (eFrz (eLc (iSeq (eVar 5)) (gNm 9) (ret true) (eChain (cmpI fun i j => decide (i ≤ j)) (cmpI fun i j => decide (i < j)) (eC (.int 0)) (eVar 9) (eCall lenD (aOne (eLook 0)))) [9])))))) (tBin eqD (eFn fn__law_number (aCons (eVar 1) (aCons (eVar 3) (aCons (eVar 4) aNil)))) (eFn fn__law_number (aCons (eVar 1) (aCons (eVar 3) (aCons (eVar 6) aNil)))))) (sRet (eC (.bool false))) (ret .nx))
    (seqS (eIf (tOrr (tNt (tTru (eFn fn__law_touch (aCons (eFrz (eLst (aCons (eBin ixD (eIxB ixD 0 (eLook 3)) (eLook 4)) aNil))) (aCons (eIxB ixD 0 (eIxB ixD 5 (eC (.int 0)))) aNil))))) (tNt (tTru (eFn fn__law_touch (aCons (eFrz (eLst (aCons (eBin ixD (eIxB ixD 0 (eLook 3)) (eLook 6)) aNil))) (aCons (eIxB ixD 0 (eIxB ixD 5 (eUn negD (eC (.int 1))))) aNil)))))) (sRet (eC (.bool false))) (ret .nx))
    (sRet (eCall allD (aOne (eFrz (eLc (iRg2 (aCons (eC (.int 1)) (aCons (eCall lenD (aOne (eLook 5))) aNil))) (gNm 7) (ret true) (eFn fn__law_touch (aCons (eIxB ixD 0 (eIxB ixD 5 (eBin subD (eVar 7) (eC (.int 1))))) (aCons (eIxB ixD 0 (eIxB ixD 5 (eLook 7))) aNil))) [7])))))))))))
def fn__law_is_ring : FV := runV 3 10 sem__law_is_ring
def sem__law_odd_texts : M Fl := (seqS (sSetL 2 (eLst (aCons (eC .none) (aCons (eTup aNil) (aCons (eC (.int 5)) (aCons (eFrz (eCallL listD (aOne (eLook 1)))) (aCons (eTup (aCons (eTup aNil) aNil)) (aCons (eTup (aCons (eTup (aCons (eTup (aCons (eC (.str "x")) (aCons (eC (.int 0)) aNil))) aNil)) aNil)) (aCons (eTup (aCons (eTup (aCons (eTup (aCons (eC (.str "r")) (aCons (eC (.int 5)) aNil))) aNil)) aNil)) (aCons (eTup (aCons (eTup (aCons (eTup (aCons (eC (.str "r")) (aCons (eC (.bool true)) aNil))) aNil)) aNil)) (aCons (eTup (aCons (eTup (aCons (eTup (aCons (eC (.str "r")) (aCons (eC (.int 0)) (aCons (eC (.int 0)) aNil)))) aNil)) aNil)) (aCons (eTup (aCons (eFrz (eLst (aCons (eTup (aCons (eC (.str "r")) (aCons (eC (.int 0)) aNil))) aNil))) aNil)) (aCons (eTup (aCons (eTup (aCons (eFrz (eLst (aCons (eC (.str "r")) (aCons (eC (.int 0)) aNil)))) aNil)) aNil)) aNil)))))))))))))
    (sRet (eBin ixD (eFrz (eBinL catD (eVar 2) (eFrz (eLst (aCons (eBin addD (eVar 1) (eTup (aCons (eC .none) aNil))) (aCons (eBin mulA (eTup (aCons (eTup (aCons (eTup (aCons (eC (.str "r")) (aCons (eC (.int 0)) aNil))) aNil)) aNil)) (eC (.int 5))) (aCons (eTup (aCons (eBin mulA (eTup (aCons (eTup (aCons (eC (.str "r")) (aCons (eC (.int 0)) aNil))) aNil)) (eC (.int 6))) aNil)) (aCons (eTup (aCons (eTup (aCons (eC (.str "r")) (aCons (eC (.int 0)) aNil))) aNil)) aNil)))))))) (eFnI fn__law_take 0 (aCons (eC (.int 15)) aNil)))))
def fn__law_odd_texts : FI := runI 1 3 sem__law_odd_texts
def sem__law_odd_cut : M Fl := (seqS (sSetL 3 (eLst (aCons (eC .none) (aCons (eC (.int 5)) (aCons (eFrz (eCallL listD (aOne (eLook 2)))) (aCons (eSlB slAD 2 (ret none) (oSome (eUn negD (eC (.int 1))))) (aCons (eBin addD (eVar 2) (eTup (aCons (eTup aNil) aNil))) (aCons (eBin addL (eTup (aCons (eTup (aCons (eC (.int 0)) aNil)) aNil)) (eSlB slAD 2 (oSome (eC (.int 1))) (ret none))) (aCons (eBin addL (eTup (aCons (eTup (aCons (eCall lenD (aOne (eIxB ixD 1 (eC (.int 0))))) aNil)) aNil)) (eSlB slAD 2 (oSome (eC (.int 1))) (ret none))) (aCons (eBin addL (eTup (aCons (eTup (aCons (eC (.bool true)) aNil)) aNil)) (eSlB slAD 2 (oSome (eC (.int 1))) (ret none))) (aCons (eBin addL (eTup (aCons (eFrz (eLst aNil)) aNil)) (eSlB slAD 2 (oSome (eC (.int 1))) (ret none))) (aCons (eBin addL (eTup (aCons (eC .none) aNil)) (eSlB slAD 2 (oSome (eC (.int 1))) (ret none))) aNil))))))))))))
    (sRet (eIxB ixD 3 (eFnI fn__law_take 0 (aCons (eC (.int 10)) aNil)))))
def fn__law_odd_cut : FI := runI 2 4 sem__law_odd_cut
def sem_is_text : M Fl := (sRet (eAn (eIsi .tuple (eLook 0)) (eAn (eChain (cmpI fun i j => decide (i ≤ j)) (cmpI fun i j => decide (i ≤ j)) (eC (.int 1)) (eCall lenD (aOne (eLook 0))) (eC k_MOST_DEEDS)) (eCall allD (aOne (eFrz (eLc (iSeq (eVar 0)) (gNm 1) (ret true) (eFn fn_is_deed (aCons (eVar 1) aNil)) [1])))))))
def fn_is_text : FV := runV 1 2 sem_is_text
def sem_joined_to : M Fl := (seqS (sSetL 3 (eLc (iRg1 (aCons (eCall lenD (aOne (eLook 0))) aNil)) (gNm 7) (tBin neD (eVar 7) (eLook 1)) (eVar 7) [7]))
    (seqS (sSetOb 4 (eDc (iSeq (eVar 3)) (gNm 7) (tTru (eFn fn_rows_touch (aCons (eFrz (eLst (aCons (eBin ixD (eIxB ixD 0 (eLook 1)) (eLook 2)) aNil))) (aCons (eIxB ixD 0 (eLook 7)) aNil)))) (eVar 7) (eTup (aCons (eVar 7) aNil)) [7]))
    (seqS (sSetL 5 (eDkSorted 4))
    (seqS (sSet 6 (eC (.int 0)))
    (seqS (whlD (tBin (cmpI fun i j => decide (i < j)) (eVar 6) (eCall lenD (aOne (eLook 5)))) (seqS (sFor (iSeq (eVar 3)) (gNm 7) (eIf (tAn (tDkIn 4 true (eVar 7)) (tTru (eFn fn_rows_touch (aCons (eIxB ixD 0 (eIxB ixD 5 (eLook 6))) (aCons (eIxB ixD 0 (eLook 7)) aNil))))) (seqS (sDkPut 4 (eBin addD (eDGet 4 (eIxB ixD 5 (eLook 6))) (eTup (aCons (eVar 7) aNil))) (eVar 7))
    (sApp 5 (eVar 7))) (ret .nx)))
    (sAug (fun i j => i + j) 6 (eC (.int 1)))) fuelN)
    (sRetOb 4))))))
def fn_joined_to : FO := runO 3 8 sem_joined_to
def sem_is_ring : M Fl := (seqS (eIf (tOrr (tNt (tTru (eIsi .tuple (eLook 2)))) (tOrr (tBin neD (eCall lenD (aOne (eLook 2))) (eC (.int 5))) (tOrr (tNt (tTru (eIsi .str (eIxB ixD 2 (eC (.int 0)))))) (tBin neD (eIxB ixD 2 (eC (.int 0))) (eC (.str "ring")))))) (sRet (eC (.bool false))) (ret .nx))
    (seqS (sAsg (eVar 2) (gTp 5 (gCn (gNm 3) (gCn (gNm 4) (gCn (gNm 5) (gCn (gNm 6) (gCn (gNm 7) gN0)))))))
    (seqS (eIf (tOrr (tNt (tTru (eCall allD (aOne (eFrz (eLc (iSeq (eTup (aCons (eVar 4) (aCons (eVar 5) (aCons (eVar 7) aNil))))) (gNm 10) (ret true) (eFn fn_is_whole (aCons (eVar 10) aNil)) [10])))))) (tOrr (tNt (tChn (cmpI fun i j => decide (i ≤ j)) (cmpI fun i j => decide (i < j)) (eC (.int 0)) (eVar 4) (eCall lenD (aOne (eLook 0))))) (tNt (tTru (eFn fn_is_names (aCons (eVar 0) (aCons (eVar 4) (aCons (eVar 6) aNil)))))))) (sRet (eC (.bool false))) (ret .nx))
    (seqS (eIf (tOrr (tNt (tChn3 (cmpI fun i j => decide (i ≤ j)) (cmpI fun i j => decide (i < j)) (cmpI fun i j => decide (i < j)) (eC (.int 0)) (eVar 5) (eVar 7) (eCall lenD (aOne (eIxB ixD 0 (eLook 4)))))) (tBin eqD (eFn fn_piece_of (aCons (eIxB ixD 1 (eLook 4)) (aCons (eVar 5) aNil))) (eFn fn_piece_of (aCons (eIxB ixD 1 (eLook 4)) (aCons (eVar 7) aNil))))) (sRet (eC (.bool false))) (ret .nx))
    (seqS (eIf (tOrr (tNt (tTru (eFn fn_rows_touch (aCons (eFrz (eLst (aCons (eBin ixD (eIxB ixD 0 (eLook 4)) (eLook 5)) aNil))) (aCons (eIxB ixD 0 (eIxB ixD 6 (eC (.int 0)))) aNil))))) (tNt (tTru (eFn fn_rows_touch (aCons (eFrz (eLst (aCons (eBin ixD (eIxB ixD 0 (eLook 4)) (eLook 7)) aNil))) (aCons (eIxB ixD 0 (eIxB ixD 6 (eUn negD (eC (.int 1))))) aNil)))))) (sRet (eC (.bool false))) (ret .nx))
    (sRet (eCall allD (aOne (eFrz (eLc (iZp (aCons (eVar 6) (aCons (eSlB slAD 6 (oSome (eC (.int 1))) (ret none)) aNil))) (gTp 2 (gCn (gNm 8) (gCn (gNm 9) gN0))) (ret true) (eFn fn_rows_touch (aCons (eIxB ixD 0 (eLook 8)) (aCons (eIxB ixD 0 (eLook 9)) aNil))) [8, 9]))))))))))
def fn_is_ring : FV := runV 3 11 sem_is_ring
def sem_is_texts : M Fl := (sRet (eAn (eIsi .tuple (eLook 0)) (eAn (eChain (cmpI fun i j => decide (i ≤ j)) (cmpI fun i j => decide (i ≤ j)) (eC (.int 1)) (eCall lenD (aOne (eLook 0))) (eC k_MOST_PROGRAMS)) (eCall allD (aOne (eFrz (eLc (iSeq (eVar 0)) (gNm 1) (ret true) (eFn fn_is_text (aCons (eVar 1) aNil)) [1])))))))
def fn_is_texts : FV := runV 1 2 sem_is_texts
def sem_ring_between : M Fl := (seqS (sSetOb 4 (eFnO fn_joined_to (aCons (eVar 0) (aCons (eVar 1) (aCons (eVar 2) aNil)))))
    (seqS (sSetL 5 (eLc (iSeq (eFrz (eDkSorted 4))) (gNm 6) (tTru (eFn fn_rows_touch (aCons (eFrz (eLst (aCons (eBin ixD (eIxB ixD 0 (eLook 1)) (eLook 3)) aNil))) (aCons (eIxB ixD 0 (eLook 6)) aNil)))) (eDGet 4 (eVar 6)) [6]))
    (sRet (eIf (tBin (cmpI fun i j => decide (j < i)) (eCall lenD (aOne (eLook 5))) (eC (.int 0))) (eIxB ixD 5 (eC (.int 0))) (eC .none)))))
def fn_ring_between : FV := runV 4 7 sem_ring_between
def sem_check_texts : M Fl := (eIf (tNt (tTru (eFn fn_is_texts (aCons (eVar 0) aNil)))) (sRaise "Malformed") (ret .nx))
def fn_check_texts : FV := runV 1 1 sem_check_texts
def sem_first_ring : M Fl := (seqS (sFor (iEn (aCons (eVar 0) aNil)) (gTp 2 (gCn (gNm 2) (gCn (gNm 3) gN0))) (sFor (iRg1 (aCons (eCall lenD (aOne (eLook 3))) aNil)) (gNm 4) (sFor (iRg1 (aCons (eVar 4) aNil)) (gNm 5) (seqS (sSet 6 (eFn fn_ring_between (aCons (eVar 0) (aCons (eVar 2) (aCons (eVar 5) (aCons (eVar 4) aNil))))))
    (eIf (tAn (tBin notND (eVar 6) (eC .none)) (tBin neD (eFn fn_piece_of (aCons (eIxB ixD 1 (eLook 2)) (aCons (eVar 5) aNil))) (eFn fn_piece_of (aCons (eIxB ixD 1 (eLook 2)) (aCons (eVar 4) aNil))))) (sRet (eTup (aCons (eC (.str "ring")) (aCons (eVar 2) (aCons (eVar 5) (aCons (eVar 6) (aCons (eVar 4) aNil))))))) (ret .nx))))))
    (sRet (eC .none)))
def fn_first_ring : FV := runV 2 7 sem_first_ring
def sem_is_cut : M Fl := (seqS (sDrop (eFn fn_check_texts (aCons (eVar 0) aNil)))
    (seqS (eIf (tOrr (tNt (tTru (eIsi .tuple (eLook 1)))) (tBin neD (eCall lenD (aOne (eLook 1))) (eCall lenD (aOne (eLook 0))))) (sRet (eC (.bool false))) (ret .nx))
    (sRet (eCall allD (aOne (eFrz (eLc (iZp (aCons (eVar 0) (aCons (eVar 1) aNil))) (gTp 2 (gCn (gNm 2) (gCn (gNm 3) gN0))) (ret true) (eFn fn_is_places (aCons (eVar 2) (aCons (eVar 3) aNil))) [2, 3])))))))
def fn_is_cut : FV := runV 2 4 sem_is_cut
def sem_check_cut : M Fl := (eIf (tNt (tTru (eFn fn_is_cut (aCons (eVar 0) (aCons (eVar 1) aNil))))) (sRaise "Malformed") (ret .nx))
def fn_check_cut : FV := runV 2 2 sem_check_cut
def sem__law_bent (self : FI) : M Fl := (seqS (eIf (tAn (tTru (eIsi .tuple (eLook 1))) (tAn (tBin (cmpI fun i j => decide (j < i)) (eCall lenD (aOne (eLook 1))) (eC (.int 0))) (tBin gtA (eFnI fn__law_take 0 (aCons (eC (.int 4)) aNil)) (eC (.int 0))))) (seqS (sSet 2 (eFnI fn__law_take 0 (aCons (eCall lenD (aOne (eLook 1))) aNil)))
    (sRet (eBin addL (eBin addL (eSlB slAD 1 (ret none) (oSome (eVar 2))) (eTup (aCons (eFnI self 0 (aCons (eIxB ixD 1 (eLook 2)) aNil)) aNil))) (eSlB slAD 1 (oSome (eBin addD (eVar 2) (eC (.int 1)))) (ret none))))) (ret .nx))
    (seqS (eIf (tTru (eIsi .tuple (eLook 1))) (sRet (eBin ixD (eFrz (eLst (aCons (eFrz (eCallL listD (aOne (eLook 1)))) (aCons (eBin addL (eVar 1) (eSlB slAD 1 (ret none) (oSome (eC (.int 1))))) (aCons (eSlB slAD 1 (ret none) (oSome (eUn negD (eC (.int 1))))) (aCons (eRevA (eVar 1)) (aCons (eC .none) (aCons (eTup aNil) aNil)))))))) (eFnI fn__law_take 0 (aCons (eC (.int 6)) aNil)))) (ret .nx))
    (seqS (eIf (tTru (eIsi .str (eLook 1))) (sRet (eBin ixD (eFrz (eLst (aCons (eC (.str "ring")) (aCons (eC (.str "rings")) (aCons (eC .none) aNil))))) (eFnI fn__law_take 0 (aCons (eC (.int 3)) aNil)))) (ret .nx))
    (sRet (eBin ixD (eFrz (eLst (aCons (eC (.int 0)) (aCons (eC (.int 1)) (aCons (eBin addD (eVar 1) (eC (.int 1))) (aCons (eBin subD (eVar 1) (eC (.int 1))) (aCons (eC (.bool true)) (aCons (eC .none) aNil)))))))) (eFnI fn__law_take 0 (aCons (eC (.int 6)) aNil)))))))
def fn__law_bent_n : Nat → FI
  | 0 => runI 1 3 fun _ => none
  | n + 1 => runI 1 3 (sem__law_bent (fn__law_bent_n n))
def fn__law_bent : FI := fn__law_bent_n 5
theorem len__law_bent_n : ∀ n es ds r, fn__law_bent_n n es ds = some r → ds.length = 1
  | 0 => runI_len
  | _ + 1 => runI_len
def sem_cut_ring : M Fl := (seqS (sDrop (eFn fn_check_cut (aCons (eVar 0) (aCons (eVar 1) aNil))))
    (sRet (eFn fn_first_ring (aCons (eVar 0) (aCons (eVar 1) aNil)))))
def fn_cut_ring : FV := runV 2 2 sem_cut_ring
def sem_takes_cut_ring : M Fl := (seqS (sDrop (eFn fn_check_cut (aCons (eVar 0) (aCons (eVar 1) aNil))))
    (sRet (eFn fn_is_ring (aCons (eVar 0) (aCons (eVar 1) (aCons (eVar 2) aNil))))))
def fn_takes_cut_ring : FV := runV 3 3 sem_takes_cut_ring
def sem_ring_run : M Fl := (seqS (sDrop (eFn fn_check_cut (aCons (eVar 0) (aCons (eVar 1) aNil))))
    (seqS (eIf (tNt (tTru (eIsi .tuple (eLook 2)))) (sRaise "Malformed") (ret .nx))
    (seqS (eIf (tNt (tTru (eFn fn_is_ring (aCons (eVar 0) (aCons (eVar 1) (aCons (eVar 2) aNil)))))) (sRaiseF "Refused" "reason" (.str "none")) (ret .nx))
    (seqS (sAsg (eVar 2) (gTp 5 (gCn (gNm 3) (gCn (gNm 4) (gCn (gNm 5) (gCn (gNm 6) (gCn (gNm 3) gN0)))))))
    (seqS (sSet 7 (eBin addD (eFn fn_piece_of (aCons (eIxB ixD 1 (eLook 4)) (aCons (eVar 5) aNil))) (eC (.int 1))))
    (seqS (sSetL 8 (eLc (iSeq (eVar 1)) (gNm 11) (ret true) (eBin addD (eCall lenD (aOne (eLook 11))) (eC (.int 1))) [11]))
    (seqS (sSetL 9 (eRep (eLst (aCons (eVar 4) aNil)) (eLook 7)))
    (seqS (sFor (iSeq (eVar 6)) (gNm 10) (sExt 9 (eFrz (eRep (eLst (aCons (eVar 10) aNil)) (eIxB ixD 8 (eLook 10))))))
    (seqS (sFor (iRg1 (aCons (eCall lenD (aOne (eLook 0))) aNil)) (gNm 10) (eIf (tBin notInA (eVar 10) (eLook 6)) (sExt 9 (eFrz (eRep (eLst (aCons (eVar 10) aNil)) (eIf (tBin eqD (eVar 10) (eLook 4)) (eBin subD (eIxB ixD 8 (eLook 10)) (eLook 7)) (eIxB ixD 8 (eLook 10)))))) (ret .nx)))
    (sRet (eCall tupleD (aOne (eLook 9)))))))))))))
def fn_ring_run : FV := runV 3 12 sem_ring_run
def sem__law_told : M Fl := (sTryM (seqS (eIf (tBin eqD (eVar 0) (eC (.int 0))) (sRet (eFn fn_cut_ring (aCons (eVar 1) (aCons (eVar 2) aNil)))) (ret .nx))
    (sRet (eIf (tBin eqD (eVar 0) (eC (.int 1))) (eFn fn_takes_cut_ring (aCons (eVar 1) (aCons (eVar 2) (aCons (eVar 3) aNil)))) (eFn fn_ring_run (aCons (eVar 1) (aCons (eVar 2) (aCons (eVar 3) aNil))))))) [((mtOne "Malformed" ["Refused"]), xPl (sRet (eC (.str "<malformed>")))), ((mtOne "Refused" []), xRet 4 (xAdd (xAdd (xC (.str "<")) (xFld "Refused" "reason")) (xC (.str ">"))))])
def fn__law_told : FV := runV 4 5 sem__law_told
def sem_law : M Fl := (seqS (sSetL 1 (eFnL fn__law_draw (aCons (eVar 0) aNil)))
    (seqS (sFor (iRg1 (aCons (eC (.int 2)) aNil)) (gNm 2) (seqS (sSet 3 (eFnI fn__law_texts 1 (aCons (eC (.int 3)) aNil)))
    (seqS (sSet 4 (eFnI fn__law_cut 1 (aCons (eVar 3) aNil)))
    (seqS (sSetL 5 (eLc (iSeq (eVar 4)) (gNm 20) (ret true) (eBin addD (eCall lenD (aOne (eLook 20))) (eC (.int 1))) [20]))
    (seqS (sSet 6 (eFn fn_cut_ring (aCons (eVar 3) (aCons (eVar 4) aNil))))
    (seqS (eIf (tAn (tBin (cmpI fun i j => decide (i < j)) (eCall sumD (aOne (eLook 5))) (eC (.int 8))) (tBin neD (eBin isND (eVar 6) (eC .none)) (eCall allD (aOne (eFrz (eLc (iSeq (eFn fn__law_runs (aCons (eVar 5) aNil))) (gNm 22) (ret true) (eFn fn__law_in_order (aCons (eVar 3) (aCons (eVar 4) (aCons (eVar 22) aNil)))) [22])))))) (sRet (eC (.bool false))) (ret .nx))
    (seqS (eIf (tBin notND (eVar 6) (eC .none)) (seqS (eIf (tNt (tTru (eFn fn__law_is_ring (aCons (eVar 3) (aCons (eVar 4) (aCons (eVar 6) aNil)))))) (sRet (eC (.bool false))) (ret .nx))
    (seqS (sAsg (eSlB slAD 6 (oSome (eC (.int 1))) (ret none)) (gTp 4 (gCn (gNm 7) (gCn (gNm 8) (gCn (gNm 9) (gCn (gNm 10) gN0))))))
    (seqS (sSet 11 (eBin addD (eFn fn__law_number (aCons (eVar 4) (aCons (eVar 7) (aCons (eVar 8) aNil)))) (eC (.int 1))))
    (seqS (sSet 12 (eBin mulA (eTup (aCons (eVar 7) aNil)) (eLook 11)))
    (seqS (sFor (iSeq (eVar 9)) (gNm 13) (sSet 12 (eBin addD (eVar 12) (eBin mulA (eTup (aCons (eVar 13) aNil)) (eIxB ixD 5 (eLook 13))))))
    (seqS (sFor (iRg1 (aCons (eCall lenD (aOne (eLook 3))) aNil)) (gNm 13) (eIf (tBin notInA (eVar 13) (eLook 9)) (sSet 12 (eBin addD (eVar 12) (eBin mulA (eTup (aCons (eVar 13) aNil)) (eBin subD (eIxB ixD 5 (eLook 13)) (eIf (tBin eqD (eVar 13) (eLook 7)) (eVar 11) (eC (.int 0))))))) (ret .nx)))
    (eIf (tOrr (tBin neD (eCall reprD (aOne (eFn fn_ring_run (aCons (eVar 3) (aCons (eVar 4) (aCons (eVar 6) aNil)))))) (eCall reprD (aOne (eLook 12)))) (tTru (eFn fn__law_in_order (aCons (eVar 3) (aCons (eVar 4) (aCons (eVar 12) aNil)))))) (sRet (eC (.bool false))) (ret .nx)))))))) (ret .nx))
    (seqS (sSet 14 (eIf (tBin notND (eVar 6) (eC .none)) (eVar 6) (eTup (aCons (eC (.str "ring")) (aCons (eC (.int 0)) (aCons (eC (.int 0)) (aCons (eTup (aCons (eC (.int 1)) aNil)) (aCons (eC (.int 1)) aNil))))))))
    (seqS (sSetL 15 (eBinL catD (eFrz (eLst (aCons (eVar 14) (aCons (eFrz (eCallL listD (aOne (eLook 14)))) (aCons (eSlB slAD 14 (ret none) (oSome (eC (.int 4)))) (aCons (eC .none) (aCons (eTup aNil) (aCons (eTup (aCons (eC (.str "ring")) (aCons (eC (.int 0)) (aCons (eC (.int 0)) (aCons (eTup aNil) (aCons (eC (.int 1)) aNil)))))) (aCons (eTup (aCons (eC (.str "ring")) (aCons (eC (.int 0)) (aCons (eC (.int 1)) (aCons (eTup (aCons (eC (.int 1)) aNil)) (aCons (eC (.int 0)) aNil)))))) aNil))))))))) (eFrz (eLc (iRg1 (aCons (eC (.int 8)) aNil)) (gNm 10) (ret true) (eFnI fn__law_bent 1 (aCons (eVar 14) aNil)) [10]))))
    (sFor (iSeq (eVar 15)) (gNm 16) (seqS (sSet 17 (eFn fn__law_is_ring (aCons (eVar 3) (aCons (eVar 4) (aCons (eVar 16) aNil)))))
    (seqS (eIf (tOrr (tNt (tTru (eFn fn__law_says (aCons (eFn fn_takes_cut_ring (aCons (eVar 3) (aCons (eVar 4) (aCons (eVar 16) aNil)))) (aCons (eVar 17) aNil))))) (tAn (tTru (eLook 17)) (tBin isND (eVar 6) (eC .none)))) (sRet (eC (.bool false))) (ret .nx))
    (eIf (tAn (tNt (tTru (eLook 17))) (tBin neD (eFn fn__law_told (aCons (eC (.int 2)) (aCons (eVar 3) (aCons (eVar 4) (aCons (eVar 16) aNil))))) (eIf (tTru (eIsi .tuple (eLook 16))) (eC (.str "<none>")) (eC (.str "<malformed>"))))) (sRet (eC (.bool false))) (ret .nx))))))))))))))
    (seqS (sPar [18, 19] (mVal (eFnI fn__law_odd_texts 1 (aCons (eVar 3) aNil)) (mVal (eFnI fn__law_odd_cut 1 (aCons (eVar 3) (aCons (eVar 4) aNil))) (ret []))))
    (sRet (eBin eqD (eFrz (eBinL catD (eFrz (eLc (iRg1 (aCons (eC (.int 3)) aNil)) (gNm 21) (ret true) (eFn fn__law_told (aCons (eVar 21) (aCons (eVar 18) (aCons (eVar 4) (aCons (eVar 14) aNil))))) [21])) (eFrz (eLc (iRg1 (aCons (eC (.int 3)) aNil)) (gNm 21) (ret true) (eFn fn__law_told (aCons (eVar 21) (aCons (eVar 3) (aCons (eVar 19) (aCons (eVar 14) aNil))))) [21])))) (eFrz (eRep (eLst (aCons (eC (.str "<malformed>")) aNil)) (eC (.int 6)))))))))
def fn_law : FV := runV 1 23 sem_law
end K66

namespace K66
open PySem PySem.Spec PyProof.Rows L2 D3

/-! ### the text -/
def topS (i : Nat) : Stmt := PySem.Challenge.pw_schedkinds_k66_whole_right_cuts.main.body.getD i (.Pass ⟨0, 0, 0, 0⟩)
abbrev st_is_whole : Stmt := topS 5
theorem sc_is_whole : FnScope ["value"] ["value"] (defScope st_is_whole) := ⟨rfl, rfl, rfl, by decide +kernel, rfl, by decide +kernel, by decide +kernel⟩
theorem bn_is_whole : BindN "is_whole" st_is_whole ["value"] := fun _ _ _ _ _ _ us hl => match us, hl with | [_], _ => rfl
abbrev st_do_touch : Stmt := topS 17
theorem sc_do_touch : FnScope ["one", "two"] ["one", "two"] (defScope st_do_touch) := ⟨rfl, rfl, rfl, by decide +kernel, rfl, by decide +kernel, by decide +kernel⟩
theorem bn_do_touch : BindN "do_touch" st_do_touch ["one", "two"] := fun _ _ _ _ _ _ us hl => match us, hl with | [_, _], _ => rfl
abbrev st_piece_of : Stmt := topS 19
theorem sc_piece_of : FnScope ["places", "i", "k"] ["places", "i"] (defScope st_piece_of) := ⟨rfl, rfl, rfl, by decide +kernel, rfl, by decide +kernel, by decide +kernel⟩
theorem bn_piece_of : BindN "piece_of" st_piece_of ["places", "i"] := fun _ _ _ _ _ _ us hl => match us, hl with | [_, _], _ => rfl
abbrev st__law_draw : Stmt := topS 29
theorem sc__law_draw : FnScope ["script", "seed", "cell"] ["script"] (defScope st__law_draw) := ⟨rfl, rfl, rfl, by decide +kernel, rfl, by decide +kernel, by decide +kernel⟩
theorem bn__law_draw : BindN "_law_draw" st__law_draw ["script"] := fun _ _ _ _ _ _ us hl => match us, hl with | [_], _ => rfl
abbrev st__law_take : Stmt := topS 30
theorem sc__law_take : FnScope ["draw", "many", "found"] ["draw", "many"] (defScope st__law_take) := ⟨rfl, rfl, rfl, by decide +kernel, rfl, by decide +kernel, by decide +kernel⟩
theorem bn__law_take : BindN "_law_take" st__law_take ["draw", "many"] := fun _ _ _ _ _ _ us hl => match us, hl with | [_, _], _ => rfl
abbrev st__law_says : Stmt := topS 31
theorem sc__law_says : FnScope ["value", "due"] ["value", "due"] (defScope st__law_says) := ⟨rfl, rfl, rfl, by decide +kernel, rfl, by decide +kernel, by decide +kernel⟩
theorem bn__law_says : BindN "_law_says" st__law_says ["value", "due"] := fun _ _ _ _ _ _ us hl => match us, hl with | [_, _], _ => rfl
abbrev st__law_pieces : Stmt := topS 34
theorem sc__law_pieces : FnScope ["texts", "cut", "found", "t", "ends", "k"] ["texts", "cut"] (defScope st__law_pieces) := ⟨rfl, rfl, rfl, by decide +kernel, rfl, by decide +kernel, by decide +kernel⟩
theorem bn__law_pieces : BindN "_law_pieces" st__law_pieces ["texts", "cut"] := fun _ _ _ _ _ _ us hl => match us, hl with | [_, _], _ => rfl
abbrev st__law_touch : Stmt := topS 35
theorem sc__law_touch : FnScope ["one", "two", "b", "a"] ["one", "two"] (defScope st__law_touch) := ⟨rfl, rfl, rfl, by decide +kernel, rfl, by decide +kernel, by decide +kernel⟩
theorem bn__law_touch : BindN "_law_touch" st__law_touch ["one", "two"] := fun _ _ _ _ _ _ us hl => match us, hl with | [_, _], _ => rfl
abbrev st__law_runs : Stmt := topS 37
theorem sc__law_runs : FnScope ["counts", "found", "turn", "longer", "row", "t"] ["counts"] (defScope st__law_runs) := ⟨rfl, rfl, rfl, by decide +kernel, rfl, by decide +kernel, by decide +kernel⟩
theorem bn__law_runs : BindN "_law_runs" st__law_runs ["counts"] := fun _ _ _ _ _ _ us hl => match us, hl with | [_], _ => rfl
abbrev st__law_number : Stmt := topS 38
theorem sc__law_number : FnScope ["cut", "p", "i", "k"] ["cut", "p", "i"] (defScope st__law_number) := ⟨rfl, rfl, rfl, by decide +kernel, rfl, by decide +kernel, by decide +kernel⟩
theorem bn__law_number : BindN "_law_number" st__law_number ["cut", "p", "i"] := fun _ _ _ _ _ _ us hl => match us, hl with | [_, _, _], _ => rfl
abbrev st_is_deed : Stmt := topS 10
theorem sc_is_deed : FnScope ["value"] ["value"] (defScope st_is_deed) := ⟨rfl, rfl, rfl, by decide +kernel, rfl, by decide +kernel, by decide +kernel⟩
theorem bn_is_deed : BindN "is_deed" st_is_deed ["value"] := fun _ _ _ _ _ _ us hl => match us, hl with | [_], _ => rfl
abbrev st_is_places : Stmt := topS 14
theorem sc_is_places : FnScope ["text", "value", "one", "two", "k"] ["text", "value"] (defScope st_is_places) := ⟨rfl, rfl, rfl, by decide +kernel, rfl, by decide +kernel, by decide +kernel⟩
theorem bn_is_places : BindN "is_places" st_is_places ["text", "value"] := fun _ _ _ _ _ _ us hl => match us, hl with | [_, _], _ => rfl
abbrev st_rows_touch : Stmt := topS 18
theorem sc_rows_touch : FnScope ["one", "two", "a", "b"] ["one", "two"] (defScope st_rows_touch) := ⟨rfl, rfl, rfl, by decide +kernel, rfl, by decide +kernel, by decide +kernel⟩
theorem bn_rows_touch : BindN "rows_touch" st_rows_touch ["one", "two"] := fun _ _ _ _ _ _ us hl => match us, hl with | [_, _], _ => rfl
abbrev st_is_names : Stmt := topS 24
theorem sc_is_names : FnScope ["texts", "p", "value", "t"] ["texts", "p", "value"] (defScope st_is_names) := ⟨rfl, rfl, rfl, by decide +kernel, rfl, by decide +kernel, by decide +kernel⟩
theorem bn_is_names : BindN "is_names" st_is_names ["texts", "p", "value"] := fun _ _ _ _ _ _ us hl => match us, hl with | [_, _, _], _ => rfl
abbrev st__law_texts : Stmt := topS 32
theorem sc__law_texts : FnScope ["draw", "most", "top", "found", "turn", "k"] ["draw", "most"] (defScope st__law_texts) := ⟨rfl, rfl, rfl, by decide +kernel, rfl, by decide +kernel, by decide +kernel⟩
theorem bn__law_texts : BindN "_law_texts" st__law_texts ["draw", "most"] := fun _ _ _ _ _ _ us hl => match us, hl with | [_, _], _ => rfl
abbrev st__law_cut : Stmt := topS 33
theorem sc__law_cut : FnScope ["draw", "texts", "text", "k"] ["draw", "texts"] (defScope st__law_cut) := ⟨rfl, rfl, rfl, by decide +kernel, rfl, by decide +kernel, by decide +kernel⟩
theorem bn__law_cut : BindN "_law_cut" st__law_cut ["draw", "texts"] := fun _ _ _ _ _ _ us hl => match us, hl with | [_, _], _ => rfl
abbrev st__law_in_order : Stmt := topS 36
theorem sc__law_in_order : FnScope ["texts", "cut", "run", "pieces", "seen", "done", "t", "pairs", "k", "left", "turn", "i", "one", "two"] ["texts", "cut", "run"] (defScope st__law_in_order) := ⟨rfl, rfl, rfl, by decide +kernel, rfl, by decide +kernel, by decide +kernel⟩
theorem bn__law_in_order : BindN "_law_in_order" st__law_in_order ["texts", "cut", "run"] := fun _ _ _ _ _ _ us hl => match us, hl with | [_, _, _], _ => rfl
abbrev st__law_is_ring : Stmt := topS 39
theorem sc__law_is_ring : FnScope ["texts", "cut", "value", "p", "i", "names", "k", "j", "item", "t"] ["texts", "cut", "value"] (defScope st__law_is_ring) := ⟨rfl, rfl, rfl, by decide +kernel, rfl, by decide +kernel, by decide +kernel⟩
theorem bn__law_is_ring : BindN "_law_is_ring" st__law_is_ring ["texts", "cut", "value"] := fun _ _ _ _ _ _ us hl => match us, hl with | [_, _, _], _ => rfl
abbrev st__law_odd_texts : Stmt := topS 40
theorem sc__law_odd_texts : FnScope ["draw", "texts", "odd"] ["draw", "texts"] (defScope st__law_odd_texts) := ⟨rfl, rfl, rfl, by decide +kernel, rfl, by decide +kernel, by decide +kernel⟩
theorem bn__law_odd_texts : BindN "_law_odd_texts" st__law_odd_texts ["draw", "texts"] := fun _ _ _ _ _ _ us hl => match us, hl with | [_, _], _ => rfl
abbrev st__law_odd_cut : Stmt := topS 41
theorem sc__law_odd_cut : FnScope ["draw", "texts", "cut", "odd"] ["draw", "texts", "cut"] (defScope st__law_odd_cut) := ⟨rfl, rfl, rfl, by decide +kernel, rfl, by decide +kernel, by decide +kernel⟩
theorem bn__law_odd_cut : BindN "_law_odd_cut" st__law_odd_cut ["draw", "texts", "cut"] := fun _ _ _ _ _ _ us hl => match us, hl with | [_, _, _], _ => rfl
abbrev st_is_text : Stmt := topS 11
theorem sc_is_text : FnScope ["value", "deed"] ["value"] (defScope st_is_text) := ⟨rfl, rfl, rfl, by decide +kernel, rfl, by decide +kernel, by decide +kernel⟩
theorem bn_is_text : BindN "is_text" st_is_text ["value"] := fun _ _ _ _ _ _ us hl => match us, hl with | [_], _ => rfl
abbrev st_joined_to : Stmt := topS 20
theorem sc_joined_to : FnScope ["texts", "p", "i", "others", "found", "row", "place", "t"] ["texts", "p", "i"] (defScope st_joined_to) := ⟨rfl, rfl, rfl, by decide +kernel, rfl, by decide +kernel, by decide +kernel⟩
theorem bn_joined_to : BindN "joined_to" st_joined_to ["texts", "p", "i"] := fun _ _ _ _ _ _ us hl => match us, hl with | [_, _, _], _ => rfl
abbrev st_is_ring : Stmt := topS 25
theorem sc_is_ring : FnScope ["texts", "cut", "value", "_", "p", "i", "names", "k", "one", "two", "item"] ["texts", "cut", "value"] (defScope st_is_ring) := ⟨rfl, rfl, rfl, by decide +kernel, rfl, by decide +kernel, by decide +kernel⟩
theorem bn_is_ring : BindN "is_ring" st_is_ring ["texts", "cut", "value"] := fun _ _ _ _ _ _ us hl => match us, hl with | [_, _, _], _ => rfl
abbrev st_is_texts : Stmt := topS 12
theorem sc_is_texts : FnScope ["value", "text"] ["value"] (defScope st_is_texts) := ⟨rfl, rfl, rfl, by decide +kernel, rfl, by decide +kernel, by decide +kernel⟩
theorem bn_is_texts : BindN "is_texts" st_is_texts ["value"] := fun _ _ _ _ _ _ us hl => match us, hl with | [_], _ => rfl
abbrev st_ring_between : Stmt := topS 21
theorem sc_ring_between : FnScope ["texts", "p", "i", "k", "found", "good", "t"] ["texts", "p", "i", "k"] (defScope st_ring_between) := ⟨rfl, rfl, rfl, by decide +kernel, rfl, by decide +kernel, by decide +kernel⟩
theorem bn_ring_between : BindN "ring_between" st_ring_between ["texts", "p", "i", "k"] := fun _ _ _ _ _ _ us hl => match us, hl with | [_, _, _, _], _ => rfl
abbrev st_check_texts : Stmt := topS 13
theorem sc_check_texts : FnScope ["value"] ["value"] (defScope st_check_texts) := ⟨rfl, rfl, rfl, by decide +kernel, rfl, by decide +kernel, by decide +kernel⟩
theorem bn_check_texts : BindN "check_texts" st_check_texts ["value"] := fun _ _ _ _ _ _ us hl => match us, hl with | [_], _ => rfl
abbrev st_first_ring : Stmt := topS 22
theorem sc_first_ring : FnScope ["texts", "cut", "p", "text", "k", "i", "names"] ["texts", "cut"] (defScope st_first_ring) := ⟨rfl, rfl, rfl, by decide +kernel, rfl, by decide +kernel, by decide +kernel⟩
theorem bn_first_ring : BindN "first_ring" st_first_ring ["texts", "cut"] := fun _ _ _ _ _ _ us hl => match us, hl with | [_, _], _ => rfl
abbrev st_is_cut : Stmt := topS 15
theorem sc_is_cut : FnScope ["texts", "value", "text", "places"] ["texts", "value"] (defScope st_is_cut) := ⟨rfl, rfl, rfl, by decide +kernel, rfl, by decide +kernel, by decide +kernel⟩
theorem bn_is_cut : BindN "is_cut" st_is_cut ["texts", "value"] := fun _ _ _ _ _ _ us hl => match us, hl with | [_, _], _ => rfl
abbrev st_check_cut : Stmt := topS 16
theorem sc_check_cut : FnScope ["texts", "cut"] ["texts", "cut"] (defScope st_check_cut) := ⟨rfl, rfl, rfl, by decide +kernel, rfl, by decide +kernel, by decide +kernel⟩
theorem bn_check_cut : BindN "check_cut" st_check_cut ["texts", "cut"] := fun _ _ _ _ _ _ us hl => match us, hl with | [_, _], _ => rfl
abbrev st__law_bent : Stmt := topS 42
theorem sc__law_bent : FnScope ["draw", "data", "i"] ["draw", "data"] (defScope st__law_bent) := ⟨rfl, rfl, rfl, by decide +kernel, rfl, by decide +kernel, by decide +kernel⟩
theorem bn__law_bent : BindN "_law_bent" st__law_bent ["draw", "data"] := fun _ _ _ _ _ _ us hl => match us, hl with | [_, _], _ => rfl
abbrev st_cut_ring : Stmt := topS 23
theorem sc_cut_ring : FnScope ["texts", "cut"] ["texts", "cut"] (defScope st_cut_ring) := ⟨rfl, rfl, rfl, by decide +kernel, rfl, by decide +kernel, by decide +kernel⟩
theorem bn_cut_ring : BindN "cut_ring" st_cut_ring ["texts", "cut"] := fun _ _ _ _ _ _ us hl => match us, hl with | [_, _], _ => rfl
abbrev st_takes_cut_ring : Stmt := topS 26
theorem sc_takes_cut_ring : FnScope ["texts", "cut", "value"] ["texts", "cut", "value"] (defScope st_takes_cut_ring) := ⟨rfl, rfl, rfl, by decide +kernel, rfl, by decide +kernel, by decide +kernel⟩
theorem bn_takes_cut_ring : BindN "takes_cut_ring" st_takes_cut_ring ["texts", "cut", "value"] := fun _ _ _ _ _ _ us hl => match us, hl with | [_, _, _], _ => rfl
abbrev st_ring_run : Stmt := topS 27
theorem sc_ring_run : FnScope ["texts", "cut", "ring", "_", "p", "i", "names", "first", "counts", "found", "t", "places"] ["texts", "cut", "ring"] (defScope st_ring_run) := ⟨rfl, rfl, rfl, by decide +kernel, rfl, by decide +kernel, by decide +kernel⟩
theorem bn_ring_run : BindN "ring_run" st_ring_run ["texts", "cut", "ring"] := fun _ _ _ _ _ _ us hl => match us, hl with | [_, _, _], _ => rfl
abbrev st__law_told : Stmt := topS 43
theorem sc__law_told : FnScope ["which", "texts", "cut", "value", "refusal"] ["which", "texts", "cut", "value"] (defScope st__law_told) := ⟨rfl, rfl, rfl, by decide +kernel, rfl, by decide +kernel, by decide +kernel⟩
theorem bn__law_told : BindN "_law_told" st__law_told ["which", "texts", "cut", "value"] := fun _ _ _ _ _ _ us hl => match us, hl with | [_, _, _, _], _ => rfl
abbrev st_law : Stmt := topS 44
theorem sc_law : FnScope ["script", "draw", "turn", "texts", "cut", "counts", "told", "p", "i", "names", "k", "first", "due", "t", "base", "values", "value", "good", "odd", "bad", "places", "which", "run"] ["script"] (defScope st_law) := ⟨rfl, rfl, rfl, by decide +kernel, rfl, by decide +kernel, by decide +kernel⟩
theorem bn_law : BindN "law" st_law ["script"] := fun _ _ _ _ _ _ us hl => match us, hl with | [_], _ => rfl
/-- what stands behind the top -/
structure Txt (P : Program) (K : PySem.W.Frag) (mg : Str → Option Value) : Prop where
  d_is_whole : FnD K mg "is_whole" st_is_whole
  d_do_touch : FnD K mg "do_touch" st_do_touch
  d_piece_of : FnD K mg "piece_of" st_piece_of
  d__law_draw : FnD K mg "_law_draw" st__law_draw
  d__law_take : FnD K mg "_law_take" st__law_take
  d__law_says : FnD K mg "_law_says" st__law_says
  d__law_pieces : FnD K mg "_law_pieces" st__law_pieces
  d__law_touch : FnD K mg "_law_touch" st__law_touch
  d__law_runs : FnD K mg "_law_runs" st__law_runs
  d__law_number : FnD K mg "_law_number" st__law_number
  d_is_deed : FnD K mg "is_deed" st_is_deed
  d_is_places : FnD K mg "is_places" st_is_places
  d_rows_touch : FnD K mg "rows_touch" st_rows_touch
  d_is_names : FnD K mg "is_names" st_is_names
  d__law_texts : FnD K mg "_law_texts" st__law_texts
  d__law_cut : FnD K mg "_law_cut" st__law_cut
  d__law_in_order : FnD K mg "_law_in_order" st__law_in_order
  d__law_is_ring : FnD K mg "_law_is_ring" st__law_is_ring
  d__law_odd_texts : FnD K mg "_law_odd_texts" st__law_odd_texts
  d__law_odd_cut : FnD K mg "_law_odd_cut" st__law_odd_cut
  d_is_text : FnD K mg "is_text" st_is_text
  d_joined_to : FnD K mg "joined_to" st_joined_to
  d_is_ring : FnD K mg "is_ring" st_is_ring
  d_is_texts : FnD K mg "is_texts" st_is_texts
  d_ring_between : FnD K mg "ring_between" st_ring_between
  d_check_texts : FnD K mg "check_texts" st_check_texts
  d_first_ring : FnD K mg "first_ring" st_first_ring
  d_is_cut : FnD K mg "is_cut" st_is_cut
  d_check_cut : FnD K mg "check_cut" st_check_cut
  d__law_bent : FnD K mg "_law_bent" st__law_bent
  d_cut_ring : FnD K mg "cut_ring" st_cut_ring
  d_takes_cut_ring : FnD K mg "takes_cut_ring" st_takes_cut_ring
  d_ring_run : FnD K mg "ring_run" st_ring_run
  d__law_told : FnD K mg "_law_told" st__law_told
  d_law : FnD K mg "law" st_law
  b_abs : mg "abs" = none
  b_all : mg "all" = none
  b_any : mg "any" = none
  b_bool : mg "bool" = none
  b_enumerate : mg "enumerate" = none
  b_int : mg "int" = none
  b_isinstance : mg "isinstance" = none
  b_len : mg "len" = none
  b_list : mg "list" = none
  b_range : mg "range" = none
  b_repr : mg "repr" = none
  b_set : mg "set" = none
  b_sorted : mg "sorted" = none
  b_str : mg "str" = none
  b_sum : mg "sum" = none
  b_tuple : mg "tuple" = none
  b_zip : mg "zip" = none
  g_MOST_PROGRAMS : GlD K mg "MOST_PROGRAMS" k_MOST_PROGRAMS
  g_MOST_DEEDS : GlD K mg "MOST_DEEDS" k_MOST_DEEDS
  g_MOST_VARIABLES : GlD K mg "MOST_VARIABLES" k_MOST_VARIABLES
  x_Malformed : ExD K mg "Malformed"
  x_Refused : IniD P K mg "Refused"
  n_Refused_Malformed : NoX K mg "Refused" "Malformed"
  kb : kBare K = true
section
variable {P : Program} {w : World} {K : PySem.W.Frag} {mg : Str → Option Value} {base : Heap}
theorem cal_is_whole (T : Txt P K mg) : Cal P w K mg base 1 "is_whole" (spV K mg 1 fn_is_whole) := calV T.d_is_whole sc_is_whole bn_is_whole fun f cdv A0 outer s H E A po =>
    (bv_one (sv_ret (ev_and (ev_isi .int rfl T.b_isinstance rfl T.b_int bb_int (eb_var 0)) (ev_one (ev_not (ev_isi .bool rfl T.b_isinstance rfl T.b_bool bb_bool (eb_var 0)))))))
theorem cal_do_touch (T : Txt P K mg) : Cal P w K mg base 1 "do_touch" (spV K mg 2 fn_do_touch) := calV T.d_do_touch sc_do_touch bn_do_touch fun f cdv A0 outer s H E A po =>
    (bv_one (sv_ret (ev_and (ev_cmp (opd_eq A.u64) (ev_ixB ixd_seq 0 (eb_of ev_int)) (eb_of (ev_ixB ixd_seq 1 (eb_of ev_int))) (nomark _)) (ev_one (ev_cmp (opd_in A.u65) ev_str (eb_of (ev_tup (av_cons (ev_ixB ixd_seq 0 (eb_of ev_int)) (av_cons (ev_ixB ixd_seq 1 (eb_of ev_int)) av_nil)))) (by with_unfolding_all rfl))))))
theorem cal_piece_of (T : Txt P K mg) : Cal P w K mg base 1 "piece_of" (spV K mg 2 fn_piece_of) := calV T.d_piece_of sc_piece_of bn_piece_of fun f cdv A0 outer s H E A po =>
    (bv_one (sv_ret (ev_callB cd_len rfl T.b_len bb_len (ab_one (eb_of (ev_frz (el_lc A.calm A.nd (iv_seq (ev_var 0)) (blkOk_by (own := [("k", 2)]) rfl) (fun _ _ _ _ _ => (gv_name 2 A.blk.nd)) (fun _ _ _ _ _ => (cv_one (tv_cmp opd_le (ev_var 2) (eb_var 1) (nomark _)))) (fun _ _ _ _ _ => (ev_var 2)))))))))
theorem cal__law_draw (T : Txt P K mg) : Cal P w K mg base 1 "_law_draw" (spL K 1 fn__law_draw) := calL T.d__law_draw sc__law_draw bn__law_draw fun f cdv A0 outer s H E A po =>
    (bv_cons (sv_set 1 A.nd ev_int)
    (bv_cons (sv_for po A.calm (iv_seq (ev_var 0)) (gv_name 2 A.nd) (bv_one (sv_set 1 A.nd (ev_bin opd_mod (ev_callT cd_int rfl T.b_int bb_int (ab_one (eb_of (ev_bin opd_add (ev_bin opd_add (ev_bin opd_mulA (ev_var 1) (eb_of ev_int)) (eb_of (ev_bin opd_mod (ev_callB cd_abs rfl T.b_abs bb_abs (ab_one (eb_of (ev_callT cd_int rfl T.b_int bb_int (ab_one (eb_var 2)))))) (eb_of ev_int)))) (eb_of ev_int))))) (eb_of ev_int)))))
    (bv_one (sv_retL (el_lst (av_cons (ev_frz (el_lc A.calm A.nd (iv_seq (ev_var 0)) (blkOk_by (own := [("cell", 2)]) rfl) (fun _ _ _ _ _ => (gv_name 2 A.blk.nd)) (fun _ _ _ _ _ => cv_nil) (fun _ _ _ _ _ => (ev_callB cd_abs rfl T.b_abs bb_abs (ab_one (eb_of (ev_callT cd_int rfl T.b_int bb_int (ab_one (eb_var 2))))))))) (av_cons (ev_un und_neg (eb_of ev_int)) (av_cons ev_int (av_cons (ev_var 1) av_nil)))))))))
theorem cal__law_take (T : Txt P K mg) : Cal P w K mg base 1 "_law_take" (spI K 1 fn__law_take) := calI T.d__law_take sc__law_take bn__law_take rfl fun f cdv A0 outer s H E A po =>
    (bv_cons (sv_if (tv_cmp (opd_eq A.u64) (ev_ixB ixd_seq 0 (eb_of ev_int)) (eb_of ev_int) (nomark _)) (bv_cons (sv_put 0 (ev_bin opd_add (ev_ixB ixd_seq 0 (eb_of ev_int)) (eb_of ev_int)) ev_int)
    (bv_cons (sv_if (tv_cmp opd_lt (ev_ixB ixd_seq 0 (eb_of ev_int)) (eb_of (ev_callB cd_len rfl T.b_len bb_len (ab_one (eb_of (ev_ixB ixd_seq 0 (eb_of ev_int)))))) (nomark _)) (bv_one (sv_put 0 (ev_ix ixd_seq (ev_ixB ixd_seq 0 (eb_of ev_int)) (eb_of (ev_ixB ixd_seq 0 (eb_of ev_int)))) ev_int)) bv_nil)
    (bv_one (sv_if (tv_cmp (opd_eq A.u64) (ev_ixB ixd_seq 0 (eb_of ev_int)) (eb_of ev_int) (nomark _)) (bv_cons (sv_put 0 (ev_bin opd_mod (ev_callT cd_int rfl T.b_int bb_int (ab_one (eb_of (ev_bin opd_add (ev_bin opd_mulA (ev_ixB ixd_seq 0 (eb_of ev_int)) (eb_of ev_int)) (eb_of ev_int))))) (eb_of ev_int)) ev_int)
    (bv_one (sv_put 0 (ev_ixB ixd_seq 0 (eb_of ev_int)) ev_int))) bv_nil)))) bv_nil)
    (bv_cons (sv_set 2 A.nd (ev_bin opd_mod (ev_callT cd_int rfl T.b_int bb_int (ab_one (eb_of (ev_ixB ixd_seq 0 (eb_of ev_int))))) (eb_var 1)))
    (bv_cons (sv_put 0 (ev_bin opd_fdiv (ev_ixB ixd_seq 0 (eb_of ev_int)) (eb_var 1)) ev_int)
    (bv_one (sv_retO 2)))))
theorem cal__law_says (T : Txt P K mg) : Cal P w K mg base 1 "_law_says" (spV K mg 2 fn__law_says) := calV T.d__law_says sc__law_says bn__law_says fun f cdv A0 outer s H E A po =>
    (bv_one (sv_ret (ev_and (ev_isi .bool rfl T.b_isinstance rfl T.b_bool bb_bool (eb_var 0)) (ev_one (ev_cmp (opd_eq A.u64) (ev_var 0) (eb_var 1) (nomark _))))))
theorem cal__law_pieces (T : Txt P K mg) : Cal P w K mg base 1 "_law_pieces" (spV K mg 2 fn__law_pieces) := calV T.d__law_pieces sc__law_pieces bn__law_pieces fun f cdv A0 outer s H E A po =>
    (bv_cons (sv_setL 2 A.nd (el_lst av_nil))
    (bv_cons (sv_for po A.calm (iv_range1 rfl T.b_range (av_cons (ev_callB cd_len rfl T.b_len bb_len (ab_one (eb_var 0))) av_nil)) (gv_name 3 A.nd) (bv_cons (sv_setL 4 A.nd (el_bin opl_cat (ev_frz (el_bin opl_cat (ev_frz (el_lst (av_cons ev_int av_nil))) (eb_of (ev_frz (el_callT cl_list rfl T.b_list bb_list (ab_one (eb_of (ev_ixB ixd_seq 1 (eb_var 3))))))))) (eb_of (ev_frz (el_lst (av_cons (ev_callB cd_len rfl T.b_len bb_len (ab_one (eb_of (ev_ixB ixd_seq 0 (eb_var 3))))) av_nil))))))
    (bv_one (sv_append 2 (ev_frz (el_lc A.calm A.nd (iv_range2 rfl T.b_range (av_cons ev_int (av_cons (ev_callB cd_len rfl T.b_len bb_len (ab_one (eb_var 4))) av_nil))) (blkOk_by (own := [("k", 5)]) rfl) (fun _ _ _ _ _ => (gv_name 5 A.blk.nd)) (fun _ _ _ _ _ => cv_nil) (fun _ _ _ _ _ => (ev_sl sld_any (ev_ixB ixd_seq 0 (eb_var 3)) (ov_some (ev_ixB ixd_seq 4 (eb_of (ev_bin opd_sub (ev_var 5) (eb_of ev_int))))) (ov_some (ev_ixB ixd_seq 4 (eb_var 5)))))))))))
    (bv_one (sv_retO 2))))
theorem cal__law_touch (T : Txt P K mg) : Cal P w K mg base 1 "_law_touch" (spV K mg 2 fn__law_touch) := calV T.d__law_touch sc__law_touch bn__law_touch fun f cdv A0 outer s H E A po =>
    (bv_one (sv_ret (ev_callB (cd_any A.calm) rfl T.b_any bb_any (ab_one (eb_of (ev_frz (el_lc A.calm A.nd (iv_seq (ev_var 1)) (blkOk_by (own := [("b", 2)]) rfl) (fun _ _ _ _ _ => (gv_name 2 A.blk.nd)) (fun _ _ _ _ _ => cv_nil) (fun _ _ _ _ _ => (ev_callB (cd_any A.blk.calm) rfl T.b_any bb_any (ab_one (eb_of (ev_frz (el_lc A.blk.calm A.blk.nd (iv_seq (ev_var 0)) (blkOk_by (own := [("a", 3)]) rfl) (fun _ _ _ _ _ => (gv_name 3 A.blk.blk.nd)) (fun _ _ _ _ _ => cv_nil) (fun _ _ _ _ _ => (ev_and (ev_cmp (opd_eq A.blk.blk.u64) (ev_ixB ixd_seq 3 (eb_of ev_int)) (eb_of (ev_ixB ixd_seq 2 (eb_of ev_int))) (nomark _)) (ev_one (ev_or (ev_cmp (opd_eq A.blk.blk.u64) (ev_ixB ixd_seq 3 (eb_of ev_int)) (eb_of ev_str) (nomark _)) (ev_one (ev_cmp (opd_eq A.blk.blk.u64) (ev_ixB ixd_seq 2 (eb_of ev_int)) (eb_of ev_str) (nomark _))))))))))))))))))))
theorem cal__law_runs (T : Txt P K mg) : Cal P w K mg base 1 "_law_runs" (spV K mg 1 fn__law_runs) := calV T.d__law_runs sc__law_runs bn__law_runs fun f cdv A0 outer s H E A po =>
    (bv_cons (sv_setL 1 A.nd (el_lst (av_cons (ev_tup av_nil) av_nil)))
    (bv_cons (sv_for po A.calm (iv_range1 rfl T.b_range (av_cons (ev_callB (cd_sum A.calm) rfl T.b_sum bb_sum (ab_one (eb_var 0))) av_nil)) (gv_name 2 A.nd) (bv_cons (sv_setL 3 A.nd (el_lst av_nil))
    (bv_cons (sv_for po A.calm (iv_seq (ev_var 1)) (gv_name 4 A.nd) (bv_one (sv_setL 3 A.nd (el_bin opl_cat (ev_var 3) (eb_of (ev_frz (el_lc A.calm A.nd (iv_range1 rfl T.b_range (av_cons (ev_callB cd_len rfl T.b_len bb_len (ab_one (eb_var 0))) av_nil)) (blkOk_by (own := [("t", 5)]) rfl) (fun _ _ _ _ _ => (gv_name 5 A.blk.nd)) (fun _ _ _ _ _ => (cv_one (tv_cmp opd_lt (ev_cnt A.blk T.kb (ev_var 4) (ev_var 5)) (eb_of (ev_ixB ixd_seq 0 (eb_var 5))) (nomark _)))) (fun _ _ _ _ _ => (ev_bin opd_add (ev_var 4) (eb_of (ev_tup (av_cons (ev_var 5) av_nil))))))))))))
    (bv_one (sv_set 1 A.nd (ev_var 3))))))
    (bv_one (sv_retO 1))))
theorem cal__law_number (T : Txt P K mg) : Cal P w K mg base 1 "_law_number" (spV K mg 3 fn__law_number) := calV T.d__law_number sc__law_number bn__law_number fun f cdv A0 outer s H E A po =>
    (bv_one (sv_ret (ev_callB cd_len rfl T.b_len bb_len (ab_one (eb_of (ev_frz (el_lc A.calm A.nd (iv_seq (ev_ixB ixd_seq 0 (eb_var 1))) (blkOk_by (own := [("k", 3)]) rfl) (fun _ _ _ _ _ => (gv_name 3 A.blk.nd)) (fun _ _ _ _ _ => (cv_one (tv_cmp opd_le (ev_var 3) (eb_var 2) (nomark _)))) (fun _ _ _ _ _ => (ev_var 3)))))))))
theorem cal_is_deed (T : Txt P K mg) : Cal P w K mg base 2 "is_deed" (spV K mg 1 fn_is_deed) := calV T.d_is_deed sc_is_deed bn_is_deed fun f cdv A0 outer s H E A po =>
    (bv_cons (sv_if (tv_w (wv_or (tv_not (tv_val (eb_of (ev_isi .tuple rfl T.b_isinstance rfl T.b_tuple bb_tuple (eb_var 0))))) (wv_or (tv_cmp (opd_ne A.u64) (ev_callB cd_len rfl T.b_len bb_len (ab_one (eb_var 0))) (eb_of ev_int) (nomark _)) (wv_or (tv_not (tv_val (eb_of (ev_isi .str rfl T.b_isinstance rfl T.b_str bb_str (eb_of (ev_ixB ixd_seq 0 (eb_of ev_int))))))) (wv_or1 (tv_cmp (opd_notIn A.u65) (ev_ixB ixd_seq 0 (eb_of ev_int)) (eb_of (ev_tup (av_cons ev_str (av_cons ev_str av_nil)))) (by with_unfolding_all rfl))))))) (bv_one (sv_ret ev_bl)) bv_nil)
    (bv_one (sv_ret (ev_and (ev_fn (cal_is_whole T) A (by decide) rfl (av_cons (ev_ixB ixd_seq 0 (eb_of ev_int)) av_nil) runV_len) (ev_one (ev_chain opd_le opd_lt ev_int (ev_ixB ixd_seq 0 (eb_of ev_int)) (eb_of (ev_gl T.g_MOST_VARIABLES rfl))))))))
theorem cal_is_places (T : Txt P K mg) : Cal P w K mg base 2 "is_places" (spV K mg 2 fn_is_places) := calV T.d_is_places sc_is_places bn_is_places fun f cdv A0 outer s H E A po =>
    (bv_cons (sv_if (tv_w (wv_or (tv_not (tv_val (eb_of (ev_isi .tuple rfl T.b_isinstance rfl T.b_tuple bb_tuple (eb_var 1))))) (wv_or1 (tv_not (tv_val (eb_of (ev_callB (cd_all A.calm) rfl T.b_all bb_all (ab_one (eb_of (ev_frz (el_lc A.calm A.nd (iv_seq (ev_var 1)) (blkOk_by (own := [("k", 4)]) rfl) (fun _ _ _ _ _ => (gv_name 4 A.blk.nd)) (fun _ _ _ _ _ => cv_nil) (fun _ _ _ _ _ => (ev_and (ev_fn (cal_is_whole T) A.blk (by decide) rfl (av_cons (ev_var 4) av_nil) runV_len) (ev_one (ev_chain opd_le opd_lt ev_int (ev_var 4) (eb_of (ev_callB cd_len rfl T.b_len bb_len (ab_one (eb_var 0))))))))))))))))))) (bv_one (sv_ret ev_bl)) bv_nil)
    (bv_one (sv_ret (ev_callB (cd_all A.calm) rfl T.b_all bb_all (ab_one (eb_of (ev_frz (el_lc A.calm A.nd (iv_zip rfl T.b_zip (av_cons (ev_var 1) (av_cons (ev_slB sld_any 1 (ov_some ev_int) ov_none) av_nil))) (blkOk_by (own := [("one", 2), ("two", 3)]) rfl) (fun _ _ _ _ _ => (gv_tup A.blk.calm (gvs_cons (gv_name 2 A.blk.nd) (gvs_cons (gv_name 3 A.blk.nd) gvs_nil)))) (fun _ _ _ _ _ => cv_nil) (fun _ _ _ _ _ => (ev_cmp opd_lt (ev_var 2) (eb_var 3) (nomark _)))))))))))
theorem cal_rows_touch (T : Txt P K mg) : Cal P w K mg base 2 "rows_touch" (spV K mg 2 fn_rows_touch) := calV T.d_rows_touch sc_rows_touch bn_rows_touch fun f cdv A0 outer s H E A po =>
    (bv_one (sv_ret (ev_callB (cd_any A.calm) rfl T.b_any bb_any (ab_one (eb_of (ev_frz (el_lc2 A.calm A.nd (by exact (iv_seq (ev_var 0))) (blkOk_by (own := [("a", 2), ("b", 3)]) rfl) (fun _ _ _ _ _ => (gv_name 2 A.blk.nd)) (fun _ _ _ _ _ => cv_nil) (fun _ _ _ _ _ => (iv_seq (ev_var 1))) (fun _ _ _ _ _ => (gv_name 3 A.blk.nd)) (fun _ _ _ _ _ => cv_nil) (fun _ _ _ _ _ => (ev_fn (cal_do_touch T) A.blk (by decide) rfl (av_cons (ev_var 2) (av_cons (ev_var 3) av_nil)) runV_len)))))))))
theorem cal_is_names (T : Txt P K mg) : Cal P w K mg base 2 "is_names" (spV K mg 3 fn_is_names) := calV T.d_is_names sc_is_names bn_is_names fun f cdv A0 outer s H E A po =>
    (bv_cons (sv_if (tv_w (wv_or (tv_not (tv_val (eb_of (ev_isi .tuple rfl T.b_isinstance rfl T.b_tuple bb_tuple (eb_var 2))))) (wv_or (tv_cmp (opd_eq A.u64) (ev_callB cd_len rfl T.b_len bb_len (ab_one (eb_var 2))) (eb_of ev_int) (nomark _)) (wv_or1 (tv_not (tv_val (eb_of (ev_callB (cd_all A.calm) rfl T.b_all bb_all (ab_one (eb_of (ev_frz (el_lc A.calm A.nd (iv_seq (ev_var 2)) (blkOk_by (own := [("t", 3)]) rfl) (fun _ _ _ _ _ => (gv_name 3 A.blk.nd)) (fun _ _ _ _ _ => cv_nil) (fun _ _ _ _ _ => (ev_fn (cal_is_whole T) A.blk (by decide) rfl (av_cons (ev_var 3) av_nil) runV_len)))))))))))))) (bv_one (sv_ret ev_bl)) bv_nil)
    (bv_one (sv_ret (ev_and (ev_callB (cd_all A.calm) rfl T.b_all bb_all (ab_one (eb_of (ev_frz (el_lc A.calm A.nd (iv_seq (ev_var 2)) (blkOk_by (own := [("t", 3)]) rfl) (fun _ _ _ _ _ => (gv_name 3 A.blk.nd)) (fun _ _ _ _ _ => cv_nil) (fun _ _ _ _ _ => (ev_and (ev_chain opd_le opd_lt ev_int (ev_var 3) (eb_of (ev_callB cd_len rfl T.b_len bb_len (ab_one (eb_var 0))))) (ev_one (ev_cmp (opd_ne A.blk.u64) (ev_var 3) (eb_var 1) (nomark _)))))))))) (ev_one (ev_cmp (opd_eq A.u64) (ev_slen A rfl T.b_len rfl T.b_set (eb_var 2)) (eb_of (ev_callB cd_len rfl T.b_len bb_len (ab_one (eb_var 2)))) (nomark _)))))))
theorem cal__law_texts (T : Txt P K mg) : Cal P w K mg base 2 "_law_texts" (spI K 1 fn__law_texts) := calI T.d__law_texts sc__law_texts bn__law_texts rfl fun f cdv A0 outer s H E A po =>
    (bv_cons (by first | exact (sv_par2 2 3 A.calm A.nd (am_val (ev_bin opd_add ev_int (eb_of (ev_fnI 0 (cal__law_take T) A (by decide) rfl (av_cons ev_int av_nil) runI_len))) (am_own (el_lst av_nil) am_nil))) | exact (sv_parG A.calm (am_val (ev_bin opd_add ev_int (eb_of (ev_fnI 0 (cal__law_take T) A (by decide) rfl (av_cons ev_int av_nil) runI_len))) (am_own (el_lst av_nil) am_nil)) (gn_cons 2 A.nd (gn_cons 3 A.nd gn_nil))))
    (bv_cons (sv_for po A.calm (iv_range1 rfl T.b_range (av_cons (ev_bin opd_add ev_int (eb_of (ev_fnI 0 (cal__law_take T) A (by decide) rfl (av_cons (ev_var 1) av_nil) runI_len))) av_nil)) (gv_name 4 A.nd) (bv_one (sv_append 3 (ev_callT cd_tuple rfl T.b_tuple bb_tuple (ab_one (eb_of (ev_frz (el_lc A.calm A.nd (iv_range1 rfl T.b_range (av_cons (ev_bin opd_add ev_int (eb_of (ev_fnI 0 (cal__law_take T) A (by decide) rfl (av_cons ev_int av_nil) runI_len))) av_nil)) (blkOk_by (own := [("k", 5)]) rfl) (fun _ _ _ _ _ => (gv_name 5 A.blk.nd)) (fun _ _ _ _ _ => cv_nil) (fun _ _ _ _ _ => (ev_tup (av_cons (ev_ix ixd_seq (ev_frz (el_lst (av_cons ev_str (av_cons ev_str av_nil)))) (eb_of (ev_fnI 0 (cal__law_take T) A.blk (by decide) rfl (av_cons ev_int av_nil) runI_len))) (av_cons (ev_fnI 0 (cal__law_take T) A.blk (by decide) rfl (av_cons (ev_var 2) av_nil) runI_len) av_nil))))))))))))
    (bv_one (sv_ret (ev_callT cd_tuple rfl T.b_tuple bb_tuple (ab_one (eb_var 3)))))))
theorem cal__law_cut (T : Txt P K mg) : Cal P w K mg base 2 "_law_cut" (spI K 1 fn__law_cut) := calI T.d__law_cut sc__law_cut bn__law_cut rfl fun f cdv A0 outer s H E A po =>
    (bv_one (sv_ret (ev_callT cd_tuple rfl T.b_tuple bb_tuple (ab_one (eb_of (ev_frz (el_lc A.calm A.nd (iv_seq (ev_var 1)) (blkOk_by (own := [("text", 2)]) rfl) (fun _ _ _ _ _ => (gv_name 2 A.blk.nd)) (fun _ _ _ _ _ => cv_nil) (fun _ _ _ _ _ => (ev_callT cd_tuple rfl T.b_tuple bb_tuple (ab_one (eb_of (ev_frz (el_lc A.blk.calm A.blk.nd (iv_range2 rfl T.b_range (av_cons ev_int (av_cons (ev_callB cd_len rfl T.b_len bb_len (ab_one (eb_var 2))) av_nil))) (blkOk_by (own := [("k", 3)]) rfl) (fun _ _ _ _ _ => (gv_name 3 A.blk.blk.nd)) (fun _ _ _ _ _ => (cv_one (tv_cmp (opd_eq A.blk.blk.u64) (ev_fnI 0 (cal__law_take T) A.blk.blk (by decide) rfl (av_cons ev_int av_nil) runI_len) (eb_of ev_int) (nomark _)))) (fun _ _ _ _ _ => (ev_var 3)))))))))))))))
theorem cal__law_in_order (T : Txt P K mg) : Cal P w K mg base 2 "_law_in_order" (spV K mg 3 fn__law_in_order) := calV T.d__law_in_order sc__law_in_order bn__law_in_order fun f cdv A0 outer s H E A po =>
    (bv_cons (by first | exact (sv_par3 3 4 5 A.calm A.nd (am_val (ev_fn (cal__law_pieces T) A (by decide) rfl (av_cons (ev_var 0) (av_cons (ev_var 1) av_nil)) runV_len) (am_own (el_rep (el_lst (av_cons ev_int av_nil)) (eb_of (ev_callB cd_len rfl T.b_len bb_len (ab_one (eb_var 0))))) (am_own (el_lst av_nil) am_nil)))) | exact (sv_parG A.calm (am_val (ev_fn (cal__law_pieces T) A (by decide) rfl (av_cons (ev_var 0) (av_cons (ev_var 1) av_nil)) runV_len) (am_own (el_rep (el_lst (av_cons ev_int av_nil)) (eb_of (ev_callB cd_len rfl T.b_len bb_len (ab_one (eb_var 0))))) (am_own (el_lst av_nil) am_nil))) (gn_cons 3 A.nd (gn_cons 4 A.nd (gn_cons 5 A.nd gn_nil)))))
    (bv_cons (sv_for po A.calm (iv_seq (ev_var 2)) (gv_name 6 A.nd) (bv_cons (sv_append 5 (ev_tup (av_cons (ev_var 6) (av_cons (ev_ix ixd_seq (ev_ixB ixd_seq 3 (eb_var 6)) (eb_of (ev_ixB ixd_seq 4 (eb_var 6)))) av_nil))))
    (bv_one (sv_put 4 (ev_bin opd_add (ev_ixB ixd_seq 4 (eb_var 6)) (eb_of ev_int)) (ev_var 6)))))
    (bv_cons (sv_setL 7 A.nd (el_lst av_nil))
    (bv_cons (sv_for po A.calm (iv_range1 rfl T.b_range (av_cons (ev_callB cd_len rfl T.b_len bb_len (ab_one (eb_var 5))) av_nil)) (gv_name 8 A.nd) (bv_one (sv_setL 7 A.nd (el_bin opl_cat (ev_var 7) (eb_of (ev_frz (el_lc A.calm A.nd (iv_range1 rfl T.b_range (av_cons (ev_var 8) av_nil)) (blkOk_by (own := [("i", 11)]) rfl) (fun _ _ _ _ _ => (gv_name 11 A.blk.nd)) (fun _ _ _ _ _ => (cv_one (tv_w (wv_and (tv_cmp (opd_ne A.blk.u64) (ev_ix ixd_seq (ev_ixB ixd_seq 5 (eb_var 11)) (eb_of ev_int)) (eb_of (ev_ix ixd_seq (ev_ixB ixd_seq 5 (eb_var 8)) (eb_of ev_int))) (nomark _)) (wv_and1 (tv_val (eb_of (ev_fn (cal__law_touch T) A.blk (by decide) rfl (av_cons (ev_ix ixd_seq (ev_ixB ixd_seq 5 (eb_var 11)) (eb_of ev_int)) (av_cons (ev_ix ixd_seq (ev_ixB ixd_seq 5 (eb_var 8)) (eb_of ev_int)) av_nil)) runV_len)))))))) (fun _ _ _ _ _ => (ev_tup (av_cons (ev_ix ixd_seq (ev_ixB ixd_seq 5 (eb_var 11)) (eb_of ev_int)) (av_cons (ev_ix ixd_seq (ev_ixB ixd_seq 5 (eb_var 8)) (eb_of ev_int)) av_nil)))))))))))
    (bv_cons (sv_setL 9 A.nd (el_listRg A.calm rfl T.b_list rfl T.b_range (ev_callB cd_len rfl T.b_len bb_len (ab_one (eb_var 0)))))
    (bv_cons (sv_for po A.calm (iv_seq (ev_var 0)) (gv_name 10 A.nd) (bv_one (by first | (refine sv_setL 9 A.nd ?_; exact (el_lc A.calm A.nd (by exact (iv_seq (ev_var 9))) (blkOk_by (own := [("t", 6)]) rfl) (fun _ _ _ _ _ => (gv_name 6 A.blk.nd)) (fun _ _ _ _ _ => (cv_one (tv_val (eb_of (ev_callB (cd_any A.blk.calm) rfl T.b_any bb_any (ab_one (eb_of (ev_frz (el_lc A.blk.calm A.blk.nd (iv_seq (ev_var 7)) (blkOk_by (own := [("one", 12), ("two", 13)]) rfl) (fun _ _ _ _ _ => (gv_tup A.blk.blk.calm (gvs_cons (gv_name 12 A.blk.blk.nd) (gvs_cons (gv_name 13 A.blk.blk.nd) gvs_nil)))) (fun _ _ _ _ _ => cv_nil) (fun _ _ _ _ _ => (ev_and (ev_cmp (opd_eq A.blk.blk.u64) (ev_var 12) (eb_var 6) (nomark _)) (ev_one (ev_cmp (opd_in A.blk.blk.u65) (ev_var 13) (eb_var 9) (by with_unfolding_all rfl)))))))))))))) (fun _ _ _ _ _ => (ev_var 6)))) | exact (sv_setLc 9 A.calm A.nd (iv_seq (ev_var 9)) (blkOk_by (own := [("t", 6)]) rfl) (fun _ _ _ _ _ => (gv_name 6 A.blk.nd)) (fun _ _ _ _ _ => (cv_one (tv_val (eb_of (ev_callB (cd_any A.blk.calm) rfl T.b_any bb_any (ab_one (eb_of (ev_frz (el_lc A.blk.calm A.blk.nd (iv_seq (ev_var 7)) (blkOk_by (own := [("one", 12), ("two", 13)]) rfl) (fun _ _ _ _ _ => (gv_tup A.blk.blk.calm (gvs_cons (gv_name 12 A.blk.blk.nd) (gvs_cons (gv_name 13 A.blk.blk.nd) gvs_nil)))) (fun _ _ _ _ _ => cv_nil) (fun _ _ _ _ _ => (ev_and (ev_cmp (opd_eq A.blk.blk.u64) (ev_var 12) (eb_var 6) (nomark _)) (ev_one (ev_cmp (opd_in A.blk.blk.u65) (ev_var 13) (eb_var 9) (by with_unfolding_all rfl)))))))))))))) (fun _ _ _ _ _ => (ev_var 6)) rfl))))
    (bv_one (sv_ret (ev_cmp (opd_eq A.u64) (ev_var 9) (eb_of (ev_frz (el_lst av_nil))) (nomark _))))))))))
theorem cal__law_is_ring (T : Txt P K mg) : Cal P w K mg base 2 "_law_is_ring" (spV K mg 3 fn__law_is_ring) := calV T.d__law_is_ring sc__law_is_ring bn__law_is_ring fun f cdv A0 outer s H E A po =>
    (bv_cons (sv_if (tv_w (wv_or (tv_not (tv_val (eb_of (ev_isi .tuple rfl T.b_isinstance rfl T.b_tuple bb_tuple (eb_var 2))))) (wv_or (tv_cmp (opd_ne A.u64) (ev_callB cd_len rfl T.b_len bb_len (ab_one (eb_var 2))) (eb_of ev_int) (nomark _)) (wv_or (tv_not (tv_val (eb_of (ev_isi .str rfl T.b_isinstance rfl T.b_str bb_str (eb_of (ev_ixB ixd_seq 2 (eb_of ev_int))))))) (wv_or (tv_cmp (opd_ne A.u64) (ev_ixB ixd_seq 2 (eb_of ev_int)) (eb_of ev_str) (nomark _)) (wv_or1 (tv_not (tv_val (eb_of (ev_isi .tuple rfl T.b_isinstance rfl T.b_tuple bb_tuple (eb_of (ev_ixB ixd_seq 2 (eb_of ev_int))))))))))))) (bv_one (sv_ret ev_bl)) bv_nil)
    (bv_cons (sv_asg (ev_slB sld_any 2 (ov_some ev_int) ov_none) (gv_tup A.calm (gvs_cons (gv_name 3 A.nd) (gvs_cons (gv_name 4 A.nd) (gvs_cons (gv_name 5 A.nd) (gvs_cons (gv_name 6 A.nd) gvs_nil))))))
    (bv_cons (sv_if (tv_w (wv_or (tv_cmp (opd_eq A.u64) (ev_var 5) (eb_of (ev_tup av_nil)) (nomark _)) (wv_or1 (tv_not (tv_val (eb_of (ev_callB (cd_all A.calm) rfl T.b_all bb_all (ab_one (eb_of (ev_frz (el_lc A.calm A.nd (iv_seq (ev_bin opd_add (ev_tup (av_cons (ev_var 3) (av_cons (ev_var 4) (av_cons (ev_var 6) av_nil)))) (eb_var 5))) (blkOk_by (own := [("item", 8)]) rfl) (fun _ _ _ _ _ => (gv_name 8 A.blk.nd)) (fun _ _ _ _ _ => cv_nil) (fun _ _ _ _ _ => (ev_and (ev_isi .int rfl T.b_isinstance rfl T.b_int bb_int (eb_var 8)) (ev_one (ev_not (ev_isi .bool rfl T.b_isinstance rfl T.b_bool bb_bool (eb_var 8))))))))))))))))) (bv_one (sv_ret ev_bl)) bv_nil)
    (bv_cons (sv_if (tv_w (wv_or (tv_not (tv_chain opd_le opd_lt ev_int (ev_var 3) (eb_of (ev_callB cd_len rfl T.b_len bb_len (ab_one (eb_var 0)))))) (wv_or (tv_not (tv_chain3 opd_le opd_lt opd_lt ev_int (ev_var 4) (ev_var 6) (eb_of (ev_callB cd_len rfl T.b_len bb_len (ab_one (eb_of (ev_ixB ixd_seq 0 (eb_var 3)))))))) (wv_or1 (tv_cmp (opd_ne A.u64) (ev_slen A rfl T.b_len rfl T.b_set (eb_of (ev_bin opd_add (ev_var 5) (eb_of (ev_tup (av_cons (ev_var 3) av_nil)))))) (eb_of (ev_bin opd_add (ev_callB cd_len rfl T.b_len bb_len (ab_one (eb_var 5))) (eb_of ev_int))) (nomark _)))))) (bv_one (sv_ret ev_bl)) bv_nil)
    (bv_cons (sv_if (tv_w (wv_or (tv_not (tv_val (eb_of (ev_callB (cd_all A.calm) rfl T.b_all bb_all (ab_one (eb_of (ev_frz (el_lc A.calm A.nd (iv_seq (ev_var 5)) (blkOk_by (own := [("t", 9)]) rfl) (fun _ _ _ _ _ => (gv_name 9 A.blk.nd)) (fun _ _ _ _ _ => cv_nil) (fun _ _ _ _ _ => (ev_chain opd_le opd_lt ev_int (ev_var 9) (eb_of (ev_callB cd_len rfl T.b_len bb_len (ab_one (eb_var 0)))))))))))))) (wv_or1 (tv_cmp (opd_eq A.u64) (ev_fn (cal__law_number T) A (by decide) rfl (av_cons (ev_var 1) (av_cons (ev_var 3) (av_cons (ev_var 4) av_nil))) runV_len) (eb_of (ev_fn (cal__law_number T) A (by decide) rfl (av_cons (ev_var 1) (av_cons (ev_var 3) (av_cons (ev_var 6) av_nil))) runV_len)) (nomark _))))) (bv_one (sv_ret ev_bl)) bv_nil)
    (bv_cons (sv_if (tv_w (wv_or (tv_not (tv_val (eb_of (ev_fn (cal__law_touch T) A (by decide) rfl (av_cons (ev_frz (el_lst (av_cons (ev_ix ixd_seq (ev_ixB ixd_seq 0 (eb_var 3)) (eb_var 4)) av_nil))) (av_cons (ev_ixB ixd_seq 0 (eb_of (ev_ixB ixd_seq 5 (eb_of ev_int)))) av_nil)) runV_len)))) (wv_or1 (tv_not (tv_val (eb_of (ev_fn (cal__law_touch T) A (by decide) rfl (av_cons (ev_frz (el_lst (av_cons (ev_ix ixd_seq (ev_ixB ixd_seq 0 (eb_var 3)) (eb_var 6)) av_nil))) (av_cons (ev_ixB ixd_seq 0 (eb_of (ev_ixB ixd_seq 5 (eb_of (ev_un und_neg (eb_of ev_int)))))) av_nil)) runV_len))))))) (bv_one (sv_ret ev_bl)) bv_nil)
    (bv_one (sv_ret (ev_callB (cd_all A.calm) rfl T.b_all bb_all (ab_one (eb_of (ev_frz (el_lc A.calm A.nd (iv_range2 rfl T.b_range (av_cons ev_int (av_cons (ev_callB cd_len rfl T.b_len bb_len (ab_one (eb_var 5))) av_nil))) (blkOk_by (own := [("j", 7)]) rfl) (fun _ _ _ _ _ => (gv_name 7 A.blk.nd)) (fun _ _ _ _ _ => cv_nil) (fun _ _ _ _ _ => (ev_fn (cal__law_touch T) A.blk (by decide) rfl (av_cons (ev_ixB ixd_seq 0 (eb_of (ev_ixB ixd_seq 5 (eb_of (ev_bin opd_sub (ev_var 7) (eb_of ev_int)))))) (av_cons (ev_ixB ixd_seq 0 (eb_of (ev_ixB ixd_seq 5 (eb_var 7)))) av_nil)) runV_len)))))))))))))))
theorem cal__law_odd_texts (T : Txt P K mg) : Cal P w K mg base 2 "_law_odd_texts" (spI K 1 fn__law_odd_texts) := calI T.d__law_odd_texts sc__law_odd_texts bn__law_odd_texts rfl fun f cdv A0 outer s H E A po =>
    (bv_cons (sv_setL 2 A.nd (el_lst (av_cons ev_non (av_cons (ev_tup av_nil) (av_cons ev_int (av_cons (ev_frz (el_callT cl_list rfl T.b_list bb_list (ab_one (eb_var 1)))) (av_cons (ev_tup (av_cons (ev_tup av_nil) av_nil)) (av_cons (ev_tup (av_cons (ev_tup (av_cons (ev_tup (av_cons ev_str (av_cons ev_int av_nil))) av_nil)) av_nil)) (av_cons (ev_tup (av_cons (ev_tup (av_cons (ev_tup (av_cons ev_str (av_cons ev_int av_nil))) av_nil)) av_nil)) (av_cons (ev_tup (av_cons (ev_tup (av_cons (ev_tup (av_cons ev_str (av_cons ev_bl av_nil))) av_nil)) av_nil)) (av_cons (ev_tup (av_cons (ev_tup (av_cons (ev_tup (av_cons ev_str (av_cons ev_int (av_cons ev_int av_nil)))) av_nil)) av_nil)) (av_cons (ev_tup (av_cons (ev_frz (el_lst (av_cons (ev_tup (av_cons ev_str (av_cons ev_int av_nil))) av_nil))) av_nil)) (av_cons (ev_tup (av_cons (ev_tup (av_cons (ev_frz (el_lst (av_cons ev_str (av_cons ev_int av_nil)))) av_nil)) av_nil)) av_nil)))))))))))))
    (bv_one (sv_ret (ev_ix ixd_seq (ev_frz (el_bin opl_cat (ev_var 2) (eb_of (ev_frz (el_lst (av_cons (ev_bin opd_add (ev_var 1) (eb_of (ev_tup (av_cons ev_non av_nil)))) (av_cons (ev_bin opd_mulA (ev_tup (av_cons (ev_tup (av_cons (ev_tup (av_cons ev_str (av_cons ev_int av_nil))) av_nil)) av_nil)) (eb_of ev_int)) (av_cons (ev_tup (av_cons (ev_bin opd_mulA (ev_tup (av_cons (ev_tup (av_cons ev_str (av_cons ev_int av_nil))) av_nil)) (eb_of ev_int)) av_nil)) (av_cons (ev_tup (av_cons (ev_tup (av_cons ev_str (av_cons ev_int av_nil))) av_nil)) av_nil))))))))) (eb_of (ev_fnI 0 (cal__law_take T) A (by decide) rfl (av_cons ev_int av_nil) runI_len))))))
theorem cal__law_odd_cut (T : Txt P K mg) : Cal P w K mg base 2 "_law_odd_cut" (spI K 2 fn__law_odd_cut) := calI T.d__law_odd_cut sc__law_odd_cut bn__law_odd_cut rfl fun f cdv A0 outer s H E A po =>
    (bv_cons (sv_setL 3 A.nd (el_lst (av_cons ev_non (av_cons ev_int (av_cons (ev_frz (el_callT cl_list rfl T.b_list bb_list (ab_one (eb_var 2)))) (av_cons (ev_slB sld_any 2 ov_none (ov_some (ev_un und_neg (eb_of ev_int)))) (av_cons (ev_bin opd_add (ev_var 2) (eb_of (ev_tup (av_cons (ev_tup av_nil) av_nil)))) (av_cons (ev_bin opd_addL (ev_tup (av_cons (ev_tup (av_cons ev_int av_nil)) av_nil)) (eb_of (ev_slB sld_any 2 (ov_some ev_int) ov_none))) (av_cons (ev_bin opd_addL (ev_tup (av_cons (ev_tup (av_cons (ev_callB cd_len rfl T.b_len bb_len (ab_one (eb_of (ev_ixB ixd_seq 1 (eb_of ev_int))))) av_nil)) av_nil)) (eb_of (ev_slB sld_any 2 (ov_some ev_int) ov_none))) (av_cons (ev_bin opd_addL (ev_tup (av_cons (ev_tup (av_cons ev_bl av_nil)) av_nil)) (eb_of (ev_slB sld_any 2 (ov_some ev_int) ov_none))) (av_cons (ev_bin opd_addL (ev_tup (av_cons (ev_frz (el_lst av_nil)) av_nil)) (eb_of (ev_slB sld_any 2 (ov_some ev_int) ov_none))) (av_cons (ev_bin opd_addL (ev_tup (av_cons ev_non av_nil)) (eb_of (ev_slB sld_any 2 (ov_some ev_int) ov_none))) av_nil))))))))))))
    (bv_one (sv_ret (ev_ixB ixd_seq 3 (eb_of (ev_fnI 0 (cal__law_take T) A (by decide) rfl (av_cons ev_int av_nil) runI_len))))))
theorem cal_is_text (T : Txt P K mg) : Cal P w K mg base 3 "is_text" (spV K mg 1 fn_is_text) := calV T.d_is_text sc_is_text bn_is_text fun f cdv A0 outer s H E A po =>
    (bv_one (sv_ret (ev_and (ev_isi .tuple rfl T.b_isinstance rfl T.b_tuple bb_tuple (eb_var 0)) (ev_and (ev_chain opd_le opd_le ev_int (ev_callB cd_len rfl T.b_len bb_len (ab_one (eb_var 0))) (eb_of (ev_gl T.g_MOST_DEEDS rfl))) (ev_one (ev_callB (cd_all A.calm) rfl T.b_all bb_all (ab_one (eb_of (ev_frz (el_lc A.calm A.nd (iv_seq (ev_var 0)) (blkOk_by (own := [("deed", 1)]) rfl) (fun _ _ _ _ _ => (gv_name 1 A.blk.nd)) (fun _ _ _ _ _ => cv_nil) (fun _ _ _ _ _ => (ev_fn (cal_is_deed T) A.blk (by decide) rfl (av_cons (ev_var 1) av_nil) runV_len))))))))))))
theorem cal_joined_to (T : Txt P K mg) : Cal P w K mg base 3 "joined_to" (spO K 3 fn_joined_to) := calO T.d_joined_to sc_joined_to bn_joined_to fun f cdv A0 outer s H E A po =>
    (bv_cons (by first | (refine sv_setL 3 A.nd ?_; exact (el_lc A.calm A.nd (by exact (iv_range1 rfl T.b_range (av_cons (ev_callB cd_len rfl T.b_len bb_len (ab_one (eb_var 0))) av_nil))) (blkOk_by (own := [("t", 7)]) rfl) (fun _ _ _ _ _ => (gv_name 7 A.blk.nd)) (fun _ _ _ _ _ => (cv_one (tv_cmp (opd_ne A.blk.u64) (ev_var 7) (eb_var 1) (nomark _)))) (fun _ _ _ _ _ => (ev_var 7)))) | exact (sv_setLc 3 A.calm A.nd (iv_range1 rfl T.b_range (av_cons (ev_callB cd_len rfl T.b_len bb_len (ab_one (eb_var 0))) av_nil)) (blkOk_by (own := [("t", 7)]) rfl) (fun _ _ _ _ _ => (gv_name 7 A.blk.nd)) (fun _ _ _ _ _ => (cv_one (tv_cmp (opd_ne A.blk.u64) (ev_var 7) (eb_var 1) (nomark _)))) (fun _ _ _ _ _ => (ev_var 7)) rfl))
    (bv_cons (by first | (refine sv_setOb 4 A.nd ?_; exact (eo_dc A.calm A.nd (by exact (iv_seq (ev_var 3))) (blkOk_by (own := [("t", 7)]) rfl) (fun _ _ _ _ _ => (gv_name 7 A.blk.nd)) (fun _ _ _ _ _ => (cv_one (tv_val (eb_of (ev_fn (cal_rows_touch T) A.blk (by decide) rfl (av_cons (ev_frz (el_lst (av_cons (ev_ix ixd_seq (ev_ixB ixd_seq 0 (eb_var 1)) (eb_var 2)) av_nil))) (av_cons (ev_ixB ixd_seq 0 (eb_var 7)) av_nil)) runV_len))))) (fun _ _ _ _ _ => (ev_var 7)) (fun _ _ _ _ _ => (ev_tup (av_cons (ev_var 7) av_nil))))) | exact (sv_setDc 4 A.calm A.nd (iv_seq (ev_var 3)) (blkOk_by (own := [("t", 7)]) rfl) (fun _ _ _ _ _ => (gv_name 7 A.blk.nd)) (fun _ _ _ _ _ => (cv_one (tv_val (eb_of (ev_fn (cal_rows_touch T) A.blk (by decide) rfl (av_cons (ev_frz (el_lst (av_cons (ev_ix ixd_seq (ev_ixB ixd_seq 0 (eb_var 1)) (eb_var 2)) av_nil))) (av_cons (ev_ixB ixd_seq 0 (eb_var 7)) av_nil)) runV_len))))) (fun _ _ _ _ _ => (ev_var 7)) (fun _ _ _ _ _ => (ev_tup (av_cons (ev_var 7) av_nil))) rfl))
    (bv_cons (sv_setL 5 A.nd (el_dksorted A 4 rfl T.b_sorted bb_sorted))
    (bv_cons (sv_set 6 A.nd ev_int)
    (bv_cons (sv_while fuelN po (tv_cmp opd_lt (ev_var 6) (eb_of (ev_callB cd_len rfl T.b_len bb_len (ab_one (eb_var 5)))) (nomark _)) (bv_cons (sv_for po A.calm (iv_seq (ev_var 3)) (gv_name 7 A.nd) (bv_one (sv_if (tv_w (wv_and (tv_dknotin A 4 (ev_var 7)) (wv_and1 (tv_val (eb_of (ev_fn (cal_rows_touch T) A (by decide) rfl (av_cons (ev_ixB ixd_seq 0 (eb_of (ev_ixB ixd_seq 5 (eb_var 6)))) (av_cons (ev_ixB ixd_seq 0 (eb_var 7)) av_nil)) runV_len)))))) (bv_cons (sv_dkput A 4 (ev_bin opd_add (ev_dget A 4 (ev_ixB ixd_seq 5 (eb_var 6))) (eb_of (ev_tup (av_cons (ev_var 7) av_nil)))) (ev_var 7))
    (bv_one (sv_append 5 (ev_var 7)))) bv_nil)))
    (bv_one (sv_aug 6 ip_add A.nd ev_int))))
    (bv_one (sv_retOb 4)))))))
theorem cal_is_ring (T : Txt P K mg) : Cal P w K mg base 3 "is_ring" (spV K mg 3 fn_is_ring) := calV T.d_is_ring sc_is_ring bn_is_ring fun f cdv A0 outer s H E A po =>
    (bv_cons (sv_if (tv_w (wv_or (tv_not (tv_val (eb_of (ev_isi .tuple rfl T.b_isinstance rfl T.b_tuple bb_tuple (eb_var 2))))) (wv_or (tv_cmp (opd_ne A.u64) (ev_callB cd_len rfl T.b_len bb_len (ab_one (eb_var 2))) (eb_of ev_int) (nomark _)) (wv_or (tv_not (tv_val (eb_of (ev_isi .str rfl T.b_isinstance rfl T.b_str bb_str (eb_of (ev_ixB ixd_seq 2 (eb_of ev_int))))))) (wv_or1 (tv_cmp (opd_ne A.u64) (ev_ixB ixd_seq 2 (eb_of ev_int)) (eb_of ev_str) (nomark _))))))) (bv_one (sv_ret ev_bl)) bv_nil)
    (bv_cons (sv_asg (ev_var 2) (gv_tup A.calm (gvs_cons (gv_name 3 A.nd) (gvs_cons (gv_name 4 A.nd) (gvs_cons (gv_name 5 A.nd) (gvs_cons (gv_name 6 A.nd) (gvs_cons (gv_name 7 A.nd) gvs_nil)))))))
    (bv_cons (sv_if (tv_w (wv_or (tv_not (tv_val (eb_of (ev_callB (cd_all A.calm) rfl T.b_all bb_all (ab_one (eb_of (ev_frz (el_lc A.calm A.nd (iv_seq (ev_tup (av_cons (ev_var 4) (av_cons (ev_var 5) (av_cons (ev_var 7) av_nil))))) (blkOk_by (own := [("item", 10)]) rfl) (fun _ _ _ _ _ => (gv_name 10 A.blk.nd)) (fun _ _ _ _ _ => cv_nil) (fun _ _ _ _ _ => (ev_fn (cal_is_whole T) A.blk (by decide) rfl (av_cons (ev_var 10) av_nil) runV_len)))))))))) (wv_or (tv_not (tv_chain opd_le opd_lt ev_int (ev_var 4) (eb_of (ev_callB cd_len rfl T.b_len bb_len (ab_one (eb_var 0)))))) (wv_or1 (tv_not (tv_val (eb_of (ev_fn (cal_is_names T) A (by decide) rfl (av_cons (ev_var 0) (av_cons (ev_var 4) (av_cons (ev_var 6) av_nil))) runV_len)))))))) (bv_one (sv_ret ev_bl)) bv_nil)
    (bv_cons (sv_if (tv_w (wv_or (tv_not (tv_chain3 opd_le opd_lt opd_lt ev_int (ev_var 5) (ev_var 7) (eb_of (ev_callB cd_len rfl T.b_len bb_len (ab_one (eb_of (ev_ixB ixd_seq 0 (eb_var 4)))))))) (wv_or1 (tv_cmp (opd_eq A.u64) (ev_fn (cal_piece_of T) A (by decide) rfl (av_cons (ev_ixB ixd_seq 1 (eb_var 4)) (av_cons (ev_var 5) av_nil)) runV_len) (eb_of (ev_fn (cal_piece_of T) A (by decide) rfl (av_cons (ev_ixB ixd_seq 1 (eb_var 4)) (av_cons (ev_var 7) av_nil)) runV_len)) (nomark _))))) (bv_one (sv_ret ev_bl)) bv_nil)
    (bv_cons (sv_if (tv_w (wv_or (tv_not (tv_val (eb_of (ev_fn (cal_rows_touch T) A (by decide) rfl (av_cons (ev_frz (el_lst (av_cons (ev_ix ixd_seq (ev_ixB ixd_seq 0 (eb_var 4)) (eb_var 5)) av_nil))) (av_cons (ev_ixB ixd_seq 0 (eb_of (ev_ixB ixd_seq 6 (eb_of ev_int)))) av_nil)) runV_len)))) (wv_or1 (tv_not (tv_val (eb_of (ev_fn (cal_rows_touch T) A (by decide) rfl (av_cons (ev_frz (el_lst (av_cons (ev_ix ixd_seq (ev_ixB ixd_seq 0 (eb_var 4)) (eb_var 7)) av_nil))) (av_cons (ev_ixB ixd_seq 0 (eb_of (ev_ixB ixd_seq 6 (eb_of (ev_un und_neg (eb_of ev_int)))))) av_nil)) runV_len))))))) (bv_one (sv_ret ev_bl)) bv_nil)
    (bv_one (sv_ret (ev_callB (cd_all A.calm) rfl T.b_all bb_all (ab_one (eb_of (ev_frz (el_lc A.calm A.nd (iv_zip rfl T.b_zip (av_cons (ev_var 6) (av_cons (ev_slB sld_any 6 (ov_some ev_int) ov_none) av_nil))) (blkOk_by (own := [("one", 8), ("two", 9)]) rfl) (fun _ _ _ _ _ => (gv_tup A.blk.calm (gvs_cons (gv_name 8 A.blk.nd) (gvs_cons (gv_name 9 A.blk.nd) gvs_nil)))) (fun _ _ _ _ _ => cv_nil) (fun _ _ _ _ _ => (ev_fn (cal_rows_touch T) A.blk (by decide) rfl (av_cons (ev_ixB ixd_seq 0 (eb_var 8)) (av_cons (ev_ixB ixd_seq 0 (eb_var 9)) av_nil)) runV_len))))))))))))))
theorem cal_is_texts (T : Txt P K mg) : Cal P w K mg base 4 "is_texts" (spV K mg 1 fn_is_texts) := calV T.d_is_texts sc_is_texts bn_is_texts fun f cdv A0 outer s H E A po =>
    (bv_one (sv_ret (ev_and (ev_isi .tuple rfl T.b_isinstance rfl T.b_tuple bb_tuple (eb_var 0)) (ev_and (ev_chain opd_le opd_le ev_int (ev_callB cd_len rfl T.b_len bb_len (ab_one (eb_var 0))) (eb_of (ev_gl T.g_MOST_PROGRAMS rfl))) (ev_one (ev_callB (cd_all A.calm) rfl T.b_all bb_all (ab_one (eb_of (ev_frz (el_lc A.calm A.nd (iv_seq (ev_var 0)) (blkOk_by (own := [("text", 1)]) rfl) (fun _ _ _ _ _ => (gv_name 1 A.blk.nd)) (fun _ _ _ _ _ => cv_nil) (fun _ _ _ _ _ => (ev_fn (cal_is_text T) A.blk (by decide) rfl (av_cons (ev_var 1) av_nil) runV_len))))))))))))
theorem cal_ring_between (T : Txt P K mg) : Cal P w K mg base 4 "ring_between" (spV K mg 4 fn_ring_between) := calV T.d_ring_between sc_ring_between bn_ring_between fun f cdv A0 outer s H E A po =>
    (bv_cons (sv_setOb 4 A.nd (eo_fn (cal_joined_to T) A (by decide) rfl (av_cons (ev_var 0) (av_cons (ev_var 1) (av_cons (ev_var 2) av_nil))) runO_len))
    (bv_cons (by first | (refine sv_setL 5 A.nd ?_; exact (el_lc A.calm A.nd (by exact (iv_seq (ev_frz (el_dksorted A 4 rfl T.b_sorted bb_sorted)))) (blkOk_by (own := [("t", 6)]) rfl) (fun _ _ _ _ _ => (gv_name 6 A.blk.nd)) (fun _ _ _ _ _ => (cv_one (tv_val (eb_of (ev_fn (cal_rows_touch T) A.blk (by decide) rfl (av_cons (ev_frz (el_lst (av_cons (ev_ix ixd_seq (ev_ixB ixd_seq 0 (eb_var 1)) (eb_var 3)) av_nil))) (av_cons (ev_ixB ixd_seq 0 (eb_var 6)) av_nil)) runV_len))))) (fun _ _ _ _ _ => (ev_dget A.blk 4 (ev_var 6))))) | exact (sv_setLc 5 A.calm A.nd (iv_seq (ev_frz (el_dksorted A 4 rfl T.b_sorted bb_sorted))) (blkOk_by (own := [("t", 6)]) rfl) (fun _ _ _ _ _ => (gv_name 6 A.blk.nd)) (fun _ _ _ _ _ => (cv_one (tv_val (eb_of (ev_fn (cal_rows_touch T) A.blk (by decide) rfl (av_cons (ev_frz (el_lst (av_cons (ev_ix ixd_seq (ev_ixB ixd_seq 0 (eb_var 1)) (eb_var 3)) av_nil))) (av_cons (ev_ixB ixd_seq 0 (eb_var 6)) av_nil)) runV_len))))) (fun _ _ _ _ _ => (ev_dget A.blk 4 (ev_var 6))) rfl))
    (bv_one (sv_ret (ev_if (tv_cmp opd_gt (ev_callB cd_len rfl T.b_len bb_len (ab_one (eb_var 5))) (eb_of ev_int) (nomark _)) (ev_ixB ixd_seq 5 (eb_of ev_int)) ev_non)))))
theorem cal_check_texts (T : Txt P K mg) : Cal P w K mg base 5 "check_texts" (spV K mg 1 fn_check_texts) := calV T.d_check_texts sc_check_texts bn_check_texts fun f cdv A0 outer s H E A po =>
    (bv_one (sv_if (tv_not (tv_val (eb_of (ev_fn (cal_is_texts T) A (by decide) rfl (av_cons (ev_var 0) av_nil) runV_len)))) (bv_one (sv_raiseD A.calm A.tk T.x_Malformed rfl)) bv_nil))
theorem cal_first_ring (T : Txt P K mg) : Cal P w K mg base 5 "first_ring" (spV K mg 2 fn_first_ring) := calV T.d_first_ring sc_first_ring bn_first_ring fun f cdv A0 outer s H E A po =>
    (bv_cons (sv_for po A.calm (iv_enum rfl T.b_enumerate (av_cons (ev_var 0) av_nil)) (gv_tup A.calm (gvs_cons (gv_name 2 A.nd) (gvs_cons (gv_name 3 A.nd) gvs_nil))) (bv_one (sv_for po A.calm (iv_range1 rfl T.b_range (av_cons (ev_callB cd_len rfl T.b_len bb_len (ab_one (eb_var 3))) av_nil)) (gv_name 4 A.nd) (bv_one (sv_for po A.calm (iv_range1 rfl T.b_range (av_cons (ev_var 4) av_nil)) (gv_name 5 A.nd) (bv_cons (sv_set 6 A.nd (ev_fn (cal_ring_between T) A (by decide) rfl (av_cons (ev_var 0) (av_cons (ev_var 2) (av_cons (ev_var 5) (av_cons (ev_var 4) av_nil)))) runV_len))
    (bv_one (sv_if (tv_w (wv_and (tv_cmp opd_isnot (ev_var 6) (eb_of ev_non) (nomark _)) (wv_and1 (tv_cmp (opd_ne A.u64) (ev_fn (cal_piece_of T) A (by decide) rfl (av_cons (ev_ixB ixd_seq 1 (eb_var 2)) (av_cons (ev_var 5) av_nil)) runV_len) (eb_of (ev_fn (cal_piece_of T) A (by decide) rfl (av_cons (ev_ixB ixd_seq 1 (eb_var 2)) (av_cons (ev_var 4) av_nil)) runV_len)) (nomark _))))) (bv_one (sv_ret (ev_tup (av_cons ev_str (av_cons (ev_var 2) (av_cons (ev_var 5) (av_cons (ev_var 6) (av_cons (ev_var 4) av_nil)))))))) bv_nil))))))))
    (bv_one (sv_ret ev_non)))
theorem cal_is_cut (T : Txt P K mg) : Cal P w K mg base 6 "is_cut" (spV K mg 2 fn_is_cut) := calV T.d_is_cut sc_is_cut bn_is_cut fun f cdv A0 outer s H E A po =>
    (bv_cons (sv_expr (ev_fn (cal_check_texts T) A (by decide) rfl (av_cons (ev_var 0) av_nil) runV_len))
    (bv_cons (sv_if (tv_w (wv_or (tv_not (tv_val (eb_of (ev_isi .tuple rfl T.b_isinstance rfl T.b_tuple bb_tuple (eb_var 1))))) (wv_or1 (tv_cmp (opd_ne A.u64) (ev_callB cd_len rfl T.b_len bb_len (ab_one (eb_var 1))) (eb_of (ev_callB cd_len rfl T.b_len bb_len (ab_one (eb_var 0)))) (nomark _))))) (bv_one (sv_ret ev_bl)) bv_nil)
    (bv_one (sv_ret (ev_callB (cd_all A.calm) rfl T.b_all bb_all (ab_one (eb_of (ev_frz (el_lc A.calm A.nd (iv_zip rfl T.b_zip (av_cons (ev_var 0) (av_cons (ev_var 1) av_nil))) (blkOk_by (own := [("text", 2), ("places", 3)]) rfl) (fun _ _ _ _ _ => (gv_tup A.blk.calm (gvs_cons (gv_name 2 A.blk.nd) (gvs_cons (gv_name 3 A.blk.nd) gvs_nil)))) (fun _ _ _ _ _ => cv_nil) (fun _ _ _ _ _ => (ev_fn (cal_is_places T) A.blk (by decide) rfl (av_cons (ev_var 2) (av_cons (ev_var 3) av_nil)) runV_len)))))))))))
theorem cal_check_cut (T : Txt P K mg) : Cal P w K mg base 7 "check_cut" (spV K mg 2 fn_check_cut) := calV T.d_check_cut sc_check_cut bn_check_cut fun f cdv A0 outer s H E A po =>
    (bv_one (sv_if (tv_not (tv_val (eb_of (ev_fn (cal_is_cut T) A (by decide) rfl (av_cons (ev_var 0) (av_cons (ev_var 1) av_nil)) runV_len)))) (bv_one (sv_raiseD A.calm A.tk T.x_Malformed rfl)) bv_nil))
theorem cal__law_bent_n (T : Txt P K mg) : ∀ n : Nat, Cal P w K mg base (1 + n + 1) "_law_bent" (spI K 1 (fn__law_bent_n n))
  | 0 => calI T.d__law_bent sc__law_bent bn__law_bent rfl  fun f cdv A0 outer s H E A po => bv_none
  | n + 1 => calI T.d__law_bent sc__law_bent bn__law_bent rfl  fun f cdv A0 outer s H E A po =>
    (bv_cons (sv_if (tv_w (wv_and (tv_val (eb_of (ev_isi .tuple rfl T.b_isinstance rfl T.b_tuple bb_tuple (eb_var 1)))) (wv_and (tv_cmp opd_gt (ev_callB cd_len rfl T.b_len bb_len (ab_one (eb_var 1))) (eb_of ev_int) (nomark _)) (wv_and1 (tv_cmp (opd_gtA A.u66) (ev_fnI 0 (cal__law_take T) A (by omega) rfl (av_cons ev_int av_nil) runI_len) (eb_of ev_int) (nomark _)))))) (bv_cons (sv_set 2 A.nd (ev_fnI 0 (cal__law_take T) A (by omega) rfl (av_cons (ev_callB cd_len rfl T.b_len bb_len (ab_one (eb_var 1))) av_nil) runI_len))
    (bv_one (sv_ret (ev_bin opd_addL (ev_bin opd_addL (ev_slB sld_any 1 ov_none (ov_some (ev_var 2))) (eb_of (ev_tup (av_cons (ev_fnI 0 (cal__law_bent_n T n) A (by omega) rfl (av_cons (ev_ixB ixd_seq 1 (eb_var 2)) av_nil) (len__law_bent_n n)) av_nil)))) (eb_of (ev_slB sld_any 1 (ov_some (ev_bin opd_add (ev_var 2) (eb_of ev_int))) ov_none)))))) bv_nil)
    (bv_cons (sv_if (tv_val (eb_of (ev_isi .tuple rfl T.b_isinstance rfl T.b_tuple bb_tuple (eb_var 1)))) (bv_one (sv_ret (ev_ix ixd_seq (ev_frz (el_lst (av_cons (ev_frz (el_callT cl_list rfl T.b_list bb_list (ab_one (eb_var 1)))) (av_cons (ev_bin opd_addL (ev_var 1) (eb_of (ev_slB sld_any 1 ov_none (ov_some ev_int)))) (av_cons (ev_slB sld_any 1 ov_none (ov_some (ev_un und_neg (eb_of ev_int)))) (av_cons (ev_revA (ev_var 1)) (av_cons ev_non (av_cons (ev_tup av_nil) av_nil)))))))) (eb_of (ev_fnI 0 (cal__law_take T) A (by omega) rfl (av_cons ev_int av_nil) runI_len))))) bv_nil)
    (bv_cons (sv_if (tv_val (eb_of (ev_isi .str rfl T.b_isinstance rfl T.b_str bb_str (eb_var 1)))) (bv_one (sv_ret (ev_ix ixd_seq (ev_frz (el_lst (av_cons ev_str (av_cons ev_str (av_cons ev_non av_nil))))) (eb_of (ev_fnI 0 (cal__law_take T) A (by omega) rfl (av_cons ev_int av_nil) runI_len))))) bv_nil)
    (bv_one (sv_ret (ev_ix ixd_seq (ev_frz (el_lst (av_cons ev_int (av_cons ev_int (av_cons (ev_bin opd_add (ev_var 1) (eb_of ev_int)) (av_cons (ev_bin opd_sub (ev_var 1) (eb_of ev_int)) (av_cons ev_bl (av_cons ev_non av_nil)))))))) (eb_of (ev_fnI 0 (cal__law_take T) A (by omega) rfl (av_cons ev_int av_nil) runI_len))))))))
theorem cal__law_bent (T : Txt P K mg) : Cal P w K mg base 7 "_law_bent" (spI K 1 fn__law_bent) := cal__law_bent_n T 5
theorem cal_cut_ring (T : Txt P K mg) : Cal P w K mg base 8 "cut_ring" (spV K mg 2 fn_cut_ring) := calV T.d_cut_ring sc_cut_ring bn_cut_ring fun f cdv A0 outer s H E A po =>
    (bv_cons (sv_expr (ev_fn (cal_check_cut T) A (by decide) rfl (av_cons (ev_var 0) (av_cons (ev_var 1) av_nil)) runV_len))
    (bv_one (sv_ret (ev_fn (cal_first_ring T) A (by decide) rfl (av_cons (ev_var 0) (av_cons (ev_var 1) av_nil)) runV_len))))
theorem cal_takes_cut_ring (T : Txt P K mg) : Cal P w K mg base 8 "takes_cut_ring" (spV K mg 3 fn_takes_cut_ring) := calV T.d_takes_cut_ring sc_takes_cut_ring bn_takes_cut_ring fun f cdv A0 outer s H E A po =>
    (bv_cons (sv_expr (ev_fn (cal_check_cut T) A (by decide) rfl (av_cons (ev_var 0) (av_cons (ev_var 1) av_nil)) runV_len))
    (bv_one (sv_ret (ev_fn (cal_is_ring T) A (by decide) rfl (av_cons (ev_var 0) (av_cons (ev_var 1) (av_cons (ev_var 2) av_nil))) runV_len))))
theorem cal_ring_run (T : Txt P K mg) : Cal P w K mg base 8 "ring_run" (spV K mg 3 fn_ring_run) := calV T.d_ring_run sc_ring_run bn_ring_run fun f cdv A0 outer s H E A po =>
    (bv_cons (sv_expr (ev_fn (cal_check_cut T) A (by decide) rfl (av_cons (ev_var 0) (av_cons (ev_var 1) av_nil)) runV_len))
    (bv_cons (sv_if (tv_not (tv_val (eb_of (ev_isi .tuple rfl T.b_isinstance rfl T.b_tuple bb_tuple (eb_var 2))))) (bv_one (sv_raiseD A.calm A.tk T.x_Malformed rfl)) bv_nil)
    (bv_cons (sv_if (tv_not (tv_val (eb_of (ev_fn (cal_is_ring T) A (by decide) rfl (av_cons (ev_var 0) (av_cons (ev_var 1) (av_cons (ev_var 2) av_nil))) runV_len)))) (bv_one (sv_raiseF A (by decide) T.x_Refused rfl)) bv_nil)
    (bv_cons (sv_asg (ev_var 2) (gv_tup A.calm (gvs_cons (gv_name 3 A.nd) (gvs_cons (gv_name 4 A.nd) (gvs_cons (gv_name 5 A.nd) (gvs_cons (gv_name 6 A.nd) (gvs_cons (gv_name 3 A.nd) gvs_nil)))))))
    (bv_cons (sv_set 7 A.nd (ev_bin opd_add (ev_fn (cal_piece_of T) A (by decide) rfl (av_cons (ev_ixB ixd_seq 1 (eb_var 4)) (av_cons (ev_var 5) av_nil)) runV_len) (eb_of ev_int)))
    (bv_cons (by first | (refine sv_setL 8 A.nd ?_; exact (el_lc A.calm A.nd (by exact (iv_seq (ev_var 1))) (blkOk_by (own := [("places", 11)]) rfl) (fun _ _ _ _ _ => (gv_name 11 A.blk.nd)) (fun _ _ _ _ _ => cv_nil) (fun _ _ _ _ _ => (ev_bin opd_add (ev_callB cd_len rfl T.b_len bb_len (ab_one (eb_var 11))) (eb_of ev_int))))) | exact (sv_setLc 8 A.calm A.nd (iv_seq (ev_var 1)) (blkOk_by (own := [("places", 11)]) rfl) (fun _ _ _ _ _ => (gv_name 11 A.blk.nd)) (fun _ _ _ _ _ => cv_nil) (fun _ _ _ _ _ => (ev_bin opd_add (ev_callB cd_len rfl T.b_len bb_len (ab_one (eb_var 11))) (eb_of ev_int))) rfl))
    (bv_cons (sv_setL 9 A.nd (el_rep (el_lst (av_cons (ev_var 4) av_nil)) (eb_var 7)))
    (bv_cons (sv_for po A.calm (iv_seq (ev_var 6)) (gv_name 10 A.nd) (bv_one (sv_extend 9 (eb_of (ev_frz (el_rep (el_lst (av_cons (ev_var 10) av_nil)) (eb_of (ev_ixB ixd_seq 8 (eb_var 10)))))))))
    (bv_cons (sv_for po A.calm (iv_range1 rfl T.b_range (av_cons (ev_callB cd_len rfl T.b_len bb_len (ab_one (eb_var 0))) av_nil)) (gv_name 10 A.nd) (bv_one (sv_if (tv_cmp (opd_notIn A.u65) (ev_var 10) (eb_var 6) (by with_unfolding_all rfl)) (bv_one (sv_extend 9 (eb_of (ev_frz (el_rep (el_lst (av_cons (ev_var 10) av_nil)) (eb_of (ev_if (tv_cmp (opd_eq A.u64) (ev_var 10) (eb_var 4) (nomark _)) (ev_bin opd_sub (ev_ixB ixd_seq 8 (eb_var 10)) (eb_var 7)) (ev_ixB ixd_seq 8 (eb_var 10))))))))) bv_nil)))
    (bv_one (sv_ret (ev_callT cd_tuple rfl T.b_tuple bb_tuple (ab_one (eb_var 9))))))))))))))
theorem cal__law_told (T : Txt P K mg) : Cal P w K mg base 9 "_law_told" (spV K mg 4 fn__law_told) := calV T.d__law_told sc__law_told bn__law_told fun f cdv A0 outer s H E A po =>
    (bv_one (sv_tryM A rfl rfl (cl_pl T.x_Malformed.cln rfl (no_cons T.n_Refused_Malformed no_nil) (fun _ _ => (bv_one (sv_ret ev_str))) (cl_as 4 T.x_Refused.cln rfl no_nil (se_add (se_add se_str (se_fld rfl (Or.inl rfl) T.x_Refused)) se_str) .nil)) (fun _ _ _ At pot => (bv_cons (sv_if (tv_cmp (opd_eq At.u64) (ev_var 0) (eb_of ev_int) (nomark _)) (bv_one (sv_ret (ev_fn (cal_cut_ring T) At (by decide) rfl (av_cons (ev_var 1) (av_cons (ev_var 2) av_nil)) runV_len))) bv_nil)
    (bv_one (sv_ret (ev_if (tv_cmp (opd_eq At.u64) (ev_var 0) (eb_of ev_int) (nomark _)) (ev_fn (cal_takes_cut_ring T) At (by decide) rfl (av_cons (ev_var 1) (av_cons (ev_var 2) (av_cons (ev_var 3) av_nil))) runV_len) (ev_fn (cal_ring_run T) At (by decide) rfl (av_cons (ev_var 1) (av_cons (ev_var 2) (av_cons (ev_var 3) av_nil))) runV_len))))))))
theorem law_ok {fa : Addr} (T : Txt P K mg) (hfa : mg "law" = some (.ref fa)) : ∃ fd : FuncData, (∀ (s : Shared) (u : Value), BindsTo s fd ⟨[u], []⟩ [("script", u)]) ∧ ∀ base : Heap, FnG P w K mg base 10 fa fd ["script"] (spV K mg 1 fn_law) := lawV T.d_law hfa sc_law bn_law fun base f cdv A0 outer s H E A po =>
    (bv_cons (sv_setL 1 A.nd (el_fn (cal__law_draw T) A (by decide) rfl (av_cons (ev_var 0) av_nil) runL_len))
    (bv_cons (sv_for po A.calm (iv_range1 rfl T.b_range (av_cons ev_int av_nil)) (gv_name 2 A.nd) (bv_cons (sv_set 3 A.nd (ev_fnI 1 (cal__law_texts T) A (by decide) rfl (av_cons ev_int av_nil) runI_len))
    (bv_cons (sv_set 4 A.nd (ev_fnI 1 (cal__law_cut T) A (by decide) rfl (av_cons (ev_var 3) av_nil) runI_len))
    (bv_cons (by first | (refine sv_setL 5 A.nd ?_; exact (el_lc A.calm A.nd (by exact (iv_seq (ev_var 4))) (blkOk_by (own := [("places", 20)]) rfl) (fun _ _ _ _ _ => (gv_name 20 A.blk.nd)) (fun _ _ _ _ _ => cv_nil) (fun _ _ _ _ _ => (ev_bin opd_add (ev_callB cd_len rfl T.b_len bb_len (ab_one (eb_var 20))) (eb_of ev_int))))) | exact (sv_setLc 5 A.calm A.nd (iv_seq (ev_var 4)) (blkOk_by (own := [("places", 20)]) rfl) (fun _ _ _ _ _ => (gv_name 20 A.blk.nd)) (fun _ _ _ _ _ => cv_nil) (fun _ _ _ _ _ => (ev_bin opd_add (ev_callB cd_len rfl T.b_len bb_len (ab_one (eb_var 20))) (eb_of ev_int))) rfl))
    (bv_cons (sv_set 6 A.nd (ev_fn (cal_cut_ring T) A (by decide) rfl (av_cons (ev_var 3) (av_cons (ev_var 4) av_nil)) runV_len))
    (bv_cons (sv_if (tv_w (wv_and (tv_cmp opd_lt (ev_callB (cd_sum A.calm) rfl T.b_sum bb_sum (ab_one (eb_var 5))) (eb_of ev_int) (nomark _)) (wv_and1 (tv_cmp (opd_ne A.u64) (ev_cmp opd_is (ev_var 6) (eb_of ev_non) (nomark _)) (eb_of (ev_callB (cd_all A.calm) rfl T.b_all bb_all (ab_one (eb_of (ev_frz (el_lc A.calm A.nd (iv_seq (ev_fn (cal__law_runs T) A (by decide) rfl (av_cons (ev_var 5) av_nil) runV_len)) (blkOk_by (own := [("run", 22)]) rfl) (fun _ _ _ _ _ => (gv_name 22 A.blk.nd)) (fun _ _ _ _ _ => cv_nil) (fun _ _ _ _ _ => (ev_fn (cal__law_in_order T) A.blk (by decide) rfl (av_cons (ev_var 3) (av_cons (ev_var 4) (av_cons (ev_var 22) av_nil))) runV_len)))))))) (nomark _))))) (bv_one (sv_ret ev_bl)) bv_nil)
    (bv_cons (sv_if (tv_cmp opd_isnot (ev_var 6) (eb_of ev_non) (nomark _)) (bv_cons (sv_if (tv_not (tv_val (eb_of (ev_fn (cal__law_is_ring T) A (by decide) rfl (av_cons (ev_var 3) (av_cons (ev_var 4) (av_cons (ev_var 6) av_nil))) runV_len)))) (bv_one (sv_ret ev_bl)) bv_nil)
    (bv_cons (sv_asg (ev_slB sld_any 6 (ov_some ev_int) ov_none) (gv_tup A.calm (gvs_cons (gv_name 7 A.nd) (gvs_cons (gv_name 8 A.nd) (gvs_cons (gv_name 9 A.nd) (gvs_cons (gv_name 10 A.nd) gvs_nil))))))
    (bv_cons (sv_set 11 A.nd (ev_bin opd_add (ev_fn (cal__law_number T) A (by decide) rfl (av_cons (ev_var 4) (av_cons (ev_var 7) (av_cons (ev_var 8) av_nil))) runV_len) (eb_of ev_int)))
    (bv_cons (sv_set 12 A.nd (ev_bin opd_mulA (ev_tup (av_cons (ev_var 7) av_nil)) (eb_var 11)))
    (bv_cons (sv_for po A.calm (iv_seq (ev_var 9)) (gv_name 13 A.nd) (bv_one (sv_set 12 A.nd (ev_bin opd_add (ev_var 12) (eb_of (ev_bin opd_mulA (ev_tup (av_cons (ev_var 13) av_nil)) (eb_of (ev_ixB ixd_seq 5 (eb_var 13)))))))))
    (bv_cons (sv_for po A.calm (iv_range1 rfl T.b_range (av_cons (ev_callB cd_len rfl T.b_len bb_len (ab_one (eb_var 3))) av_nil)) (gv_name 13 A.nd) (bv_one (sv_if (tv_cmp (opd_notIn A.u65) (ev_var 13) (eb_var 9) (by with_unfolding_all rfl)) (bv_one (sv_set 12 A.nd (ev_bin opd_add (ev_var 12) (eb_of (ev_bin opd_mulA (ev_tup (av_cons (ev_var 13) av_nil)) (eb_of (ev_bin opd_sub (ev_ixB ixd_seq 5 (eb_var 13)) (eb_of (ev_if (tv_cmp (opd_eq A.u64) (ev_var 13) (eb_var 7) (nomark _)) (ev_var 11) ev_int))))))))) bv_nil)))
    (bv_one (sv_if (tv_w (wv_or (tv_cmp (opd_ne A.u64) (ev_callB (cd_repr A.gd A.u66) rfl T.b_repr bb_repr (ab_one (eb_of (ev_fn (cal_ring_run T) A (by decide) rfl (av_cons (ev_var 3) (av_cons (ev_var 4) (av_cons (ev_var 6) av_nil))) runV_len)))) (eb_of (ev_callB (cd_repr A.gd A.u66) rfl T.b_repr bb_repr (ab_one (eb_var 12)))) (nomark _)) (wv_or1 (tv_val (eb_of (ev_fn (cal__law_in_order T) A (by decide) rfl (av_cons (ev_var 3) (av_cons (ev_var 4) (av_cons (ev_var 12) av_nil))) runV_len)))))) (bv_one (sv_ret ev_bl)) bv_nil)))))))) bv_nil)
    (bv_cons (sv_set 14 A.nd (ev_if (tv_cmp opd_isnot (ev_var 6) (eb_of ev_non) (nomark _)) (ev_var 6) (ev_tup (av_cons ev_str (av_cons ev_int (av_cons ev_int (av_cons (ev_tup (av_cons ev_int av_nil)) (av_cons ev_int av_nil))))))))
    (bv_cons (sv_setL 15 A.nd (el_bin opl_cat (ev_frz (el_lst (av_cons (ev_var 14) (av_cons (ev_frz (el_callT cl_list rfl T.b_list bb_list (ab_one (eb_var 14)))) (av_cons (ev_slB sld_any 14 ov_none (ov_some ev_int)) (av_cons ev_non (av_cons (ev_tup av_nil) (av_cons (ev_tup (av_cons ev_str (av_cons ev_int (av_cons ev_int (av_cons (ev_tup av_nil) (av_cons ev_int av_nil)))))) (av_cons (ev_tup (av_cons ev_str (av_cons ev_int (av_cons ev_int (av_cons (ev_tup (av_cons ev_int av_nil)) (av_cons ev_int av_nil)))))) av_nil))))))))) (eb_of (ev_frz (el_lc A.calm A.nd (iv_range1 rfl T.b_range (av_cons ev_int av_nil)) (blkOk_by (own := [("k", 10)]) rfl) (fun _ _ _ _ _ => (gv_name 10 A.blk.nd)) (fun _ _ _ _ _ => cv_nil) (fun _ _ _ _ _ => (ev_fnI 1 (cal__law_bent T) A.blk (by decide) rfl (av_cons (ev_var 14) av_nil) (len__law_bent_n 5))))))))
    (bv_one (sv_for po A.calm (iv_seq (ev_var 15)) (gv_name 16 A.nd) (bv_cons (sv_set 17 A.nd (ev_fn (cal__law_is_ring T) A (by decide) rfl (av_cons (ev_var 3) (av_cons (ev_var 4) (av_cons (ev_var 16) av_nil))) runV_len))
    (bv_cons (sv_if (tv_w (wv_or (tv_not (tv_val (eb_of (ev_fn (cal__law_says T) A (by decide) rfl (av_cons (ev_fn (cal_takes_cut_ring T) A (by decide) rfl (av_cons (ev_var 3) (av_cons (ev_var 4) (av_cons (ev_var 16) av_nil))) runV_len) (av_cons (ev_var 17) av_nil)) runV_len)))) (wv_or1 (tv_w (wv_and (tv_val (eb_var 17)) (wv_and1 (tv_cmp opd_is (ev_var 6) (eb_of ev_non) (nomark _)))))))) (bv_one (sv_ret ev_bl)) bv_nil)
    (bv_one (sv_if (tv_w (wv_and (tv_not (tv_val (eb_var 17))) (wv_and1 (tv_cmp (opd_ne A.u64) (ev_fn (cal__law_told T) A (by decide) rfl (av_cons ev_int (av_cons (ev_var 3) (av_cons (ev_var 4) (av_cons (ev_var 16) av_nil)))) runV_len) (eb_of (ev_if (tv_val (eb_of (ev_isi .tuple rfl T.b_isinstance rfl T.b_tuple bb_tuple (eb_var 16)))) ev_str ev_str)) (nomark _))))) (bv_one (sv_ret ev_bl)) bv_nil)))))))))))))))
    (bv_cons (by first | exact (sv_par2 18 19 A.calm A.nd (am_val (ev_fnI 1 (cal__law_odd_texts T) A (by decide) rfl (av_cons (ev_var 3) av_nil) runI_len) (am_val (ev_fnI 1 (cal__law_odd_cut T) A (by decide) rfl (av_cons (ev_var 3) (av_cons (ev_var 4) av_nil)) runI_len) am_nil))) | exact (sv_parG A.calm (am_val (ev_fnI 1 (cal__law_odd_texts T) A (by decide) rfl (av_cons (ev_var 3) av_nil) runI_len) (am_val (ev_fnI 1 (cal__law_odd_cut T) A (by decide) rfl (av_cons (ev_var 3) (av_cons (ev_var 4) av_nil)) runI_len) am_nil)) (gn_cons 18 A.nd (gn_cons 19 A.nd gn_nil))))
    (bv_one (sv_ret (ev_cmp (opd_eq A.u64) (ev_frz (el_bin opl_cat (ev_frz (el_lc A.calm A.nd (iv_range1 rfl T.b_range (av_cons ev_int av_nil)) (blkOk_by (own := [("which", 21)]) rfl) (fun _ _ _ _ _ => (gv_name 21 A.blk.nd)) (fun _ _ _ _ _ => cv_nil) (fun _ _ _ _ _ => (ev_fn (cal__law_told T) A.blk (by decide) rfl (av_cons (ev_var 21) (av_cons (ev_var 18) (av_cons (ev_var 4) (av_cons (ev_var 14) av_nil)))) runV_len)))) (eb_of (ev_frz (el_lc A.calm A.nd (iv_range1 rfl T.b_range (av_cons ev_int av_nil)) (blkOk_by (own := [("which", 21)]) rfl) (fun _ _ _ _ _ => (gv_name 21 A.blk.nd)) (fun _ _ _ _ _ => cv_nil) (fun _ _ _ _ _ => (ev_fn (cal__law_told T) A.blk (by decide) rfl (av_cons (ev_var 21) (av_cons (ev_var 3) (av_cons (ev_var 19) (av_cons (ev_var 14) av_nil)))) runV_len))))))) (eb_of (ev_frz (el_rep (el_lst (av_cons ev_str av_nil)) (eb_of ev_int)))) (nomark _)))))))
end
end K66

namespace D3
open PySem L2

/-! ### plain rules: a meaning is run, step by step; simp goes to no place ahead of its time -/
section
variable {α β : Type}
/-- a mark: what it stands behind is not simplified ahead of its time (another argument leans on it) -/
class DepC : Type where
  mk ::
instance depC : DepC := ⟨⟩
abbrev Dep {α : Sort u} (a : α) : Type := DepC
/-- f runs from ρ to a result of which Q holds -/
def wr (f : M α) (Q : Rs α → Prop) (ρ : Ev) [Dep f] [Dep Q] : Prop := ∃ r, f ρ = some r ∧ Q r
/-- o is there, and Q holds of it -/
def ex1 (o : Option α) (Q : α → Prop) [Dep Q] : Prop := ∃ a, o = some a ∧ Q a
@[simp ↓, simp] theorem ex1_some {a : α} {Q : α → Prop} : ex1 (some a) Q = Q a := propext ⟨fun ⟨_, e, q⟩ => by cases e; exact q, fun q => ⟨a, rfl, q⟩⟩
def itP (c : Bool) (p q : Prop) [Dep p] [Dep q] : Prop := if c then p else q
@[simp ↓, simp] theorem itP_true {p q : Prop} : itP true p q = p := rfl
@[simp ↓, simp] theorem itP_false {p q : Prop} : itP false p q = q := rfl
def bndK (g : α → M β) (Q : Rs β → Prop) [Dep g] [Dep Q] : Rs α → Prop
  | .ok a ρ => wr (g a) Q ρ
  | .ex x ρ => Q (.ex x ρ)
@[simp ↓] theorem bndK_ok {g : α → M β} {Q : Rs β → Prop} {a : α} {ρ : Ev} : bndK g Q (.ok a ρ) = wr (g a) Q ρ := rfl
@[simp ↓] theorem bndK_ex {g : α → M β} {Q : Rs β → Prop} {x : XV} {ρ : Ev} : bndK g Q (.ex x ρ) = Q (.ex x ρ) := rfl
def seqK (g : M Fl) (Q : Rs Fl → Prop) [Dep g] [Dep Q] : Rs Fl → Prop
  | .ok .nx ρ => wr g Q ρ
  | r => Q r
@[simp ↓] theorem seqK_nx {g : M Fl} {Q : Rs Fl → Prop} {ρ : Ev} : seqK g Q (.ok .nx ρ) = wr g Q ρ := rfl
@[simp ↓] theorem seqK_rt {g : M Fl} {Q : Rs Fl → Prop} {v : RV} {ρ : Ev} : seqK g Q (.ok (.rt v) ρ) = Q (.ok (.rt v) ρ) := rfl
@[simp ↓] theorem seqK_bk {g : M Fl} {Q : Rs Fl → Prop} {ρ : Ev} : seqK g Q (.ok .bk ρ) = Q (.ok .bk ρ) := rfl
@[simp ↓] theorem seqK_ct {g : M Fl} {Q : Rs Fl → Prop} {ρ : Ev} : seqK g Q (.ok .ct ρ) = Q (.ok .ct ρ) := rfl
@[simp ↓] theorem seqK_ex {g : M Fl} {Q : Rs Fl → Prop} {x : XV} {ρ : Ev} : seqK g Q (.ex x ρ) = Q (.ex x ρ) := rfl
variable {Q : Rs α → Prop} {ρ : Ev}
theorem wr_bnd0 {f : M β} {g : β → M α} : wr (bnd f g) Q ρ = wr f (bndK g Q) ρ := by
  unfold wr bnd
  cases e : f ρ with
  | none => simp
  | some r => cases r <;> simp [bndK, wr]
@[simp ↓] theorem wr_bnd {f : M β} {g : β → M α} : wr (bnd f g) Q ρ = wr f (bndK g Q) ρ := wr_bnd0
@[simp ↓] theorem wr_ret {a : α} : wr (ret a) Q ρ = Q (.ok a ρ) := by simp [wr, ret]
@[simp ↓] theorem wr_lft {o : Option α} : wr (lft o) Q ρ = ex1 o fun a => Q (.ok a ρ) := by
  unfold wr ex1 lft
  cases o <;> simp
@[simp ↓] theorem wr_lft' {o : Option α} : wr (fun ρ => lft o ρ) Q ρ = ex1 o fun a => Q (.ok a ρ) := wr_lft
@[simp ↓] theorem wr_ite {c : Bool} {f g : M α} : wr (if c = true then f else g) Q ρ = itP c (wr f Q ρ) (wr g Q ρ) := by cases c <;> rfl
def resP (o : Option (Except XV α)) (p : α → Prop) (q : XV → Prop) [Dep p] [Dep q] : Prop := ∃ r, o = some r ∧ match r with
  | .ok a => p a
  | .error x => q x
@[simp ↓, simp] theorem resP_ok {a : α} {p : α → Prop} {q : XV → Prop} : resP (some (.ok a)) p q = p a := by simp [resP]
@[simp ↓, simp] theorem resP_error {x : XV} {p : α → Prop} {q : XV → Prop} : resP (some (.error x)) p q = q x := by simp [resP]
@[simp ↓] theorem wr_lfx {o : Option (Except XV α)} : wr (lfx o) Q ρ = resP o (fun a => Q (.ok a ρ)) fun x => Q (.ex x ρ) := by
  unfold wr resP lfx
  cases o with
  | none => simp
  | some r => cases r <;> simp
@[simp ↓] theorem wr_eIf {t : M Bool} {f g : M α} : wr (eIf t f g) Q ρ = wr t (bndK (fun c => if c then f else g) Q) ρ := wr_bnd0
end
/-- the names, put in order -/
def atP (ρ : Ev) (K : Ev → Prop) [Dep K] : Prop := K ρ
@[simp ↓, simp] theorem atP_cons {s : Slot} {ρ : Ev} {K : Ev → Prop} : atP (s :: ρ) K = K (s :: ρ) := rfl
/-- what a slot holds -/
def varP (s : Option Slot) (p : PyData → Prop) (q : List PyData → Prop) [Dep p] [Dep q] : Prop := match s, p, q with
  | some (.val d), p, _ => p d
  | some (.own ds), _, q => q ds
  | _, _, _ => False
@[simp ↓, simp] theorem varP_val {d : PyData} {p : PyData → Prop} {q : List PyData → Prop} : varP (some (.val d)) p q = p d := rfl
@[simp ↓, simp] theorem varP_own {ds : List PyData} {p : PyData → Prop} {q : List PyData → Prop} : varP (some (.own ds)) p q = q ds := rfl
def lookP (s : Option Slot) (p : PyData → Prop) [Dep p] : Prop := match s, p with
  | some (.val d), p => p d
  | some (.own ds), p => p (.list ds)
  | some (.io ds), p => p (.list ds)
  | _, _ => False
@[simp ↓, simp] theorem lookP_val {d : PyData} {p : PyData → Prop} : lookP (some (.val d)) p = p d := rfl
@[simp ↓, simp] theorem lookP_own {ds : List PyData} {p : PyData → Prop} : lookP (some (.own ds)) p = p (.list ds) := rfl
@[simp ↓, simp] theorem lookP_io {ds : List PyData} {p : PyData → Prop} : lookP (some (.io ds)) p = p (.list ds) := rfl
section
variable {α β : Type} {ρ : Ev} {f g h : M PyData} {fl gl : M (List PyData)} {t t' : M Bool} {i : Nat} {d : PyData} {o : PyData → PyData → Option PyData}
variable {Q : Rs PyData → Prop} {QL : Rs (List PyData) → Prop} {QB : Rs Bool → Prop} {QF : Rs Fl → Prop}
@[simp ↓] theorem wr_eC : wr (eC d) Q ρ = Q (.ok d ρ) := wr_ret
@[simp ↓] theorem wr_eVar : wr (eVar i) Q ρ = varP ρ[i]? (fun d => Q (.ok d ρ)) fun ds => atP (ρ.set i (.val (.list ds))) fun ρ' => Q (.ok (.list ds) ρ') := by
  unfold wr eVar atP
  cases e : ρ[i]? with
  | none => simp [varP]
  | some s => cases s <;> simp [varP]
@[simp ↓] theorem wr_eLook : wr (eLook i) Q ρ = lookP ρ[i]? fun d => Q (.ok d ρ) := by
  unfold wr eLook look D3.lft
  cases e : ρ[i]? with
  | none => simp [lookP]
  | some s => cases s <;> simp [lookP]
theorem wr_is {α : Type} {f : M α} {Q : Rs α → Prop} {ρ : Ev} {o : Option (Rs α)} (e : f ρ = o) : wr f Q ρ = ex1 o Q := by
  unfold wr ex1
  rw [e]
theorem ex1_none {α : Type} {Q : α → Prop} : ex1 none Q = False := propext ⟨fun ⟨_, e, _⟩ => (by cases e), False.elim⟩
theorem ex1_map {α β : Type} {o : Option α} {f : α → β} {Q : β → Prop} : ex1 (o.map f) Q = ex1 o fun a => Q (f a) := by
  cases o with
  | none => rw [ex1_none]; exact ex1_none
  | some a => rw [ex1_some]; exact ex1_some
theorem wr_look {β : Type} {G : PyData → Option β} {QB : Rs β → Prop} : wr (fun ρ => lft ((look ρ i).bind G) ρ) QB ρ = lookP ρ[i]? fun d => ex1 (G d) fun a => QB (.ok a ρ) := by
  have h : ∀ s : Option Slot, ρ[i]? = s → wr (fun ρ => lft ((look ρ i).bind G) ρ) QB ρ = lookP s fun d => ex1 (G d) fun a => QB (.ok a ρ) := fun s e => by
    have key : ∀ {o : Option PyData}, look ρ i = o → wr (fun ρ => lft ((look ρ i).bind G) ρ) QB ρ = ex1 (o.bind G) fun a => QB (.ok a ρ) := fun {o} eo => by
      have : wr (fun ρ => lft ((look ρ i).bind G) ρ) QB ρ = wr (lft (o.bind G)) QB ρ := by unfold wr; rw [← eo]
      rw [this, wr_lft]
    cases s with
    | none => rw [key (o := none) (by unfold look; rw [e])]; exact ex1_none
    | some s => cases s with
      | nil => rw [key (o := none) (by unfold look; rw [e])]; exact ex1_none
      | val d => exact key (o := some d) (by unfold look; rw [e])
      | own ds => exact key (o := some (.list ds)) (by unfold look; rw [e])
      | io ds => exact key (o := some (.list ds)) (by unfold look; rw [e])
      | ob o => rw [key (o := none) (by unfold look; rw [e])]; exact ex1_none
  exact h _ rfl
@[simp ↓] theorem wr_eFrz : wr (eFrz fl) Q ρ = wr fl (bndK (fun ds => ret (.list ds)) Q) ρ := wr_bnd0
@[simp ↓] theorem wr_aNil : wr aNil QL ρ = QL (.ok [] ρ) := wr_ret
@[simp ↓] theorem wr_aCons : wr (aCons f fl) QL ρ = wr f (bndK (fun d => bnd fl fun ds => ret (d :: ds)) QL) ρ := wr_bnd0
@[simp ↓] theorem wr_aOne : wr (aOne f) QL ρ = wr f (bndK (fun d => ret [d]) QL) ρ := wr_bnd0
@[simp ↓] theorem wr_eBin : wr (eBin o f g) Q ρ = wr f (bndK (fun x => bnd g fun y => lft (o x y)) Q) ρ := wr_bnd0
@[simp ↓] theorem wr_eBinL {o : PyData → PyData → Option (List PyData)} : wr (eBinL o f g) QL ρ = wr f (bndK (fun x => bnd g fun y => lft (o x y)) QL) ρ := wr_bnd0
@[simp ↓] theorem wr_tBin : wr (tBin o f g) QB ρ = wr (eBin o f g) (bndK (fun d => lft (asB d)) QB) ρ := wr_bnd0
@[simp ↓] theorem wr_tTru : wr (tTru f) QB ρ = wr f (bndK (fun d => lft (truD d)) QB) ρ := wr_bnd0
@[simp ↓] theorem wr_tNt : wr (tNt t) QB ρ = wr t (bndK (fun c => ret (!c)) QB) ρ := wr_bnd0
@[simp ↓] theorem wr_tAn : wr (tAn t t') QB ρ = wr t (bndK (fun c => if c then t' else ret false) QB) ρ := wr_bnd0
@[simp ↓] theorem wr_tOrr : wr (tOrr t t') QB ρ = wr t (bndK (fun c => if c then ret true else t') QB) ρ := wr_bnd0
@[simp ↓] theorem wr_eAn : wr (eAn f g) Q ρ = wr f (bndK (fun d => bnd (lft (asB d)) fun c => if c then g else ret (.bool false)) Q) ρ := wr_bnd0
@[simp ↓] theorem wr_eOrr : wr (eOrr f g) Q ρ = wr f (bndK (fun d => bnd (lft (asB d)) fun c => if c then ret (.bool true) else g) Q) ρ := wr_bnd0
@[simp ↓] theorem wr_eNt : wr (eNt f) Q ρ = wr f (bndK (fun d => bnd (lft (asB d)) fun c => ret (.bool (!c))) Q) ρ := wr_bnd0
@[simp ↓] theorem wr_eUn {u : PyData → Option PyData} : wr (eUn u f) Q ρ = wr f (bndK (fun x => lft (u x)) Q) ρ := wr_bnd0
@[simp ↓] theorem wr_eChain {o' : PyData → PyData → Option PyData} : wr (eChain o o' f g h) Q ρ = wr f (bndK (fun x => bnd g fun y => bnd (lft ((o x y).bind asB)) fun k => if k then bnd h fun z => lft (o' y z) else ret (.bool false)) Q) ρ := wr_bnd0
@[simp ↓] theorem wr_tChn {o' : PyData → PyData → Option PyData} : wr (tChn o o' f g h) QB ρ = wr (eChain o o' f g h) (bndK (fun d => lft (asB d)) QB) ρ := wr_bnd0
@[simp ↓] theorem wr_eTup : wr (eTup fl) Q ρ = wr fl (bndK (fun ds => lft (if ds.length ≤ sizeLine then some (.tuple ds) else none)) Q) ρ := wr_bnd0
@[simp ↓] theorem wr_eLst : wr (eLst fl) QL ρ = wr fl (bndK (fun ds => lft (if ds.length ≤ sizeLine then some ds else none)) QL) ρ := wr_bnd0
@[simp ↓] theorem wr_eIxB : wr (eIxB o i g) Q ρ = wr (eLook i) (bndK (fun _ => bnd g fun y ρ => lft ((look ρ i).bind fun x => o x y) ρ) Q) ρ := wr_bnd0
@[simp ↓] theorem wr_ixTail {y : PyData} : wr (fun ρ => lft ((look ρ i).bind fun x => o x y) ρ) Q ρ = lookP ρ[i]? fun d => ex1 (o d y) fun a => Q (.ok a ρ) := wr_look
@[simp ↓] theorem wr_eSlB {s : PyData → Option Int → Option Int → Option PyData} {l u : M (Option Int)} : wr (eSlB s i l u) Q ρ = wr (eLook i) (bndK (fun _ => bnd l fun lo => bnd u fun hi => fun ρ => lft ((look ρ i).bind fun x => s x lo hi) ρ) Q) ρ := wr_bnd0
@[simp ↓] theorem wr_slTail {s : PyData → Option Int → Option Int → Option PyData} {lo hi : Option Int} : wr (fun ρ => lft ((look ρ i).bind fun x => s x lo hi) ρ) Q ρ = lookP ρ[i]? fun d => ex1 (s d lo hi) fun a => Q (.ok a ρ) := wr_look
@[simp ↓] theorem wr_eSl {s : PyData → Option Int → Option Int → Option PyData} {l u : M (Option Int)} : wr (eSl s f l u) Q ρ = wr f (bndK (fun x => bnd l fun lo => bnd u fun hi => lft (s x lo hi)) Q) ρ := wr_bnd0
@[simp ↓] theorem wr_oSome {QO : Rs (Option Int) → Prop} : wr (oSome f) QO ρ = wr f (bndK (fun d => lft ((asI d).map some)) QO) ρ := wr_bnd0
@[simp ↓] theorem wr_eCall {c : List PyData → Option PyData} : wr (eCall c fl) Q ρ = wr fl (bndK (fun ds => lft (c ds)) Q) ρ := wr_bnd0
@[simp ↓] theorem wr_eCallL {c : List PyData → Option (List PyData)} : wr (eCallL c fl) QL ρ = wr fl (bndK (fun ds => lft (c ds)) QL) ρ := wr_bnd0
@[simp ↓] theorem wr_eIsi {T : TyT} : wr (eIsi T f) Q ρ = wr f (bndK (fun d => ret (.bool (isiB T d))) Q) ρ := wr_bnd0
@[simp ↓] theorem wr_eRep : wr (eRep fl g) QL ρ = wr fl (bndK (fun xs => bnd g fun y => lft (repD (.list xs) y)) QL) ρ := wr_bnd0
@[simp ↓] theorem wr_eLrg : wr (eLrg f) QL ρ = wr f (bndK (fun d => lft (rgS d)) QL) ρ := wr_bnd0
@[simp ↓] theorem wr_eFn {m : FV} : wr (eFn m fl) Q ρ = wr fl (bndK (fun ds => lfx (m ds)) Q) ρ := wr_bnd0
@[simp ↓] theorem wr_eFnL {m : FL} : wr (eFnL m fl) QL ρ = wr fl (bndK (fun ds => lft (m ds)) QL) ρ := wr_bnd0
/-- a lent list's slot -/
def lentP (s : Option Slot) (p : List PyData → (List PyData → Slot) → Prop) [Dep p] : Prop := match s, p with
  | some (.own ds), p => p ds .own
  | some (.io ds), p => p ds .io
  | _, _ => False
@[simp ↓, simp] theorem lentP_own {ds : List PyData} {p : List PyData → (List PyData → Slot) → Prop} : lentP (some (.own ds)) p = p ds .own := rfl
@[simp ↓, simp] theorem lentP_io {ds : List PyData} {p : List PyData → (List PyData → Slot) → Prop} : lentP (some (.io ds)) p = p ds .io := rfl
@[simp ↓] theorem wr_eFnI {m : FI} : wr (eFnI m i fl) Q ρ = wr (eLook i) (bndK (fun _ => bnd fl fun ds ρ => match ρ[i]? with
  | some s => match lentD s with
    | some xs => match m xs ds with
      | some r => some (.ok r.1 (ρ.set i (lentS s r.2)))
      | none => none
    | none => none
  | none => none) Q) ρ := wr_bnd0
@[simp ↓] theorem wr_fnITail {m : FI} {ds : List PyData} : wr (fun ρ => match ρ[i]? with
  | some s => match lentD s with
    | some xs => match m xs ds with
      | some r => some (.ok r.1 (ρ.set i (lentS s r.2)))
      | none => none
    | none => none
  | none => none) Q ρ = lentP ρ[i]? fun xs mk => ex1 (m xs ds) fun r => atP (ρ.set i (mk r.2)) fun ρ' => Q (.ok r.1 ρ') := by
  have h : ∀ s : Option Slot, ρ[i]? = s → wr (fun ρ => match ρ[i]? with
    | some s => match lentD s with
      | some xs => match m xs ds with
        | some r => some (.ok r.1 (ρ.set i (lentS s r.2)))
        | none => none
      | none => none
    | none => none) Q ρ = lentP s fun xs mk => ex1 (m xs ds) fun r => atP (ρ.set i (mk r.2)) fun ρ' => Q (.ok r.1 ρ') := fun s e => by
    cases s with
    | none => exact (wr_is (o := none) (by rw [e])).trans ex1_none
    | some s => cases s with
      | nil => exact (wr_is (o := none) (by rw [e]; rfl)).trans ex1_none
      | val d => exact (wr_is (o := none) (by rw [e]; rfl)).trans ex1_none
      | ob d => exact (wr_is (o := none) (by rw [e]; rfl)).trans ex1_none
      | own xs => exact (wr_is (o := (m xs ds).map fun r => .ok r.1 (ρ.set i (.own r.2))) (by rw [e]; cases hm : m xs ds <;> simp only [lentD, lentS, hm] <;> rfl)).trans ex1_map
      | io xs => exact (wr_is (o := (m xs ds).map fun r => .ok r.1 (ρ.set i (.io r.2))) (by rw [e]; cases hm : m xs ds <;> simp only [lentD, lentS, hm] <;> rfl)).trans ex1_map
  exact h _ rfl
/-! statements -/
@[simp ↓] theorem wr_seqS {a b : M Fl} : wr (seqS a b) QF ρ = wr a (seqK b QF) ρ := by
  unfold wr seqS
  cases e : a ρ with
  | none => simp
  | some r => cases r with
    | ex x ρ' => simp [seqK]
    | ok fl ρ' => cases fl <;> simp [seqK, wr]
@[simp ↓] theorem wr_sRet : wr (sRet f) QF ρ = wr f (bndK (fun d => ret (.rt (.val d))) QF) ρ := wr_bnd0
@[simp ↓] theorem wr_sRetL : wr (sRetL fl) QF ρ = wr fl (bndK (fun d => ret (.rt (.own d))) QF) ρ := wr_bnd0
@[simp ↓] theorem wr_sRetO : wr (sRetO i) QF ρ = varP ρ[i]? (fun d => QF (.ok (.rt (.val d)) ρ)) fun ds => atP (ρ.set i .nil) fun ρ' => QF (.ok (.rt (.own ds)) ρ') := by
  unfold wr sRetO atP
  cases e : ρ[i]? with
  | none => simp [varP]
  | some s => cases s <;> simp [varP]
@[simp ↓] theorem wr_sSet : wr (sSet i f) QF ρ = wr f (bndK (fun d => nxt i (.val d)) QF) ρ := wr_bnd0
@[simp ↓] theorem wr_sSetL : wr (sSetL i fl) QF ρ = wr fl (bndK (fun d => nxt i (.own d)) QF) ρ := wr_bnd0
@[simp ↓] theorem wr_nxt {s : Slot} : wr (nxt i s) QF ρ = atP (ρ.set i s) fun ρ' => QF (.ok .nx ρ') := by simp [wr, nxt, atP]
@[simp ↓] theorem wr_sDrop {f : M α} : wr (sDrop f) QF ρ = wr f (bndK (fun _ => ret .nx) QF) ρ := wr_bnd0
@[simp ↓] theorem wr_sRaise {c : Str} : wr (sRaise c) QF ρ = QF (.ex ⟨c, []⟩ ρ) := by simp [wr, sRaise]
@[simp ↓] theorem wr_eOwn {QU : Rs Unit → Prop} : wr (eOwn i) QU ρ = lentP ρ[i]? fun _ _ => QU (.ok () ρ) := by
  unfold wr eOwn
  cases e : ρ[i]? with
  | none => simp [lentP]
  | some s => cases s <;> simp [lentP, lentD]
@[simp ↓] theorem wr_sApp : wr (sApp i f) QF ρ = wr (eOwn i) (bndK (fun _ => bnd f fun d ρ => nFl (appS i d ρ)) QF) ρ := wr_bnd0
@[simp ↓] theorem wr_appTail : wr (fun ρ => nFl (appS i d ρ)) QF ρ = lentP ρ[i]? fun xs mk => ex1 (if xs.length < sizeLine then some (xs ++ [d]) else none) fun ys => atP (ρ.set i (mk ys)) fun ρ' => QF (.ok .nx ρ') := by
  have h : ∀ s : Option Slot, ρ[i]? = s → wr (fun ρ => nFl (appS i d ρ)) QF ρ = lentP s fun xs mk => ex1 (if xs.length < sizeLine then some (xs ++ [d]) else none) fun ys => atP (ρ.set i (mk ys)) fun ρ' => QF (.ok .nx ρ') := fun s e => by
    cases s with
    | none => exact (wr_is (o := none) (by unfold appS; rw [e]; rfl)).trans ex1_none
    | some s => cases s with
      | nil => exact (wr_is (o := none) (by unfold appS; rw [e]; rfl)).trans ex1_none
      | val d => exact (wr_is (o := none) (by unfold appS; rw [e]; rfl)).trans ex1_none
      | ob d => exact (wr_is (o := none) (by unfold appS; rw [e]; rfl)).trans ex1_none
      | own xs =>
        refine (wr_is (o := (if xs.length < sizeLine then some (xs ++ [d]) else none).map fun ys => Rs.ok Fl.nx (ρ.set i (.own ys))) ?_).trans ex1_map
        unfold appS
        rw [e]
        by_cases hz : xs.length < sizeLine <;> simp only [lentD, lentS, hz, if_true, if_false] <;> rfl
      | io xs =>
        refine (wr_is (o := (if xs.length < sizeLine then some (xs ++ [d]) else none).map fun ys => Rs.ok Fl.nx (ρ.set i (.io ys))) ?_).trans ex1_map
        unfold appS
        rw [e]
        by_cases hz : xs.length < sizeLine <;> simp only [lentD, lentS, hz, if_true, if_false] <;> rfl
  exact h _ rfl
@[simp ↓] theorem wr_sExt : wr (sExt i f) QF ρ = wr (eOwn i) (bndK (fun _ => bnd f fun d ρ => nFl (extS i d ρ)) QF) ρ := wr_bnd0
def extL (xs : List PyData) : PyData → Option (List PyData)
  | .list es => if xs.length + es.length ≤ sizeLine then some (xs ++ es) else none
  | _ => none
@[simp ↓] theorem wr_extTail : wr (fun ρ => nFl (extS i d ρ)) QF ρ = lentP ρ[i]? fun xs mk => ex1 (extL xs d) fun ys => atP (ρ.set i (mk ys)) fun ρ' => QF (.ok .nx ρ') := by
  have h : ∀ s : Option Slot, ρ[i]? = s → wr (fun ρ => nFl (extS i d ρ)) QF ρ = lentP s fun xs mk => ex1 (extL xs d) fun ys => atP (ρ.set i (mk ys)) fun ρ' => QF (.ok .nx ρ') := fun s e => by
    cases s with
    | none => exact (wr_is (o := none) (by unfold extS; rw [e]; rfl)).trans ex1_none
    | some s => cases s with
      | nil => exact (wr_is (o := none) (by unfold extS; rw [e]; rfl)).trans ex1_none
      | val d => exact (wr_is (o := none) (by unfold extS; rw [e]; rfl)).trans ex1_none
      | ob d => exact (wr_is (o := none) (by unfold extS; rw [e]; rfl)).trans ex1_none
      | own xs =>
        refine (wr_is (o := (extL xs d).map fun ys => Rs.ok Fl.nx (ρ.set i (.own ys))) ?_).trans ex1_map
        unfold extS extL
        rw [e]
        cases d <;> try rfl
        rename_i es
        by_cases hz : xs.length + es.length ≤ sizeLine <;> simp only [lentD, lentS, hz, if_true, if_false] <;> rfl
      | io xs =>
        refine (wr_is (o := (extL xs d).map fun ys => Rs.ok Fl.nx (ρ.set i (.io ys))) ?_).trans ex1_map
        unfold extS extL
        rw [e]
        cases d <;> try rfl
        rename_i es
        by_cases hz : xs.length + es.length ≤ sizeLine <;> simp only [lentD, lentS, hz, if_true, if_false] <;> rfl
  exact h _ rfl
@[simp ↓] theorem wr_sPut : wr (sPut i f g) QF ρ = wr f (bndK (fun d => bnd (eOwn i) fun _ => bnd g fun k ρ => nFl (putS i d k ρ)) QF) ρ := wr_bnd0
def putL (xs : List PyData) (d : PyData) : PyData → Option (List PyData)
  | .int k => (ixN xs.length k).map fun j => xs.set j d
  | _ => none
@[simp ↓] theorem wr_putTail {k : PyData} : wr (fun ρ => nFl (putS i d k ρ)) QF ρ = lentP ρ[i]? fun xs mk => ex1 (putL xs d k) fun ys => atP (ρ.set i (mk ys)) fun ρ' => QF (.ok .nx ρ') := by
  have h : ∀ s : Option Slot, ρ[i]? = s → wr (fun ρ => nFl (putS i d k ρ)) QF ρ = lentP s fun xs mk => ex1 (putL xs d k) fun ys => atP (ρ.set i (mk ys)) fun ρ' => QF (.ok .nx ρ') := fun s e => by
    cases s with
    | none => exact (wr_is (o := none) (by unfold putS; rw [e]; rfl)).trans ex1_none
    | some s => cases s with
      | nil => exact (wr_is (o := none) (by unfold putS; rw [e]; rfl)).trans ex1_none
      | val d => exact (wr_is (o := none) (by unfold putS; rw [e]; rfl)).trans ex1_none
      | ob d => exact (wr_is (o := none) (by unfold putS; rw [e]; rfl)).trans ex1_none
      | own xs =>
        refine (wr_is (o := (putL xs d k).map fun ys => Rs.ok Fl.nx (ρ.set i (.own ys))) ?_).trans ex1_map
        unfold putS putL
        rw [e]
        cases k <;> try rfl
        rename_i kk
        cases hz : ixN xs.length kk <;> simp only [lentD, lentS, hz] <;> rfl
      | io xs =>
        refine (wr_is (o := (putL xs d k).map fun ys => Rs.ok Fl.nx (ρ.set i (.io ys))) ?_).trans ex1_map
        unfold putS putL
        rw [e]
        cases k <;> try rfl
        rename_i kk
        cases hz : ixN xs.length kk <;> simp only [lentD, lentS, hz] <;> rfl
  exact h _ rfl
@[simp ↓] theorem wr_sPar {is : List Nat} {fm : M (List AI)} : wr (sPar is fm) QF ρ = wr fm (bndK (fun as ρ => if as.length = is.length then some (.ok .nx (setsE ρ is as)) else none) QF) ρ := wr_bnd0
@[simp ↓] theorem wr_parTail {is : List Nat} {as : List AI} : wr (fun ρ => if as.length = is.length then some (.ok .nx (setsE ρ is as)) else none) QF ρ = ex1 (if as.length = is.length then some () else none) fun _ => atP (setsE ρ is as) fun ρ' => QF (.ok .nx ρ') := by
  unfold wr ex1 atP
  split <;> simp
@[simp ↓] theorem wr_someok {α : Type} {a : α} {g : Ev → Ev} {Q : Rs α → Prop} : wr (fun ρ => some (.ok a (g ρ))) Q ρ = atP (g ρ) fun ρ' => Q (.ok a ρ') := (wr_is rfl).trans ex1_some
@[simp ↓] theorem wr_mVal {fm : M (List AI)} {QM : Rs (List AI) → Prop} : wr (mVal f fm) QM ρ = wr f (bndK (fun d => bnd fm fun as => ret (.val d :: as)) QM) ρ := wr_bnd0
@[simp ↓] theorem wr_mOwn {fm : M (List AI)} {QM : Rs (List AI) → Prop} : wr (mOwn fl fm) QM ρ = wr fl (bndK (fun d => bnd fm fun as => ret (.own d :: as)) QM) ρ := wr_bnd0
@[simp ↓] theorem wr_sAsg {as : PyData → Ev → Option Ev} : wr (sAsg f as) QF ρ = wr f (bndK (fun d ρ => match as d ρ with
  | some ρ' => some (.ok .nx ρ')
  | none => none) QF) ρ := wr_bnd0
@[simp ↓] theorem wr_asgTail {as : PyData → Ev → Option Ev} : wr (fun ρ => match as d ρ with
  | some ρ' => some (.ok .nx ρ')
  | none => none) QF ρ = ex1 (as d ρ) fun ρ' => atP ρ' fun ρ' => QF (.ok .nx ρ') := by
  refine (wr_is (o := (as d ρ).map fun ρ' => Rs.ok Fl.nx ρ') ?_).trans ex1_map
  cases as d ρ <;> rfl
@[simp ↓] theorem wr_sAug {a : Int → Int → Int} : wr (sAug a i f) QF ρ = wr (eLook i) (bndK (fun x => bnd f fun y => bnd (lft (intO a x y)) fun d => nxt i (.val d)) QF) ρ := wr_bnd0
/-! what is walked -/
@[simp ↓] theorem wr_iSeq : wr (iSeq f) QL ρ = wr f (bndK (fun d => lft (seqD d)) QL) ρ := wr_bnd0
@[simp ↓] theorem wr_iRg1 : wr (iRg1 fl) QL ρ = wr fl (bndK (fun ds => lft (rg1 ds)) QL) ρ := wr_bnd0
@[simp ↓] theorem wr_iRg2 : wr (iRg2 fl) QL ρ = wr fl (bndK (fun ds => lft (rg2 ds)) QL) ρ := wr_bnd0
@[simp ↓] theorem wr_iZp : wr (iZp fl) QL ρ = wr fl (bndK (fun ds => lft (zip2 ds)) QL) ρ := wr_bnd0
@[simp ↓] theorem wr_iEn : wr (iEn fl) QL ρ = wr fl (bndK (fun ds => lft (enum1 ds)) QL) ρ := wr_bnd0
@[simp ↓] theorem wr_sFor {as : PyData → Ev → Option Ev} {b : M Fl} : wr (sFor fl as b) QF ρ = wr fl (bndK (forD as b) QF) ρ := wr_bnd0
@[simp ↓] theorem wr_eLc {as : PyData → Ev → Option Ev} {vs : List Nat} : wr (eLc fl as t f vs) QL ρ = wr fl (bndK (lcD as t f vs) QL) ρ := wr_bnd0
@[simp ↓] theorem wr_eLc2 {as as1 : PyData → Ev → Option Ev} {vs vs1 : List Nat} : wr (eLc2 fl as t gl as1 t' f vs vs1) QL ρ = wr fl (bndK (lcD2 as t gl as1 t' f vs vs1) QL) ρ := wr_bnd0
end
/-! operators -/
@[simp] theorem asB_bool {b : Bool} : asB (.bool b) = some b := rfl
@[simp] theorem asI_int {b : Int} : asI (.int b) = some b := rfl
@[simp] theorem truD_bool {b : Bool} : truD (.bool b) = some b := rfl
@[simp] theorem addD_int {i j : Int} : addD (.int i) (.int j) = some (.int (i + j)) := rfl
@[simp] theorem subD_int {i j : Int} : subD (.int i) (.int j) = some (.int (i - j)) := rfl
@[simp] theorem cmpI_int {p : Int → Int → Bool} {i j : Int} : cmpI p (.int i) (.int j) = some (.bool (p i j)) := rfl
@[simp] theorem lenD_list {xs : List PyData} : lenD [.list xs] = some (.int xs.length) := rfl
@[simp] theorem lenD_tuple {xs : List PyData} : lenD [.tuple xs] = some (.int xs.length) := rfl
@[simp] theorem tupleD_list {xs : List PyData} : tupleD [.list xs] = some (.tuple xs) := rfl
@[simp] theorem tupleD_tuple {xs : List PyData} : tupleD [.tuple xs] = some (.tuple xs) := rfl
@[simp] theorem listD_list {xs : List PyData} : listD [.list xs] = some xs := rfl
@[simp] theorem listD_tuple {xs : List PyData} : listD [.tuple xs] = some xs := rfl
@[simp] theorem intD_int {i : Int} : intD [.int i] = some (.int i) := rfl
@[simp] theorem absD_int {i : Int} : absD [.int i] = some (.int (if i < 0 then -i else i)) := rfl
@[simp] theorem negD_int {i : Int} : negD (.int i) = some (.int (-i)) := rfl
@[simp] theorem seqD_list {xs : List PyData} : seqD (.list xs) = some xs := rfl
@[simp] theorem seqD_tuple {xs : List PyData} : seqD (.tuple xs) = some xs := rfl
@[simp] theorem zip2_list {xs ys : List PyData} : zip2 [.list xs, .list ys] = some (zipD xs ys) := rfl
@[simp] theorem zip2_tuple {xs ys : List PyData} : zip2 [.tuple xs, .tuple ys] = some (zipD xs ys) := rfl
@[simp] theorem enum1_list {xs : List PyData} : enum1 [.list xs] = some (enumD xs) := rfl
@[simp] theorem enum1_tuple {xs : List PyData} : enum1 [.tuple xs] = some (enumD xs) := rfl
@[simp] theorem ixD_list {xs : List PyData} {i : Int} : ixD (.list xs) (.int i) = atI xs i := rfl
@[simp] theorem ixD_tuple {xs : List PyData} {i : Int} : ixD (.tuple xs) (.int i) = atI xs i := rfl
@[simp] theorem slAD_tuple {xs : List PyData} {lo hi : Option Int} : slAD (.tuple xs) lo hi = some (.tuple (cutD xs lo hi)) := rfl
@[simp] theorem slAD_list {xs : List PyData} {lo hi : Option Int} : slAD (.list xs) lo hi = some (.list (cutD xs lo hi)) := rfl
@[simp] theorem isND_none {x : PyData} : isND x .none = some (.bool (isNone x)) := rfl
@[simp] theorem notND_none {x : PyData} : notND x .none = some (.bool (!isNone x)) := rfl
@[simp] theorem isiB_tuple {xs : List PyData} : isiB .tuple (.tuple xs) = true := rfl
@[simp] theorem isiB_tuple_list {xs : List PyData} : isiB .tuple (.list xs) = false := rfl
@[simp] theorem isiB_tuple_none : isiB .tuple .none = false := rfl
@[simp] theorem isiB_tuple_int {i : Int} : isiB .tuple (.int i) = false := rfl
@[simp] theorem isiB_bool {b : Bool} : isiB .bool (.bool b) = true := rfl
@[simp] theorem asB_bind {o : Option PyData} {b : Bool} (h : o = some (.bool b)) : o.bind asB = some b := by rw [h]; rfl
@[simp] theorem eqD_int (i j : Int) : eqD (.int i) (.int j) = some (.bool (i == j)) := by
  show some (PyData.bool (PyData.eqv (.int i) (.int j))) = _
  simp [PyData.eqv]
@[simp] theorem neD_int (i j : Int) : neD (.int i) (.int j) = some (.bool (!(i == j))) := by
  show some (PyData.bool (!PyData.eqv (.int i) (.int j))) = _
  simp [PyData.eqv]
@[simp] theorem mulA_l {i j : Int} (h : sm64 j = true) : mulA (.int i) (.int j) = some (.int (i * j)) := by
  simp [mulA, orF2, mulD, h]
@[simp] theorem modD_int {i j : Int} (h : decide (0 < j) = true) : modD (.int i) (.int j) = some (.int (i % j)) := by
  show (if decide (0 < j) = true then some (PyData.int (i % j)) else none) = _
  rw [if_pos h]
@[simp] theorem fdivD_int {i j : Int} (h : (decide (0 < j) && decide (j < 1073741824)) = true) : fdivD (.int i) (.int j) = some (.int (i / j)) := by
  show (if (decide (0 < j) && decide (j < 1073741824)) = true then some (PyData.int (i / j)) else none) = _
  rw [if_pos h]
@[simp] theorem putL_int {xs : List PyData} {d : PyData} {k : Int} : putL xs d (.int k) = (ixN xs.length k).map fun j => xs.set j d := rfl
theorem atI_nat {α : Type} {xs : List α} {i : Nat} {x : α} (h : xs[i]? = some x) : atI xs (i : Int) = some x := by
  have hl := (List.getElem?_eq_some_iff.mp h).1
  simp [atI, ixN, hl]
  exact (List.getElem?_eq_some_iff.mp h).2
theorem eqD_of {x y : PyData} (h : SeqAt.shaped x = true) (h' : SeqAt.shaped y = true) : eqD x y = some (.bool (PyData.eqv x y)) := by
  unfold eqD
  rw [h, h']
  rfl
theorem neD_of {x y : PyData} (h : SeqAt.shaped x = true) (h' : SeqAt.shaped y = true) : neD x y = some (.bool (!PyData.eqv x y)) := by
  unfold neD
  rw [h, h']
  rfl
/-! comprehensions -/
theorem backE_wipe (ρ : Ev) (vs : List Nat) : backE ρ (wipeE ρ vs) vs = ρ := by
  have hl : ρ.length = (wipeE ρ vs).length := by
    induction vs with
    | nil => rfl
    | cons v vs ih => show _ = ((wipeE ρ vs).set v .nil).length; rw [List.length_set]; exact ih
  apply List.ext_getElem?
  intro j
  rw [backE_get hl]
  split
  · rfl
  · exact wipeE_get (by assumption)
section
variable {as : PyData → Ev → Option Ev} {t : M Bool} {e : M PyData} {vs : List Nat} {items : List PyData} {ρ : Ev}
/-- each turn leaves the names alone: T tells what it gives -/
theorem compD_pure {T : PyData → Option PyData} {ρw : Ev} : ∀ {items acc : List PyData}, (∀ d ∈ items, ex1 (as d ρw) fun ρ1 => wr t (bndK (fun c => if c then bnd e fun y => fun ρ => some (.ok (some y) ρ) else ret none) fun r => ∃ ρ', r = .ok (T d) ρ' ∧ wipeE ρ' vs = ρw) ρ1) → compD as t e vs items acc ρw = some (.ok (acc ++ items.filterMap T) ρw)
  | [], acc, _ => by simp [compD]
  | d :: ds, acc, h => by
    have ih := fun acc => compD_pure (T := T) (items := ds) (acc := acc) fun x hx => h x (List.mem_cons_of_mem _ hx)
    obtain ⟨ρ1, h1, r, h2, h3⟩ := h d List.mem_cons_self
    unfold compD
    rw [h1]
    dsimp only
    rw [h2]
    cases r with
    | ex x ρ2 => obtain ⟨_, q, _⟩ := h3; cases q
    | ok c ρ2 =>
      have h4 : wr (if c then bnd e fun y => fun ρ => some (.ok (some y) ρ) else ret none) (fun r => ∃ ρ', r = .ok (T d) ρ' ∧ wipeE ρ' vs = ρw) ρ2 := h3
      cases c with
      | false =>
        obtain ⟨r, e1, ρ', e2, e3⟩ := h4
        subst e2
        have e1' : none = T d ∧ ρ2 = ρ' := by simpa [ret] using e1
        obtain ⟨e4, e5⟩ := e1'
        subst e5
        dsimp only
        rw [e3, ih, List.filterMap_cons, ← e4]
      | true =>
        obtain ⟨r, e1, ρ', e2, e3⟩ := h4
        subst e2
        have e1' : bnd e (fun y => fun ρ => some (.ok (some y) ρ)) ρ2 = some (.ok (T d) ρ') := e1
        unfold bnd at e1'
        cases ee : e ρ2 with
        | none => rw [ee] at e1'; cases e1'
        | some re => cases re with
          | ex x ρ3 => rw [ee] at e1'; cases e1'
          | ok y ρ3 =>
            rw [ee] at e1'
            dsimp only at e1' ⊢
            obtain ⟨e4, e5⟩ := by simpa using e1'
            subst e5
            rw [ee]
            dsimp only
            rw [e3, ih, List.filterMap_cons, ← e4]
            simp
theorem wr_lc {T : PyData → Option PyData} {QL : Rs (List PyData) → Prop} (hno : noOwn ρ vs = true) (hl : items.length ≤ sizeLine)
    (h : ∀ d ∈ items, ex1 (as d (wipeE ρ vs)) fun ρ1 => wr t (bndK (fun c => if c then bnd e fun y => fun ρ => some (.ok (some y) ρ) else ret none) fun r => ∃ ρ', r = .ok (T d) ρ' ∧ wipeE ρ' vs = wipeE ρ vs) ρ1) (q : QL (.ok (items.filterMap T) ρ)) : wr (lcD as t e vs items) QL ρ := by
  refine ⟨_, ?_, q⟩
  unfold lcD
  rw [if_pos (by rw [hno, decide_eq_true hl]; rfl), compD_pure h]
  simp [backE_wipe]
/-- .. without a test -/
theorem wr_lcM {T : PyData → PyData} {QL : Rs (List PyData) → Prop} (hno : noOwn ρ vs = true) (hl : items.length ≤ sizeLine)
    (h : ∀ d ∈ items, ex1 (as d (wipeE ρ vs)) fun ρ1 => wr e (fun r => ∃ ρ', r = .ok (T d) ρ' ∧ wipeE ρ' vs = wipeE ρ vs) ρ1) (q : QL (.ok (items.map T) ρ)) : wr (lcD as (ret true) e vs items) QL ρ := by
  refine wr_lc (T := fun d => some (T d)) hno hl (fun d hd => ?_) (by rwa [List.filterMap_eq_map'])
  obtain ⟨ρ1, h1, r, h2, ρ', h3, h4⟩ := h d hd
  refine ⟨ρ1, h1, _, rfl, ?_⟩
  show wr (bnd e fun y => fun ρ => some (.ok (some y) ρ)) _ ρ1
  rw [wr_bnd0]
  refine ⟨r, h2, ?_⟩
  subst h3
  exact ⟨_, rfl, ρ', rfl, h4⟩
end
section
variable {as : PyData → Ev → Option Ev} {t c : M Bool} {e : M PyData} {vs : List Nat} {items : List PyData} {ρ : Ev} {body : M Fl} {QF : Rs Fl → Prop}
/-- a comprehension whose turns may change the names: I of what is left and of what is made -/
theorem compD_inv (I : List PyData → List PyData → Ev → Prop) (step : ∀ d rest acc ρ, I (d :: rest) acc ρ → ex1 (as d ρ) fun ρ1 => wr t (bndK (fun c => if c then bnd e fun y => ret (some y) else ret none) fun r => ∃ o ρ', r = .ok o ρ' ∧ I rest (acc ++ o.toList) (wipeE ρ' vs)) ρ1) :
    ∀ {items acc : List PyData} {ρ : Ev}, I items acc ρ → ∃ l ρ', compD as t e vs items acc ρ = some (.ok l ρ') ∧ I [] l ρ'
  | [], acc, ρ, h => ⟨acc, ρ, rfl, h⟩
  | d :: ds, acc, ρ, h => by
    obtain ⟨ρ1, h1, r, h2, h3⟩ := step d ds acc ρ h
    unfold compD
    rw [h1]
    dsimp only
    rw [h2]
    cases r with
    | ex x ρ2 => obtain ⟨_, _, q, _⟩ := h3; cases q
    | ok c ρ2 =>
      have h4 : wr (if c then bnd e fun y => ret (some y) else ret none) (fun r => ∃ o ρ', r = .ok o ρ' ∧ I ds (acc ++ o.toList) (wipeE ρ' vs)) ρ2 := h3
      cases c with
      | false =>
        obtain ⟨r, e1, o, ρ', e2, e3⟩ := h4
        subst e2
        have e1' : none = o ∧ ρ2 = ρ' := by simpa [ret] using e1
        obtain ⟨e4, e5⟩ := e1'
        subst e4 e5
        dsimp only
        simp only [Option.toList_none, List.append_nil] at e3
        exact compD_inv I step e3
      | true =>
        obtain ⟨r, e1, o, ρ', e2, e3⟩ := h4
        subst e2
        have e1' : bnd e (fun y => ret (some y)) ρ2 = some (.ok o ρ') := e1
        unfold bnd ret at e1'
        cases ee : e ρ2 with
        | none => rw [ee] at e1'; cases e1'
        | some re => cases re with
          | ex x ρ3 => rw [ee] at e1'; cases e1'
          | ok y ρ3 =>
            rw [ee] at e1'
            dsimp only at e1' ⊢
            obtain ⟨e4, e5⟩ := by simpa using e1'
            subst e4 e5
            rw [ee]
            exact compD_inv I step e3
theorem wr_lcI {QL : Rs (List PyData) → Prop} (I : List PyData → List PyData → Ev → Prop) (hno : noOwn ρ vs = true) (hl : items.length ≤ sizeLine)
    (step : ∀ d rest acc ρ, I (d :: rest) acc ρ → ex1 (as d ρ) fun ρ1 => wr t (bndK (fun c => if c then bnd e fun y => ret (some y) else ret none) fun r => ∃ o ρ', r = .ok o ρ' ∧ I rest (acc ++ o.toList) (wipeE ρ' vs)) ρ1)
    (h0 : I items [] (wipeE ρ vs)) (q : ∀ l ρ', I [] l ρ' → QL (.ok l (backE ρ ρ' vs))) : wr (lcD as t e vs items) QL ρ := by
  obtain ⟨l, ρ', h1, h2⟩ := compD_inv I step h0
  refine ⟨_, ?_, q l ρ' h2⟩
  unfold lcD
  rw [if_pos (by rw [hno, decide_eq_true hl]; rfl), h1]
/-- for: I of what is left -/
theorem wr_for (I : List PyData → Ev → Prop) (step : ∀ d rest ρ, I (d :: rest) ρ → ex1 (as d ρ) fun ρ1 => wr body (fun r => ∃ ρ2, (r = .ok .nx ρ2 ∨ r = .ok .ct ρ2) ∧ I rest ρ2) ρ1) (h0 : I items ρ) (q : ∀ ρ', I [] ρ' → QF (.ok .nx ρ')) : wr (forD as body items) QF ρ := by
  have key : ∀ {items : List PyData} {ρ : Ev}, I items ρ → ∃ ρ', forD as body items ρ = some (.ok .nx ρ') ∧ I [] ρ' := by
    intro items
    induction items with
    | nil => exact fun h => ⟨_, rfl, h⟩
    | cons d ds ih =>
      intro ρ h
      obtain ⟨ρ1, h1, r, h2, ρ2, h3, h4⟩ := step d ds ρ h
      obtain ⟨ρ', h5, h6⟩ := ih h4
      refine ⟨ρ', ?_, h6⟩
      unfold forD
      rw [h1]
      dsimp only
      rw [h2]
      rcases h3 with rfl | rfl <;> exact h5
  obtain ⟨ρ', h1, h2⟩ := key h0
  exact ⟨_, h1, q ρ' h2⟩
/-- while: I n, n turns left at most -/
theorem wr_while {fuel : Nat} (I : Nat → Ev → Prop) (n : Nat) (hn : n < fuel) (step : ∀ n ρ, I n ρ → wr c (fun r => ∃ b ρ1, r = .ok b ρ1 ∧ if b then wr body (fun r => ∃ ρ2, (r = .ok .nx ρ2 ∨ r = .ok .ct ρ2) ∧ ∃ m, m < n ∧ I m ρ2) ρ1 else QF (.ok .nx ρ1)) ρ) (h0 : I n ρ) : wr (whlD c body fuel) QF ρ := by
  have key : ∀ (n fuel : Nat) (ρ : Ev), n < fuel → I n ρ → wr (whlD c body fuel) QF ρ := by
    intro n
    induction n using Nat.strongRecOn with
    | ind n ih =>
      intro fuel ρ hf h
      cases fuel with
      | zero => omega
      | succ fuel =>
        obtain ⟨r, h1, b, ρ1, rfl, h2⟩ := step n ρ h
        cases b with
        | false =>
          refine ⟨_, ?_, h2⟩
          unfold whlD
          rw [h1]
        | true =>
          obtain ⟨r, h3, ρ2, h4, m, hm, h5⟩ := h2
          obtain ⟨r', h6, h7⟩ := ih m hm fuel ρ2 (by omega) h5
          refine ⟨r', ?_, h7⟩
          unfold whlD
          rw [h1]
          dsimp only
          rw [h3]
          rcases h4 with rfl | rfl <;> exact h6
  exact key n fuel ρ hn h0
end
/-! two clauses -/
theorem compD_acc {as : PyData → Ev → Option Ev} {t : M Bool} {e : M PyData} {vs : List Nat} (p : List PyData) : ∀ {items acc l : List PyData} {ρ ρ' : Ev}, compD as t e vs items acc ρ = some (.ok l ρ') → compD as t e vs items (p ++ acc) ρ = some (.ok (p ++ l) ρ')
  | [], acc, l, ρ, ρ', h => by
    have h' : some (Rs.ok acc ρ) = some (.ok l ρ') := h
    cases h'
    rfl
  | d :: ds, acc, l, ρ, ρ', h => by
    unfold compD at h ⊢
    cases e1 : as d ρ with
    | none => rw [e1] at h; cases h
    | some ρ1 =>
      rw [e1] at h
      dsimp only at h ⊢
      cases e2 : t ρ1 with
      | none => rw [e2] at h; cases h
      | some r => cases r with
        | ex x ρ2 => rw [e2] at h; cases h
        | ok c ρ2 => cases c with
          | false =>
            rw [e2] at h
            dsimp only at h ⊢
            exact compD_acc p h
          | true =>
            rw [e2] at h
            dsimp only at h ⊢
            cases e3 : e ρ2 with
            | none => rw [e3] at h; cases h
            | some r => cases r with
              | ex x ρ3 => rw [e3] at h; cases h
              | ok y ρ3 =>
                rw [e3] at h
                dsimp only at h ⊢
                rw [List.append_assoc]
                exact compD_acc p h
/-- .. step by step -/
theorem compD_two {as : PyData → Ev → Option Ev} {t : M Bool} {e : M PyData} {vs : List Nat} {d : PyData} {ds acc l : List PyData} {ρ ρ' : Ev} (h : compD as t e vs [d] acc ρ = some (.ok l ρ')) : compD as t e vs (d :: ds) acc ρ = compD as t e vs ds l ρ' := by
  generalize hr : compD as t e vs ds l ρ' = r
  unfold compD at h ⊢
  cases e1 : as d ρ with
  | none => rw [e1] at h; cases h
  | some ρ1 =>
    rw [e1] at h
    dsimp only at h ⊢
    cases e2 : t ρ1 with
    | none => rw [e2] at h; cases h
    | some r => cases r with
      | ex x ρ2 => rw [e2] at h; cases h
      | ok c ρ2 => cases c with
        | false =>
          rw [e2] at h
          dsimp only at h ⊢
          have h' : some (Rs.ok _ _) = some (.ok l ρ') := h
          cases h'
          exact hr
        | true =>
          rw [e2] at h
          dsimp only at h ⊢
          cases e3 : e ρ2 with
          | none => rw [e3] at h; cases h
          | some r => cases r with
            | ex x ρ3 => rw [e3] at h; cases h
            | ok y ρ3 =>
              rw [e3] at h
              dsimp only at h ⊢
              have h' : some (Rs.ok _ _) = some (.ok l ρ') := h
              cases h'
              exact hr
theorem compD2_two {as as1 : PyData → Ev → Option Ev} {t t1 : M Bool} {f1 : M (List PyData)} {e : M PyData} {vs vs1 : List Nat} {d : PyData} {ds acc l : List PyData} {ρ ρ' : Ev} (h : compD2 as t f1 as1 t1 e vs vs1 [d] acc ρ = some (.ok l ρ')) : compD2 as t f1 as1 t1 e vs vs1 (d :: ds) acc ρ = compD2 as t f1 as1 t1 e vs vs1 ds l ρ' := by
  generalize hr : compD2 as t f1 as1 t1 e vs vs1 ds l ρ' = r
  unfold compD2 at h ⊢
  cases e1 : as d ρ with
  | none => rw [e1] at h; cases h
  | some ρ1 =>
    rw [e1] at h
    dsimp only at h ⊢
    cases e2 : t ρ1 with
    | none => rw [e2] at h; cases h
    | some r => cases r with
      | ex x ρ2 => rw [e2] at h; cases h
      | ok c ρ2 => cases c with
        | false =>
          rw [e2] at h
          dsimp only at h ⊢
          have h' : some (Rs.ok _ _) = some (.ok l ρ') := h
          cases h'
          exact hr
        | true =>
          rw [e2] at h
          dsimp only at h ⊢
          cases e3 : f1 ρ2 with
          | none => rw [e3] at h; cases h
          | some r => cases r with
            | ex x ρ3 => rw [e3] at h; cases h
            | ok its ρ3 =>
              rw [e3] at h
              dsimp only at h ⊢
              cases e4 : compD as1 t1 e vs1 its acc (wipeE ρ3 vs1) with
              | none => rw [e4] at h; cases h
              | some r => cases r with
                | ex x ρ4 => rw [e4] at h; cases h
                | ok acc' ρ4 =>
                  rw [e4] at h
                  dsimp only at h ⊢
                  have h' : some (Rs.ok _ _) = some (.ok l ρ') := h
                  cases h'
                  exact hr
/-- the inner clause alone -/
def innM (as1 : PyData → Ev → Option Ev) (t1 : M Bool) (e : M PyData) (vs1 : List Nat) (items : List PyData) : M (List PyData) := fun ρ => compD as1 t1 e vs1 items [] (wipeE ρ vs1)
theorem wipeE_idem (ρ : Ev) (vs : List Nat) : wipeE (wipeE ρ vs) vs = wipeE ρ vs := by
  apply List.ext_getElem?
  intro j
  have len : ∀ (ρ : Ev) (vs : List Nat), (wipeE ρ vs).length = ρ.length := fun ρ vs => by
    induction vs with
    | nil => rfl
    | cons v vs ih => show ((wipeE ρ vs).set v .nil).length = _; rw [List.length_set]; exact ih
  have nl : ∀ (vs : List Nat) (ρ : Ev), j ∈ vs → (wipeE ρ vs)[j]? = if j < ρ.length then some .nil else none := by
    intro vs
    induction vs with
    | nil => intro ρ h; cases h
    | cons v vs ih =>
      intro ρ h
      show ((wipeE ρ vs).set v .nil)[j]? = _
      rw [List.getElem?_set, len]
      by_cases hv : v = j
      · simp [hv]
      · rw [if_neg hv]
        exact ih ρ ((List.mem_cons.mp h).resolve_left fun q => hv q.symm)
  by_cases hj : j ∈ vs
  · rw [nl _ _ hj, nl _ _ hj, len]
  · rw [wipeE_get hj]
section
variable {as as1 : PyData → Ev → Option Ev} {t t1 : M Bool} {f1 : M (List PyData)} {e : M PyData} {vs vs1 : List Nat} {items : List PyData} {ρ : Ev}
theorem wr_inn {T : PyData → Option PyData} {QL : Rs (List PyData) → Prop}
    (h : ∀ d ∈ items, ex1 (as1 d (wipeE ρ vs1)) fun ρ1 => wr t1 (bndK (fun c => if c then bnd e fun y => fun ρ => some (.ok (some y) ρ) else ret none) fun r => ∃ ρ', r = .ok (T d) ρ' ∧ wipeE ρ' vs1 = wipeE ρ vs1) ρ1) (q : QL (.ok (items.filterMap T) (wipeE ρ vs1))) : wr (innM as1 t1 e vs1 items) QL ρ := by
  refine ⟨_, ?_, q⟩
  unfold innM
  rw [compD_pure h]
  rfl
theorem wr_innM {T : PyData → PyData} {QL : Rs (List PyData) → Prop}
    (h : ∀ d ∈ items, ex1 (as1 d (wipeE ρ vs1)) fun ρ1 => wr e (fun r => ∃ ρ', r = .ok (T d) ρ' ∧ wipeE ρ' vs1 = wipeE ρ vs1) ρ1) (q : QL (.ok (items.map T) (wipeE ρ vs1))) : wr (innM as1 (ret true) e vs1 items) QL ρ := by
  refine wr_inn (T := fun d => some (T d)) (fun d hd => ?_) (by rwa [List.filterMap_eq_map'])
  obtain ⟨ρ1, h1, r, h2, ρ', h3, h4⟩ := h d hd
  refine ⟨ρ1, h1, _, rfl, ?_⟩
  show wr (bnd e fun y => fun ρ => some (.ok (some y) ρ)) _ ρ1
  rw [wr_bnd0]
  refine ⟨r, h2, ?_⟩
  subst h3
  exact ⟨_, rfl, ρ', rfl, h4⟩
theorem compD2_pure {T : PyData → List PyData} {ρw : Ev} : ∀ {items acc : List PyData}, (∀ d ∈ items, ex1 (as d ρw) fun ρ1 => wr t (bndK (fun c => if c then bnd f1 (innM as1 t1 e vs1) else ret []) fun r => ∃ ρ', r = .ok (T d) ρ' ∧ wipeE ρ' vs = ρw) ρ1) → compD2 as t f1 as1 t1 e vs vs1 items acc ρw = some (.ok (acc ++ items.flatMap T) ρw)
  | [], acc, _ => by simp [compD2]
  | d :: ds, acc, h => by
    have ih := fun acc => compD2_pure (T := T) (items := ds) (acc := acc) fun x hx => h x (List.mem_cons_of_mem _ hx)
    obtain ⟨ρ1, h1, r, h2, h3⟩ := h d List.mem_cons_self
    unfold compD2
    rw [h1]
    dsimp only
    rw [h2]
    cases r with
    | ex x ρ2 => obtain ⟨_, q, _⟩ := h3; cases q
    | ok c ρ2 =>
      have h4 : wr (if c then bnd f1 (innM as1 t1 e vs1) else ret []) (fun r => ∃ ρ', r = .ok (T d) ρ' ∧ wipeE ρ' vs = ρw) ρ2 := h3
      cases c with
      | false =>
        obtain ⟨r, e1, ρ', e2, e3⟩ := h4
        subst e2
        have e1' : [] = T d ∧ ρ2 = ρ' := by simpa [ret] using e1
        obtain ⟨e4, e5⟩ := e1'
        subst e5
        dsimp only
        rw [e3, ih, List.flatMap_cons, ← e4]
        rfl
      | true =>
        obtain ⟨r, e1, ρ', e2, e3⟩ := h4
        subst e2
        have e1' : bnd f1 (innM as1 t1 e vs1) ρ2 = some (.ok (T d) ρ') := e1
        unfold bnd at e1'
        cases ee : f1 ρ2 with
        | none => rw [ee] at e1'; cases e1'
        | some re => cases re with
          | ex x ρ3 => rw [ee] at e1'; cases e1'
          | ok its ρ3 =>
            rw [ee] at e1'
            dsimp only at e1' ⊢
            rw [ee]
            dsimp only
            have e6 := compD_acc acc (show compD as1 t1 e vs1 its [] (wipeE ρ3 vs1) = some (.ok (T d) ρ') from e1')
            rw [List.append_nil] at e6
            rw [e6]
            dsimp only
            rw [e3, ih, List.flatMap_cons, List.append_assoc]
theorem wr_lc2 {T : PyData → List PyData} {QL : Rs (List PyData) → Prop} (hno : noOwn ρ vs = true) (hl : (items.flatMap T).length ≤ sizeLine)
    (h : ∀ d ∈ items, ex1 (as d (wipeE ρ vs)) fun ρ1 => wr t (bndK (fun c => if c then bnd f1 (innM as1 t1 e vs1) else ret []) fun r => ∃ ρ', r = .ok (T d) ρ' ∧ wipeE ρ' vs = wipeE ρ vs) ρ1) (q : QL (.ok (items.flatMap T) ρ)) : wr (lcD2 as t f1 as1 t1 e vs vs1 items) QL ρ := by
  refine ⟨_, ?_, q⟩
  unfold lcD2
  rw [if_pos hno, compD2_pure h]
  simp only [List.nil_append]
  rw [if_pos hl, backE_wipe]
end
/-! the same where what is walked is made of plain things -/
section
variable {γ : Type} {as as1 : PyData → Ev → Option Ev} {t t1 c : M Bool} {f1 : M (List PyData)} {e : M PyData} {vs vs1 : List Nat} {xs : List γ} {g : γ → PyData} {ρ : Ev} {body : M Fl} {QF : Rs Fl → Prop}
/-- a turn of a comprehension gives o and leaves the names -/
def TurnX (t : M Bool) (e : M PyData) (vs : List Nat) (ρw : Ev) (o : Option PyData) (ρ1 : Ev) : Prop := wr t (bndK (fun c => if c then bnd e fun y => fun ρ => some (.ok (some y) ρ) else ret none) fun r => ∃ ρ', r = .ok o ρ' ∧ wipeE ρ' vs = ρw) ρ1
theorem compD_pureX {T : γ → Option PyData} {ρw : Ev} : ∀ {xs : List γ} {acc : List PyData}, (∀ x ∈ xs, ex1 (as (g x) ρw) (TurnX t e vs ρw (T x))) → compD as t e vs (xs.map g) acc ρw = some (.ok (acc ++ xs.filterMap T) ρw)
  | [], acc, _ => by simp [compD]
  | x :: xs, acc, h => by
    have ih := fun acc => compD_pureX (T := T) (xs := xs) (acc := acc) fun x hx => h x (List.mem_cons_of_mem _ hx)
    have h1 : compD as t e vs [g x] acc ρw = some (.ok (acc ++ [g x].filterMap fun _ => T x) ρw) := compD_pure fun d hd => by
      rw [List.mem_singleton.mp hd]
      exact h x List.mem_cons_self
    rw [List.map_cons, compD_two h1, ih, List.append_assoc]
    congr 2
    cases q : T x <;> simp [List.filterMap_cons, q]
theorem wr_lcX (T : γ → Option PyData) {QL : Rs (List PyData) → Prop} (hno : noOwn ρ vs = true) (hl : xs.length ≤ sizeLine)
    (h : ∀ x ∈ xs, ex1 (as (g x) (wipeE ρ vs)) (TurnX t e vs (wipeE ρ vs) (T x))) (q : QL (.ok (xs.filterMap T) ρ)) : wr (lcD as t e vs (xs.map g)) QL ρ := by
  refine ⟨_, ?_, q⟩
  unfold lcD
  rw [if_pos (by rw [hno, List.length_map, decide_eq_true hl]; rfl), compD_pureX h]
  simp [backE_wipe]
theorem turn_of {o : PyData} {ρw ρ1 : Ev} (h : wr e (fun r => ∃ ρ', r = .ok o ρ' ∧ wipeE ρ' vs = ρw) ρ1) : TurnX (ret true) e vs ρw (some o) ρ1 := by
  obtain ⟨r, h2, ρ', h3, h4⟩ := h
  refine ⟨_, rfl, ?_⟩
  show wr (bnd e fun y => fun ρ => some (.ok (some y) ρ)) _ ρ1
  rw [wr_bnd0]
  refine ⟨r, h2, ?_⟩
  subst h3
  exact ⟨_, rfl, ρ', rfl, h4⟩
theorem wr_lcXM (T : γ → PyData) {QL : Rs (List PyData) → Prop} (hno : noOwn ρ vs = true) (hl : xs.length ≤ sizeLine)
    (h : ∀ x ∈ xs, ex1 (as (g x) (wipeE ρ vs)) fun ρ1 => wr e (fun r => ∃ ρ', r = .ok (T x) ρ' ∧ wipeE ρ' vs = wipeE ρ vs) ρ1) (q : QL (.ok (xs.map T) ρ)) : wr (lcD as (ret true) e vs (xs.map g)) QL ρ := by
  refine wr_lcX (fun x => some (T x)) hno hl (fun x hx => ?_) (by rwa [List.filterMap_eq_map'])
  obtain ⟨ρ1, h1, h2⟩ := h x hx
  exact ⟨ρ1, h1, turn_of h2⟩
theorem wr_innX (T : γ → Option PyData) {QL : Rs (List PyData) → Prop}
    (h : ∀ x ∈ xs, ex1 (as1 (g x) (wipeE ρ vs1)) (TurnX t1 e vs1 (wipeE ρ vs1) (T x))) (q : QL (.ok (xs.filterMap T) (wipeE ρ vs1))) : wr (innM as1 t1 e vs1 (xs.map g)) QL ρ := by
  refine ⟨_, ?_, q⟩
  unfold innM
  rw [compD_pureX h]
  rfl
theorem wr_innXM (T : γ → PyData) {QL : Rs (List PyData) → Prop}
    (h : ∀ x ∈ xs, ex1 (as1 (g x) (wipeE ρ vs1)) fun ρ1 => wr e (fun r => ∃ ρ', r = .ok (T x) ρ' ∧ wipeE ρ' vs1 = wipeE ρ vs1) ρ1) (q : QL (.ok (xs.map T) (wipeE ρ vs1))) : wr (innM as1 (ret true) e vs1 (xs.map g)) QL ρ := by
  refine wr_innX (fun x => some (T x)) (fun x hx => ?_) (by rwa [List.filterMap_eq_map'])
  obtain ⟨ρ1, h1, h2⟩ := h x hx
  exact ⟨ρ1, h1, turn_of h2⟩
/-- a turn of the outer clause -/
def TurnY (t : M Bool) (f1 : M (List PyData)) (as1 : PyData → Ev → Option Ev) (t1 : M Bool) (e : M PyData) (vs vs1 : List Nat) (ρw : Ev) (o : List PyData) (ρ1 : Ev) : Prop := wr t (bndK (fun c => if c then bnd f1 (innM as1 t1 e vs1) else ret []) fun r => ∃ ρ', r = .ok o ρ' ∧ wipeE ρ' vs = ρw) ρ1
theorem compD2_pureX {T : γ → List PyData} {ρw : Ev} : ∀ {xs : List γ} {acc : List PyData}, (∀ x ∈ xs, ex1 (as (g x) ρw) (TurnY t f1 as1 t1 e vs vs1 ρw (T x))) → compD2 as t f1 as1 t1 e vs vs1 (xs.map g) acc ρw = some (.ok (acc ++ xs.flatMap T) ρw)
  | [], acc, _ => by simp [compD2]
  | x :: xs, acc, h => by
    have ih := fun acc => compD2_pureX (T := T) (xs := xs) (acc := acc) fun x hx => h x (List.mem_cons_of_mem _ hx)
    have h1 : compD2 as t f1 as1 t1 e vs vs1 [g x] acc ρw = some (.ok (acc ++ [g x].flatMap fun _ => T x) ρw) := compD2_pure fun d hd => by
      rw [List.mem_singleton.mp hd]
      exact h x List.mem_cons_self
    rw [List.map_cons, compD2_two h1, ih, List.append_assoc]
    simp [List.flatMap_cons]
theorem wr_lc2X (T : γ → List PyData) {QL : Rs (List PyData) → Prop} (hno : noOwn ρ vs = true) (hl : (xs.flatMap T).length ≤ sizeLine)
    (h : ∀ x ∈ xs, ex1 (as (g x) (wipeE ρ vs)) (TurnY t f1 as1 t1 e vs vs1 (wipeE ρ vs) (T x))) (q : QL (.ok (xs.flatMap T) ρ)) : wr (lcD2 as t f1 as1 t1 e vs vs1 (xs.map g)) QL ρ := by
  refine ⟨_, ?_, q⟩
  unfold lcD2
  rw [if_pos hno, compD2_pureX h]
  simp only [List.nil_append]
  rw [if_pos hl, backE_wipe]
/-- for, by the turn's number -/
theorem wr_forX (J : Nat → Ev → Prop) (step : ∀ k x ρ, xs[k]? = some x → J k ρ → ex1 (as (g x) ρ) fun ρ1 => wr body (fun r => ∃ ρ2, (r = .ok .nx ρ2 ∨ r = .ok .ct ρ2) ∧ J (k + 1) ρ2) ρ1) (h0 : J 0 ρ) (q : ∀ ρ', J xs.length ρ' → QF (.ok .nx ρ')) : wr (forD as body (xs.map g)) QF ρ := by
  refine wr_for (fun rest ρ => ∃ k, k ≤ xs.length ∧ rest = (xs.drop k).map g ∧ J k ρ) ?_ ⟨0, Nat.zero_le _, by rw [List.drop_zero], h0⟩ ?_
  · rintro d rest ρ ⟨k, hk, hr, j⟩
    by_cases hl : k < xs.length
    · rw [List.drop_eq_getElem_cons hl, List.map_cons] at hr
      obtain ⟨rfl, rfl⟩ := List.cons.inj hr
      obtain ⟨ρ1, h1, h2⟩ := step k xs[k] ρ (List.getElem?_eq_getElem hl) j
      obtain ⟨r, h2, ρ2, h3, h4⟩ := h2
      exact ⟨ρ1, h1, r, h2, ρ2, h3, k + 1, hl, rfl, h4⟩
    · rw [List.drop_eq_nil_of_le (by omega)] at hr
      cases hr
  · rintro ρ' ⟨k, hk, hr, j⟩
    have hl : ¬ k < xs.length := fun hl => by
      rw [List.drop_eq_getElem_cons hl] at hr
      cases hr
    rw [show k = xs.length by omega] at j
    exact q ρ' j
end
/-! a comprehension over a list of one's own -/
def lcoK (i : Nat) (ds : List PyData) (QL : Rs (List PyData) → Prop) [Dep QL] : Rs (List PyData) → Prop
  | .ok l ρ' => atP (ρ'.set i (.own ds)) fun ρ'' => QL (.ok l ρ'')
  | .ex _ _ => False
@[simp ↓] theorem lcoK_ok {i : Nat} {ds : List PyData} {QL : Rs (List PyData) → Prop} {l : List PyData} {ρ : Ev} : lcoK i ds QL (.ok l ρ) = atP (ρ.set i (.own ds)) fun ρ'' => QL (.ok l ρ'') := rfl
theorem wr_eLcO {i : Nat} {as : PyData → Ev → Option Ev} {t : M Bool} {e : M PyData} {vs : List Nat} {QL : Rs (List PyData) → Prop} {ρ : Ev} {ds : List PyData} (hi : ρ[i]? = some (.own ds)) (hv : i ∉ vs) (h : wr (lcD as t e vs ds) (lcoK i ds QL) (ρ.set i .nil)) : wr (eLcO i as t e vs) QL ρ := by
  obtain ⟨r, e1, q⟩ := h
  cases r with
  | ex x ρ' => cases q
  | ok l ρ' =>
    refine ⟨_, ?_, q⟩
    unfold eLcO
    rw [hi]
    dsimp only
    rw [if_neg hv, e1]
/-! try -/
def noxK (QF : Rs Fl → Prop) [Dep QF] : Rs Fl → Prop
  | .ok a ρ => QF (.ok a ρ)
  | .ex _ _ => False
@[simp ↓] theorem noxK_ok {QF : Rs Fl → Prop} {a : Fl} {ρ : Ev} : noxK QF (.ok a ρ) = QF (.ok a ρ) := rfl
def tryK (mt : Str → Option Bool) (s : M Fl) (QF : Rs Fl → Prop) [Dep s] [Dep QF] : Rs Fl → Prop
  | .ok a ρ => QF (.ok a ρ)
  | .ex x ρ => ex1 (mt x.cls) fun c => itP c (wr s (noxK QF) ρ) (QF (.ex x ρ))
@[simp ↓] theorem tryK_ok {mt : Str → Option Bool} {s : M Fl} {QF : Rs Fl → Prop} {a : Fl} {ρ : Ev} : tryK mt s QF (.ok a ρ) = QF (.ok a ρ) := rfl
@[simp ↓] theorem tryK_ex {mt : Str → Option Bool} {s : M Fl} {QF : Rs Fl → Prop} {x : XV} {ρ : Ev} : tryK mt s QF (.ex x ρ) = ex1 (mt x.cls) fun c => itP c (wr s (noxK QF) ρ) (QF (.ex x ρ)) := rfl
theorem wr_sTry0 {mt : Str → Option Bool} {b s : M Fl} {QF : Rs Fl → Prop} {ρ : Ev} (h : wr b (tryK mt s QF) ρ) : wr (sTry mt b s) QF ρ := by
  obtain ⟨r, e, q⟩ := h
  unfold wr sTry
  rw [e]
  cases r with
  | ok a ρ' => exact ⟨_, rfl, q⟩
  | ex x ρ' =>
    obtain ⟨c, hc, q⟩ := q
    dsimp only
    rw [hc]
    cases c with
    | false => exact ⟨_, rfl, q⟩
    | true =>
      obtain ⟨r, e2, q⟩ := q
      dsimp only
      rw [e2]
      cases r with
      | ok a ρ2 => exact ⟨_, rfl, q⟩
      | ex x ρ2 => cases q
theorem boolsD_map {α : Type} (f : α → Bool) : ∀ l : List α, boolsD (l.map fun x => .bool (f x)) = some (l.map f)
  | [] => rfl
  | x :: xs => by
    show (boolsD (xs.map fun x => .bool (f x))).map (f x :: ·) = _
    rw [boolsD_map f xs]
    rfl
@[simp] theorem allD_map {α : Type} (f : α → Bool) (l : List α) : allD [.list (l.map fun x => .bool (f x))] = some (.bool (l.all f)) := by
  show (boolsD _).map _ = _
  rw [boolsD_map]
  simp [List.all_map]
@[simp] theorem anyD_map {α : Type} (f : α → Bool) (l : List α) : anyD [.list (l.map fun x => .bool (f x))] = some (.bool (l.any f)) := by
  show (boolsD _).map _ = _
  rw [boolsD_map]
  simp [List.any_map]
/-! in and out -/
theorem runV_of {n N : Nat} {b : M Fl} {ds : List PyData} {x : Except XV PyData} (hn : ds.length = n) (h : wr b (fun r => outV (some r) = some x) (startE N ds)) : runV n N b ds = some x := by
  obtain ⟨r, e, q⟩ := h
  unfold runV
  rw [if_pos hn, e]
  exact q
theorem runL_of {n N : Nat} {b : M Fl} {ds : List PyData} {x : List PyData} (hn : ds.length = n) (h : wr b (fun r => outL (some r) = some x) (startE N ds)) : runL n N b ds = some x := by
  obtain ⟨r, e, q⟩ := h
  unfold runL
  rw [if_pos hn, e]
  exact q
theorem runI_eq {n N : Nat} {b : M Fl} {es ds : List PyData} {x : PyData × List PyData} (hn : ds.length = n) (h : wr b (fun r => outI (some r) = some x) (startI N es ds)) : runI n N b es ds = some x := by
  obtain ⟨r, e, q⟩ := h
  unfold runI
  rw [if_pos hn, e]
  exact q
@[simp] theorem outV_val {d : PyData} {ρ : Ev} : outV (some (.ok (.rt (.val d)) ρ)) = some (.ok d) := rfl
@[simp] theorem outV_own {ds : List PyData} {ρ : Ev} : outV (some (.ok (.rt (.own ds)) ρ)) = some (.ok (.list ds)) := rfl
@[simp] theorem outV_nx {ρ : Ev} : outV (some (.ok .nx ρ)) = some (.ok .none) := rfl
@[simp] theorem outV_ex {x : XV} {ρ : Ev} : outV (some (.ex x ρ)) = some (.error x) := rfl
@[simp] theorem outL_own {ds : List PyData} {ρ : Ev} : outL (some (.ok (.rt (.own ds)) ρ)) = some ds := rfl
@[simp] theorem outI_val {d : PyData} {es : List PyData} {ρ : Ev} : outI (some (.ok (.rt (.val d)) (.io es :: ρ))) = some (d, es) := rfl
@[simp] theorem outI_own {ds : List PyData} {es : List PyData} {ρ : Ev} : outI (some (.ok (.rt (.own ds)) (.io es :: ρ))) = some (.list ds, es) := rfl
@[simp] theorem outI_nx {es : List PyData} {ρ : Ev} : outI (some (.ok .nx (.io es :: ρ))) = some (.none, es) := rfl
/-- of a lent list: some result of which R holds -/
theorem runI_of {n N : Nat} {b : M Fl} {es ds : List PyData} {R : PyData → List PyData → Prop} (hn : ds.length = n) (h : wr b (fun r => ex1 (outI (some r)) fun o => R o.1 o.2) (startI N es ds)) : ∃ d es', runI n N b es ds = some (d, es') ∧ R d es' := by
  obtain ⟨r, e, o, eo, q⟩ := h
  unfold runI
  rw [if_pos hn, e]
  exact ⟨o.1, o.2, eo, q⟩
/-- consequence -/
theorem wr.imp {α : Type} {f : M α} {Q Q' : Rs α → Prop} {ρ : Ev} (h : wr f Q ρ) (q : ∀ r, Q r → Q' r) : wr f Q' ρ := let ⟨r, e, h⟩ := h; ⟨r, e, q r h⟩
end D3

namespace D3
open PySem L2
theorem runV_ex {n N : Nat} {b : M Fl} {ds : List PyData} {R : PyData → Prop} (hn : ds.length = n) (h : wr b (fun r => ∃ d, outV (some r) = some (.ok d) ∧ R d) (startE N ds)) : ∃ d, runV n N b ds = some (.ok d) ∧ R d := by
  obtain ⟨r, e, d, q, hr⟩ := h
  refine ⟨d, ?_, hr⟩
  unfold runV
  rw [if_pos hn, e]
  exact q
section
variable {c : M Bool} {body : M Fl} {QF : Rs Fl → Prop}
/-- what a loop's body may come to: on with it, or out of the def -/
def Goes (QF : Rs Fl → Prop) (J : Ev → Prop) (r : Rs Fl) : Prop := (∃ ρ2, (r = .ok .nx ρ2 ∨ r = .ok .ct ρ2) ∧ J ρ2) ∨ ∃ v ρ2, r = .ok (.rt v) ρ2 ∧ QF r
@[simp] theorem goes_nx {J : Ev → Prop} {ρ : Ev} : Goes QF J (.ok .nx ρ) = J ρ := by
  unfold Goes
  apply propext
  constructor
  · rintro (⟨ρ2, e | e, h⟩ | ⟨v, ρ2, e, _⟩)
    · cases e; exact h
    · cases e
    · cases e
  · exact fun h => .inl ⟨ρ, .inl rfl, h⟩
@[simp] theorem goes_ct {J : Ev → Prop} {ρ : Ev} : Goes QF J (.ok .ct ρ) = J ρ := by
  unfold Goes
  apply propext
  constructor
  · rintro (⟨ρ2, e | e, h⟩ | ⟨v, ρ2, e, _⟩)
    · cases e
    · cases e; exact h
    · cases e
  · exact fun h => .inl ⟨ρ, .inr rfl, h⟩
@[simp] theorem goes_rt {J : Ev → Prop} {ρ : Ev} {v : RV} : Goes QF J (.ok (.rt v) ρ) = QF (.ok (.rt v) ρ) := by
  unfold Goes
  apply propext
  constructor
  · rintro (⟨ρ2, e | e, h⟩ | ⟨v, ρ2, e, h⟩)
    · cases e
    · cases e
    · exact h
  · exact fun h => .inr ⟨v, ρ, rfl, h⟩
theorem wr_whileR {fuel : Nat} {ρ : Ev} (I : Nat → Ev → Prop) (n : Nat) (hn : n < fuel) (step : ∀ n ρ, I n ρ → wr c (fun r => ∃ b ρ1, r = .ok b ρ1 ∧ if b then wr body (Goes QF fun ρ2 => ∃ m, m < n ∧ I m ρ2) ρ1 else QF (.ok .nx ρ1)) ρ) (h0 : I n ρ) : wr (whlD c body fuel) QF ρ := by
  have key : ∀ (n fuel : Nat) (ρ : Ev), n < fuel → I n ρ → wr (whlD c body fuel) QF ρ := by
    intro n
    induction n using Nat.strongRecOn with
    | ind n ih =>
      intro fuel ρ hf h
      cases fuel with
      | zero => omega
      | succ fuel =>
        obtain ⟨r, h1, b, ρ1, rfl, h2⟩ := step n ρ h
        cases b with
        | false =>
          refine ⟨_, ?_, h2⟩
          unfold whlD
          rw [h1]
        | true =>
          obtain ⟨r, h3, h4⟩ := h2
          rcases h4 with ⟨ρ2, h4, m, hm, h5⟩ | ⟨v, ρ2, rfl, h5⟩
          · obtain ⟨r', h6, h7⟩ := ih m hm fuel ρ2 (by omega) h5
            refine ⟨r', ?_, h7⟩
            unfold whlD
            rw [h1]
            dsimp only
            rw [h3]
            rcases h4 with rfl | rfl <;> exact h6
          · refine ⟨_, ?_, h5⟩
            unfold whlD
            rw [h1]
            dsimp only
            rw [h3]
  exact key n fuel ρ hn h0
theorem wr_forR {γ : Type} {as : PyData → Ev → Option Ev} {xs : List γ} {g : γ → PyData} {ρ : Ev} (J : Nat → Ev → Prop) (step : ∀ k x ρ, xs[k]? = some x → J k ρ → ex1 (as (g x) ρ) fun ρ1 => wr body (Goes QF (J (k + 1))) ρ1) (h0 : J 0 ρ) (q : ∀ ρ', J xs.length ρ' → QF (.ok .nx ρ')) : wr (forD as body (xs.map g)) QF ρ := by
  have key : ∀ (ys : List γ) (k : Nat) (ρ : Ev), xs.drop k = ys → k ≤ xs.length → J k ρ → wr (forD as body (ys.map g)) QF ρ := by
    intro ys
    induction ys with
    | nil =>
      intro k ρ hd hk j
      have : k = xs.length := by
        have := List.drop_eq_nil_iff.mp hd
        omega
      subst this
      exact ⟨_, rfl, q ρ j⟩
    | cons y ys ih =>
      intro k ρ hd hk j
      have hl : k < xs.length := by
        by_cases hl : k < xs.length
        · exact hl
        · rw [List.drop_eq_nil_of_le (by omega)] at hd
          cases hd
      rw [List.drop_eq_getElem_cons hl] at hd
      obtain ⟨rfl, hd2⟩ := List.cons.inj hd
      obtain ⟨ρ1, h1, r, h2, h3⟩ := step k xs[k] ρ (List.getElem?_eq_getElem hl) j
      rcases h3 with ⟨ρ2, h4, h5⟩ | ⟨v, ρ2, rfl, h5⟩
      · obtain ⟨r', h6, h7⟩ := ih (k + 1) ρ2 hd2 hl h5
        refine ⟨r', ?_, h7⟩
        show forD as body (g xs[k] :: ys.map g) ρ = _
        unfold forD
        rw [h1]
        dsimp only
        rw [h2]
        rcases h4 with rfl | rfl <;> exact h6
      · refine ⟨_, ?_, h5⟩
        show forD as body (g xs[k] :: ys.map g) ρ = _
        unfold forD
        rw [h1]
        dsimp only
        rw [h2]
  exact key xs 0 ρ rfl (Nat.zero_le _) h0
end
/-- a comprehension whose turns keep W of the names -/
theorem wr_lcW {γ : Type} {as : PyData → Ev → Option Ev} {t : M Bool} {e : M PyData} {vs : List Nat} {xs : List γ} {g : γ → PyData} {ρ : Ev} {QL : Rs (List PyData) → Prop} (W : Ev → Prop) (T : γ → Option PyData) (hno : noOwn ρ vs = true) (hl : xs.length ≤ sizeLine)
    (h : ∀ x ρ, x ∈ xs → W ρ → ex1 (as (g x) ρ) fun ρ1 => wr t (bndK (fun c => if c then bnd e fun y => ret (some y) else ret none) fun r => ∃ ρ', r = .ok (T x) ρ' ∧ W (wipeE ρ' vs)) ρ1) (h0 : W (wipeE ρ vs)) (q : ∀ ρ', W ρ' → QL (.ok (xs.filterMap T) (backE ρ ρ' vs))) : wr (lcD as t e vs (xs.map g)) QL ρ := by
  refine wr_lcI (fun rest acc ρ => ∃ done left, xs = done ++ left ∧ rest = left.map g ∧ acc = done.filterMap T ∧ W ρ) hno (by rw [List.length_map]; exact hl) ?_ ⟨[], xs, rfl, rfl, rfl, h0⟩ ?_
  · rintro d rest acc ρ ⟨done, left, rfl, hr, rfl, w⟩
    cases left with
    | nil => cases hr
    | cons x left =>
      obtain ⟨rfl, rfl⟩ := List.cons.inj hr
      obtain ⟨ρ1, h1, r, h2, h3⟩ := h x ρ (by simp) w
      refine ⟨ρ1, h1, r, h2, ?_⟩
      cases r with
      | ex x ρ2 => obtain ⟨_, q, _⟩ := h3; cases q
      | ok c ρ2 =>
        have h4 : wr (if c then bnd e fun y => ret (some y) else ret none) (fun r => ∃ ρ', r = .ok (T x) ρ' ∧ W (wipeE ρ' vs)) ρ2 := h3
        show wr (if c then bnd e fun y => ret (some y) else ret none) _ ρ2
        obtain ⟨r, e1, ρ', e2, w'⟩ := h4
        refine ⟨r, e1, T x, ρ', e2, done ++ [x], left, by simp, rfl, ?_, w'⟩
        rw [List.filterMap_append]
        cases e : T x <;> simp [e]
  · rintro l ρ' ⟨done, left, rfl, hr, rfl, w⟩
    cases left with
    | cons _ _ => cases hr
    | nil =>
      rw [List.append_nil] at q
      exact q ρ' w
end D3

namespace D3
open PySem L2
/-! ### what repr shows -/
theorem strOk_app (a b : Str) : PyData.strOk (a ++ b) = (PyData.strOk a && PyData.strOk b) := by
  show (a.cps ++ b.cps).all _ = _
  rw [Array.all_append]
  rfl
theorem strOk_join : ∀ ts : List Str, (∀ t ∈ ts, PyData.strOk t = true) → PyData.strOk (Str.join ", " ts) = true
  | [], _ => by decide +kernel
  | [x], h => h x (by simp)
  | x :: y :: r, h => by
    show PyData.strOk (x ++ ", " ++ Str.join ", " (y :: r)) = true
    rw [strOk_app, strOk_app, h x (by simp), strOk_join (y :: r) fun t ht => h t (by simp [List.mem_cons.mp ht])]
    decide +kernel
theorem strOk_tuple (ts : List Str) (h : ∀ t ∈ ts, PyData.strOk t = true) : PyData.strOk (tupleText ts) = true := by
  unfold tupleText
  rw [strOk_app, strOk_app, strOk_join ts h]
  split <;> decide +kernel
structure Shw (k n : Nat) (d : PyData) : Prop where
  showable : d.showable = true
  nodict : d.hasDict = false
  depth : d.depth ≤ k
  leaves : d.leavesShort 13 = true
  bulk : d.bulk ≤ n
  str : PyData.strOk d.shown = true
theorem shw_all {k n : Nat} : ∀ {ds : List PyData}, (∀ d ∈ ds, Shw k n d) → PyData.showableAll ds = true ∧ PyData.hasDictAll ds = false ∧ PyData.depthAll ds ≤ k ∧ PyData.leavesShortAll 13 ds = true ∧ PyData.bulkAll ds ≤ ds.length * (n + 1) ∧ ∀ t ∈ PyData.shownAll ds, PyData.strOk t = true
  | [], _ => by
    refine ⟨rfl, rfl, Nat.zero_le _, rfl, Nat.zero_le _, fun t ht => by cases ht⟩
  | d :: ds, h => by
    obtain ⟨h1, h2, h3, h4, h5, h6⟩ := shw_all (ds := ds) fun x hx => h x (by simp [hx])
    have hd := h d (by simp)
    refine ⟨?_, ?_, ?_, ?_, ?_, ?_⟩
    · simp only [PyData.showableAll, hd.showable, h1, Bool.and_self]
    · simp only [PyData.hasDictAll, hd.nodict, h2, Bool.or_self]
    · have := hd.depth
      simp only [PyData.depthAll]
      omega
    · simp only [PyData.leavesShortAll, hd.leaves, h4, Bool.and_self]
    · have := hd.bulk
      simp only [PyData.bulkAll, List.length_cons, Nat.succ_mul]
      omega
    · intro t ht
      rcases List.mem_cons.mp (show t ∈ PyData.shown d :: PyData.shownAll ds by simpa only [PyData.shownAll] using ht) with rfl | ht
      · exact hd.str
      · exact h6 t ht
theorem Shw.tuple {k n : Nat} {ds : List PyData} (h : ∀ d ∈ ds, Shw k n d) : Shw (k + 1) (ds.length * (n + 1)) (.tuple ds) := by
  obtain ⟨h1, h2, h3, h4, h5, h6⟩ := shw_all h
  refine ⟨by simp only [PyData.showable, h1], by simp only [PyData.hasDict, h2], ?_, by simp only [PyData.leavesShort, h4], by simp only [PyData.bulk]; exact h5, ?_⟩
  · simp only [PyData.depth]
    omega
  · simp only [PyData.shown]
    exact strOk_tuple _ h6
theorem Shw.mono {k n k' n' : Nat} {d : PyData} (h : Shw k n d) (hk : k ≤ k') (hn : n ≤ n') : Shw k' n' d := ⟨h.showable, h.nodict, Nat.le_trans h.depth hk, h.leaves, Nat.le_trans h.bulk hn, h.str⟩
theorem Shw.repr {k n : Nat} {d : PyData} (h : Shw k n d) (hk : k ≤ 64) (hn : n ≤ 2 ^ 20) : reprD [d] = some (.str d.shown) := by
  have e : showOk d = true := by
    unfold showOk
    rw [h.showable, h.nodict, decide_eq_true (Nat.le_trans h.depth hk), decide_eq_true (PyData.shown_fits_bulk (B := 13) (by decide) (by decide) h.leaves (Nat.le_trans h.bulk hn))]
    rfl
  show (if showOk d = true then some (PyData.str d.shown) else none) = _
  rw [if_pos e]
theorem shaped_str {x : Str} (h : PyData.strOk x = true) : SeqAt.shaped (.str x) = true := by
  unfold SeqAt.shaped PyData.canLay0 PyData.depth
  rw [h]
  rfl
theorem Shw.ne {k n : Nat} {d : PyData} (h : Shw k n d) : neD (.str d.shown) (.str d.shown) = some (.bool false) := by
  rw [neD_of (shaped_str h.str) (shaped_str h.str)]
  simp [PyData.eqv]
theorem shw_nat5 {x : Nat} (h : x < 5) : Shw 0 0 (.int x) := by
  match x, h with
  | 0, _ => exact ⟨by decide +kernel, by decide +kernel, by decide +kernel, by decide +kernel, by decide +kernel, by decide +kernel⟩
  | 1, _ => exact ⟨by decide +kernel, by decide +kernel, by decide +kernel, by decide +kernel, by decide +kernel, by decide +kernel⟩
  | 2, _ => exact ⟨by decide +kernel, by decide +kernel, by decide +kernel, by decide +kernel, by decide +kernel, by decide +kernel⟩
  | 3, _ => exact ⟨by decide +kernel, by decide +kernel, by decide +kernel, by decide +kernel, by decide +kernel, by decide +kernel⟩
  | 4, _ => exact ⟨by decide +kernel, by decide +kernel, by decide +kernel, by decide +kernel, by decide +kernel, by decide +kernel⟩
end D3

namespace D3
open PySem L2
/-! ### plain rules of dicts -/
@[simp] theorem intO_int {a : Int → Int → Int} {i j : Int} : intO a (.int i) (.int j) = some (.int (a i j)) := rfl
def dkP (s : Option Slot) (p : List (Key × PyData) → Prop) [Dep p] : Prop := match s, p with
  | some (.ob (.dk kvs)), p => p kvs
  | _, _ => False
@[simp ↓, simp] theorem dkP_some {kvs : List (Key × PyData)} {p : List (Key × PyData) → Prop} : dkP (some (.ob (.dk kvs))) p = p kvs := rfl
section
variable {ρ : Ev} {i : Nat} {f g ek ev : M PyData} {t : M Bool} {fl : M (List PyData)} {as : PyData → Ev → Option Ev} {vs : List Nat} {d y : PyData}
variable {Q : Rs PyData → Prop} {QL : Rs (List PyData) → Prop} {QB : Rs Bool → Prop} {QF : Rs Fl → Prop} {QK : Rs (List (Key × PyData)) → Prop} {QO : Rs Od → Prop}
theorem dk_cases (ρ : Ev) (i : Nat) : (∃ kvs, ρ[i]? = some (.ob (.dk kvs)) ∧ dkAt ρ i = some kvs) ∨ (dkAt ρ i = none ∧ ∀ p : List (Key × PyData) → Prop, dkP ρ[i]? p = False) := by
  unfold dkAt
  cases e : ρ[i]? with
  | none => exact .inr ⟨rfl, fun p => rfl⟩
  | some s => cases s with
    | nil => exact .inr ⟨rfl, fun p => rfl⟩
    | val d => exact .inr ⟨rfl, fun p => rfl⟩
    | own d => exact .inr ⟨rfl, fun p => rfl⟩
    | io d => exact .inr ⟨rfl, fun p => rfl⟩
    | ob o => cases o with
      | dk kvs => exact .inl ⟨kvs, rfl, rfl⟩
@[simp ↓] theorem wr_eDk : wr (eDk i) QK ρ = dkP ρ[i]? fun kvs => QK (.ok kvs ρ) := by
  rcases dk_cases ρ i with ⟨kvs, e, e2⟩ | ⟨e, e2⟩
  · rw [e]
    exact (wr_is (o := some (.ok kvs ρ)) (by unfold eDk; rw [e2]; rfl)).trans ex1_some
  · rw [e2]
    exact (wr_is (o := none) (by unfold eDk; rw [e]; rfl)).trans ex1_none
def getP (kvs : List (Key × PyData)) (y : PyData) : Option PyData := (keyD y).bind fun k => getK kvs k
@[simp ↓] theorem wr_eDGet : wr (eDGet i g) Q ρ = wr (eDk i) (bndK (fun _ => bnd g fun y ρ => lft ((dkAt ρ i).bind fun kvs => (keyD y).bind fun k => getK kvs k) ρ) Q) ρ := wr_bnd0
@[simp ↓] theorem wr_getTail : wr (fun ρ => lft ((dkAt ρ i).bind fun kvs => (keyD y).bind fun k => getK kvs k) ρ) Q ρ = dkP ρ[i]? fun kvs => ex1 (getP kvs y) fun d => Q (.ok d ρ) := by
  rcases dk_cases ρ i with ⟨kvs, e, e2⟩ | ⟨e, e2⟩
  · rw [e, dkP_some]
    refine (wr_is (o := (getP kvs y).map fun d => Rs.ok d ρ) ?_).trans ex1_map
    show lft ((dkAt ρ i).bind fun kvs => getP kvs y) ρ = _
    rw [e2]
    show lft (getP kvs y) ρ = _
    unfold lft
    cases getP kvs y <;> rfl
  · rw [e2]
    refine (wr_is (o := none) ?_).trans ex1_none
    show lft ((dkAt ρ i).bind fun kvs => getP kvs y) ρ = _
    rw [e]
    rfl
@[simp ↓] theorem wr_tDkIn {neg : Bool} : wr (tDkIn i neg g) QB ρ = wr g (bndK (fun y => bnd (eDk i) fun kvs => lft ((keyD y).map fun k => if neg then !hasK kvs k else hasK kvs k)) QB) ρ := wr_bnd0
@[simp ↓] theorem wr_sDkPut : wr (sDkPut i f g) QF ρ = wr f (bndK (fun d => bnd (eDk i) fun _ => bnd g fun y ρ => nFl (putKS i d y ρ)) QF) ρ := wr_bnd0
def setP (kvs : List (Key × PyData)) (y d : PyData) : Option (List (Key × PyData)) := (keyD y).bind fun k => if kvs.length < sizeLine then some (setK kvs k d) else none
@[simp ↓] theorem wr_dkPutTail : wr (fun ρ => nFl (putKS i d y ρ)) QF ρ = dkP ρ[i]? fun kvs => ex1 (setP kvs y d) fun l => atP (ρ.set i (.ob (.dk l))) fun ρ' => QF (.ok .nx ρ') := by
  rcases dk_cases ρ i with ⟨kvs, e, e2⟩ | ⟨e, e2⟩
  · rw [e, dkP_some]
    refine (wr_is (o := (setP kvs y d).map fun l => Rs.ok Fl.nx (ρ.set i (.ob (.dk l)))) ?_).trans ex1_map
    unfold putKS setP
    rw [e2]
    cases keyD y with
    | none => rfl
    | some k =>
      show nFl (if kvs.length < sizeLine then _ else _) = Option.map _ (if kvs.length < sizeLine then _ else _)
      split <;> rfl
  · rw [e2]
    refine (wr_is (o := none) ?_).trans ex1_none
    unfold putKS
    rw [e]
    rfl
@[simp ↓] theorem wr_eDkSorted : wr (eDkSorted i) QL ρ = wr (eDk i) (bndK (fun kvs => lft (sortK kvs)) QL) ρ := wr_bnd0
@[simp ↓] theorem wr_sSetOb {fo : M Od} : wr (sSetOb i fo) QF ρ = wr fo (bndK (fun o => nxt i (.ob o)) QF) ρ := wr_bnd0
@[simp ↓] theorem wr_eFnO {m : FO} : wr (eFnO m fl) QO ρ = wr fl (bndK (fun ds => lft (m ds)) QO) ρ := wr_bnd0
@[simp ↓] theorem wr_eDc : wr (eDc fl as t ek ev vs) QO ρ = wr fl (bndK (dcK as t ek ev vs) QO) ρ := wr_bnd0
theorem wr_sRetOb {o : Od} (h : ρ[i]? = some (.ob o)) (q : QF (.ok (.rt (.ob o)) (ρ.set i .nil))) : wr (sRetOb i) QF ρ := by
  refine ⟨_, ?_, q⟩
  unfold sRetOb
  rw [h]
end
theorem runO_ex {n N : Nat} {b : M Fl} {ds : List PyData} {R : Od → Prop} (hn : ds.length = n) (h : wr b (fun r => ∃ o, outO (some r) = some o ∧ R o) (startE N ds)) : ∃ o, runO n N b ds = some o ∧ R o := by
  obtain ⟨r, e, o, q, hr⟩ := h
  refine ⟨o, ?_, hr⟩
  unfold runO
  rw [if_pos hn, e]
  exact q
@[simp] theorem outO_ob {o : Od} {ρ : Ev} : outO (some (.ok (.rt (.ob o)) ρ)) = some o := rfl
/-! a dict comprehension: turns leave the names alone -/
section
variable {γ : Type} {as : PyData → Ev → Option Ev} {t : M Bool} {ek ev : M PyData} {vs : List Nat} {xs : List γ} {g : γ → PyData} {ρ : Ev}
def foldK : List (Key × PyData) → List (Key × PyData) → List (Key × PyData)
  | acc, [] => acc
  | acc, p :: r => foldK (setK acc p.1 p.2) r
/-- a turn: the key and what it gets, or nothing -/
def TurnK (t : M Bool) (ek ev : M PyData) (vs : List Nat) (ρw : Ev) (o : Option (Key × PyData)) (ρ1 : Ev) : Prop := wr t (bndK (fun c => if c then bnd ek fun y => bnd ev fun z => lft ((keyD y).map fun k => some (k, z)) else ret none) fun r => ∃ ρ', r = .ok o ρ' ∧ wipeE ρ' vs = ρw) ρ1
theorem compK_pureX {T : γ → Option (Key × PyData)} {ρw : Ev} : ∀ {xs : List γ} {acc : List (Key × PyData)}, (∀ x ∈ xs, ex1 (as (g x) ρw) (TurnK t ek ev vs ρw (T x))) → compK as t ek ev vs (xs.map g) acc ρw = some (.ok (foldK acc (xs.filterMap T)) ρw)
  | [], acc, _ => rfl
  | x :: xs, acc, h => by
    have ih := fun acc => compK_pureX (T := T) (xs := xs) (acc := acc) fun x hx => h x (List.mem_cons_of_mem _ hx)
    obtain ⟨ρ1, h1, r, h2, h3⟩ := h x List.mem_cons_self
    show compK as t ek ev vs (g x :: xs.map g) acc ρw = _
    unfold compK
    rw [h1]
    dsimp only
    rw [h2]
    cases r with
    | ex x ρ2 => obtain ⟨_, q, _⟩ := h3; cases q
    | ok c ρ2 =>
      have h4 : wr (if c then bnd ek fun y => bnd ev fun z => lft ((keyD y).map fun k => some (k, z)) else ret none) (fun r => ∃ ρ', r = .ok (T x) ρ' ∧ wipeE ρ' vs = ρw) ρ2 := h3
      cases c with
      | false =>
        obtain ⟨r, e1, ρ', e2, e3⟩ := h4
        subst e2
        have e1' : none = T x ∧ ρ2 = ρ' := by simpa [ret] using e1
        obtain ⟨e4, e5⟩ := e1'
        subst e5
        dsimp only
        rw [e3, ih, List.filterMap_cons, ← e4]
      | true =>
        obtain ⟨r, e1, ρ', e2, e3⟩ := h4
        subst e2
        have e1' : bnd ek (fun y => bnd ev fun z => lft ((keyD y).map fun k => some (k, z))) ρ2 = some (.ok (T x) ρ') := e1
        unfold bnd at e1'
        cases ee : ek ρ2 with
        | none => rw [ee] at e1'; cases e1'
        | some re => cases re with
          | ex x ρ3 => rw [ee] at e1'; cases e1'
          | ok y ρ3 =>
            rw [ee] at e1'
            dsimp only at e1' ⊢
            rw [ee]
            dsimp only
            cases ev' : ev ρ3 with
            | none => rw [ev'] at e1'; cases e1'
            | some rv => cases rv with
              | ex x ρ4 => rw [ev'] at e1'; cases e1'
              | ok z ρ4 =>
                rw [ev'] at e1'
                dsimp only at e1' ⊢
                cases ky : keyD y with
                | none => rw [ky] at e1'; cases e1'
                | some k =>
                  rw [ky] at e1'
                  have e5 : some (Rs.ok (some (k, z)) ρ4) = some (.ok (T x) ρ') := e1'
                  cases e6 : T x with
                  | none => rw [e6] at e5; cases e5
                  | some p =>
                    rw [e6] at e5
                    cases e5
                    dsimp only
                    rw [e3, ih, List.filterMap_cons, e6]
                    rfl
theorem wr_dcX (T : γ → Option (Key × PyData)) {QO : Rs Od → Prop} (hno : noOwn ρ vs = true) (hl : xs.length ≤ sizeLine)
    (h : ∀ x ∈ xs, ex1 (as (g x) (wipeE ρ vs)) (TurnK t ek ev vs (wipeE ρ vs) (T x))) (q : QO (.ok (.dk (foldK [] (xs.filterMap T))) ρ)) : wr (dcK as t ek ev vs (xs.map g)) QO ρ := by
  refine ⟨_, ?_, q⟩
  unfold dcK
  rw [if_pos (by rw [hno, List.length_map, decide_eq_true hl]; rfl), compK_pureX h]
  simp [backE_wipe]
end
/-! a dict whose keys are numbers -/
def numK (ks : List Nat) (val : Nat → PyData) : List (Key × PyData) := ks.map fun t : Nat => (.inl (t : Int), val t)
theorem numK_get {ks : List Nat} {val : Nat → PyData} {t : Nat} : getK (numK ks val) (.inl (t : Int)) = if t ∈ ks then some (val t) else none := by
  induction ks with
  | nil => rfl
  | cons k ks ih =>
    show (if (Sum.inl (k : Int) : Key) = .inl (t : Int) then some (val k) else getK (numK ks val) (.inl (t : Int))) = _
    rw [ih]
    by_cases h : k = t
    · subst h; simp
    · have h1 : ¬ (Sum.inl (k : Int) : Key) = .inl (t : Int) := fun e => h (by injection e with e; omega)
      have h2 : ¬ t = k := fun e => h e.symm
      rw [if_neg h1]
      simp [h2]
theorem numK_has {ks : List Nat} {val : Nat → PyData} {t : Nat} : hasK (numK ks val) (.inl (t : Int)) = ks.contains t := by
  unfold hasK
  rw [numK_get]
  by_cases h : t ∈ ks <;> simp [h]
theorem numK_set {ks : List Nat} {val : Nat → PyData} {t : Nat} {d : PyData} (h : t ∉ ks) : setK (numK ks val) (.inl (t : Int)) d = numK (ks ++ [t]) fun x => if x = t then d else val x := by
  unfold setK
  rw [numK_has, if_neg (by simpa using h)]
  unfold numK
  rw [List.map_append]
  congr 1
  · refine List.map_congr_left fun x hx => ?_
    have hne : ¬ x = t := fun e => h (by rw [← e]; exact hx)
    show (Sum.inl (x : Int), val x) = ((Sum.inl (x : Int) : Key), if x = t then d else val x)
    rw [if_neg hne]
  · simp
theorem numK_int (ks : List Nat) (val : Nat → PyData) : intK (numK ks val) = some (ks.map fun t : Nat => (t : Int)) := by
  induction ks with
  | nil => rfl
  | cons k ks ih =>
    show (intK (numK ks val)).map _ = _
    rw [ih]
    rfl
theorem foldK_num {val : Nat → PyData} : ∀ (ls ks : List Nat), (ks ++ ls).Nodup → foldK (numK ks val) (ls.map fun t : Nat => (.inl (t : Int), val t)) = numK (ks ++ ls) val
  | [], ks, _ => by rw [List.append_nil]; rfl
  | l :: ls, ks, h => by
    have hl : l ∉ ks := fun hk => by
      rw [List.nodup_append] at h
      exact h.2.2 l hk l (by simp) rfl
    show foldK (setK (numK ks val) (.inl (l : Int)) (val l)) (ls.map fun t : Nat => (.inl (t : Int), val t)) = _
    rw [numK_set hl]
    have e : (fun x => if x = l then val l else val x) = val := by
      funext x
      split
      · rename_i e; rw [e]
      · rfl
    rw [e, foldK_num ls (ks ++ [l]) (by rw [List.append_assoc]; exact h), List.append_assoc]
    rfl
end D3

namespace D3
open PySem L2
/-! ### plain rules of sets, [::-1], raise with a field, several clauses -/
section
variable {ρ : Ev} {f : M PyData} {Q : Rs PyData → Prop} {QL : Rs (List PyData) → Prop} {QF : Rs Fl → Prop}
@[simp ↓] theorem wr_eSset : wr (eSset f) QL ρ = wr f (bndK (fun d => lft (ssetD d)) QL) ρ := wr_bnd0
@[simp ↓] theorem wr_eSlen : wr (eSlen f) Q ρ = wr f (bndK (fun d => lft (slenD d)) Q) ρ := wr_bnd0
@[simp ↓] theorem wr_eRevL : wr (eRevL f) QL ρ = wr f (bndK (fun d => lft (revD d)) QL) ρ := wr_bnd0
@[simp] theorem revD_list {ds : List PyData} : revD (.list ds) = some ds.reverse := rfl
@[simp ↓] theorem wr_sRaiseF {c g : Str} {d : PyData} : wr (sRaiseF c g d) QF ρ = QF (.ex ⟨c, [(g, d)]⟩ ρ) := (wr_is rfl).trans ex1_some
def tryMK (cls : List ((Str → Option Bool) × (XV → M Fl))) (QF : Rs Fl → Prop) [Dep cls] [Dep QF] : Rs Fl → Prop
  | .ok a ρ => QF (.ok a ρ)
  | .ex x ρ => ∃ r, clRun x ρ cls = some r ∧ QF r
@[simp ↓] theorem tryMK_ok {cls : List ((Str → Option Bool) × (XV → M Fl))} {a : Fl} : tryMK cls QF (.ok a ρ) = QF (.ok a ρ) := rfl
theorem tryMK_ex {cls : List ((Str → Option Bool) × (XV → M Fl))} {x : XV} : tryMK cls QF (.ex x ρ) = ∃ r, clRun x ρ cls = some r ∧ QF r := rfl
theorem wr_sTryM0 {b : M Fl} {cls : List ((Str → Option Bool) × (XV → M Fl))} (h : wr b (tryMK cls QF) ρ) : wr (sTryM b cls) QF ρ := by
  obtain ⟨r, e, q⟩ := h
  unfold wr sTryM
  rw [e]
  cases r with
  | ok a ρ' => exact ⟨_, rfl, q⟩
  | ex x ρ' => exact q
end
theorem usortK_map {α β : Type} {key : β → Int} (f : α → β) : ∀ l : List α, usortK key (l.map f) = (usortK (fun a => key (f a)) l).map f
  | [] => rfl
  | x :: xs => by
    have ins : ∀ (m : List α), insK key (f x) (m.map f) = (insK (fun a => key (f a)) x m).map f := fun m => by
      induction m with
      | nil => rfl
      | cons y ys ih =>
        simp only [List.map_cons, insK]
        split
        · rfl
        · split
          · rfl
          · rw [ih]; rfl
    show insK key (f x) (usortK key (xs.map f)) = _
    rw [usortK_map f xs, ins]
    rfl
theorem usortK_asc_self {α : Type} {key : α → Int} {l : List α} (h : l.Pairwise (fun a b => key a < key b)) : usortK key l = l := by
  refine asc_eq (usortK_asc l) h fun z => ⟨of_usortK, in_usortK fun a ha b hb e => ?_⟩
  clear z
  induction l with
  | nil => cases ha
  | cons x xs ih =>
    obtain ⟨h1, h2⟩ := List.pairwise_cons.mp h
    rcases List.mem_cons.mp ha with ea | ha
    · rcases List.mem_cons.mp hb with eb | hb
      · rw [ea, eb]
      · have := h1 b hb; rw [ea] at e; omega
    · rcases List.mem_cons.mp hb with eb | hb
      · have := h1 a ha; rw [eb] at e; omega
      · exact ih h2 ha hb
theorem usortK_len {α : Type} {key : α → Int} : ∀ l : List α, (usortK key l).length ≤ l.length
  | [] => Nat.le_refl _
  | x :: xs => by
    have ins : ∀ m : List α, (insK key x m).length ≤ m.length + 1 := fun m => by
      induction m with
      | nil => simp [insK]
      | cons y ys ih =>
        unfold insK
        split
        · simp
        · split
          · simp
          · simp only [List.length_cons]; omega
    show (insK key x (usortK key xs)).length ≤ xs.length + 1
    have := ins (usortK key xs)
    have := usortK_len (key := key) xs
    omega
end D3

namespace D3
open PySem L2
/-! ### encodings of plain things as data: ==, in -/
structure Enc {α : Type} [DecidableEq α] (e : α → PyData) (k : Nat) : Prop where
  lay : ∀ a, PyData.canLay0 (e a) = true
  dep : ∀ a, PyData.depth (e a) ≤ k
  eqv : ∀ a b, PyData.eqv (e a) (e b) = decide (a = b)
section
variable {α β γ δ : Type} [DecidableEq α] [DecidableEq β] [DecidableEq γ] [DecidableEq δ] {e : α → PyData} {f : β → PyData} {g : γ → PyData} {h : δ → PyData} {k m : Nat}
theorem Enc.mono (E : Enc e k) (hk : k ≤ m) : Enc e m := ⟨E.lay, fun a => Nat.le_trans (E.dep a) hk, E.eqv⟩
theorem Enc.shaped (E : Enc e k) (a : α) (hk : k ≤ 64 := by decide) : SeqAt.shaped (e a) = true := by
  unfold SeqAt.shaped
  rw [E.lay a, Bool.true_and, decide_eq_true_eq]
  exact Nat.le_trans (E.dep a) hk
theorem enc_nat : Enc (fun n : Nat => PyData.int n) 0 := ⟨fun _ => by simp only [PyData.canLay0], fun _ => Nat.le_of_eq (by simp only [PyData.depth]), fun a b => by
  simp only [PyData.eqv]
  by_cases h : a = b
  · simp [h]
  · rw [beq_eq_false_iff_ne.mpr (by omega), decide_eq_false h]⟩
theorem enc_int : Enc PyData.int 0 := ⟨fun _ => by simp only [PyData.canLay0], fun _ => Nat.le_of_eq (by simp only [PyData.depth]), fun a b => by
  simp only [PyData.eqv]
  rfl⟩
theorem enc_bool : Enc PyData.bool 0 := ⟨fun _ => by simp only [PyData.canLay0], fun _ => Nat.le_of_eq (by simp only [PyData.depth]), fun a b => by
  simp only [PyData.eqv]
  rfl⟩
theorem Enc.all (E : Enc e k) : ∀ l : List α, PyData.canLayAll0 (l.map e) = true ∧ PyData.depthAll (l.map e) ≤ k
  | [] => ⟨by simp only [List.map_nil, PyData.canLayAll0], by simp only [List.map_nil, PyData.depthAll]; exact Nat.zero_le _⟩
  | x :: xs => by
    obtain ⟨h1, h2⟩ := E.all xs
    simp only [List.map_cons, PyData.canLayAll0, PyData.depthAll, h1, E.lay x, Bool.and_self, true_and]
    have := E.dep x
    omega
theorem Enc.eqvAll (E : Enc e k) : ∀ a b : List α, PyData.eqvAll (a.map e) (b.map e) = decide (a = b)
  | [], [] => by simp [PyData.eqvAll]
  | [], y :: ys => by simp [PyData.eqvAll]
  | x :: xs, [] => by simp [PyData.eqvAll]
  | x :: xs, y :: ys => by
    have ih := E.eqvAll xs ys
    simp only [List.map_cons, PyData.eqvAll, ih, E.eqv]
    by_cases h : x = y <;> by_cases h' : xs = ys <;> simp [h, h']
theorem Enc.tup (E : Enc e k) : Enc (fun l : List α => .tuple (l.map e)) (k + 1) := ⟨fun l => by simp only [PyData.canLay0]; exact (E.all l).1, fun l => by simp only [PyData.depth]; have := (E.all l).2; omega, fun a b => by simp only [PyData.eqv]; exact E.eqvAll a b⟩
theorem Enc.lst (E : Enc e k) : Enc (fun l : List α => .list (l.map e)) (k + 1) := ⟨fun l => by simp only [PyData.canLay0]; exact (E.all l).1, fun l => by simp only [PyData.depth]; have := (E.all l).2; omega, fun a b => by simp only [PyData.eqv]; exact E.eqvAll a b⟩
theorem Enc.pair (E : Enc e k) (F : Enc f m) : Enc (fun p : α × β => .tuple [e p.1, f p.2]) (max k m + 1) := ⟨fun p => by simp only [PyData.canLay0, PyData.canLayAll0, E.lay, F.lay, Bool.and_self], fun p => by
    simp only [PyData.depth, PyData.depthAll]
    have := E.dep p.1
    have := F.dep p.2
    omega, fun a b => by
    simp only [PyData.eqv, PyData.eqvAll, E.eqv, F.eqv]
    obtain ⟨a1, a2⟩ := a
    obtain ⟨b1, b2⟩ := b
    by_cases h : a1 = b1 <;> by_cases h' : a2 = b2 <;> simp [h, h']⟩
theorem Enc.triple {n : Nat} (E : Enc e k) (F : Enc f m) (G : Enc g n) : Enc (fun p : α × β × γ => .tuple [e p.1, f p.2.1, g p.2.2]) (max k (max m n) + 1) := ⟨fun p => by simp only [PyData.canLay0, PyData.canLayAll0, E.lay, F.lay, G.lay, Bool.and_self], fun p => by
    simp only [PyData.depth, PyData.depthAll]
    have := E.dep p.1
    have := F.dep p.2.1
    have := G.dep p.2.2
    omega, fun a b => by
    simp only [PyData.eqv, PyData.eqvAll, E.eqv, F.eqv, G.eqv]
    obtain ⟨a1, a2, a3⟩ := a
    obtain ⟨b1, b2, b3⟩ := b
    by_cases h : a1 = b1 <;> by_cases h' : a2 = b2 <;> by_cases h'' : a3 = b3 <;> simp [h, h', h'']⟩
theorem Enc.eqD (E : Enc e k) (a b : α) (hk : k ≤ 64 := by decide) : D3.eqD (e a) (e b) = some (.bool (decide (a = b))) := by rw [eqD_of (E.shaped a hk) (E.shaped b hk), E.eqv]
theorem Enc.neD (E : Enc e k) (a b : α) (hk : k ≤ 64 := by decide) : D3.neD (e a) (e b) = some (.bool (!decide (a = b))) := by rw [neD_of (E.shaped a hk) (E.shaped b hk), E.eqv]
theorem Enc.any (E : Enc e k) (a : α) (l : List α) : ((l.map e).any fun z => PyData.eqv z (e a)) = l.contains a := by
  induction l with
  | nil => rfl
  | cons y ys ih =>
    rw [List.map_cons, List.any_cons, ih, List.contains_cons, E.eqv]
    congr 1
    by_cases h : y = a
    · simp [h]
    · rw [decide_eq_false h, beq_eq_false_iff_ne.mpr fun q => h q.symm]
/-- a in a list -/
theorem Enc.inL (E : Enc e k) (a : α) (l : List α) (hk : k + 1 ≤ 64 := by decide) : inA (e a) (.list (l.map e)) = some (.bool (l.contains a)) := by
  have h : inD (e a) (.list (l.map e)) = some (.bool (l.contains a)) := by
    have s1 := E.shaped a (by omega)
    have s2 := E.lst.shaped l hk
    show (if (SeqAt.shaped (e a) && SeqAt.shaped (.list (l.map e))) = true then some (PyData.bool ((l.map e).any fun z => PyData.eqv z (e a))) else none) = _
    rw [s1, s2, if_pos (show (true && true) = true from rfl), E.any]
  unfold inA orF2
  rw [h]
theorem Enc.notInL (E : Enc e k) (a : α) (l : List α) (hk : k + 1 ≤ 64 := by decide) : notInA (e a) (.list (l.map e)) = some (.bool (!l.contains a)) := by
  have h : notInD (e a) (.list (l.map e)) = some (.bool (!l.contains a)) := by
    have s1 := E.shaped a (by omega)
    have s2 := E.lst.shaped l hk
    show (if (SeqAt.shaped (e a) && SeqAt.shaped (.list (l.map e))) = true then some (PyData.bool (!(l.map e).any fun z => PyData.eqv z (e a))) else none) = _
    rw [s1, s2, if_pos (show (true && true) = true from rfl), E.any]
  unfold notInA orF2
  rw [h]
/-- .. a flat thing in a tuple -/
theorem Enc.inT (E : Enc e k) (hf : ∀ x, flatD (e x) = true) (a : α) (l : List α) : inA (e a) (.tuple (l.map e)) = some (.bool (l.contains a)) := by
  have h1 : (l.map e).all flatD = true := by simp [hf]
  have h : D3.inT (e a) (.tuple (l.map e)) = some (.bool (l.contains a)) := by
    show (if (flatD (e a) && (l.map e).all flatD) = true then some (PyData.bool ((l.map e).any fun z => PyData.eqv z (e a))) else none) = _
    rw [hf, h1, if_pos (show (true && true) = true from rfl), E.any]
  exact h
theorem Enc.notInT (E : Enc e k) (hf : ∀ x, flatD (e x) = true) (a : α) (l : List α) : notInA (e a) (.tuple (l.map e)) = some (.bool (!l.contains a)) := by
  have h1 : (l.map e).all flatD = true := by simp [hf]
  have h : D3.notInT (e a) (.tuple (l.map e)) = some (.bool (!l.contains a)) := by
    show (if (flatD (e a) && (l.map e).all flatD) = true then some (PyData.bool (!(l.map e).any fun z => PyData.eqv z (e a))) else none) = _
    rw [hf, h1, if_pos (show (true && true) = true from rfl), E.any]
  exact h
end
/-! lists and tuples against empty ones -/
theorem lay_each {k : Nat} : ∀ {ds : List PyData}, (∀ d ∈ ds, PyData.canLay0 d = true ∧ PyData.depth d ≤ k) → PyData.canLayAll0 ds = true ∧ PyData.depthAll ds ≤ k
  | [], _ => ⟨by simp only [PyData.canLayAll0], by simp only [PyData.depthAll]; exact Nat.zero_le _⟩
  | x :: xs, h => by
    obtain ⟨h1, h2⟩ := lay_each fun d hd => h d (.tail _ hd)
    obtain ⟨h3, h4⟩ := h x (.head _)
    simp only [PyData.canLayAll0, PyData.depthAll, h1, h3, Bool.and_self, true_and]
    omega
theorem shaped_list {k : Nat} {ds : List PyData} (h : ∀ d ∈ ds, PyData.canLay0 d = true ∧ PyData.depth d ≤ k) (hk : k + 1 ≤ 64 := by decide) : SeqAt.shaped (.list ds) = true := by
  obtain ⟨h1, h2⟩ := lay_each h
  unfold SeqAt.shaped
  have e1 : PyData.canLay0 (.list ds) = true := by simp only [PyData.canLay0]; exact h1
  have e2 : PyData.depth (.list ds) = PyData.depthAll ds + 1 := by simp only [PyData.depth]
  rw [e1, Bool.true_and, decide_eq_true_eq, e2]
  omega
theorem shaped_tuple {k : Nat} {ds : List PyData} (h : ∀ d ∈ ds, PyData.canLay0 d = true ∧ PyData.depth d ≤ k) (hk : k + 1 ≤ 64 := by decide) : SeqAt.shaped (.tuple ds) = true := by
  obtain ⟨h1, h2⟩ := lay_each h
  unfold SeqAt.shaped
  have e1 : PyData.canLay0 (.tuple ds) = true := by simp only [PyData.canLay0]; exact h1
  have e2 : PyData.depth (.tuple ds) = PyData.depthAll ds + 1 := by simp only [PyData.depth]
  rw [e1, Bool.true_and, decide_eq_true_eq, e2]
  omega
theorem eqv_nilL (ds : List PyData) : PyData.eqv (.list ds) (.list []) = ds.isEmpty := by
  simp only [PyData.eqv]
  cases ds <;> simp [PyData.eqvAll]
theorem eqv_nilT (ds : List PyData) : PyData.eqv (.tuple ds) (.tuple []) = ds.isEmpty := by
  simp only [PyData.eqv]
  cases ds <;> simp [PyData.eqvAll]
theorem eqD_nilL {k : Nat} {ds : List PyData} (h : ∀ d ∈ ds, PyData.canLay0 d = true ∧ PyData.depth d ≤ k) (hk : k + 1 ≤ 64 := by decide) : eqD (.list ds) (.list []) = some (.bool ds.isEmpty) := by
  rw [eqD_of (shaped_list h hk) (shaped_list (k := 0) (by simp)), eqv_nilL]
theorem neD_nilL {k : Nat} {ds : List PyData} (h : ∀ d ∈ ds, PyData.canLay0 d = true ∧ PyData.depth d ≤ k) (hk : k + 1 ≤ 64 := by decide) : neD (.list ds) (.list []) = some (.bool (!ds.isEmpty)) := by
  rw [neD_of (shaped_list h hk) (shaped_list (k := 0) (by simp)), eqv_nilL]
theorem eqD_nilT {k : Nat} {ds : List PyData} (h : ∀ d ∈ ds, PyData.canLay0 d = true ∧ PyData.depth d ≤ k) (hk : k + 1 ≤ 64 := by decide) : eqD (.tuple ds) (.tuple []) = some (.bool ds.isEmpty) := by
  rw [eqD_of (shaped_tuple h hk) (shaped_tuple (k := 0) (by simp)), eqv_nilT]
theorem neD_nilT {k : Nat} {ds : List PyData} (h : ∀ d ∈ ds, PyData.canLay0 d = true ∧ PyData.depth d ≤ k) (hk : k + 1 ≤ 64 := by decide) : neD (.tuple ds) (.tuple []) = some (.bool (!ds.isEmpty)) := by
  rw [neD_of (shaped_tuple h hk) (shaped_tuple (k := 0) (by simp)), eqv_nilT]
/-! a turn's end, for simp -/
theorem wr_ivO {i : Nat} {l : List PyData} {x : Slot} {ρ : Ev} {QL : Rs (List PyData) → Prop} (hi : ρ[i]? = some x) (hx : x = .own l ∨ x = .val (.list l)) (q : QL (.ok l (ρ.set i (.val (.list l))))) : wr (iSeq (eVar i)) QL ρ := by
  refine ⟨_, ?_, q⟩
  unfold iSeq bnd eVar
  rw [hi]
  rcases hx with rfl | rfl
  · rfl
  · have e : ρ.set i (.val (.list l)) = ρ := by
      obtain ⟨hl, ei⟩ := List.getElem?_eq_some_iff.mp hi
      rw [← ei, List.set_getElem_self]
    rw [e]
    rfl
section
variable {γ : Type} {as : PyData → Ev → Option Ev} {t : M Bool} {e : M PyData} {vs : List Nat} {xs : List γ} {g : γ → PyData} {ρ : Ev} {body : M Fl} {QF : Rs Fl → Prop} {items : List PyData}
theorem wr_forE (hit : items = xs.map g) (J : Nat → Ev → Prop) (step : ∀ k x ρ, xs[k]? = some x → J k ρ → ex1 (as (g x) ρ) fun ρ1 => wr body (fun r => ∃ ρ2, (r = .ok .nx ρ2 ∨ r = .ok .ct ρ2) ∧ J (k + 1) ρ2) ρ1) (h0 : J 0 ρ) (q : ∀ ρ', J xs.length ρ' → QF (.ok .nx ρ')) : wr (forD as body items) QF ρ := by
  subst hit
  exact wr_forX J step h0 q
theorem wr_lcE (hit : items = xs.map g) (T : γ → Option PyData) {QL : Rs (List PyData) → Prop} (hno : noOwn ρ vs = true) (hl : xs.length ≤ sizeLine)
    (h : ∀ x ∈ xs, ex1 (as (g x) (wipeE ρ vs)) (TurnX t e vs (wipeE ρ vs) (T x))) (q : QL (.ok (xs.filterMap T) ρ)) : wr (lcD as t e vs items) QL ρ := by
  subst hit
  exact wr_lcX T hno hl h q
theorem wr_lcEM (hit : items = xs.map g) (T : γ → PyData) {QL : Rs (List PyData) → Prop} (hno : noOwn ρ vs = true) (hl : xs.length ≤ sizeLine)
    (h : ∀ x ∈ xs, ex1 (as (g x) (wipeE ρ vs)) fun ρ1 => wr e (fun r => ∃ ρ', r = .ok (T x) ρ' ∧ wipeE ρ' vs = wipeE ρ vs) ρ1) (q : QL (.ok (xs.map T) ρ)) : wr (lcD as (ret true) e vs items) QL ρ := by
  subst hit
  exact wr_lcXM T hno hl h q
end
end D3

namespace K66
open PySem D3 L2
abbrev opS (w : Bool) : Str := if w then "w" else "r"
def encD (w : Bool) (x : Nat) : PyData := .tuple [.str (opS w), .int x]
/-! ### the draws -/
structure DS where
  cells : List Nat
  a : Int
  b : Nat
  c : Nat
def encS (s : DS) : List PyData := [.list (s.cells.map fun n : Nat => .int n), .int s.a, .int s.b, .int s.c]
def nextC (c : Nat) : Nat := (c * 48271 + 11) % 2147483647
def cellAt (s : DS) : Nat := (s.cells[(s.a + 1).toNat]?).getD 0
def takeS (s : DS) (m : Nat) : Nat × DS :=
  if s.b = 0 then
    if cellAt s = 0 then (nextC s.c % m, ⟨s.cells, s.a + 1, nextC s.c / m, nextC s.c⟩)
    else (cellAt s % m, ⟨s.cells, s.a + 1, cellAt s / m, s.c⟩)
  else (s.b % m, ⟨s.cells, s.a, s.b / m, s.c⟩)
theorem take_b (s : DS) (m : Nat) (hb : s.b ≠ 0) (h0 : 0 < m) (h1 : m < 1073741824) : fn__law_take (encS s) [.int m] = some (.int (takeS s m).1, encS (takeS s m).2) := by
  rw [takeS, if_neg hb]
  refine runI_eq rfl ?_
  have hm : (0 : Int) < m := by omega
  have hm1 : (m : Int) < 1073741824 := by omega
  have hb1 : ((s.b : Int) == 0) = false := by simpa using hb
  simp [sem__law_take, startI, encS, atI, ixN, hb1, hm, hm1, h0, h1]
theorem take_c (s : DS) (m : Nat) (ha : -1 ≤ s.a) (hb : s.b = 0) (h0 : 0 < m) (h1 : m < 1073741824) : fn__law_take (encS s) [.int m] = some (.int (takeS s m).1, encS (takeS s m).2) := by
  rw [takeS, if_pos hb]
  refine runI_eq rfl ?_
  have hm : (0 : Int) < m := by omega
  have hm1 : (m : Int) < 1073741824 := by omega
  have hb1 : ((s.b : Int) == 0) = true := by simpa using hb
  have e : ((s.c : Int) * 48271 + 11) % 2147483647 = (nextC s.c : Nat) := by unfold nextC; omega
  by_cases hl : s.a + 1 < s.cells.length
  · obtain ⟨k, hk⟩ : ∃ k : Nat, s.a + 1 = k := ⟨(s.a + 1).toNat, by omega⟩
    have hk2 : k < s.cells.length := by omega
    have hc : cellAt s = s.cells[k] := by
      unfold cellAt
      rw [hk]
      simp [hk2]
    rw [hc]
    by_cases hz : s.cells[k] = 0
    · simp [sem__law_take, startI, encS, atI, ixN, hb1, hm, hm1, h0, h1, hl, hk, hk2, hz, sm64, e]
    · have hz1 : ((s.cells[k] : Int) == 0) = false := by simpa using hz
      simp [sem__law_take, startI, encS, atI, ixN, hb1, hm, hm1, h0, h1, hl, hk, hk2, hz, hz1, sm64, e]
  · have hc : cellAt s = 0 := by
      unfold cellAt
      rw [List.getElem?_eq_none (by omega)]
      rfl
    simp [sem__law_take, startI, encS, atI, ixN, hb1, hm, hm1, h0, h1, hl, sm64, e, hc]
theorem take_ok (s : DS) (m : Nat) (ha : -1 ≤ s.a) (h0 : 0 < m) (h1 : m < 1073741824) : fn__law_take (encS s) [.int m] = some (.int (takeS s m).1, encS (takeS s m).2) := by
  by_cases hb : s.b = 0
  · exact take_c s m ha hb h0 h1
  · exact take_b s m hb h0 h1
/-! ### what stays true of the draws -/
theorem takeS_lt (s : DS) (n : Nat) (h : 0 < n) : (takeS s n).1 < n := by
  unfold takeS
  split
  · split <;> exact Nat.mod_lt _ h
  · exact Nat.mod_lt _ h
theorem takeS_cells (s : DS) (n : Nat) : (takeS s n).2.cells = s.cells := by
  unfold takeS
  split
  · split <;> rfl
  · rfl
section
open LCG
structure Ok (L : Nat) (s : DS) : Prop where
  a : -1 ≤ s.a
  c : s.c < pp
  b : s.b < 2 ^ L
  cells : ∀ x ∈ s.cells, x < 2 ^ L
theorem two_pow31 {L : Nat} (h : 31 ≤ L) : pp ≤ 2 ^ L := Nat.le_trans (by decide) (Nat.pow_le_pow_right (by decide) h)
theorem nxtC_lt (c : Nat) : nxtC c < pp := Nat.mod_lt _ (by decide)
theorem Ok.take {L n : Nat} {s : DS} (hL : 31 ≤ L) (hn : 1 ≤ n) (h : Ok L s) : Ok L (takeS s n).2 := by
  have hp := two_pow31 hL
  have dv : ∀ {x : Nat}, x < 2 ^ L → x / n < 2 ^ L := fun {x} hx => Nat.lt_of_le_of_lt (Nat.div_le_self x n) hx
  unfold takeS
  split
  · split
    · exact ⟨by have := h.a; show -1 ≤ s.a + 1; omega, nxtC_lt _, dv (Nat.lt_of_lt_of_le (nxtC_lt _) hp), h.cells⟩
    · refine ⟨by have := h.a; show -1 ≤ s.a + 1; omega, h.c, dv ?_, h.cells⟩
      unfold cellAt
      cases q : s.cells[(s.a + 1).toNat]? with
      | none => exact Nat.pos_of_ne_zero (by simp)
      | some x => exact h.cells x (List.mem_of_getElem? q)
  · exact ⟨h.a, h.c, dv h.b, h.cells⟩
end
abbrev LL : Nat := 1048577
structure GoodS (s : DS) : Prop where
  ok : Ok LL s
  len : s.cells.length ≤ 63
theorem GoodS.take {s : DS} (g : GoodS s) {n : Nat} (hn : 0 < n) : GoodS (takeS s n).2 := ⟨g.ok.take (by decide) hn, by rw [takeS_cells]; exact g.len⟩
end K66

namespace K66
open PySem D3 L2
theorem take_n (s : DS) (n : Nat) (i : Int) (hi : i = (n : Nat)) (ha : -1 ≤ s.a) (h0 : 0 < n) (h1 : n < 1073741824) : fn__law_take (encS s) [.int i] = some (.int ((takeS s n).1 : Nat), encS (takeS s n).2) := by
  subst hi
  exact take_ok s n ha h0 h1
/-- a draw: some number below n, some state -/
theorem take_ex (s : DS) (n : Nat) (i : Int) (hi : i = (n : Nat)) (ha : GoodS s) (h0 : 0 < n) (h1 : n < 1073741824) : ∃ (r : Nat) (s' : DS), fn__law_take (encS s) [.int i] = some (.int (r : Nat), encS s') ∧ r < n ∧ GoodS s' :=
  ⟨_, _, take_n s n i hi ha.ok.a h0 h1, takeS_lt s n h0, ha.take h0⟩
abbrev Deed := Bool × Nat
def encDp (p : Deed) : PyData := encD p.1 p.2
def encT (t : List Deed) : PyData := .tuple (t.map encDp)
def encTs (T : List (List Deed)) : PyData := .tuple (T.map encT)
def GoodT (t : List Deed) : Prop := 1 ≤ t.length ∧ t.length ≤ 3 ∧ ∀ p ∈ t, p.2 < 5
def GoodTs (T : List (List Deed)) : Prop := 1 ≤ T.length ∧ T.length ≤ 4 ∧ ∀ t ∈ T, GoodT t
theorem rgD_length (lo hi : Int) : (rgD lo hi).length = (hi - lo).toNat := rgD_len lo hi
@[simp] theorem rg1_int {j : Int} (h : sm62 j = true) : rg1 [.int j] = some (rgD 0 j) := by simp [rg1, h]
@[simp] theorem rg2_int {i j : Int} (h : sm62 i = true) (h' : sm62 j = true) : rg2 [.int i, .int j] = some (rgD i j) := by simp [rg2, h, h']
theorem sm62_nat {n : Nat} (h : n < 1000000) : sm62 (n : Int) = true := by
  simp only [sm62, Bool.and_eq_true, decide_eq_true_eq]
  omega
theorem z24 : 16777216 ≤ sizeLine := by decide
theorem ops_ix (r : Nat) (h : r < 2) : atI [PyData.str "r", PyData.str "w"] (r : Int) = some (.str (opS (decide (r = 1)))) := by
  match r, h with
  | 0, _ => rfl
  | 1, _ => rfl
theorem sm62_of' {i : Int} (h0 : -1000000 ≤ i) (h1 : i < 1000000) : sm62 i = true := by
  simp only [sm62, Bool.and_eq_true, decide_eq_true_eq]
  omega
theorem sum_len {α β : Type} {l : List α} {d : β} {rest : List β} {n : Nat} (h : l.length + (d :: rest).length = n) (x : α) : (l ++ [x]).length + rest.length = n := by
  rw [List.length_append, List.length_cons, List.length_nil]
  rw [List.length_cons] at h
  omega
def InvT (top r1 : Nat) (x1 : Slot) (xs : List PyData) (x4 : Slot) (rest acc : List PyData) (ρ : Ev) : Prop := ∃ (ds : List Deed) (s' : DS), acc = ds.map encDp ∧ (∀ p ∈ ds, p.2 < 5) ∧ ds.length + rest.length = 1 + r1 ∧ GoodS s' ∧ ρ = [.io (encS s'), x1, .val (.int (top : Nat)), .own xs, x4, .nil]
def InvF (r1 r2 : Nat) (rest : List PyData) (ρ : Ev) : Prop := ∃ (T : List (List Deed)) (s' : DS) (x4 : Slot), (∀ t ∈ T, GoodT t) ∧ T.length + rest.length = 1 + r2 ∧ GoodS s' ∧ ρ = [.io (encS s'), .val (.int 4), .val (.int (2 + r1 : Nat)), .own (T.map encT), x4, .nil]
theorem all_snoc {α : Type} {p : α → Prop} {l : List α} {x : α} (h : ∀ y ∈ l, p y) (hx : p x) : ∀ y ∈ l ++ [x], p y := fun y hy => by
  rcases List.mem_append.mp hy with h' | h'
  · exact h y h'
  · rw [List.mem_singleton.mp h']; exact hx
/-- one text -/
theorem text_ok (s : DS) (ha : GoodS s) (top : Nat) (ht : 2 ≤ top) (ht5 : top ≤ 5) (x1 : Slot) (xs : List PyData) (x4 : Slot) (QL : Rs (List PyData) → Prop)
    (q : ∀ (t : List Deed) (s' : DS), GoodT t → GoodS s' → QL (.ok (t.map encDp) [.io (encS s'), x1, .val (.int (top : Nat)), .own xs, x4, .nil])) :
    wr (eLc (iRg1 (aCons (eBin addD (eC (.int 1)) (eFnI fn__law_take 0 (aCons (eC (.int 3)) aNil))) aNil)) (gNm 5) (ret true) (eTup (aCons (eBin ixD (eFrz (eLst (aCons (eC (.str "r")) (aCons (eC (.str "w")) aNil)))) (eFnI fn__law_take 0 (aCons (eC (.int 2)) aNil))) (aCons (eFnI fn__law_take 0 (aCons (eVar 2) aNil)) aNil))) [5]) QL
      [.io (encS s), x1, .val (.int (top : Nat)), .own xs, x4, .nil] := by
  obtain ⟨r1, s1, e1, l1, a1⟩ := take_ex s 3 3 rfl ha (by decide) (by decide)
  have z := z24
  have q1 : sm62 (1 + (r1 : Int)) = true := sm62_of' (by omega) (by omega)
  simp [e1, q1]
  refine wr_lcI (InvT top r1 x1 xs x4) rfl (by rw [rgD_length]; omega) ?_ ⟨[], s1, rfl, by simp, by rw [rgD_length]; simp only [List.length_nil]; omega, a1, rfl⟩ ?_
  · rintro d rest acc ρ ⟨ds, s', rfl, hd, hl, a', rfl⟩
    obtain ⟨r2, s2, e2, l2, a2⟩ := take_ex s' 2 2 rfl a' (by decide) (by decide)
    obtain ⟨r3, s3, e3, l3, a3⟩ := take_ex s2 top top rfl a2 (by omega) (by omega)
    have z2 : 2 ≤ sizeLine := by decide
    have ho := ops_ix r2 l2
    simp [gNm, e2, e3, z2, ho, wipeE]
    exact ⟨_, _, ⟨rfl, rfl⟩, ds ++ [(decide (r2 = 1), r3)], s3, by simp [encDp, encD], all_snoc hd (show r3 < 5 by omega), sum_len hl _, a3, rfl⟩
  · rintro l ρ' ⟨ds, s', rfl, hd, hl, a', rfl⟩
    exact q ds s' ⟨by simp at hl; omega, by simp at hl; omega, hd⟩ a'
set_option maxHeartbeats 1000000 in
theorem texts_ok (s : DS) (ha : GoodS s) : ∃ d es', fn__law_texts (encS s) [.int 4] = some (d, es') ∧ ∃ T s', d = encTs T ∧ es' = encS s' ∧ GoodTs T ∧ GoodS s' := by
  refine runI_of rfl ?_
  obtain ⟨r1, s1, e1, l1, a1⟩ := take_ex s 4 4 rfl ha (by decide) (by decide)
  obtain ⟨r2, s2, e2, l2, a2⟩ := take_ex s1 4 4 rfl a1 (by decide) (by decide)
  have z := z24
  have q1 : sm62 (1 + (r2 : Int)) = true := sm62_of' (by omega) (by omega)
  have ht : (2 : Int) + (r1 : Int) = ((2 + r1 : Nat) : Int) := by omega
  simp [sem__law_texts, startI, e1, e2, setsE, AI.slot, q1]
  rw [ht]
  refine wr_for (InvF r1 r2) ?_ ⟨[], s2, .nil, by simp, by rw [rgD_length]; simp only [List.length_nil]; omega, a2, rfl⟩ ?_
  · rintro d rest ρ ⟨T, s', x4, hT, hl, a', rfl⟩
    simp only [gNm, ex1_some, List.set_cons_succ, List.set_cons_zero]
    simp [-wr_eLc]
    refine text_ok s' a' (2 + r1) (by omega) (by omega) _ _ _ _ fun t s3 gt a3 => ?_
    have hz : T.length < sizeLine := by rw [List.length_cons] at hl; omega
    simp [hz]
    exact ⟨T ++ [t], s3, .val d, all_snoc hT gt, sum_len hl _, a3, by simp [encT]⟩
  · rintro ρ' ⟨T, s', x4, hT, hl, a', rfl⟩
    simp
    exact ⟨T, rfl, s', rfl, ⟨by simp at hl; omega, by simp at hl; omega, hT⟩, a'⟩
end K66

namespace K66
open PySem D3 L2
/-! ### the seed -/
def InvD (ns : List Int) (rest : List PyData) (ρ : Ev) : Prop := ∃ (ms : List Int) (c : Nat) (x : Slot), rest = ms.map .int ∧ c < LCG.pp ∧ ρ = [.val (.list (ns.map .int)), .val (.int (c : Nat)), x] ∧ (x = .nil ∨ ∃ d, x = .val d)
theorem draw_ok (ns : List Int) (hl : ns.length ≤ 63) : ∃ c : Nat, fn__law_draw [.list (ns.map .int)] = some (encS ⟨ns.map Int.natAbs, -1, 0, c⟩) ∧ c < LCG.pp := by
  have main : wr sem__law_draw (fun r => ∃ c : Nat, outL (some r) = some (encS ⟨ns.map Int.natAbs, -1, 0, c⟩) ∧ c < LCG.pp) (startE 3 [.list (ns.map .int)]) := by
    simp [sem__law_draw, startE]
    refine wr_for (InvD ns) ?_ ⟨ns, 7, .nil, rfl, by decide, rfl, .inl rfl⟩ ?_
    · rintro d rest ρ ⟨ms, c, x, hr, hc, rfl, hx⟩
      cases ms with
      | nil => cases hr
      | cons i ms =>
        obtain ⟨rfl, rfl⟩ : d = .int i ∧ rest = ms.map .int := by simpa using hr
        have e : ((c : Int) * 48271 + (if i < 0 then -i else i) % 65521 + 1) % 2147483647 = (((c : Int) * 48271 + (if i < 0 then -i else i) % 65521 + 1) % 2147483647).toNat := by
          have : 0 ≤ ((c : Int) * 48271 + (if i < 0 then -i else i) % 65521 + 1) % 2147483647 := Int.emod_nonneg _ (by decide)
          omega
        simp [gNm, sm64]
        exact ⟨ms, (((c : Int) * 48271 + (if i < 0 then -i else i) % 65521 + 1) % 2147483647).toNat, .val (.int i), rfl, by show _ < 2147483647; omega, by rw [← e], .inr ⟨_, rfl⟩⟩
    · rintro ρ' ⟨ms, c, x, hr, hc, rfl, hx⟩
      have z := z24
      have z4 : 4 ≤ sizeLine := by decide
      simp
      refine wr_lcM (T := fun d => match d with
        | .int i => .int (if i < 0 then -i else i)
        | d => d) (by rcases hx with rfl | ⟨d, rfl⟩ <;> rfl) (by rw [List.length_map]; omega) (fun d hd => ?_) ?_
      · obtain ⟨i, _, rfl⟩ := List.mem_map.mp hd
        simp [gNm, wipeE]
      · simp [z4]
        refine ⟨c, ?_, hc⟩
        simp [encS]
        intro i _
        split <;> omega
  obtain ⟨r, e, c, h, hc⟩ := main
  refine ⟨c, ?_, hc⟩
  unfold fn__law_draw runL
  rw [if_pos (show [PyData.list (ns.map .int)].length = 1 from rfl), e]
  exact h
/-! ### ranges, slices -/
theorem rgD_nil {a b : Int} (h : b ≤ a) : rgD a b = [] := by
  unfold rgD
  rw [show (b - a).toNat = 0 by omega]
  rfl
theorem rgD_cons {a b : Int} (h : a < b) : rgD a b = .int a :: rgD (a + 1) b := by
  unfold rgD
  obtain ⟨n, hn⟩ : ∃ n : Nat, (b - a).toNat = n + 1 := ⟨(b - a).toNat - 1, by omega⟩
  rw [hn, show (b - (a + 1)).toNat = n by omega, List.range_succ_eq_map, List.map_cons, List.map_map]
  refine congr (congrArg _ (by simp)) (List.map_congr_left fun i _ => ?_)
  simp only [Function.comp]
  congr 1
  omega
theorem rgD_case (a b : Int) {d : PyData} {rest : List PyData} (h : rgD a b = d :: rest) : a < b ∧ d = .int a ∧ rest = rgD (a + 1) b := by
  by_cases hab : a < b
  · rw [rgD_cons hab] at h
    simp at h
    exact ⟨hab, h.1.symm, h.2.symm⟩
  · rw [rgD_nil (by omega)] at h
    cases h
theorem cutD_1 {α : Type} (xs : List α) : cutD xs (some 1) none = xs.drop 1 := by
  unfold cutD
  rw [show HT.sIx xs.length 0 (some 1) = min 1 xs.length from HT.sIx_nat xs.length 0 1, HT.sIx_none]
  cases xs with
  | nil => rfl
  | cons x r =>
    rw [show min 1 (x :: r).length = 1 by rw [List.length_cons]; omega]
    show List.take ((x :: r).length - 1) r = r
    rw [List.length_cons, Nat.add_sub_cancel]
    exact List.take_length
/-! ### cuts -/
def encK (c : List Nat) : PyData := .tuple (c.map fun k : Nat => .int k)
def encC (C : List (List Nat)) : PyData := .tuple (C.map encK)
def GoodK (n : Nat) (c : List Nat) : Prop := c.Pairwise (· < ·) ∧ ∀ k ∈ c, 1 ≤ k ∧ k < n
def GoodC : List (List Deed) → List (List Nat) → Prop := Paired fun t c => GoodK t.length c
def InvK (n : Nat) (x1 x2 : Slot) (rest acc : List PyData) (ρ : Ev) : Prop := ∃ (c : List Nat) (s' : DS) (j : Nat), acc = c.map (fun k : Nat => .int k) ∧ c.Pairwise (· < ·) ∧ (∀ k ∈ c, 1 ≤ k ∧ k < n ∧ k < j) ∧ 1 ≤ j ∧ rest = rgD (j : Nat) (n : Nat) ∧ GoodS s' ∧ ρ = [.io (encS s'), x1, x2, .nil]
def InvC (T : List (List Deed)) (rest acc : List PyData) (ρ : Ev) : Prop := ∃ (done left : List (List Deed)) (C : List (List Nat)) (s' : DS), T = done ++ left ∧ rest = left.map encT ∧ GoodC done C ∧ acc = C.map encK ∧ GoodS s' ∧ ρ = [.io (encS s'), .val (encTs T), .nil, .nil]
theorem paired_snoc {α β : Type} {R : α → β → Prop} {x : α} {y : β} (h : R x y) : ∀ {xs : List α} {ys : List β}, Paired R xs ys → Paired R (xs ++ [x]) (ys ++ [y])
  | _, _, .nil => .cons h .nil
  | _, _, .cons h1 t => .cons h1 (paired_snoc h t)
theorem cut_ok (s : DS) (ha : GoodS s) (T : List (List Deed)) (hT : GoodTs T) : ∃ d es', fn__law_cut (encS s) [encTs T] = some (d, es') ∧ ∃ C s', d = encC C ∧ es' = encS s' ∧ GoodC T C ∧ GoodS s' := by
  refine runI_of rfl ?_
  have z := z24
  obtain ⟨h1, h4, hg⟩ := hT
  simp [sem__law_cut, startI]
  rw [encTs]
  simp
  refine wr_lcI (InvC T) rfl (by rw [List.length_map]; omega) ?_ ⟨[], T, [], s, rfl, rfl, .nil, rfl, ha, rfl⟩ ?_
  · rintro d rest acc ρ ⟨done, left, C, s', rfl, hr, hC, rfl, a', rfl⟩
    cases left with
    | nil => cases hr
    | cons t left =>
      obtain ⟨rfl, rfl⟩ : d = encT t ∧ rest = left.map encT := by simpa using hr
      obtain ⟨g1, g3, g5⟩ := hg t (by simp)
      have q1 : sm62 (t.length : Int) = true := sm62_nat (by omega)
      have q2 : sm62 1 = true := rfl
      simp [gNm, encT, q1, q2]
      refine wr_lcI (InvK t.length (.val (encTs (done ++ t :: left))) (.val (encT t))) rfl (by rw [rgD_length]; omega) ?_ ⟨[], s', 1, rfl, .nil, by simp, Nat.le_refl _, rfl, a', rfl⟩ ?_
      · rintro d rest acc ρ ⟨c, s2, j, rfl, hp, hk, hj, hr, a2, rfl⟩
        obtain ⟨hlt, rfl, rfl⟩ := rgD_case _ _ hr.symm
        obtain ⟨r3, s3, e3, l3, a3⟩ := take_ex s2 2 2 rfl a2 (by decide) (by decide)
        by_cases h0 : r3 = 0
        · subst h0
          simp [gNm, e3, wipeE]
          refine ⟨_, _, ⟨rfl, rfl⟩, c ++ [j], s3, j + 1, by simp, ?_, all_snoc (fun k hk' => ⟨(hk k hk').1, (hk k hk').2.1, by have := (hk k hk').2.2; omega⟩) ⟨hj, by omega, by omega⟩, by omega, by simp, a3, rfl⟩
          rw [List.pairwise_append]
          exact ⟨hp, by simp, fun x hx y hy => by rw [List.mem_singleton.mp hy]; exact (hk x hx).2.2⟩
        · have h0' : ((r3 : Int) == 0) = false := by simpa using h0
          simp [gNm, e3, wipeE, h0']
          exact ⟨_, _, ⟨rfl, rfl⟩, c, s3, j + 1, by simp, hp, fun k hk' => ⟨(hk k hk').1, (hk k hk').2.1, by have := (hk k hk').2.2; omega⟩, by omega, by simp, a3, rfl⟩
      · rintro l ρ' ⟨c, s2, j, rfl, hp, hk, hj, hr, a2, rfl⟩
        simp [backE, wipeE]
        exact ⟨_, _, ⟨rfl, rfl⟩, done ++ [t], left, C ++ [c], s2, by simp, rfl, paired_snoc ⟨hp, fun k hk' => ⟨(hk k hk').1, (hk k hk').2.1⟩⟩ hC, by simp [encK], a2, rfl⟩
  · rintro l ρ' ⟨done, left, C, s', rfl, hr, hC, rfl, a', rfl⟩
    cases left with
    | cons _ _ => cases hr
    | nil =>
      simp [backE]
      exact ⟨C, rfl, s', rfl, by simpa using hC, a'⟩
end K66

namespace K66
open PySem D3 L2
def isWhole : PyData → Bool
  | .int _ => true
  | _ => false
@[simp] theorem is_whole_eq (d : PyData) : fn_is_whole [d] = some (.ok (.bool (isWhole d))) := by cases d <;> rfl
@[simp] theorem isWhole_int (i : Int) : isWhole (.int i) = true := rfl
theorem is_deed_ok (p : Deed) (hx : p.2 < 5) : fn_is_deed [encDp p] = some (.ok (.bool true)) := by
  obtain ⟨w, x⟩ := p
  match w, x, hx with
  | true, 0, _ => rfl
  | true, 1, _ => rfl
  | true, 2, _ => rfl
  | true, 3, _ => rfl
  | true, 4, _ => rfl
  | false, 0, _ => rfl
  | false, 1, _ => rfl
  | false, 2, _ => rfl
  | false, 3, _ => rfl
  | false, 4, _ => rfl
theorem is_text_of (ds : List PyData) (h : ∀ d ∈ ds, fn_is_deed [d] = some (.ok (.bool true))) (h1 : 1 ≤ ds.length) (h5 : ds.length ≤ 5) : fn_is_text [.tuple ds] = some (.ok (.bool true)) := by
  have h1' : (1 : Int) ≤ ds.length := by omega
  have h5' : (ds.length : Int) ≤ 5 := by omega
  have z := z24
  refine runV_of rfl ?_
  simp [sem_is_text, startE, k_MOST_DEEDS, h1', h5']
  refine wr_lcM (T := fun _ => .bool true) rfl (by omega) (fun d hd => ?_) ?_
  · simp [gNm, wipeE, h d hd]
  · simp
theorem is_texts_of (ds : List PyData) (h : ∀ d ∈ ds, fn_is_text [d] = some (.ok (.bool true))) (h1 : 1 ≤ ds.length) (h5 : ds.length ≤ 4) : fn_is_texts [.tuple ds] = some (.ok (.bool true)) := by
  have h1' : (1 : Int) ≤ ds.length := by omega
  have h5' : (ds.length : Int) ≤ 4 := by omega
  have z := z24
  refine runV_of rfl ?_
  simp [sem_is_texts, startE, k_MOST_PROGRAMS, h1', h5']
  refine wr_lcM (T := fun _ => .bool true) rfl (by omega) (fun d hd => ?_) ?_
  · simp [gNm, wipeE, h d hd]
  · simp
theorem is_text_ok (t : List Deed) (h : GoodT t) : fn_is_text [encT t] = some (.ok (.bool true)) := by
  obtain ⟨h1, h3, h5⟩ := h
  refine is_text_of _ (fun d hd => ?_) (by simpa using h1) (by simp; omega)
  obtain ⟨p, hp, rfl⟩ := List.mem_map.mp hd
  exact is_deed_ok p (h5 p hp)
theorem is_texts_ok (T : List (List Deed)) (h : GoodTs T) : fn_is_texts [encTs T] = some (.ok (.bool true)) := by
  obtain ⟨h1, h4, hg⟩ := h
  refine is_texts_of _ (fun d hd => ?_) (by simpa using h1) (by simp; omega)
  obtain ⟨t, ht, rfl⟩ := List.mem_map.mp hd
  exact is_text_ok t (hg t ht)
theorem check_texts_ok (T : List (List Deed)) (h : GoodTs T) : fn_check_texts [encTs T] = some (.ok .none) := by
  refine runV_of rfl ?_
  simp [sem_check_texts, startE, is_texts_ok T h]
@[simp] theorem all_tt {α : Type} (l : List α) : (l.all fun _ => true) = true := by simp
@[simp] theorem any_ff {α : Type} (l : List α) : (l.any fun _ => false) = false := by simp
/-! ### places -/
theorem mem_zip_up : ∀ {c : List Nat}, c.Pairwise (· < ·) → ∀ d ∈ zipD (c.map fun k : Nat => PyData.int k) ((c.map fun k : Nat => PyData.int k).drop 1), ∃ x y : Nat, x < y ∧ d = .tuple [.int x, .int y]
  | [], _, d, hd => by simp [zipD] at hd
  | [a], _, d, hd => by simp [zipD] at hd
  | a :: b :: r, h, d, hd => by
    have h' := List.pairwise_cons.mp h
    have e : zipD ((a :: b :: r).map fun k : Nat => PyData.int k) (((a :: b :: r).map fun k : Nat => PyData.int k).drop 1) = .tuple [.int a, .int b] :: zipD ((b :: r).map fun k : Nat => PyData.int k) (((b :: r).map fun k : Nat => PyData.int k).drop 1) := rfl
    rw [e] at hd
    rcases List.mem_cons.mp hd with rfl | hd
    · exact ⟨a, b, h'.1 b (by simp), rfl⟩
    · exact mem_zip_up h'.2 d hd
theorem zipD_le (xs ys : List PyData) : (zipD xs ys).length ≤ xs.length := by rw [zipD_len]; omega
theorem GoodK.short {n : Nat} {c : List Nat} (h : GoodK n c) : c.length ≤ n := by
  have key : ∀ (c : List Nat) (j : Nat), c.Pairwise (· < ·) → (∀ k ∈ c, j ≤ k ∧ k < n) → c.length + j ≤ n ∨ c = [] := by
    intro c
    induction c with
    | nil => exact fun _ _ _ => .inr rfl
    | cons a r ih =>
      intro j hp hk
      left
      have h' := List.pairwise_cons.mp hp
      have ha := hk a (by simp)
      rcases ih (a + 1) h'.2 fun k hk' => ⟨h'.1 k hk', (hk k (by simp [hk'])).2⟩ with h2 | h2
      · rw [List.length_cons]; omega
      · subst h2; simp; omega
  rcases key c 1 h.1 h.2 with h2 | h2
  · omega
  · subst h2; simp
theorem is_places_ok (t : List Deed) (c : List Nat) (h : GoodK t.length c) (ht : t.length ≤ 5) : fn_is_places [encT t, encK c] = some (.ok (.bool true)) := by
  have z := z24
  have hs := h.short
  refine runV_of rfl ?_
  simp [sem_is_places, startE, encK]
  refine wr_lcM (T := fun _ => .bool true) rfl (by rw [List.length_map]; omega) (fun d hd => ?_) ?_
  · obtain ⟨k, hk, rfl⟩ := List.mem_map.mp hd
    have hk2 := h.2 k hk
    have e1 : (1 : Int) ≤ k := by omega
    have e2 : k < t.length := hk2.2
    simp [gNm, encT, wipeE, e1, e2, hk2.1]
  · simp [cutD_1, Function.comp_def]
    have z2 := zipD_le (c.map fun k : Nat => PyData.int k) ((c.map fun k : Nat => PyData.int k).drop 1)
    rw [List.length_map] at z2
    refine wr_lcM (T := fun _ => .bool true) rfl (by have z3 := z2; rw [List.drop_one] at z3; exact Nat.le_trans z3 (by omega)) (fun d hd => ?_) ?_
    · obtain ⟨x, y, hxy, rfl⟩ := mem_zip_up h.1 d (by simpa using hd)
      simp [gTp, gCn, gNm, gN0, wipeE, hxy]
    · simp
/-! ### cuts -/
theorem mem_zip_paired {α β : Type} {R : α → β → Prop} {f : α → PyData} {g : β → PyData} : ∀ {xs : List α} {ys : List β}, Paired R xs ys → ∀ d ∈ zipD (xs.map f) (ys.map g), ∃ x y, x ∈ xs ∧ R x y ∧ d = .tuple [f x, g y]
  | _, _, .nil, d, hd => by simp [zipD] at hd
  | _, _, .cons (a := x) (l₁ := xs) (l₂ := ys) (b := y) h t, d, hd => by
    have e : zipD ((x :: xs).map f) ((y :: ys).map g) = .tuple [f x, g y] :: zipD (xs.map f) (ys.map g) := rfl
    rw [e] at hd
    rcases List.mem_cons.mp hd with rfl | hd
    · exact ⟨x, y, by simp, h, rfl⟩
    · obtain ⟨x', y', h1, h2, h3⟩ := mem_zip_paired t d hd
      exact ⟨x', y', by simp [h1], h2, h3⟩
theorem is_cut_ok (T : List (List Deed)) (C : List (List Nat)) (hT : GoodTs T) (hC : GoodC T C) : fn_is_cut [encTs T, encC C] = some (.ok (.bool true)) := by
  have z := z24
  have hl : T.length = C.length := hC.length
  obtain ⟨h1, h4, hg⟩ := id hT
  refine runV_of rfl ?_
  simp [sem_is_cut, startE, check_texts_ok T hT]
  simp [encTs, encC, hl]
  have z2 := zipD_le (T.map encT) (C.map encK)
  rw [List.length_map] at z2
  refine wr_lcM (T := fun _ => .bool true) rfl (by omega) (fun d hd => ?_) ?_
  · obtain ⟨t, c, ht, hk, rfl⟩ := mem_zip_paired hC d hd
    simp [gTp, gCn, gNm, gN0, wipeE, is_places_ok t c hk (by have := (hg t ht).2.1; omega)]
  · simp
theorem check_cut_ok (T : List (List Deed)) (C : List (List Nat)) (hT : GoodTs T) (hC : GoodC T C) : fn_check_cut [encTs T, encC C] = some (.ok .none) := by
  refine runV_of rfl ?_
  simp [sem_check_cut, startE, is_cut_ok T C hT hC]
end K66

namespace K66
open LCG
/-! ### each digit comes -/
def after (n : Nat) : Nat → DS → DS
  | 0, s => s
  | k + 1, s => after n k (takeS s n).2
theorem after_add (n : Nat) : ∀ (j k : Nat) (s : DS), after n (j + k) s = after n k (after n j s)
  | 0, k, s => by rw [Nat.zero_add]; rfl
  | j + 1, k, s => by
    rw [Nat.succ_add]
    exact after_add n j k _
theorem take_b0 {s : DS} {n : Nat} (h : s.b ≠ 0) : takeS s n = (s.b % n, ⟨s.cells, s.a, s.b / n, s.c⟩) := by
  unfold takeS
  rw [if_neg h]
theorem drain (n : Nat) (hn : 2 ≤ n) (cells : List Nat) (a : Int) (c : Nat) : ∀ (L b : Nat), b < 2 ^ L → ∃ k, k ≤ L ∧ after n k ⟨cells, a, b, c⟩ = ⟨cells, a, 0, c⟩
  | L, 0, _ => ⟨0, Nat.zero_le _, rfl⟩
  | 0, b + 1, h => by simp at h
  | L + 1, b + 1, h => by
    have hb : (b + 1) / n < 2 ^ L := by
      rw [Nat.pow_succ] at h
      have h1 : (b + 1) / n ≤ (b + 1) / 2 := Nat.div_le_div_left hn (by decide)
      omega
    obtain ⟨k, hk, e⟩ := drain n hn cells a c L _ hb
    refine ⟨k + 1, by omega, ?_⟩
    show after n k (takeS ⟨cells, a, b + 1, c⟩ n).2 = _
    rw [take_b0 (by simp)]
    exact e
theorem exhaust (L n : Nat) (hL : 31 ≤ L) (hn : 2 ≤ n) : ∀ (r : Nat) (s : DS), Ok L s → (s.cells.length : Int) ≤ s.a + 1 + r → ∃ k a' c', k ≤ (r + 1) * (L + 1) ∧ after n k s = ⟨s.cells, a', 0, c'⟩ ∧ (s.cells.length : Int) ≤ a' + 1 ∧ -1 ≤ a' ∧ c' < pp
  | r, s, h, hr => by
    obtain ⟨k, hk, e⟩ := drain n hn s.cells s.a s.c L s.b h.b
    by_cases hx : (s.cells.length : Int) ≤ s.a + 1
    · refine ⟨k, s.a, s.c, ?_, e, hx, h.a, h.c⟩
      have : (L + 1) * 1 ≤ (L + 1) * (r + 1) := Nat.mul_le_mul_left _ (by omega)
      rw [Nat.mul_comm (r + 1)]
      omega
    · cases r with
      | zero => exact absurd (by simpa using hr) hx
      | succ r =>
        have h2 : Ok L (takeS ⟨s.cells, s.a, 0, s.c⟩ n).2 := Ok.take hL (by omega) ⟨h.a, h.c, Nat.two_pow_pos L, h.cells⟩
        have e2 : (takeS ⟨s.cells, s.a, 0, s.c⟩ n).2.cells = s.cells ∧ (takeS ⟨s.cells, s.a, 0, s.c⟩ n).2.a = s.a + 1 := by
          unfold takeS
          rw [if_pos rfl]
          split <;> exact ⟨rfl, rfl⟩
        obtain ⟨k2, a', c', hk2, e3, h3, h4, h5⟩ := exhaust L n hL hn r _ h2 (by rw [e2.1, e2.2]; omega)
        rw [e2.1] at e3 h3
        refine ⟨k + (k2 + 1), a', c', ?_, ?_, h3, h4, h5⟩
        · rw [Nat.succ_mul (r + 1)]
          omega
        · rw [after_add, e]
          exact e3
/-- all cells are used up -/
def E (cells : List Nat) (a : Int) (c : Nat) : DS := ⟨cells, a, 0, c⟩
theorem take_E {cells : List Nat} {a : Int} {c n : Nat} (h : (cells.length : Int) ≤ a + 1) (ha : -1 ≤ a) : takeS (E cells a c) n = (nxtC c % n, ⟨cells, a + 1, nxtC c / n, nxtC c⟩) := by
  unfold takeS
  rw [if_pos (show (E cells a c).b = 0 from rfl)]
  have hc : cellAt (E cells a c) = 0 := by
    unfold cellAt E
    rw [List.getElem?_eq_none (by show cells.length ≤ (a + 1).toNat; omega)]
    rfl
  rw [if_pos hc]
  rfl
theorem block {cells : List Nat} {a : Int} {c n : Nat} (hn : 2 ≤ n) (h : (cells.length : Int) ≤ a + 1) (ha : -1 ≤ a) : ∃ k, k ≤ 32 ∧ after n k (E cells a c) = E cells (a + 1) (nxtC c) := by
  have hl : nxtC c / n < 2 ^ 31 := Nat.lt_of_le_of_lt (Nat.div_le_self _ _) (Nat.lt_of_lt_of_le (nxtC_lt c) (by decide))
  obtain ⟨k, hk, e⟩ := drain n hn cells (a + 1) (nxtC c) 31 _ hl
  refine ⟨k + 1, by omega, ?_⟩
  show after n k (takeS (E cells a c) n).2 = _
  rw [take_E h ha]
  exact e
theorem blocks {cells : List Nat} {a : Int} {c n : Nat} (hn : 2 ≤ n) (h : (cells.length : Int) ≤ a + 1) (ha : -1 ≤ a) : ∀ j : Nat, ∃ k, k ≤ 32 * j ∧ after n k (E cells a c) = E cells (a + j) (itC j c)
  | 0 => ⟨0, Nat.le_refl _, by show E cells a c = _; rw [show (a + ((0 : Nat) : Int)) = a by omega]; rfl⟩
  | j + 1 => by
    obtain ⟨k, hk, e⟩ := blocks hn h ha j
    obtain ⟨k2, hk2, e2⟩ := block (cells := cells) (c := itC j c) (a := a + j) hn (by omega) (by omega)
    refine ⟨k + k2, by omega, ?_⟩
    rw [after_add, e, e2, show a + (j : Int) + 1 = a + ((j + 1 : Nat) : Int) by omega]
    rfl
/-- the digits of the number behind -/
theorem digit {cells : List Nat} {a : Int} {c n : Nat} (h : (cells.length : Int) ≤ a + 1) (ha : -1 ≤ a) : ∀ i : Nat, (∀ i', 1 ≤ i' → i' ≤ i → nxtC c / n ^ i' ≠ 0) → (takeS (after n i (E cells a c)) n).1 = nxtC c / n ^ i % n ∧ (1 ≤ i → after n i (E cells a c) = ⟨cells, a + 1, nxtC c / n ^ i, nxtC c⟩)
  | 0, _ => ⟨by show (takeS (E cells a c) n).1 = _; rw [take_E h ha, Nat.pow_zero, Nat.div_one], fun h => by omega⟩
  | i + 1, hz => by
    have st : after n (i + 1) (E cells a c) = ⟨cells, a + 1, nxtC c / n ^ (i + 1), nxtC c⟩ := by
      rw [show i + 1 = i + 1 from rfl, after_add n i 1]
      cases i with
      | zero =>
        show (takeS (E cells a c) n).2 = _
        rw [take_E h ha, Nat.zero_add, Nat.pow_one]
      | succ i =>
        obtain ⟨_, e⟩ := digit h ha (i + 1) fun i' h1 h2 => hz i' h1 (by omega)
        rw [e (by omega)]
        show (takeS ⟨cells, a + 1, nxtC c / n ^ (i + 1), nxtC c⟩ n).2 = _
        rw [take_b0 (hz (i + 1) (by omega) (by omega)), Nat.div_div_eq_div_mul, ← Nat.pow_succ]
    refine ⟨?_, fun _ => st⟩
    rw [st, take_b0 (hz (i + 1) (by omega) (Nat.le_refl _))]
/-- a number all of whose digits are there -/
def topV : Nat → Nat
  | 2 => 2
  | 3 => 21
  | _ => 228
def digX (n t : Nat) : Nat := match n, t with
  | 2, 0 => 2
  | 2, _ => 0
  | 3, 0 => 0
  | 3, 1 => 1
  | 3, _ => 4
  | _, 0 => 1
  | _, 1 => 4
  | _, 2 => 3
  | _, _ => 0
theorem digV_all : ∀ n ∈ [2, 3, 4], ∀ t ∈ List.range n, topV n / n ^ t % n = t ∧ (∀ i' ∈ List.range (t + 1), 1 ≤ i' → topV n / n ^ i' ≠ 0) ∧ topV n < pp ∧ topV n ≠ x0 := by decide
theorem digX_all : ∀ n ∈ [2, 3, 4], ∀ t ∈ List.range n, x0 / n ^ digX n t % n = t ∧ (∀ i' ∈ List.range (digX n t + 1), 1 ≤ i' → x0 / n ^ i' ≠ 0) ∧ digX n t ≤ 8 := by decide
theorem mem234 {n : Nat} (h : n < 5) (h2 : 2 ≤ n) : n ∈ [2, 3, 4] := by
  simp only [List.mem_cons, List.not_mem_nil, or_false]
  omega
theorem digV_ok (n : Nat) (h : n < 5) (h2 : 2 ≤ n) (t : Nat) (ht : t < n) : topV n / n ^ t % n = t ∧ (∀ i', i' ≤ t → 1 ≤ i' → topV n / n ^ i' ≠ 0) ∧ topV n < pp ∧ topV n ≠ x0 := by
  obtain ⟨k1, k2, k3, k4⟩ := digV_all n (mem234 h h2) t (List.mem_range.mpr ht)
  exact ⟨k1, fun i' p => k2 i' (List.mem_range.mpr (by omega)), k3, k4⟩
theorem digX_ok (n : Nat) (h : n < 5) (h2 : 2 ≤ n) (t : Nat) (ht : t < n) : x0 / n ^ digX n t % n = t ∧ (∀ i', i' ≤ digX n t → 1 ≤ i' → x0 / n ^ i' ≠ 0) ∧ digX n t ≤ 8 := by
  obtain ⟨k1, k2, k3⟩ := digX_all n (mem234 h h2) t (List.mem_range.mpr ht)
  exact ⟨k1, fun i' p => k2 i' (List.mem_range.mpr (by omega)), k3⟩
def BB (L : Nat) : Nat := 64 * (L + 1) + 32 * 2147483646 + 64
theorem hits (L n : Nat) (hL : 31 ≤ L) (h1 : 1 ≤ n) (h4 : n ≤ 4) (s : DS) (h : Ok L s) (hc : s.cells.length ≤ 63) (t : Nat) (ht : t < n) : ∃ k, k < BB L ∧ (takeS (after n k s) n).1 = t := by
  by_cases hn : n = 1
  · subst hn
    refine ⟨0, by unfold BB; omega, ?_⟩
    have := takeS_lt (after 1 0 s) 1 (by decide)
    omega
  have hn2 : 2 ≤ n := by omega
  obtain ⟨k, a, c, hk, e, hl, ha, hcp⟩ := exhaust L n hL hn2 63 s h (by have := h.a; omega)
  by_cases hx : c = x0
  · subst hx
    obtain ⟨d1, d2, d3⟩ := digX_ok n (by omega) hn2 t ht
    obtain ⟨g, _⟩ := digit (n := n) (c := x0) hl ha (digX n t) fun i' p1 p2 => by rw [nxt_x0]; exact d2 i' p2 p1
    refine ⟨k + digX n t, by unfold BB; omega, ?_⟩
    rw [after_add, e]
    exact g.trans (by rw [nxt_x0]; exact d1)
  · obtain ⟨d1, d2, d3, d4⟩ := digV_ok n (by omega) hn2 t ht
    obtain ⟨j, hj, ej⟩ := comes hcp hx d3 d4
    obtain ⟨k2, hk2, e2⟩ := blocks (c := c) hn2 hl ha j
    have ej' : nxtC (itC j c) = topV n := ej
    obtain ⟨g, _⟩ := digit (n := n) (c := itC j c) (a := a + j) (cells := s.cells) (by omega) (by omega) t fun i' p1 p2 => by rw [ej']; exact d2 i' p2 p1
    refine ⟨k + (k2 + t), by unfold BB; omega, ?_⟩
    rw [after_add, e, after_add]
    show (takeS (after n t (after n k2 (E s.cells a c))) n).1 = t
    rw [e2, g, ej']
    exact d1
end K66

namespace K66
open PySem D3 L2
theorem intsD_map : ∀ l : List Nat, intsD (l.map fun n : Nat => PyData.int n) = some (l.map fun n : Nat => (n : Int))
  | [] => rfl
  | x :: xs => by
    show (intsD (xs.map fun n : Nat => PyData.int n)).map _ = _
    rw [intsD_map xs]
    rfl
theorem sum_cast : ∀ l : List Nat, (l.map fun n : Nat => (n : Int)).sum = (l.sum : Nat)
  | [] => rfl
  | x :: xs => by
    rw [List.map_cons, List.sum_cons, List.sum_cons, sum_cast xs]
    omega
@[simp] theorem sumD_map (l : List Nat) : sumD [.list (l.map fun n : Nat => PyData.int n)] = some (.int (l.sum : Nat)) := by
  show (intsD _).map _ = _
  rw [intsD_map, Option.map_some, sum_cast]
theorem sum_set : ∀ (l : List Nat) (t x : Nat), l[t]? = some (x + 1) → (l.set t x).sum + 1 = l.sum
  | [], t, x, h => by simp at h
  | y :: ys, 0, x, h => by
    have : y = x + 1 := by simpa using h
    subst this
    simp
    omega
  | y :: ys, t + 1, x, h => by
    have := sum_set ys t x (by simpa using h)
    simp
    omega
theorem sum_pos : ∀ (l : List Nat), l.sum ≠ 0 → ∃ t x : Nat, l[t]? = some (x + 1)
  | [], h => absurd rfl h
  | y :: ys, h => by
    cases y with
    | succ y => exact ⟨0, y, rfl⟩
    | zero =>
      obtain ⟨t, x, e⟩ := sum_pos ys (by simpa using h)
      exact ⟨t + 1, x, by simpa using e⟩
theorem sum_zero : ∀ (l : List Nat), l.sum = 0 → ∀ t x : Nat, l[t]? = some x → x = 0
  | [], _, t, x, h => by simp at h
  | y :: ys, h, 0, x, e => by
    have : y = x := by simpa using e
    rw [List.sum_cons] at h
    omega
  | y :: ys, h, t + 1, x, e => by
    rw [List.sum_cons] at h
    exact sum_zero ys (by omega) t x (by simpa using e)
def encR (R : List Nat) : PyData := .tuple (R.map fun k : Nat => .int k)
/-- how often t stands in a run -/
def GoodR (C : List (List Nat)) (R : List Nat) : Prop := (∀ t c, C[t]? = some c → R.count t = c.length + 1) ∧ ∀ t ∈ R, t < C.length
def tot (C : List (List Nat)) : Nat := (C.map fun c => c.length + 1).sum
end K66

namespace K66
open PySem D3 L2 Ord Cut
/-! ### lists of numbers -/
abbrev encN (k : Nat) : PyData := .int k
theorem lay_ints : ∀ l : List Nat, PyData.canLayAll0 (l.map encN) = true ∧ PyData.depthAll (l.map encN) ≤ 1
  | [] => ⟨rfl, by decide⟩
  | x :: xs => by
    obtain ⟨h1, h2⟩ := lay_ints xs
    simp only [List.map_cons, PyData.canLayAll0, PyData.depthAll, PyData.canLay0, PyData.depth, h1]
    simp
    omega
theorem shaped_ints (l : List Nat) : SeqAt.shaped (.list (l.map encN)) = true := by
  obtain ⟨h1, h2⟩ := lay_ints l
  have e : PyData.depth (.list (l.map encN)) ≤ 2 := by
    unfold PyData.depth
    omega
  unfold SeqAt.shaped
  rw [show PyData.canLay0 (.list (l.map encN)) = true by unfold PyData.canLay0; exact h1, Bool.true_and, decide_eq_true_eq]
  omega
theorem eqv_int (a b : Nat) : PyData.eqv (encN a) (encN b) = decide (a = b) := by
  show PyData.eqv (.int a) (.int b) = _
  simp [PyData.eqv]
  by_cases h : a = b
  · simp [h]
  · simp [h]
    omega
theorem eqvAll_ints : ∀ a b : List Nat, PyData.eqvAll (a.map encN) (b.map encN) = decide (a = b)
  | [], [] => rfl
  | [], y :: ys => rfl
  | x :: xs, [] => rfl
  | x :: xs, y :: ys => by
    have ih := eqvAll_ints xs ys
    simp only [List.map_cons, PyData.eqvAll, ih, eqv_int]
    by_cases h : x = y <;> by_cases h' : xs = ys <;> simp [h, h']
/-! ### sorted numbers -/
abbrev leN (a b : Nat) : Bool := decide (a ≤ b)
theorem leD_N (a b : Nat) : leD (encN a) (encN b) = leN a b := by
  unfold leD leN
  rw [show PySem.W.dataLt (encN b) (encN a) = PySem.W.dataLt (.int b) (.int a) from rfl, PySem.W.dataLt_int]
  by_cases h : a ≤ b
  · simp [h]
  · simp [h]
    omega
theorem insD_map {α β : Type} {f : α → β} {le : β → β → Bool} {le' : α → α → Bool} (h : ∀ a b, le (f a) (f b) = le' a b) (x : α) : ∀ l : List α, insD le (f x) (l.map f) = (insD le' x l).map f
  | [] => rfl
  | y :: ys => by
    show (if le (f x) (f y) = true then _ else _) = List.map f (if le' x y = true then _ else _)
    rw [h, insD_map h x ys]
    split <;> rfl
theorem isort_map {α β : Type} {f : α → β} {le : β → β → Bool} {le' : α → α → Bool} (h : ∀ a b, le (f a) (f b) = le' a b) : ∀ l : List α, isort le (l.map f) = (isort le' l).map f
  | [] => rfl
  | x :: xs => by
    show insD le (f x) (isort le (xs.map f)) = _
    rw [isort_map h xs, insD_map h]
    rfl
theorem leN_total : PySem.W.TotalLe leN := ⟨fun a b c h1 h2 => by simp [leN] at *; omega, fun a b => by simp [leN]; omega⟩
theorem isort_leN (R : List Nat) : (isort leN R).Pairwise (· ≤ ·) := (isort_sorted leN_total R).imp fun h => by simpa [leN] using h
theorem isort_iff {R E : List Nat} (hE : E.Pairwise (· ≤ ·)) : isort leN R = E ↔ R.Perm E := by
  constructor
  · rintro rfl
    exact (isort_perm _ R).symm
  · exact fun p => List.Perm.eq_of_pairwise (fun a b _ _ h1 h2 => Nat.le_antisymm h1 h2) (isort_leN R) hE ((isort_perm _ R).trans p)
theorem sortOk_ints (l : List Nat) (hl : l.length ≤ sizeLine) : sortOk (l.map encN) = true := by
  unfold sortOk
  simp [PySem.W.alike, othC, PyData.depth, hl]
theorem sorted_ints (l : List Nat) (hl : l.length ≤ sizeLine) : sortedD [.tuple (l.map encN)] = some ((isort leN l).map encN) := by
  show (if sortOk (l.map encN) = true then some (sortD (l.map encN)) else none) = _
  rw [if_pos (sortOk_ints l hl)]
  exact congrArg some (isort_map leD_N l)
/-! ### runs of a cut -/
theorem enum_C (C : List (List Nat)) : enumD (C.map encK) = C.zipIdx.map fun p => .tuple [encN p.2, encK p.1] := by
  unfold enumD
  rw [List.zipIdx_map, List.map_map]
  rfl
theorem flat_exp : ∀ (i : Nat) (C : List (List Nat)), ((C.zipIdx i).flatMap fun p => List.replicate (p.1.length + 1) (encN p.2)) = (expF i C).map encN
  | i, [] => rfl
  | i, c :: C => by
    rw [List.zipIdx_cons, List.flatMap_cons, flat_exp (i + 1) C]
    show _ = (List.replicate (c.length + 1) i ++ expF (i + 1) C).map encN
    rw [List.map_append, List.map_replicate]
theorem GoodC.small {T : List (List Deed)} {C : List (List Nat)} (hT : GoodTs T) (h : GoodC T C) : ∀ c ∈ C, c.length ≤ 3 := by
  have key : ∀ {T : List (List Deed)} {C : List (List Nat)}, (∀ t ∈ T, GoodT t) → GoodC T C → ∀ c ∈ C, c.length ≤ 3 := by
    intro T C hT h
    induction h with
    | nil => intro c hc; cases hc
    | @cons t ts c cs h1 h2 ih =>
      intro c' hc
      rcases List.mem_cons.mp hc with rfl | hc
      · have := GoodK.short h1
        have := (hT t (by simp)).2.1
        omega
      · exact ih (fun t ht => hT t (by simp [ht])) c' hc
  exact key hT.2.2 h
theorem tot_le : ∀ {C : List (List Nat)}, (∀ c ∈ C, c.length ≤ 3) → tot C ≤ 4 * C.length
  | [], _ => by simp [tot]
  | c :: C, h => by
    have := tot_le (C := C) fun x hx => h x (by simp [hx])
    have h3 := h c (by simp)
    unfold tot at this ⊢
    rw [List.map_cons, List.sum_cons, List.length_cons]
    omega
end K66

namespace K66
open PySem D3 L2 Ord Cut
/-! ### pieces -/
theorem cutD_nat {α β : Type} (f : α → β) (t : List α) (a b : Nat) (ha : a ≤ t.length) (hb : b ≤ t.length) : cutD (t.map f) (some (a : Int)) (some (b : Int)) = (sl t a b).map f := by
  unfold cutD sl
  rw [HT.sIx_nat, HT.sIx_nat, List.length_map, Nat.min_eq_left ha, Nat.min_eq_left hb, List.map_take, List.map_drop]
theorem ends_le {t : List Deed} {c : List Nat} (h : GoodK t.length c) : ∀ x ∈ endsF t 0 c, x ≤ t.length := by
  intro x hx
  rcases List.mem_cons.mp hx with rfl | hx
  · exact Nat.zero_le _
  · rcases List.mem_append.mp hx with hx | hx
    · exact Nat.le_of_lt (h.2 x hx).2
    · rw [List.mem_singleton.mp hx]
      exact Nat.le_refl _
def encPs (ps : List (List Deed)) : List PyData := ps.map encT
theorem zipD_map {α β : Type} (f : α → PyData) (g : β → PyData) (xs : List α) (ys : List β) : zipD (xs.map f) (ys.map g) = (xs.zip ys).map fun p => .tuple [f p.1, g p.2] := by
  unfold zipD
  rw [List.zip_map, List.map_map]
  rfl
theorem zipWith_zip {α β γ : Type} (f : α → β → γ) : ∀ (xs : List α) (ys : List β), List.zipWith f xs ys = (xs.zip ys).map fun p => f p.1 p.2
  | [], _ => rfl
  | _ :: _, [] => rfl
  | x :: xs, y :: ys => by
    show f x y :: List.zipWith f xs ys = _
    rw [zipWith_zip f xs ys]
    rfl
abbrev pieces (t : List Deed) (c : List Nat) : List (List Deed) := piecesF t 0 c
theorem zip_C (T : List (List Deed)) (C : List (List Nat)) : zipD (T.map encT) (C.map encK) = (T.zip C).map fun p => .tuple [encT p.1, encK p.2] := zipD_map _ _ _ _
theorem zip_good {T : List (List Deed)} {C : List (List Nat)} (h : GoodC T C) : ∀ p ∈ T.zip C, p.1 ∈ T ∧ p.2 ∈ C ∧ GoodK p.1.length p.2 := by
  induction h with
  | nil => intro p hp; cases hp
  | @cons t c ts cs h1 h2 ih =>
    intro p hp
    rcases List.mem_cons.mp (show p ∈ (t, c) :: ts.zip cs from hp) with rfl | hp
    · exact ⟨by simp, by simp, h1⟩
    · obtain ⟨a, b, c⟩ := ih p hp
      exact ⟨by simp [a], by simp [b], c⟩
def piecesAll (T : List (List Deed)) (C : List (List Nat)) : List (List (List Deed)) := (T.zip C).map fun p => pieces p.1 p.2
def encPT (ps : List (List (List Deed))) : PyData := .tuple (ps.map fun p => .tuple (encPs p))
def encPL (ps : List (List (List Deed))) : PyData := .list (ps.map fun p => .list (encPs p))
end K66

namespace K66
open PySem D3 L2 Ord Cut
/-! ### the law's pieces -/
theorem piecesAll_get {T : List (List Deed)} {C : List (List Nat)} (h : GoodC T C) {k : Nat} {t : List Deed} (ht : T[k]? = some t) : ∃ c, C[k]? = some c ∧ GoodK t.length c ∧ (piecesAll T C)[k]? = some (pieces t c) := by
  have hl : T.length = C.length := h.length
  have hk := (List.getElem?_eq_some_iff.mp ht).1
  have hc : C[k]? = some C[k] := List.getElem?_eq_getElem (by omega)
  have hz : (T.zip C)[k]? = some (t, C[k]) := by
    rw [List.getElem?_zip_eq_some]
    exact ⟨ht, hc⟩
  obtain ⟨_, _, g⟩ := zip_good h _ (List.mem_of_getElem? hz)
  exact ⟨_, hc, g, by unfold piecesAll; rw [List.getElem?_map, hz]; rfl⟩
theorem piecesAll_len {T : List (List Deed)} {C : List (List Nat)} (h : GoodC T C) : (piecesAll T C).length = T.length := by
  have hl : T.length = C.length := h.length
  unfold piecesAll
  rw [List.length_map, List.length_zip]
  omega
def encPl (p : List (List Deed)) : PyData := .list (encPs p)
def InvP (T : List (List Deed)) (C : List (List Nat)) (k : Nat) (ρ : Ev) : Prop := ∃ (x3 x4 : Slot), ρ = [.val (encTs T), .val (encC C), .own (((piecesAll T C).take k).map encPl), x3, x4, .nil]
theorem law_pieces_ok (T : List (List Deed)) (C : List (List Nat)) (hT : GoodTs T) (hC : GoodC T C) : fn__law_pieces [encTs T, encC C] = some (.ok (encPL (piecesAll T C))) := by
  have z := z24
  obtain ⟨h1, h4, hg⟩ := id hT
  have q1 : sm62 (T.length : Int) = true := sm62_nat (by omega)
  refine runV_of rfl ?_
  simp [sem__law_pieces, startE]
  rw [show encTs T = .tuple (T.map encT) from rfl]
  simp [q1]
  refine wr_forX (xs := List.range T.length) (g := fun i : Nat => .int (0 + (i : Nat))) (InvP T C) ?_ ⟨.nil, .nil, by simp; rfl⟩ ?_
  · rintro k x ρ hx ⟨x3, x4, rfl⟩
    obtain ⟨hk, rfl⟩ : k < T.length ∧ k = x := by
      obtain ⟨a, b⟩ := List.getElem?_eq_some_iff.mp hx
      rw [List.length_range] at a
      exact ⟨a, by simpa using b⟩
    obtain ⟨t, ht⟩ : ∃ t, T[k]? = some t := ⟨_, List.getElem?_eq_getElem hk⟩
    obtain ⟨c, hc, g, hp⟩ := piecesAll_get hC ht
    have hl5 := (hg t (List.mem_of_getElem? ht)).2.1
    have hs := g.short
    have a1 : atI (T.map encT) (k : Int) = some (encT t) := D3.atI_nat (by rw [List.getElem?_map, ht]; rfl)
    have a2 : atI (C.map encK) (k : Int) = some (encK c) := D3.atI_nat (by rw [List.getElem?_map, hc]; rfl)
    have he : PyData.int 0 :: (c.map (fun k : Nat => PyData.int k) ++ [PyData.int t.length]) = (endsF t 0 c).map encN := by simp [endsF]
    have c1 : c.length + 1 ≤ sizeLine := by omega
    have c2 : c.length + 1 + 1 ≤ sizeLine := by omega
    have c3 : (1 : Nat) ≤ sizeLine := by omega
    have c4 : 1 + c.length ≤ sizeLine := by omega
    have c5 : 1 + c.length + 1 ≤ sizeLine := by omega
    have q2 : sm62 ((c.length : Int) + 1 + 1) = true := sm62_of' (by omega) (by omega)
    have q3 : sm62 1 = true := rfl
    have a3 : encTs T = .tuple (T.map encT) := rfl
    simp [gNm, encC, a1, a2, a3, encK, encT, catD, c1, c2, c3, c4, c5, q2, q3]
    have el : (endsF t 0 c).length = c.length + 2 := by simp [endsF]
    have ee : ∀ i, i < c.length + 2 → (endsF t 0 c)[i]? = some ((endsF t 0 c)[i]?.getD 0) := fun i hi => by rw [List.getElem?_eq_getElem (by omega)]; rfl
    have hn : (1 : Int) + (c.length + 1 : Nat) = (c.length : Int) + 1 + 1 := by omega
    have hr : rgD 1 ((c.length : Int) + 1 + 1) = (List.range (c.length + 1)).map fun i : Nat => PyData.int (1 + (i : Nat)) := by
      unfold rgD
      rw [show ((c.length : Int) + 1 + 1 - 1).toNat = c.length + 1 by omega]
    rw [hr, he]
    refine wr_lcXM (fun i => encT (sl t ((endsF t 0 c)[0 + i]?.getD 0) ((endsF t 0 c)[0 + i + 1]?.getD 0))) rfl (by rw [List.length_range]; omega) (fun i hi => ?_) ?_
    · have hi' : i < c.length + 1 := by simpa using hi
      have b1 := ee i (by omega)
      have b2 := ee (i + 1) (by omega)
      have l1 := ends_le g _ (List.mem_of_getElem? b1)
      have l2 := ends_le g _ (List.mem_of_getElem? b2)
      have e := cutD_nat encDp t _ _ l1 l2
      have s1 : (1 : Int) + (i : Int) - 1 = i := by omega
      have s2 : (1 : Int) + (i : Int) = ((i + 1 : Nat) : Int) := by omega
      have f1 : atI ((endsF t 0 c).map encN) (i : Int) = some (encN ((endsF t 0 c)[i]?.getD 0)) := D3.atI_nat (by rw [List.getElem?_map, b1]; rfl)
      have f2 : atI ((endsF t 0 c).map encN) ((i + 1 : Nat) : Int) = some (encN ((endsF t 0 c)[i + 1]?.getD 0)) := D3.atI_nat (by rw [List.getElem?_map, b2]; rfl)
      rw [← s2] at f2
      simp [gNm, wipeE, a1, s1, f1, f2, encT, e]
    · have e := pieces_ix t (fun a b => encT (sl t a b)) encT (fun a b _ _ => rfl) (fun i => (endsF t 0 c)[i]?.getD 0) 0 c (Nat.zero_le _) (fun k hk => Nat.le_of_lt (g.2 k hk).2) 0 fun i hi => by rw [Nat.zero_add]; exact ee i hi
      rw [e]
      have hm : min k (piecesAll T C).length < sizeLine := by omega
      simp [hm]
      refine ⟨.val (.int k), .own ((endsF t 0 c).map encN), ?_⟩
      rw [show ((piecesAll T C).take (k + 1)).map encPl = List.take k (List.map encPl (piecesAll T C)) ++ [encPl (pieces t c)] by rw [List.take_succ, hp, List.map_append, List.map_take]; rfl]
      rfl
  · rintro ρ' ⟨x3, x4, rfl⟩
    have e := piecesAll_len hC
    simp [encPL, encPl, ← e]
end K66

namespace K66
open PySem D3 L2 Ord Cut
/-! ### touching -/
def touchD (a b : Deed) : Bool := a.2 == b.2 && (a.1 || b.1)
def touch (one two : List Deed) : Bool := one.any fun a => two.any fun b => touchD a b
theorem eqv_op (w : Bool) : PyData.eqv (.str (opS w)) (.str "w") = w := by cases w <;> rfl
theorem eq_nat (a b : Nat) : ((a : Int) == (b : Int)) = (a == b) := by
  by_cases h : a = b
  · simp [h]
  · rw [beq_eq_false_iff_ne.mpr h, beq_eq_false_iff_ne.mpr (by omega)]
theorem do_touch_ok (a b : Deed) : fn_do_touch [encDp a, encDp b] = some (.ok (.bool (touchD a b))) := by
  obtain ⟨w, x⟩ := a
  obtain ⟨w', x'⟩ := b
  have z2 : 2 ≤ sizeLine := by decide
  have e : inA (.str "w") (.tuple [.str (opS w), .str (opS w')]) = some (.bool (w || w')) := by cases w <;> cases w' <;> rfl
  refine runV_of rfl ?_
  simp [sem_do_touch, startE, encDp, encD, atI, ixN, eq_nat, touchD]
  by_cases h : x = x'
  · simp [h, z2, e, atI, ixN]
  · have h' : (x == x') = false := beq_eq_false_iff_ne.mpr h
    simp [h', h]
theorem shaped_str {x : Str} (h : PyData.strOk x = true) : SeqAt.shaped (.str x) = true := by
  unfold SeqAt.shaped PyData.canLay0 PyData.depth
  rw [h]
  rfl
theorem eqD_op (w : Bool) : eqD (.str (opS w)) (.str "w") = some (.bool w) := by
  have e1 : SeqAt.shaped (.str (opS w)) = true := by cases w <;> exact shaped_str (by decide +kernel)
  have e2 : SeqAt.shaped (.str "w") = true := shaped_str (by decide +kernel)
  rw [eqD_of e1 e2, eqv_op]
theorem any_flat {α β : Type} (f : α → β → Bool) (l : List α) (m : List β) : anyD [.list (l.flatMap fun a => m.map fun b => .bool (f a b))] = some (.bool (l.any fun a => m.any (f a))) := by
  have e : (l.flatMap fun a => m.map fun b => PyData.bool (f a b)) = (l.flatMap fun a => m.map (f a)).map fun x => .bool x := by
    rw [List.map_flatMap]
    simp [Function.comp_def]
  rw [e]
  have := anyD_map (fun x : Bool => x) (l.flatMap fun a => m.map (f a))
  rw [this]
  congr 2
  simp [List.any_flatMap, List.any_map, Function.comp_def]
theorem rows_touch_ok (one two : List Deed) (h1 : one.length ≤ 1000) (h2 : two.length ≤ 1000) : fn_rows_touch [encT one, encT two] = some (.ok (.bool (touch one two))) := by
  have z := z24
  refine runV_of rfl ?_
  simp [sem_rows_touch, startE]
  rw [encT]
  simp
  refine wr_lc2X (fun a => two.map fun b => .bool (touchD a b)) rfl ?_ (fun a ha => ?_) ?_
  · have : ∀ l : List Deed, (l.flatMap fun a => two.map fun b => PyData.bool (touchD a b)).length ≤ l.length * 1000 := by
      intro l
      induction l with
      | nil => simp
      | cons a l ih => rw [List.flatMap_cons, List.length_append, List.length_map, List.length_cons]; omega
    have := this one
    omega
  · simp [gNm, wipeE, TurnY, encT]
    refine wr_innXM (fun b => .bool (touchD a b)) (fun b hb => ?_) ?_
    · simp [gNm, wipeE, do_touch_ok]
    · simp [wipeE]
  · simp [any_flat, touch]
theorem law_touch_ok (one two : List Deed) (h1 : one.length ≤ 1000) (h2 : two.length ≤ 1000) : fn__law_touch [encT one, encT two] = some (.ok (.bool (touch one two))) := by
  have z := z24
  refine runV_of rfl ?_
  simp [sem__law_touch, startE]
  rw [show encT two = .tuple (two.map encDp) from rfl]
  simp
  refine wr_lcXM (fun b => .bool (one.any fun a => touchD a b)) rfl (by omega) (fun b hb => ?_) ?_
  · simp [gNm, wipeE]
    rw [show encT one = .tuple (one.map encDp) from rfl]
    simp
    refine wr_lcXM (fun a => .bool (touchD a b)) rfl (by omega) (fun a ha => ?_) ?_
    · obtain ⟨w, x⟩ := a
      obtain ⟨w', x'⟩ := b
      simp [gNm, wipeE, encDp, encD, atI, ixN, eq_nat, touchD, eqD_op]
      by_cases h : x = x'
      · cases w <;> simp [h, atI, ixN, eqD_op, eq_nat]
      · have h' : (x == x') = false := beq_eq_false_iff_ne.mpr h
        simp [h, h']
    · simp [wipeE]
  · simp [touch]
    rw [Bool.eq_iff_iff]
    simp only [List.any_eq_true]
    exact ⟨fun ⟨b, hb, a, ha, e⟩ => ⟨a, ha, b, hb, e⟩, fun ⟨a, ha, b, hb, e⟩ => ⟨b, hb, a, ha, e⟩⟩
end K66

namespace K66
open PySem D3 L2 Ord Cut
/-! ### what is done, in order -/
def pieceAt (PA : List (List (List Deed))) (t i : Nat) : List Deed := (PA[t]?.getD [])[i]?.getD []
def stepAt (PA : List (List (List Deed))) (R : List Nat) (j : Nat) : Nat × List Deed := (R[j]?.getD 0, pieceAt PA (R[j]?.getD 0) ((R.take j).count (R[j]?.getD 0)))
def doneU (PA : List (List (List Deed))) (R : List Nat) (k : Nat) : List (Nat × List Deed) := (List.range k).map (stepAt PA R)
def encDn (d : Nat × List Deed) : PyData := .tuple [encN d.1, encT d.2]
theorem doneU_succ (PA : List (List (List Deed))) (R : List Nat) (k : Nat) {t : Nat} (h : R[k]? = some t) : doneU PA R (k + 1) = doneU PA R k ++ [(t, pieceAt PA t ((R.take k).count t))] := by
  unfold doneU
  rw [List.range_succ, List.map_append]
  simp [stepAt, h]
theorem doneU_fst (PA : List (List (List Deed))) (R : List Nat) : ∀ k, k ≤ R.length → (doneU PA R k).map (·.1) = R.take k
  | 0, _ => rfl
  | k + 1, h => by
    have e : R[k]? = some R[k] := List.getElem?_eq_getElem h
    rw [doneU_succ PA R k e, List.map_append, doneU_fst PA R k (by omega), List.take_succ, e]
    rfl
theorem doneU_len (PA : List (List (List Deed))) (R : List Nat) (k : Nat) : (doneU PA R k).length = k := by
  unfold doneU
  rw [List.length_map, List.length_range]
theorem doneU_count (PA : List (List (List Deed))) (R : List Nat) (k : Nat) (h : k ≤ R.length) (t : Nat) : ((doneU PA R k).filterMap fun d => if d.1 = t then some (encN d.1) else none).length = (R.take k).count t := by
  rw [← doneU_fst PA R k h]
  generalize doneU PA R k = l
  induction l with
  | nil => rfl
  | cons d l ih =>
    rw [List.filterMap_cons, List.map_cons, List.count_cons, ← ih]
    by_cases q : d.1 = t
    · simp [q]
    · simp [q]
theorem sl_len {α : Type} (t : List α) (a b : Nat) : (sl t a b).length ≤ t.length := by
  unfold sl
  rw [List.length_take, List.length_drop]
  omega
theorem pieces_len_le {α : Type} (t : List α) : ∀ (a : Nat) (c : List Nat), ∀ p ∈ piecesF t a c, p.length ≤ t.length
  | a, [], p, h => by
    rw [List.mem_singleton.mp h]
    exact sl_len _ _ _
  | a, k :: c, p, h => by
    rcases List.mem_cons.mp h with rfl | h
    · exact sl_len _ _ _
    · exact pieces_len_le t k c p h
/-- where a run stands -/
theorem run_at {T : List (List Deed)} {C : List (List Nat)} (hT : GoodTs T) (hC : GoodC T C) {R : List Nat} (hR : GoodR C R) {k t : Nat} (h : R[k]? = some t) : ∃ ps, (piecesAll T C)[t]? = some ps ∧ ps[(R.take k).count t]? = some (pieceAt (piecesAll T C) t ((R.take k).count t)) ∧ (pieceAt (piecesAll T C) t ((R.take k).count t)).length ≤ 3 ∧ t < T.length := by
  have hl : T.length = C.length := hC.length
  have ht : t < C.length := hR.2 t (List.mem_of_getElem? h)
  have et : T[t]? = some T[t] := List.getElem?_eq_getElem (by omega)
  obtain ⟨c, hc, g, hp⟩ := piecesAll_get hC et
  have hcnt := hR.1 t c hc
  have hk := (List.getElem?_eq_some_iff.mp h).1
  have lt : (R.take k).count t < c.length + 1 := by
    rw [← hcnt]
    have e : R = R.take k ++ R.drop k := (List.take_append_drop k R).symm
    have e2 : R.drop k = t :: R.drop (k + 1) := by
      rw [List.drop_eq_getElem_cons hk]
      congr 1
      exact (List.getElem?_eq_some_iff.mp h).2
    calc (R.take k).count t < (R.take k).count t + (R.drop k).count t := by rw [e2, List.count_cons_self]; omega
      _ = R.count t := by rw [← List.count_append, ← e]
  have lp : (pieces T[t] c).length = c.length + 1 := piecesF_len _ _ _
  have e3 : (pieces T[t] c)[(R.take k).count t]? = some (pieces T[t] c)[(R.take k).count t] := List.getElem?_eq_getElem (by omega)
  have e4 : pieceAt (piecesAll T C) t ((R.take k).count t) = (pieces T[t] c)[(R.take k).count t] := by
    unfold pieceAt
    rw [hp]
    show ((pieces T[t] c)[(R.take k).count t]?).getD [] = _
    rw [e3]
    rfl
  refine ⟨_, hp, by rw [e4]; exact e3, ?_, by omega⟩
  rw [e4]
  have m := pieces_len_le T[t] 0 c _ (List.mem_of_getElem? e3)
  have := (hT.2.2 T[t] (List.mem_of_getElem? et)).2.1
  omega
def pairAt (x y : Nat × List Deed) : Option (Nat × Nat) := if (!(y.1 == x.1)) && touch y.2 x.2 then some (y.1, x.1) else none
def pairsAt (D : List (Nat × List Deed)) (k : Nat) : List (Nat × Nat) := match D[k]? with
  | some x => (D.take k).filterMap (pairAt x)
  | none => []
def pairsU (D : List (Nat × List Deed)) (k : Nat) : List (Nat × Nat) := (List.range k).flatMap (pairsAt D)
def encPr (p : Nat × Nat) : PyData := .tuple [encN p.1, encN p.2]
theorem pairsU_succ (D : List (Nat × List Deed)) (k : Nat) {x : Nat × List Deed} (h : D[k]? = some x) : pairsU D (k + 1) = pairsU D k ++ (D.take k).filterMap (pairAt x) := by
  unfold pairsU
  rw [List.range_succ, List.flatMap_append]
  simp [pairsAt, h]
theorem pairsU_len (D : List (Nat × List Deed)) : ∀ k, (pairsU D k).length ≤ k * D.length
  | 0 => by simp [pairsU]
  | k + 1 => by
    have ih := pairsU_len D k
    unfold pairsU at ih ⊢
    rw [List.range_succ, List.flatMap_append, List.length_append, Nat.succ_mul]
    have : ([k].flatMap (pairsAt D)).length ≤ D.length := by
      simp only [List.flatMap_cons, List.flatMap_nil, List.append_nil]
      unfold pairsAt
      split
      · exact Nat.le_trans (List.length_filterMap_le _ _) (by rw [List.length_take]; omega)
      · exact Nat.zero_le _
    omega
abbrev optS : Option PyData → Slot
  | none => .nil
  | some d => .val d
/-- a slot is free or holds a value -/
def Sv (x : Slot) : Prop := x = .nil ∨ ∃ d, x = .val d
theorem Sv.nil : Sv .nil := .inl rfl
theorem Sv.val {d : PyData} : Sv (.val d) := .inr ⟨d, rfl⟩
theorem Sv.no {x : Slot} (h : Sv x) : x.isO = false := by
  rcases h with rfl | ⟨d, rfl⟩ <;> rfl
end K66

namespace K66
open PySem D3 L2 Ord Cut
theorem enum_D {α : Type} (f : α → PyData) (D : List α) : enumD (D.map f) = D.zipIdx.map fun p => .tuple [encN p.2, f p.1] := by
  unfold enumD
  rw [List.zipIdx_map, List.map_map]
  rfl
theorem cutD_to {α β : Type} (f : α → β) (t : List α) (k : Nat) : cutD (t.map f) none (some (k : Int)) = (t.take k).map f := by
  unfold cutD
  rw [HT.sIx_nat, HT.sIx_none, List.drop_zero, Nat.sub_zero, List.length_map, ← List.map_take]
  congr 1
  rw [List.take_eq_take_iff]
  omega
theorem doneU_small {T : List (List Deed)} {C : List (List Nat)} (hT : GoodTs T) (hC : GoodC T C) {R : List Nat} (hR : GoodR C R) : ∀ d ∈ doneU (piecesAll T C) R R.length, d.2.length ≤ 3 := by
  intro d hd
  obtain ⟨j, hj, rfl⟩ := List.mem_map.mp hd
  have e : R[j]? = some R[j]! := by
    have := List.mem_range.mp hj
    rw [List.getElem?_eq_getElem this, List.getElem!_eq_getElem?_getD, List.getElem?_eq_getElem this]
    rfl
  obtain ⟨ps, e1, e2, e3, e4⟩ := run_at hT hC hR e
  unfold stepAt
  rw [e]
  exact e3
end K66

namespace K66
open PySem D3 L2 Ord Cut
/-! ### order_by -/
theorem inA_ints (x : Nat) (l : List Nat) : inA (encN x) (.list (l.map encN)) = some (.bool (l.contains x)) := by
  have e1 : SeqAt.shaped (encN x) = true := by
    unfold SeqAt.shaped PyData.canLay0 PyData.depth
    rfl
  have e : inD (encN x) (.list (l.map encN)) = some (.bool (l.contains x)) := by
    show (if (SeqAt.shaped (encN x) && SeqAt.shaped (.list (l.map encN))) = true then some (PyData.bool ((l.map encN).any fun z => z.eqv (encN x))) else none) = _
    rw [e1, shaped_ints]
    simp only [Bool.and_self, if_true, Option.some.injEq, PyData.bool.injEq]
    induction l with
    | nil => rfl
    | cons y ys ih =>
      rw [List.map_cons, List.any_cons, eqv_int, ih, List.contains_cons]
      congr 1
      by_cases h : x = y
      · simp [h]
      · rw [decide_eq_false (fun q => h q.symm), beq_eq_false_iff_ne.mpr h]
  unfold inA orF2
  rw [e]
theorem rg_range (n : Nat) : rgD 0 (n : Int) = (List.range n).map encN := by
  unfold rgD
  rw [show ((n : Int) - 0).toNat = n by omega]
  refine List.map_congr_left fun i _ => ?_
  show PyData.int (0 + (i : Int)) = .int i
  rw [Int.zero_add]
/-- the pairs of a run -/
abbrev prs (T : List (List Deed)) (C : List (List Nat)) (R : List Nat) : List (Nat × Nat) := pairsU (doneU (piecesAll T C) R R.length) R.length
theorem prs_len (T : List (List Deed)) (C : List (List Nat)) (R : List Nat) (hl : R.length ≤ 1000) : (prs T C R).length ≤ 1000000 := by
  have h := pairsU_len (doneU (piecesAll T C) R R.length) R.length
  rw [doneU_len] at h
  have : R.length * R.length ≤ 1000 * 1000 := Nat.mul_le_mul hl hl
  unfold prs
  omega
end K66

namespace K66
open PySem D3 L2 Ord Cut
def seenL (R : List Nat) (n k : Nat) : List PyData := (List.range n).map fun t => encN ((R.take k).count t)
def L1 (T : List (List Deed)) (C : List (List Nat)) (R : List Nat) (k : Nat) (ρ : Ev) : Prop := ∃ x6 : Slot, Sv x6 ∧ ρ = [.val (encTs T), .val (encC C), .val (encR R), .val (encPL (piecesAll T C)), .own (seenL R T.length k), .own ((doneU (piecesAll T C) R k).map encDn), x6, .nil, .nil, .nil, .nil, .nil, .nil, .nil]
def L2' (T : List (List Deed)) (C : List (List Nat)) (R : List Nat) (D : List (Nat × List Deed)) (k : Nat) (ρ : Ev) : Prop := ∃ x6 x8 : Slot, Sv x6 ∧ ρ = [.val (encTs T), .val (encC C), .val (encR R), .val (encPL (piecesAll T C)), .own (seenL R T.length R.length), .own (D.map encDn), x6, .own ((pairsU D k).map encPr), x8, .nil, .nil, .nil, .nil, .nil]
theorem repD_nat {xs : List PyData} {n : Nat} (h : xs.length * n ≤ sizeLine) (hn : n < 1000000) : repD (.list xs) (.int n) = some (List.replicate n xs).flatten := by
  simp only [repD, Int.toNat_natCast]
  rw [if_pos]
  simp only [Bool.and_eq_true, decide_eq_true_eq]
  refine ⟨⟨?_, ?_⟩, h⟩ <;> omega
theorem seenL_succ (R : List Nat) (n k t : Nat) (h : R[k]? = some t) (ht : t < n) : (seenL R n k).set t (encN ((R.take k).count t + 1)) = seenL R n (k + 1) := by
  unfold seenL
  apply List.ext_getElem?
  intro j
  by_cases hj : j < n
  · have cnt : (R.take (k + 1)).count j = (R.take k).count j + if t = j then 1 else 0 := by
      rw [List.take_succ, h, List.count_append]
      show _ + [t].count j = _
      by_cases q : t = j
      · subst q; simp
      · rw [if_neg q, List.count_eq_zero_of_not_mem (a := j) (l := [t]) (by simpa using fun e : j = t => q e.symm)]
    rw [List.getElem?_set]
    by_cases q : t = j
    · subst q
      simp [ht, cnt]
    · rw [if_neg q]
      simp [hj, cnt, q]
  · have e1 : ((List.range n).map fun t => encN ((R.take (k + 1)).count t))[j]? = none := List.getElem?_eq_none (by rw [List.length_map, List.length_range]; omega)
    rw [e1]
    exact List.getElem?_eq_none (by rw [List.length_set, List.length_map, List.length_range]; omega)
def io2b : M Fl := (sSetL 7 (eBinL catD (eVar 7) (eFrz (eLc (iRg1 (aCons (eVar 8) aNil)) (gNm 11) (tAn (tBin neD (eBin ixD (eIxB ixD 5 (eLook 11)) (eC (.int 0))) (eBin ixD (eIxB ixD 5 (eLook 8)) (eC (.int 0)))) (tTru (eFn fn__law_touch (aCons (eBin ixD (eIxB ixD 5 (eLook 11)) (eC (.int 1))) (aCons (eBin ixD (eIxB ixD 5 (eLook 8)) (eC (.int 1))) aNil))))) (eTup (aCons (eBin ixD (eIxB ixD 5 (eLook 11)) (eC (.int 0))) (aCons (eBin ixD (eIxB ixD 5 (eLook 8)) (eC (.int 0))) aNil))) [11]))))
theorem at0 (x y : PyData) : atI [x, y] 0 = some x := D3.atI_nat (i := 0) rfl
theorem at1 (x y : PyData) : atI [x, y] 1 = some y := D3.atI_nat (i := 1) rfl
theorem io2t {D : List (Nat × List Deed)} {k i u v : Nat} {one two : List Deed} (hy : D[k]? = some (u, two)) (hv : D[i]? = some (v, one)) (hone : one.length ≤ 3) (htwo : two.length ≤ 3) (x0 x1 x2 x3 x4 x6 x7 x9 x10 x12 x13 : Slot) : TurnX (tAn (tBin neD (eBin ixD (eIxB ixD 5 (eLook 11)) (eC (.int 0))) (eBin ixD (eIxB ixD 5 (eLook 8)) (eC (.int 0)))) (tTru (eFn fn__law_touch (aCons (eBin ixD (eIxB ixD 5 (eLook 11)) (eC (.int 1))) (aCons (eBin ixD (eIxB ixD 5 (eLook 8)) (eC (.int 1))) aNil))))) (eTup (aCons (eBin ixD (eIxB ixD 5 (eLook 11)) (eC (.int 0))) (aCons (eBin ixD (eIxB ixD 5 (eLook 8)) (eC (.int 0))) aNil))) [11] [x0, x1, x2, x3, x4, .own (D.map encDn), x6, x7, .val (encN k), x9, x10, .nil, x12, x13] ((pairAt (u, two) (v, one)).map encPr) [x0, x1, x2, x3, x4, .own (D.map encDn), x6, x7, .val (encN k), x9, x10, .val (encN i), x12, x13] := by
  have e := law_touch_ok one two (by omega) (by omega)
  have z2 : 2 ≤ sizeLine := by decide
  have b1 : atI (D.map encDn) (i : Int) = some (encDn (v, one)) := D3.atI_nat (by rw [List.getElem?_map, hv]; rfl)
  have b2 : atI (D.map encDn) (k : Int) = some (encDn (u, two)) := D3.atI_nat (by rw [List.getElem?_map, hy]; rfl)
  by_cases q : v = u
  · simp [wipeE, TurnX, b1, b2, at0, at1, encDn, eq_nat, q, pairAt]
  · have q' : (v == u) = false := beq_eq_false_iff_ne.mpr q
    have pa : pairAt (u, two) (v, one) = if touch one two = true then some (v, u) else none := by simp [pairAt, q']
    rw [pa]
    cases ht : touch one two
    · rw [ht] at e
      simp [wipeE, TurnX, b1, b2, at0, at1, encDn, eq_nat, q', e]
    · rw [ht] at e
      simp [wipeE, TurnX, b1, b2, at0, at1, encDn, eq_nat, q', e, z2, encPr]
theorem io2 (T : List (List Deed)) (C : List (List Nat)) (R : List Nat) (hl : R.length ≤ 1000) (D : List (Nat × List Deed)) (hDl : D.length = R.length) (hsm : ∀ d ∈ D, d.2.length ≤ 3) (QF : Rs Fl → Prop) (ρ : Ev) (h0 : L2' T C R D 0 ρ) (q : ∀ ρ', L2' T C R D R.length ρ' → QF (.ok .nx ρ')) : wr (forD (gNm 8) io2b ((List.range R.length).map encN)) QF ρ := by
  have z := z24
  refine wr_forX (L2' T C R D) ?_ h0 (by rw [List.length_range]; exact q)
  rintro k x ρ hk ⟨x6, x8, hx, rfl⟩
  obtain ⟨hkl, rfl⟩ : k < R.length ∧ k = x := by
    obtain ⟨a, b⟩ := List.getElem?_eq_some_iff.mp hk
    rw [List.length_range] at a
    exact ⟨a, by simpa using b⟩
  obtain ⟨⟨u, two⟩, hy⟩ : ∃ y, D[k]? = some y := ⟨_, List.getElem?_eq_getElem (by omega)⟩
  have htwo : two.length ≤ 3 := hsm _ (List.mem_of_getElem? hy)
  have q2 : sm62 (k : Int) = true := sm62_of' (by omega) (by omega)
  simp only [gNm, ex1_some]
  unfold io2b
  simp only [List.set_cons_succ, List.set_cons_zero]
  simp [q2]
  rw [rg_range]
  refine wr_lcX (fun i => (pairAt (u, two) (D[i]?.getD (0, []))).map encPr) (by simp [noOwn]; rfl) (by rw [List.length_range]; omega) (fun i hi => ?_) ?_
  · have hi' : i < k := by simpa using hi
    obtain ⟨⟨v, one⟩, hv⟩ : ∃ y, D[i]? = some y := ⟨_, List.getElem?_eq_getElem (by omega)⟩
    rw [hv]
    exact ⟨_, rfl, io2t hy hv (hsm _ (List.mem_of_getElem? hv)) htwo _ _ _ _ _ _ _ _ _ _ _⟩
  · have ef : (List.range k).filterMap (fun i => (pairAt (u, two) (D[i]?.getD (0, []))).map encPr) = ((D.take k).filterMap (pairAt (u, two))).map encPr := by
      have e2 : D.take k = (List.range k).map fun i => D[i]?.getD (0, []) := by
        apply List.ext_getElem?
        intro j
        rw [List.getElem?_take, List.getElem?_map]
        by_cases hj : j < k
        · rw [if_pos hj, List.getElem?_range hj, List.getElem?_eq_getElem (by omega)]
          simp
          rw [List.getElem?_eq_getElem (by omega)]
          rfl
        · rw [if_neg hj, List.getElem?_eq_none (by rw [List.length_range]; omega)]
          rfl
      rw [e2, List.filterMap_map, List.map_filterMap]
      rfl
    rw [ef]
    have pl := pairsU_len D k
    have b1 : k * D.length ≤ 1000 * 1000 := Nat.mul_le_mul (by omega) (by omega)
    have b2 : ((D.take k).filterMap (pairAt (u, two))).length ≤ D.length := Nat.le_trans (List.length_filterMap_le _ _) (by rw [List.length_take]; omega)
    simp [catD]
    rw [if_pos (by omega)]
    simp
    refine ⟨x6, .val (encN k), hx, ?_⟩
    rw [pairsU_succ D k hy, List.map_append]
/-- a list of one's own, walked or not yet -/
def Ls (x : Slot) (ds : List PyData) : Prop := x = .own ds ∨ x = .val (.list ds)
theorem Ls.own {ds : List PyData} : Ls (.own ds) ds := .inl rfl
theorem Ls.val {ds : List PyData} : Ls (.val (.list ds)) ds := .inr rfl
def io3b : M Fl := (sSetL 9 (eLc (iSeq (eVar 9)) (gNm 6) (tTru (eCall anyD (aOne (eFrz (eLc (iSeq (eVar 7)) (gTp 2 (gCn (gNm 12) (gCn (gNm 13) gN0))) (ret true) (eAn (eBin eqD (eVar 12) (eLook 6)) (eBin inA (eVar 13) (eLook 9))) [12, 13]))))) (eVar 6) [6]))
def W3 (x0 x1 x2 x3 x4 x5 x8 x9 x10 x11 : Slot) (P : List (Nat × Nat)) (x6 : Slot) (ρ : Ev) : Prop := ∃ x7 : Slot, Ls x7 (P.map encPr) ∧ ρ = [x0, x1, x2, x3, x4, x5, x6, x7, x8, x9, x10, x11, .nil, .nil]
theorem io3i (P : List (Nat × Nat)) (left : List Nat) (t : Nat) (hP : P.length ≤ 1000000) (x0 x1 x2 x3 x4 x5 x8 x10 x11 : Slot) (ρ : Ev) (h : W3 x0 x1 x2 x3 x4 x5 x8 (.val (.list (left.map encN))) x10 x11 P (.val (encN t)) ρ) (QB : Rs Bool → Prop) (q : ∀ ρ', W3 x0 x1 x2 x3 x4 x5 x8 (.val (.list (left.map encN))) x10 x11 P (.val (encN t)) ρ' → QB (.ok (hasPost P left t) ρ')) :
    wr (tTru (eCall anyD (aOne (eFrz (eLc (iSeq (eVar 7)) (gTp 2 (gCn (gNm 12) (gCn (gNm 13) gN0))) (ret true) (eAn (eBin eqD (eVar 12) (eLook 6)) (eBin inA (eVar 13) (eLook 9))) [12, 13]))))) QB ρ := by
  have z := z24
  have q2 : (P.any fun p => p.1 == t && left.contains p.2) = hasPost P left t := rfl
  have key : ∀ ρ, ρ = [x0, x1, x2, x3, x4, x5, .val (encN t), .val (.list (P.map encPr)), x8, .val (.list (left.map encN)), x10, x11, .nil, .nil] → wr (lcD (gTp 2 (gCn (gNm 12) (gCn (gNm 13) gN0))) (D3.ret true) (eAn (eBin eqD (eVar 12) (eLook 6)) (eBin inA (eVar 13) (eLook 9))) [12, 13] (P.map encPr)) (bndK (fun ds => D3.ret (PyData.list ds)) (bndK (fun d => D3.ret [d]) (bndK (fun ds => lft (anyD ds)) (bndK (fun d => lft (truD d)) QB)))) ρ := by
    rintro ρ rfl
    refine wr_lcXM (fun p => .bool (p.1 == t && left.contains p.2)) rfl (by omega) (fun p hp => ?_) ?_
    · obtain ⟨a, b⟩ := p
      have e := inA_ints b left
      by_cases q : a = t
      · simp [gTp, gCn, gNm, gN0, wipeE, encPr, eq_nat, q, e]
      · have q' : (a == t) = false := beq_eq_false_iff_ne.mpr q
        simp [gTp, gCn, gNm, gN0, wipeE, encPr, eq_nat, q, q', e]
    · simp only [bndK_ok, wr_ret, wr_lft, anyD_map, ex1_some, truD_bool, q2]
      exact q _ ⟨_, .val, rfl⟩
  obtain ⟨x7, rfl | rfl, rfl⟩ := h
  · simp [-wr_eLc]
    rw [wr_eLc]
    simp
    exact key _ rfl
  · simp [-wr_eLc]
    rw [wr_eLc]
    simp
    exact key _ rfl
def I3 (x0 x1 x2 x3 x4 x5 x6 x8 : Slot) (P : List (Nat × Nat)) (L : List Nat) (k : Nat) (ρ : Ev) : Prop := ∃ (left : List Nat) (x7 x10 : Slot), Ls x7 (P.map encPr) ∧ (Ranked P L ↔ Ranked P left) ∧ (Ranked P L → left.length ≤ L.length - k) ∧ left.length ≤ 1000 ∧ ρ = [x0, x1, x2, x3, x4, x5, x6, x7, x8, .own (left.map encN), x10, .nil, .nil, .nil]
theorem io3 (P : List (Nat × Nat)) (L : List Nat) (hP : P.length ≤ 1000000) {γ : Type} (g : γ → PyData) (xs : List γ) (hl : xs.length = L.length) (x0 x1 x2 x3 x4 x5 x6 x8 : Slot) (h6 : Sv x6) (QF : Rs Fl → Prop) (ρ : Ev) (h0 : I3 x0 x1 x2 x3 x4 x5 x6 x8 P L 0 ρ) (q : ∀ ρ', I3 x0 x1 x2 x3 x4 x5 x6 x8 P L L.length ρ' → QF (.ok .nx ρ')) : wr (forD (gNm 10) io3b (xs.map g)) QF ρ := by
  have z := z24
  refine wr_forX (I3 x0 x1 x2 x3 x4 x5 x6 x8 P L) ?_ h0 (by rw [hl]; exact q)
  rintro k x ρ hk ⟨left, x7, x10, h7, hr, hle, hlt, rfl⟩
  simp only [gNm, ex1_some]
  unfold io3b
  simp only [List.set_cons_succ, List.set_cons_zero]
  simp
  refine wr_lcW (W3 x0 x1 x2 x3 x4 x5 x8 (.val (.list (left.map encN))) (.val (g x)) .nil P .nil) (fun t => if hasPost P left t = true then some (encN t) else none) (by simp [noOwn, h6.no]) (by omega) (fun t ρ ht hw => ?_) ⟨x7, h7, rfl⟩ ?_
  · obtain ⟨x7, h7, rfl⟩ := hw
    simp only [gNm, ex1_some, List.set_cons_succ, List.set_cons_zero]
    refine io3i P left t hP x0 x1 x2 x3 x4 x5 x8 (.val (g x)) .nil _ ⟨x7, h7, rfl⟩ _ ?_
    rintro ρ' ⟨x7, h7, rfl⟩
    cases hp : hasPost P left t
    · rw [bndK_ok, if_neg (by decide)]
      exact ⟨_, rfl, _, rfl, x7, h7, rfl⟩
    · rw [bndK_ok, if_pos rfl, wr_bnd, wr_eVar]
      exact ⟨_, rfl, _, rfl, x7, h7, rfl⟩
  · rintro ρ' ⟨x7, h7, rfl⟩
    have ef : (left.filterMap fun t => if hasPost P left t = true then some (encN t) else none) = (peel P left).map encN := by
      unfold peel
      generalize hasPost P left = h
      clear hr hle hlt
      induction left with
      | nil => rfl
      | cons y ys ih =>
        rw [List.filterMap_cons, List.filter_cons, ih]
        cases h y <;> rfl
    rw [ef]
    simp [backE]
    refine ⟨peel P left, x7, .val (g x), h7, hr.trans ranked_peel, fun h => ?_, ?_, rfl⟩
    · by_cases hn : left = []
      · subst hn
        exact Nat.zero_le _
      · have := (hr.mp h).peel_shorter hn
        have := hle h
        omega
    · exact Nat.le_trans (List.length_filter_le _ _) hlt
theorem law_in_order_ok (T : List (List Deed)) (C : List (List Nat)) (hT : GoodTs T) (hC : GoodC T C) (R : List Nat) (hR : GoodR C R) (hl : R.length ≤ 1000) : ∃ b, fn__law_in_order [encTs T, encC C, encR R] = some (.ok (.bool b)) ∧ (b = true ↔ Ranked (prs T C R) (List.range T.length)) := by
  have z := z24
  obtain ⟨h1, h4, hg⟩ := id hT
  have a3 : lenD [encTs T] = some (.int T.length) := by
    show some (PyData.int ((T.map encT).length : Nat)) = _
    rw [List.length_map]
  have a5 : encR R = .tuple (R.map encN) := rfl
  have main : wr sem__law_in_order (fun r => ∃ d, outV (some r) = some (.ok d) ∧ ∃ b, d = .bool b ∧ (b = true ↔ Ranked (prs T C R) (List.range T.length))) (startE 14 [encTs T, encC C, encR R]) := by
    have rp : repD (.list [.int 0]) (.int T.length) = some (List.replicate T.length (.int 0)) := by
      have e : (List.replicate T.length [PyData.int 0]).flatten = List.replicate T.length (.int 0) := by simp
      rw [← e]
      exact repD_nat (by simp; omega) (by omega)
    have z1 : 1 ≤ sizeLine := by decide
    simp [z1, sem__law_in_order, startE, law_pieces_ok T C hT hC, a3, rp, setsE, AI.slot, a5]
    refine wr_forX (L1 T C R) ?_ ⟨.nil, .nil, ?_⟩ ?_
    · rintro k t ρ hk ⟨x6, hx, rfl⟩
      obtain ⟨ps, e1, e2, e3, e4⟩ := run_at hT hC hR hk
      have hk' := (List.getElem?_eq_some_iff.mp hk).1
      have a1 : atI ((piecesAll T C).map fun p => PyData.list (encPs p)) (t : Int) = some (encPl ps) := D3.atI_nat (by rw [List.getElem?_map, e1]; rfl)
      have a2 : atI (encPs ps) (((R.take k).count t : Nat) : Int) = some (encT (pieceAt (piecesAll T C) t ((R.take k).count t))) := D3.atI_nat (by unfold encPs; rw [List.getElem?_map, e2]; rfl)
      have a4 : atI (seenL R T.length k) (t : Int) = some (encN ((R.take k).count t)) := D3.atI_nat (by unfold seenL; rw [List.getElem?_map, List.getElem?_range e4]; rfl)
      have z2 : 2 ≤ sizeLine := by decide
      have e6 : k < sizeLine := by omega
      have sl : (seenL R T.length k).length = T.length := by unfold seenL; simp
      have ni : ixN T.length (t : Int) = some t := by simp [ixN, e4]
      simp [gNm, encPL, a1, a2, a4, encPl, z2, doneU_len, e6, sl, ni]
      refine ⟨.val (encN t), .val, ?_⟩
      rw [doneU_succ _ _ _ hk, List.map_append, ← seenL_succ R T.length k t hk e4]
      rfl
    · rw [a5]
      unfold seenL
      simp [doneU]
      exact (List.eq_replicate_iff.mpr ⟨by simp, by simp⟩).symm
    · rintro ρ' ⟨x6, hx, rfl⟩
      have q1 : sm62 (R.length : Int) = true := sm62_of' (by omega) (by omega)
      have hsm := doneU_small hT hC hR
      simp [doneU_len, q1, rg_range]
      have hDl : (doneU (piecesAll T C) R R.length).length = R.length := doneU_len _ _ _
      refine io2 T C R hl _ hDl hsm _ _ ⟨x6, .nil, hx, by simp [pairsU]⟩ ?_
      rintro ρ' ⟨x6, x8, hx, rfl⟩
      have q3 : sm24 (T.length : Int) = true := by
        unfold sm24
        simp only [Bool.and_eq_true, decide_eq_true_eq]
        omega
      have a4 : encTs T = .tuple (T.map encT) := rfl
      have rs : rgS (.int T.length) = some ((List.range T.length).map encN) := by
        rw [← rg_range]
        show (if sm24 (T.length : Int) = true then some (rgD 0 T.length) else none) = _
        rw [if_pos q3]
      simp [a3, rs]
      rw [a4]
      simp
      refine io3 (prs T C R) (List.range T.length) (prs_len T C R hl) encT T (by simp) _ _ _ _ _ _ x6 x8 hx _ _ ⟨List.range T.length, _, .nil, Ls.own, .rfl, fun _ => by simp, by simp; omega, rfl⟩ ?_
      rintro ρ' ⟨left, x7, x10, h7, hr, hle, hlt, rfl⟩
      have el : eqD (.list (left.map encN)) (.list []) = some (.bool (decide (left = []))) := by
        have e0 := eqvAll_ints left []
        rw [eqD_of (shaped_ints left) (show SeqAt.shaped (.list []) = true from shaped_ints [])]
        simp only [PyData.eqv]
        exact congrArg (fun b => some (PyData.bool b)) e0
      have hb : decide (left = []) = true ↔ Ranked (prs T C R) (List.range T.length) := by
        rw [decide_eq_true_iff]
        constructor
        · rintro rfl
          exact hr.mpr ranked_nil
        · intro h
          have := hle h
          exact List.eq_nil_of_length_eq_zero (by omega)
      generalize decide (left = []) = b at el hb
      simp [el]
      cases b
      · exact .inl ⟨rfl, fun h => by cases hb.mpr h⟩
      · exact .inr ⟨rfl, hb.mp rfl⟩
  obtain ⟨d, e, b, rfl, hb⟩ := runV_ex (n := 3) rfl main
  exact ⟨b, e, hb⟩
end K66

namespace K66
open PySem D3 L2 Ord Cut
/-! ### the pieces' text -/
theorem sl_mem {α : Type} {t : List α} {a b : Nat} {x : α} (h : x ∈ sl t a b) : x ∈ t := List.mem_of_mem_drop (List.mem_of_mem_take h)
theorem pieces_mem {α : Type} {t : List α} : ∀ {a : Nat} {c : List Nat}, ∀ p ∈ piecesF t a c, ∀ x ∈ p, x ∈ t
  | a, [], p, h, x, hx => by
    rw [List.mem_singleton.mp h] at hx
    exact sl_mem hx
  | a, k :: c, p, h, x, hx => by
    rcases List.mem_cons.mp h with rfl | h
    · exact sl_mem hx
    · exact pieces_mem p h x hx
theorem shw_op (w : Bool) : Shw 0 1 (.str (opS w)) := by
  cases w <;> exact ⟨by decide +kernel, by decide +kernel, by decide +kernel, by decide +kernel, by decide +kernel, by decide +kernel⟩
theorem shw_deed (p : Deed) (h : p.2 < 5) : Shw 1 4 (encDp p) := by
  refine Shw.tuple (n := 1) (ds := [.str (opS p.1), .int p.2]) fun d hd => ?_
  rcases List.mem_cons.mp hd with rfl | hd
  · exact shw_op _
  · rw [List.mem_singleton.mp hd]
    exact (shw_nat5 h).mono (Nat.le_refl _) (by decide)
theorem shw_piece (p : List Deed) (hl : p.length ≤ 3) (h : ∀ x ∈ p, x.2 < 5) : Shw 2 15 (encT p) := by
  refine (Shw.tuple (k := 1) (n := 4) (ds := p.map encDp) fun d hd => ?_).mono (Nat.le_refl _) ?_
  · obtain ⟨x, hx, rfl⟩ := List.mem_map.mp hd
    exact shw_deed x (h x hx)
  · rw [List.length_map]
    omega
theorem shw_pieces {T : List (List Deed)} {C : List (List Nat)} (hT : GoodTs T) (hC : GoodC T C) : Shw 4 260 (encPT (piecesAll T C)) := by
  refine (Shw.tuple (k := 3) (n := 64) (ds := (piecesAll T C).map fun p => .tuple (encPs p)) fun d hd => ?_).mono (Nat.le_refl _) ?_
  · obtain ⟨ps, hps, rfl⟩ := List.mem_map.mp hd
    obtain ⟨⟨t, c⟩, hp, rfl⟩ := List.mem_map.mp hps
    obtain ⟨m1, m2, g⟩ := zip_good hC _ hp
    obtain ⟨g1, g3, g5⟩ := hT.2.2 t m1
    refine (Shw.tuple (k := 2) (n := 15) (ds := encPs (pieces t c)) fun d hd => ?_).mono (Nat.le_refl _) ?_
    · obtain ⟨p, hp, rfl⟩ := List.mem_map.mp hd
      exact shw_piece p (Nat.le_trans (pieces_len_le t 0 c p hp) g3) fun x hx => g5 x (pieces_mem p hp x hx)
    · unfold encPs
      rw [List.length_map, piecesF_len]
      have := hC.small hT c m2
      omega
  · rw [List.length_map, piecesAll_len hC]
    have := hT.2.1
    omega
/-! ### what is said and told -/
theorem eqD_bool (a b : Bool) : eqD (.bool a) (.bool b) = some (.bool (a == b)) := by
  have s : ∀ c : Bool, SeqAt.shaped (.bool c) = true := fun c => by
    unfold SeqAt.shaped PyData.canLay0 PyData.depth
    rfl
  rw [eqD_of (s a) (s b)]
  simp only [PyData.eqv]
theorem says_ok (a b : Bool) : fn__law_says [.bool a, .bool b] = some (.ok (.bool (a == b))) := by
  refine runV_of rfl ?_
  simp [sem__law_says, startE, eqD_bool]
def Mf : XV := ⟨"Malformed", []⟩
/-! what raises -/
theorem check_cut_no {a b : PyData} (h : fn_is_cut [a, b] = some (.ok (.bool false))) : fn_check_cut [a, b] = some (.error Mf) := by
  refine runV_of rfl ?_
  simp [sem_check_cut, startE, h, Mf]
theorem check_cut_ex {a b : PyData} (h : fn_is_cut [a, b] = some (.error Mf)) : fn_check_cut [a, b] = some (.error Mf) := by
  refine runV_of rfl ?_
  simp [sem_check_cut, startE, h, Mf]
theorem is_cut_ex {a b : PyData} (h : fn_is_texts [a] = some (.ok (.bool false))) : fn_is_cut [a, b] = some (.error Mf) := by
  have e : fn_check_texts [a] = some (.error Mf) := by
    refine runV_of rfl ?_
    simp [sem_check_texts, startE, h, Mf]
  refine runV_of rfl ?_
  simp [sem_is_cut, startE, e, Mf]
end K66

namespace K66
open PySem D3 L2 Ord Cut
/-! ### bad runs -/
theorem cutD_last {α : Type} (t : List α) : cutD t none (some (-1)) = t.dropLast := by
  unfold cutD
  rw [HT.sIx_none, List.drop_zero, Nat.sub_zero, List.dropLast_eq_take]
  have : HT.sIx t.length t.length (some (-1)) = t.length - 1 := by
    show (if (-1 : Int) < 0 then ((-1 : Int) + (t.length : Int)).toNat else min (-1 : Int).toNat t.length) = _
    rw [if_pos (by decide)]
    omega
  rw [this]
/-! ### odd cuts -/
theorem is_cut_not (T : List (List Deed)) (hT : GoodTs T) (d : PyData) (h : isiB .tuple d = false) : fn_is_cut [encTs T, d] = some (.ok (.bool false)) := by
  refine runV_of rfl ?_
  simp [sem_is_cut, startE, check_texts_ok T hT, h]
theorem is_cut_len (T : List (List Deed)) (hT : GoodTs T) (ds : List PyData) (h : ds.length ≠ T.length) : fn_is_cut [encTs T, .tuple ds] = some (.ok (.bool false)) := by
  have h' : ((ds.length : Int) == (T.length : Int)) = false := beq_eq_false_iff_ne.mpr (by omega)
  have a3 : lenD [encTs T] = some (.int T.length) := by
    show some (PyData.int ((T.map encT).length : Nat)) = _
    rw [List.length_map]
  refine runV_of rfl ?_
  simp [sem_is_cut, startE, check_texts_ok T hT, a3, h']
theorem is_cut_hd (t : List Deed) (T : List (List Deed)) (c : List Nat) (C : List (List Nat)) (hT : GoodTs (t :: T)) (hC : GoodC (t :: T) (c :: C)) (b : PyData) (h : fn_is_places [encT t, b] = some (.ok (.bool false))) : fn_is_cut [encTs (t :: T), .tuple (b :: C.map encK)] = some (.ok (.bool false)) := by
  have z := z24
  have hl : T.length = C.length := by
    have := hC.length
    simpa using this
  obtain ⟨h1, h4, hg⟩ := id hT
  have hC' : GoodC T C := by
    cases hC
    assumption
  have e : zipD ((t :: T).map encT) (b :: C.map encK) = (Option.none :: (T.zip C).map some).map fun o => match o with
    | none => .tuple [encT t, b]
    | some p => .tuple [encT p.1, encK p.2] := by
    show PyData.tuple [encT t, b] :: zipD (T.map encT) (C.map encK) = _
    rw [zip_C, List.map_cons, List.map_map]
    rfl
  have a3 : encTs (t :: T) = .tuple ((t :: T).map encT) := rfl
  refine runV_of rfl ?_
  simp [sem_is_cut, startE, check_texts_ok (t :: T) hT, -List.map_cons]
  simp [a3, hl, -List.map_cons]
  rw [e]
  refine wr_lcXM (fun o => .bool o.isSome) rfl (by rw [List.length_cons, List.length_map, List.length_zip]; rw [List.length_cons] at h4; omega) (fun o ho => ?_) ?_
  · cases o with
    | none => simp [gTp, gCn, gNm, gN0, wipeE, h]
    | some p =>
      have hp : p ∈ T.zip C := by simpa using ho
      obtain ⟨m1, m2, g⟩ := zip_good hC' p hp
      simp [gTp, gCn, gNm, gN0, wipeE, is_places_ok p.1 p.2 g (by have := (hg p.1 (by simp [m1])).2.1; omega)]
  · simp only [bndK_ok, wr_ret, wr_lft, allD_map, ex1_some, List.all_cons, Option.isSome_none, Bool.false_and, outV_val]
theorem is_places_not (t : List Deed) (d : PyData) (h : isiB .tuple d = false) : fn_is_places [encT t, d] = some (.ok (.bool false)) := by
  refine runV_of rfl ?_
  simp [sem_is_places, startE, h]
theorem is_places_one (t : List Deed) (d : PyData) (h : d = .bool true ∨ d = .int 0 ∨ d = .int t.length) : fn_is_places [encT t, .tuple [d]] = some (.ok (.bool false)) := by
  have z1 : 1 ≤ sizeLine := by decide
  have a3 : lenD [encT t] = some (.int t.length) := by
    show some (PyData.int ((t.map encDp).length : Nat)) = _
    rw [List.length_map]
  refine runV_of rfl ?_
  simp [sem_is_places, startE]
  refine wr_lcM (T := fun _ => .bool false) rfl z1 (fun x hx => ?_) ?_
  · rw [List.mem_singleton] at hx
    subst hx
    rcases h with rfl | rfl | rfl
    · simp [gNm, wipeE, isWhole]
    · simp [gNm, wipeE, a3]
    · simp [gNm, wipeE, a3]
      cases decide ((1 : Int) ≤ (t.length : Int)) <;> simp [a3]
  · have e := allD_map (fun _ : PyData => false) [d]
    simp only [List.map_cons, List.map_nil, List.all_cons, Bool.false_and] at e
    simp [e]
end K66

namespace K66
open PySem D3 L2 Ord Cut
theorem addD_tup {xs ys : List PyData} (h : xs.length + ys.length ≤ sizeLine) : addD (.tuple xs) (.tuple ys) = some (.tuple (xs ++ ys)) := by
  show (if xs.length + ys.length ≤ sizeLine then some (PyData.tuple (xs ++ ys)) else none) = _
  rw [if_pos h]
/-! ### plain: texts that touch, paths -/
def tT (T : List (List Deed)) (a b : Nat) : Bool := touch (T[a]?.getD []) (T[b]?.getD [])
def lastN (l : List Nat) : Nat := l.getLast?.getD 0
def chainB (f : Nat → Nat → Bool) : List Nat → Bool
  | a :: b :: l => f a b && chainB f (b :: l)
  | _ => true
theorem chain_snoc (f : Nat → Nat → Bool) (t : Nat) : ∀ l : List Nat, l ≠ [] → chainB f (l ++ [t]) = (chainB f l && f (lastN l) t)
  | [], h => absurd rfl h
  | [a], _ => by simp [chainB, lastN]
  | a :: b :: l, _ => by
    have ih := chain_snoc f t (b :: l) (by simp)
    show (f a b && chainB f ((b :: l) ++ [t])) = _
    rw [ih, show lastN (a :: b :: l) = lastN (b :: l) by simp [lastN, List.getLast?_cons_cons], show chainB f (a :: b :: l) = (f a b && chainB f (b :: l)) from rfl, Bool.and_assoc]
/-- a path from a text that S allows to t -/
structure Pth (T : List (List Deed)) (S : Nat → Bool) (l : List Nat) (t : Nat) : Prop where
  ne : l ≠ []
  nd : l.Nodup
  last : lastN l = t
  start : S (l.headD 0) = true
  chain : chainB (tT T) l = true
theorem Pth.one {T : List (List Deed)} {S : Nat → Bool} {t : Nat} (h : S t = true) : Pth T S [t] t := ⟨by simp, by simp, rfl, h, rfl⟩
theorem Pth.snoc {T : List (List Deed)} {S : Nat → Bool} {l : List Nat} {u t : Nat} (p : Pth T S l u) (h : tT T u t = true) (hn : t ∉ l) : Pth T S (l ++ [t]) t := by
  refine ⟨by simp, List.nodup_append.mpr ⟨p.nd, by simp, fun a ha b hb e => ?_⟩, ?_, ?_, ?_⟩
  · rw [List.mem_singleton.mp hb] at e
    exact hn (e ▸ ha)
  · unfold lastN
    rw [List.getLast?_append]
    rfl
  · have : (l ++ [t]).headD 0 = l.headD 0 := by
      cases l with
      | nil => exact absurd rfl p.ne
      | cons a l => rfl
    rw [this]
    exact p.start
  · rw [chain_snoc _ _ _ p.ne, p.chain, p.last, h]
    rfl
/-! ### who is joined to a deed: all that are reached, with their paths -/
def otherL (n p : Nat) : List Nat := (List.range n).filter (· != p)
theorem filterMap_if {α β : Type} (h : α → Bool) (f : α → β) : ∀ l : List α, (l.filterMap fun x => if h x = true then some (f x) else none) = (l.filter h).map f
  | [] => rfl
  | x :: xs => by
    rw [List.filterMap_cons, List.filter_cons, filterMap_if h f xs]
    cases h x <;> rfl
theorem rows_touch_l (one two : List Deed) (h1 : one.length ≤ 1000) (h2 : two.length ≤ 1000) : fn_rows_touch [.list (one.map encDp), encT two] = some (.ok (.bool (touch one two))) := by
  have z := z24
  refine runV_of rfl ?_
  simp [sem_rows_touch, startE]
  refine wr_lc2X (fun a => two.map fun b => .bool (touchD a b)) rfl ?_ (fun a ha => ?_) ?_
  · have : ∀ l : List Deed, (l.flatMap fun a => two.map fun b => PyData.bool (touchD a b)).length ≤ l.length * 1000 := by
      intro l
      induction l with
      | nil => simp
      | cons a l ih => rw [List.flatMap_cons, List.length_append, List.length_map, List.length_cons]; omega
    have := this one
    omega
  · simp [gNm, wipeE, TurnY, encT]
    refine wr_innXM (fun b => .bool (touchD a b)) (fun b hb => ?_) ?_
    · simp [gNm, wipeE, do_touch_ok]
    · simp [wipeE]
  · simp [any_flat, touch]
structure Keys (T : List (List Deed)) (S : Nat → Bool) (O ks : List Nat) (val : Nat → PyData) : Prop where
  nd : ks.Nodup
  sub : ∀ t ∈ ks, t ∈ O
  val : ∀ t ∈ ks, ∃ l : List Nat, val t = encK l ∧ Pth T S l t ∧ ∀ x ∈ l, x ∈ ks
  st : ∀ t ∈ O, S t = true → t ∈ ks
theorem Keys.len {T : List (List Deed)} {S : Nat → Bool} {O ks : List Nat} {val : Nat → PyData} (h : Keys T S O ks val) : ks.length ≤ O.length := L2.nat_nodup_len ks O h.nd h.sub
def Clo (T : List (List Deed)) (O row ks : List Nat) (place : Nat) : Prop := ∀ j u, j < place → row[j]? = some u → ∀ t ∈ O, tT T u t = true → t ∈ ks
def WJ (T : List (List Deed)) (S : Nat → Bool) (p i : PyData) (O : List Nat) (n : Nat) (ρ : Ev) : Prop := ∃ (row ks : List Nat) (val : Nat → PyData) (place : Nat) (x7 : Slot), row.Perm ks ∧ Keys T S O ks val ∧ n = O.length - place ∧ place ≤ O.length ∧ Clo T O row ks place ∧
  ρ = [.val (encTs T), .val p, .val i, .val (.list (O.map encN)), .ob (.dk (numK ks val)), .own (row.map encN), .val (.int place), x7]
def FJ (T : List (List Deed)) (S : Nat → Bool) (p i : PyData) (O : List Nat) (place : Nat) (k : Nat) (ρ : Ev) : Prop := ∃ (row ks : List Nat) (val : Nat → PyData) (x7 : Slot), row.Perm ks ∧ Keys T S O ks val ∧ place < row.length ∧ Clo T O row ks place ∧ (∀ u, row[place]? = some u → ∀ j t, j < k → O[j]? = some t → tT T u t = true → t ∈ ks) ∧
  ρ = [.val (encTs T), .val p, .val i, .val (.list (O.map encN)), .ob (.dk (numK ks val)), .own (row.map encN), .val (.int place), x7]
def jb1 : M Fl := (eIf (tAn (tDkIn 4 true (eVar 7)) (tTru (eFn fn_rows_touch (aCons (eIxB ixD 0 (eIxB ixD 5 (eLook 6))) (aCons (eIxB ixD 0 (eLook 7)) aNil))))) (seqS (sDkPut 4 (eBin addD (eDGet 4 (eIxB ixD 5 (eLook 6))) (eTup (aCons (eVar 7) aNil))) (eVar 7))
    (sApp 5 (eVar 7))) (ret .nx))
theorem jb1_ok (T : List (List Deed)) (hT : GoodTs T) (S : Nat → Bool) (p i : PyData) (O : List Nat) (hO : ∀ t ∈ O, t < T.length) (hOl : O.length ≤ 4) (place k t : Nat) (ht : O[k]? = some t) (ρ : Ev) (j : FJ T S p i O place k ρ) : ex1 (gNm 7 (encN t) ρ) fun ρ1 => wr jb1 (fun r => ∃ ρ2, (r = .ok .nx ρ2 ∨ r = .ok .ct ρ2) ∧ FJ T S p i O place (k + 1) ρ2) ρ1 := by
  obtain ⟨row, ks, val, x7, hp, K, hpl, clo, hin0, rfl⟩ := j
  obtain ⟨h1, h4, hg⟩ := id hT
  have z := z24
  have kl := K.len
  have rl := hp.length_eq
  have htO := List.mem_of_getElem? ht
  have htl : t < T.length := hO t htO
  have et : T[t]? = some T[t] := List.getElem?_eq_getElem htl
  obtain ⟨u, hu⟩ : ∃ u, row[place]? = some u := ⟨_, List.getElem?_eq_getElem hpl⟩
  have hu2 : u ∈ ks := hp.mem_iff.mp (List.mem_of_getElem? hu)
  have hul := hO u (K.sub u hu2)
  have eu : T[u]? = some T[u] := List.getElem?_eq_getElem hul
  have gt := (hg T[t] (List.mem_of_getElem? et)).2.1
  have gu := (hg T[u] (List.mem_of_getElem? eu)).2.1
  have a1 : atI (row.map encN) (place : Int) = some (encN u) := D3.atI_nat (by rw [List.getElem?_map, hu]; rfl)
  have a2 : atI (T.map encT) (u : Int) = some (encT T[u]) := D3.atI_nat (by rw [List.getElem?_map, eu]; rfl)
  have a3 : atI (T.map encT) (t : Int) = some (encT T[t]) := D3.atI_nat (by rw [List.getElem?_map, et]; rfl)
  have a4 : encTs T = .tuple (T.map encT) := rfl
  have e := rows_touch_ok T[u] T[t] (by omega) (by omega)
  have ett : tT T u t = touch T[u] T[t] := by unfold tT; rw [eu, et]; rfl
  have hk : hasK (numK ks val) (.inl (t : Int)) = ks.contains t := numK_has
  have kd : keyD (encN t) = some (.inl (t : Int)) := rfl
  have next : ∀ {ks' : List Nat}, (∀ x ∈ ks, x ∈ ks') → (tT T u t = true → t ∈ ks') → ∀ v, row[place]? = some v → ∀ j s, j < k + 1 → O[j]? = some s → tT T v s = true → s ∈ ks' := fun hs ht' v hv j s hj hs' hts => by
    have hvu : v = u := by rw [hu] at hv; exact (Option.some.inj hv).symm
    subst hvu
    by_cases e : j = k
    · subst e
      have : s = t := by rw [ht] at hs'; exact (Option.some.inj hs').symm
      subst this
      exact ht' hts
    · exact hs s (hin0 v hv j s (by omega) hs' hts)
  simp only [gNm, ex1_some]
  unfold jb1
  simp only [List.set_cons_succ, List.set_cons_zero]
  by_cases hin : t ∈ ks
  · have hc : ks.contains t = true := by simpa using hin
    rw [hc] at hk
    simp [kd, hk]
    exact ⟨row, ks, val, .val (encN t), hp, K, hpl, clo, next (fun _ h => h) (fun _ => hin), rfl⟩
  · have hc : ks.contains t = false := by simpa using hin
    rw [hc] at hk
    cases htc : touch T[u] T[t]
    · rw [htc] at e ett
      simp [kd, hk, a1, a2, a3, a4, e]
      exact ⟨row, ks, val, .val (encN t), hp, K, hpl, clo, next (fun _ h => h) (fun h => by rw [ett] at h; cases h), rfl⟩
    · rw [htc] at e ett
      obtain ⟨l, el, pl, hll⟩ := K.val u hu2
      have lk : l.length ≤ ks.length := L2.nat_nodup_len l ks pl.nd hll
      have g1 : getP (numK ks val) (encN u) = some (encK l) := by
        show getK (numK ks val) (.inl (u : Int)) = _
        rw [numK_get, if_pos hu2, el]
      have z1 : 1 ≤ sizeLine := by omega
      have ad : addD (encK l) (.tuple [encN t]) = some (encK (l ++ [t])) := by
        unfold encK
        rw [addD_tup (by rw [List.length_map]; simp; omega)]
        show some (PyData.tuple (l.map (fun k : Nat => PyData.int k) ++ [t].map fun k : Nat => PyData.int k)) = _
        rw [← List.map_append]
      have sp : setP (numK ks val) (encN t) (encK (l ++ [t])) = some (numK (ks ++ [t]) fun x => if x = t then encK (l ++ [t]) else val x) := by
        show (if (numK ks val).length < sizeLine then some (setK (numK ks val) (.inl (t : Int)) _) else none) = _
        rw [if_pos (by unfold numK; rw [List.length_map]; omega), numK_set hin]
      have rz : row.length < sizeLine := by omega
      have sub : ∀ x ∈ ks, x ∈ ks ++ [t] := fun x hx => List.mem_append_left _ hx
      simp [kd, hk, a1, a2, a3, a4, e, g1, z1, ad, sp, rz]
      refine ⟨row ++ [t], ks ++ [t], fun x => if x = t then encK (l ++ [t]) else val x, .val (encN t), hp.append (.refl _), ⟨?_, all_snoc K.sub htO, ?_, fun x hx hs => sub x (K.st x hx hs)⟩, by rw [List.length_append]; omega, ?_, ?_, ?_⟩
      · rw [List.nodup_append]
        exact ⟨K.nd, by simp, fun a ha b hb => by rw [List.mem_singleton.mp hb]; exact fun e => hin (e ▸ ha)⟩
      · intro x hx
        by_cases hxt : x = t
        · subst hxt
          refine ⟨l ++ [x], by rw [if_pos rfl], pl.snoc ett fun h => hin (hll x h), fun y hy => ?_⟩
          rcases List.mem_append.mp hy with h | h
          · exact sub y (hll y h)
          · exact List.mem_append_right _ h
        · have hx' : x ∈ ks := by
            rcases List.mem_append.mp hx with h | h
            · exact h
            · exact absurd (List.mem_singleton.mp h) hxt
          obtain ⟨l', e', p', h'⟩ := K.val x hx'
          exact ⟨l', by rw [if_neg hxt]; exact e', p', fun y hy => sub y (h' y hy)⟩
      · intro j v hj hv s hs hts
        rw [List.getElem?_append_left (by omega)] at hv
        exact sub s (clo j v hj hv s hs hts)
      · intro v hv
        rw [List.getElem?_append_left hpl] at hv
        exact next sub (fun _ => by simp) v hv
      · rw [List.map_append]
        rfl
theorem leZ_cast (a b : Nat) : leZ (a : Int) (b : Int) = leN a b := by
  unfold leZ leN
  by_cases h : a ≤ b
  · simp [h]
  · simp [h]
theorem sortK_num (ks : List Nat) (val : Nat → PyData) (h : ks.length < 64) : sortK (numK ks val) = some ((isort leN ks).map encN) := by
  unfold sortK
  rw [numK_int]
  simp only [Option.bind_some]
  rw [if_pos (by rw [List.length_map]; exact h), isort_map leZ_cast, List.map_map]
  rfl
abbrev stB (T : List (List Deed)) (d0 : Deed) (t : Nat) : Bool := touch [d0] (T[t]?.getD [])
theorem joined_ok (T : List (List Deed)) (hT : GoodTs T) (p i : Nat) (t0 : List Deed) (d0 : Deed) (hp : T[p]? = some t0) (hi : t0[i]? = some d0) : ∃ o, fn_joined_to [encTs T, encN p, encN i] = some o ∧ ∃ ks val, o = .dk (numK ks val) ∧ Keys T (stB T d0) (otherL T.length p) ks val ∧ ∀ u ∈ ks, ∀ t ∈ otherL T.length p, tT T u t = true → t ∈ ks := by
  obtain ⟨h1, h4, hg⟩ := id hT
  have z := z24
  have q1 : sm62 (T.length : Int) = true := sm62_of' (by omega) (by omega)
  have a4 : encTs T = .tuple (T.map encT) := rfl
  have a5 : encT t0 = .tuple (t0.map encDp) := rfl
  have a1 : atI (T.map encT) (p : Int) = some (encT t0) := D3.atI_nat (by rw [List.getElem?_map, hp]; rfl)
  have a2 : atI (t0.map encDp) (i : Int) = some (encDp d0) := D3.atI_nat (by rw [List.getElem?_map, hi]; rfl)
  have z1 : 1 ≤ sizeLine := by omega
  refine runO_ex rfl ?_
  simp [sem_joined_to, startE, a4, q1, rg_range]
  refine wr_lcX (fun t => if t = p then none else some (encN t)) rfl (by rw [List.length_range]; omega) (fun t ht => ?_) ?_
  · by_cases q : t = p
    · simp [gNm, wipeE, TurnX, eq_nat, q]
    · have q' : (t == p) = false := beq_eq_false_iff_ne.mpr q
      simp [gNm, wipeE, TurnX, eq_nat, q, q']
  have eO : ((List.range T.length).filterMap fun t => if t = p then none else some (encN t)) = (otherL T.length p).map encN := by
    unfold otherL
    generalize List.range T.length = l
    induction l with
    | nil => rfl
    | cons x xs ih =>
      rw [List.filterMap_cons, List.filter_cons, ih]
      by_cases q : x = p
      · simp [q]
      · simp [q]
  rw [eO]
  have hO : ∀ t ∈ otherL T.length p, t < T.length := fun t ht => by simpa using (List.mem_filter.mp ht).1
  have hOn : (otherL T.length p).Nodup := List.Pairwise.filter _ List.nodup_range
  have hOl : (otherL T.length p).length ≤ 4 := Nat.le_trans (List.length_filter_le _ _) (by rw [List.length_range]; exact h4)
  generalize otherL T.length p = O at *
  simp
  refine wr_dcX (fun t : Nat => if stB T d0 t then some (.inl (t : Int), .tuple [encN t]) else none) rfl (by omega) (fun t ht => ?_) ?_
  · have htl := hO t ht
    have et : T[t]? = some T[t] := List.getElem?_eq_getElem htl
    have gt := (hg T[t] (List.mem_of_getElem? et)).2.1
    have a3 : atI (T.map encT) (t : Int) = some (encT T[t]) := D3.atI_nat (by rw [List.getElem?_map, et]; rfl)
    have e := rows_touch_l [d0] T[t] (by simp) (by omega)
    simp only [List.map_cons, List.map_nil] at e
    have kd : keyD (encN t) = some (.inl (t : Int)) := rfl
    unfold stB
    rw [et]
    simp only [Option.getD_some]
    by_cases htc : touch [d0] T[t] = true
    · rw [htc] at e
      simp [gNm, wipeE, TurnK, a1, a2, a3, a5, e, z1, kd, htc]
    · rw [Bool.not_eq_true] at htc
      rw [htc] at e
      simp [gNm, wipeE, TurnK, a1, a2, a3, a5, e, z1, kd, htc]
  have eK : foldK [] (O.filterMap fun t : Nat => if stB T d0 t then some ((.inl (t : Int) : Key), PyData.tuple [encN t]) else none) = numK (O.filter (stB T d0)) fun t => .tuple [encN t] := by
    have e1 : (O.filterMap fun t : Nat => if stB T d0 t then some ((.inl (t : Int) : Key), PyData.tuple [encN t]) else none) = (O.filter (stB T d0)).map fun t : Nat => (.inl (t : Int), PyData.tuple [encN t]) := by
      exact filterMap_if (stB T d0) _ O
    rw [e1]
    exact foldK_num (val := fun t => .tuple [encN t]) (O.filter (stB T d0)) [] (by rw [List.nil_append]; exact List.Pairwise.filter _ hOn)
  rw [eK]
  have K0 : Keys T (stB T d0) O (O.filter (stB T d0)) fun t => .tuple [encN t] := ⟨List.Pairwise.filter _ hOn, fun t ht => (List.mem_filter.mp ht).1, fun t ht => ⟨[t], rfl, Pth.one (List.mem_filter.mp ht).2, fun x hx => by rw [List.mem_singleton.mp hx]; exact ht⟩, fun t ht hs => List.mem_filter.mpr ⟨ht, hs⟩⟩
  generalize O.filter (stB T d0) = ks at *
  generalize hS : stB T d0 = S at *
  have kl := K0.len
  have so := sortK_num ks (fun t => .tuple [encN t]) (by omega)
  simp [so]
  refine wr_while (WJ T S (encN p) (encN i) O) O.length (by unfold fuelN; omega) ?_ ⟨isort leN ks, ks, _, 0, .nil, isort_perm _ _, K0, by omega, by omega, fun j u hj => by omega, rfl⟩
  rintro n ρ ⟨row, ks, val, place, x7, hperm, K, rfl, hpl, clo, rfl⟩
  have kl := K.len
  have rl := hperm.length_eq
  by_cases hlt : place < row.length
  · simp [hlt]
    refine wr_forX (FJ T S (encN p) (encN i) O place) (fun k t ρ ht j => jb1_ok T hT S _ _ O hO hOl place k t ht ρ j) ⟨row, ks, val, x7, hperm, K, hlt, clo, fun u hu j t hj => by omega, rfl⟩ ?_
    rintro ρ' ⟨row, ks, val, x7, hperm, K, hlt, clo, hin, rfl⟩
    have kl := K.len
    have rl := hperm.length_eq
    simp
    refine ⟨O.length - (place + 1), by omega, row, ks, val, place + 1, x7, hperm, K, rfl, by omega, fun j u hj hu t ht hts => ?_, rfl⟩
    by_cases e : j = place
    · subst e
      obtain ⟨m, hm, em⟩ := List.getElem_of_mem ht
      exact hin u hu m t hm (by rw [List.getElem?_eq_getElem hm, em]) hts
    · exact clo j u (by omega) hu t ht hts
  · simp [hlt]
    refine wr_sRetOb rfl ?_
    refine ⟨_, rfl, ks, val, rfl, K, fun u hu t ht hts => ?_⟩
    obtain ⟨m, hm, em⟩ := List.getElem_of_mem (hperm.mem_iff.mpr hu)
    exact clo m u (by omega) (by rw [List.getElem?_eq_getElem hm, em]) t ht hts
end K66

namespace K66
open PySem D3 L2 Ord Cut
/-! ### ring_between: a path, or none -/
def dAt (T : List (List Deed)) (p i : Nat) : Deed := (T[p]?.getD [])[i]?.getD (false, 0)
/-- names on the way from deed i of p to deed k of p -/
structure Way (T : List (List Deed)) (p i k : Nat) (l : List Nat) : Prop where
  pth : Pth T (stB T (dAt T p i)) l (lastN l)
  sub : ∀ t ∈ l, t ∈ otherL T.length p
  fin : stB T (dAt T p k) (lastN l) = true
theorem last_mem {l : List Nat} (h : l ≠ []) : lastN l ∈ l := by
  unfold lastN
  rw [List.getLast?_eq_some_getLast h]
  exact List.getLast_mem _
theorem chain_in {T : List (List Deed)} {O ks : List Nat} (clo : ∀ u ∈ ks, ∀ t ∈ O, tT T u t = true → t ∈ ks) : ∀ {l : List Nat}, (∀ x ∈ l, x ∈ O) → l.headD 0 ∈ ks → chainB (tT T) l = true → ∀ x ∈ l, x ∈ ks
  | [], _, _, _ => by simp
  | [a], _, h, _ => fun x hx => by rw [List.mem_singleton.mp hx]; exact h
  | a :: b :: l, hO, h, hc => by
    have hc : (tT T a b && chainB (tT T) (b :: l)) = true := hc
    rw [Bool.and_eq_true] at hc
    have ha : a ∈ ks := h
    have hb : b ∈ ks := clo a ha b (hO b (by simp)) hc.1
    have ih := chain_in (l := b :: l) clo (fun x hx => hO x (List.mem_cons_of_mem _ hx)) hb hc.2
    intro x hx
    rcases List.mem_cons.mp hx with rfl | hx
    · exact ha
    · exact ih x hx
theorem ring_ok (T : List (List Deed)) (hT : GoodTs T) (p i k : Nat) (t0 : List Deed) (hp : T[p]? = some t0) (hi : i < t0.length) (hk : k < t0.length) : ∃ r, fn_ring_between [encTs T, encN p, encN i, encN k] = some (.ok r) ∧ ((r = .none ∧ ∀ l, ¬ Way T p i k l) ∨ ∃ l, r = encK l ∧ Way T p i k l) := by
  obtain ⟨h1, h4, hg⟩ := id hT
  have z := z24
  have ei : t0[i]? = some t0[i] := List.getElem?_eq_getElem hi
  have ek : t0[k]? = some t0[k] := List.getElem?_eq_getElem hk
  have di : dAt T p i = t0[i] := by unfold dAt; rw [hp, Option.getD_some, ei]; rfl
  have dk : dAt T p k = t0[k] := by unfold dAt; rw [hp, Option.getD_some, ek]; rfl
  obtain ⟨_, e0, ks, val, rfl, K, clo⟩ := joined_ok T hT p i t0 t0[i] hp ei
  have hO : ∀ t ∈ otherL T.length p, t < T.length := fun t ht => by simpa using (List.mem_filter.mp ht).1
  have kl : ks.length ≤ 4 := Nat.le_trans K.len (Nat.le_trans (List.length_filter_le _ _) (by rw [List.length_range]; exact h4))
  have a4 : encTs T = .tuple (T.map encT) := rfl
  have a5 : encT t0 = .tuple (t0.map encDp) := rfl
  have a1 : atI (T.map encT) (p : Int) = some (encT t0) := D3.atI_nat (by rw [List.getElem?_map, hp]; rfl)
  have a2 : atI (t0.map encDp) (k : Int) = some (encDp t0[k]) := D3.atI_nat (by rw [List.getElem?_map, ek]; rfl)
  have z1 : 1 ≤ sizeLine := by omega
  have so := sortK_num ks val (by omega)
  refine runV_ex rfl ?_
  rw [a4] at e0
  simp [sem_ring_between, startE, a4, e0, so]
  have hsl : (isort leN ks).length ≤ sizeLine := by rw [(isort_perm leN ks).length_eq]; omega
  refine wr_lcX (fun t : Nat => if touch [t0[k]] (T[t]?.getD []) = true then some (val t) else none) rfl hsl (fun t ht => ?_) ?_
  · have htk : t ∈ ks := (isort_perm leN ks).mem_iff.mp ht
    have htl := hO t (K.sub t htk)
    have et : T[t]? = some T[t] := List.getElem?_eq_getElem htl
    have gt := (hg T[t] (List.mem_of_getElem? et)).2.1
    have a3 : atI (T.map encT) (t : Int) = some (encT T[t]) := D3.atI_nat (by rw [List.getElem?_map, et]; rfl)
    have e := rows_touch_l [t0[k]] T[t] (by simp) (by omega)
    simp only [List.map_cons, List.map_nil] at e
    have g1 : getP (numK ks val) (encN t) = some (val t) := by
      show getK (numK ks val) (.inl (t : Int)) = _
      rw [numK_get, if_pos htk]
    rw [et]
    simp only [Option.getD_some]
    by_cases htc : touch [t0[k]] T[t] = true
    · rw [htc] at e
      simp [gNm, wipeE, TurnX, a1, a2, a3, a5, e, z1, htc, g1]
    · rw [Bool.not_eq_true] at htc
      rw [htc] at e
      simp [gNm, wipeE, TurnX, a1, a2, a3, a5, e, z1, htc]
  · have hG : ∀ g ∈ (isort leN ks).filterMap (fun t : Nat => if touch [t0[k]] (T[t]?.getD []) = true then some (val t) else none), ∃ l, g = encK l ∧ Way T p i k l := fun g hg => by
      obtain ⟨t, ht, he⟩ := List.mem_filterMap.mp hg
      have htk : t ∈ ks := (isort_perm leN ks).mem_iff.mp ht
      split at he
      · rename_i htc
        cases he
        obtain ⟨l, el, pl, hl⟩ := K.val t htk
        refine ⟨l, el, ⟨?_, fun x hx => K.sub x (hl x hx), ?_⟩⟩
        · rw [di, pl.last]
          exact pl
        · rw [dk, pl.last]
          exact htc
      · cases he
    have hN : (isort leN ks).filterMap (fun t : Nat => if touch [t0[k]] (T[t]?.getD []) = true then some (val t) else none) = [] → ∀ l, ¬ Way T p i k l := fun hz l w => by
      have hh : l.headD 0 ∈ l := by
        cases l with
        | nil => exact absurd rfl w.pth.ne
        | cons a l => exact .head _
      have hks := chain_in clo w.sub (K.st _ (w.sub _ hh) (by rw [← di]; exact w.pth.start)) w.pth.chain
      have hl := hks _ (last_mem w.pth.ne)
      have hf := w.fin
      rw [dk] at hf
      have hf : touch [t0[k]] (T[lastN l]?.getD []) = true := hf
      have : val (lastN l) ∈ (isort leN ks).filterMap (fun t : Nat => if touch [t0[k]] (T[t]?.getD []) = true then some (val t) else none) := List.mem_filterMap.mpr ⟨lastN l, (isort_perm leN ks).mem_iff.mpr hl, by rw [if_pos hf]⟩
      rw [hz] at this
      cases this
    generalize List.filterMap _ (isort leN ks) = G at *
    cases G with
    | nil =>
      simp
      exact .inl (hN rfl)
    | cons g G =>
      have a0 : atI (g :: G) 0 = some g := D3.atI_nat (i := 0) rfl
      have hpos : (0 : Int) < (G.length : Int) + 1 := by omega
      simp [hpos, a0]
      exact .inr (hG g (.head _))
def pieceN (c : List Nat) (i : Nat) : Nat := (c.filter (decide <| · ≤ i)).length
theorem piece_of_ok (c : List Nat) (i : Nat) (hc : c.length ≤ 1000) : fn_piece_of [encK c, encN i] = some (.ok (encN (pieceN c i))) := by
  have z := z24
  refine runV_of rfl ?_
  simp [sem_piece_of, startE, encK]
  refine wr_lcX (fun q : Nat => if decide (q ≤ i) = true then some (encN q) else none) rfl (by omega) (fun q hq => ?_) ?_
  · by_cases h : q ≤ i <;> simp [gNm, wipeE, TurnX, h]
  · rw [filterMap_if]
    simp [pieceN]
/-! ### a ring -/
structure Ring (T : List (List Deed)) (C : List (List Nat)) (p i : Nat) (l : List Nat) (k : Nat) : Prop where
  pl : p < T.length
  ik : i < k
  kl : k < (T[p]?.getD []).length
  pc : pieceN (C[p]?.getD []) i ≠ pieceN (C[p]?.getD []) k
  way : Way T p i k l
def encRg (p i : Nat) (l : List Nat) (k : Nat) : PyData := .tuple [.str "ring", encN p, encN i, encK l, encN k]
def NoR (T : List (List Deed)) (C : List (List Nat)) (p i k : Nat) : Prop := ∀ l, ¬ Ring T C p i l k
abbrev renv (T : List (List Deed)) (C : List (List Nat)) (x2 x3 x4 x5 x6 : Slot) : Ev := [.val (encTs T), .val (encC C), x2, x3, x4, x5, x6]
def RP (T : List (List Deed)) (C : List (List Nat)) (m : Nat) (ρ : Ev) : Prop := ∃ x2 x3 x4 x5 x6 : Slot, (∀ p, p < m → ∀ k, k < (T[p]?.getD []).length → ∀ i, i < k → NoR T C p i k) ∧ ρ = renv T C x2 x3 x4 x5 x6
def RK (T : List (List Deed)) (C : List (List Nat)) (p : Nat) (t : List Deed) (m : Nat) (ρ : Ev) : Prop := ∃ x4 x5 x6 : Slot, (∀ k, k < m → ∀ i, i < k → NoR T C p i k) ∧ ρ = renv T C (.val (encN p)) (.val (encT t)) x4 x5 x6
def RI (T : List (List Deed)) (C : List (List Nat)) (p : Nat) (t : List Deed) (k : Nat) (m : Nat) (ρ : Ev) : Prop := ∃ x5 x6 : Slot, (∀ i, i < m → NoR T C p i k) ∧ ρ = renv T C (.val (encN p)) (.val (encT t)) (.val (encN k)) x5 x6
def rb1 : M Fl := (seqS (sSet 6 (eFn fn_ring_between (aCons (eVar 0) (aCons (eVar 2) (aCons (eVar 5) (aCons (eVar 4) aNil))))))
    (eIf (tAn (tBin notND (eVar 6) (eC .none)) (tBin neD (eFn fn_piece_of (aCons (eIxB ixD 1 (eLook 2)) (aCons (eVar 5) aNil))) (eFn fn_piece_of (aCons (eIxB ixD 1 (eLook 2)) (aCons (eVar 4) aNil))))) (sRet (eTup (aCons (eC (.str "ring")) (aCons (eVar 2) (aCons (eVar 5) (aCons (eVar 6) (aCons (eVar 4) aNil))))))) (ret .nx)))
theorem range_at {n k x : Nat} (h : (List.range n)[k]? = some x) : k < n ∧ x = k := by
  obtain ⟨a, b⟩ := List.getElem?_eq_some_iff.mp h
  rw [List.length_range] at a
  exact ⟨a, by simpa using b.symm⟩
theorem rb1_ok (T : List (List Deed)) (hT : GoodTs T) (C : List (List Nat)) (p : Nat) (t : List Deed) (c : List Nat) (hp : T[p]? = some t) (hc : C[p]? = some c) (hcl : c.length ≤ 1000) (k : Nat) (hk : k < t.length) (QF : Rs Fl → Prop)
    (q : ∀ i l ρ, Ring T C p i l k → QF (.ok (.rt (.val (encRg p i l k))) ρ)) (m x : Nat) (hx : (List.range k)[m]? = some x) (ρ : Ev) (j : RI T C p t k m ρ) : ex1 (gNm 5 (encN x) ρ) fun ρ1 => wr rb1 (Goes QF (RI T C p t k (m + 1))) ρ1 := by
  obtain ⟨x5, x6, h, rfl⟩ := j
  obtain ⟨hm, rfl⟩ := range_at hx
  obtain ⟨r, er, hr⟩ := ring_ok T hT p x k t hp (by omega) hk
  have a4 : encC C = .tuple (C.map encK) := rfl
  have a1 : atI (C.map encK) (p : Int) = some (encK c) := D3.atI_nat (by rw [List.getElem?_map, hc]; rfl)
  have p1 := piece_of_ok c x hcl
  have p2 := piece_of_ok c k hcl
  have z5 : 5 ≤ sizeLine := by decide
  have eT : T[p]?.getD [] = t := by rw [hp]; rfl
  have eC' : C[p]?.getD [] = c := by rw [hc]; rfl
  have hpl := (List.getElem?_eq_some_iff.mp hp).1
  simp only [gNm, ex1_some]
  unfold rb1 renv
  simp only [List.set_cons_succ, List.set_cons_zero]
  have nx : ∀ y5 y6 : Slot, NoR T C p x k → RI T C p t k (x + 1) [.val (encTs T), .val (encC C), .val (encN p), .val (encT t), .val (encN k), y5, y6] := fun y5 y6 e => by
    refine ⟨y5, y6, fun i hi => ?_, rfl⟩
    rcases Nat.lt_succ_iff_lt_or_eq.mp hi with h' | h'
    · exact h i h'
    · rw [h']; exact e
  rcases hr with ⟨rfl, hno⟩ | ⟨l, rfl, w⟩
  · simp [er, isNone]
    exact nx _ _ fun l r => hno l r.way
  · have nn : isNone (encK l) = false := rfl
    have nee := enc_nat.neD (pieceN c x) (pieceN c k)
    by_cases hpc : pieceN c x = pieceN c k
    · rw [decide_eq_true hpc] at nee
      simp [er, nn, a1, a4, p1, p2, nee]
      exact nx _ _ fun l r => r.pc (by rw [eC']; exact hpc)
    · rw [decide_eq_false hpc] at nee
      simp [er, nn, a1, a4, p1, p2, nee, z5]
      exact q x l _ ⟨hpl, hm, by rw [eT]; exact hk, by rw [eC']; exact hpc, w⟩
theorem first_ring_ok (T : List (List Deed)) (C : List (List Nat)) (hT : GoodTs T) (hC : GoodC T C) : ∃ d, fn_first_ring [encTs T, encC C] = some (.ok d) ∧ ((d = .none ∧ ∀ p i l k, ¬ Ring T C p i l k) ∨ ∃ p i l k, d = encRg p i l k ∧ Ring T C p i l k) := by
  obtain ⟨h1, h4, hg⟩ := id hT
  have hCl := hC.length
  have z := z24
  have a4 : encTs T = .tuple (T.map encT) := rfl
  refine runV_ex rfl ?_
  simp [sem_first_ring, startE, a4, enum_D]
  refine wr_forR (RP T C) ?_ ⟨.nil, .nil, .nil, .nil, .nil, fun p hp => absurd hp (by omega), rfl⟩ ?_
  · rintro p x ρ hx ⟨x2, x3, x4, x5, x6, h, rfl⟩
    obtain ⟨t, rfl, ht⟩ : ∃ t, x = (t, p) ∧ T[p]? = some t := by
      rw [List.getElem?_zipIdx] at hx
      cases e : T[p]? with
      | none => rw [e] at hx; cases hx
      | some y =>
        rw [e] at hx
        exact ⟨y, by simpa using hx.symm, rfl⟩
    have hpl := (List.getElem?_eq_some_iff.mp ht).1
    obtain ⟨c, hc⟩ : ∃ c, C[p]? = some c := ⟨_, List.getElem?_eq_getElem (by omega)⟩
    have hcl := hC.small hT c (List.mem_of_getElem? hc)
    have gt := (hg t (List.mem_of_getElem? ht)).2.1
    have q1 : sm62 (t.length : Int) = true := sm62_of' (by omega) (by omega)
    have a6 : lenD [encT t] = some (.int t.length) := by
      show some (PyData.int ((t.map encDp).length : Nat)) = _
      rw [List.length_map]
    simp [gTp, gCn, gNm, gN0, renv, a6, q1, rg_range]
    refine wr_forR (RK T C p t) ?_ ⟨x4, x5, x6, fun k hk => absurd hk (by omega), rfl⟩ ?_
    · rintro k y ρ hy ⟨y4, y5, y6, h2, rfl⟩
      obtain ⟨hk, rfl⟩ := range_at hy
      have q2 : sm62 (y : Int) = true := sm62_of' (by omega) (by omega)
      simp [gNm, renv, q2]
      rw [rg_range]
      refine wr_forR (RI T C p t y) (fun m x ρ hx j => rb1_ok T hT C p t c ht hc (by omega) y hk _ ?_ m x hx ρ j) ⟨y5, y6, fun i hi => absurd hi (by omega), rfl⟩ ?_
      · intro i l ρ hr
        simp
        exact .inr ⟨p, i, l, y, rfl, hr⟩
      · rintro ρ' ⟨z5, z6, h3, rfl⟩
        rw [List.length_range] at h3
        rw [goes_nx]
        refine ⟨_, _, _, fun k hk' => ?_, rfl⟩
        rcases Nat.lt_succ_iff_lt_or_eq.mp hk' with h' | h'
        · exact h2 k h'
        · rw [h']; exact h3
    · rintro ρ' ⟨y4, y5, y6, h2, rfl⟩
      rw [List.length_range] at h2
      rw [goes_nx]
      refine ⟨_, _, _, _, _, fun p' hp' => ?_, rfl⟩
      rcases Nat.lt_succ_iff_lt_or_eq.mp hp' with h' | h'
      · exact h p' h'
      · subst h'
        rw [ht]
        exact h2
  · rintro ρ' ⟨x2, x3, x4, x5, x6, h, rfl⟩
    simp [isNone]
    refine .inl fun p i l k r => ?_
    exact h p (by rw [List.length_zipIdx]; exact r.pl) k r.kl i r.ik l r
theorem cut_ring_ok (T : List (List Deed)) (C : List (List Nat)) (hT : GoodTs T) (hC : GoodC T C) : ∃ d, fn_cut_ring [encTs T, encC C] = some (.ok d) ∧ ((d = .none ∧ ∀ p i l k, ¬ Ring T C p i l k) ∨ ∃ p i l k, d = encRg p i l k ∧ Ring T C p i l k) := by
  obtain ⟨d, e, h⟩ := first_ring_ok T C hT hC
  refine ⟨d, ?_, h⟩
  refine runV_of rfl ?_
  simp [sem_cut_ring, startE, check_cut_ok T C hT hC, e]
end K66

namespace K66
open PySem D3 L2 Ord Cut
/-! ### what stands in which piece -/
theorem mem_sl {α : Type} {t : List α} {a b : Nat} {d : α} : d ∈ sl t a b ↔ ∃ x, a ≤ x ∧ x < b ∧ t[x]? = some d := by
  unfold sl
  rw [List.mem_iff_getElem?]
  constructor
  · rintro ⟨i, hi⟩
    rw [List.getElem?_take] at hi
    split at hi
    · rw [List.getElem?_drop] at hi
      exact ⟨a + i, by omega, by omega, hi⟩
    · cases hi
  · rintro ⟨x, h1, h2, h3⟩
    refine ⟨x - a, ?_⟩
    rw [List.getElem?_take, if_pos (by omega), List.getElem?_drop, show a + (x - a) = x by omega]
    exact h3
theorem pieceN_cons (q : Nat) (c : List Nat) (x : Nat) : pieceN (q :: c) x = (if q ≤ x then 1 else 0) + pieceN c x := by
  unfold pieceN
  rw [List.filter_cons]
  by_cases h : q ≤ x
  · simp [h]
    omega
  · simp [h]
theorem pieceN_lt {c : List Nat} {x : Nat} (h : ∀ q ∈ c, x < q) : pieceN c x = 0 := by
  unfold pieceN
  rw [List.length_eq_zero_iff, List.filter_eq_nil_iff]
  intro q hq
  have := h q hq
  simp
  omega
theorem pieceN_mono (c : List Nat) {i k : Nat} (h : i ≤ k) : pieceN c i ≤ pieceN c k := by
  induction c with
  | nil => exact Nat.le_refl _
  | cons q c ih =>
    rw [pieceN_cons, pieceN_cons]
    split <;> split <;> omega
theorem pieceN_le (c : List Nat) (x : Nat) : pieceN c x ≤ c.length := List.length_filter_le _ _
theorem mem_pieces {α : Type} {t : List α} {d : α} : ∀ {c : List Nat} {a n : Nat}, c.Pairwise (· < ·) → (∀ q ∈ c, a ≤ q) → (d ∈ (piecesF t a c)[n]?.getD [] ↔ ∃ x, a ≤ x ∧ t[x]? = some d ∧ pieceN c x = n)
  | [], a, n, _, _ => by
    have hp : ∀ x, pieceN [] x = 0 := fun x => rfl
    cases n with
    | zero =>
      show d ∈ sl t a t.length ↔ _
      rw [mem_sl]
      constructor
      · rintro ⟨x, h1, _, h3⟩
        exact ⟨x, h1, h3, rfl⟩
      · rintro ⟨x, h1, h3, _⟩
        exact ⟨x, h1, (List.getElem?_eq_some_iff.mp h3).1, h3⟩
    | succ n =>
      constructor
      · intro h
        have : ([] : List α) = (piecesF t a [])[n + 1]?.getD [] := rfl
        rw [← this] at h
        cases h
      · rintro ⟨x, _, _, h⟩
        rw [hp] at h
        cases h
  | q :: c, a, n, hp, ha => by
    obtain ⟨h1, h2⟩ := List.pairwise_cons.mp hp
    have haq := ha q (.head _)
    cases n with
    | zero =>
      show d ∈ sl t a q ↔ _
      rw [mem_sl]
      constructor
      · rintro ⟨x, h3, h4, h5⟩
        refine ⟨x, h3, h5, pieceN_lt fun z hz => ?_⟩
        rcases List.mem_cons.mp hz with rfl | hz
        · exact h4
        · have := h1 z hz
          omega
      · rintro ⟨x, h3, h5, h6⟩
        refine ⟨x, h3, ?_, h5⟩
        rw [pieceN_cons] at h6
        split at h6 <;> omega
    | succ n =>
      have ih := mem_pieces (t := t) (d := d) (c := c) (a := q) (n := n) h2 fun z hz => Nat.le_of_lt (h1 z hz)
      show d ∈ (piecesF t q c)[n]?.getD [] ↔ _
      rw [ih]
      constructor
      · rintro ⟨x, h3, h4, h5⟩
        refine ⟨x, by omega, h4, ?_⟩
        rw [pieceN_cons, if_pos h3, h5]
        omega
      · rintro ⟨x, h3, h4, h5⟩
        rw [pieceN_cons] at h5
        by_cases hq : q ≤ x
        · rw [if_pos hq] at h5
          exact ⟨x, hq, h4, by omega⟩
        · rw [if_neg hq, pieceN_lt fun z hz => by have := h1 z hz; omega] at h5
          cases h5
/-- the deeds of the n-th piece of t -/
theorem mem_pieceAt {T : List (List Deed)} {C : List (List Nat)} (hC : GoodC T C) {t n : Nat} (ht : t < T.length) {d : Deed} : d ∈ pieceAt (piecesAll T C) t n ↔ ∃ x, (T[t]?.getD [])[x]? = some d ∧ pieceN (C[t]?.getD []) x = n := by
  have et : T[t]? = some T[t] := List.getElem?_eq_getElem ht
  obtain ⟨c, ec, hk, ep⟩ := piecesAll_get hC et
  unfold pieceAt
  rw [ep, et, ec, Option.getD_some, Option.getD_some, Option.getD_some]
  have := mem_pieces (t := T[t]) (d := d) (c := c) (a := 0) (n := n) hk.1 (fun q _ => Nat.zero_le q)
  show d ∈ (piecesF T[t] 0 c)[n]?.getD [] ↔ _
  rw [this]
  constructor
  · rintro ⟨x, _, h2, h3⟩; exact ⟨x, h2, h3⟩
  · rintro ⟨x, h2, h3⟩; exact ⟨x, Nat.zero_le _, h2, h3⟩
theorem touch_iff {a b : List Deed} : touch a b = true ↔ ∃ x ∈ a, ∃ y ∈ b, touchD x y = true := by
  unfold touch
  simp only [List.any_eq_true]
theorem touchD_comm (x y : Deed) : touchD x y = touchD y x := by
  unfold touchD
  rw [Bool.or_comm]
  congr 1
  rw [Bool.eq_iff_iff, beq_iff_eq, beq_iff_eq]
  exact eq_comm
theorem touch_comm (a b : List Deed) : touch a b = touch b a := by
  rw [Bool.eq_iff_iff, touch_iff, touch_iff]
  constructor
  · rintro ⟨x, hx, y, hy, h⟩; exact ⟨y, hy, x, hx, by rw [touchD_comm]; exact h⟩
  · rintro ⟨x, hx, y, hy, h⟩; exact ⟨y, hy, x, hx, by rw [touchD_comm]; exact h⟩
/-! ### the pairs of a run -/
structure At (T : List (List Deed)) (C : List (List Nat)) (R : List Nat) (t u a b : Nat) : Prop where
  ab : a < b
  bl : b < R.length
  ra : R[a]? = some t
  rb : R[b]? = some u
  ne : t ≠ u
  tch : touch (pieceAt (piecesAll T C) t ((R.take a).count t)) (pieceAt (piecesAll T C) u ((R.take b).count u)) = true
theorem mem_prs {T : List (List Deed)} {C : List (List Nat)} {R : List Nat} {t u : Nat} : (t, u) ∈ prs T C R ↔ ∃ a b, At T C R t u a b := by
  have dg : ∀ j, j < R.length → (doneU (piecesAll T C) R R.length)[j]? = some (stepAt (piecesAll T C) R j) := fun j hj => by
    unfold doneU
    rw [List.getElem?_map, List.getElem?_range hj]
    rfl
  unfold prs pairsU
  rw [List.mem_flatMap]
  constructor
  · rintro ⟨k, hk, hm⟩
    have hk := List.mem_range.mp hk
    unfold pairsAt at hm
    rw [dg k hk] at hm
    dsimp only at hm
    obtain ⟨y, hy, he⟩ := List.mem_filterMap.mp hm
    obtain ⟨i, hi, ei⟩ := List.getElem_of_mem hy
    have hil : i < k := by
      rw [List.length_take] at hi
      omega
    have ey : y = stepAt (piecesAll T C) R i := by
      have : ((doneU (piecesAll T C) R R.length).take k)[i]? = some y := by rw [List.getElem?_eq_getElem hi, ei]
      rw [List.getElem?_take, if_pos hil, dg i (by omega)] at this
      exact (Option.some.inj this).symm
    subst ey
    unfold pairAt at he
    split at he
    · rename_i hc
      rw [Bool.and_eq_true, Bool.not_eq_true'] at hc
      have he := Option.some.inj he
      have h1 : (stepAt (piecesAll T C) R i).1 = t := congrArg Prod.fst he
      have h2 : (stepAt (piecesAll T C) R k).1 = u := congrArg Prod.snd he
      have ri : R[i]? = some (R[i]'(by omega)) := List.getElem?_eq_getElem (by omega)
      have rk : R[k]? = some (R[k]'hk) := List.getElem?_eq_getElem hk
      have e1 : R[i]?.getD 0 = t := h1
      have e2 : R[k]?.getD 0 = u := h2
      rw [ri, Option.getD_some] at e1
      rw [rk, Option.getD_some] at e2
      refine ⟨i, k, hil, hk, by rw [ri, e1], by rw [rk, e2], fun e => ?_, ?_⟩
      · rw [← h1, ← h2] at e
        rw [e] at hc
        simp at hc
      · have := hc.2
        unfold stepAt at this
        dsimp only at this
        rw [ri, rk, Option.getD_some, Option.getD_some, e1, e2] at this
        exact this
    · cases he
  · rintro ⟨a, b, h⟩
    refine ⟨b, List.mem_range.mpr h.bl, ?_⟩
    unfold pairsAt
    rw [dg b h.bl]
    dsimp only
    refine List.mem_filterMap.mpr ⟨stepAt (piecesAll T C) R a, ?_, ?_⟩
    · refine List.mem_iff_getElem?.mpr ⟨a, ?_⟩
      rw [List.getElem?_take, if_pos h.ab, dg a (by have := h.ab; have := h.bl; omega)]
    · have e1 : stepAt (piecesAll T C) R a = (t, pieceAt (piecesAll T C) t ((R.take a).count t)) := by
        unfold stepAt
        rw [h.ra]
        rfl
      have e2 : stepAt (piecesAll T C) R b = (u, pieceAt (piecesAll T C) u ((R.take b).count u)) := by
        unfold stepAt
        rw [h.rb]
        rfl
      rw [e1, e2]
      unfold pairAt
      dsimp only
      have : (t == u) = false := by simpa using h.ne
      rw [this, h.tch]
      rfl
end K66

namespace Trap
open D3
/-! ### programs under snapshots, plainly: paths and traps -/
abbrev Pg := List Nat × List Nat
def meetB (a b : List Nat) : Bool := a.any fun x => b.contains x
theorem meetB_iff {a b : List Nat} : meetB a b = true ↔ ∃ x, x ∈ a ∧ x ∈ b := by simp [meetB]
theorem meetB_comm (a b : List Nat) : meetB a b = meetB b a := by
  rw [Bool.eq_iff_iff, meetB_iff, meetB_iff]
  exact ⟨fun ⟨x, h1, h2⟩ => ⟨x, h2, h1⟩, fun ⟨x, h1, h2⟩ => ⟨x, h2, h1⟩⟩
theorem meetB_app (a b c : List Nat) : meetB a (b ++ c) = (meetB a b || meetB a c) := by
  rw [Bool.eq_iff_iff, Bool.or_eq_true, meetB_iff, meetB_iff, meetB_iff]
  constructor
  · rintro ⟨x, h1, h2⟩
    rcases List.mem_append.mp h2 with h | h
    · exact .inl ⟨x, h1, h⟩
    · exact .inr ⟨x, h1, h⟩
  · rintro (⟨x, h1, h⟩ | ⟨x, h1, h⟩)
    · exact ⟨x, h1, List.mem_append_left _ h⟩
    · exact ⟨x, h1, List.mem_append_right _ h⟩
def rd (ps : List Pg) (t : Nat) : List Nat := (ps[t]?.getD ([], [])).1
def wt (ps : List Pg) (t : Nat) : List Nat := (ps[t]?.getD ([], [])).2
def tch (ps : List Pg) (t u : Nat) : Bool := meetB (wt ps t) (rd ps u ++ wt ps u) || meetB (wt ps u) (rd ps t)
def ltch (ps : List Pg) (t u : Nat) : Bool := meetB (wt ps t) (rd ps u) || (meetB (wt ps t) (wt ps u) || meetB (rd ps t) (wt ps u))
theorem tch_eq (ps : List Pg) (t u : Nat) : tch ps t u = ltch ps t u := by
  unfold tch ltch
  rw [meetB_app, meetB_comm (wt ps u) (rd ps t), Bool.or_assoc]
def lastN (l : List Nat) : Nat := l.getLast?.getD 0
def chainB (T : Nat → Nat → Bool) : List Nat → Bool
  | a :: b :: l => T a b && chainB T (b :: l)
  | _ => true
theorem chain_snoc (T : Nat → Nat → Bool) (t : Nat) : ∀ l : List Nat, l ≠ [] → chainB T (l ++ [t]) = (chainB T l && T (lastN l) t)
  | [], h => absurd rfl h
  | [a], _ => by simp [chainB, lastN]
  | a :: b :: l, _ => by
    have ih := chain_snoc T t (b :: l) (by simp)
    show (T a b && chainB T ((b :: l) ++ [t])) = _
    rw [ih, show lastN (a :: b :: l) = lastN (b :: l) by simp [lastN, List.getLast?_cons_cons], show chainB T (a :: b :: l) = (T a b && chainB T (b :: l)) from rfl, Bool.and_assoc]
theorem chain_congr {T T' : Nat → Nat → Bool} (h : ∀ a b, T a b = T' a b) : ∀ l, chainB T l = chainB T' l
  | [] => rfl
  | [_] => rfl
  | a :: b :: l => by
    show (T a b && chainB T (b :: l)) = _
    rw [h, chain_congr h (b :: l)]
    rfl
/-! ### the rows of a search -/
def freeF (ps : List Pg) (p : Nat) : List Nat := (List.range ps.length).filter fun t => (t != p) && !meetB (wt ps t) (wt ps p)
theorem mem_free {ps : List Pg} {p t : Nat} : t ∈ freeF ps p ↔ t < ps.length ∧ t ≠ p ∧ meetB (wt ps t) (wt ps p) = false := by
  simp [freeF, and_assoc]
def grow (ps : List Pg) (p : Nat) (row : List Nat) : List (List Nat) := ((freeF ps p).filter fun t => !row.contains t && tch ps (lastN row) t).map fun t => row ++ [t]
def opn (ps : List Pg) (p : Nat) : Nat → List (List Nat)
  | 0 => ((freeF ps p).filter fun t => meetB (rd ps p) (wt ps t)).map fun t => [t]
  | k + 1 => (opn ps p k).flatMap (grow ps p)
structure Open (ps : List Pg) (p : Nat) (row : List Nat) : Prop where
  ne : row ≠ []
  nd : row.Nodup
  free : ∀ t ∈ row, t ∈ freeF ps p
  start : meetB (rd ps p) (wt ps (row.headD 0)) = true
  chain : chainB (tch ps) row = true
theorem open_one {ps : List Pg} {p t : Nat} : Open ps p [t] ↔ t ∈ freeF ps p ∧ meetB (rd ps p) (wt ps t) = true :=
  ⟨fun o => ⟨o.free t (by simp), o.start⟩, fun ⟨h1, h2⟩ => ⟨by simp, by simp, by simpa using h1, h2, rfl⟩⟩
theorem open_snoc {ps : List Pg} {p t : Nat} {row : List Nat} (hne : row ≠ []) : Open ps p (row ++ [t]) ↔ Open ps p row ∧ t ∈ freeF ps p ∧ t ∉ row ∧ tch ps (lastN row) t = true := by
  have hd : (row ++ [t]).headD 0 = row.headD 0 := by cases row with
    | nil => exact absurd rfl hne
    | cons a l => rfl
  constructor
  · rintro ⟨_, nd, fr, st, ch⟩
    rw [chain_snoc _ _ _ hne, Bool.and_eq_true] at ch
    rw [List.nodup_append] at nd
    exact ⟨⟨hne, nd.1, fun x hx => fr x (List.mem_append_left _ hx), hd ▸ st, ch.1⟩, fr t (by simp), fun hm => nd.2.2 t hm t (by simp) rfl, ch.2⟩
  · rintro ⟨⟨_, nd, fr, st, ch⟩, h1, h2, h3⟩
    refine ⟨by simp, List.nodup_append.mpr ⟨nd, by simp, fun a ha b hb e => ?_⟩, fun x hx => ?_, hd ▸ st, ?_⟩
    · rw [List.mem_singleton.mp hb] at e
      exact h2 (e ▸ ha)
    · rcases List.mem_append.mp hx with hx | hx
      · exact fr x hx
      · rw [List.mem_singleton.mp hx]; exact h1
    · rw [chain_snoc _ _ _ hne, ch, h3]
      rfl
theorem mem_grow {ps : List Pg} {p : Nat} {row r : List Nat} : r ∈ grow ps p row ↔ ∃ t, t ∈ freeF ps p ∧ t ∉ row ∧ tch ps (lastN row) t = true ∧ r = row ++ [t] := by
  simp only [grow, List.mem_map, List.mem_filter, Bool.and_eq_true, Bool.not_eq_true', List.contains_eq_mem, decide_eq_false_iff_not]
  constructor
  · rintro ⟨t, ⟨h1, h2, h3⟩, rfl⟩; exact ⟨t, h1, h2, h3, rfl⟩
  · rintro ⟨t, h1, h2, h3, rfl⟩; exact ⟨t, ⟨h1, h2, h3⟩, rfl⟩
theorem snoc_of {α : Type} {l : List α} {k : Nat} (h : l.length = k + 1) : ∃ m x, l = m ++ [x] ∧ m.length = k := by
  have hne : l ≠ [] := fun e => by rw [e] at h; cases h
  exact ⟨l.dropLast, l.getLast hne, (List.dropLast_concat_getLast hne).symm, by rw [List.length_dropLast, h]; rfl⟩
theorem mem_opn {ps : List Pg} {p : Nat} : ∀ {k : Nat} {row : List Nat}, row ∈ opn ps p k ↔ row.length = k + 1 ∧ Open ps p row
  | 0, row => by
    simp only [opn, List.mem_map, List.mem_filter]
    constructor
    · rintro ⟨t, ⟨h1, h2⟩, rfl⟩
      exact ⟨rfl, open_one.mpr ⟨h1, h2⟩⟩
    · rintro ⟨hl, o⟩
      obtain ⟨m, t, rfl, hm⟩ := snoc_of hl
      rw [List.length_eq_zero_iff.mp hm] at o ⊢
      exact ⟨t, open_one.mp o, rfl⟩
  | k + 1, row => by
    simp only [opn, List.mem_flatMap]
    constructor
    · rintro ⟨r0, h0, hr⟩
      obtain ⟨hl, o⟩ := mem_opn.mp h0
      obtain ⟨t, h1, h2, h3, rfl⟩ := mem_grow.mp hr
      exact ⟨by rw [List.length_append, hl]; rfl, (open_snoc o.ne).mpr ⟨o, h1, h2, h3⟩⟩
    · rintro ⟨hl, o⟩
      obtain ⟨m, t, rfl, hm⟩ := snoc_of hl
      have hne : m ≠ [] := fun e => by rw [e] at hm; cases hm
      obtain ⟨o', h1, h2, h3⟩ := (open_snoc hne).mp o
      exact ⟨m, mem_opn.mpr ⟨hm, o'⟩, mem_grow.mpr ⟨t, h1, h2, h3, rfl⟩⟩
theorem Open.len {ps : List Pg} {p : Nat} {row : List Nat} (o : Open ps p row) : row.length ≤ ps.length := by
  have := L2.nat_nodup_len row (List.range ps.length) o.nd fun t ht => by
    have := (mem_free.mp (o.free t ht)).1
    simpa using this
  simpa using this
theorem opn_end {ps : List Pg} {p k : Nat} (h : ps.length ≤ k) : opn ps p k = [] := by
  rw [List.eq_nil_iff_forall_not_mem]
  intro row hr
  obtain ⟨hl, o⟩ := mem_opn.mp hr
  have := o.len
  omega
theorem opn_nil {ps : List Pg} {p k : Nat} (h : opn ps p k = []) : ∀ j, k ≤ j → opn ps p j = [] := fun j hj => by
  induction j with
  | zero => rwa [show k = 0 by omega] at h
  | succ j ih =>
    by_cases e : k = j + 1
    · rwa [e] at h
    · simp only [opn, ih (by omega), List.flatMap_nil]
def clsd (ps : List Pg) (p : Nat) (row : List Nat) : Bool := meetB (rd ps (lastN row)) (wt ps p)
def NoAt (ps : List Pg) (p : Nat) : Prop := ∀ row, Open ps p row → clsd ps p row = false
def NoTrap (ps : List Pg) : Prop := ∀ p, p < ps.length → NoAt ps p
theorem noAt_of {ps : List Pg} {p k : Nat} (h : opn ps p k = []) (hj : ∀ j, j < k → ∀ row ∈ opn ps p j, clsd ps p row = false) : NoAt ps p := fun row o => by
  have hl : row.length ≠ 0 := fun e => o.ne (List.length_eq_zero_iff.mp e)
  have hm : row ∈ opn ps p (row.length - 1) := mem_opn.mpr ⟨by omega, o⟩
  by_cases hk : row.length - 1 < k
  · exact hj _ hk row hm
  · rw [opn_nil h _ (by omega)] at hm
    cases hm
/-! ### all rows -/
def lgrow (n : Nat) (row : List Nat) : List (List Nat) := ((List.range n).filter fun t => !row.contains t).map fun t => row ++ [t]
def rowsN (n : Nat) : Nat → List (List Nat)
  | 0 => [[]]
  | k + 1 => (rowsN n k).flatMap (lgrow n)
theorem mem_rowsN {n : Nat} : ∀ {k : Nat} {row : List Nat}, row ∈ rowsN n k ↔ row.length = k ∧ row.Nodup ∧ ∀ t ∈ row, t < n
  | 0, row => by
    simp only [rowsN, List.mem_singleton]
    constructor
    · rintro rfl; simp
    · rintro ⟨h, _⟩; exact List.length_eq_zero_iff.mp h
  | k + 1, row => by
    simp only [rowsN, List.mem_flatMap, lgrow, List.mem_map, List.mem_filter, List.mem_range, Bool.not_eq_true', List.contains_eq_mem, decide_eq_false_iff_not]
    constructor
    · rintro ⟨m, hm, t, ⟨h1, h2⟩, rfl⟩
      obtain ⟨hl, nd, hb⟩ := mem_rowsN.mp hm
      refine ⟨by rw [List.length_append, hl]; rfl, List.nodup_append.mpr ⟨nd, by simp, fun a ha b hb e => ?_⟩, fun x hx => ?_⟩
      · rw [List.mem_singleton.mp hb] at e
        exact h2 (e ▸ ha)
      · rcases List.mem_append.mp hx with hx | hx
        · exact hb x hx
        · rw [List.mem_singleton.mp hx]; exact h1
    · rintro ⟨hl, nd, hb⟩
      obtain ⟨m, t, rfl, hm⟩ := snoc_of hl
      rw [List.nodup_append] at nd
      exact ⟨m, mem_rowsN.mpr ⟨hm, nd.1, fun x hx => hb x (List.mem_append_left _ hx)⟩, t, ⟨hb t (by simp), fun h => nd.2.2 t h t (by simp) rfl⟩, rfl⟩
def trapB (ps : List Pg) : List Nat → Bool
  | [] => false
  | p :: path => !path.isEmpty && (!(path.any fun t => meetB (wt ps t) (wt ps p)) && (meetB (rd ps p) (wt ps (path.headD 0)) && (meetB (rd ps (lastN path)) (wt ps p) && chainB (ltch ps) path)))
theorem trapB_iff {ps : List Pg} {p : Nat} {path : List Nat} (nd : (p :: path).Nodup) (hb : ∀ t ∈ p :: path, t < ps.length) : trapB ps (p :: path) = true ↔ Open ps p path ∧ clsd ps p path = true := by
  have hp : p ∉ path := (List.nodup_cons.mp nd).1
  unfold trapB clsd
  simp only [Bool.and_eq_true, Bool.not_eq_true', List.isEmpty_eq_false_iff, List.any_eq_false]
  rw [chain_congr (fun a b => (tch_eq ps a b).symm)]
  constructor
  · rintro ⟨h1, h2, h3, h4, h5⟩
    refine ⟨⟨h1, (List.nodup_cons.mp nd).2, fun t ht => mem_free.mpr ⟨hb t (.tail _ ht), fun e => hp (e ▸ ht), ?_⟩, h3, h5⟩, h4⟩
    simpa using h2 t ht
  · rintro ⟨⟨h1, _, h2, h3, h5⟩, h4⟩
    exact ⟨h1, fun t ht => by simpa using (mem_free.mp (h2 t ht)).2.2, h3, h4, h5⟩
def lawTraps (ps : List Pg) : List (List Nat) := (List.range ps.length).flatMap fun k => (rowsN ps.length (k + 1)).filter (trapB ps)
theorem lawTraps_nil {ps : List Pg} : lawTraps ps = [] ↔ NoTrap ps := by
  unfold lawTraps
  rw [List.flatMap_eq_nil_iff]
  constructor
  · intro h p hp row o
    cases hc : clsd ps p row with
    | false => rfl
    | true =>
      exfalso
      have nd : (p :: row).Nodup := List.nodup_cons.mpr ⟨fun hm => (mem_free.mp (o.free p hm)).2.1 rfl, o.nd⟩
      have hb : ∀ t ∈ p :: row, t < ps.length := fun t ht => by
        rcases List.mem_cons.mp ht with rfl | ht
        · exact hp
        · exact (mem_free.mp (o.free t ht)).1
      have hlen : (p :: row).length ≤ ps.length := by
        have := L2.nat_nodup_len (p :: row) (List.range ps.length) nd fun t ht => by simpa using hb t ht
        simpa using this
      have h1 := h row.length (by rw [List.length_cons] at hlen; rw [List.mem_range]; omega)
      have h2 : p :: row ∈ (rowsN ps.length (row.length + 1)).filter (trapB ps) := List.mem_filter.mpr ⟨mem_rowsN.mpr ⟨rfl, nd, hb⟩, (trapB_iff nd hb).mpr ⟨o, hc⟩⟩
      rw [h1] at h2
      cases h2
  · intro h k hk
    rw [List.filter_eq_nil_iff]
    intro row hr ht
    obtain ⟨hl, nd, hb⟩ := mem_rowsN.mp hr
    cases row with
    | nil => cases hl
    | cons p path =>
      obtain ⟨o, hc⟩ := (trapB_iff nd hb).mp ht
      rw [h p (hb p (.head _)) path o] at hc
      cases hc

/-! ### reads promoted -/
abbrev Pr := Nat × Nat
def pk (a : Pr) : Int := keyP ((a.1 : Int), (a.2 : Int))
def usN (l : List Nat) : List Nat := usortK (fun n : Nat => (n : Int)) l
theorem mem_usN {l : List Nat} {x : Nat} : x ∈ usN l ↔ x ∈ l := ⟨of_usortK, in_usortK fun a _ b _ e => by omega⟩
def addW (prs : List Pr) (q : Pg × Nat) : Pg := (q.1.1, usN (q.1.2 ++ (prs.filter fun a => a.1 == q.2).map (·.2)))
def withW (ps : List Pg) (prs : List Pr) : List Pg := ps.zipIdx.map (addW prs)
def readsOf (ps : List Pg) : List Pr := ps.zipIdx.flatMap fun q => q.1.1.map fun x => (q.2, x)
theorem withW_len (ps : List Pg) (prs : List Pr) : (withW ps prs).length = ps.length := by simp [withW]
theorem withW_get {ps : List Pg} {prs : List Pr} {t : Nat} (h : t < ps.length) : (withW ps prs)[t]? = some (addW prs (ps[t], t)) := by
  simp [withW, h]
theorem rd_with {ps : List Pg} {prs : List Pr} {t : Nat} (h : t < ps.length) : rd (withW ps prs) t = rd ps t := by
  unfold rd
  rw [withW_get h, List.getElem?_eq_getElem h]
  rfl
theorem mem_wt_with {ps : List Pg} {prs : List Pr} {t x : Nat} (h : t < ps.length) : x ∈ wt (withW ps prs) t ↔ x ∈ wt ps t ∨ (t, x) ∈ prs := by
  unfold wt
  rw [withW_get h, List.getElem?_eq_getElem h]
  show x ∈ usN _ ↔ _
  rw [mem_usN, List.mem_append]
  refine or_congr Iff.rfl ?_
  simp only [List.mem_map, List.mem_filter, beq_iff_eq]
  constructor
  · rintro ⟨⟨a, b⟩, ⟨h1, h2⟩, h3⟩
    dsimp only at h2 h3
    subst h2 h3
    exact h1
  · exact fun h => ⟨(t, x), ⟨h, rfl⟩, rfl⟩
theorem mem_readsOf {ps : List Pg} {t x : Nat} : (t, x) ∈ readsOf ps ↔ t < ps.length ∧ x ∈ rd ps t := by
  unfold readsOf rd
  simp only [List.mem_flatMap, List.mem_map, Prod.mk.injEq]
  constructor
  · rintro ⟨⟨q, i⟩, hq, y, hy, rfl, rfl⟩
    obtain ⟨h1, h2⟩ := List.mem_zipIdx' hq
    refine ⟨h1, ?_⟩
    rw [List.getElem?_eq_getElem h1, Option.getD_some, ← h2]
    exact hy
  · rintro ⟨h1, h2⟩
    rw [List.getElem?_eq_getElem h1, Option.getD_some] at h2
    refine ⟨(ps[t], t), ?_, x, h2, rfl, rfl⟩
    rw [List.mem_zipIdx_iff_getElem?]
    simp [h1]
/-- all reads promoted: no trap is left -/
theorem all_noTrap (ps : List Pg) : NoTrap (withW ps (readsOf ps)) := fun p hp row o => by
  exfalso
  rw [withW_len] at hp
  have hd : row.headD 0 ∈ row := by
    cases row with
    | nil => exact absurd rfl o.ne
    | cons a l => exact .head _
  generalize row.headD 0 = a at hd
  have hs : meetB (rd (withW ps (readsOf ps)) p) (wt (withW ps (readsOf ps)) (row.headD 0)) = true := o.start
  have hf := mem_free.mp (o.free _ (show row.headD 0 ∈ row by cases row with
    | nil => exact absurd rfl o.ne
    | cons a l => exact .head _))
  rw [rd_with hp] at hs
  obtain ⟨x, h1, h2⟩ := meetB_iff.mp hs
  have h3 : x ∈ wt (withW ps (readsOf ps)) p := (mem_wt_with hp).mpr (.inr (mem_readsOf.mpr ⟨hp, h1⟩))
  have h4 := meetB_iff.mpr ⟨x, h2, h3⟩
  rw [hf.2.2] at h4
  cases h4
/-! ### rows of pairs -/
def lastP (row : List Pr) : Pr := row.getLast?.getD (0, 0)
def sgrow (rs : List Pr) (row : List Pr) : List (List Pr) := (rs.filter fun a => decide (row.length = 0) || decide (pk (lastP row) < pk a)).map fun a => row ++ [a]
def subsK (rs : List Pr) : Nat → List (List Pr)
  | 0 => [[]]
  | k + 1 => (subsK rs k).flatMap (sgrow rs)
abbrev Asc (row : List Pr) : Prop := row.Pairwise fun a b => pk a < pk b
theorem asc_snoc {row : List Pr} {a : Pr} (h : Asc row) (h2 : row = [] ∨ pk (lastP row) < pk a) : Asc (row ++ [a]) := by
  rcases h2 with rfl | h2
  · simp [Asc]
  refine List.pairwise_append.mpr ⟨h, by simp, fun x hx b hb => ?_⟩
  rw [List.mem_singleton.mp hb]
  by_cases hne : row = []
  · rw [hne] at hx; cases hx
  · have e : lastP row = row.getLast hne := by unfold lastP; rw [List.getLast?_eq_some_getLast hne]; rfl
    rw [e] at h2
    rw [← List.dropLast_concat_getLast hne] at h hx
    rcases List.mem_append.mp hx with hx | hx
    · have := (List.pairwise_append.mp h).2.2 x hx (row.getLast hne) (.head _)
      omega
    · rw [List.mem_singleton.mp hx]; exact h2
theorem mem_subsK {rs : List Pr} : ∀ {k : Nat} {row : List Pr}, row ∈ subsK rs k ↔ row.length = k ∧ Asc row ∧ ∀ a ∈ row, a ∈ rs
  | 0, row => by
    simp only [subsK, List.mem_singleton]
    constructor
    · rintro rfl; simp [Asc]
    · rintro ⟨h, _⟩; exact List.length_eq_zero_iff.mp h
  | k + 1, row => by
    simp only [subsK, List.mem_flatMap, sgrow, List.mem_map, List.mem_filter, Bool.or_eq_true, decide_eq_true_eq]
    constructor
    · rintro ⟨m, hm, a, ⟨h1, h2⟩, rfl⟩
      obtain ⟨hl, as, hb⟩ := mem_subsK.mp hm
      refine ⟨by rw [List.length_append, hl]; rfl, asc_snoc as (h2.imp List.length_eq_zero_iff.mp id), fun x hx => ?_⟩
      rcases List.mem_append.mp hx with hx | hx
      · exact hb x hx
      · rw [List.mem_singleton.mp hx]; exact h1
    · rintro ⟨hl, as, hb⟩
      obtain ⟨m, a, rfl, hm⟩ := snoc_of hl
      obtain ⟨a1, _, a3⟩ := List.pairwise_append.mp as
      refine ⟨m, mem_subsK.mpr ⟨hm, a1, fun x hx => hb x (List.mem_append_left _ hx)⟩, a, ⟨hb a (by simp), ?_⟩, rfl⟩
      by_cases hne : m = []
      · exact .inl (by rw [hne]; rfl)
      · refine .inr (a3 _ ?_ a (by simp))
        have e : lastP m = m.getLast hne := by unfold lastP; rw [List.getLast?_eq_some_getLast hne]; rfl
        rw [e]
        exact List.getLast_mem hne
theorem asc_sub_len {rs row : List Pr} (h : Asc row) (hs : ∀ a ∈ row, a ∈ rs) : row.length ≤ rs.length := by
  have nd : row.Nodup := h.imp fun {a b} h e => by rw [e] at h; omega
  induction row generalizing rs with
  | nil => simp
  | cons a l ih =>
    have hm := hs a (.head _)
    obtain ⟨h1, h2⟩ := List.pairwise_cons.mp h
    have hna := (List.nodup_cons.mp nd)
    have := ih (rs := rs.erase a) h2 (fun b hb => (List.mem_erase_of_ne (show b ≠ a from fun e => by rw [e] at hb; exact hna.1 hb)).mpr (hs b (.tail _ hb))) hna.2
    rw [List.length_erase_of_mem hm] at this
    have : 0 < rs.length := List.length_pos_of_mem hm
    simp only [List.length_cons]
    omega
end Trap

namespace Trap
open D3
/-! ### events of programs, plainly -/
def spots (ev : List Nat) (t : Nat) : List Nat := (List.range ev.length).filter fun k => ev[k]?.getD 0 == t
def bgn (ev : List Nat) (t : Nat) : Nat := (spots ev t)[0]?.getD 0
def fin (ev : List Nat) (t : Nat) : Nat := (spots ev t)[1]?.getD 0
structure GoodEv (n : Nat) (ev : List Nat) : Prop where
  two : ∀ t, t < n → ∃ i j, spots ev t = [i, j]
  mem : ∀ t ∈ ev, t < n
  len : ev.length ≤ 8
theorem spots_at {ev : List Nat} {t i j : Nat} (h : spots ev t = [i, j]) : bgn ev t = i ∧ fin ev t = j ∧ i < j ∧ j < ev.length := by
  have hp : (spots ev t).Pairwise (· < ·) := List.Pairwise.filter _ List.pairwise_lt_range
  have hm : j ∈ spots ev t := by rw [h]; simp
  have hj := (List.mem_filter.mp hm).1
  rw [h] at hp
  refine ⟨by unfold bgn; rw [h]; rfl, by unfold fin; rw [h]; rfl, ?_, List.mem_range.mp hj⟩
  exact (List.pairwise_cons.mp hp).1 j (by simp)
theorem GoodEv.lt {n : Nat} {ev : List Nat} (g : GoodEv n ev) {t : Nat} (h : t < n) : bgn ev t < fin ev t := by
  obtain ⟨i, j, e⟩ := g.two t h
  obtain ⟨a, b, c, _⟩ := spots_at e
  omega
theorem spots_ne {n : Nat} {ev : List Nat} (g : GoodEv n ev) {t u : Nat} (ht : t < n) (hu : u < n) (h : t ≠ u) : fin ev t ≠ fin ev u ∧ fin ev t ≠ bgn ev u ∧ bgn ev t ≠ bgn ev u := by
  obtain ⟨i, j, e⟩ := g.two t ht
  obtain ⟨i', j', e'⟩ := g.two u hu
  obtain ⟨a, b, _, _⟩ := spots_at e
  obtain ⟨a', b', _, _⟩ := spots_at e'
  have key : ∀ k, k ∈ spots ev t → k ∈ spots ev u → False := fun k h1 h2 => by
    have q1 := (List.mem_filter.mp h1).2
    have q2 := (List.mem_filter.mp h2).2
    rw [beq_iff_eq] at q1 q2
    exact h (q1.symm.trans q2)
  rw [e, e'] at key
  refine ⟨fun z => key j (by simp) (by rw [show j = j' by omega]; simp), fun z => key j (by simp) (by rw [show j = i' by omega]; simp), fun z => key i (by simp) (by rw [show i = i' by omega]; simp)⟩
def edge (ps : List Pg) (ev : List Nat) (t u : Nat) : Bool := (meetB (wt ps t) (wt ps u) && decide (fin ev t < fin ev u)) || ((meetB (wt ps t) (rd ps u) && decide (fin ev t < bgn ev u)) || (meetB (rd ps t) (wt ps u) && decide (bgn ev t < fin ev u)))
def overB (ev : List Nat) (t u : Nat) : Bool := decide (bgn ev t < fin ev u) && decide (bgn ev u < fin ev t)
def thrB (ps : List Pg) (ev : List Nat) : Bool := (List.range ps.length).all fun t => (List.range t).all fun u => !(overB ev t u && meetB (wt ps t) (wt ps u))
theorem over_comm (ev : List Nat) (t u : Nat) : overB ev t u = overB ev u t := Bool.and_comm _ _
theorem thrB_iff {ps : List Pg} {ev : List Nat} : thrB ps ev = true ↔ ∀ t u, t < ps.length → u < ps.length → t ≠ u → overB ev t u = true → meetB (wt ps t) (wt ps u) = false := by
  unfold thrB
  simp only [List.all_eq_true, List.mem_range, Bool.not_eq_true', Bool.and_eq_false_iff]
  constructor
  · intro h t u ht hu hne ho
    rcases Nat.lt_or_gt_of_ne hne with hl | hl
    · rcases h u hu t hl with q | q
      · rw [over_comm, ho] at q; cases q
      · rw [meetB_comm]; exact q
    · rcases h t ht u hl with q | q
      · rw [ho] at q; cases q
      · exact q
  · intro h t ht u hu
    cases ho : overB ev t u with
    | false => exact .inl rfl
    | true => exact .inr (h t u ht (by omega) (by omega) ho)
def pairsL (ps : List Pg) (ev : List Nat) : List Pr := (List.range ps.length).flatMap fun t => ((List.range ps.length).filter fun u => (t != u) && edge ps ev t u).map fun u => (t, u)
theorem mem_pairs {ps : List Pg} {ev : List Nat} {t u : Nat} : (t, u) ∈ pairsL ps ev ↔ t < ps.length ∧ u < ps.length ∧ t ≠ u ∧ edge ps ev t u = true := by
  simp only [pairsL, List.mem_flatMap, List.mem_map, List.mem_filter, List.mem_range, Prod.mk.injEq, Bool.and_eq_true, bne_iff_ne]
  constructor
  · rintro ⟨a, ha, b, ⟨hb, h1, h2⟩, rfl, rfl⟩; exact ⟨ha, hb, h1, h2⟩
  · rintro ⟨ha, hb, h1, h2⟩; exact ⟨t, ha, u, ⟨hb, h1, h2⟩, rfl, rfl⟩
/-! ### who has a pair to another who has one, .. -/
def keepL (prs : List Pr) (left : List Nat) : List Nat := left.filter fun t => prs.any fun a => (a.1 == t) && left.contains a.2
def leftN (prs : List Pr) (n : Nat) : Nat → List Nat
  | 0 => List.range n
  | k + 1 => keepL prs (leftN prs n k)
theorem left_keeps {prs : List Pr} {n : Nat} {S : List Nat} (hS : ∀ t ∈ S, t < n) (hs : ∀ t ∈ S, ∃ u ∈ S, (t, u) ∈ prs) : ∀ k, ∀ t ∈ S, t ∈ leftN prs n k
  | 0, t, ht => List.mem_range.mpr (hS t ht)
  | k + 1, t, ht => by
    obtain ⟨u, hu, hp⟩ := hs t ht
    refine List.mem_filter.mpr ⟨left_keeps hS hs k t ht, List.any_eq_true.mpr ⟨(t, u), hp, ?_⟩⟩
    simpa using left_keeps hS hs k u hu
theorem keep_fix {prs : List Pr} {L : List Nat} (h : (keepL prs L).length = L.length) : ∀ t ∈ L, ∃ u ∈ L, (t, u) ∈ prs := by
  have e : keepL prs L = L := List.filter_eq_self.mpr (List.length_filter_eq_length_iff.mp h)
  intro t ht
  rw [← e] at ht
  obtain ⟨⟨a, b⟩, h1, h2⟩ := List.any_eq_true.mp (List.mem_filter.mp ht).2
  simp only [Bool.and_eq_true, beq_iff_eq, List.contains_eq_mem, decide_eq_true_eq] at h2
  obtain ⟨rfl, h2⟩ := h2
  exact ⟨b, h2, h1⟩
theorem left_len (prs : List Pr) (n : Nat) : ∀ k, leftN prs n k = [] ∨ (leftN prs n k).length + k ≤ n ∨ ∃ j, j < k ∧ leftN prs n j ≠ [] ∧ (leftN prs n (j + 1)).length = (leftN prs n j).length
  | 0 => .inr (.inl (by simp [leftN]))
  | k + 1 => by
    rcases left_len prs n k with h | h | ⟨j, h1, h2⟩
    · left
      show keepL prs (leftN prs n k) = []
      rw [h]
      rfl
    · have hle : (leftN prs n (k + 1)).length ≤ (leftN prs n k).length := List.length_filter_le _ _
      by_cases he : (leftN prs n (k + 1)).length = (leftN prs n k).length
      · by_cases hz : leftN prs n k = []
        · left
          show keepL prs (leftN prs n k) = []
          rw [hz]
          rfl
        · exact .inr (.inr ⟨k, by omega, hz, he⟩)
      · exact .inr (.inl (by omega))
    · exact .inr (.inr ⟨j, by omega, h2⟩)
theorem left_sub (prs : List Pr) (n : Nat) : ∀ k, ∀ t ∈ leftN prs n k, t < n
  | 0, t, h => List.mem_range.mp h
  | k + 1, t, h => left_sub prs n k t (List.mem_filter.mp h).1
/-- something is left: a set, each of which has a pair within -/
theorem left_set {prs : List Pr} {n : Nat} (h : leftN prs n n ≠ []) : ∃ L : List Nat, L ≠ [] ∧ (∀ t ∈ L, t < n) ∧ ∀ t ∈ L, ∃ u ∈ L, (t, u) ∈ prs := by
  rcases left_len prs n n with h1 | h1 | ⟨j, _, h2, h3⟩
  · exact absurd h1 h
  · exact absurd (List.length_eq_zero_iff.mp (by omega)) h
  · exact ⟨leftN prs n j, h2, left_sub prs n j, keep_fix h3⟩
/-! ### a ring of events shows a trap: three programs at most -/
section
variable {ps : List Pg} {ev : List Nat} (g : GoodEv ps.length ev) (th : thrB ps ev = true)
include g th
/-- p ahead of c, which ends first: c is read over -/
theorem into_first {p c : Nat} (hp : p < ps.length) (hc : c < ps.length) (hne : p ≠ c) (he : edge ps ev p c = true) (hm : fin ev c < fin ev p) : meetB (rd ps p) (wt ps c) = true ∧ bgn ev p < fin ev c ∧ meetB (wt ps p) (wt ps c) = false := by
  have l1 := g.lt hp
  have l2 := g.lt hc
  unfold edge at he
  simp only [Bool.or_eq_true, Bool.and_eq_true, decide_eq_true_eq] at he
  rcases he with ⟨_, h⟩ | ⟨_, h⟩ | ⟨h1, h2⟩
  · omega
  · omega
  · refine ⟨h1, h2, thrB_iff.mp th p c hp hc hne ?_⟩
    simp only [overB, Bool.and_eq_true, decide_eq_true_eq]
    omega
/-- z ahead of p, z ends behind p's beginning: p is read over by z -/
theorem into_pivot {z p : Nat} (hz : z < ps.length) (hp : p < ps.length) (hne : z ≠ p) (he : edge ps ev z p = true) (hm : bgn ev p < fin ev z) : meetB (rd ps z) (wt ps p) = true ∧ meetB (wt ps z) (wt ps p) = false := by
  have l1 := g.lt hz
  have l2 := g.lt hp
  unfold edge at he
  simp only [Bool.or_eq_true, Bool.and_eq_true, decide_eq_true_eq] at he
  rcases he with ⟨h0, h⟩ | ⟨_, h⟩ | ⟨h1, h2⟩
  · have := thrB_iff.mp th z p hz hp hne (by simp only [overB, Bool.and_eq_true, decide_eq_true_eq]; omega)
    rw [h0] at this
    cases this
  · omega
  · refine ⟨h1, thrB_iff.mp th z p hz hp hne ?_⟩
    simp only [overB, Bool.and_eq_true, decide_eq_true_eq]
    omega
omit g th in
theorem edge_touch {t u : Nat} (h : edge ps ev t u = true) : tch ps t u = true := by
  rw [tch_eq]
  unfold edge at h
  unfold ltch
  simp only [Bool.or_eq_true, Bool.and_eq_true, decide_eq_true_eq] at h ⊢
  rcases h with ⟨h, _⟩ | ⟨h, _⟩ | ⟨h, _⟩
  · exact .inr (.inl h)
  · exact .inl h
  · exact .inr (.inr h)
/-- two in a ring -/
theorem ring_two {p c : Nat} (hp : p < ps.length) (hc : c < ps.length) (hne : p ≠ c) (h1 : edge ps ev p c = true) (h2 : edge ps ev c p = true) (hm : fin ev c < fin ev p) : Open ps p [c] ∧ clsd ps p [c] = true := by
  obtain ⟨a1, a2, a3⟩ := into_first g th hp hc hne h1 hm
  obtain ⟨b1, _⟩ := into_pivot g th hc hp (Ne.symm hne) h2 a2
  exact ⟨open_one.mpr ⟨mem_free.mpr ⟨hc, Ne.symm hne, by rw [meetB_comm]; exact a3⟩, a1⟩, b1⟩
/-- three in a ring -/
theorem ring_three {p c z : Nat} (hp : p < ps.length) (hc : c < ps.length) (hz : z < ps.length) (n1 : p ≠ c) (n2 : c ≠ z) (n3 : z ≠ p) (h1 : edge ps ev p c = true) (h2 : edge ps ev c z = true) (h3 : edge ps ev z p = true) (m1 : fin ev c < fin ev p) (m2 : fin ev c < fin ev z) : Open ps p [c, z] ∧ clsd ps p [c, z] = true := by
  obtain ⟨a1, a2, a3⟩ := into_first g th hp hc n1 h1 m1
  obtain ⟨b1, b2⟩ := into_pivot g th hz hp n3 h3 (by omega)
  refine ⟨(open_snoc (row := [c]) (by simp)).mpr ⟨open_one.mpr ⟨mem_free.mpr ⟨hc, Ne.symm n1, by rw [meetB_comm]; exact a3⟩, a1⟩, mem_free.mpr ⟨hz, n3, b2⟩, ?_, edge_touch h2⟩, b1⟩
  simpa using Ne.symm n2
theorem ring_trap (h3 : ps.length ≤ 3) (hr : leftN (pairsL ps ev) ps.length ps.length ≠ []) : ¬ NoTrap ps := by
  intro nt
  obtain ⟨L, hne, hlt, hsucc⟩ := left_set hr
  have no2 : ∀ a b, a < ps.length → b < ps.length → a ≠ b → edge ps ev a b = true → edge ps ev b a = true → False := fun a b ha hb hab h1 h2 => by
    have hf := (spots_ne g ha hb hab).1
    rcases Nat.lt_or_gt_of_ne hf with hl | hl
    · obtain ⟨o, c⟩ := ring_two g th hb ha (Ne.symm hab) h2 h1 hl
      rw [nt b hb _ o] at c; cases c
    · obtain ⟨o, c⟩ := ring_two g th ha hb hab h1 h2 hl
      rw [nt a ha _ o] at c; cases c
  have no3m : ∀ p c z, p < ps.length → c < ps.length → z < ps.length → p ≠ c → c ≠ z → z ≠ p → edge ps ev p c = true → edge ps ev c z = true → edge ps ev z p = true → fin ev c < fin ev p → fin ev c < fin ev z → False := fun p c z hp hc hz n1 n2 n3 h1 h2 h3 m1 m2 => by
    obtain ⟨o, c⟩ := ring_three g th hp hc hz n1 n2 n3 h1 h2 h3 m1 m2
    rw [nt p hp _ o] at c; cases c
  have no3 : ∀ a b c, a < ps.length → b < ps.length → c < ps.length → a ≠ b → b ≠ c → c ≠ a → edge ps ev a b = true → edge ps ev b c = true → edge ps ev c a = true → False := fun a b c ha hb hc n1 n2 n3 h1 h2 h3 => by
    have f1 := (spots_ne g ha hb n1).1
    have f2 := (spots_ne g hb hc n2).1
    have f3 := (spots_ne g hc ha n3).1
    by_cases q1 : fin ev b < fin ev a ∧ fin ev b < fin ev c
    · exact no3m a b c ha hb hc n1 n2 n3 h1 h2 h3 q1.1 q1.2
    · by_cases q2 : fin ev c < fin ev b ∧ fin ev c < fin ev a
      · exact no3m b c a hb hc ha n2 n3 n1 h2 h3 h1 q2.1 q2.2
      · exact no3m c a b hc ha hb n3 n1 n2 h3 h1 h2 (by omega) (by omega)
  obtain ⟨x0, h0⟩ := List.exists_mem_of_ne_nil L hne
  obtain ⟨x1, h1, p1⟩ := hsucc x0 h0
  obtain ⟨x2, h2, p2⟩ := hsucc x1 h1
  obtain ⟨x3, h3', p3⟩ := hsucc x2 h2
  obtain ⟨l0, l1, n1, e1⟩ := mem_pairs.mp p1
  obtain ⟨_, l2, n2, e2⟩ := mem_pairs.mp p2
  obtain ⟨_, l3, n3, e3⟩ := mem_pairs.mp p3
  by_cases q1 : x0 = x2
  · subst q1; exact no2 x0 x1 l0 l1 n1 e1 e2
  · by_cases q2 : x1 = x3
    · subst q2; exact no2 x1 x2 l1 l2 n2 e2 e3
    · have : x3 = x0 := by omega
      subst this
      exact no3 x3 x1 x2 l0 l1 l2 n1 n2 n3 e1 e2 e3
end
end Trap

namespace Trap
open D3
/-! ### the events of a trap -/
def dup (l : List Nat) : List Nat := l.flatMap fun t => [t, t]
def restOf (n p : Nat) (path : List Nat) : List Nat := (List.range n).filter fun t => (t != p) && !path.contains t
def tev (n p : Nat) (path : List Nat) : List Nat := p :: (dup path ++ p :: dup (restOf n p path))
theorem dup_len : ∀ l : List Nat, (dup l).length = 2 * l.length
  | [] => rfl
  | a :: l => by
    have := dup_len l
    show (a :: a :: dup l).length = _
    simp only [List.length_cons]
    omega
theorem dup_get : ∀ (l : List Nat) (k : Nat), (dup l)[k]?.getD 0 = l[k / 2]?.getD 0
  | [], k => by simp [dup]
  | a :: l, 0 => rfl
  | a :: l, 1 => rfl
  | a :: l, k + 2 => by
    have := dup_get l k
    show (a :: a :: dup l)[k + 2]?.getD 0 = _
    rw [show (k + 2) / 2 = k / 2 + 1 by omega]
    simpa using this
theorem app_get (a b : List Nat) (k : Nat) : (a ++ b)[k]?.getD 0 = if k < a.length then a[k]?.getD 0 else b[k - a.length]?.getD 0 := by
  split
  · rw [List.getElem?_append_left (by assumption)]
  · rw [List.getElem?_append_right (by omega)]
theorem tev_len (n p : Nat) (path : List Nat) : (tev n p path).length = 2 * path.length + 2 + 2 * (restOf n p path).length := by
  unfold tev
  rw [List.length_cons, List.length_append, List.length_cons, dup_len, dup_len]
  omega
theorem tev_get (n p : Nat) (path : List Nat) (k : Nat) : (tev n p path)[k]?.getD 0 = if k = 0 then p else if k < 2 * path.length + 1 then path[(k - 1) / 2]?.getD 0 else if k = 2 * path.length + 1 then p else (restOf n p path)[(k - 2 * path.length - 2) / 2]?.getD 0 := by
  cases k with
  | zero => rfl
  | succ k =>
    rw [if_neg (by omega)]
    show (dup path ++ p :: dup (restOf n p path))[k]?.getD 0 = _
    rw [app_get, dup_len]
    by_cases h1 : k < 2 * path.length
    · rw [if_pos h1, if_pos (by omega), dup_get, Nat.add_sub_cancel]
    · rw [if_neg h1, if_neg (by omega)]
      by_cases h2 : k = 2 * path.length
      · subst h2
        rw [Nat.sub_self, if_pos rfl]
        rfl
      · rw [if_neg (by omega)]
        obtain ⟨d, hd⟩ : ∃ d, k - 2 * path.length = d + 1 := ⟨k - 2 * path.length - 1, by omega⟩
        rw [hd, show k + 1 - 2 * path.length - 2 = d by omega]
        show (dup (restOf n p path))[d]?.getD 0 = _
        exact dup_get _ _
theorem spots_of {ev : List Nat} {t i j : Nat} (hij : i < j) (hj : j < ev.length) (h : ∀ k, k < ev.length → (ev[k]?.getD 0 = t ↔ k = i ∨ k = j)) : spots ev t = [i, j] := by
  refine asc_eq (key := fun n : Nat => (n : Int)) ?_ ?_ fun k => ?_
  · exact (List.Pairwise.filter _ List.pairwise_lt_range).imp fun {a b} h => by omega
  · simp
    omega
  · unfold spots
    rw [List.mem_filter, List.mem_range, beq_iff_eq]
    simp only [List.mem_cons, List.not_mem_nil, or_false]
    constructor
    · rintro ⟨h1, h2⟩; exact (h k h1).mp h2
    · intro hk
      have hl : k < ev.length := by omega
      exact ⟨hl, (h k hl).mpr hk⟩
theorem nodup_get {l : List Nat} (h : l.Nodup) {i j : Nat} (hi : i < l.length) (hj : j < l.length) (e : l[i]?.getD 0 = l[j]?.getD 0) : i = j := by
  rw [List.getElem?_eq_getElem hi, List.getElem?_eq_getElem hj] at e
  exact (List.getElem_inj h).mp e
theorem get_mem {l : List Nat} {i : Nat} (hi : i < l.length) : l[i]?.getD 0 ∈ l := by
  rw [List.getElem?_eq_getElem hi]
  exact List.getElem_mem hi
section
variable {n p : Nat} {path : List Nat} (nd : (p :: path).Nodup)
theorem mem_rest {t : Nat} : t ∈ restOf n p path ↔ t < n ∧ t ≠ p ∧ t ∉ path := by
  simp [restOf]
theorem rest_nodup : (restOf n p path).Nodup := List.Pairwise.filter _ List.nodup_range
include nd
theorem spots_p : spots (tev n p path) p = [0, 2 * path.length + 1] := by
  have hp := (List.nodup_cons.mp nd).1
  refine spots_of (by omega) (by rw [tev_len]; omega) fun k hk => ?_
  rw [tev_len] at hk
  rw [tev_get]
  by_cases h0 : k = 0
  · simp [h0]
  · rw [if_neg h0]
    by_cases h1 : k < 2 * path.length + 1
    · rw [if_pos h1]
      have hm := get_mem (l := path) (i := (k - 1) / 2) (by omega)
      constructor
      · intro e; rw [e] at hm; exact absurd hm hp
      · intro e; omega
    · rw [if_neg h1]
      by_cases h2 : k = 2 * path.length + 1
      · simp [h2]
      · rw [if_neg h2]
        have hm := get_mem (l := restOf n p path) (i := (k - 2 * path.length - 2) / 2) (by omega)
        constructor
        · intro e; rw [e] at hm; exact absurd rfl (mem_rest.mp hm).2.1
        · intro e; omega
theorem spots_path {i : Nat} (hi : i < path.length) : spots (tev n p path) (path[i]?.getD 0) = [2 * i + 1, 2 * i + 2] := by
  have hp := (List.nodup_cons.mp nd).1
  have hn := (List.nodup_cons.mp nd).2
  have hm0 := get_mem hi
  refine spots_of (by omega) (by rw [tev_len]; omega) fun k hk => ?_
  rw [tev_len] at hk
  rw [tev_get]
  by_cases h0 : k = 0
  · rw [if_pos h0]
    constructor
    · intro e; rw [← e] at hm0; exact absurd hm0 hp
    · intro e; omega
  · rw [if_neg h0]
    by_cases h1 : k < 2 * path.length + 1
    · rw [if_pos h1]
      constructor
      · intro e
        have := nodup_get hn (by omega) hi e
        omega
      · intro e
        rw [show (k - 1) / 2 = i by omega]
    · rw [if_neg h1]
      by_cases h2 : k = 2 * path.length + 1
      · rw [if_pos h2]
        constructor
        · intro e; rw [← e] at hm0; exact absurd hm0 hp
        · intro e; omega
      · rw [if_neg h2]
        have hm := get_mem (l := restOf n p path) (i := (k - 2 * path.length - 2) / 2) (by omega)
        constructor
        · intro e; rw [e] at hm; exact absurd hm0 (mem_rest.mp hm).2.2
        · intro e; omega
theorem spots_rest {i : Nat} (hi : i < (restOf n p path).length) : spots (tev n p path) ((restOf n p path)[i]?.getD 0) = [2 * path.length + 2 + 2 * i, 2 * path.length + 3 + 2 * i] := by
  have hm0 := get_mem hi
  have hr := mem_rest.mp hm0
  refine spots_of (by omega) (by rw [tev_len]; omega) fun k hk => ?_
  rw [tev_len] at hk
  rw [tev_get]
  by_cases h0 : k = 0
  · rw [if_pos h0]
    constructor
    · intro e; exact absurd e.symm hr.2.1
    · intro e; omega
  · rw [if_neg h0]
    by_cases h1 : k < 2 * path.length + 1
    · rw [if_pos h1]
      have hm := get_mem (l := path) (i := (k - 1) / 2) (by omega)
      constructor
      · intro e; rw [e] at hm; exact absurd hm hr.2.2
      · intro e; omega
    · rw [if_neg h1]
      by_cases h2 : k = 2 * path.length + 1
      · rw [if_pos h2]
        constructor
        · intro e; exact absurd e.symm hr.2.1
        · intro e; omega
      · rw [if_neg h2]
        constructor
        · intro e
          have := nodup_get rest_nodup (by omega) hi e
          omega
        · intro e
          rw [show (k - 2 * path.length - 2) / 2 = i by omega]
end
theorem mem_get {l : List Nat} {t : Nat} (h : t ∈ l) : ∃ i, i < l.length ∧ l[i]?.getD 0 = t := by
  obtain ⟨i, hi, e⟩ := List.getElem_of_mem h
  exact ⟨i, hi, by rw [List.getElem?_eq_getElem hi]; exact e⟩
/-- what stands where -/
theorem tev_place {n p : Nat} {path : List Nat} (nd : (p :: path).Nodup) {t : Nat} (h : t < n) : (t = p ∧ spots (tev n p path) t = [0, 2 * path.length + 1]) ∨ (∃ i, i < path.length ∧ t = path[i]?.getD 0 ∧ spots (tev n p path) t = [2 * i + 1, 2 * i + 2]) ∨
    ∃ i, i < (restOf n p path).length ∧ t = (restOf n p path)[i]?.getD 0 ∧ spots (tev n p path) t = [2 * path.length + 2 + 2 * i, 2 * path.length + 3 + 2 * i] := by
  by_cases hp : t = p
  · subst hp; exact .inl ⟨rfl, spots_p nd⟩
  · by_cases hq : t ∈ path
    · obtain ⟨i, hi, rfl⟩ := mem_get hq
      exact .inr (.inl ⟨i, hi, rfl, spots_path nd hi⟩)
    · obtain ⟨i, hi, rfl⟩ := mem_get (mem_rest.mpr ⟨h, hp, hq⟩)
      exact .inr (.inr ⟨i, hi, rfl, spots_rest nd hi⟩)
/-- p, the path, the rest: all programs, once -/
theorem all_perm {n p : Nat} {path : List Nat} (nd : (p :: path).Nodup) (hb : ∀ t ∈ p :: path, t < n) : (p :: (path ++ restOf n p path)).Perm (List.range n) := by
  refine (List.perm_ext_iff_of_nodup ?_ List.nodup_range).mpr fun t => ?_
  · have h1 := (List.nodup_cons.mp nd)
    refine List.nodup_cons.mpr ⟨fun h => ?_, List.nodup_append.mpr ⟨h1.2, rest_nodup, fun a ha b hb e => ?_⟩⟩
    · rcases List.mem_append.mp h with h | h
      · exact h1.1 h
      · exact (mem_rest.mp h).2.1 rfl
    · rw [← e] at hb
      exact (mem_rest.mp hb).2.2 ha
  · rw [List.mem_range]
    constructor
    · intro h
      rcases List.mem_cons.mp h with rfl | h
      · exact hb _ (.head _)
      · rcases List.mem_append.mp h with h | h
        · exact hb _ (.tail _ h)
        · exact (mem_rest.mp h).1
    · intro h
      by_cases hp : t = p
      · subst hp; exact .head _
      · by_cases hq : t ∈ path
        · exact .tail _ (List.mem_append_left _ hq)
        · exact .tail _ (List.mem_append_right _ (mem_rest.mpr ⟨h, hp, hq⟩))
theorem tev_good {n p : Nat} {path : List Nat} (h4 : n ≤ 4) (nd : (p :: path).Nodup) (hb : ∀ t ∈ p :: path, t < n) : GoodEv n (tev n p path) := by
  have hl := (all_perm nd hb).length_eq
  rw [List.length_cons, List.length_append, List.length_range] at hl
  refine ⟨fun t ht => ?_, fun t ht => ?_, by rw [tev_len]; omega⟩
  · rcases tev_place nd ht with ⟨_, e⟩ | ⟨i, _, _, e⟩ | ⟨i, _, _, e⟩ <;> exact ⟨_, _, e⟩
  · have hd : ∀ l : List Nat, ∀ x ∈ dup l, x ∈ l := fun l x hx => by
      unfold dup at hx
      obtain ⟨a, ha, hx⟩ := List.mem_flatMap.mp hx
      simp only [List.mem_cons, List.not_mem_nil, or_false, or_self] at hx
      rw [hx]; exact ha
    unfold tev at ht
    rcases List.mem_cons.mp ht with rfl | ht
    · exact hb _ (.head _)
    · rcases List.mem_append.mp ht with ht | ht
      · exact hb _ (.tail _ (hd _ _ ht))
      · rcases List.mem_cons.mp ht with rfl | ht
        · exact hb _ (.head _)
        · exact (mem_rest.mp (hd _ _ ht)).1
section
variable {ps : List Pg} {p : Nat} {path : List Nat} (hp : p < ps.length) (o : Open ps p path) (hc : clsd ps p path = true)
include hp o
theorem open_nd : (p :: path).Nodup ∧ ∀ t ∈ p :: path, t < ps.length := by
  refine ⟨List.nodup_cons.mpr ⟨fun h => ?_, o.nd⟩, fun t ht => ?_⟩
  · exact (mem_free.mp (o.free p h)).2.1 rfl
  · rcases List.mem_cons.mp ht with rfl | ht
    · exact hp
    · exact (mem_free.mp (o.free t ht)).1
theorem tev_thr : thrB ps (tev ps.length p path) = true := by
  obtain ⟨nd, hb⟩ := open_nd hp o
  refine thrB_iff.mpr fun t u ht hu hne ho => ?_
  simp only [overB, Bool.and_eq_true, decide_eq_true_eq] at ho
  have fr : ∀ i, i < path.length → meetB (wt ps (path[i]?.getD 0)) (wt ps p) = false := fun i hi => (mem_free.mp (o.free _ (get_mem hi))).2.2
  rcases tev_place nd ht with ⟨rfl, e1⟩ | ⟨i, hi, rfl, e1⟩ | ⟨i, hi, rfl, e1⟩ <;> rcases tev_place nd hu with ⟨rfl, e2⟩ | ⟨j, hj, rfl, e2⟩ | ⟨j, hj, rfl, e2⟩
  all_goals
    obtain ⟨a1, a2, _, _⟩ := spots_at e1
    obtain ⟨b1, b2, _, _⟩ := spots_at e2
    simp only [a1, a2, b1, b2] at ho
  · exact absurd rfl hne
  · rw [meetB_comm]; exact fr j hj
  · omega
  · exact fr i hi
  · have : i ≠ j := fun z => hne (by rw [z])
    omega
  · omega
  · omega
  · omega
  · have : i ≠ j := fun z => hne (by rw [z])
    omega
include hc
theorem tev_ring : ∀ k, leftN (pairsL ps (tev ps.length p path)) ps.length k ≠ [] := by
  obtain ⟨nd, hb⟩ := open_nd hp o
  have hpath : 0 < path.length := List.length_pos_iff.mpr o.ne
  have hp0 := (List.nodup_cons.mp nd).1
  have ch : ∀ i, i + 1 < path.length → tch ps (path[i]?.getD 0) (path[i + 1]?.getD 0) = true := fun i hi => by
    have hch := o.chain
    clear nd hb hpath hp0 hc hp o
    induction path generalizing i with
    | nil => simp at hi
    | cons a l ih =>
      cases l with
      | nil => simp at hi
      | cons b l =>
        have hch' : (tch ps a b && chainB (tch ps) (b :: l)) = true := hch
        rw [Bool.and_eq_true] at hch'
        cases i with
        | zero => exact hch'.1
        | succ i => exact ih i (by simpa using hi) hch'.2
  have succ : ∀ t ∈ p :: path, ∃ u ∈ p :: path, (t, u) ∈ pairsL ps (tev ps.length p path) := by
    intro t ht
    rcases List.mem_cons.mp ht with rfl | ht
    · refine ⟨path[0]?.getD 0, .tail _ (get_mem hpath), mem_pairs.mpr ⟨hp, hb _ (.tail _ (get_mem hpath)), fun z => hp0 (z ▸ get_mem hpath), ?_⟩⟩
      obtain ⟨a1, a2, _, _⟩ := spots_at (spots_p (n := ps.length) nd)
      obtain ⟨b1, b2, _, _⟩ := spots_at (spots_path (n := ps.length) nd hpath)
      have hs := o.start
      rw [show path.headD 0 = path[0]?.getD 0 by cases path <;> rfl] at hs
      unfold edge
      rw [hs, a1, b2]
      simp
    · obtain ⟨i, hi, rfl⟩ := mem_get ht
      obtain ⟨a1, a2, _, _⟩ := spots_at (spots_path (n := ps.length) nd hi)
      by_cases hl : i + 1 < path.length
      · refine ⟨path[i + 1]?.getD 0, .tail _ (get_mem hl), mem_pairs.mpr ⟨hb _ (.tail _ (get_mem hi)), hb _ (.tail _ (get_mem hl)), fun z => by have := nodup_get o.nd hi hl z; omega, ?_⟩⟩
        obtain ⟨b1, b2, _, _⟩ := spots_at (spots_path (n := ps.length) nd hl)
        have ht := ch i hl
        rw [tch_eq] at ht
        unfold ltch at ht
        unfold edge
        rw [a1, a2, b1, b2]
        simp only [Bool.or_eq_true, Bool.and_eq_true, decide_eq_true_eq] at ht ⊢
        rcases ht with h | h | h
        · exact .inr (.inl ⟨h, by omega⟩)
        · exact .inl ⟨h, by omega⟩
        · exact .inr (.inr ⟨h, by omega⟩)
      · refine ⟨p, .head _, mem_pairs.mpr ⟨hb _ (.tail _ (get_mem hi)), hp, fun z => hp0 (z ▸ get_mem hi), ?_⟩⟩
        obtain ⟨b1, b2, _, _⟩ := spots_at (spots_p (n := ps.length) nd)
        have hcl : meetB (rd ps (lastN path)) (wt ps p) = true := hc
        have el : lastN path = path[i]?.getD 0 := by
          unfold lastN
          rw [List.getLast?_eq_getElem?, show path.length - 1 = i by omega]
        rw [el] at hcl
        unfold edge
        rw [hcl, a1, b2]
        simp
        omega
  intro k hk
  have := left_keeps hb succ k p (.head _)
  rw [hk] at this
  cases this
end
end Trap

namespace Trap
open D3 Ord
/-! ### orders of programs, plainly -/
structure Row (n : Nat) (o : List Nat) : Prop where
  nd : o.Nodup
  lt : ∀ t ∈ o, t < n
  len : o.length = n
theorem Row.mem {n : Nat} {o : List Nat} (h : Row n o) {t : Nat} (ht : t < n) : t ∈ o := by
  have p : o.Perm (List.range n) := by
    refine (List.perm_ext_iff_of_nodup h.nd List.nodup_range).mpr fun x => ⟨fun hx => List.mem_range.mpr (h.lt x hx), fun hx => ?_⟩
    apply Classical.byContradiction
    intro hno
    have h2 := L2.nat_nodup_len (x :: o) (List.range n) (List.nodup_cons.mpr ⟨hno, h.nd⟩) fun y hy => by
      rcases List.mem_cons.mp hy with rfl | hy
      · exact hx
      · exact List.mem_range.mpr (h.lt y hy)
    rw [List.length_cons, h.len, List.length_range] at h2
    omega
  exact p.mem_iff.mpr (List.mem_range.mpr ht)
abbrev ix (o : List Nat) (t : Nat) : Nat := o.idxOf t
theorem Row.ix_lt {n : Nat} {o : List Nat} (h : Row n o) {t : Nat} (ht : t < n) : ix o t < n := by
  have := List.idxOf_lt_length_of_mem (h.mem ht)
  rw [h.len] at this
  exact this
theorem ix_get {o : List Nat} {t : Nat} (h : t ∈ o) : o[ix o t]?.getD 0 = t := by
  have hl := List.idxOf_lt_length_of_mem h
  rw [List.getElem?_eq_getElem hl]
  exact List.getElem_idxOf hl
theorem get_ix {o : List Nat} (nd : o.Nodup) {i : Nat} (h : i < o.length) : ix o (o[i]?.getD 0) = i := by
  rw [List.getElem?_eq_getElem h]
  exact List.Nodup.idxOf_getElem nd i h
theorem ix_inj {o : List Nat} {t u : Nat} (ht : t ∈ o) (hu : u ∈ o) (e : ix o t = ix o u) : t = u := by
  have a := ix_get ht
  rw [e, ix_get hu] at a
  exact a.symm
/-- one after the other -/
theorem spots_dup {n : Nat} {o : List Nat} (h : Row n o) {t : Nat} (ht : t < n) : spots (dup o) t = [2 * ix o t, 2 * ix o t + 1] := by
  have hl := h.ix_lt ht
  refine spots_of (by omega) (by rw [dup_len, h.len]; omega) fun k hk => ?_
  rw [dup_len] at hk
  rw [dup_get]
  constructor
  · intro e
    have : ix o (o[k / 2]?.getD 0) = k / 2 := get_ix h.nd (by omega)
    rw [e] at this
    omega
  · intro hk2
    rw [show k / 2 = ix o t by omega]
    exact ix_get (h.mem ht)
theorem seq_good {n : Nat} (h4 : n ≤ 4) {o : List Nat} (h : Row n o) : GoodEv n (dup o) := by
  refine ⟨fun t ht => ⟨_, _, spots_dup h ht⟩, fun t ht => ?_, by rw [dup_len, h.len]; omega⟩
  obtain ⟨x, hx, hm⟩ := List.mem_flatMap.mp ht
  simp only [List.mem_cons, List.not_mem_nil, or_false, or_self] at hm
  rw [hm]
  exact h.lt x hx
theorem seq_at {n : Nat} {o : List Nat} (h : Row n o) {t : Nat} (ht : t < n) : bgn (dup o) t = 2 * ix o t ∧ fin (dup o) t = 2 * ix o t + 1 := by
  obtain ⟨a, b, _, _⟩ := spots_at (spots_dup h ht)
  exact ⟨a, b⟩
def goB (P : List Pr) (o : List Nat) : Bool := P.all fun a => decide (ix o a.1 < ix o a.2)
theorem goB_iff {P : List Pr} {o : List Nat} : goB P o = true ↔ ∀ t u, (t, u) ∈ P → ix o t < ix o u := by
  unfold goB
  rw [List.all_eq_true]
  exact ⟨fun h t u hm => by simpa using h (t, u) hm, fun h a ha => by simpa using h a.1 a.2 ha⟩
/-- who wrote last what t reads -/
def LastW (ps : List Pg) (ev : List Nat) (t x : Nat) (w : Option Nat) : Prop := match w with
  | none => ∀ u, u < ps.length → x ∈ wt ps u → ¬ fin ev u < bgn ev t
  | some w => w < ps.length ∧ x ∈ wt ps w ∧ fin ev w < bgn ev t ∧ ∀ u, u < ps.length → x ∈ wt ps u → fin ev u < bgn ev t → fin ev u ≤ fin ev w
section
variable {ps : List Pg} {ev o : List Nat} (g : GoodEv ps.length ev) (r : Row ps.length o)
include g r
theorem same_before (go : goB (pairsL ps ev) o = true) {t x u : Nat} (ht : t < ps.length) (hx : x ∈ rd ps t) (hu : u < ps.length) (hxu : x ∈ wt ps u) : fin ev u < bgn ev t ↔ fin (dup o) u < bgn (dup o) t := by
  have go := goB_iff.mp go
  obtain ⟨a1, a2⟩ := seq_at r ht
  obtain ⟨b1, b2⟩ := seq_at r hu
  rw [a1, b2]
  by_cases e : u = t
  · subst e
    have := g.lt hu
    omega
  · constructor
    · intro hl
      have := go u t (mem_pairs.mpr ⟨hu, ht, e, by
        unfold edge
        rw [meetB_iff.mpr ⟨x, hxu, hx⟩, decide_eq_true hl]
        simp⟩)
      omega
    · intro hl
      apply Classical.byContradiction
      intro hn
      have hne := (spots_ne g hu ht e).2.1
      have := go t u (mem_pairs.mpr ⟨ht, hu, Ne.symm e, by
        unfold edge
        rw [meetB_iff.mpr ⟨x, hx, hxu⟩, decide_eq_true (show bgn ev t < fin ev u by omega)]
        simp⟩)
      omega
theorem go_last (go : goB (pairsL ps ev) o = true) {t x : Nat} (ht : t < ps.length) (hx : x ∈ rd ps t) {w w' : Option Nat} (h : LastW ps ev t x w) (h' : LastW ps (dup o) t x w') : w = w' := by
  have sb := fun {u : Nat} (hu : u < ps.length) (hxu : x ∈ wt ps u) => same_before g r go ht hx hu hxu
  cases w with
  | none =>
    cases w' with
    | none => rfl
    | some w' =>
      obtain ⟨h1, h2, h3, _⟩ := h'
      exact absurd ((sb h1 h2).mpr h3) (h w' h1 h2)
  | some w =>
    obtain ⟨h1, h2, h3, h4⟩ := h
    cases w' with
    | none => exact absurd ((sb h1 h2).mp h3) (h' w h1 h2)
    | some w' =>
      obtain ⟨k1, k2, k3, k4⟩ := h'
      by_cases e : w = w'
      · rw [e]
      · exfalso
        have q1 := h4 w' k1 k2 ((sb k1 k2).mpr k3)
        have q2 := k4 w h1 h2 ((sb h1 h2).mp h3)
        have hne := (spots_ne g h1 k1 e).1
        have := goB_iff.mp go w' w (mem_pairs.mpr ⟨k1, h1, Ne.symm e, by
          unfold edge
          rw [meetB_iff.mpr ⟨x, k2, h2⟩, decide_eq_true (show fin ev w' < fin ev w by omega)]
          simp⟩)
        rw [(seq_at r h1).2, (seq_at r k1).2] at q2
        omega
/-- the writers stand in the order of their ends -/
def EndsUp (ps : List Pg) (ev o : List Nat) : Prop := ∀ t u, t < ps.length → u < ps.length → ix o t < ix o u → meetB (wt ps t) (wt ps u) = true → ¬ fin ev u < fin ev t
theorem go_ends (go : goB (pairsL ps ev) o = true) : EndsUp ps ev o := fun t u ht hu hl hm hf => by
  have hne : u ≠ t := fun e => by rw [e] at hf; omega
  have := goB_iff.mp go u t (mem_pairs.mpr ⟨hu, ht, hne, by
    unfold edge
    rw [meetB_comm, hm, decide_eq_true hf]
    simp⟩)
  omega
theorem fits_go (he : EndsUp ps ev o) (hs : ∀ t x, t < ps.length → x ∈ rd ps t → ∃ w, LastW ps ev t x w ∧ LastW ps (dup o) t x w) : goB (pairsL ps ev) o = true := by
  refine goB_iff.mpr fun t u hm => ?_
  obtain ⟨ht, hu, hne, hedge⟩ := mem_pairs.mp hm
  have ixne : ∀ {a b : Nat}, a < ps.length → b < ps.length → a ≠ b → ix o a ≠ ix o b := fun ha hb h e => h (ix_inj (r.mem ha) (r.mem hb) e)
  have ww : ∀ {a b : Nat}, a < ps.length → b < ps.length → meetB (wt ps a) (wt ps b) = true → fin ev a < fin ev b → ix o a < ix o b := fun {a b} ha hb hm hf => by
    apply Classical.byContradiction
    intro hn
    have hab : a ≠ b := fun e => by rw [e] at hf; omega
    have := ixne ha hb hab
    exact he b a hb ha (by omega) (by rw [meetB_comm]; exact hm) hf
  unfold edge at hedge
  simp only [Bool.or_eq_true, Bool.and_eq_true, decide_eq_true_eq] at hedge
  rcases hedge with ⟨h1, h2⟩ | ⟨h1, h2⟩ | ⟨h1, h2⟩
  · exact ww ht hu h1 h2
  · obtain ⟨x, hx1, hx2⟩ := meetB_iff.mp h1
    obtain ⟨w, l1, l2⟩ := hs u x hu hx2
    cases w with
    | none => exact absurd h2 (l1 t ht hx1)
    | some w =>
      obtain ⟨k1, k2, k3, k4⟩ := l1
      obtain ⟨_, _, m3, _⟩ := l2
      rw [(seq_at r k1).2, (seq_at r hu).1] at m3
      by_cases e : w = t
      · rw [e] at m3; omega
      · have q := k4 t ht hx1 h2
        have hne2 := (spots_ne g ht k1 (Ne.symm e)).1
        have := ww ht k1 (meetB_iff.mpr ⟨x, hx1, k2⟩) (by omega)
        omega
  · obtain ⟨x, hx1, hx2⟩ := meetB_iff.mp h1
    apply Classical.byContradiction
    intro hn
    have hi := ixne ht hu hne
    obtain ⟨w, l1, l2⟩ := hs t x ht hx1
    cases w with
    | none =>
      refine l2 u hu hx2 ?_
      rw [(seq_at r hu).2, (seq_at r ht).1]
      omega
    | some w =>
      obtain ⟨k1, k2, k3, k4⟩ := l1
      obtain ⟨_, _, m3, m4⟩ := l2
      have q := m4 u hu hx2 (by rw [(seq_at r hu).2, (seq_at r ht).1]; omega)
      rw [(seq_at r hu).2, (seq_at r k1).2] at q
      have hwu : w ≠ u := fun e => by rw [e] at k3; omega
      have hi2 := ixne k1 hu hwu
      have := he u w hu k1 (by omega) (meetB_iff.mpr ⟨x, hx2, k2⟩)
      omega
end
/-! ### orders and rings -/
theorem left_peel (P : List Pr) (n : Nat) : ∀ k, Ranked P (List.range n) ↔ Ranked P (leftN P n k)
  | 0 => Iff.rfl
  | k + 1 => (left_peel P n k).trans ranked_peel
theorem left_ranked {P : List Pr} {n : Nat} : leftN P n n = [] ↔ Ranked P (List.range n) := by
  constructor
  · intro h
    rw [left_peel P n n, h]
    exact ranked_nil
  · rintro ⟨r, hr⟩
    apply Classical.byContradiction
    intro hne
    obtain ⟨L, h1, h2, h3⟩ := left_set hne
    obtain ⟨x, hx, hm⟩ := max_of r h1
    obtain ⟨u, hu, hp⟩ := h3 x hx
    have := hr x u hp (List.mem_range.mpr (h2 x hx)) (List.mem_range.mpr (h2 u hu))
    have := hm u hu
    omega
theorem go_ranked {P : List Pr} {n : Nat} {o : List Nat} (h : goB P o = true) : Ranked P (List.range n) := ⟨ix o, fun a b hp _ _ => goB_iff.mp h a b hp⟩
end Trap

namespace Trap
open D3 Ord
/-! ### paths and rings of pairs -/
abbrev inP (P : List Pr) (a b : Nat) : Bool := P.contains (a, b)
structure Pth (P : List Pr) (n : Nat) (row : List Nat) : Prop where
  nd : row.Nodup
  chain : chainB (inP P) row = true
  lt : ∀ t ∈ row, t < n
def rowsR (P : List Pr) : Nat → List (List Nat)
  | 0 => P.map fun a => [a.1, a.2]
  | k + 1 => (rowsR P k).flatMap fun row => (P.filter fun a => (a.1 == lastN row) && !row.contains a.2).map fun a => row ++ [a.2]
structure OkP (P : List Pr) (n : Nat) : Prop where
  ne : ∀ a b, (a, b) ∈ P → a ≠ b
  lt : ∀ a b, (a, b) ∈ P → a < n ∧ b < n
theorem last_snoc (m : List Nat) (t : Nat) : lastN (m ++ [t]) = t := by
  unfold lastN
  rw [List.getLast?_append]
  rfl
section
variable {P : List Pr} {n : Nat} (h : OkP P n)
include h
theorem mem_rowsR : ∀ {k : Nat} {row : List Nat}, row ∈ rowsR P k ↔ row.length = k + 2 ∧ Pth P n row
  | 0, row => by
    simp only [rowsR, List.mem_map]
    constructor
    · rintro ⟨⟨a, b⟩, hm, rfl⟩
      obtain ⟨l1, l2⟩ := h.lt a b hm
      refine ⟨rfl, by simpa using h.ne a b hm, ?_, fun t ht => ?_⟩
      · show (P.contains (a, b) && true) = true
        simpa using hm
      · simp only [List.mem_cons, List.not_mem_nil, or_false] at ht
        rcases ht with rfl | rfl
        · exact l1
        · exact l2
    · rintro ⟨hl, p⟩
      match row, hl with
      | [a, b], _ =>
        have := p.chain
        have hc : (P.contains (a, b) && true) = true := this
        exact ⟨(a, b), by simpa using hc, rfl⟩
  | k + 1, row => by
    simp only [rowsR, List.mem_flatMap, List.mem_map, List.mem_filter, Bool.and_eq_true, beq_iff_eq, Bool.not_eq_true', List.contains_eq_mem, decide_eq_false_iff_not]
    constructor
    · rintro ⟨r0, h0, ⟨a, b⟩, ⟨hm, h1, h2⟩, rfl⟩
      obtain ⟨hl, p⟩ := mem_rowsR.mp h0
      have hne : r0 ≠ [] := fun e => by rw [e] at hl; cases hl
      dsimp only at h1 h2
      refine ⟨by rw [List.length_append, hl]; rfl, List.nodup_append.mpr ⟨p.nd, by simp, fun x hx y hy e => ?_⟩, ?_, fun t ht => ?_⟩
      · rw [List.mem_singleton.mp hy] at e
        have e : x = b := e
        subst e
        exact h2 hx
      · rw [chain_snoc _ _ _ hne, p.chain, ← h1]
        simpa using hm
      · rcases List.mem_append.mp ht with ht | ht
        · exact p.lt t ht
        · rw [List.mem_singleton.mp ht]
          exact (h.lt a b hm).2
    · rintro ⟨hl, p⟩
      obtain ⟨m, t, rfl, hm⟩ := snoc_of hl
      have hne : m ≠ [] := fun e => by rw [e] at hm; cases hm
      have hc := p.chain
      rw [chain_snoc _ _ _ hne, Bool.and_eq_true] at hc
      have nd := p.nd
      rw [List.nodup_append] at nd
      refine ⟨m, mem_rowsR.mpr ⟨hm, nd.1, hc.1, fun t ht => p.lt t (List.mem_append_left _ ht)⟩, (lastN m, t), ⟨by simpa using hc.2, rfl, fun hx => nd.2.2 t hx t (by simp) rfl⟩, rfl⟩
theorem rowsR_end {k : Nat} (hk : n < k + 2) : rowsR P k = [] := by
  rw [List.eq_nil_iff_forall_not_mem]
  intro row hr
  obtain ⟨hl, p⟩ := (mem_rowsR h).mp hr
  have := L2.nat_nodup_len row (List.range n) p.nd fun t ht => List.mem_range.mpr (p.lt t ht)
  rw [List.length_range] at this
  omega
omit h in
theorem rowsR_nil {k : Nat} (he : rowsR P k = []) : ∀ j, k ≤ j → rowsR P j = [] := fun j hj => by
  induction j with
  | zero => rwa [show k = 0 by omega] at he
  | succ j ih =>
    by_cases e : k = j + 1
    · rwa [e] at he
    · simp only [rowsR, ih (by omega), List.flatMap_nil]
def clR (P : List Pr) (row : List Nat) : Bool := inP P (lastN row) (row.headD 0)
omit h in
theorem chain_drop {T : Nat → Nat → Bool} : ∀ {s l : List Nat}, chainB T (s ++ l) = true → chainB T l = true
  | [], l, hc => hc
  | [a], [], _ => rfl
  | [a], b :: l, hc => by
    have hc : (T a b && chainB T (b :: l)) = true := hc
    rw [Bool.and_eq_true] at hc
    exact hc.2
  | a :: b :: s, l, hc => by
    have hc : (T a b && chainB T ((b :: s) ++ l)) = true := hc
    rw [Bool.and_eq_true] at hc
    exact chain_drop hc.2
theorem ring_ex {L : List Nat} (hlt : ∀ t ∈ L, t < n) (hsucc : ∀ t ∈ L, ∃ u ∈ L, (t, u) ∈ P) : ∀ (d : Nat) (row : List Nat), row ≠ [] → Pth P n row → (∀ t ∈ row, t ∈ L) → n ≤ row.length + d → ∃ r, 2 ≤ r.length ∧ Pth P n r ∧ clR P r = true := by
  intro d
  induction d with
  | zero =>
    intro row hne p hL hd
    exact aux row hne p hL fun u hu hno => by
      have h2 := L2.nat_nodup_len (u :: row) (List.range n) (List.nodup_cons.mpr ⟨hno, p.nd⟩) fun y hy => by
        rcases List.mem_cons.mp hy with rfl | hy
        · exact List.mem_range.mpr (hlt _ hu)
        · exact List.mem_range.mpr (p.lt y hy)
      rw [List.length_cons, List.length_range] at h2
      omega
  | succ d ih =>
    intro row hne p hL hd
    apply Classical.byContradiction
    intro hno
    refine hno (aux row hne p hL fun u hu hun => ?_)
    intro hp
    refine hno (ih (row ++ [u]) (by simp) ⟨List.nodup_append.mpr ⟨p.nd, by simp, fun x hx y hy e => ?_⟩, ?_, fun t ht => ?_⟩ (fun t ht => ?_) (by rw [List.length_append]; simp; omega))
    · rw [List.mem_singleton.mp hy] at e
      exact hun (e ▸ hx)
    · rw [chain_snoc _ _ _ hne, p.chain]
      simpa using hp
    · rcases List.mem_append.mp ht with ht | ht
      · exact p.lt t ht
      · rw [List.mem_singleton.mp ht]; exact hlt u hu
    · rcases List.mem_append.mp ht with ht | ht
      · exact hL t ht
      · rw [List.mem_singleton.mp ht]; exact hu
where
  aux (row : List Nat) (hne : row ≠ []) (p : Pth P n row) (hL : ∀ t ∈ row, t ∈ L) (hno : ∀ u, u ∈ L → u ∉ row → (lastN row, u) ∈ P → False) : ∃ r, 2 ≤ r.length ∧ Pth P n r ∧ clR P r = true := by
    have hl : lastN row ∈ row := by
      unfold lastN
      rw [List.getLast?_eq_some_getLast hne]
      exact List.getLast_mem _
    obtain ⟨u, hu, hp⟩ := hsucc _ (hL _ hl)
    by_cases hur : u ∈ row
    · obtain ⟨s, t, e⟩ := List.append_of_mem hur
      have hlast : lastN row = lastN (u :: t) := by
        unfold lastN
        rw [e, List.getLast?_append]
        cases hq : (u :: t).getLast? with
        | none => simp at hq
        | some z => rfl
      have ht : t ≠ [] := fun z => by
        rw [z] at hlast
        have : lastN row = u := hlast
        exact h.ne _ _ hp this
      refine ⟨u :: t, ?_, ⟨?_, ?_, fun x hx => ?_⟩, ?_⟩
      · have := List.length_pos_iff.mpr ht
        rw [List.length_cons]
        omega
      · have nd := p.nd
        rw [e, List.nodup_append] at nd
        exact nd.2.1
      · have hc := p.chain
        rw [e] at hc
        exact chain_drop hc
      · refine p.lt x ?_
        rw [e]
        exact List.mem_append_right _ hx
      · unfold clR
        rw [← hlast]
        simpa using hp
    · exact (hno u hu hur hp).elim
end
/-- each to the next, the last to the first -/
def prevN (r : List Nat) (k : Nat) : Nat := if k = 0 then lastN r else r[k - 1]?.getD 0
def ringAll (P : List Pr) (r : List Nat) : Bool := (List.range r.length).all fun k => inP P (prevN r k) (r[k]?.getD 0)
theorem chain_get {T : Nat → Nat → Bool} : ∀ {l : List Nat}, chainB T l = true → ∀ i, i + 1 < l.length → T (l[i]?.getD 0) (l[i + 1]?.getD 0) = true
  | [], _, i, hi => by simp at hi
  | [a], _, i, hi => by simp at hi
  | a :: b :: l, hc, i, hi => by
    have hc : (T a b && chainB T (b :: l)) = true := hc
    rw [Bool.and_eq_true] at hc
    cases i with
    | zero => exact hc.1
    | succ i => exact chain_get hc.2 i (by simpa using hi)
theorem ring_all {P : List Pr} {n : Nat} {r : List Nat} (p : Pth P n r) (hc : clR P r = true) : ringAll P r = true := by
  unfold ringAll
  rw [List.all_eq_true]
  intro k hk
  have hk := List.mem_range.mp hk
  unfold prevN
  by_cases h0 : k = 0
  · subst h0
    rw [if_pos rfl]
    have : r[0]?.getD 0 = r.headD 0 := by cases r <;> rfl
    rw [this]
    exact hc
  · rw [if_neg h0]
    have := chain_get p.chain (k - 1) (by omega)
    rw [show k - 1 + 1 = k by omega] at this
    exact this
end Trap

/-! ### plain: chains -/
namespace Trap
theorem chain_take {f : Nat → Nat → Bool} : ∀ {u v : List Nat}, chainB f (u ++ v) = true → chainB f u = true
  | [], _, _ => rfl
  | [a], _, _ => rfl
  | a :: b :: u, v, h => by
    have h : (f a b && chainB f ((b :: u) ++ v)) = true := h
    rw [Bool.and_eq_true] at h
    show (f a b && chainB f (b :: u)) = true
    rw [h.1, chain_take h.2]
    rfl
theorem last_cons {a : Nat} {l : List Nat} (h : l ≠ []) : lastN (a :: l) = lastN l := by
  unfold lastN
  cases l with
  | nil => exact absurd rfl h
  | cons b l => rw [List.getLast?_cons_cons]
theorem chain_app {f : Nat → Nat → Bool} : ∀ {v u : List Nat}, v ≠ [] → u ≠ [] → chainB f v = true → chainB f u = true → f (lastN v) (u.headD 0) = true → chainB f (v ++ u) = true
  | [], _, h, _, _, _, _ => absurd rfl h
  | [a], [], _, h, _, _, _ => absurd rfl h
  | [a], b :: u, _, _, _, hu, hl => by
    show (f a b && chainB f (b :: u)) = true
    rw [hu, show f a b = true from hl]
    rfl
  | a :: b :: v, u, _, hu0, hv, hu, hl => by
    have hv : (f a b && chainB f (b :: v)) = true := hv
    rw [Bool.and_eq_true] at hv
    show (f a b && chainB f ((b :: v) ++ u)) = true
    rw [hv.1, chain_app (v := b :: v) (by simp) hu0 hv.2 hu (by rw [← last_cons (a := a) (by simp)]; exact hl)]
    rfl
theorem chain_rev {f : Nat → Nat → Bool} (sym : ∀ a b, f a b = f b a) : ∀ {l : List Nat}, chainB f l = true → chainB f l.reverse = true
  | [], _ => rfl
  | [a], _ => rfl
  | a :: b :: l, h => by
    have h : (f a b && chainB f (b :: l)) = true := h
    rw [Bool.and_eq_true] at h
    have ih := chain_rev sym h.2
    rw [List.reverse_cons, chain_snoc _ _ _ (by simp), ih]
    have : lastN (b :: l).reverse = b := by
      unfold lastN
      rw [List.reverse_cons, List.getLast?_append]
      rfl
    rw [this, sym b a, h.1]
    rfl
theorem chain_imp {f g : Nat → Nat → Bool} (h : ∀ a b, f a b = true → g a b = true) : ∀ {l : List Nat}, chainB f l = true → chainB g l = true
  | [], _ => rfl
  | [a], _ => rfl
  | a :: b :: l, hc => by
    have hc : (f a b && chainB f (b :: l)) = true := hc
    rw [Bool.and_eq_true] at hc
    show (g a b && chainB g (b :: l)) = true
    rw [h a b hc.1, chain_imp h hc.2]
    rfl
theorem last_app {u v : List Nat} (h : v ≠ []) : lastN (u ++ v) = lastN v := by
  unfold lastN
  rw [List.getLast?_append]
  cases hv : v.getLast? with
  | none => simp at hv; exact absurd hv h
  | some x => rfl
theorem head_app {u v : List Nat} (h : u ≠ []) : (u ++ v).headD 0 = u.headD 0 := by
  cases u with
  | nil => exact absurd rfl h
  | cons a u => rfl
/-- a ring without one of its members: from the next to the one before -/
theorem ring_rest {f : Nat → Nat → Bool} {u v : List Nat} {p : Nat} (h2 : 2 ≤ (u ++ p :: v).length) (hc : chainB f (u ++ p :: v) = true) (hcl : f (lastN (u ++ p :: v)) ((u ++ p :: v).headD 0) = true) : v ++ u ≠ [] ∧ chainB f (v ++ u) = true ∧ (v ++ u).headD 0 = (if v = [] then (u ++ p :: v).headD 0 else v.headD 0) ∧ lastN (v ++ u) = (if u = [] then lastN (u ++ p :: v) else lastN u) := by
  have cu := chain_take hc
  have cpv : chainB f (p :: v) = true := chain_drop hc
  have cv : chainB f v = true := chain_drop (s := [p]) cpv
  by_cases hu : u = []
  · subst hu
    have hv : v ≠ [] := fun e => by rw [e] at h2; simp at h2
    rw [if_neg hv, if_pos rfl, List.append_nil]
    exact ⟨hv, cv, rfl, (last_cons hv).symm⟩
  · by_cases hv : v = []
    · subst hv
      rw [if_pos rfl, if_neg hu, List.nil_append]
      exact ⟨hu, cu, (head_app hu).symm, rfl⟩
    · rw [if_neg hv, if_neg hu]
      rw [last_app (u := u) (v := p :: v) (by simp), last_cons hv, head_app hu] at hcl
      exact ⟨by simp [hv], chain_app hv hu cv cu hcl, head_app hv, last_app hu⟩
end Trap
namespace K66
open PySem D3 L2 Ord Cut
theorem chain_eq (f : Nat → Nat → Bool) : ∀ l : List Nat, chainB f l = Trap.chainB f l
  | [] => rfl
  | [_] => rfl
  | a :: b :: l => by
    show (f a b && chainB f (b :: l)) = (f a b && Trap.chainB f (b :: l))
    rw [chain_eq f (b :: l)]
theorem last_eq (l : List Nat) : lastN l = Trap.lastN l := rfl
theorem cnt_lt {R : List Nat} {t a b : Nat} (ha : R[a]? = some t) (h : a < b) : (R.take a).count t < (R.take b).count t := by
  have hl := (List.getElem?_eq_some_iff.mp ha).1
  have e : R.take (a + 1) = R.take a ++ [t] := by
    rw [List.take_add_one, ha]
    rfl
  have h1 : (R.take (a + 1)).count t = (R.take a).count t + 1 := by
    rw [e, List.count_append, List.count_singleton_self]
  have h2 : (R.take (a + 1)).count t ≤ (R.take b).count t := by
    refine List.Sublist.count_le t ?_
    exact List.take_sublist_take_left (by omega)
  omega
theorem tT_of_at {T : List (List Deed)} {C : List (List Nat)} (hC : GoodC T C) {R : List Nat} (hR : GoodR C R) {t u a b : Nat} (h : At T C R t u a b) : tT T t u = true ∧ ∃ x y, (T[t]?.getD [])[x]? = some (dAt T t x) ∧ (T[u]?.getD [])[y]? = some (dAt T u y) ∧ pieceN (C[t]?.getD []) x = (R.take a).count t ∧ pieceN (C[u]?.getD []) y = (R.take b).count u ∧ stB T (dAt T u y) t = true ∧ stB T (dAt T t x) u = true := by
  have hl : T.length = C.length := hC.length
  have ht : t < T.length := by have := hR.2 t (List.mem_of_getElem? h.ra); omega
  have hu : u < T.length := by have := hR.2 u (List.mem_of_getElem? h.rb); omega
  obtain ⟨d, hd, e, he, htc⟩ := touch_iff.mp h.tch
  obtain ⟨x, hx, px⟩ := (mem_pieceAt hC ht).mp hd
  obtain ⟨y, hy, py⟩ := (mem_pieceAt hC hu).mp he
  have dx : dAt T t x = d := by unfold dAt; rw [hx]; rfl
  have dy : dAt T u y = e := by unfold dAt; rw [hy]; rfl
  have md : d ∈ T[t]?.getD [] := List.mem_of_getElem? hx
  have me : e ∈ T[u]?.getD [] := List.mem_of_getElem? hy
  refine ⟨touch_iff.mpr ⟨d, md, e, me, htc⟩, x, y, by rw [dx]; exact hx, by rw [dy]; exact hy, px, py, ?_, ?_⟩
  · rw [dy]
    exact touch_iff.mpr ⟨e, by simp, d, md, by rw [touchD_comm]; exact htc⟩
  · rw [dx]
    exact touch_iff.mpr ⟨d, by simp, e, me, htc⟩
/-- a run that is not in order shows a ring -/
theorem ring_of_run {T : List (List Deed)} {C : List (List Nat)} (hC : GoodC T C) {R : List Nat} (hR : GoodR C R) (hn : ¬ Ranked (prs T C R) (List.range T.length)) : ∃ p i l k, Ring T C p i l k := by
  have hl : T.length = C.length := hC.length
  have okp : Trap.OkP (prs T C R) T.length := ⟨fun a b h => by obtain ⟨_, _, q⟩ := mem_prs.mp h; exact q.ne, fun a b h => by
    obtain ⟨_, _, q⟩ := mem_prs.mp h
    exact ⟨by have := hR.2 a (List.mem_of_getElem? q.ra); omega, by have := hR.2 b (List.mem_of_getElem? q.rb); omega⟩⟩
  have hl0 : Trap.leftN (prs T C R) T.length T.length ≠ [] := fun z => hn (Trap.left_ranked.mp z)
  obtain ⟨L, L1, L2, L3⟩ := Trap.left_set hl0
  obtain ⟨x0, hx0⟩ := List.exists_mem_of_ne_nil L L1
  obtain ⟨r, r2, rp, rc⟩ := Trap.ring_ex okp L2 L3 T.length [x0] (by simp) ⟨by simp, rfl, fun t ht => by rw [List.mem_singleton.mp ht]; exact L2 x0 hx0⟩ (fun t ht => by rw [List.mem_singleton.mp ht]; exact hx0) (by simp)
  have ra := Trap.ring_all rp rc
  unfold Trap.ringAll at ra
  simp only [List.all_eq_true, List.mem_range] at ra
  have edge : ∀ k, k < r.length → ∃ ab : Nat × Nat, At T C R (Trap.prevN r k) (r[k]?.getD 0) ab.1 ab.2 := fun k hk => by
    have := ra k hk
    have hm : (Trap.prevN r k, r[k]?.getD 0) ∈ prs T C R := List.contains_iff_mem.mp this
    obtain ⟨a, b, h⟩ := mem_prs.mp hm
    exact ⟨(a, b), h⟩
  have nxt : ∀ s, s < r.length → Trap.prevN r ((s + 1) % r.length) = r[s]?.getD 0 := fun s hs => by
    by_cases h : s + 1 < r.length
    · rw [Nat.mod_eq_of_lt h]
      unfold Trap.prevN
      rw [if_neg (by omega), Nat.add_sub_cancel]
    · have e : s + 1 = r.length := by omega
      rw [e, Nat.mod_self]
      unfold Trap.prevN
      rw [if_pos rfl]
      unfold Trap.lastN
      rw [List.getLast?_eq_getElem?, show r.length - 1 = s by omega]
  have jump : ∃ s a b a' b', s < r.length ∧ At T C R (Trap.prevN r s) (r[s]?.getD 0) a b ∧ At T C R (r[s]?.getD 0) (r[(s + 1) % r.length]?.getD 0) a' b' ∧ b ≠ a' := by
    apply Classical.byContradiction
    intro hno
    have pick : ∀ k, ∃ ab : Nat × Nat, k < r.length → At T C R (Trap.prevN r k) (r[k]?.getD 0) ab.1 ab.2 := fun k => by
      by_cases hk : k < r.length
      · obtain ⟨ab, h⟩ := edge k hk
        exact ⟨ab, fun _ => h⟩
      · exact ⟨(0, 0), fun h => absurd h hk⟩
    let f : Nat → Nat × Nat := fun k => Classical.choose (pick k)
    have hf : ∀ k, k < r.length → At T C R (Trap.prevN r k) (r[k]?.getD 0) (f k).1 (f k).2 := fun k => Classical.choose_spec (pick k)
    have step : ∀ s, s < r.length → (f s).2 = (f ((s + 1) % r.length)).1 := fun s hs => by
      apply Classical.byContradiction
      intro hne
      have h2 := hf ((s + 1) % r.length) (Nat.mod_lt _ (by omega))
      rw [nxt s hs] at h2
      exact hno ⟨s, _, _, _, _, hs, hf s hs, h2, hne⟩
    have up : ∀ s, s < r.length → (f 0).1 + s ≤ (f s).1 := fun s => by
      induction s with
      | zero => intro _; exact Nat.le_refl _
      | succ s ih =>
        intro hs
        have := ih (by omega)
        have h1 := (hf s (by omega)).ab
        have h2 := step s (by omega)
        rw [Nat.mod_eq_of_lt hs] at h2
        omega
    have h1 := up (r.length - 1) (by omega)
    have h2 := (hf (r.length - 1) (by omega)).ab
    have h3 := step (r.length - 1) (by omega)
    rw [show r.length - 1 + 1 = r.length by omega, Nat.mod_self] at h3
    omega
  obtain ⟨s, a, b, a', b', hs, h1, h2, hne⟩ := jump
  obtain ⟨u, v, p, hr, hus⟩ : ∃ u v p, r = u ++ p :: v ∧ u.length = s := ⟨r.take s, r.drop (s + 1), r[s], by rw [← List.drop_eq_getElem_cons hs, List.take_append_drop], by rw [List.length_take]; omega⟩
  have hp : r[s]?.getD 0 = p := by
    rw [hr, List.getElem?_append_right (by omega), hus, Nat.sub_self]
    rfl
  rw [hp] at h1 h2
  have hcl : Trap.inP (prs T C R) (Trap.lastN r) (r.headD 0) = true := rc
  have hch := rp.chain
  rw [hr] at hcl hch r2
  obtain ⟨q1, q2, q3, q4⟩ := Trap.ring_rest r2 hch hcl
  have nd := rp.nd
  rw [hr, List.nodup_append] at nd
  obtain ⟨nu, npv, nup⟩ := nd
  obtain ⟨npv1, nv⟩ := List.nodup_cons.mp npv
  have qnd : (v ++ u).Nodup := List.nodup_append.mpr ⟨nv, nu, fun x hx y hy e => nup y hy x (List.mem_cons_of_mem _ hx) e.symm⟩
  have qp : ∀ t ∈ v ++ u, t ∈ otherL T.length p := fun t ht => by
    have htr : t ∈ r := by
      rw [hr]
      rcases List.mem_append.mp ht with h | h
      · exact List.mem_append_right _ (List.mem_cons_of_mem _ h)
      · exact List.mem_append_left _ h
    have hne : t ≠ p := fun e => by
      subst e
      rcases List.mem_append.mp ht with h | h
      · exact npv1 h
      · exact nup t h t (.head _) rfl
    unfold otherL
    rw [List.mem_filter, List.mem_range]
    exact ⟨rp.lt t htr, by simpa using hne⟩
  -- the next one, the one before
  have hnext : (v ++ u).headD 0 = r[(s + 1) % r.length]?.getD 0 := by
    rw [q3]
    by_cases hv : v = []
    · rw [if_pos hv]
      have e : s + 1 = r.length := by rw [hr, hv, List.length_append, hus]; rfl
      rw [e, Nat.mod_self, hr]
      cases u <;> rfl
    · rw [if_neg hv]
      have hvl : 0 < v.length := List.length_pos_iff.mpr hv
      have e : s + 1 < r.length := by rw [hr, List.length_append, List.length_cons, hus]; omega
      rw [Nat.mod_eq_of_lt e, hr, List.getElem?_append_right (by omega), hus, show s + 1 - s = 1 by omega]
      cases v with
      | nil => exact absurd rfl hv
      | cons x v => rfl
  have hprev : Trap.lastN (v ++ u) = Trap.prevN r s := by
    rw [q4]
    unfold Trap.prevN
    by_cases hu : u = []
    · rw [if_pos hu]
      have : s = 0 := by rw [← hus, hu]; rfl
      rw [if_pos this, hr]
    · have hul : 0 < u.length := List.length_pos_iff.mpr hu
      rw [if_neg hu, if_neg (by omega)]
      unfold Trap.lastN
      rw [List.getLast?_eq_getElem?, hr, List.getElem?_append_left (by omega), hus]
  rw [← hprev] at h1
  rw [← hnext] at h2
  have sym : ∀ a b, tT T a b = tT T b a := fun a b => touch_comm _ _
  have qt : Trap.chainB (tT T) (v ++ u) = true := Trap.chain_imp (fun x y h => by
    obtain ⟨_, _, q⟩ := mem_prs.mp (List.contains_iff_mem.mp h)
    exact (tT_of_at hC hR q).1) q2
  obtain ⟨_, _, y1, _, hy1, _, py1, sy1, _⟩ := tT_of_at hC hR h1
  obtain ⟨_, x2, _, hx2, _, px2, _, _, sx2⟩ := tT_of_at hC hR h2
  have hpc : pieceN (C[p]?.getD []) y1 ≠ pieceN (C[p]?.getD []) x2 := by
    rw [py1, px2]
    rcases Nat.lt_or_gt_of_ne hne with h | h
    · have := cnt_lt h1.rb h; omega
    · have := cnt_lt h2.ra h; omega
  have hpl : p < T.length := by have := hR.2 p (List.mem_of_getElem? h2.ra); omega
  have hy1l := (List.getElem?_eq_some_iff.mp hy1).1
  have hx2l := (List.getElem?_eq_some_iff.mp hx2).1
  rcases Nat.lt_or_gt_of_ne (fun e => hpc (by rw [e]) : y1 ≠ x2) with h | h
  · -- in by y1, out by x2 behind it: the way back
    have rl : lastN (v ++ u).reverse = (v ++ u).headD 0 := by
      rw [last_eq]
      generalize v ++ u = q at *
      cases q with
      | nil => exact absurd rfl q1
      | cons x q =>
        unfold Trap.lastN
        rw [List.reverse_cons, List.getLast?_append]
        rfl
    have rh : (v ++ u).reverse.headD 0 = Trap.lastN (v ++ u) := by
      unfold Trap.lastN
      rw [← List.head?_reverse]
      cases (v ++ u).reverse <;> rfl
    exact ⟨p, y1, (v ++ u).reverse, x2, hpl, h, hx2l, hpc, ⟨⟨fun e => q1 (List.reverse_eq_nil_iff.mp e), List.pairwise_reverse.mpr (qnd.imp fun {a b} h => Ne.symm h), rfl, by rw [rh]; exact sy1, by rw [chain_eq]; exact Trap.chain_rev sym qt⟩, fun t ht => qp t (List.mem_reverse.mp ht), by rw [rl]; exact sx2⟩⟩
  · exact ⟨p, x2, v ++ u, y1, hpl, h, hy1l, Ne.symm hpc, ⟨⟨q1, qnd, rfl, sx2, by rw [chain_eq]; exact qt⟩, qp, sy1⟩⟩
end K66

namespace K66
open PySem D3 L2 Ord Cut
/-! ### the run of a ring -/
theorem pos_ex {t : Nat} : ∀ {R : List Nat} {n : Nat}, n < R.count t → ∃ a, R[a]? = some t ∧ (R.take a).count t = n
  | [], n, h => by simp at h
  | x :: R, n, h => by
    by_cases e : x = t
    · subst e
      cases n with
      | zero => exact ⟨0, rfl, rfl⟩
      | succ n =>
        rw [List.count_cons_self] at h
        obtain ⟨a, h1, h2⟩ := pos_ex (t := x) (R := R) (n := n) (by omega)
        exact ⟨a + 1, h1, by rw [List.take_succ_cons, List.count_cons_self, h2]⟩
    · rw [List.count_cons_of_ne e] at h
      obtain ⟨a, h1, h2⟩ := pos_ex (R := R) (n := n) h
      exact ⟨a + 1, h1, by rw [List.take_succ_cons, List.count_cons_of_ne e, h2]⟩
theorem before {R1 R2 : List Nat} {t u n m : Nat} (hn : n < R1.count t) (hm1 : R1.count u ≤ m) (hm2 : m < (R1 ++ R2).count u) : ∃ a b, a < b ∧ b < (R1 ++ R2).length ∧ (R1 ++ R2)[a]? = some t ∧ (R1 ++ R2)[b]? = some u ∧ ((R1 ++ R2).take a).count t = n ∧ ((R1 ++ R2).take b).count u = m := by
  obtain ⟨a, a1, a2⟩ := pos_ex hn
  rw [List.count_append] at hm2
  obtain ⟨b, b1, b2⟩ := pos_ex (R := R2) (t := u) (n := m - R1.count u) (by omega)
  have al := (List.getElem?_eq_some_iff.mp a1).1
  have bl := (List.getElem?_eq_some_iff.mp b1).1
  refine ⟨a, R1.length + b, by omega, by rw [List.length_append]; omega, ?_, ?_, ?_, ?_⟩
  · rw [List.getElem?_append_left al]; exact a1
  · rw [List.getElem?_append_right (by omega), Nat.add_sub_cancel_left]; exact b1
  · rw [List.take_append_of_le_length (by omega)]; exact a2
  · rw [List.take_length_add_append, List.count_append, b2]; omega
theorem prs_of {T : List (List Deed)} {C : List (List Nat)} (hC : GoodC T C) {R1 R2 : List Nat} (hR : GoodR C (R1 ++ R2)) {t u x y : Nat} {d e : Deed} (ht : t < T.length) (hu : u < T.length) (hne : t ≠ u) (hx : (T[t]?.getD [])[x]? = some d) (hy : (T[u]?.getD [])[y]? = some e) (htc : touchD d e = true)
    (h1 : pieceN (C[t]?.getD []) x < R1.count t) (h2 : R1.count u ≤ pieceN (C[u]?.getD []) y) : (t, u) ∈ prs T C (R1 ++ R2) := by
  have hl : T.length = C.length := hC.length
  have hcu : C[u]? = some C[u] := List.getElem?_eq_getElem (by omega)
  have hcnt := hR.1 u C[u] hcu
  have hle := pieceN_le C[u] y
  have h2' : pieceN (C[u]?.getD []) y < (R1 ++ R2).count u := by rw [hcu, Option.getD_some, hcnt]; omega
  obtain ⟨a, b, b1, b2, b3, b4, b5, b6⟩ := before h1 h2 h2'
  refine mem_prs.mpr ⟨a, b, b1, b2, b3, b4, hne, ?_⟩
  rw [b5, b6]
  exact touch_iff.mpr ⟨d, (mem_pieceAt hC ht).mpr ⟨x, hx, rfl⟩, e, (mem_pieceAt hC hu).mpr ⟨y, hy, rfl⟩, htc⟩
theorem cnt_flat (f : Nat → Nat) (u : Nat) : ∀ {l : List Nat}, l.Nodup → (l.flatMap fun t => List.replicate (f t) t).count u = if u ∈ l then f u else 0
  | [], _ => by simp
  | a :: l, nd => by
    obtain ⟨h1, h2⟩ := List.nodup_cons.mp nd
    rw [List.flatMap_cons, List.count_append, cnt_flat f u h2, List.count_replicate]
    by_cases e : u = a
    · subst e
      simp [h1]
    · have : ¬ a = u := fun z => e z.symm
      simp [e, this]
def cntN (C : List (List Nat)) (t : Nat) : Nat := (C[t]?.getD []).length + 1
def firstN (C : List (List Nat)) (p i : Nat) : Nat := pieceN (C[p]?.getD []) i + 1
def blkR (C : List (List Nat)) (l : List Nat) : List Nat := l.flatMap fun t => List.replicate (cntN C t) t
def restN (C : List (List Nat)) (p i : Nat) (l : List Nat) (t : Nat) : Nat := if l.contains t then 0 else if t = p then cntN C t - firstN C p i else cntN C t
def restR (T : List (List Deed)) (C : List (List Nat)) (p i : Nat) (l : List Nat) : List Nat := (List.range T.length).flatMap fun t => List.replicate (restN C p i l t) t
def runOf (T : List (List Deed)) (C : List (List Nat)) (p i : Nat) (l : List Nat) : List Nat := List.replicate (firstN C p i) p ++ (blkR C l ++ restR T C p i l)
section
variable {T : List (List Deed)} {C : List (List Nat)} (hC : GoodC T C) {p i k : Nat} {l : List Nat} (r : Ring T C p i l k)
include hC r
theorem ring_mem {t : Nat} (ht : t ∈ l) : t < T.length ∧ t ≠ p := by
  have := r.way.sub t ht
  unfold otherL at this
  rw [List.mem_filter, List.mem_range] at this
  exact ⟨this.1, by simpa using this.2⟩
theorem run_good : GoodR C (runOf T C p i l) := by
  have hl : T.length = C.length := hC.length
  have hpl : p ∉ l := fun h => (ring_mem hC r h).2 rfl
  have nd := r.way.pth.nd
  refine ⟨fun t c hc => ?_, fun t ht => ?_⟩
  · have htl : t < T.length := by have := (List.getElem?_eq_some_iff.mp hc).1; omega
    have hcn : cntN C t = c.length + 1 := by unfold cntN; rw [hc]; rfl
    unfold runOf blkR restR
    rw [List.count_append, List.count_append, cnt_flat _ t nd, cnt_flat _ t List.nodup_range, List.count_replicate, if_pos (List.mem_range.mpr htl)]
    unfold restN
    by_cases hm : t ∈ l
    · have hne : ¬ p = t := fun e => hpl (e ▸ hm)
      simp [hm, hne, hcn]
    · by_cases e : t = p
      · subst e
        have hf : firstN C t i ≤ cntN C t := by
          unfold firstN cntN
          have := pieceN_le (C[t]?.getD []) i
          omega
        simp [hm]
        omega
      · have hne : ¬ p = t := fun z => e z.symm
        simp [hm, e, hne, hcn]
  · rw [← hl]
    unfold runOf at ht
    rcases List.mem_append.mp ht with h | h
    · rw [(List.mem_replicate.mp h).2]; exact r.pl
    · rcases List.mem_append.mp h with h | h
      · obtain ⟨x, hx, hm⟩ := List.mem_flatMap.mp h
        rw [(List.mem_replicate.mp hm).2]
        exact (ring_mem hC r hx).1
      · obtain ⟨x, hx, hm⟩ := List.mem_flatMap.mp h
        rw [(List.mem_replicate.mp hm).2]
        exact List.mem_range.mp hx
theorem ring_pairs : ∀ (s l' : List Nat), l = s ++ l' → chainB (tT T) l' = true → Trap.chainB (Trap.inP (prs T C (runOf T C p i l))) l' = true
  | _, [], _, _ => rfl
  | _, [a], _, _ => rfl
  | s, a :: b :: l', e, hc => by
    have hc : (tT T a b && chainB (tT T) (b :: l')) = true := hc
    rw [Bool.and_eq_true] at hc
    have ih := ring_pairs (s ++ [a]) (b :: l') (by rw [e]; simp) hc.2
    have hG := run_good hC r
    have nd := r.way.pth.nd
    have ha : a ∈ l := by rw [e]; simp
    have hb : b ∈ l := by rw [e]; simp
    obtain ⟨al, ap⟩ := ring_mem hC r ha
    obtain ⟨bl, bp⟩ := ring_mem hC r hb
    obtain ⟨d, hd, f, hf, htc⟩ := touch_iff.mp hc.1
    obtain ⟨x, hx⟩ := List.mem_iff_getElem?.mp hd
    obtain ⟨y, hy⟩ := List.mem_iff_getElem?.mp hf
    have hsp : runOf T C p i l = (List.replicate (firstN C p i) p ++ blkR C (s ++ [a])) ++ (blkR C (b :: l') ++ restR T C p i l) := by
      unfold runOf
      have : blkR C l = blkR C (s ++ [a]) ++ blkR C (b :: l') := by
        unfold blkR
        rw [← List.flatMap_append, e]
        simp
      rw [this]
      simp
    have nd2 : (s ++ [a]).Nodup := by
      have : (s ++ [a] ++ (b :: l')).Nodup := by rw [show s ++ [a] ++ (b :: l') = l by rw [e]; simp]; exact nd
      exact (List.nodup_append.mp this).1
    have hbn : b ∉ s ++ [a] := fun h => by
      have : (s ++ [a] ++ (b :: l')).Nodup := by rw [show s ++ [a] ++ (b :: l') = l by rw [e]; simp]; exact nd
      exact (List.nodup_append.mp this).2.2 b h b (.head _) rfl
    have hab : a ≠ b := fun z => hbn (by rw [← z]; simp)
    have hm : (a, b) ∈ prs T C (runOf T C p i l) := by
      rw [hsp] at hG ⊢
      refine prs_of hC hG al bl hab hx hy htc ?_ ?_
      · rw [List.count_append]
        unfold blkR
        rw [cnt_flat _ a nd2, if_pos (by simp)]
        unfold cntN
        have := pieceN_le (C[a]?.getD []) x
        omega
      · rw [List.count_append]
        unfold blkR
        rw [cnt_flat _ b nd2, if_neg hbn, List.count_replicate]
        have : ¬ p = b := fun z => bp z.symm
        simp [this]
    show (Trap.inP _ a b && Trap.chainB _ (b :: l')) = true
    rw [ih, Bool.and_true]
    exact List.contains_iff_mem.mpr hm
theorem ring_not_ranked : ¬ Ranked (prs T C (runOf T C p i l)) (List.range T.length) := by
  rintro ⟨rk, hrk⟩
  have hG := run_good hC r
  have nd := r.way.pth.nd
  have hpl : p ∉ l := fun h => (ring_mem hC r h).2 rfl
  have hne := r.way.pth.ne
  have hh : l.headD 0 ∈ l := by
    cases l with
    | nil => exact absurd rfl hne
    | cons a l => exact .head _
  have hla := last_mem hne
  obtain ⟨h1, h2⟩ := ring_mem hC r hh
  obtain ⟨l1, l2⟩ := ring_mem hC r hla
  have hkl := r.kl
  have hik := r.ik
  have ei : (T[p]?.getD [])[i]? = some (dAt T p i) := by
    unfold dAt
    rw [List.getElem?_eq_getElem (show i < (T[p]?.getD []).length by omega)]
    rfl
  have ek : (T[p]?.getD [])[k]? = some (dAt T p k) := by
    unfold dAt
    rw [List.getElem?_eq_getElem hkl]
    rfl
  have m1 : (p, l.headD 0) ∈ prs T C (runOf T C p i l) := by
    obtain ⟨d, hd, e, he, htc⟩ := touch_iff.mp r.way.pth.start
    rw [List.mem_singleton] at hd
    obtain ⟨y, hy⟩ := List.mem_iff_getElem?.mp he
    unfold runOf at hG ⊢
    refine prs_of hC hG r.pl h1 (fun z => h2 z.symm) ei hy (by rw [← hd]; exact htc) ?_ ?_
    · rw [List.count_replicate_self]
      unfold firstN
      omega
    · rw [List.count_replicate]
      have : ¬ p = l.headD 0 := fun z => h2 z.symm
      simp only [beq_iff_eq, this, if_false]
      exact Nat.zero_le _
  have m2 : (lastN l, p) ∈ prs T C (runOf T C p i l) := by
    obtain ⟨d, hd, e, he, htc⟩ := touch_iff.mp r.way.fin
    rw [List.mem_singleton] at hd
    obtain ⟨y, hy⟩ := List.mem_iff_getElem?.mp he
    have hsp : runOf T C p i l = (List.replicate (firstN C p i) p ++ blkR C l) ++ restR T C p i l := by
      unfold runOf
      rw [List.append_assoc]
    rw [hsp] at hG ⊢
    refine prs_of hC hG l1 r.pl l2 hy ek (by rw [touchD_comm, ← hd]; exact htc) ?_ ?_
    · rw [List.count_append]
      unfold blkR
      rw [cnt_flat _ _ nd, if_pos hla]
      unfold cntN
      have := pieceN_le (C[lastN l]?.getD []) y
      omega
    · rw [List.count_append]
      unfold blkR
      rw [cnt_flat _ _ nd, if_neg hpl, List.count_replicate_self]
      unfold firstN
      have h3 := pieceN_mono (C[p]?.getD []) (Nat.le_of_lt hik)
      have h4 := r.pc
      omega
  have up : ∀ l' : List Nat, l' ≠ [] → (∀ t ∈ l', t < T.length) → Trap.chainB (Trap.inP (prs T C (runOf T C p i l))) l' = true → rk (l'.headD 0) ≤ rk (Trap.lastN l') := by
    intro l'
    induction l' with
    | nil => intro h; exact absurd rfl h
    | cons a l' ih =>
      intro _ hb hc
      cases l' with
      | nil => exact Nat.le_refl _
      | cons b l' =>
        have hc : (Trap.inP (prs T C (runOf T C p i l)) a b && Trap.chainB _ (b :: l')) = true := hc
        rw [Bool.and_eq_true] at hc
        have h3 := ih (by simp) (fun t ht => hb t (List.mem_cons_of_mem _ ht)) hc.2
        have h4 := hrk a b (List.contains_iff_mem.mp hc.1) (List.mem_range.mpr (hb a (by simp))) (List.mem_range.mpr (hb b (by simp)))
        rw [Trap.last_cons (by simp)]
        have h5 : rk ((b :: l').headD 0) = rk b := rfl
        show rk a ≤ _
        omega
  have h3 := up l hne (fun t ht => (ring_mem hC r ht).1) (ring_pairs hC r [] l rfl r.way.pth.chain)
  have h4 := hrk _ _ m1 (List.mem_range.mpr r.pl) (List.mem_range.mpr h1)
  have h5 := hrk _ _ m2 (List.mem_range.mpr l1) (List.mem_range.mpr r.pl)
  rw [last_eq] at h5
  omega
end
end K66

namespace K66
open PySem D3 L2 Ord Cut
/-! ### names -/
theorem whole_ok (d : PyData) : fn_is_whole [d] = some (.ok (.bool (match d with
  | .int _ => true
  | _ => false))) := by cases d <;> rfl
theorem slen_ints (ns : List Int) (h : ns.length < 64) : slenD (.tuple (ns.map .int)) = some (.int (usortI ns).length) := by
  have e : ∀ ns : List Int, intsD (ns.map PyData.int) = some ns := fun ns => by
    induction ns with
    | nil => rfl
    | cons x xs ih =>
      show (intsD (xs.map PyData.int)).map _ = _
      rw [ih]
      rfl
  show (match intsD (ns.map PyData.int) with
    | some ns => if ns.length < 64 then some (PyData.int (usortI ns).length) else none
    | none => none) = _
  rw [e]
  dsimp only
  rw [if_pos h]
theorem usort_len (l : List Nat) : (usortI (l.map fun n : Nat => (n : Int))).length = l.length ↔ l.Nodup := by
  have hasc := usortK_asc (key := id) (l.map fun n : Nat => (n : Int))
  have hm : ∀ x, x ∈ usortI (l.map fun n : Nat => (n : Int)) ↔ x ∈ l.map fun n : Nat => (n : Int) := fun x => ⟨of_usortK, in_usortK fun a _ b _ h => h⟩
  have hnd : ((usortI (l.map fun n : Nat => (n : Int))).map Int.toNat).Nodup := by
    refine List.pairwise_map.mpr (List.Pairwise.imp_of_mem (fun {x y} hx hy h q => ?_) hasc)
    obtain ⟨x', _, rfl⟩ := List.mem_map.mp ((hm x).mp hx)
    obtain ⟨y', _, rfl⟩ := List.mem_map.mp ((hm y).mp hy)
    have h : (x' : Int) < y' := h
    have q : (x' : Int).toNat = (y' : Int).toNat := q
    omega
  constructor
  · intro he
    have hmm : ∀ x, x ∈ (usortI (l.map fun n : Nat => (n : Int))).map Int.toNat ↔ x ∈ l := fun x => by
      rw [List.mem_map]
      constructor
      · rintro ⟨y, hy, rfl⟩
        obtain ⟨z, hz, rfl⟩ := List.mem_map.mp ((hm y).mp hy)
        rw [Int.toNat_natCast]
        exact hz
      · intro hx
        exact ⟨(x : Int), (hm _).mpr (List.mem_map.mpr ⟨x, hx, rfl⟩), Int.toNat_natCast x⟩
    apply Classical.byContradiction
    intro hno
    have key : ∀ l : List Nat, ¬ l.Nodup → ∃ s a t, l = s ++ a :: t ∧ a ∈ t := by
      intro l
      induction l with
      | nil => intro h; exact absurd List.nodup_nil h
      | cons a l ih =>
        intro h
        by_cases ha : a ∈ l
        · exact ⟨[], a, l, rfl, ha⟩
        · obtain ⟨s, b, t, rfl, hb⟩ := ih fun q => h (List.nodup_cons.mpr ⟨ha, q⟩)
          exact ⟨a :: s, b, t, rfl, hb⟩
    obtain ⟨s, a, t, rfl, ha⟩ := key l hno
    have hle := L2.nat_nodup_len _ (s ++ t) hnd fun x hx => by
      rcases List.mem_append.mp ((hmm x).mp hx) with q | q
      · exact List.mem_append_left _ q
      · rcases List.mem_cons.mp q with rfl | q
        · exact List.mem_append_right _ ha
        · exact List.mem_append_right _ q
    rw [List.length_map, he] at hle
    simp only [List.length_append, List.length_cons] at hle
    omega
  · intro nd
    have h1 := len_of_same (asc_nodup hasc) (show (l.map fun n : Nat => (n : Int)).Nodup from (List.pairwise_map.mpr (nd.imp fun {a b} h e => h (by omega)))) hm
    rw [List.length_map] at h1
    exact h1
theorem slen_nat (l : List Nat) (h : l.length < 64) : ∃ m : Nat, slenD (.tuple (l.map encN)) = some (.int m) ∧ (m = l.length ↔ l.Nodup) := by
  refine ⟨_, ?_, usort_len l⟩
  have := slen_ints (l.map fun n : Nat => (n : Int)) (by rw [List.length_map]; exact h)
  rw [List.map_map] at this
  exact this
def okN (n p : Nat) : PyData → Bool
  | .int i => (decide (0 ≤ i) && decide (i < n)) && !decide (i = (p : Int))
  | _ => false
theorem len_T (T : List (List Deed)) : lenD [encTs T] = some (.int T.length) := by
  show some (PyData.int ((T.map encT).length : Nat)) = _
  rw [List.length_map]
theorem names_not (T : List (List Deed)) (p d : PyData) (h : isiB .tuple d = false) : fn_is_names [encTs T, p, d] = some (.ok (.bool false)) := by
  refine runV_of rfl ?_
  simp [sem_is_names, startE, h]
theorem isInt_or (d : PyData) : (∃ i, d = .int i) ∨ (isiB .int d = false ∨ isiB .bool d = true) ∧ fn_is_whole [d] = some (.ok (.bool false)) := by
  cases d with
  | int i => exact .inl ⟨i, rfl⟩
  | bool b => exact .inr ⟨.inr rfl, rfl⟩
  | _ => exact .inr ⟨.inl rfl, rfl⟩
abbrev isI : PyData → Bool := isWhole
theorem whole_isI (d : PyData) : fn_is_whole [d] = some (.ok (.bool (isI d))) := by cases d <;> rfl
theorem names_whole (T : List (List Deed)) (p : PyData) (es : List PyData) (hl : es.length ≤ 8) (h : es.isEmpty = true ∨ es.all isI = false) : fn_is_names [encTs T, p, .tuple es] = some (.ok (.bool false)) := by
  have z := z24
  refine runV_of rfl ?_
  by_cases he : es = []
  · subst he
    simp [sem_is_names, startE]
  · have h2 : es.all isI = false := h.resolve_left fun q => he (List.isEmpty_iff.mp q)
    have hn : ((es.length : Int) == 0) = false := by rw [beq_eq_false_iff_ne]; have := List.length_pos_iff.mpr he; omega
    simp [sem_is_names, startE, hn]
    refine wr_lcM (T := fun d => .bool (isI d)) rfl (by omega) (fun d hd => ?_) ?_
    · simp [gNm, wipeE, whole_isI, isI, isWhole]
    · have e : allD [.list (es.map fun d => PyData.bool (isI d))] = some (.bool false) := by rw [allD_map isI es, h2]
      simp [e]
theorem ints_ex : ∀ {es : List PyData}, es.all isI = true → ∃ ns : List Int, es = ns.map .int
  | [], _ => ⟨[], rfl⟩
  | d :: es, h => by
    rw [List.all_cons, Bool.and_eq_true] at h
    obtain ⟨ns, rfl⟩ := ints_ex h.2
    cases d with
    | int i => exact ⟨i :: ns, rfl⟩
    | _ => exact absurd h.1 (by simp [isI, isWhole])
theorem nat_ex {n : Nat} : ∀ {ns : List Int}, (∀ i ∈ ns, 0 ≤ i ∧ i < (n : Int)) → ∃ l : List Nat, ns = l.map (fun x : Nat => (x : Int)) ∧ ∀ t ∈ l, t < n
  | [], _ => ⟨[], rfl, by simp⟩
  | i :: ns, h => by
    obtain ⟨l, rfl, hb⟩ := nat_ex fun j hj => h j (List.mem_cons_of_mem _ hj)
    obtain ⟨h1, h2⟩ := h i (.head _)
    refine ⟨i.toNat :: l, ?_, fun t ht => ?_⟩
    · rw [List.map_cons, Int.toNat_of_nonneg h1]
    · rcases List.mem_cons.mp ht with rfl | ht
      · omega
      · exact hb t ht
/-- ints, one of which is no other program's name -/
theorem names_no (T : List (List Deed)) (p : Nat) (ns : List Int) (hl : ns.length ≤ 8) (hne : ns ≠ []) (h : (ns.map PyData.int).all (okN T.length p) = false) : fn_is_names [encTs T, encN p, .tuple (ns.map .int)] = some (.ok (.bool false)) := by
  have z := z24
  have l1 := len_T T
  have hn : ((ns.length : Int) == 0) = false := by rw [beq_eq_false_iff_ne]; have := List.length_pos_iff.mpr hne; omega
  have hall : (ns.all fun i => isI (PyData.int i)) = true := by simp [isI, isWhole]
  refine runV_of rfl ?_
  simp [sem_is_names, startE, hn]
  refine wr_lcXM (xs := ns) (g := PyData.int) (fun i => .bool (isI (.int i))) rfl (by omega) (fun d hd => ?_) ?_
  · simp [gNm, wipeE, whole_isI, isI, isWhole]
  · simp only [bndK_ok, wr_ret, wr_lft, allD_map, ex1_some, hall]
    simp
    refine wr_lcXM (xs := ns) (g := PyData.int) (fun i => .bool (okN T.length p (.int i))) rfl (by omega) (fun i hi => ?_) ?_
    · have nd : neD (.int i) (encN p) = some (.bool (!decide (i = (p : Int)))) := enc_int.neD i (p : Int)
      simp [gNm, wipeE, l1, okN]
      by_cases h0 : 0 ≤ i
      · by_cases h1 : i < (T.length : Int)
        · simp [h0, h1, nd, l1]
        · simp [h0, h1, l1]
      · simp [h0]
    · have e : (ns.all fun i => okN T.length p (.int i)) = false := by
        rw [List.all_map] at h
        exact h
      simp only [bndK_ok, wr_ret, wr_lft, allD_map, ex1_some, e]
      simp
theorem names_yes (T : List (List Deed)) (p : Nat) (l : List Nat) (hl : l.length ≤ 8) (hne : l ≠ []) (hb : ∀ t ∈ l, t < T.length) : fn_is_names [encTs T, encN p, encK l] = some (.ok (.bool (decide (p :: l).Nodup))) := by
  have z := z24
  have l1 := len_T T
  have hn : ((l.length : Int) == 0) = false := by rw [beq_eq_false_iff_ne]; have := List.length_pos_iff.mpr hne; omega
  by_cases hp : p ∈ l
  · rw [decide_eq_false fun h => (List.nodup_cons.mp h).1 hp]
    have := names_no T p (l.map fun x : Nat => (x : Int)) (by rw [List.length_map]; exact hl) (by simpa using hne) (by
      rw [Bool.eq_false_iff]
      intro h
      rw [List.all_eq_true] at h
      have := h (.int p) (List.mem_map.mpr ⟨(p : Int), List.mem_map.mpr ⟨p, hp, rfl⟩, rfl⟩)
      simp [okN] at this)
    rw [List.map_map] at this
    exact this
  · have hall : (l.all fun t => isI (encN t)) = true := by simp [isI, isWhole]
    have hok : (l.all fun t => okN T.length p (encN t)) = true := List.all_eq_true.mpr fun t ht => by
      have h1 := hb t ht
      have h2 : t ≠ p := fun e => hp (e ▸ ht)
      have h3 : ¬ (t : Int) = (p : Int) := by omega
      simp [okN, h1, h3]
    obtain ⟨m, sl, hm⟩ := slen_nat l (by omega)
    have lr : lenD [encK l] = some (.int l.length) := by
      show some (PyData.int ((l.map fun k : Nat => PyData.int k).length : Nat)) = _
      rw [List.length_map]
    have ee := enc_nat.eqD m l.length
    have hmd : decide (m = l.length) = decide (p :: l).Nodup := by
      rw [decide_eq_decide, hm, List.nodup_cons]
      exact ⟨fun h => ⟨hp, h⟩, fun h => h.2⟩
    rw [hmd] at ee
    have sl : slenD (encK l) = some (.int m) := sl
    have ek : encK l = .tuple (l.map encN) := rfl
    generalize decide (p :: l).Nodup = b at *
    refine runV_of rfl ?_
    rw [ek] at sl lr ⊢
    simp [sem_is_names, startE, hn]
    refine wr_lcXM (xs := l) (g := encN) (fun t => .bool (isI (encN t))) rfl (by omega) (fun d hd => ?_) ?_
    · simp [gNm, wipeE, whole_isI, isI, isWhole]
    · simp only [bndK_ok, wr_ret, wr_lft, allD_map, ex1_some, hall]
      simp
      refine wr_lcXM (xs := l) (g := encN) (fun t => .bool (okN T.length p (encN t))) rfl (by omega) (fun t ht => ?_) ?_
      · have h1 := hb t ht
        have h2 : t ≠ p := fun e => hp (e ▸ ht)
        have nd := enc_nat.neD t p
        rw [decide_eq_false h2] at nd
        have h3 : ¬ (t : Int) = (p : Int) := by omega
        simp [gNm, wipeE, l1, okN, h1, nd, h3]
      · simp only [bndK_ok, wr_ret, wr_lft, allD_map, ex1_some, hok]
        simp [sl, lr, ee, -List.length_map]
end K66

namespace K66
open PySem D3 L2 Ord Cut
theorem txt {T : List (List Deed)} (hT : GoodTs T) {t : Nat} (ht : t < T.length) : ∃ x, T[t]? = some x ∧ x.length ≤ 3 ∧ atI (T.map encT) (t : Int) = some (encT x) ∧ T[t]?.getD [] = x := by
  have et : T[t]? = some T[t] := List.getElem?_eq_getElem ht
  exact ⟨T[t], et, (hT.2.2 T[t] (List.mem_of_getElem? et)).2.1, D3.atI_nat (by rw [List.getElem?_map, et]; rfl), by rw [et]; rfl⟩
theorem st_ok {T : List (List Deed)} (hT : GoodTs T) (d : Deed) {t : Nat} (ht : t < T.length) {x : List Deed} (hx : T[t]?.getD [] = x) (hl : x.length ≤ 3) : fn_rows_touch [.list [encDp d], encT x] = some (.ok (.bool (stB T d t))) := by
  have := rows_touch_l [d] x (by simp) (by omega)
  unfold stB
  rw [hx]
  exact this
theorem tT_ok {T : List (List Deed)} (hT : GoodTs T) {a b : Nat} (ha : a < T.length) (hb : b < T.length) {x y : List Deed} (hx : T[a]?.getD [] = x) (hy : T[b]?.getD [] = y) (lx : x.length ≤ 3) (ly : y.length ≤ 3) : fn_rows_touch [encT x, encT y] = some (.ok (.bool (tT T a b))) := by
  unfold tT
  rw [hx, hy]
  exact rows_touch_ok x y (by omega) (by omega)
theorem last_row {l : List Nat} (h : l ≠ []) : atI (l.map encN) (-1) = some (encN (lastN l)) := by
  have hl : 0 < l.length := List.length_pos_iff.mpr h
  have e : lastN l = l[l.length - 1]'(by omega) := by
    unfold lastN
    rw [List.getLast?_eq_getElem?, List.getElem?_eq_getElem (by omega)]
    rfl
  unfold atI ixN
  rw [List.length_map, if_neg (by omega), if_pos (by omega), Option.bind_some, show (-1 + (l.length : Int)).toNat = l.length - 1 by omega, List.getElem?_map, List.getElem?_eq_getElem (by omega), e]
  rfl
theorem head_row {l : List Nat} (h : l ≠ []) : atI (l.map encN) 0 = some (encN (l.headD 0)) := by
  cases l with
  | nil => exact absurd rfl h
  | cons a l => exact D3.atI_nat (i := 0) rfl
theorem chain_zip (f : Nat → Nat → Bool) : ∀ l : List Nat, ((l.zip l.tail).all fun q => f q.1 q.2) = chainB f l
  | [] => rfl
  | [_] => rfl
  | a :: b :: l => by
    have ih := chain_zip f (b :: l)
    show (f a b && ((b :: l).zip l).all fun q => f q.1 q.2) = (f a b && chainB f (b :: l))
    rw [← ih]
    rfl
def rgB (T : List (List Deed)) (C : List (List Nat)) (p i : Nat) (l : List Nat) (k : Nat) : Bool := !decide (pieceN (C[p]?.getD []) i = pieceN (C[p]?.getD []) k) && (stB T (dAt T p i) (l.headD 0) && (stB T (dAt T p k) (lastN l) && chainB (tT T) l))
theorem neRing : neD (.str "ring") (.str "ring") = some (.bool false) := by
  have s : SeqAt.shaped (.str "ring") = true := shaped_str (by decide +kernel)
  rw [neD_of s s]
  simp [PyData.eqv]
theorem at5 (a b c d e : PyData) : atI [a, b, c, d, e] 0 = some a ∧ atI [a, b, c, d, e] 3 = some d := ⟨rfl, rfl⟩
theorem len_x (x : List Deed) : lenD [encT x] = some (.int x.length) := by
  show some (PyData.int ((x.map encDp).length : Nat)) = _
  rw [List.length_map]
section
variable {T : List (List Deed)} {C : List (List Nat)} (hT : GoodTs T) (hC : GoodC T C) {p : Nat} {l : List Nat} (hp : p < T.length) (hl : l.length ≤ 8) (hne : l ≠ []) (hb : ∀ t ∈ l, t < T.length)
include hT hC hp hl hne hb
/-- the two deeds stand in no order -/
theorem prog_far (nd : (p :: l).Nodup) {I K : Int} (h : ¬ (0 ≤ I ∧ I < K ∧ K < ((T[p]?.getD []).length : Int))) : fn_is_ring [encTs T, encC C, .tuple [.str "ring", encN p, .int I, encK l, .int K]] = some (.ok (.bool false)) := by
  have z := z24
  have z3 : 3 ≤ sizeLine := by omega
  have l1 := len_T T
  obtain ⟨x, ex, lx, ax, gx⟩ := txt hT hp
  rw [gx] at h
  have nm := names_yes T p l hl hne hb
  rw [decide_eq_true nd] at nm
  have i1 : isiB .str (.str "ring") = true := rfl
  have lxx := len_x x
  have a0 : ∀ a b c d e : PyData, atI [a, b, c, d, e] 0 = some a := fun _ _ _ _ _ => rfl
  refine runV_of rfl ?_
  simp [sem_is_ring, startE, a0, i1, neRing, gNm, gTp, gCn, gN0, z3]
  refine wr_lcM (T := fun _ => .bool true) rfl (by simp; omega) (fun d hd => ?_) ?_
  · simp only [List.mem_cons, List.not_mem_nil, or_false] at hd
    rcases hd with rfl | rfl | rfl <;> simp [gNm, wipeE]
  · have e3 : allD [.list [.bool true, .bool true, .bool true]] = some (.bool true) := rfl
    simp [e3, l1, hp, nm]
    have a4 : encTs T = .tuple (T.map encT) := rfl
    by_cases h0 : 0 ≤ I
    · by_cases h1 : I < K
      · have h2 : ¬ K < (x.length : Int) := fun q => h ⟨h0, h1, q⟩
        simp [tChn3, tLnk, h0, h1, h2, a4, ax, lxx]
      · simp [tChn3, tLnk, h0, h1]
    · simp [tChn3, tLnk, h0]
theorem prog_near (nd : (p :: l).Nodup) {i k : Nat} (hik : i < k) (hk : k < (T[p]?.getD []).length) : fn_is_ring [encTs T, encC C, encRg p i l k] = some (.ok (.bool (rgB T C p i l k))) := by
  have z := z24
  have z1 : 1 ≤ sizeLine := by omega
  have z3 : 3 ≤ sizeLine := by omega
  have l1 := len_T T
  obtain ⟨x, ex, lx, ax, gx⟩ := txt hT hp
  rw [gx] at hk
  have hCl := hC.length
  obtain ⟨c, hc⟩ : ∃ c, C[p]? = some c := ⟨_, List.getElem?_eq_getElem (by omega)⟩
  have hcl := hC.small hT c (List.mem_of_getElem? hc)
  have ac : atI (C.map encK) (p : Int) = some (encK c) := D3.atI_nat (by rw [List.getElem?_map, hc]; rfl)
  have gc : C[p]?.getD [] = c := by rw [hc]; rfl
  have p1 := piece_of_ok c i (by omega)
  have p2 := piece_of_ok c k (by omega)
  have nm := names_yes T p l hl hne hb
  rw [decide_eq_true nd] at nm
  have i1 : isiB .str (.str "ring") = true := rfl
  have lxx := len_x x
  have a0 : ∀ a b c d e : PyData, atI [a, b, c, d, e] 0 = some a := fun _ _ _ _ _ => rfl
  have hh : l.headD 0 ∈ l := by
    cases l with
    | nil => exact absurd rfl hne
    | cons a l => exact .head _
  obtain ⟨xh, eh, lh, ah, gh⟩ := txt hT (hb _ hh)
  obtain ⟨xl, el, ll, al, gl⟩ := txt hT (hb _ (last_mem hne))
  have di : atI (x.map encDp) (i : Int) = some (encDp (dAt T p i)) := D3.atI_nat (by
    have : x[i]? = some (dAt T p i) := by unfold dAt; rw [gx, List.getElem?_eq_getElem (by omega)]; rfl
    rw [List.getElem?_map, this]; rfl)
  have dk : atI (x.map encDp) (k : Int) = some (encDp (dAt T p k)) := D3.atI_nat (by
    have : x[k]? = some (dAt T p k) := by unfold dAt; rw [gx, List.getElem?_eq_getElem hk]; rfl
    rw [List.getElem?_map, this]; rfl)
  have s1 := st_ok hT (dAt T p i) (hb _ hh) gh lh
  have s2 := st_ok hT (dAt T p k) (hb _ (last_mem hne)) gl ll
  have r1 := head_row hne
  have r2 := last_row hne
  have ee := enc_nat.eqD (pieceN c i) (pieceN c k)
  have a4 : encTs T = .tuple (T.map encT) := rfl
  have a5 : encC C = .tuple (C.map encK) := rfl
  have a6 : encT x = .tuple (x.map encDp) := rfl
  have a7 : encK l = .tuple (l.map encN) := rfl
  have ez : zip2 [encK l, .tuple (cutD (l.map encN) (some 1) none)] = some ((l.zip l.tail).map fun p => .tuple [encN p.1, encN p.2]) := by
    rw [cutD_1, ← List.map_drop, a7, zip2_tuple, zipD_map, List.drop_one]
  unfold rgB
  rw [gc]
  generalize decide (pieceN c i = pieceN c k) = c0 at *
  generalize stB T (dAt T p i) (l.headD 0) = c1 at *
  generalize stB T (dAt T p k) (lastN l) = c2 at *
  generalize dAt T p i = d1 at *
  generalize dAt T p k = d2 at *
  generalize l.headD 0 = hd at *
  generalize hlst : lastN l = ls at *
  have hii : (i : Int) < (k : Int) := by omega
  have hkk : (k : Int) < (x.length : Int) := by omega
  refine runV_of rfl ?_
  simp [sem_is_ring, startE, encRg, a0, i1, neRing, gNm, gTp, gCn, gN0, z3]
  refine wr_lcM (T := fun _ => .bool true) rfl (by simp; omega) (fun d hd => ?_) ?_
  · simp only [List.mem_cons, List.not_mem_nil, or_false] at hd
    rcases hd with rfl | rfl | rfl <;> simp [gNm, wipeE]
  · have e3 : allD [.list [.bool true, .bool true, .bool true]] = some (.bool true) := rfl
    simp [e3, l1, hp, nm]
    simp [tChn3, tLnk, hik, hk, a4, ax, lxx, a5, ac, p1, p2, ee]
    cases c0 with
    | true => simp
    | false =>
      rw [← a5] at *
      simp [z1, a4, ax, a6, di, dk, a7, r1, ah, s1]
      cases c1 with
      | false => simp
      | true =>
        simp [z1, ax, a6, di, dk, a7, r2, al, s2]
        cases c2 with
        | false => simp
        | true =>
          rw [← a7] at *
          have sA : slAD (encK l) (some 1) none = some (.tuple (cutD (l.map encN) (some 1) none)) := rfl
          simp [sA, ez, a4]
          refine wr_lcXM (xs := l.zip l.tail) (g := fun p => .tuple [encN p.1, encN p.2]) (fun q => .bool (tT T q.1 q.2)) rfl (by rw [List.length_zip]; omega) (fun q hq => ?_) ?_
          · have b1 := hb _ (List.of_mem_zip (a := q.1) (b := q.2) hq).1
            have b2 := hb _ (List.mem_of_mem_tail (List.of_mem_zip (a := q.1) (b := q.2) hq).2)
            obtain ⟨xa, ea, la, aa, ga⟩ := txt hT b1
            obtain ⟨xb, eb, lb, ab, gb⟩ := txt hT b2
            have tt := tT_ok hT b1 b2 ga gb la lb
            simp [gNm, gTp, gCn, gN0, wipeE, aa, ab, tt]
          · simp only [bndK_ok, wr_ret, wr_lft, allD_map, ex1_some, chain_zip]
            simp
end
end K66

namespace K66
open PySem D3 L2 Ord Cut
theorem law_number_ok {C : List (List Nat)} {p : Nat} {c : List Nat} (hc : C[p]? = some c) (i : Nat) (hl : c.length ≤ 1000) : fn__law_number [encC C, encN p, encN i] = some (.ok (encN (pieceN c i))) := by
  have z := z24
  have a1 : atI (C.map encK) (p : Int) = some (encK c) := D3.atI_nat (by rw [List.getElem?_map, hc]; rfl)
  have a5 : encC C = .tuple (C.map encK) := rfl
  have a7 : encK c = .tuple (c.map encN) := rfl
  refine runV_of rfl ?_
  rw [a5]
  simp [sem__law_number, startE, a1, a7]
  refine wr_lcX (xs := c) (g := encN) (fun q : Nat => if decide (q ≤ i) = true then some (encN q) else none) rfl (by omega) (fun q hq => ?_) ?_
  · by_cases h : q ≤ i <;> simp [gNm, wipeE, TurnX, h]
  · rw [filterMap_if]
    simp [pieceN]
theorem chain_range (f : Nat → Nat → Bool) : ∀ l : List Nat, ((List.range (l.length - 1)).all fun i => f (l[i]?.getD 0) (l[i + 1]?.getD 0)) = chainB f l
  | [] => rfl
  | [_] => rfl
  | a :: b :: l => by
    have ih := chain_range f (b :: l)
    show ((List.range (l.length + 1)).all _) = (f a b && chainB f (b :: l))
    rw [List.range_succ_eq_map, List.all_cons, List.all_map, ← ih]
    rfl
theorem rg1_range (n : Nat) : rgD 1 (n : Int) = (List.range (n - 1)).map fun i => encN (i + 1) := by
  unfold rgD
  rw [show ((n : Int) - 1).toNat = n - 1 by omega]
  refine List.map_congr_left fun i hi => ?_
  show PyData.int (1 + (i : Int)) = PyData.int ((i + 1 : Nat) : Int)
  congr 1
  omega
theorem atN {l : List Nat} {i : Nat} (h : i < l.length) : atI (l.map encN) (i : Int) = some (encN (l[i]?.getD 0)) := by
  refine D3.atI_nat ?_
  rw [List.getElem?_map, List.getElem?_eq_getElem h]
  rfl
theorem law_touch_l (one two : List Deed) (h1 : one.length ≤ 1000) (h2 : two.length ≤ 1000) : fn__law_touch [.list (one.map encDp), encT two] = some (.ok (.bool (touch one two))) := by
  have z := z24
  refine runV_of rfl ?_
  simp [sem__law_touch, startE]
  rw [show encT two = .tuple (two.map encDp) from rfl]
  simp
  refine wr_lcXM (fun b => .bool (one.any fun a => touchD a b)) rfl (by omega) (fun b hb => ?_) ?_
  · simp [gNm, wipeE]
    refine wr_lcXM (fun a => .bool (touchD a b)) rfl (by omega) (fun a ha => ?_) ?_
    · obtain ⟨w, x⟩ := a
      obtain ⟨w', x'⟩ := b
      simp [gNm, wipeE, encDp, encD, atI, ixN, eq_nat, touchD, eqD_op]
      by_cases h : x = x'
      · cases w <;> simp [h, atI, ixN, eqD_op, eq_nat]
      · have h' : (x == x') = false := beq_eq_false_iff_ne.mpr h
        simp [h, h']
    · simp [wipeE]
  · simp [touch]
    rw [Bool.eq_iff_iff]
    simp only [List.any_eq_true]
    exact ⟨fun ⟨b, hb, a, ha, e⟩ => ⟨a, ha, b, hb, e⟩, fun ⟨a, ha, b, hb, e⟩ => ⟨b, hb, a, ha, e⟩⟩
theorem lst_ok {T : List (List Deed)} (d : Deed) {t : Nat} {x : List Deed} (hx : T[t]?.getD [] = x) (hl : x.length ≤ 3) : fn__law_touch [.list [encDp d], encT x] = some (.ok (.bool (stB T d t))) := by
  have := law_touch_l [d] x (by simp) (by omega)
  unfold stB
  rw [hx]
  exact this
theorem ltT_ok {T : List (List Deed)} {a b : Nat} {x y : List Deed} (hx : T[a]?.getD [] = x) (hy : T[b]?.getD [] = y) (lx : x.length ≤ 3) (ly : y.length ≤ 3) : fn__law_touch [encT x, encT y] = some (.ok (.bool (tT T a b))) := by
  unfold tT
  rw [hx, hy]
  exact law_touch_ok x y (by omega) (by omega)
section
variable {T : List (List Deed)} {C : List (List Nat)} (hT : GoodTs T) (hC : GoodC T C) {p : Nat} {l : List Nat} (hp : p < T.length) (hl : l.length ≤ 8) (hne : l ≠ []) (hb : ∀ t ∈ l, t < T.length)
include hT hC hp hl hne hb
theorem law_far (nd : (p :: l).Nodup) {I K : Int} (h : ¬ (0 ≤ I ∧ I < K ∧ K < ((T[p]?.getD []).length : Int))) : fn__law_is_ring [encTs T, encC C, .tuple [.str "ring", encN p, .int I, encK l, .int K]] = some (.ok (.bool false)) := by
  have z := z24
  have z1 : 1 ≤ sizeLine := by omega
  have z3 : 3 ≤ sizeLine := by omega
  have l1 := len_T T
  obtain ⟨x, ex, lx, ax, gx⟩ := txt hT hp
  rw [gx] at h
  have i1 : isiB .str (.str "ring") = true := rfl
  have i2 : ∀ i : Int, isiB .int (.int i) = true := fun _ => rfl
  have i3 : ∀ i : Int, isiB .bool (.int i) = false := fun _ => rfl
  have lxx := len_x x
  have a0 : ∀ a b c d e : PyData, atI [a, b, c, d, e] 0 = some a := fun _ _ _ _ _ => rfl
  have a3 : ∀ a b c d e : PyData, atI [a, b, c, d, e] 3 = some d := fun _ _ _ _ _ => rfl
  have c1 : ∀ a b c d e : PyData, cutD [a, b, c, d, e] (some 1) none = [b, c, d, e] := fun _ _ _ _ _ => cutD_1 _
  have a7 : encK l = .tuple (l.map encN) := rfl
  have i4 : isiB .tuple (encK l) = true := rfl
  have a4 : encTs T = .tuple (T.map encT) := rfl
  have ad : addD (.tuple [encN p, .int I, .int K]) (encK l) = some (.tuple (encN p :: .int I :: .int K :: l.map encN)) := by
    rw [a7, addD_tup (by simp; omega)]
    rfl
  have e2 := eqD_nilT (ds := l.map encN) (k := 0) fun d hd => by
    obtain ⟨x, _, rfl⟩ := List.mem_map.mp hd
    exact ⟨enc_nat.lay x, enc_nat.dep x⟩
  have hie : (l.map encN).isEmpty = false := by cases l <;> simp_all
  rw [hie, ← a7] at e2
  refine runV_of rfl ?_
  simp [sem__law_is_ring, startE, a0, a3, i1, i4, neRing, c1, gNm, gTp, gCn, gN0, z3, e2, ad]
  refine wr_lcM (T := fun _ => .bool true) rfl (by simp; omega) (fun d hd => ?_) ?_
  · have : ∃ i, d = .int i := by
      simp only [List.mem_cons, List.mem_map] at hd
      rcases hd with rfl | rfl | rfl | ⟨x, _, rfl⟩ <;> exact ⟨_, rfl⟩
    obtain ⟨i, rfl⟩ := this
    simp [gNm, wipeE, i2, i3]
  · have e3 : allD [.list ((encN p :: .int I :: .int K :: l.map encN).map fun _ => PyData.bool true)] = some (.bool true) := by
      rw [allD_map (fun _ : PyData => true)]
      simp
    generalize (encN p :: .int I :: .int K :: l.map encN).map (fun _ => PyData.bool true) = bs at *
    simp [e3, l1, hp]
    by_cases h0 : 0 ≤ I
    · by_cases h1 : I < K
      · have h2 : ¬ K < (x.length : Int) := fun q => h ⟨h0, h1, q⟩
        simp [tChn3, tLnk, h0, h1, h2, a4, ax, lxx]
      · simp [tChn3, tLnk, h0, h1]
    · simp [tChn3, tLnk, h0]
theorem law_near (nd : (p :: l).Nodup) {i k : Nat} (hik : i < k) (hk : k < (T[p]?.getD []).length) : fn__law_is_ring [encTs T, encC C, encRg p i l k] = some (.ok (.bool (rgB T C p i l k))) := by
  have z := z24
  have z1 : 1 ≤ sizeLine := by omega
  have z3 : 3 ≤ sizeLine := by omega
  have l1 := len_T T
  obtain ⟨x, ex, lx, ax, gx⟩ := txt hT hp
  rw [gx] at hk
  have hCl := hC.length
  obtain ⟨c, hc⟩ : ∃ c, C[p]? = some c := ⟨_, List.getElem?_eq_getElem (by omega)⟩
  have hcl := hC.small hT c (List.mem_of_getElem? hc)
  have gc : C[p]?.getD [] = c := by rw [hc]; rfl
  have p1 := law_number_ok hc i (by omega)
  have p2 := law_number_ok hc k (by omega)
  have i1 : isiB .str (.str "ring") = true := rfl
  have i2 : ∀ i : Int, isiB .int (.int i) = true := fun _ => rfl
  have i3 : ∀ i : Int, isiB .bool (.int i) = false := fun _ => rfl
  have lxx := len_x x
  have a0 : ∀ a b c d e : PyData, atI [a, b, c, d, e] 0 = some a := fun _ _ _ _ _ => rfl
  have a3 : ∀ a b c d e : PyData, atI [a, b, c, d, e] 3 = some d := fun _ _ _ _ _ => rfl
  have c1 : ∀ a b c d e : PyData, cutD [a, b, c, d, e] (some 1) none = [b, c, d, e] := fun _ _ _ _ _ => cutD_1 _
  have hh : l.headD 0 ∈ l := by
    cases l with
    | nil => exact absurd rfl hne
    | cons a l => exact .head _
  obtain ⟨xh, eh, lh, ah, gh⟩ := txt hT (hb _ hh)
  obtain ⟨xl, el, ll, al, gl⟩ := txt hT (hb _ (last_mem hne))
  have di : atI (x.map encDp) (i : Int) = some (encDp (dAt T p i)) := D3.atI_nat (by
    have : x[i]? = some (dAt T p i) := by unfold dAt; rw [gx, List.getElem?_eq_getElem (by omega)]; rfl
    rw [List.getElem?_map, this]; rfl)
  have dk : atI (x.map encDp) (k : Int) = some (encDp (dAt T p k)) := D3.atI_nat (by
    have : x[k]? = some (dAt T p k) := by unfold dAt; rw [gx, List.getElem?_eq_getElem hk]; rfl
    rw [List.getElem?_map, this]; rfl)
  have s1 := lst_ok (T := T) (dAt T p i) gh lh
  have s2 := lst_ok (T := T) (dAt T p k) gl ll
  have r1 := head_row hne
  have r2 := last_row hne
  have ee := enc_nat.eqD (pieceN c i) (pieceN c k)
  have a4 : encTs T = .tuple (T.map encT) := rfl
  have a6 : encT x = .tuple (x.map encDp) := rfl
  have a7 : encK l = .tuple (l.map encN) := rfl
  have i4 : isiB .tuple (encK l) = true := rfl
  have ad : addD (.tuple [encN p, encN i, encN k]) (encK l) = some (.tuple ((p :: i :: k :: l).map encN)) := by
    rw [a7, addD_tup (by simp; omega)]
    rfl
  have ad2 : addD (encK l) (.tuple [encN p]) = some (.tuple ((l ++ [p]).map encN)) := by
    rw [a7, addD_tup (by simp; omega), List.map_append]
    rfl
  have e2 := eqD_nilT (ds := l.map encN) (k := 0) fun d hd => by
    obtain ⟨x, _, rfl⟩ := List.mem_map.mp hd
    exact ⟨enc_nat.lay x, enc_nat.dep x⟩
  have hie : (l.map encN).isEmpty = false := by cases l <;> simp_all
  rw [hie, ← a7] at e2
  obtain ⟨m, sl, hm⟩ := slen_nat (l ++ [p]) (by simp; omega)
  have nd2 : (l ++ [p]).Nodup := (List.perm_append_comm (l₁ := [p]) (l₂ := l)).nodup_iff.mp nd
  have hm2 : m = l.length + 1 := by
    have := hm.mpr nd2
    rw [List.length_append] at this
    exact this
  have nn : neD (.int (m : Nat)) (.int ((l.length : Int) + 1)) = some (.bool false) := by
    have := enc_nat.neD m (l.length + 1)
    rw [decide_eq_true hm2] at this
    exact this
  have lr : lenD [encK l] = some (.int l.length) := by
    show some (PyData.int ((l.map encN).length : Nat)) = _
    rw [List.length_map]
  have sm : sm62 (l.length : Int) = true := sm62_of' (by omega) (by omega)
  have s10 : sm62 1 = true := rfl
  unfold rgB
  rw [gc]
  generalize decide (pieceN c i = pieceN c k) = c0 at *
  generalize stB T (dAt T p i) (l.headD 0) = c1' at *
  generalize stB T (dAt T p k) (lastN l) = c2 at *
  generalize dAt T p i = d1 at *
  generalize dAt T p k = d2 at *
  generalize l.headD 0 = hd at *
  generalize hlst : lastN l = ls at *
  generalize hnm : p :: i :: k :: l = nm at *
  have hnl : nm.length ≤ 20 := by rw [← hnm]; simp; omega
  refine runV_of rfl ?_
  simp [sem__law_is_ring, startE, encRg, a0, a3, i1, i4, neRing, c1, gNm, gTp, gCn, gN0, z3, e2, ad]
  refine wr_lcXM (xs := nm) (g := encN) (fun _ => .bool true) rfl (by omega) (fun d hd => ?_) ?_
  · simp [gNm, wipeE, i2, i3]
  · have e3 : allD [.list (nm.map fun _ => PyData.bool true)] = some (.bool true) := by
      rw [allD_map (fun _ : Nat => true)]
      simp
    generalize nm.map (fun _ => PyData.bool true) = bs at *
    simp [e3, l1, hp, tChn3, tLnk, hik, hk, a4, ax, lxx, z1]
    have sq : seqD (encK l) = some (l.map encN) := rfl
    rw [List.map_append] at sl
    have sl2 : slenD (.tuple (l.map encN ++ [encN p])) = some (.int (m : Nat)) := sl
    simp [ad2, sl2, lr, nn, sq]
    refine wr_lcXM (xs := l) (g := encN) (fun _ => .bool true) rfl (by omega) (fun t ht => ?_) ?_
    · have := hb t ht
      simp [gNm, wipeE, l1, this]
    · have e4 : allD [.list (l.map fun _ => PyData.bool true)] = some (.bool true) := by
        rw [allD_map (fun _ : Nat => true)]
        simp
      generalize l.map (fun _ => PyData.bool true) = bs2 at *
      simp [e4, p1, p2, ee]
      cases c0 with
      | true => simp
      | false =>
        simp [z1, a4, ax, a6, di, dk, a7, r1, ah, s1]
        cases c1' with
        | false => simp
        | true =>
          simp [z1, a4, ax, a6, di, dk, a7, r2, al, s2]
          cases c2 with
          | false => simp
          | true =>
            have lr2 : lenD [.tuple (l.map encN)] = some (.int l.length) := lr
            simp [lr, lr2, a7, sm, s10, -List.length_map]
            rw [rg1_range]
            refine wr_lcXM (xs := List.range (l.length - 1)) (g := fun i => encN (i + 1)) (fun i => .bool (tT T (l[i]?.getD 0) (l[i + 1]?.getD 0))) rfl (by rw [List.length_range]; omega) (fun j hj => ?_) ?_
            · have hj' : j < l.length - 1 := by simpa using hj
              have x1 := atN (l := l) (i := j) (by omega)
              have x2 := atN (l := l) (i := j + 1) (by omega)
              have y1 : l[j]?.getD 0 < T.length := by rw [List.getElem?_eq_getElem (by omega)]; exact hb _ (List.getElem_mem _)
              have y2 : l[j + 1]?.getD 0 < T.length := by rw [List.getElem?_eq_getElem (by omega)]; exact hb _ (List.getElem_mem _)
              obtain ⟨xa, ea, la, aa, ga⟩ := txt hT y1
              obtain ⟨xb, eb, lb, ab, gb⟩ := txt hT y2
              have tt := ltT_ok ga gb la lb
              generalize l[j]?.getD 0 = u at *
              generalize l[j + 1]?.getD 0 = v at *
              rw [show ((j + 1 : Nat) : Int) = (j : Int) + 1 from rfl] at x2
              have x4 : (j : Int) + 1 - 1 = (j : Int) := by omega
              simp [gNm, wipeE, a4, a7, x4, x1, x2, aa, ab, tt]
            · simp only [bndK_ok, wr_ret, wr_lft, allD_map, ex1_some, chain_range]
              simp
end
end K66

namespace K66
open PySem D3 L2 Ord Cut
section
variable {T : List (List Deed)} {C : List (List Nat)}
abbrev rg5 (v1 v2 v3 v4 : PyData) : PyData := .tuple [.str "ring", v1, v2, v3, v4]
theorem a5_0 (a b c d e : PyData) : atI [a, b, c, d, e] 0 = some a := rfl
theorem a5_3 (a b c d e : PyData) : atI [a, b, c, d, e] 3 = some d := rfl
theorem c5_1 (a b c d e : PyData) : cutD [a, b, c, d, e] (some 1) none = [b, c, d, e] := cutD_1 _
theorem prog_a (T : List (List Deed)) (C : List (List Nat)) {v1 v2 v3 v4 : PyData} (h : (isWhole v1 && (isWhole v2 && isWhole v4)) = false) : fn_is_ring [encTs T, encC C, rg5 v1 v2 v3 v4] = some (.ok (.bool false)) := by
  have z := z24
  have z3 : 3 ≤ sizeLine := by omega
  have i1 : isiB .str (.str "ring") = true := rfl
  refine runV_of rfl ?_
  simp [sem_is_ring, startE, a5_0, i1, neRing, gNm, gTp, gCn, gN0, z3]
  refine wr_lcM (T := fun d => .bool (isWhole d)) rfl (by simp; omega) (fun d hd => ?_) ?_
  · simp [gNm, wipeE]
  · have e3 : allD [.list ([v1, v2, v4].map fun d => PyData.bool (isWhole d))] = some (.bool false) := by
      rw [allD_map isWhole]
      simp only [List.all_cons, List.all_nil, Bool.and_true, h]
    generalize [v1, v2, v4].map (fun d => PyData.bool (isWhole d)) = bs at *
    simp [e3]
theorem prog_b (T : List (List Deed)) (C : List (List Nat)) {P I K : Int} {v3 : PyData} (h : ¬ (0 ≤ P ∧ P < (T.length : Int))) : fn_is_ring [encTs T, encC C, rg5 (.int P) (.int I) v3 (.int K)] = some (.ok (.bool false)) := by
  have z := z24
  have z3 : 3 ≤ sizeLine := by omega
  have l1 := len_T T
  have i1 : isiB .str (.str "ring") = true := rfl
  refine runV_of rfl ?_
  simp [sem_is_ring, startE, a5_0, i1, neRing, gNm, gTp, gCn, gN0, z3]
  refine wr_lcM (T := fun _ => .bool true) rfl (by simp; omega) (fun d hd => ?_) ?_
  · simp only [List.mem_cons, List.not_mem_nil, or_false] at hd
    rcases hd with rfl | rfl | rfl <;> simp [gNm, wipeE]
  · have e3 : allD [.list [.bool true, .bool true, .bool true]] = some (.bool true) := rfl
    by_cases h0 : 0 ≤ P
    · have h1 : ¬ P < (T.length : Int) := fun q => h ⟨h0, q⟩
      simp [e3, l1, h0, h1]
    · simp [e3, l1, h0]
theorem prog_c (T : List (List Deed)) (C : List (List Nat)) {p : Nat} (hp : p < T.length) {I K : Int} {v3 : PyData} (h : fn_is_names [encTs T, encN p, v3] = some (.ok (.bool false))) : fn_is_ring [encTs T, encC C, rg5 (encN p) (.int I) v3 (.int K)] = some (.ok (.bool false)) := by
  have z := z24
  have z3 : 3 ≤ sizeLine := by omega
  have l1 := len_T T
  have i1 : isiB .str (.str "ring") = true := rfl
  refine runV_of rfl ?_
  simp [sem_is_ring, startE, a5_0, i1, neRing, gNm, gTp, gCn, gN0, z3]
  refine wr_lcM (T := fun _ => .bool true) rfl (by simp; omega) (fun d hd => ?_) ?_
  · simp only [List.mem_cons, List.not_mem_nil, or_false] at hd
    rcases hd with rfl | rfl | rfl <;> simp [gNm, wipeE]
  · have e3 : allD [.list [.bool true, .bool true, .bool true]] = some (.bool true) := rfl
    simp [e3, l1, hp, h]
theorem law_a (T : List (List Deed)) (C : List (List Nat)) {v1 v2 v3 v4 : PyData} (h : isiB .tuple v3 = false) : fn__law_is_ring [encTs T, encC C, rg5 v1 v2 v3 v4] = some (.ok (.bool false)) := by
  have i1 : isiB .str (.str "ring") = true := rfl
  refine runV_of rfl ?_
  simp [sem__law_is_ring, startE, a5_0, a5_3, i1, neRing, h]
theorem law_b (T : List (List Deed)) (C : List (List Nat)) {v1 v2 v4 : PyData} {es : List PyData} (hl : es.length ≤ 8) (hz : SeqAt.shaped (.tuple es) = true) (h : es.isEmpty = true ∨ ([v1, v2, v4] ++ es).all isWhole = false) : fn__law_is_ring [encTs T, encC C, rg5 v1 v2 (.tuple es) v4] = some (.ok (.bool false)) := by
  have z := z24
  have z3 : 3 ≤ sizeLine := by omega
  have i1 : isiB .str (.str "ring") = true := rfl
  have i4 : isiB .tuple (.tuple es) = true := rfl
  have e2 : eqD (.tuple es) (.tuple []) = some (.bool es.isEmpty) := by
    rw [eqD_of hz (shaped_tuple (k := 0) (by simp)), eqv_nilT]
  have ad : addD (.tuple [v1, v2, v4]) (.tuple es) = some (.tuple ([v1, v2, v4] ++ es)) := addD_tup (by simp; omega)
  have hiw : ∀ d : PyData, (isiB .int d && !isiB .bool d) = isWhole d := fun d => by cases d <;> rfl
  refine runV_of rfl ?_
  by_cases he : es.isEmpty = true
  · rw [he] at e2
    simp [sem__law_is_ring, startE, a5_0, a5_3, i1, i4, neRing, c5_1, gNm, gTp, gCn, gN0, z3, e2]
  · have h2 := h.resolve_left he
    have he : es.isEmpty = false := by simpa using he
    rw [he] at e2
    have hal : ([v1, v2, v4] ++ es).length ≤ 20 := by simp; omega
    generalize [v1, v2, v4] ++ es = al at *
    simp [sem__law_is_ring, startE, a5_0, a5_3, i1, i4, neRing, c5_1, gNm, gTp, gCn, gN0, z3, e2, ad]
    refine wr_lcM (T := fun d => .bool (isWhole d)) rfl (by omega) (fun d hd => ?_) ?_
    · have := hiw d
      cases h1 : isiB .int d
      · rw [h1] at this
        simp [gNm, wipeE, h1, ← this]
      · rw [h1] at this
        simp [gNm, wipeE, h1, ← this]
    · have e3 : allD [.list (al.map fun d => PyData.bool (isWhole d))] = some (.bool false) := by rw [allD_map isWhole, h2]
      generalize al.map (fun d => PyData.bool (isWhole d)) = bs at *
      simp [e3]
theorem law_c (T : List (List Deed)) (C : List (List Nat)) (hT : GoodTs T) {P I K : Int} {ns : List Int} (hne : ns ≠ []) (hl : ns.length ≤ 8) (h : ∀ (p : Nat) (l : List Nat), P = (p : Int) → ns = l.map (fun x : Nat => (x : Int)) → p < T.length → (∀ t ∈ l, t < T.length) → ¬ (p :: l).Nodup) : fn__law_is_ring [encTs T, encC C, rg5 (.int P) (.int I) (.tuple (ns.map .int)) (.int K)] = some (.ok (.bool false)) := by
  have z := z24
  have z1 : 1 ≤ sizeLine := by omega
  have z3 : 3 ≤ sizeLine := by omega
  have l1 := len_T T
  have i1 : isiB .str (.str "ring") = true := rfl
  have i2 : ∀ i : Int, isiB .int (.int i) = true := fun _ => rfl
  have i3 : ∀ i : Int, isiB .bool (.int i) = false := fun _ => rfl
  have i4 : isiB .tuple (.tuple (ns.map .int)) = true := rfl
  have e2 := eqD_nilT (ds := ns.map PyData.int) (k := 0) fun d hd => by
    obtain ⟨x, _, rfl⟩ := List.mem_map.mp hd
    exact ⟨enc_int.lay x, enc_int.dep x⟩
  have hie : (ns.map PyData.int).isEmpty = false := by cases ns <;> simp_all
  rw [hie] at e2
  have ad : addD (.tuple [.int P, .int I, .int K]) (.tuple (ns.map .int)) = some (.tuple ((P :: I :: K :: ns).map .int)) := addD_tup (by simp; omega)
  have ad2 : addD (.tuple (ns.map .int)) (.tuple [.int P]) = some (.tuple (ns.map PyData.int ++ [.int P])) := addD_tup (by simp; omega)
  have sl := slen_ints (ns ++ [P]) (by simp; omega)
  rw [List.map_append] at sl
  have sl2 : slenD (.tuple (ns.map PyData.int ++ [.int P])) = some (.int ((usortI (ns ++ [P])).length : Nat)) := sl
  have lr : lenD [.tuple (ns.map PyData.int)] = some (.int ns.length) := by
    show some (PyData.int ((ns.map PyData.int).length : Nat)) = _
    rw [List.length_map]
  have nn : neD (.int ((usortI (ns ++ [P])).length : Nat)) (.int ((ns.length : Int) + 1)) = some (.bool (!decide ((usortI (ns ++ [P])).length = ns.length + 1))) := enc_nat.neD (usortI (ns ++ [P])).length (ns.length + 1)
  generalize hnm : P :: I :: K :: ns = nm at *
  have hnl : nm.length ≤ 20 := by rw [← hnm]; simp; omega
  refine runV_of rfl ?_
  simp [sem__law_is_ring, startE, a5_0, a5_3, i1, i4, neRing, c5_1, gNm, gTp, gCn, gN0, z3, e2, ad]
  refine wr_lcXM (xs := nm) (g := PyData.int) (fun _ => .bool true) rfl (by omega) (fun d hd => ?_) ?_
  · simp [gNm, wipeE, i2, i3]
  · have e3 : allD [.list (nm.map fun _ => PyData.bool true)] = some (.bool true) := by
      rw [allD_map (fun _ : Int => true)]
      simp
    generalize nm.map (fun _ => PyData.bool true) = bs at *
    by_cases hP : 0 ≤ P ∧ P < (T.length : Int)
    · obtain ⟨p, rfl⟩ : ∃ p : Nat, P = (p : Int) := ⟨P.toNat, (Int.toNat_of_nonneg hP.1).symm⟩
      have hp : p < T.length := by omega
      obtain ⟨x, ex, lx, ax, gx⟩ := txt hT hp
      have lxx := len_x x
      have a4 : encTs T = .tuple (T.map encT) := rfl
      by_cases hfar : 0 ≤ I ∧ I < K ∧ K < (x.length : Int)
      · obtain ⟨f1, f2, f3⟩ := hfar
        have e5 : encN p = .int (p : Int) := rfl
        by_cases hu : (usortI (ns ++ [(p : Int)])).length = ns.length + 1
        · rw [decide_eq_true hu] at nn
          simp [e3, l1, hp, tChn3, tLnk, f1, f2, f3, a4, ax, lxx, z1, ad2, sl2, lr, nn]
          refine wr_lcXM (xs := ns) (g := PyData.int) (fun i => .bool (decide (0 ≤ i) && decide (i < (T.length : Int)))) rfl (by omega) (fun i hi => ?_) ?_
          · by_cases h0 : 0 ≤ i <;> simp [gNm, wipeE, l1, h0]
          · have hall : (ns.all fun i => decide (0 ≤ i) && decide (i < (T.length : Int))) = false := by
              rw [Bool.eq_false_iff]
              intro hal
              simp only [List.all_eq_true, Bool.and_eq_true, decide_eq_true_eq] at hal
              obtain ⟨l, rfl, hb⟩ := nat_ex hal
              have hm := h p l rfl rfl hp hb
              apply hm
              have e6 : (l.map fun x : Nat => (x : Int)) ++ [(p : Int)] = (l ++ [p]).map fun x : Nat => (x : Int) := by rw [List.map_append]; rfl
              rw [e6, List.length_map] at hu
              have nd2 : (l ++ [p]).Nodup := (usort_len _).mp (by rw [hu, List.length_append]; rfl)
              exact (List.perm_append_comm (l₁ := l) (l₂ := [p])).nodup_iff.mp nd2
            simp only [bndK_ok, wr_ret, wr_lft, allD_map, ex1_some, hall]
            simp
        · rw [decide_eq_false hu] at nn
          simp [e3, l1, hp, tChn3, tLnk, f1, f2, f3, a4, ax, lxx, z1, ad2, sl2, lr, nn]
      · by_cases h0 : 0 ≤ I
        · by_cases h1 : I < K
          · have h2 : ¬ K < (x.length : Int) := fun q => hfar ⟨h0, h1, q⟩
            simp [e3, l1, hp, tChn3, tLnk, h0, h1, h2, a4, ax, lxx]
          · simp [e3, l1, hp, tChn3, tLnk, h0, h1]
        · simp [e3, l1, hp, tChn3, tLnk, h0]
    · by_cases h0 : 0 ≤ P
      · have h1 : ¬ P < (T.length : Int) := fun q => hP ⟨h0, q⟩
        simp [e3, l1, h0, h1]
      · simp [e3, l1, h0]
end
end K66

namespace K66
open PySem D3 L2 Ord Cut
/-! ### small values of any kind -/
inductive Sml : Nat → PyData → Prop
  | none (k : Nat) : Sml k .none
  | bool (k : Nat) (b : Bool) : Sml k (.bool b)
  | int (k : Nat) (i : Int) : Sml k (.int i)
  | str (k : Nat) (s : Str) : PyData.strOk s = true → Sml k (.str s)
  | tup (k : Nat) (ds : List PyData) : ds.length ≤ 8 → (∀ d ∈ ds, Sml k d) → Sml (k + 1) (.tuple ds)
  | lst (k : Nat) (ds : List PyData) : ds.length ≤ 8 → (∀ d ∈ ds, Sml k d) → Sml (k + 1) (.list ds)
theorem Sml.lay {k : Nat} {d : PyData} (h : Sml k d) : PyData.canLay0 d = true ∧ PyData.depth d ≤ k := by
  induction h with
  | none k => exact ⟨by simp only [PyData.canLay0], by simp only [PyData.depth]; omega⟩
  | bool k b => exact ⟨by simp only [PyData.canLay0], by simp only [PyData.depth]; omega⟩
  | int k i => exact ⟨by simp only [PyData.canLay0], by simp only [PyData.depth]; omega⟩
  | str k s h => exact ⟨by simp only [PyData.canLay0]; exact h, by simp only [PyData.depth]; omega⟩
  | tup k ds hl h ih =>
    obtain ⟨h1, h2⟩ := lay_each (k := k) ih
    exact ⟨by simp only [PyData.canLay0]; exact h1, by simp only [PyData.depth]; omega⟩
  | lst k ds hl h ih =>
    obtain ⟨h1, h2⟩ := lay_each (k := k) ih
    exact ⟨by simp only [PyData.canLay0]; exact h1, by simp only [PyData.depth]; omega⟩
theorem Sml.shaped {k : Nat} {d : PyData} (h : Sml k d) (hk : k ≤ 64) : SeqAt.shaped d = true := by
  unfold SeqAt.shaped
  obtain ⟨h1, h2⟩ := h.lay
  rw [h1, Bool.true_and, decide_eq_true_eq]
  omega
end K66

namespace K66
open PySem D3 L2 Ord Cut
theorem ring_rgB {T : List (List Deed)} {C : List (List Nat)} {p i k : Nat} {l : List Nat} (hp : p < T.length) (hne : l ≠ []) (hb : ∀ t ∈ l, t < T.length) (nd : (p :: l).Nodup) (hik : i < k) (hk : k < (T[p]?.getD []).length) : rgB T C p i l k = true ↔ Ring T C p i l k := by
  obtain ⟨n1, n2⟩ := List.nodup_cons.mp nd
  unfold rgB
  simp only [Bool.and_eq_true, Bool.not_eq_true', decide_eq_false_iff_not]
  constructor
  · rintro ⟨h1, h2, h3, h4⟩
    refine ⟨hp, hik, hk, h1, ⟨⟨hne, n2, rfl, h2, h4⟩, fun t ht => ?_, h3⟩⟩
    unfold otherL
    rw [List.mem_filter, List.mem_range]
    refine ⟨hb t ht, ?_⟩
    simpa using fun e : t = p => n1 (e ▸ ht)
  · intro r
    exact ⟨r.pc, r.way.pth.start, r.way.fin, r.way.pth.chain⟩
theorem Ring.names {T : List (List Deed)} {C : List (List Nat)} (hT : GoodTs T) {p i k : Nat} {l : List Nat} (r : Ring T C p i l k) : (∀ t ∈ l, t < T.length) ∧ (p :: l).Nodup ∧ l.length ≤ 4 := by
  have h : ∀ t ∈ l, t < T.length ∧ t ≠ p := fun t ht => by
    have := r.way.sub t ht
    unfold otherL at this
    rw [List.mem_filter, List.mem_range] at this
    exact ⟨this.1, by simpa using this.2⟩
  have nd : (p :: l).Nodup := List.nodup_cons.mpr ⟨fun hm => (h p hm).2 rfl, r.way.pth.nd⟩
  have hl := L2.nat_nodup_len l (List.range T.length) r.way.pth.nd fun t ht => List.mem_range.mpr (h t ht).1
  rw [List.length_range] at hl
  have := hT.2.1
  exact ⟨fun t ht => (h t ht).1, nd, by omega⟩
theorem is_ring_yes {T : List (List Deed)} {C : List (List Nat)} (hT : GoodTs T) (hC : GoodC T C) {p i k : Nat} {l : List Nat} (r : Ring T C p i l k) : fn_is_ring [encTs T, encC C, encRg p i l k] = some (.ok (.bool true)) ∧ fn__law_is_ring [encTs T, encC C, encRg p i l k] = some (.ok (.bool true)) := by
  obtain ⟨hb, nd, hl⟩ := r.names hT
  have hne := r.way.pth.ne
  have h1 := prog_near hT hC r.pl (by omega) hne hb nd r.ik r.kl
  have h2 := law_near hT hC r.pl (by omega) hne hb nd r.ik r.kl
  rw [(ring_rgB r.pl hne hb nd r.ik r.kl).mpr r] at h1 h2
  exact ⟨h1, h2⟩
theorem neS {s : Str} (h : PyData.strOk s = true) : neD (.str s) (.str "ring") = some (.bool (!decide (s = Str.ofString "ring"))) := by
  have s1 : SeqAt.shaped (.str s) = true := shaped_str h
  have s2 : SeqAt.shaped (.str "ring") = true := shaped_str (by decide +kernel)
  rw [neD_of s1 s2]
  simp [PyData.eqv]
  rfl
theorem isW_ex {d : PyData} (h : isWhole d = true) : ∃ i, d = .int i := by
  cases d with
  | int i => exact ⟨i, rfl⟩
  | _ => exact absurd h (by simp [isWhole])
theorem ring_agree {T : List (List Deed)} {C : List (List Nat)} (hT : GoodTs T) (hC : GoodC T C) (v : PyData) {k : Nat} (hk : k ≤ 60) (hv : Sml k v) : ∃ b, fn_is_ring [encTs T, encC C, v] = some (.ok (.bool b)) ∧ fn__law_is_ring [encTs T, encC C, v] = some (.ok (.bool b)) ∧ (b = true → ∃ p i l k, v = encRg p i l k ∧ Ring T C p i l k) := by
  by_cases htu : isiB .tuple v = true
  · cases hv with
    | tup k ds hl ho =>
      by_cases h5 : ds.length = 5
      · match ds, h5 with
        | [v0, v1, v2, v3, v4], _ =>
          have hk0 := ho v0 (by simp)
          by_cases hs : isiB .str v0 = true
          · cases hk0 with
            | str k s hso =>
              by_cases e : s = Str.ofString "ring"
              · subst e
                have hk3 := ho v3 (by simp)
                by_cases h3 : isiB .tuple v3 = true
                · cases hk3 with
                  | tup k es hle hoe =>
                    by_cases hw : (isWhole v1 && (isWhole v2 && isWhole v4)) = true
                    · rw [Bool.and_eq_true, Bool.and_eq_true] at hw
                      obtain ⟨P, rfl⟩ := isW_ex hw.1
                      obtain ⟨I, rfl⟩ := isW_ex hw.2.1
                      obtain ⟨K, rfl⟩ := isW_ex hw.2.2
                      by_cases hes : es.isEmpty = false ∧ es.all isWhole = true
                      · obtain ⟨ns, rfl⟩ := ints_ex hes.2
                        have hne : ns ≠ [] := fun z => by rw [z] at hes; cases hes.1
                        have hnl : ns.length ≤ 8 := by rw [List.length_map] at hle; exact hle
                        by_cases hP : 0 ≤ P ∧ P < (T.length : Int)
                        · obtain ⟨p, rfl⟩ : ∃ p : Nat, P = (p : Int) := ⟨P.toNat, (Int.toNat_of_nonneg hP.1).symm⟩
                          have hp : p < T.length := by omega
                          by_cases hin : ∀ i ∈ ns, 0 ≤ i ∧ i < (T.length : Int)
                          · obtain ⟨l, rfl, hb⟩ := nat_ex hin
                            have hll : l.length ≤ 8 := by rw [List.length_map] at hnl; exact hnl
                            have hlne : l ≠ [] := fun z => hne (by rw [z]; rfl)
                            have ek : PyData.tuple ((l.map fun x : Nat => (x : Int)).map PyData.int) = encK l := by rw [List.map_map]; rfl
                            by_cases nd : (p :: l).Nodup
                            · rw [ek]
                              by_cases hfar : 0 ≤ I ∧ I < K ∧ K < ((T[p]?.getD []).length : Int)
                              · obtain ⟨i, rfl⟩ : ∃ i : Nat, I = (i : Int) := ⟨I.toNat, (Int.toNat_of_nonneg hfar.1).symm⟩
                                obtain ⟨kk, rfl⟩ : ∃ kk : Nat, K = (kk : Int) := ⟨K.toNat, (Int.toNat_of_nonneg (by omega)).symm⟩
                                have f1 : i < kk := by omega
                                have f2 : kk < (T[p]?.getD []).length := by omega
                                exact ⟨rgB T C p i l kk, prog_near hT hC hp hll hlne hb nd f1 f2, law_near hT hC hp hll hlne hb nd f1 f2, fun q => ⟨p, i, l, kk, rfl, (ring_rgB hp hlne hb nd f1 f2).mp q⟩⟩
                              · exact ⟨false, prog_far hT hC hp hll hlne hb nd hfar, law_far hT hC hp hll hlne hb nd hfar, by simp⟩
                            · have nm := names_yes T p l hll hlne hb
                              rw [decide_eq_false nd] at nm
                              refine ⟨false, ?_, law_c T C hT hne hnl fun p' l' e1 e2 _ _ => ?_, by simp⟩
                              · rw [ek]; exact prog_c T C hp nm
                              · have : p' = p := by omega
                                subst this
                                have : l' = l := by
                                  have := List.map_inj_right (f := fun x : Nat => (x : Int)) (fun a b h => by omega) |>.mp e2
                                  exact this.symm
                                subst this
                                exact nd
                          · have nn : fn_is_names [encTs T, encN p, .tuple (ns.map .int)] = some (.ok (.bool false)) := names_no T p ns hnl hne (by
                              rw [Bool.eq_false_iff]
                              intro hal
                              rw [List.all_map, List.all_eq_true] at hal
                              exact hin fun i hi => by
                                have := hal i hi
                                simp only [Function.comp, okN, Bool.and_eq_true, decide_eq_true_eq] at this
                                exact this.1)
                            refine ⟨false, prog_c T C hp nn, law_c T C hT hne hnl fun p' l' _ e2 _ hb' => ?_, by simp⟩
                            exfalso
                            refine hin fun i hi => ?_
                            rw [e2] at hi
                            obtain ⟨x, hx, rfl⟩ := List.mem_map.mp hi
                            have := hb' x hx
                            omega
                        · refine ⟨false, prog_b T C hP, law_c T C hT hne hnl fun p' l' e1 _ hp' _ => ?_, by simp⟩
                          exact absurd ⟨by omega, by omega⟩ hP
                      · have hz : SeqAt.shaped (.tuple es) = true := Sml.shaped (k := k + 1) (.tup k es hle hoe) (by omega)
                        have hbad : es.isEmpty = true ∨ es.all isWhole = false := by
                          cases q : es.isEmpty with
                          | true => exact .inl rfl
                          | false =>
                            refine .inr ?_
                            rw [Bool.eq_false_iff]
                            exact fun q2 => hes ⟨q, q2⟩
                        have hlaw : fn__law_is_ring [encTs T, encC C, rg5 (.int P) (.int I) (.tuple es) (.int K)] = some (.ok (.bool false)) := law_b T C hle hz (by
                          rcases hbad with q | q
                          · exact .inl q
                          · refine .inr ?_
                            rw [List.all_append, q, Bool.and_false])
                        by_cases hP : 0 ≤ P ∧ P < (T.length : Int)
                        · obtain ⟨p, rfl⟩ : ∃ p : Nat, P = (p : Int) := ⟨P.toNat, (Int.toNat_of_nonneg hP.1).symm⟩
                          exact ⟨false, prog_c T C (by omega) (names_whole T _ es hle hbad), hlaw, by simp⟩
                        · exact ⟨false, prog_b T C hP, hlaw, by simp⟩
                    · have hw : (isWhole v1 && (isWhole v2 && isWhole v4)) = false := by simpa using hw
                      have hz : SeqAt.shaped (.tuple es) = true := Sml.shaped (k := k + 1) (.tup k es hle hoe) (by omega)
                      refine ⟨false, prog_a T C hw, law_b T C hle hz (.inr ?_), by simp⟩
                      rw [List.all_append]
                      simp only [List.all_cons, List.all_nil, Bool.and_true, hw, Bool.false_and]
                  | _ => exact Bool.noConfusion (show false = true from h3)
                · have h3 : isiB .tuple v3 = false := by simpa using h3
                  have hlaw := law_a T C (v1 := v1) (v2 := v2) (v4 := v4) h3
                  by_cases hw : (isWhole v1 && (isWhole v2 && isWhole v4)) = true
                  · rw [Bool.and_eq_true, Bool.and_eq_true] at hw
                    obtain ⟨P, rfl⟩ := isW_ex hw.1
                    obtain ⟨I, rfl⟩ := isW_ex hw.2.1
                    obtain ⟨K, rfl⟩ := isW_ex hw.2.2
                    by_cases hP : 0 ≤ P ∧ P < (T.length : Int)
                    · obtain ⟨p, rfl⟩ : ∃ p : Nat, P = (p : Int) := ⟨P.toNat, (Int.toNat_of_nonneg hP.1).symm⟩
                      exact ⟨false, prog_c T C (by omega) (names_not T _ v3 h3), hlaw, by simp⟩
                    · exact ⟨false, prog_b T C hP, hlaw, by simp⟩
                  · have hw : (isWhole v1 && (isWhole v2 && isWhole v4)) = false := by simpa using hw
                    exact ⟨false, prog_a T C hw, hlaw, by simp⟩
              · have n1 := neS hso
                rw [decide_eq_false e] at n1
                have i1 : isiB .str (.str s) = true := rfl
                refine ⟨false, runV_of rfl ?_, runV_of rfl ?_, by simp⟩
                · simp [sem_is_ring, startE, a5_0, i1, n1]
                · simp [sem__law_is_ring, startE, a5_0, i1, n1]
            | _ => exact Bool.noConfusion (show false = true from hs)
          · have hs : isiB .str v0 = false := by simpa using hs
            refine ⟨false, runV_of rfl ?_, runV_of rfl ?_, by simp⟩
            · simp [sem_is_ring, startE, a5_0, hs]
            · simp [sem__law_is_ring, startE, a5_0, hs]
      · have h3' : ((ds.length : Int) == 5) = false := by rw [beq_eq_false_iff_ne]; omega
        refine ⟨false, runV_of rfl ?_, runV_of rfl ?_, by simp⟩
        · simp [sem_is_ring, startE, h3']
        · simp [sem__law_is_ring, startE, h3']
    | _ => exact Bool.noConfusion (show false = true from htu)
  · have htu : isiB .tuple v = false := by simpa using htu
    refine ⟨false, runV_of rfl ?_, runV_of rfl ?_, by simp⟩
    · simp [sem_is_ring, startE, htu]
    · simp [sem__law_is_ring, startE, htu]
end K66

namespace K66
open PySem D3 L2 Ord Cut
/-! ### ring_run -/
theorem rep1 (t n : Nat) (h : n ≤ 100) : repD (.list [encN t]) (.int n) = some ((List.replicate n t).map encN) := by
  have z := z24
  rw [repD_nat (by simp; omega) (by omega)]
  congr 1
  induction n with
  | zero => rfl
  | succ n ih =>
    rw [List.replicate_succ, List.flatten_cons, ih (by omega), List.replicate_succ, List.map_cons]
    rfl
theorem cnt_at {T : List (List Deed)} {C : List (List Nat)} (hC : GoodC T C) {t : Nat} (ht : t < T.length) : atI (C.map fun c => encN (c.length + 1)) (t : Int) = some (encN (cntN C t)) := by
  have hl : T.length = C.length := hC.length
  have hc : C[t]? = some C[t] := List.getElem?_eq_getElem (by omega)
  refine D3.atI_nat ?_
  rw [List.getElem?_map, hc]
  unfold cntN
  rw [hc]
  rfl
theorem cnt_small {T : List (List Deed)} {C : List (List Nat)} (hT : GoodTs T) (hC : GoodC T C) (t : Nat) : cntN C t ≤ 4 := by
  unfold cntN
  cases hc : C[t]? with
  | none => simp
  | some c =>
    have := hC.small hT c (List.mem_of_getElem? hc)
    simp
    omega
theorem blk_len {f : Nat → Nat} (hf : ∀ t, f t ≤ 4) : ∀ l : List Nat, (l.flatMap fun t => List.replicate (f t) t).length ≤ l.length * 4
  | [] => by simp
  | a :: l => by
    have := blk_len hf l
    have := hf a
    rw [List.flatMap_cons, List.length_append, List.length_replicate, List.length_cons]
    omega
def N1 (T : List (List Deed)) (C : List (List Nat)) (p i k : Nat) (l : List Nat) (R0 : List Nat) (m : Nat) (ρ : Ev) : Prop := ∃ x10, ρ = [.val (encTs T), .val (encC C), .val (encRg p i l k), .val (encN k), .val (encN p), .val (encN i), .val (encK l), .val (encN (firstN C p i)), .own (C.map fun c => encN (c.length + 1)), .own ((R0 ++ blkR C (l.take m)).map encN), x10, .nil]
def N2 (T : List (List Deed)) (C : List (List Nat)) (p i k : Nat) (l : List Nat) (R0 : List Nat) (m : Nat) (ρ : Ev) : Prop := ∃ x10, ρ = [.val (encTs T), .val (encC C), .val (encRg p i l k), .val (encN k), .val (encN p), .val (encN i), .val (encK l), .val (encN (firstN C p i)), .own (C.map fun c => encN (c.length + 1)), .own ((R0 ++ (List.range m).flatMap fun t => List.replicate (restN C p i l t) t).map encN), x10, .nil]
theorem ring_run_ok {T : List (List Deed)} {C : List (List Nat)} (hT : GoodTs T) (hC : GoodC T C) {p i k : Nat} {l : List Nat} (r : Ring T C p i l k) : fn_ring_run [encTs T, encC C, encRg p i l k] = some (.ok (encR (runOf T C p i l))) := by
  have z := z24
  obtain ⟨h1, h4, hg⟩ := id hT
  have hCl : T.length = C.length := hC.length
  have iy : fn_is_ring [encTs T, encC C, .tuple [.str "ring", encN p, encN i, encK l, encN k]] = some (.ok (.bool true)) := (is_ring_yes hT hC r).1
  show fn_ring_run [encTs T, encC C, .tuple [.str "ring", encN p, encN i, encK l, encN k]] = _
  obtain ⟨hb, nd, hl⟩ := r.names hT
  have hpl := r.pl
  obtain ⟨c, hc⟩ : ∃ c, C[p]? = some c := ⟨_, List.getElem?_eq_getElem (by omega)⟩
  have hcl := hC.small hT c (List.mem_of_getElem? hc)
  have ac : atI (C.map encK) (p : Int) = some (encK c) := D3.atI_nat (by rw [List.getElem?_map, hc]; rfl)
  have p1 := piece_of_ok c i (by omega)
  have hf : firstN C p i = pieceN c i + 1 := by unfold firstN; rw [hc]; rfl
  have hpn := pieceN_le c i
  have hf4 : firstN C p i ≤ 4 := by omega
  have hfc : firstN C p i ≤ cntN C p := by rw [hf]; unfold cntN; rw [hc]; simp; omega
  have rep := rep1 p (firstN C p i) (by omega)
  have l1 := len_T T
  have q1 : sm62 (T.length : Int) = true := sm62_of' (by omega) (by omega)
  have a5 : encC C = .tuple (C.map encK) := rfl
  have z1 : 1 ≤ sizeLine := by omega
  have lk : ∀ c : List Nat, lenD [encK c] = some (.int c.length) := fun c => by
    show some (PyData.int ((c.map fun k : Nat => PyData.int k).length : Nat)) = _
    rw [List.length_map]
  have sq : seqD (encK l) = some (l.map encN) := rfl
  have hfi : ((pieceN c i : Int) + 1) = ((firstN C p i : Nat) : Int) := by omega
  refine runV_of rfl ?_
  simp [sem_ring_run, startE, check_cut_ok T C hT hC, iy, gNm, gTp, gCn, gN0]
  simp [a5, ac, p1]
  rw [← a5, hfi]
  refine wr_lcXM (xs := C) (g := encK) (fun c => encN (c.length + 1)) rfl (by omega) (fun c hc => ?_) ?_
  · simp [gNm, wipeE, lk]
  · simp [z1, rep, sq]
    have hcs : ∀ t, cntN C t ≤ 4 := cnt_small hT hC
    have hll : l.length ≤ 4 := hl
    refine wr_forX (xs := l) (g := encN) (N1 T C p i k l (List.replicate (firstN C p i) p)) (fun m t ρ hm j => ?_) ⟨.nil, by simp [blkR, encRg]⟩ ?_
    · obtain ⟨x10, rfl⟩ := j
      have ht := hb t (List.mem_of_getElem? hm)
      have ca := cnt_at hC ht
      have rp := rep1 t (cntN C t) (by have := hcs t; omega)
      have e : l.take (m + 1) = l.take m ++ [t] := by
        rw [List.take_add_one, hm]
        rfl
      have eb : blkR C (l.take (m + 1)) = blkR C (l.take m) ++ List.replicate (cntN C t) t := by
        unfold blkR
        rw [e, List.flatMap_append]
        simp
      have hbl := blk_len hcs (l.take m)
      rw [List.length_take] at hbl
      have hln : ((List.replicate (firstN C p i) p ++ blkR C (l.take m)).map encN).length + ((List.replicate (cntN C t) t).map encN).length ≤ sizeLine := by
        rw [List.length_map, List.length_map, List.length_append, List.length_replicate, List.length_replicate]
        unfold blkR
        have := hcs t
        omega
      unfold N1
      rw [eb, ← List.append_assoc, List.map_append (l₁ := List.replicate (firstN C p i) p ++ blkR C (l.take m))]
      generalize (List.replicate (firstN C p i) p ++ blkR C (l.take m)).map encN = A at *
      generalize (List.replicate (cntN C t) t).map encN = B at *
      have xl : extL A (.list B) = some (A ++ B) := by
        show (if A.length + B.length ≤ sizeLine then some (A ++ B) else none) = _
        rw [if_pos hln]
      simp [gNm, ca, z1, rp, xl]
    · rintro ρ' ⟨x10, rfl⟩
      rw [List.take_length]
      simp [l1, q1, rg_range]
      refine wr_forX (xs := List.range T.length) (g := encN) (N2 T C p i k l (List.replicate (firstN C p i) p ++ blkR C l)) (fun m t ρ hm j => ?_) ⟨x10, by simp [encRg]⟩ ?_
      · obtain ⟨x10, rfl⟩ := j
        obtain ⟨hml, rfl⟩ := range_at hm
        have ca := cnt_at hC hml
        have hrs : ∀ t, restN C p i l t ≤ 4 := fun t => by
          unfold restN
          have := hcs t
          split
          · omega
          · split <;> omega
        have rp := rep1 t (restN C p i l t) (by have := hrs t; omega)
        have eb : (List.range (t + 1)).flatMap (fun t => List.replicate (restN C p i l t) t) = (List.range t).flatMap (fun t => List.replicate (restN C p i l t) t) ++ List.replicate (restN C p i l t) t := by
          rw [List.range_succ, List.flatMap_append]
          simp
        have hbl := blk_len hrs (List.range t)
        rw [List.length_range] at hbl
        have hbl2 := blk_len hcs l
        have hln : ((List.replicate (firstN C p i) p ++ blkR C l ++ (List.range t).flatMap fun t => List.replicate (restN C p i l t) t).map encN).length + ((List.replicate (restN C p i l t) t).map encN).length ≤ sizeLine := by
          rw [List.length_map, List.length_map, List.length_append, List.length_append, List.length_replicate, List.length_replicate]
          unfold blkR
          have := hrs t
          omega
        have e4 : notInA (encN t) (encK l) = some (.bool (!l.contains t)) := enc_nat.notInT (fun _ => rfl) t l
        have hrest : restN C p i l t = if l.contains t then 0 else if t = p then cntN C t - firstN C p i else cntN C t := rfl
        unfold N2
        rw [eb, ← List.append_assoc, List.map_append (l₁ := List.replicate (firstN C p i) p ++ blkR C l ++ _)]
        by_cases hin : t ∈ l
        · have hc0 : restN C p i l t = 0 := by rw [hrest, if_pos (by simpa using hin)]
          rw [hc0]
          generalize (List.replicate (firstN C p i) p ++ blkR C l ++ (List.range t).flatMap fun t => List.replicate (restN C p i l t) t).map encN = A at *
          simp [gNm, e4, hin]
        · have hcn : l.contains t = false := by simpa using hin
          have et := enc_nat.eqD t p
          generalize hB : (List.replicate (restN C p i l t) t).map encN = B at *
          generalize (List.replicate (firstN C p i) p ++ blkR C l ++ (List.range t).flatMap fun t => List.replicate (restN C p i l t) t).map encN = A at *
          have xl : extL A (.list B) = some (A ++ B) := by
            show (if A.length + B.length ≤ sizeLine then some (A ++ B) else none) = _
            rw [if_pos hln]
          by_cases htp : t = p
          · rw [decide_eq_true htp] at et
            have hr : restN C p i l t = cntN C t - firstN C p i := by rw [hrest, hcn, if_neg (by simp), if_pos htp]
            have hsub : ((cntN C t : Int) - (firstN C p i : Int)) = ((restN C p i l t : Nat) : Int) := by
              rw [hr]
              have : firstN C p i ≤ cntN C t := by rw [htp]; exact hfc
              omega
            simp [gNm, e4, hin, et, ca, z1, hsub, rp, xl]
          · rw [decide_eq_false htp] at et
            have hr : restN C p i l t = cntN C t := by rw [hrest, hcn, if_neg (by simp), if_neg htp]
            rw [hr] at rp
            simp [gNm, e4, hin, et, ca, z1, rp, xl]
      · rintro ρ' ⟨x10, rfl⟩
        rw [List.length_range]
        simp [tupleD]
        unfold runOf restR encR
        simp
end K66

namespace K66
open PySem D3 L2 Ord Cut
def InvF3 (r1 r2 : Nat) (rest : List PyData) (ρ : Ev) : Prop := ∃ (T : List (List Deed)) (s' : DS) (x4 : Slot), (∀ t ∈ T, GoodT t) ∧ T.length + rest.length = 1 + r2 ∧ GoodS s' ∧ ρ = [.io (encS s'), .val (.int 3), .val (.int (2 + r1 : Nat)), .own (T.map encT), x4, .nil]
set_option maxHeartbeats 1000000 in
theorem texts3_ok (s : DS) (ha : GoodS s) : ∃ d es', fn__law_texts (encS s) [.int 3] = some (d, es') ∧ ∃ T s', d = encTs T ∧ es' = encS s' ∧ GoodTs T ∧ T.length ≤ 3 ∧ GoodS s' := by
  refine runI_of rfl ?_
  obtain ⟨r1, s1, e1, l1, a1⟩ := take_ex s 4 4 rfl ha (by decide) (by decide)
  obtain ⟨r2, s2, e2, l2, a2⟩ := take_ex s1 3 3 rfl a1 (by decide) (by decide)
  have z := z24
  have q1 : sm62 (1 + (r2 : Int)) = true := sm62_of' (by omega) (by omega)
  have ht : (2 : Int) + (r1 : Int) = ((2 + r1 : Nat) : Int) := by omega
  simp [sem__law_texts, startI, e1, e2, setsE, AI.slot, q1]
  rw [ht]
  refine wr_for (InvF3 r1 r2) ?_ ⟨[], s2, .nil, by simp, by rw [rgD_length]; simp only [List.length_nil]; omega, a2, rfl⟩ ?_
  · rintro d rest ρ ⟨T, s', x4, hT, hl, a', rfl⟩
    simp only [gNm, ex1_some, List.set_cons_succ, List.set_cons_zero]
    simp [-wr_eLc]
    refine text_ok s' a' (2 + r1) (by omega) (by omega) _ _ _ _ fun t s3 gt a3 => ?_
    have hz : T.length < sizeLine := by rw [List.length_cons] at hl; omega
    simp [hz]
    exact ⟨T ++ [t], s3, .val d, all_snoc hT gt, sum_len hl _, a3, by simp [encT]⟩
  · rintro ρ' ⟨T, s', x4, hT, hl, a', rfl⟩
    simp
    exact ⟨T, rfl, s', rfl, ⟨by simp at hl; omega, by simp at hl; omega, hT⟩, by simp at hl; omega, a'⟩
end K66

namespace K66
open PySem D3 L2 Ord Cut
def oddC (t : List Deed) (cs : List PyData) : List PyData := [.none, .int 5, .list cs, .tuple cs.dropLast, .tuple (cs ++ [.tuple []]), .tuple (.tuple [.int 0] :: cs.tail), .tuple (.tuple [.int t.length] :: cs.tail), .tuple (.tuple [.bool true] :: cs.tail), .tuple (.list [] :: cs.tail), .tuple (.none :: cs.tail)]
theorem addD_tuple {xs ys : List PyData} (h : xs.length + ys.length ≤ sizeLine) : addD (.tuple xs) (.tuple ys) = some (.tuple (xs ++ ys)) := by
  show (if xs.length + ys.length ≤ sizeLine then some (PyData.tuple (xs ++ ys)) else none) = _
  rw [if_pos h]
theorem at_ex {l : List PyData} {r : Nat} (h : r < l.length) : ∃ d, atI l (r : Int) = some d ∧ d ∈ l := by
  have e : l[r]? = some l[r] := List.getElem?_eq_getElem h
  exact ⟨_, D3.atI_nat e, List.mem_of_getElem? e⟩
theorem oddC_all (t : List Deed) (T : List (List Deed)) (c : List Nat) (C : List (List Nat)) (hT : GoodTs (t :: T)) (hC : GoodC (t :: T) (c :: C)) : ∀ d ∈ oddC t ((c :: C).map encK), fn_is_cut [encTs (t :: T), d] = some (.ok (.bool false)) := by
  have hl : T.length = C.length := by
    have := hC.length
    simpa using this
  have hd : ∀ b : PyData, fn_is_places [encT t, b] = some (.ok (.bool false)) → fn_is_cut [encTs (t :: T), .tuple (b :: ((c :: C).map encK).tail)] = some (.ok (.bool false)) := fun b h => is_cut_hd t T c C hT hC b h
  intro d h
  unfold oddC at h
  simp only [List.mem_cons, List.not_mem_nil, or_false] at h
  rcases h with rfl | rfl | rfl | rfl | rfl | rfl | rfl | rfl | rfl | rfl
  · exact is_cut_not _ hT _ rfl
  · exact is_cut_not _ hT _ rfl
  · exact is_cut_not _ hT _ rfl
  · exact is_cut_len _ hT _ (by rw [List.length_dropLast, List.length_map, List.length_cons, List.length_cons]; omega)
  · exact is_cut_len _ hT _ (by rw [List.length_append, List.length_map, List.length_cons, List.length_cons, List.length_cons, List.length_nil]; omega)
  · exact hd _ (is_places_one t _ (.inr (.inl rfl)))
  · exact hd _ (is_places_one t _ (.inr (.inr rfl)))
  · exact hd _ (is_places_one t _ (.inl rfl))
  · exact hd _ (is_places_not t _ rfl)
  · exact hd _ (is_places_not t _ rfl)
theorem odd_cut_ok (s : DS) (g : GoodS s) (T : List (List Deed)) (C : List (List Nat)) (hT : GoodTs T) (hC : GoodC T C) : ∃ d es', fn__law_odd_cut (encS s) [encTs T, encC C] = some (d, es') ∧ ∃ s', es' = encS s' ∧ fn_is_cut [encTs T, d] = some (.ok (.bool false)) ∧ GoodS s' := by
  have z := z24
  have hl : T.length = C.length := hC.length
  obtain ⟨h1, h4, hg⟩ := id hT
  obtain ⟨t, T', rfl⟩ : ∃ t T', T = t :: T' := by
    cases T with
    | nil => simp at h1
    | cons t T' => exact ⟨t, T', rfl⟩
  obtain ⟨c, C', rfl⟩ : ∃ c C', C = c :: C' := by
    cases C with
    | nil => simp at hl
    | cons c C' => exact ⟨c, C', rfl⟩
  obtain ⟨r, s1, e1, l1, a1⟩ := take_ex s 10 10 rfl g (by decide) (by decide)
  have main : wr sem__law_odd_cut (fun r => ex1 (outI (some r)) fun o => ∃ s', o.2 = encS s' ∧ fn_is_cut [encTs (t :: T'), o.1] = some (.ok (.bool false)) ∧ GoodS s') (startI 4 (encS s) [encTs (t :: T'), encC (c :: C')]) := by
    have hcl : (c :: C').length ≤ 4 := by rw [← hl]; exact h4
    generalize hcs : (c :: C').map encK = cs at *
    have a4 : encC (c :: C') = .tuple cs := by rw [← hcs]; rfl
    have a3 : ixD (encTs (t :: T')) (.int 0) = some (encT t) := D3.atI_nat (i := 0) rfl
    have a5 : lenD [encT t] = some (.int t.length) := by
      show some (PyData.int ((t.map encDp).length : Nat)) = _
      rw [List.length_map]
    have csl : cs.length ≤ 4 := by rw [← hcs, List.length_map]; exact hcl
    have f1 : ∀ y : PyData, addD (.tuple cs) (.tuple [y]) = some (.tuple (cs ++ [y])) := fun y => addD_tuple (by simp; omega)
    have f2 : ∀ y : PyData, addD (.tuple [y]) (.tuple (cs.drop 1)) = some (.tuple (y :: cs.drop 1)) := fun y => addD_tuple (by simp; omega)
    have z0 : 0 ≤ sizeLine := Nat.zero_le _
    have z1 : 1 ≤ sizeLine := by omega
    have z10 : 10 ≤ sizeLine := by omega
    have f3 : ∀ y : PyData, addD (.tuple [y]) (.tuple cs.tail) = some (.tuple (y :: cs.tail)) := fun y => addD_tuple (by simp; omega)
    have toL : ∀ x y r : PyData, addD x y = some r → addL x y = some r := fun x y r h => by unfold addL orF2; rw [h]
    have g1 := fun y => toL _ _ _ (f1 y)
    have g2 := fun y => toL _ _ _ (f2 y)
    have g3 := fun y => toL _ _ _ (f3 y)
    simp [sem__law_odd_cut, startI, a4, a3, a5, f1, f2, f3, g1, g2, g3, cutD_last, cutD_1, z1, z10, e1]
    obtain ⟨d, ed, hd⟩ := at_ex (l := oddC t cs) (r := r) (by simpa [oddC] using l1)
    unfold oddC at ed
    rw [ed, ex1_some]
    simp
    refine ⟨s1, rfl, ?_, a1⟩
    rw [← hcs] at hd
    exact oddC_all t T' c C' hT hC d hd
  exact runI_of rfl main
end K66

namespace K66
open PySem D3 L2 Ord Cut
/-! ### odd texts -/
theorem is_text_all (p : PyData → Bool) (ds : List PyData) (h : ∀ d ∈ ds, fn_is_deed [d] = some (.ok (.bool (p d)))) (h1 : 1 ≤ ds.length) (h5 : ds.length ≤ 5) : fn_is_text [.tuple ds] = some (.ok (.bool (ds.all p))) := by
  have h1' : (1 : Int) ≤ ds.length := by omega
  have h5' : (ds.length : Int) ≤ 5 := by omega
  have z := z24
  refine runV_of rfl ?_
  simp [sem_is_text, startE, k_MOST_DEEDS, h1', h5']
  refine wr_lcM (T := fun d => .bool (p d)) rfl (by omega) (fun d hd => ?_) ?_
  · simp [gNm, wipeE, h d hd]
  · simp
theorem is_texts_all (p : PyData → Bool) (ds : List PyData) (h : ∀ d ∈ ds, fn_is_text [d] = some (.ok (.bool (p d)))) (h1 : 1 ≤ ds.length) (h5 : ds.length ≤ 4) : fn_is_texts [.tuple ds] = some (.ok (.bool (ds.all p))) := by
  have h1' : (1 : Int) ≤ ds.length := by omega
  have h5' : (ds.length : Int) ≤ 4 := by omega
  have z := z24
  refine runV_of rfl ?_
  simp [sem_is_texts, startE, k_MOST_PROGRAMS, h1', h5']
  refine wr_lcM (T := fun d => .bool (p d)) rfl (by omega) (fun d hd => ?_) ?_
  · simp [gNm, wipeE, h d hd]
  · simp
theorem is_text_not (d : PyData) (h : isiB .tuple d = false) : fn_is_text [d] = some (.ok (.bool false)) := by
  refine runV_of rfl ?_
  simp [sem_is_text, startE, h]
theorem is_texts_not (d : PyData) (h : isiB .tuple d = false) : fn_is_texts [d] = some (.ok (.bool false)) := by
  refine runV_of rfl ?_
  simp [sem_is_texts, startE, h]
theorem is_text_len (ds : List PyData) (h : ds.length = 0 ∨ 5 < ds.length) : fn_is_text [.tuple ds] = some (.ok (.bool false)) := by
  refine runV_of rfl ?_
  rcases h with h | h
  · have h' : ¬ (1 : Int) ≤ ds.length := by omega
    simp [sem_is_text, startE, k_MOST_DEEDS, h']
  · have h1' : (1 : Int) ≤ ds.length := by omega
    have h' : ¬ (ds.length : Int) ≤ 5 := by omega
    simp [sem_is_text, startE, k_MOST_DEEDS, h1', h']
theorem is_texts_len (ds : List PyData) (h : ds.length = 0 ∨ 4 < ds.length) : fn_is_texts [.tuple ds] = some (.ok (.bool false)) := by
  refine runV_of rfl ?_
  rcases h with h | h
  · have h' : ¬ (1 : Int) ≤ ds.length := by omega
    simp [sem_is_texts, startE, k_MOST_PROGRAMS, h']
  · have h1' : (1 : Int) ≤ ds.length := by omega
    have h' : ¬ (ds.length : Int) ≤ 4 := by omega
    simp [sem_is_texts, startE, k_MOST_PROGRAMS, h1', h']
theorem is_texts_one (d : PyData) (h : fn_is_text [d] = some (.ok (.bool false))) : fn_is_texts [.tuple [d]] = some (.ok (.bool false)) :=
  is_texts_all (fun _ => false) [d] (fun x hx => by rw [List.mem_singleton.mp hx]; exact h) (by simp) (by simp)
theorem is_text_one (d : PyData) (h : fn_is_deed [d] = some (.ok (.bool false))) : fn_is_text [.tuple [d]] = some (.ok (.bool false)) :=
  is_text_all (fun _ => false) [d] (fun x hx => by rw [List.mem_singleton.mp hx]; exact h) (by simp) (by simp)
theorem is_deed_not (d : PyData) (h : isiB .tuple d = false) : fn_is_deed [d] = some (.ok (.bool false)) := by
  refine runV_of rfl ?_
  simp [sem_is_deed, startE, h]
def rD : PyData := .tuple [.str "r", .int 0]
def oddT (ts : List PyData) : List PyData := [.none, .tuple [], .int 5, .list ts, .tuple [.tuple []], .tuple [.tuple [.tuple [.str "x", .int 0]]], .tuple [.tuple [.tuple [.str "r", .int 5]]], .tuple [.tuple [.tuple [.str "r", .bool true]]], .tuple [.tuple [.tuple [.str "r", .int 0, .int 0]]], .tuple [.list [rD]], .tuple [.tuple [.list [.str "r", .int 0]]],
  .tuple (ts ++ [.none]), .tuple (List.replicate 5 (.tuple [rD])), .tuple [.tuple (List.replicate 6 rD)], .tuple [rD]]
theorem oddT_all (T : List (List Deed)) (hT : GoodTs T) : ∀ d ∈ oddT (T.map encT), fn_is_texts [d] = some (.ok (.bool false)) := by
  obtain ⟨h1, h4, hg⟩ := id hT
  intro d h
  unfold oddT at h
  simp only [List.mem_cons, List.not_mem_nil, or_false] at h
  rcases h with rfl | rfl | rfl | rfl | rfl | rfl | rfl | rfl | rfl | rfl | rfl | rfl | rfl | rfl | rfl
  · exact is_texts_not _ rfl
  · exact is_texts_len _ (.inl rfl)
  · exact is_texts_not _ rfl
  · exact is_texts_not _ rfl
  · exact is_texts_one _ (is_text_len _ (.inl rfl))
  · exact is_texts_one _ (is_text_one _ rfl)
  · exact is_texts_one _ (is_text_one _ rfl)
  · exact is_texts_one _ (is_text_one _ rfl)
  · exact is_texts_one _ (is_text_one _ rfl)
  · exact is_texts_one _ (is_text_not _ rfl)
  · exact is_texts_one _ (is_text_one _ (is_deed_not _ rfl))
  · by_cases h : T.length = 4
    · exact is_texts_len _ (.inr (by rw [List.length_append, List.length_map, List.length_singleton]; omega))
    · have e := is_texts_all (fun d => isiB .tuple d) (T.map encT ++ [.none]) (fun d hd => ?_) (by rw [List.length_append, List.length_singleton]; omega) (by rw [List.length_append, List.length_map, List.length_singleton]; omega)
      · rw [e, List.all_append]
        exact congrArg (fun b => some (Except.ok (PyData.bool b))) (Bool.and_false _)
      · rcases List.mem_append.mp hd with hd | hd
        · obtain ⟨t, ht, rfl⟩ := List.mem_map.mp hd
          exact is_text_ok t (hg t ht)
        · rw [List.mem_singleton.mp hd]
          exact is_text_not _ rfl
  · exact is_texts_len _ (.inr (by decide))
  · exact is_texts_one _ (is_text_len _ (.inr (by decide)))
  · refine is_texts_one _ (is_text_all (fun _ => false) [.str "r", .int 0] (fun d hd => is_deed_not _ ?_) (by decide) (by decide))
    simp only [List.mem_cons, List.not_mem_nil, or_false] at hd
    rcases hd with rfl | rfl <;> rfl
theorem odd_texts_ok (s : DS) (g : GoodS s) (T : List (List Deed)) (hT : GoodTs T) : ∃ d es', fn__law_odd_texts (encS s) [encTs T] = some (d, es') ∧ ∃ s', es' = encS s' ∧ fn_is_texts [d] = some (.ok (.bool false)) ∧ GoodS s' := by
  have z := z24
  obtain ⟨h1, h4, hg⟩ := id hT
  obtain ⟨r, s1, e1, l1, a1⟩ := take_ex s 15 15 rfl g (by decide) (by decide)
  have main : wr sem__law_odd_texts (fun r => ex1 (outI (some r)) fun o => ∃ s', o.2 = encS s' ∧ fn_is_texts [o.1] = some (.ok (.bool false)) ∧ GoodS s') (startI 3 (encS s) [encTs T]) := by
    have tl : (T.map encT).length ≤ 4 := by rw [List.length_map]; exact h4
    have od := oddT_all T hT
    have a4 : encTs T = .tuple (T.map encT) := rfl
    generalize T.map encT = ts at *
    have f1 : ∀ y : PyData, addD (.tuple ts) (.tuple [y]) = some (.tuple (ts ++ [y])) := fun y => addD_tuple (by simp; omega)
    have f2 : ∀ y : PyData, mulA (.tuple [y]) (.int 5) = some (.tuple (List.replicate 5 y)) := fun y => rfl
    have f3 : ∀ y : PyData, mulA (.tuple [y]) (.int 6) = some (.tuple (List.replicate 6 y)) := fun y => rfl
    have z1 : 1 ≤ sizeLine := by omega
    have z2 : 2 ≤ sizeLine := by omega
    have z3 : 3 ≤ sizeLine := by omega
    have z4 : 4 ≤ sizeLine := by omega
    have z11 : 11 ≤ sizeLine := by omega
    have z15 : 15 ≤ sizeLine := by omega
    simp [sem__law_odd_texts, startI, a4, f1, f2, f3, z1, z2, z3, z4, z11, z15, catD, e1]
    obtain ⟨d, ed, hd⟩ := at_ex (l := oddT ts) (r := r) (by simpa [oddT] using l1)
    show ex1 (atI (oddT ts) (r : Int)) _
    rw [ed, ex1_some]
    simp
    exact ⟨s1, rfl, od d hd, a1⟩
  exact runI_of rfl main
end K66

namespace K66
open PySem D3 L2 Ord Cut
theorem flatMap_le {α β : Type} {f : α → List β} {c : Nat} : ∀ {l : List α}, (∀ x ∈ l, (f x).length ≤ c) → (l.flatMap f).length ≤ l.length * c
  | [], _ => by simp
  | a :: l, h => by
    have ih := flatMap_le (l := l) fun x hx => h x (List.mem_cons_of_mem _ hx)
    have := h a (.head _)
    rw [List.flatMap_cons, List.length_append, List.length_cons]
    rw [Nat.succ_mul]
    omega
theorem catD_ok (xs ys : List PyData) (h : xs.length + ys.length ≤ 16777216) : catD (.list xs) (.list ys) = some (xs ++ ys) := by
  have z := z24
  show (if xs.length + ys.length ≤ sizeLine then some (xs ++ ys) else none) = _
  rw [if_pos (by omega)]
/-! ### all runs, by counts -/
def cgrow (cs row : List Nat) : List (List Nat) := ((List.range cs.length).filter fun t => decide (row.count t < cs[t]?.getD 0)).map fun t => row ++ [t]
def runsN (cs : List Nat) : Nat → List (List Nat)
  | 0 => [[]]
  | k + 1 => (runsN cs k).flatMap (cgrow cs)
theorem cgrow_len (cs row : List Nat) : (cgrow cs row).length ≤ cs.length := by
  unfold cgrow
  rw [List.length_map]
  refine Nat.le_trans (List.length_filter_le _ _) ?_
  rw [List.length_range]
  exact Nat.le_refl _
theorem runs_len (cs : List Nat) : ∀ k, (runsN cs k).length ≤ cs.length ^ k
  | 0 => by simp [runsN]
  | k + 1 => by
    have h := flatMap_le (f := cgrow cs) (l := runsN cs k) fun row _ => cgrow_len cs row
    show ((runsN cs k).flatMap (cgrow cs)).length ≤ _
    refine Nat.le_trans h ?_
    rw [Nat.pow_succ]
    exact Nat.mul_le_mul_right _ (runs_len cs k)
theorem runs_short {cs : List Nat} (h : cs.length ≤ 3) {k : Nat} (hk : k ≤ 7) : (runsN cs k).length ≤ 2187 :=
  Nat.le_trans (runs_len cs k) (Nat.le_trans (Nat.pow_le_pow_left h _) (Nat.pow_le_pow_right (n := 3) (by decide) hk))
theorem snoc_of {α : Type} {l : List α} {k : Nat} (h : l.length = k + 1) : ∃ m x, l = m ++ [x] ∧ m.length = k := by
  have hne : l ≠ [] := fun e => by rw [e] at h; cases h
  exact ⟨l.dropLast, l.getLast hne, (List.dropLast_concat_getLast hne).symm, by rw [List.length_dropLast, h]; rfl⟩
theorem mem_runs {cs : List Nat} : ∀ {k : Nat} {row : List Nat}, row ∈ runsN cs k ↔ row.length = k ∧ (∀ t ∈ row, t < cs.length) ∧ ∀ t, row.count t ≤ cs[t]?.getD 0
  | 0, row => by
    constructor
    · intro h
      rw [show row = [] by simpa [runsN] using h]
      simp
    · rintro ⟨h, _⟩
      rw [List.length_eq_zero_iff.mp h]
      simp [runsN]
  | k + 1, row => by
    constructor
    · intro h
      obtain ⟨r, hr, hm⟩ := List.mem_flatMap.mp (show row ∈ (runsN cs k).flatMap (cgrow cs) from h)
      obtain ⟨t, ht, rfl⟩ := List.mem_map.mp hm
      obtain ⟨h1, h2, h3⟩ := mem_runs.mp hr
      obtain ⟨ht1, ht2⟩ := List.mem_filter.mp ht
      rw [List.mem_range] at ht1
      rw [decide_eq_true_eq] at ht2
      refine ⟨by rw [List.length_append, h1]; rfl, fun u hu => ?_, fun u => ?_⟩
      · rcases List.mem_append.mp hu with hu | hu
        · exact h2 u hu
        · rw [List.mem_singleton.mp hu]; exact ht1
      · rw [List.count_append]
        have h3 := h3 u
        by_cases e : u = t
        · subst e
          rw [List.count_singleton_self]
          omega
        · have : [t].count u = 0 := List.count_eq_zero.mpr fun z => e (by simpa using z)
          omega
    · rintro ⟨h, hb, hc⟩
      obtain ⟨m, t, rfl, hm⟩ := snoc_of h
      have h1 : m ∈ runsN cs k := mem_runs.mpr ⟨hm, fun u hu => hb u (List.mem_append_left _ hu), fun u => by
        have := hc u
        rw [List.count_append] at this
        omega⟩
      refine List.mem_flatMap.mpr ⟨m, h1, List.mem_map.mpr ⟨t, List.mem_filter.mpr ⟨List.mem_range.mpr (hb t (by simp)), ?_⟩, rfl⟩⟩
      have := hc t
      rw [List.count_append, List.count_singleton_self] at this
      rw [decide_eq_true_eq]
      omega
theorem cnt_row (row : List Nat) (t : Nat) : cntD (.tuple (row.map encN)) (encN t) = some (.int (row.count t)) := by
  have s1 := enc_nat.tup.shaped row
  have s2 := enc_nat.shaped t
  show (if (SeqAt.shaped (.tuple (row.map encN)) && SeqAt.shaped (encN t)) = true then some (PyData.int ((row.map encN).countP fun z => PyData.eqv z (encN t) : Nat)) else none) = _
  have s1 : SeqAt.shaped (.tuple (row.map encN)) = true := s1
  have s2 : SeqAt.shaped (encN t) = true := s2
  rw [s1, s2, if_pos (show (true && true) = true from rfl), List.countP_map, List.count_eq_countP]
  congr 3
  refine List.countP_congr fun k hk => ?_
  have := enc_nat.eqv k t
  simp only [Function.comp]
  rw [this]
  simp
def NoO (x : D3.Slot) : Prop := x = .nil ∨ ∃ d, x = .val d
abbrev encI (cs : List Nat) : PyData := .list (cs.map fun k : Nat => .int k)
def E2 (cs : List Nat) (k : Nat) (x1 x2 : D3.Slot) (i : Nat) (ρ : Ev) : Prop := ∃ x4 a, NoO x4 ∧ a = (((runsN cs k).take i).flatMap (cgrow cs)).map encR ∧ ρ = [.val (encI cs), x1, x2, .own a, x4, .nil]
def JE (cs : List Nat) (k : Nat) (ρ : Ev) : Prop := ∃ x1 x2 x3 x4 l, l = (runsN cs k).map encR ∧ (x1 = .own l ∨ x1 = .val (.list l)) ∧ NoO x4 ∧ ρ = [.val (encI cs), x1, x2, x3, x4, .nil]
theorem estep2 {cs : List Nat} (h3 : cs.length ≤ 3) {k : Nat} (hk : k < 7) (x1 x2 : D3.Slot) (i : Nat) (row : List Nat) (hi : (runsN cs k)[i]? = some row) (ρ : Ev) (j : E2 cs k x1 x2 i ρ) : ex1 (gNm 4 (encR row) ρ) fun ρ1 => wr (sSetL 3 (eBinL catD (eVar 3) (eFrz (eLc (iRg1 (aCons (eCall lenD (aOne (eLook 0))) aNil)) (gNm 5) (tBin (cmpI fun i j => decide (i < j)) (eMt cntD (eVar 4) (eVar 5)) (eIxB ixD 0 (eLook 5))) (eBin addD (eVar 4) (eTup (aCons (eVar 5) aNil))) [5])))) (fun r => ∃ ρ2, (r = .ok .nx ρ2 ∨ r = .ok .ct ρ2) ∧ E2 cs k x1 x2 (i + 1) ρ2) ρ1 := by
  obtain ⟨x4, a, hx4, ha, rfl⟩ := j
  have z := z24
  have q1 : sm62 (cs.length : Int) = true := sm62_of' (by omega) (by omega)
  have z1 : 1 ≤ sizeLine := by omega
  obtain ⟨r1, r2, r3⟩ := mem_runs.mp (List.mem_of_getElem? hi)
  have hal : a.length ≤ 2187 * 3 := by
    rw [ha, List.length_map]
    refine Nat.le_trans (flatMap_le (c := 3) fun r _ => Nat.le_trans (cgrow_len _ r) (by omega)) ?_
    refine Nat.mul_le_mul_right _ (Nat.le_trans (List.length_take_le' _ _) (runs_short h3 (k := k) (by omega)))
  simp [gNm, q1, rg_range]
  refine wr_lcX (xs := List.range cs.length) (g := encN) (fun t => if (decide (row.count t < cs[t]?.getD 0)) = true then some (encR (row ++ [t])) else none) rfl (by rw [List.length_range]; omega) (fun t ht => ?_) ?_
  · have ht := List.mem_range.mp ht
    have e4 : cntD (encR row) (encN t) = some (.int (row.count t)) := cnt_row row t
    have e5 : atI (cs.map fun k : Nat => PyData.int k) (t : Int) = some (.int (cs[t]?.getD 0 : Nat)) := D3.atI_nat (by rw [List.getElem?_map, List.getElem?_eq_getElem ht]; rfl)
    have e6 : addD (encR row) (.tuple [encN t]) = some (encR (row ++ [t])) := by
      unfold encR
      rw [addD_tup (by simp; omega), List.map_append]
      rfl
    generalize cs[t]?.getD 0 = ct at *
    unfold TurnX eMt
    have sq : seqD (encR row) = some (row.map fun k : Nat => PyData.int k) := rfl
    simp [gNm, wipeE, e4, e5, sq]
    by_cases hc : row.count t < ct
    · have hc' : (row.count t : Int) < (ct : Int) := by omega
      simp [hc, hc', z1, e6]
    · have hc' : ¬ (row.count t : Int) < (ct : Int) := by omega
      simp [hc, hc', z1, e6]
  · rw [filterMap_if]
    have hlg := cgrow_len cs row
    have e7 : (((List.range cs.length).filter fun t => decide (row.count t < cs[t]?.getD 0)).map fun t => encR (row ++ [t])) = (cgrow cs row).map encR := by
      unfold cgrow
      rw [List.map_map]
      rfl
    rw [e7]
    have c1 := catD_ok a ((cgrow cs row).map encR) (by rw [List.length_map]; omega)
    simp [c1]
    refine ⟨_, _, .inr ⟨_, rfl⟩, ?_, rfl⟩
    rw [ha, List.take_add_one, hi]
    simp
theorem law_runs_ok {cs : List Nat} (h3 : cs.length ≤ 3) (hs : cs.sum ≤ 7) : fn__law_runs [encI cs] = some (.ok (.list ((runsN cs cs.sum).map encR))) := by
  have z := z24
  have q2 : sm62 (cs.sum : Int) = true := sm62_of' (by omega) (by omega)
  have z1 : 1 ≤ sizeLine := by omega
  refine runV_of rfl ?_
  simp [sem__law_runs, startE, q2, z1]
  rw [rg_range]
  refine wr_forR (xs := List.range cs.sum) (g := encN) (JE cs) (fun k x ρ hk j => ?_) ⟨.own [.tuple []], .nil, .nil, .nil, _, rfl, .inl rfl, .inl rfl, rfl⟩ ?_
  · have hkl := (List.getElem?_eq_some_iff.mp hk).1
    rw [List.length_range] at hkl
    obtain ⟨x1, x2, x3, x4, l, hl, hx1, hx4, rfl⟩ := j
    rcases hx1 with rfl | rfl
    all_goals
      simp [gNm]
      refine wr_forE hl (E2 cs k (.val (.list l)) (.val (encN x))) (fun i row ρ hi j => estep2 h3 (by omega) _ _ i row hi ρ j) ⟨x4, [], hx4, rfl, rfl⟩ ?_
      rintro ρ' ⟨x4, a, hx4, ha, rfl⟩
      rw [List.take_length] at ha
      have ha : a = (runsN cs (k + 1)).map encR := ha
      simp
      exact ⟨_, _, _, _, _, ha, .inr rfl, hx4, rfl⟩
  · rintro ρ' ⟨x1, x2, x3, x4, l, hl, hx1, hx4, rfl⟩
    rw [List.length_range] at hl
    subst hl
    rcases hx1 with rfl | rfl <;> simp
end K66

namespace K66
open PySem D3 L2 Ord Cut
/-! ### bent values -/
theorem ok_ring : PyData.strOk (Str.ofString "ring") = true := by decide +kernel
theorem ok_rings : PyData.strOk (Str.ofString "rings") = true := by decide +kernel
theorem addL_tup (a b : List PyData) (h : a.length + b.length ≤ 1000) : addL (.tuple a) (.tuple b) = some (.tuple (a ++ b)) := by
  have z := z24
  have e : addD (.tuple a) (.tuple b) = some (.tuple (a ++ b)) := addD_tup (by omega)
  unfold addL orF2
  rw [e]
inductive Bs : Nat → PyData → Prop
  | int (k : Nat) (i : Int) : Bs k (.int i)
  | str (k : Nat) (s : Str) : PyData.strOk s = true → Bs k (.str s)
  | tup (k : Nat) (ds : List PyData) : ds.length ≤ 5 → (∀ d ∈ ds, Bs k d) → Bs (k + 1) (.tuple ds)
theorem Bs.sml {k : Nat} {d : PyData} (h : Bs k d) : Sml k d := by
  induction h with
  | int k i => exact .int k i
  | str k s h => exact .str k s h
  | tup k ds hl h ih => exact .tup k ds (by omega) ih
theorem mem_cut {α : Type} {xs : List α} {lo hi : Option Int} {x : α} (h : x ∈ cutD xs lo hi) : x ∈ xs := List.mem_of_mem_drop (List.mem_of_mem_take h)
theorem cut_len {α : Type} (xs : List α) (lo hi : Option Int) : (cutD xs lo hi).length ≤ xs.length := by
  unfold cutD
  rw [List.length_take, List.length_drop]
  omega
theorem cut_to {α : Type} (xs : List α) (i : Nat) : (cutD xs none (some (i : Int))).length ≤ i := by
  unfold cutD
  rw [HT.sIx_none, HT.sIx_nat, List.drop_zero, Nat.sub_zero, List.length_take]
  omega
theorem cut_from {α : Type} (xs : List α) (i : Nat) : (cutD xs (some ((i : Int) + 1)) none).length ≤ xs.length - (i + 1) := by
  unfold cutD
  rw [HT.sIx_none, show (i : Int) + 1 = ((i + 1 : Nat) : Int) from rfl, HT.sIx_nat, List.length_take, List.length_drop]
  omega
theorem gtA_int (i j : Int) : gtA (.int i) (.int j) = some (.bool (decide (j < i))) := rfl
def restB : M Fl := (seqS (eIf (tTru (eIsi .tuple (eLook 1))) (sRet (eBin ixD (eFrz (eLst (aCons (eFrz (eCallL listD (aOne (eLook 1)))) (aCons (eBin addL (eVar 1) (eSlB slAD 1 (ret none) (oSome (eC (.int 1))))) (aCons (eSlB slAD 1 (ret none) (oSome (eUn negD (eC (.int 1))))) (aCons (eRevA (eVar 1)) (aCons (eC .none) (aCons (eTup aNil) aNil)))))))) (eFnI fn__law_take 0 (aCons (eC (.int 6)) aNil)))) (ret .nx))
    (seqS (eIf (tTru (eIsi .str (eLook 1))) (sRet (eBin ixD (eFrz (eLst (aCons (eC (.str "ring")) (aCons (eC (.str "rings")) (aCons (eC .none) aNil))))) (eFnI fn__law_take 0 (aCons (eC (.int 3)) aNil)))) (ret .nx))
    (sRet (eBin ixD (eFrz (eLst (aCons (eC (.int 0)) (aCons (eC (.int 1)) (aCons (eBin addD (eVar 1) (eC (.int 1))) (aCons (eBin subD (eVar 1) (eC (.int 1))) (aCons (eC (.bool true)) (aCons (eC .none) aNil)))))))) (eFnI fn__law_take 0 (aCons (eC (.int 6)) aNil))))))
def firstB (self : FI) : M Fl := (eIf (tAn (tTru (eIsi .tuple (eLook 1))) (tAn (tBin (cmpI fun i j => decide (j < i)) (eCall lenD (aOne (eLook 1))) (eC (.int 0))) (tBin gtA (eFnI fn__law_take 0 (aCons (eC (.int 4)) aNil)) (eC (.int 0))))) (seqS (sSet 2 (eFnI fn__law_take 0 (aCons (eCall lenD (aOne (eLook 1))) aNil)))
    (sRet (eBin addL (eBin addL (eSlB slAD 1 (ret none) (oSome (eVar 2))) (eTup (aCons (eFnI self 0 (aCons (eIxB ixD 1 (eLook 2)) aNil)) aNil))) (eSlB slAD 1 (oSome (eBin addD (eVar 2) (eC (.int 1)))) (ret none))))) (ret .nx))
theorem bent_eq (self : FI) : sem__law_bent self = seqS (firstB self) restB := rfl
theorem bent_ok : ∀ (k n : Nat), k < n → ∀ d, Bs k d → ∀ s, GoodS s → ∃ d' es', fn__law_bent_n n (encS s) [d] = some (d', es') ∧ ∃ s', es' = encS s' ∧ Sml k d' ∧ GoodS s'
  | k, 0, hk, _, _, _, _ => by omega
  | k, n + 1, hk, d, hd, s, g => by
    have z := z24
    have z1 : 1 ≤ sizeLine := by omega
    have z4 : 4 ≤ sizeLine := by omega
    have z6 : 6 ≤ sizeLine := by omega
    have main : wr (sem__law_bent (fn__law_bent_n n)) (fun r => ex1 (outI (some r)) fun o => ∃ s', o.2 = encS s' ∧ Sml k o.1 ∧ GoodS s') (startI 3 (encS s) [d]) := by
      cases hd with
      | int k i =>
        have f1 : isiB .tuple (.int i) = false := rfl
        have f2 : isiB .str (.int i) = false := rfl
        obtain ⟨r, s1, e1, l1, a1⟩ := take_ex s 6 6 rfl g (by decide) (by decide)
        simp [sem__law_bent, startI, f1, f2, z6, e1]
        obtain ⟨d, ed, hd⟩ := at_ex (l := [.int 0, .int 1, .int (i + 1), .int (i - 1), .bool true, .none]) (r := r) (by simpa using l1)
        rw [ed, ex1_some]
        simp
        refine ⟨s1, rfl, ?_, a1⟩
        simp only [List.mem_cons, List.not_mem_nil, or_false] at hd
        rcases hd with rfl | rfl | rfl | rfl | rfl | rfl
        · exact .int _ _
        · exact .int _ _
        · exact .int _ _
        · exact .int _ _
        · exact .bool _ _
        · exact .none _
      | str k sx hsx =>
        have f1 : isiB .tuple (.str sx) = false := rfl
        have f2 : isiB .str (.str sx) = true := rfl
        have z3 : 3 ≤ sizeLine := by omega
        obtain ⟨r, s1, e1, l1, a1⟩ := take_ex s 3 3 rfl g (by decide) (by decide)
        simp [sem__law_bent, startI, f1, f2, z3, e1]
        obtain ⟨d, ed, hd⟩ := at_ex (l := [.str "ring", .str "rings", .none]) (r := r) (by simpa using l1)
        rw [ed, ex1_some]
        simp
        refine ⟨s1, rfl, ?_, a1⟩
        simp only [List.mem_cons, List.not_mem_nil, or_false] at hd
        rcases hd with rfl | rfl | rfl
        · exact .str _ _ ok_ring
        · exact .str _ _ ok_rings
        · exact .none _
      | tup k ds hl hd =>
        have f1 : isiB .tuple (.tuple ds) = true := rfl
        have hs : ∀ d ∈ ds, Sml k d := fun d h => (hd d h).sml
        have rest : ∀ (s : DS), GoodS s → wr restB (fun r => ex1 (outI (some r)) fun o => ∃ s', o.2 = encS s' ∧ Sml (k + 1) o.1 ∧ GoodS s') [.io (encS s), .val (.tuple ds), .nil] := fun s g => by
          obtain ⟨r, s1, e1, l1, a1⟩ := take_ex s 6 6 rfl g (by decide) (by decide)
          have c1 : (cutD ds none (some 1)).length ≤ 1 := cut_to ds 1
          have c2 := cut_len ds none (some (-1))
          have p1 := addL_tup ds (cutD ds none (some 1)) (by omega)
          have hz : ds.length ≤ sizeLine := by omega
          simp [restB, f1, z6, e1, p1, hz, eRevA, revA, listD]
          obtain ⟨d, ed, hd'⟩ := at_ex (l := [.list ds, .tuple (ds ++ cutD ds none (some 1)), .tuple (cutD ds none (some (-1))), .tuple ds.reverse, .none, .tuple []]) (r := r) (by simpa using l1)
          rw [ed, ex1_some]
          simp
          refine ⟨s1, rfl, ?_, a1⟩
          simp only [List.mem_cons, List.not_mem_nil, or_false] at hd'
          rcases hd' with rfl | rfl | rfl | rfl | rfl | rfl
          · exact .lst _ _ (by omega) hs
          · refine .tup _ _ (by rw [List.length_append]; omega) fun d hd => ?_
            rcases List.mem_append.mp hd with h | h
            · exact hs d h
            · exact hs d (mem_cut h)
          · exact .tup _ _ (by omega) fun d hd => hs d (mem_cut hd)
          · exact .tup _ _ (by rw [List.length_reverse]; omega) fun d hd => hs d (List.mem_reverse.mp hd)
          · exact .none _
          · exact .tup _ _ (by simp) (by simp)
        by_cases h0 : ds.length = 0
        · have h0' : ((ds.length : Nat) : Int) = 0 := by omega
          have := rest s g
          rw [bent_eq]
          simp [firstB, startI, f1, h0']
          exact this
        · obtain ⟨r, s1, e1, l1, a1⟩ := take_ex s 4 4 rfl g (by decide) (by decide)
          have hpos : 0 < ds.length := by omega
          by_cases hr : r = 0
          · have := rest s1 a1
            rw [bent_eq]
            subst hr
            simp [firstB, startI, f1, hpos, e1, gtA_int]
            exact this
          · obtain ⟨i, s2, e2, l2, a2⟩ := take_ex s1 ds.length ds.length rfl a1 hpos (by omega)
            have hat : atI ds (i : Int) = some ds[i] := D3.atI_nat (List.getElem?_eq_getElem l2)
            obtain ⟨d3, _, e3, s3, rfl, o3, a3⟩ := bent_ok k n (by omega) ds[i] (hd _ (List.getElem_mem l2)) s2 a2
            have c1 := cut_to ds i
            have c2 := cut_from ds i
            have p1 := addL_tup (cutD ds none (some (i : Int))) [d3] (by simp; omega)
            have p2 := addL_tup (cutD ds none (some (i : Int)) ++ [d3]) (cutD ds (some ((i : Int) + 1)) none) (by simp; omega)
            have hr' : 0 < r := by omega
            rw [bent_eq]
            simp [firstB, startI, f1, hpos, e1, gtA_int, hr', e2, hat, e3, p1, z1]
            rw [p2, ex1_some]
            simp
            refine ⟨s3, rfl, .tup _ _ (by simp only [List.length_append, List.length_cons, List.length_nil]; omega) fun d hd => ?_, a3⟩
            rcases List.mem_append.mp hd with h | h
            · exact hs d (mem_cut h)
            · rcases List.mem_cons.mp h with rfl | h
              · exact o3
              · exact hs d (mem_cut h)
    exact runI_of rfl main
end K66

namespace K66
open PySem D3 L2 Ord Cut
/-! ### runs of a cut -/
theorem count_sum {n : Nat} : ∀ {row : List Nat}, (∀ t ∈ row, t < n) → ((List.range n).map fun t => row.count t).sum = row.length
  | [], _ => by
    simp only [List.count_nil, List.length_nil]
    induction n with
    | zero => rfl
    | succ n ih => rw [List.range_succ, List.map_append, List.sum_append, ih (by simp)]; rfl
  | a :: row, h => by
    have ih := count_sum (n := n) (row := row) fun t ht => h t (.tail _ ht)
    have ha : a < n := h a (.head _)
    have e : ∀ m, ((List.range m).map fun t => (a :: row).count t).sum = ((List.range m).map fun t => row.count t).sum + if a < m then 1 else 0 := by
      intro m
      induction m with
      | zero => simp
      | succ m ih =>
        rw [List.range_succ, List.map_append, List.sum_append, ih, List.map_append, List.sum_append]
        simp only [List.map_cons, List.map_nil, List.sum_cons, List.sum_nil, List.count_cons, beq_iff_eq]
        by_cases h1 : a < m
        · rw [if_pos h1, if_neg (by omega), if_pos (by omega)]; omega
        · by_cases h2 : a = m
          · rw [if_neg h1, if_pos h2, if_pos (by omega)]; omega
          · rw [if_neg h1, if_neg h2, if_neg (by omega)]; omega
    rw [e, ih, if_pos ha]
    rfl
theorem sum_le {f g : Nat → Nat} (h : ∀ t, f t ≤ g t) : ∀ n, ((List.range n).map f).sum ≤ ((List.range n).map g).sum
  | 0 => by simp
  | n + 1 => by
    rw [List.range_succ, List.map_append, List.sum_append, List.map_append, List.sum_append]
    have := sum_le h n
    have := h n
    simp
    omega
theorem all_eq {f g : Nat → Nat} (h : ∀ t, f t ≤ g t) : ∀ n, ((List.range n).map f).sum = ((List.range n).map g).sum → ∀ t, t < n → f t = g t
  | 0, _, t, ht => by omega
  | n + 1, hs, t, ht => by
    rw [List.range_succ, List.map_append, List.sum_append, List.map_append, List.sum_append] at hs
    have h1 := sum_le h n
    have h2 := h n
    simp at hs
    by_cases e : t = n
    · subst e; omega
    · exact all_eq h n (by omega) t (by omega)
abbrev cnts (C : List (List Nat)) : List Nat := C.map fun c => c.length + 1
theorem cnts_at (C : List (List Nat)) (t : Nat) (h : t < C.length) : (cnts C)[t]?.getD 0 = C[t].length + 1 := by
  rw [List.getElem?_map, List.getElem?_eq_getElem h]
  rfl
theorem cnts_sum (C : List (List Nat)) : ((List.range C.length).map fun t => (cnts C)[t]?.getD 0).sum = (cnts C).sum := by
  congr 1
  refine List.ext_getElem (by simp) fun i h1 h2 => ?_
  have hi : i < C.length := by simpa using h1
  simp [hi]
theorem runs_good {C : List (List Nat)} {R : List Nat} : R ∈ runsN (cnts C) (cnts C).sum ↔ GoodR C R := by
  rw [mem_runs, List.length_map]
  constructor
  · rintro ⟨h1, h2, h3⟩
    have he := all_eq h3 C.length (by rw [count_sum h2, h1, cnts_sum])
    refine ⟨fun t c hc => ?_, h2⟩
    have ht := (List.getElem?_eq_some_iff.mp hc).1
    have ec := (List.getElem?_eq_some_iff.mp hc).2
    rw [he t ht, cnts_at C t ht, ec]
  · rintro ⟨h1, h2⟩
    have hc : ∀ t, t < C.length → R.count t = (cnts C)[t]?.getD 0 := fun t ht => by
      rw [cnts_at C t ht]
      exact h1 t C[t] (List.getElem?_eq_getElem ht)
    refine ⟨?_, h2, fun t => ?_⟩
    · rw [← count_sum h2, ← cnts_sum C]
      congr 1
      exact List.map_congr_left fun t ht => hc t (List.mem_range.mp ht)
    · by_cases ht : t < C.length
      · exact Nat.le_of_eq (hc t ht)
      · rw [List.count_eq_zero.mpr fun z => ht (h2 t z)]
        exact Nat.zero_le _
theorem good_len {C : List (List Nat)} {R : List Nat} (h : GoodR C R) : R.length = (cnts C).sum := (mem_runs.mp (runs_good.mpr h)).1
/-! ### told -/
abbrev mfS : PyData := .str "<malformed>"
theorem told_mf {w a b v : PyData} (hw : (w = .int 0 ∧ fn_cut_ring [a, b] = some (.error Mf)) ∨ (w = .int 1 ∧ fn_takes_cut_ring [a, b, v] = some (.error Mf)) ∨ (w = .int 2 ∧ fn_ring_run [a, b, v] = some (.error Mf))) : fn__law_told [w, a, b, v] = some (.ok mfS) := by
  have e1 : mtOne "Malformed" ["Refused"] "Malformed" = some true := by unfold mtOne; rw [if_pos rfl]
  refine runV_of rfl (wr_sTryM0 ?_)
  rcases hw with ⟨rfl, h⟩ | ⟨rfl, h⟩ | ⟨rfl, h⟩
  · simp [startE, h]
    rw [tryMK_ex]
    refine ⟨.ok (.rt (.val mfS)) [.val (.int 0), .val a, .val b, .val v, .nil], ?_, rfl⟩
    unfold clRun
    dsimp only [Mf]
    rw [e1]
    rfl
  · simp [startE, h]
    rw [tryMK_ex]
    refine ⟨.ok (.rt (.val mfS)) [.val (.int 1), .val a, .val b, .val v, .nil], ?_, rfl⟩
    unfold clRun
    dsimp only [Mf]
    rw [e1]
    rfl
  · simp [startE, h]
    rw [tryMK_ex]
    refine ⟨.ok (.rt (.val mfS)) [.val (.int 2), .val a, .val b, .val v, .nil], ?_, rfl⟩
    unfold clRun
    dsimp only [Mf]
    rw [e1]
    rfl
theorem told_none {a b v : PyData} (h : fn_ring_run [a, b, v] = some (.error ⟨"Refused", [("reason", .str "none")]⟩)) : fn__law_told [.int 2, a, b, v] = some (.ok (.str "<none>")) := by
  have e1 : mtOne "Malformed" ["Refused"] "Refused" = some false := by decide +kernel
  have e2 : mtOne "Refused" [] "Refused" = some true := by unfold mtOne; rw [if_pos rfl]
  refine runV_of rfl (wr_sTryM0 ?_)
  simp [startE, h]
  rw [tryMK_ex]
  refine ⟨.ok (.rt (.val (.str "<none>"))) [.val (.int 2), .val a, .val b, .val v, .nil], ?_, rfl⟩
  unfold clRun
  dsimp only
  rw [e1]
  dsimp only
  unfold clRun
  dsimp only
  rw [e2]
  have e3 : (xAdd (xAdd (xC (.str "<")) (xFld "Refused" "reason")) (xC (.str ">"))) ⟨"Refused", [("reason", .str "none")]⟩ = some (.str "<none>") := by
    have f1 : xFld "Refused" "reason" ⟨"Refused", [("reason", .str "none")]⟩ = some (.str "none") := by
      unfold xFld
      rw [if_pos rfl]
      have : (("reason" : Str) == "reason") = true := by decide +kernel
      simp [List.lookup, this]
    unfold xAdd xC
    rw [f1]
    rfl
  show noEx (xRet 4 _ _ _) = _
  unfold xRet
  rw [e3]
  rfl
theorem cut_ring_ex {a b : PyData} (h : fn_check_cut [a, b] = some (.error Mf)) : fn_cut_ring [a, b] = some (.error Mf) := by
  refine runV_of rfl ?_
  simp [sem_cut_ring, startE, h]
theorem takes_ex {a b v : PyData} (h : fn_check_cut [a, b] = some (.error Mf)) : fn_takes_cut_ring [a, b, v] = some (.error Mf) := by
  refine runV_of rfl ?_
  simp [sem_takes_cut_ring, startE, h]
theorem run_ex {a b v : PyData} (h : fn_check_cut [a, b] = some (.error Mf)) : fn_ring_run [a, b, v] = some (.error Mf) := by
  refine runV_of rfl ?_
  simp [sem_ring_run, startE, h]
theorem takes_ok {T : List (List Deed)} {C : List (List Nat)} (hT : GoodTs T) (hC : GoodC T C) {v : PyData} {b : Bool} (e : fn_is_ring [encTs T, encC C, v] = some (.ok (.bool b))) : fn_takes_cut_ring [encTs T, encC C, v] = some (.ok (.bool b)) := by
  refine runV_of rfl ?_
  simp [sem_takes_cut_ring, startE, check_cut_ok T C hT hC, e]
theorem run_mf {T : List (List Deed)} {C : List (List Nat)} (hT : GoodTs T) (hC : GoodC T C) {v : PyData} (ht : isiB .tuple v = false) : fn_ring_run [encTs T, encC C, v] = some (.error Mf) := by
  refine runV_of rfl ?_
  simp [sem_ring_run, startE, check_cut_ok T C hT hC, ht]
  rfl
theorem run_none {T : List (List Deed)} {C : List (List Nat)} (hT : GoodTs T) (hC : GoodC T C) {v : PyData} (ht : isiB .tuple v = true) (e : fn_is_ring [encTs T, encC C, v] = some (.ok (.bool false))) : fn_ring_run [encTs T, encC C, v] = some (.error ⟨"Refused", [("reason", .str "none")]⟩) := by
  refine runV_of rfl ?_
  simp [sem_ring_run, startE, check_cut_ok T C hT hC, ht, e]
end K66

namespace K66
open PySem D3 L2 Ord Cut
def ioB (T : List (List Deed)) (C : List (List Nat)) (R : List Nat) : Bool := (Trap.leftN (prs T C R) T.length T.length).isEmpty
theorem io_iff {T : List (List Deed)} {C : List (List Nat)} {R : List Nat} : ioB T C R = true ↔ Ranked (prs T C R) (List.range T.length) := by
  unfold ioB
  rw [List.isEmpty_iff, Trap.left_ranked]
theorem io_ok {T : List (List Deed)} {C : List (List Nat)} (hT : GoodTs T) (hC : GoodC T C) {R : List Nat} (hR : GoodR C R) (hl : R.length ≤ 1000) : fn__law_in_order [encTs T, encC C, encR R] = some (.ok (.bool (ioB T C R))) := by
  obtain ⟨b, e, hb⟩ := law_in_order_ok T C hT hC R hR hl
  have h : b = ioB T C R := Bool.eq_iff_iff.mpr (hb.trans io_iff.symm)
  rw [e, h]
def ToldR (T : List (List Deed)) (C : List (List Nat)) (d : PyData) : Prop := (d = .none ∧ ∀ p i l k, ¬ Ring T C p i l k) ∨ ∃ p i l k, d = encRg p i l k ∧ Ring T C p i l k
abbrev env (x0 x1 x2 : D3.Slot) (T : List (List Deed)) (C : List (List Nat)) (x5 x6 x7 x8 x9 x10 x11 x12 x13 x14 x15 x16 x17 : D3.Slot) : Ev := [x0, x1, x2, .val (encTs T), .val (encC C), x5, x6, x7, x8, x9, x10, x11, x12, x13, x14, x15, x16, x17, .nil, .nil, .nil, .nil, .nil]
def Q2 : M Fl := (eIf (tAn (tBin (cmpI fun i j => decide (i < j)) (eCall sumD (aOne (eLook 5))) (eC (.int 8))) (tBin neD (eBin isND (eVar 6) (eC .none)) (eCall allD (aOne (eFrz (eLc (iSeq (eFn fn__law_runs (aCons (eVar 5) aNil))) (gNm 22) (ret true) (eFn fn__law_in_order (aCons (eVar 3) (aCons (eVar 4) (aCons (eVar 22) aNil)))) [22])))))) (sRet (eC (.bool false))) (ret .nx))
def L5 (x : D3.Slot) (C : List (List Nat)) : Prop := x = .own ((cnts C).map fun k : Nat => .int k) ∨ x = .val (encI (cnts C))
theorem all_io {T : List (List Deed)} {C : List (List Nat)} (hC : GoodC T C) {d : PyData} (hd : ToldR T C d) : isNone d = (runsN (cnts C) (cnts C).sum).all (ioB T C) := by
  rcases hd with ⟨rfl, hn⟩ | ⟨p, i, l, k, rfl, r⟩
  · symm
    show _ = true
    rw [List.all_eq_true]
    intro R hR
    rw [io_iff]
    apply Classical.byContradiction
    intro hno
    obtain ⟨p, i, l, k, r⟩ := ring_of_run hC (runs_good.mp hR) hno
    exact hn p i l k r
  · symm
    show _ = false
    rw [Bool.eq_false_iff]
    intro h
    rw [List.all_eq_true] at h
    exact ring_not_ranked hC r (io_iff.mp (h _ (runs_good.mpr (run_good hC r))))
theorem Q2_ok {T : List (List Deed)} {C : List (List Nat)} (hT : GoodTs T) (hC : GoodC T C) (h3 : T.length ≤ 3) {d : PyData} (hd : ToldR T C d) (x0 x1 x2 x7 x8 x9 x10 x11 x12 x13 x14 x15 x16 x17 : D3.Slot) (QF : Rs Fl → Prop) (q : ∀ x5, L5 x5 C → QF (.ok .nx (env x0 x1 x2 T C x5 (.val d) x7 x8 x9 x10 x11 x12 x13 x14 x15 x16 x17))) :
    wr Q2 QF (env x0 x1 x2 T C (.own ((cnts C).map fun k : Nat => .int k)) (.val d) x7 x8 x9 x10 x11 x12 x13 x14 x15 x16 x17) := by
  have z := z24
  have hCl : T.length = C.length := hC.length
  have sm := sumD_map (cnts C)
  unfold Q2
  by_cases h8 : (cnts C).sum ≤ 7
  · have hi : (((cnts C).sum : Nat) : Int) < 8 := by omega
    have rn := law_runs_ok (cs := cnts C) (by rw [List.length_map]; omega) h8
    have hrl := runs_short (cs := cnts C) (by rw [List.length_map]; omega) (k := (cnts C).sum) h8
    have hio : ∀ R ∈ runsN (cnts C) (cnts C).sum, fn__law_in_order [encTs T, encC C, encR R] = some (.ok (.bool (ioB T C R))) := fun R hR => io_ok hT hC (runs_good.mp hR) (by have := good_len (runs_good.mp hR); omega)
    have ha := all_io hC hd
    have q := q (.val (encI (cnts C))) (.inr rfl)
    have nb : ∀ b : Bool, neD (.bool b) (.bool b) = some (.bool false) := fun b => by
      have := enc_bool.neD b b
      simpa using this
    generalize runsN (cnts C) (cnts C).sum = rows at *
    generalize cnts C = cs at *
    simp [sm, hi, rn]
    refine wr_lcXM (xs := rows) (g := encR) (fun R => .bool (ioB T C R)) rfl (by omega) (fun R hR => ?_) ?_
    · have f := hio R hR
      generalize ioB T C R = b at *
      simp [gNm, wipeE, f]
    · simp only [bndK_ok, wr_ret, wr_lft, allD_map, ex1_some, wr_eFrz, wr_eCall, wr_aOne]
      have e : (rows.all fun R => ioB T C R) = rows.all (ioB T C) := rfl
      rw [e, ← ha]
      simp [nb]
      exact q
  · have hi : ¬ (((cnts C).sum : Nat) : Int) < 8 := by omega
    have q := q (.own ((cnts C).map fun k : Nat => .int k)) (.inl rfl)
    generalize cnts C = cs at *
    simp [sm, hi]
    exact q
end K66

namespace K66
open PySem D3 L2 Ord Cut
theorem mul1 (t n : Nat) (h1 : 1 ≤ n) (h : n ≤ 4) : mulA (.tuple [encN t]) (.int n) = some (encR (List.replicate n t)) := by
  have : n = 1 ∨ n = 2 ∨ n = 3 ∨ n = 4 := by omega
  rcases this with rfl | rfl | rfl | rfl <;> rfl
theorem addR (a b : List Nat) (h : a.length + b.length ≤ 1000) : addD (encR a) (encR b) = some (encR (a ++ b)) := by
  have z := z24
  unfold encR
  rw [addD_tup (by rw [List.length_map, List.length_map]; omega), List.map_append]
theorem shw_row (l : List Nat) (hl : l.length ≤ 30) (hb : ∀ x ∈ l, x < 5) : Shw 1 30 (encR l) := by
  refine (Shw.tuple (k := 0) (n := 0) (ds := l.map encN) fun d hd => ?_).mono (Nat.le_refl _) (by rw [List.length_map]; omega)
  obtain ⟨x, hx, rfl⟩ := List.mem_map.mp hd
  exact shw_nat5 (hb x hx)
def Q3a : M Fl := (sFor (iSeq (eVar 9)) (gNm 13) (sSet 12 (eBin addD (eVar 12) (eBin mulA (eTup (aCons (eVar 13) aNil)) (eIxB ixD 5 (eLook 13))))))
def Q3b : M Fl := (sFor (iRg1 (aCons (eCall lenD (aOne (eLook 3))) aNil)) (gNm 13) (eIf (tBin notInA (eVar 13) (eLook 9)) (sSet 12 (eBin addD (eVar 12) (eBin mulA (eTup (aCons (eVar 13) aNil)) (eBin subD (eIxB ixD 5 (eLook 13)) (eIf (tBin eqD (eVar 13) (eLook 7)) (eVar 11) (eC (.int 0))))))) (ret .nx)))
def Q3c : M Fl := (eIf (tOrr (tBin neD (eCall reprD (aOne (eFn fn_ring_run (aCons (eVar 3) (aCons (eVar 4) (aCons (eVar 6) aNil)))))) (eCall reprD (aOne (eLook 12)))) (tTru (eFn fn__law_in_order (aCons (eVar 3) (aCons (eVar 4) (aCons (eVar 12) aNil)))))) (sRet (eC (.bool false))) (ret .nx))
def Q3 : M Fl := (eIf (tBin notND (eVar 6) (eC .none)) (seqS (eIf (tNt (tTru (eFn fn__law_is_ring (aCons (eVar 3) (aCons (eVar 4) (aCons (eVar 6) aNil)))))) (sRet (eC (.bool false))) (ret .nx))
    (seqS (sAsg (eSlB slAD 6 (oSome (eC (.int 1))) (ret none)) (gTp 4 (gCn (gNm 7) (gCn (gNm 8) (gCn (gNm 9) (gCn (gNm 10) gN0))))))
    (seqS (sSet 11 (eBin addD (eFn fn__law_number (aCons (eVar 4) (aCons (eVar 7) (aCons (eVar 8) aNil)))) (eC (.int 1))))
    (seqS (sSet 12 (eBin mulA (eTup (aCons (eVar 7) aNil)) (eLook 11)))
    (seqS Q3a
    (seqS Q3b
    Q3c)))))) (ret .nx))
def M1 (x0 x1 x2 : D3.Slot) (T : List (List Deed)) (C : List (List Nat)) (x5 x6 x7 x8 x10 x11 x14 x15 x16 x17 : D3.Slot) (l R0 : List Nat) (m : Nat) (ρ : Ev) : Prop := ∃ x13, ρ = env x0 x1 x2 T C x5 x6 x7 x8 (.val (encK l)) x10 x11 (.val (encR (R0 ++ blkR C (l.take m)))) x13 x14 x15 x16 x17
def M2 (x0 x1 x2 : D3.Slot) (T : List (List Deed)) (C : List (List Nat)) (x5 x6 : D3.Slot) (p i : Nat) (x8 x10 x14 x15 x16 x17 : D3.Slot) (l R0 : List Nat) (m : Nat) (ρ : Ev) : Prop := ∃ x13, ρ = env x0 x1 x2 T C x5 x6 (.val (encN p)) x8 (.val (encK l)) x10 (.val (encN (firstN C p i))) (.val (encR (R0 ++ (List.range m).flatMap fun t => List.replicate (restN C p i l t) t))) x13 x14 x15 x16 x17
section
variable {T : List (List Deed)} {C : List (List Nat)} (hT : GoodTs T) (hC : GoodC T C) {p i k : Nat} {l : List Nat} (r : Ring T C p i l k)
include hT hC r
theorem Q3a_ok {x5 : D3.Slot} (h5 : L5 x5 C) (x0 x1 x2 x6 x7 x8 x10 x11 x13 x14 x15 x16 x17 : D3.Slot) (QF : Rs Fl → Prop) (q : ∀ x13, QF (.ok .nx (env x0 x1 x2 T C x5 x6 x7 x8 (.val (encK l)) x10 x11 (.val (encR (List.replicate (firstN C p i) p ++ blkR C l))) x13 x14 x15 x16 x17))) :
    wr Q3a QF (env x0 x1 x2 T C x5 x6 x7 x8 (.val (encK l)) x10 x11 (.val (encR (List.replicate (firstN C p i) p))) x13 x14 x15 x16 x17) := by
  have z := z24
  have z1 : 1 ≤ sizeLine := by omega
  obtain ⟨hb, nd, hl⟩ := r.names hT
  have hcs : ∀ t, cntN C t ≤ 4 := cnt_small hT hC
  have hf4 : firstN C p i ≤ 4 := by
    have h1 := pieceN_le (C[p]?.getD []) i
    have h2 := hcs p
    unfold cntN at h2
    unfold firstN
    omega
  have sq : seqD (encK l) = some (l.map encN) := rfl
  unfold Q3a
  simp [sq]
  refine wr_forX (xs := l) (g := encN) (M1 x0 x1 x2 T C x5 x6 x7 x8 x10 x11 x14 x15 x16 x17 l (List.replicate (firstN C p i) p)) (fun m t ρ hm j => ?_) ⟨x13, by simp [blkR]⟩ ?_
  · obtain ⟨x13, rfl⟩ := j
    have ht := hb t (List.mem_of_getElem? hm)
    have ca : atI ((cnts C).map fun k : Nat => PyData.int k) (t : Int) = some (encN (cntN C t)) := by
      have := cnt_at hC ht
      rw [List.map_map]
      exact this
    have mu := mul1 t (cntN C t) (by unfold cntN; omega) (hcs t)
    have e : l.take (m + 1) = l.take m ++ [t] := by
      rw [List.take_add_one, hm]
      rfl
    have eb : blkR C (l.take (m + 1)) = blkR C (l.take m) ++ List.replicate (cntN C t) t := by
      unfold blkR
      rw [e, List.flatMap_append]
      simp
    have hbl := blk_len hcs (l.take m)
    rw [List.length_take] at hbl
    have ad := addR (List.replicate (firstN C p i) p ++ blkR C (l.take m)) (List.replicate (cntN C t) t) (by
      rw [List.length_append, List.length_replicate, List.length_replicate]
      unfold blkR
      have := hcs t
      omega)
    unfold M1
    rw [eb, ← List.append_assoc]
    generalize (List.replicate (firstN C p i) p ++ blkR C (l.take m)) = A at *
    generalize List.replicate (cntN C t) t = B at *
    unfold L5 at h5
    obtain ⟨cs, hcs2⟩ : ∃ cs, cs = cnts C := ⟨_, rfl⟩
    rw [← hcs2] at ca h5
    clear hcs2
    rcases h5 with rfl | rfl
    · simp [gNm, ca, z1, mu, ad, -List.map_append]
    · simp [gNm, ca, z1, mu, ad, -List.map_append]
  · rintro ρ' ⟨x13, rfl⟩
    rw [List.take_length]
    exact q _
theorem Q3b_ok (h4 : T.length ≤ 4) {x5 : D3.Slot} (h5 : L5 x5 C) (x0 x1 x2 x6 x8 x10 x13 x14 x15 x16 x17 : D3.Slot) (QF : Rs Fl → Prop) (q : ∀ x13, QF (.ok .nx (env x0 x1 x2 T C x5 x6 (.val (encN p)) x8 (.val (encK l)) x10 (.val (encN (firstN C p i))) (.val (encR (runOf T C p i l))) x13 x14 x15 x16 x17))) :
    wr Q3b QF (env x0 x1 x2 T C x5 x6 (.val (encN p)) x8 (.val (encK l)) x10 (.val (encN (firstN C p i))) (.val (encR (List.replicate (firstN C p i) p ++ blkR C l))) x13 x14 x15 x16 x17) := by
  have z := z24
  have z1 : 1 ≤ sizeLine := by omega
  obtain ⟨hb, nd, hl⟩ := r.names hT
  have hcs : ∀ t, cntN C t ≤ 4 := cnt_small hT hC
  have hfc : firstN C p i < cntN C p := by
    have h1 := pieceN_le (C[p]?.getD []) k
    have h2 := pieceN_mono (C[p]?.getD []) (Nat.le_of_lt r.ik)
    have h3 := r.pc
    unfold cntN firstN
    omega
  have l1 := len_T T
  have q1 : sm62 (T.length : Int) = true := sm62_of' (by omega) (by omega)
  unfold Q3b
  simp [l1, q1, rg_range]
  refine wr_forX (xs := List.range T.length) (g := encN) (M2 x0 x1 x2 T C x5 x6 p i x8 x10 x14 x15 x16 x17 l (List.replicate (firstN C p i) p ++ blkR C l)) (fun m t ρ hm j => ?_) ⟨x13, by simp⟩ ?_
  · obtain ⟨x13, rfl⟩ := j
    obtain ⟨hml, rfl⟩ := range_at hm
    have ca : atI ((cnts C).map fun k : Nat => PyData.int k) (t : Int) = some (encN (cntN C t)) := by
      have := cnt_at hC hml
      rw [List.map_map]
      exact this
    have hrs : ∀ t, restN C p i l t ≤ 4 := fun t => by
      unfold restN
      have := hcs t
      split
      · omega
      · split <;> omega
    have eb : (List.range (t + 1)).flatMap (fun t => List.replicate (restN C p i l t) t) = (List.range t).flatMap (fun t => List.replicate (restN C p i l t) t) ++ List.replicate (restN C p i l t) t := by
      rw [List.range_succ, List.flatMap_append]
      simp
    have hbl := blk_len hrs (List.range t)
    rw [List.length_range] at hbl
    have hbl2 := blk_len hcs l
    have e4 : notInA (encN t) (encK l) = some (.bool (!l.contains t)) := enc_nat.notInT (fun _ => rfl) t l
    have hrest : restN C p i l t = if l.contains t then 0 else if t = p then cntN C t - firstN C p i else cntN C t := rfl
    have ad := addR (List.replicate (firstN C p i) p ++ blkR C l ++ (List.range t).flatMap fun t => List.replicate (restN C p i l t) t) (List.replicate (restN C p i l t) t) (by
      rw [List.length_append, List.length_append, List.length_replicate, List.length_replicate]
      unfold blkR
      have := hrs t
      have := hcs p
      omega)
    unfold M2
    rw [eb, ← List.append_assoc]
    unfold L5 at h5
    obtain ⟨cs, hcs2⟩ : ∃ cs, cs = cnts C := ⟨_, rfl⟩
    rw [← hcs2] at ca h5
    clear hcs2
    by_cases hin : t ∈ l
    · have hc0 : restN C p i l t = 0 := by rw [hrest, if_pos (by simpa using hin)]
      rw [hc0, List.replicate_zero, List.append_nil]
      generalize (List.replicate (firstN C p i) p ++ blkR C l ++ (List.range t).flatMap fun t => List.replicate (restN C p i l t) t) = A at *
      simp [gNm, e4, hin]
    · have hcn : l.contains t = false := by simpa using hin
      have et := enc_nat.eqD t p
      have hr1 : 1 ≤ restN C p i l t := by
        rw [hrest, hcn, if_neg (by simp)]
        split
        · rename_i e
          rw [e]
          omega
        · unfold cntN; omega
      have mu := mul1 t (restN C p i l t) hr1 (hrs t)
      have hsub : t = p → ((cntN C t : Int) - (firstN C p i : Int)) = ((restN C p i l t : Nat) : Int) := fun e => by
        have hr : restN C p i l t = cntN C t - firstN C p i := by rw [hrest, hcn, if_neg (by simp), if_pos e]
        rw [hr]
        have : firstN C p i ≤ cntN C t := by rw [e]; omega
        omega
      have hsub2 : t ≠ p → (cntN C t : Int) = ((restN C p i l t : Nat) : Int) := fun e => by
        have hr : restN C p i l t = cntN C t := by rw [hrest, hcn, if_neg (by simp), if_neg e]
        rw [hr]
      generalize (List.replicate (firstN C p i) p ++ blkR C l ++ (List.range t).flatMap fun t => List.replicate (restN C p i l t) t) = A at *
      generalize restN C p i l t = rs at *
      by_cases htp : t = p
      · rw [decide_eq_true htp] at et
        have hsub := hsub htp
        rcases h5 with rfl | rfl
        · simp [gNm, e4, hin, et, ca, z1, hsub, mu, ad, -List.map_append]
        · simp [gNm, e4, hin, et, ca, z1, hsub, mu, ad, -List.map_append]
      · rw [decide_eq_false htp] at et
        have hsub2 := hsub2 htp
        rcases h5 with rfl | rfl
        · simp [gNm, e4, hin, et, ca, z1, hsub2, mu, ad, -List.map_append]
        · simp [gNm, e4, hin, et, ca, z1, hsub2, mu, ad, -List.map_append]
  · rintro ρ' ⟨x13, rfl⟩
    rw [List.length_range]
    have e : List.replicate (firstN C p i) p ++ blkR C l ++ (List.range T.length).flatMap (fun t => List.replicate (restN C p i l t) t) = runOf T C p i l := by
      unfold runOf restR
      rw [List.append_assoc]
    rw [e]
    exact q _
theorem Q3_ok {x5 : D3.Slot} (h5 : L5 x5 C) (x0 x1 x2 x7 x8 x9 x10 x11 x12 x13 x14 x15 x16 x17 : D3.Slot) (QF : Rs Fl → Prop) (q : ∀ x7 x8 x9 d10 x11 x12 x13, QF (.ok .nx (env x0 x1 x2 T C x5 (.val (encRg p i l k)) x7 x8 x9 (.val d10) x11 x12 x13 x14 x15 x16 x17))) :
    wr Q3 QF (env x0 x1 x2 T C x5 (.val (encRg p i l k)) x7 x8 x9 x10 x11 x12 x13 x14 x15 x16 x17) := by
  have z := z24
  have z1 : 1 ≤ sizeLine := by omega
  have h4 := hT.2.1
  obtain ⟨hb, nd, hl⟩ := r.names hT
  have hCl := hC.length
  have hpl := r.pl
  obtain ⟨c, hc⟩ : ∃ c, C[p]? = some c := ⟨_, List.getElem?_eq_getElem (by omega)⟩
  have hcl := hC.small hT c (List.mem_of_getElem? hc)
  have nu := law_number_ok hc i (by omega)
  have hf : firstN C p i = pieceN c i + 1 := by unfold firstN; rw [hc]; rfl
  have hpn := pieceN_le c i
  have hfi : ((pieceN c i : Int) + 1) = ((firstN C p i : Nat) : Int) := by omega
  have mu := mul1 p (firstN C p i) (by omega) (by omega)
  have iy := (is_ring_yes hT hC r).2
  have rr := ring_run_ok hT hC r
  have hG := run_good hC r
  have hGl := good_len hG
  have hsum : (cnts C).sum ≤ 16 := by
    have h1 : ∀ l : List (List Nat), (∀ c ∈ l, c.length ≤ 3) → (l.map fun c => c.length + 1).sum ≤ 4 * l.length := fun l h => by
      induction l with
      | nil => simp
      | cons a l ih =>
        have := ih fun c hc => h c (List.mem_cons_of_mem _ hc)
        have := h a (.head _)
        simp
        omega
    have := h1 C (fun c hc => hC.small hT c hc)
    show (C.map fun c => c.length + 1).sum ≤ 16
    omega
  have sh := shw_row (runOf T C p i l) (by omega) (fun x hx => by have := hG.2 x hx; omega)
  have e5 := sh.repr (by decide) (by decide)
  have e6 := sh.ne
  have io := io_ok hT hC hG (by omega)
  have iof : ioB T C (runOf T C p i l) = false := by
    rw [Bool.eq_false_iff]
    exact fun h => ring_not_ranked hC r (io_iff.mp h)
  rw [iof] at io
  have c1 : cutD [PyData.str "ring", encN p, encN i, encK l, encN k] (some 1) none = [encN p, encN i, encK l, encN k] := cutD_1 _
  unfold Q3
  have nn : isNone (encRg p i l k) = false := rfl
  show wr _ QF (env x0 x1 x2 T C x5 (.val (.tuple [.str "ring", encN p, encN i, encK l, encN k])) x7 x8 x9 x10 x11 x12 x13 x14 x15 x16 x17)
  have iy : fn__law_is_ring [encTs T, encC C, .tuple [.str "ring", encN p, encN i, encK l, encN k]] = some (.ok (.bool true)) := iy
  have rr : fn_ring_run [encTs T, encC C, .tuple [.str "ring", encN p, encN i, encK l, encN k]] = some (.ok (encR (runOf T C p i l))) := rr
  have nn : isNone (.tuple [.str "ring", encN p, encN i, encK l, encN k]) = false := rfl
  simp [nn, iy, c1, gNm, gTp, gCn, gN0, nu]
  rw [hfi]
  simp [z1, mu]
  refine Q3a_ok hT hC r h5 _ _ _ _ _ _ _ _ _ _ _ _ _ _ fun x13 => ?_
  simp
  refine Q3b_ok hT hC r h4 h5 _ _ _ _ _ _ _ _ _ _ _ _ fun x13 => ?_
  unfold Q3c
  generalize runOf T C p i l = R at *
  simp [rr, e5, e6, io]
  exact q _ _ _ _ _ _ _
end
end K66

namespace K66
open PySem D3 L2 Ord Cut
def Q4 : M Fl := (sSet 14 (eIf (tBin notND (eVar 6) (eC .none)) (eVar 6) (eTup (aCons (eC (.str "ring")) (aCons (eC (.int 0)) (aCons (eC (.int 0)) (aCons (eTup (aCons (eC (.int 1)) aNil)) (aCons (eC (.int 1)) aNil))))))))
theorem bs_ring (v1 v2 v4 : Int) (ns : List PyData) (hl : ns.length ≤ 5) (hi : ∀ d ∈ ns, ∃ i, d = .int i) : Bs 2 (.tuple [.str "ring", .int v1, .int v2, .tuple ns, .int v4]) := by
  refine .tup 1 _ (by simp) fun d hd => ?_
  simp only [List.mem_cons, List.not_mem_nil, or_false] at hd
  rcases hd with rfl | rfl | rfl | rfl | rfl
  · exact .str _ _ ok_ring
  · exact .int _ _
  · exact .int _ _
  · refine .tup 0 _ hl fun d hd => ?_
    obtain ⟨i, rfl⟩ := hi d hd
    exact .int _ _
  · exact .int _ _
theorem ints_of (l : List Nat) : ∀ d ∈ l.map encN, ∃ i, d = .int i := fun d hd => by
  obtain ⟨x, _, rfl⟩ := List.mem_map.mp hd
  exact ⟨_, rfl⟩
theorem Q4_ok {T : List (List Deed)} {C : List (List Nat)} (hT : GoodTs T) {d : PyData} (hd : ToldR T C d) (x0 x1 x2 x5 x7 x8 x9 x10 x11 x12 x13 x14 x15 x16 x17 : D3.Slot) (QF : Rs Fl → Prop) (q : ∀ ds, ds.length = 5 → Bs 2 (.tuple ds) → QF (.ok .nx (env x0 x1 x2 T C x5 (.val d) x7 x8 x9 x10 x11 x12 x13 (.val (.tuple ds)) x15 x16 x17))) :
    wr Q4 QF (env x0 x1 x2 T C x5 (.val d) x7 x8 x9 x10 x11 x12 x13 x14 x15 x16 x17) := by
  have z := z24
  have z1 : 1 ≤ sizeLine := by omega
  have z5 : 5 ≤ sizeLine := by omega
  unfold Q4
  rcases hd with ⟨rfl, _⟩ | ⟨p, i, l, k, rfl, r⟩
  · simp [isNone, z1, z5]
    exact q _ rfl (bs_ring 0 0 1 [.int 1] (by simp) fun d hd => ⟨1, by simpa using hd⟩)
  · obtain ⟨hb, nd, hl⟩ := r.names hT
    have nn : isNone (encRg p i l k) = false := rfl
    simp [nn]
    exact q _ rfl (bs_ring p i k (l.map encN) (by rw [List.length_map]; omega) (ints_of l))
def I9 (N : Nat) (x0 x2 : D3.Slot) (T : List (List Deed)) (C : List (List Nat)) (x5 x6 x7 x8 x9 x11 x12 x13 x14 x15 x16 x17 : D3.Slot) (rest acc : List PyData) (ρ : Ev) : Prop := ∃ s, GoodS s ∧ rest.length + acc.length = N ∧ (∀ v ∈ acc, Sml 2 v) ∧ ρ = env x0 (.own (encS s)) x2 T C x5 x6 x7 x8 x9 .nil x11 x12 x13 x14 x15 x16 x17
theorem bents_ok {T : List (List Deed)} {C : List (List Nat)} {b : PyData} (hb : Bs 2 b) (s : DS) (g : GoodS s) (x0 x2 x5 x6 x7 x8 x9 x10 x11 x12 x13 x15 x16 x17 : D3.Slot) (h10 : NoO x10) (QL : Rs (List PyData) → Prop) (q : ∀ l s', l.length = 8 → (∀ v ∈ l, Sml 2 v) → GoodS s' → QL (.ok l (env x0 (.own (encS s')) x2 T C x5 x6 x7 x8 x9 x10 x11 x12 x13 (.val b) x15 x16 x17))) :
    wr (lcD (gNm 10) (ret true) (eFnI fn__law_bent 1 (aCons (eVar 14) aNil)) [10] ((List.range 8).map encN)) QL (env x0 (.own (encS s)) x2 T C x5 x6 x7 x8 x9 x10 x11 x12 x13 (.val b) x15 x16 x17) := by
  have z := z24
  refine wr_lcI (I9 8 x0 x2 T C x5 x6 x7 x8 x9 x11 x12 x13 (.val b) x15 x16 x17) (by rcases h10 with rfl | ⟨d, rfl⟩ <;> rfl) (by simp; omega) ?_ ⟨s, g, by simp, by simp, rfl⟩ ?_
  · rintro d rest acc ρ ⟨s, gs, hl, ha, rfl⟩
    obtain ⟨d', _, e1, s1, rfl, o1, g1⟩ := bent_ok 2 5 (by omega) b hb s gs
    have e1 : fn__law_bent (encS s) [b] = some (d', encS s1) := e1
    simp only [env]
    simp [gNm, e1, -List.length_map]
    refine ⟨some d', _, ⟨rfl, rfl⟩, s1, g1, ?_, fun v hv => ?_, rfl⟩
    · simp at hl ⊢
      omega
    · rcases List.mem_append.mp hv with h | h
      · exact ha v h
      · simp at h
        rw [h]; exact o1
  · rintro l ρ' ⟨s', gs, hl, ha, rfl⟩
    exact q l s' (by simpa using hl) ha gs
def Q5 : M Fl := (sSetL 15 (eBinL catD (eFrz (eLst (aCons (eVar 14) (aCons (eFrz (eCallL listD (aOne (eLook 14)))) (aCons (eSlB slAD 14 (ret none) (oSome (eC (.int 4)))) (aCons (eC .none) (aCons (eTup aNil) (aCons (eTup (aCons (eC (.str "ring")) (aCons (eC (.int 0)) (aCons (eC (.int 0)) (aCons (eTup aNil) (aCons (eC (.int 1)) aNil)))))) (aCons (eTup (aCons (eC (.str "ring")) (aCons (eC (.int 0)) (aCons (eC (.int 1)) (aCons (eTup (aCons (eC (.int 1)) aNil)) (aCons (eC (.int 0)) aNil)))))) aNil))))))))) (eFrz (eLc (iRg1 (aCons (eC (.int 8)) aNil)) (gNm 10) (ret true) (eFnI fn__law_bent 1 (aCons (eVar 14) aNil)) [10]))))
theorem Q5_ok {T : List (List Deed)} {C : List (List Nat)} {ds : List PyData} (h5 : ds.length = 5) (hb : Bs 2 (.tuple ds)) (s : DS) (g : GoodS s) (x0 x2 x5 x6 x7 x8 x9 x10 x11 x12 x13 x15 x16 x17 : D3.Slot) (h10 : NoO x10) (QF : Rs Fl → Prop) (q : ∀ vs s', (∀ v ∈ vs, Sml 2 v) → GoodS s' → QF (.ok .nx (env x0 (.own (encS s')) x2 T C x5 x6 x7 x8 x9 x10 x11 x12 x13 (.val (.tuple ds)) (.own vs) x16 x17))) :
    wr Q5 QF (env x0 (.own (encS s)) x2 T C x5 x6 x7 x8 x9 x10 x11 x12 x13 (.val (.tuple ds)) x15 x16 x17) := by
  have z := z24
  have z1 : 1 ≤ sizeLine := by omega
  have z5 : 5 ≤ sizeLine := by omega
  have z7 : 7 ≤ sizeLine := by omega
  have hz : ds.length ≤ sizeLine := by omega
  have s8 : sm62 8 = true := rfl
  have g8 : rgD 0 8 = (List.range 8).map encN := rg_range 8
  have hds : ∀ d ∈ ds, Sml 1 d := fun d hd => by
    cases hb with
    | tup k _ _ hh => exact (hh d hd).sml
  have hfix : ∀ v ∈ [PyData.tuple ds, .list ds, .tuple (cutD ds none (some 4)), .none, .tuple [], .tuple [.str "ring", .int 0, .int 0, .tuple [], .int 1], .tuple [.str "ring", .int 0, .int 1, .tuple [.int 1], .int 0]], Sml 2 v := fun v hv => by
    simp only [List.mem_cons, List.not_mem_nil, or_false] at hv
    rcases hv with rfl | rfl | rfl | rfl | rfl | rfl | rfl
    · exact hb.sml
    · exact .lst 1 _ (by omega) hds
    · exact .tup 1 _ (by have := cut_len ds none (some 4); omega) fun d hd => hds d (mem_cut hd)
    · exact .none _
    · exact .tup 1 _ (by simp) (by simp)
    · exact (bs_ring 0 0 1 [] (by simp) (by simp)).sml
    · exact (bs_ring 0 1 0 [.int 1] (by simp) fun d hd => ⟨1, by simpa using hd⟩).sml
  have B := bents_ok (T := T) (C := C) hb
  unfold Q5
  simp only [env] at q B ⊢
  simp [listD, hz, z1, z5, z7, s8]
  rw [g8]
  refine B s g _ _ _ _ _ _ _ _ _ _ _ _ _ _ h10 _ fun l s' h6 hl2 g' => ?_
  have c := catD_ok [PyData.tuple ds, .list ds, .tuple (cutD ds none (some 4)), .none, .tuple [], .tuple [.str "ring", .int 0, .int 0, .tuple [], .int 1], .tuple [.str "ring", .int 0, .int 1, .tuple [.int 1], .int 0]] l (by simp; omega)
  simp [c]
  refine q _ _ (fun v hv' => ?_) g'
  rcases List.mem_append.mp (show v ∈ [PyData.tuple ds, .list ds, .tuple (cutD ds none (some 4)), .none, .tuple [], .tuple [.str "ring", .int 0, .int 0, .tuple [], .int 1], .tuple [.str "ring", .int 0, .int 1, .tuple [.int 1], .int 0]] ++ l from hv') with h | h
  · exact hfix v h
  · exact hl2 v h
def L9 : M Fl := (seqS (sSet 17 (eFn fn__law_is_ring (aCons (eVar 3) (aCons (eVar 4) (aCons (eVar 16) aNil)))))
    (seqS (eIf (tOrr (tNt (tTru (eFn fn__law_says (aCons (eFn fn_takes_cut_ring (aCons (eVar 3) (aCons (eVar 4) (aCons (eVar 16) aNil)))) (aCons (eVar 17) aNil))))) (tAn (tTru (eLook 17)) (tBin isND (eVar 6) (eC .none)))) (sRet (eC (.bool false))) (ret .nx))
    (eIf (tAn (tNt (tTru (eLook 17))) (tBin neD (eFn fn__law_told (aCons (eC (.int 2)) (aCons (eVar 3) (aCons (eVar 4) (aCons (eVar 16) aNil))))) (eIf (tTru (eIsi .tuple (eLook 16))) (eC (.str "<none>")) (eC (.str "<malformed>"))))) (sRet (eC (.bool false))) (ret .nx))))
def Q6 : M Fl := (sFor (iSeq (eVar 15)) (gNm 16) L9)
theorem L9_ok {T : List (List Deed)} {C : List (List Nat)} (hT : GoodTs T) (hC : GoodC T C) {d : PyData} (hd : ToldR T C d) {v : PyData} (hv : Sml 2 v) (x0 x1 x2 x5 x7 x8 x9 x10 x11 x12 x13 x14 x15 x17 : D3.Slot) (QF : Rs Fl → Prop) (q : ∀ x16 x17, QF (.ok .nx (env x0 x1 x2 T C x5 (.val d) x7 x8 x9 x10 x11 x12 x13 x14 x15 x16 x17))) :
    wr L9 QF (env x0 x1 x2 T C x5 (.val d) x7 x8 x9 x10 x11 x12 x13 x14 x15 (.val v) x17) := by
  obtain ⟨b, e1, e2, hb⟩ := ring_agree hT hC v (by omega) hv
  have e3 := takes_ok hT hC e1
  have e4 := says_ok b b
  rw [show (b == b) = true by cases b <;> rfl] at e4
  have n1 : neD (.str "<none>") (.str "<none>") = some (.bool false) := by
    have s : SeqAt.shaped (.str "<none>") = true := shaped_str (by decide +kernel)
    rw [neD_of s s]
    simp [PyData.eqv]
  have n2 : neD (.str "<malformed>") (.str "<malformed>") = some (.bool false) := by
    have s : SeqAt.shaped (.str "<malformed>") = true := shaped_str (by decide +kernel)
    rw [neD_of s s]
    simp [PyData.eqv]
  unfold L9
  cases b with
  | true =>
    have nn : isNone d = false := by
      rcases hd with ⟨rfl, hn⟩ | ⟨p, i, l, k, rfl, _⟩
      · obtain ⟨p, i, l, k, _, r⟩ := hb rfl
        exact absurd r (hn p i l k)
      · rfl
    simp [e2, e3, e4, nn]
    exact q _ _
  | false =>
    cases ht : isiB .tuple v with
    | true =>
      have e5 := told_none (run_none hT hC ht e1)
      simp [e2, e3, e4, e5, ht, n1]
      exact q _ _
    | false =>
      have e5 := told_mf (v := v) (.inr (.inr ⟨rfl, run_mf hT hC ht⟩))
      simp [e2, e3, e4, e5, ht, n2]
      exact q _ _
theorem Q6_ok {T : List (List Deed)} {C : List (List Nat)} (hT : GoodTs T) (hC : GoodC T C) {d : PyData} (hd : ToldR T C d) {vs : List PyData} (hv : ∀ v ∈ vs, Sml 2 v) (x0 x1 x2 x5 x7 x8 x9 x10 x11 x12 x13 x14 x16 x17 : D3.Slot) (QF : Rs Fl → Prop) (q : ∀ x15 x16 x17, QF (.ok .nx (env x0 x1 x2 T C x5 (.val d) x7 x8 x9 x10 x11 x12 x13 x14 x15 x16 x17))) :
    wr Q6 QF (env x0 x1 x2 T C x5 (.val d) x7 x8 x9 x10 x11 x12 x13 x14 (.own vs) x16 x17) := by
  unfold Q6
  simp
  have key : wr (forD (gNm 16) L9 (vs.map id)) QF (env x0 x1 x2 T C x5 (.val d) x7 x8 x9 x10 x11 x12 x13 x14 (.val (.list vs)) x16 x17) := by
    refine wr_forX (xs := vs) (g := id) (fun k ρ => ∃ x16 x17, ρ = env x0 x1 x2 T C x5 (.val d) x7 x8 x9 x10 x11 x12 x13 x14 (.val (.list vs)) x16 x17) (fun k v ρ hk j => ?_) ⟨_, _, rfl⟩ ?_
    · obtain ⟨x16, x17, rfl⟩ := j
      simp only [env, gNm, ex1_some, List.set_cons_succ, List.set_cons_zero, id]
      exact L9_ok hT hC hd (hv v (List.mem_of_getElem? hk)) _ _ _ _ _ _ _ _ _ _ _ _ _ _ _ fun x16 x17 => ⟨_, .inl rfl, _, _, rfl⟩
    · rintro ρ' ⟨x16, x17, rfl⟩
      exact q _ _ _
  rw [List.map_id] at key
  exact key
end K66

namespace K66
open PySem D3 L2 Ord Cut
theorem emm6 : eqD (.list [mfS, mfS, mfS, mfS, mfS, mfS]) (.list [mfS, mfS, mfS, mfS, mfS, mfS]) = some (.bool true) := by
  have hs : PyData.strOk ("<malformed>" : Str) = true := by decide +kernel
  have s : SeqAt.shaped (.list [mfS, mfS, mfS, mfS, mfS, mfS]) = true := shaped_list (k := 0) fun d hd => by
    simp only [List.mem_cons, List.not_mem_nil, or_false] at hd
    rcases hd with rfl | rfl | rfl | rfl | rfl | rfl <;> exact ⟨by simp only [PyData.canLay0]; exact hs, by simp only [PyData.depth]; exact Nat.le_refl _⟩
  rw [eqD_of s s]
  simp [PyData.eqv, PyData.eqvAll]
def JL (sc : PyData) (k : Nat) (ρ : Ev) : Prop := ∃ (s : DS) (x2 x3 x4 x5 x6 x7 x8 x9 x10 x11 x12 x13 x14 x15 x16 x17 : D3.Slot), GoodS s ∧ NoO x10 ∧ (k = 0 ∨ ∃ T C b, GoodTs T ∧ GoodC T C ∧ x3 = .val (encTs T) ∧ x4 = .val (encC C) ∧ x14 = .val b) ∧ ρ = [.val sc, .own (encS s), x2, x3, x4, x5, x6, x7, x8, x9, x10, x11, x12, x13, x14, x15, x16, x17, .nil, .nil, .nil, .nil, .nil]
def lbody : M Fl := (seqS (sSet 3 (eFnI fn__law_texts 1 (aCons (eC (.int 3)) aNil)))
    (seqS (sSet 4 (eFnI fn__law_cut 1 (aCons (eVar 3) aNil)))
    (seqS (sSetL 5 (eLc (iSeq (eVar 4)) (gNm 20) (ret true) (eBin addD (eCall lenD (aOne (eLook 20))) (eC (.int 1))) [20]))
    (seqS (sSet 6 (eFn fn_cut_ring (aCons (eVar 3) (aCons (eVar 4) aNil))))
    (seqS Q2
    (seqS Q3
    (seqS Q4
    (seqS Q5
    Q6))))))))
theorem step_ok (sc : PyData) (k : Nat) (x : Nat) (ρ : Ev) (QF : Rs Fl → Prop) (j : JL sc k ρ) : ex1 (gNm 2 (encN x) ρ) fun ρ1 => wr lbody (Goes QF (JL sc (k + 1))) ρ1 := by
  have z := z24
  obtain ⟨s, x2, x3, x4, x5, x6, x7, x8, x9, x10, x11, x12, x13, x14, x15, x16, x17, g, h10, hk, rfl⟩ := j
  obtain ⟨_, _, e1, T, s1, rfl, rfl, hT, h3, g1⟩ := texts3_ok s g
  obtain ⟨_, _, e2, C, s2, rfl, rfl, hC, g2⟩ := cut_ok s1 g1 T hT
  obtain ⟨d, ed, hd⟩ := cut_ring_ok T C hT hC
  have hd : ToldR T C d := hd
  have hCl := hC.length
  have lk : ∀ c : List Nat, lenD [encK c] = some (.int c.length) := fun c => by
    show some (PyData.int ((c.map fun k : Nat => PyData.int k).length : Nat)) = _
    rw [List.length_map]
  have sq : seqD (encC C) = some (C.map encK) := rfl
  have fin : ∀ (x5 x7 x8 x9 x10 x11 x12 x13 x14 x15 x16 x17 : D3.Slot), NoO x10 → wr (seqS Q4 (seqS Q5 Q6)) (Goes QF (JL sc (k + 1))) (env (.val sc) (.own (encS s2)) (.val (encN x)) T C x5 (.val d) x7 x8 x9 x10 x11 x12 x13 x14 x15 x16 x17) := fun x5 x7 x8 x9 x10 x11 x12 x13 x14 x15 x16 x17 h10 => by
    simp only [env]
    simp
    refine Q4_ok hT hd _ _ _ _ _ _ _ _ _ _ _ _ _ _ _ _ fun ds hl hb => ?_
    simp
    refine Q5_ok hl hb s2 g2 _ _ _ _ _ _ _ _ _ _ _ _ _ _ h10 _ fun vs s3 hvs g3 => ?_
    simp
    refine Q6_ok hT hC hd hvs _ _ _ _ _ _ _ _ _ _ _ _ _ _ _ fun x15 x16 x17 => ?_
    simp
    exact ⟨s3, _, _, _, _, _, _, _, _, _, _, _, _, _, _, _, _, g3, h10, .inr ⟨T, C, _, hT, hC, rfl, rfl, rfl⟩, rfl⟩
  simp only [gNm, ex1_some]
  unfold lbody
  simp only [List.set_cons_succ, List.set_cons_zero]
  simp [e1, e2, sq]
  refine wr_lcXM (xs := C) (g := encK) (fun c => encN (c.length + 1)) rfl (by have := hT.2.1; omega) (fun c hc => ?_) ?_
  · simp [gNm, wipeE, lk]
  · have em : (C.map fun c => encN (c.length + 1)) = (cnts C).map fun k : Nat => PyData.int k := by
      rw [List.map_map]
      rfl
    rw [em]
    simp only [bndK_ok, wr_nxt, List.set_cons_succ, List.set_cons_zero]
    generalize hcc : (cnts C).map (fun k : Nat => PyData.int k) = cc at *
    simp [ed]
    rw [← hcc]
    refine Q2_ok hT hC h3 hd _ _ _ _ _ _ _ _ _ _ _ _ _ _ _ fun x5 h5 => ?_
    simp
    rcases id hd with ⟨rfl, hn⟩ | ⟨p, i, l, kk, rfl, r⟩
    · unfold Q3
      simp [isNone]
      have := fin x5 x7 x8 x9 x10 x11 x12 x13 x14 x15 x16 x17 h10
      simp at this
      exact this
    · refine Q3_ok hT hC r h5 _ _ _ _ _ _ _ _ _ _ _ _ _ _ _ fun x7 x8 x9 d10 x11 x12 x13 => ?_
      simp
      have := fin x5 x7 x8 x9 (.val d10) x11 x12 x13 x14 x15 x16 x17 (.inr ⟨_, rfl⟩)
      simp at this
      exact this
theorem bits_lt {z : Int} (h : Builtin.Int.intBits z ≤ 1048576) (L : Nat) (hL : 1048576 < L) : z.natAbs < 2 ^ L := by
  unfold Builtin.Int.intBits at h
  by_cases hz : z = 0
  · subst hz
    exact Nat.two_pow_pos L
  · have hz' : (z == 0) = false := beq_eq_false_iff_ne.mpr hz
    rw [hz'] at h
    have h' : z.natAbs.log2 + 1 ≤ 1048576 := h
    exact (Nat.log2_lt (by omega)).mp (by omega)
theorem law_true (ns : List Int) (hl : ns.length ≤ 63) (hb : ∀ z ∈ ns, Builtin.Int.intBits z ≤ 1048576) : fn_law [.list (ns.map .int)] = some (.ok (.bool true)) := by
  have z := z24
  obtain ⟨c, e0, hc⟩ := draw_ok ns hl
  have g : GoodS ⟨ns.map Int.natAbs, -1, 0, c⟩ := by
    refine ⟨⟨Int.le_refl _, hc, Nat.two_pow_pos _, fun x hx => ?_⟩, by rw [List.length_map]; exact hl⟩
    obtain ⟨z, hz, rfl⟩ := List.mem_map.mp hx
    exact bits_lt (hb z hz) _ (by decide)
  refine runV_of rfl ?_
  have s4 : sm62 2 = true := rfl
  have g4 : rgD 0 2 = (List.range 2).map encN := rg_range 2
  simp [sem_law, startE, e0, s4]
  rw [g4]
  refine wr_forR (QF := _) (JL (.list (ns.map .int))) (fun k x ρ hk j => step_ok _ k x ρ _ j) ⟨_, .nil, .nil, .nil, .nil, .nil, .nil, .nil, .nil, .nil, .nil, .nil, .nil, .nil, .nil, .nil, .nil, g, .inl rfl, .inl rfl, rfl⟩ ?_
  rintro ρ' ⟨s, x2, x3, x4, x5, x6, x7, x8, x9, x10, x11, x12, x13, x14, x15, x16, x17, g, h10, hk, rfl⟩
  rcases hk with hk | ⟨T, C, b, hT, hC, rfl, rfl, rfl⟩
  · simp at hk
  obtain ⟨d1, _, e1, s1, rfl, ho1, g1⟩ := odd_texts_ok s g T hT
  obtain ⟨d2, _, e2, s2, rfl, ho2, g2⟩ := odd_cut_ok s1 g1 T C hT hC
  have k1 := check_cut_ex (is_cut_ex (b := encC C) ho1)
  have k2 := check_cut_no ho2
  have t0 := told_mf (v := b) (.inl ⟨rfl, cut_ring_ex k1⟩)
  have t1 := told_mf (.inr (.inl ⟨rfl, takes_ex (v := b) k1⟩))
  have t2 := told_mf (.inr (.inr ⟨rfl, run_ex (v := b) k1⟩))
  have t3 := told_mf (v := b) (.inl ⟨rfl, cut_ring_ex k2⟩)
  have t4 := told_mf (.inr (.inl ⟨rfl, takes_ex (v := b) k2⟩))
  have t5 := told_mf (.inr (.inr ⟨rfl, run_ex (v := b) k2⟩))
  have f3 : ∀ y : PyData, repD (.list [y]) (.int 6) = some [y, y, y, y, y, y] := fun y => rfl
  have z1 : 1 ≤ sizeLine := by omega
  have em := emm6
  have s3 : sm62 3 = true := rfl
  have g3 : rgD 0 3 = [.int 0, .int 1, .int 2] := rfl
  have cc : catD (.list [mfS, mfS, mfS]) (.list [mfS, mfS, mfS]) = some [mfS, mfS, mfS, mfS, mfS, mfS] := catD_ok _ _ (by simp)
  rw [seqK_nx]
  simp [e1, e2, setsE, AI.slot, s3]
  rw [g3]
  refine wr_lcM (T := fun _ => mfS) rfl (by simp; omega) (fun x hx => ?_) ?_
  · simp only [List.mem_cons, List.not_mem_nil, or_false] at hx
    rcases hx with rfl | rfl | rfl
    · simp [gNm, wipeE, t0]
    · simp [gNm, wipeE, t1]
    · simp [gNm, wipeE, t2]
  · simp [s3]
    rw [g3]
    refine wr_lcM (T := fun _ => mfS) rfl (by simp; omega) (fun x hx => ?_) ?_
    · simp only [List.mem_cons, List.not_mem_nil, or_false] at hx
      rcases hx with rfl | rfl | rfl
      · simp [gNm, wipeE, t3]
      · simp [gNm, wipeE, t4]
      · simp [gNm, wipeE, t5]
    · simp [f3, z1, em, cc]
end K66

open PySem PySem.W PyProof.Rows
set_option maxHeartbeats 0 in
theorem PySem.Challenge.cw_schedkinds_k66_whole_right_cuts_holds : PySem.Challenge.rw_schedkinds_k66_whole_right_cuts.Holds := by
  w_on; o_law; k_head; (case hw => w_witness2)
  k_fill
  refine D3.walk_G (l := PySem.Challenge.rw_schedkinds_k66_whole_right_cuts) (n := 63) (k := 10) (x := "script") (m := K66.fn_law) rfl (by decide) rfl ⟨rfl, by decide, by decide⟩ rfl (fun w h Y => PySem.W.kIn_of Y) ?F K66.law_true
  case F =>
    intro w mg fa h KX G hmg
    refine' K66.law_ok ⟨(D3.fnD_mk KX G ?a_is_whole ?l_is_whole ?c_is_whole ?k_is_whole), (D3.fnD_mk KX G ?a_do_touch ?l_do_touch ?c_do_touch ?k_do_touch), (D3.fnD_mk KX G ?a_piece_of ?l_piece_of ?c_piece_of ?k_piece_of), (D3.fnD_mk KX G ?a__law_draw ?l__law_draw ?c__law_draw ?k__law_draw), (D3.fnD_mk KX G ?a__law_take ?l__law_take ?c__law_take ?k__law_take), (D3.fnD_mk KX G ?a__law_says ?l__law_says ?c__law_says ?k__law_says), (D3.fnD_mk KX G ?a__law_pieces ?l__law_pieces ?c__law_pieces ?k__law_pieces), (D3.fnD_mk KX G ?a__law_touch ?l__law_touch ?c__law_touch ?k__law_touch), (D3.fnD_mk KX G ?a__law_runs ?l__law_runs ?c__law_runs ?k__law_runs), (D3.fnD_mk KX G ?a__law_number ?l__law_number ?c__law_number ?k__law_number), (D3.fnD_mk KX G ?a_is_deed ?l_is_deed ?c_is_deed ?k_is_deed), (D3.fnD_mk KX G ?a_is_places ?l_is_places ?c_is_places ?k_is_places), (D3.fnD_mk KX G ?a_rows_touch ?l_rows_touch ?c_rows_touch ?k_rows_touch), (D3.fnD_mk KX G ?a_is_names ?l_is_names ?c_is_names ?k_is_names), (D3.fnD_mk KX G ?a__law_texts ?l__law_texts ?c__law_texts ?k__law_texts), (D3.fnD_mk KX G ?a__law_cut ?l__law_cut ?c__law_cut ?k__law_cut), (D3.fnD_mk KX G ?a__law_in_order ?l__law_in_order ?c__law_in_order ?k__law_in_order), (D3.fnD_mk KX G ?a__law_is_ring ?l__law_is_ring ?c__law_is_ring ?k__law_is_ring), (D3.fnD_mk KX G ?a__law_odd_texts ?l__law_odd_texts ?c__law_odd_texts ?k__law_odd_texts), (D3.fnD_mk KX G ?a__law_odd_cut ?l__law_odd_cut ?c__law_odd_cut ?k__law_odd_cut), (D3.fnD_mk KX G ?a_is_text ?l_is_text ?c_is_text ?k_is_text), (D3.fnD_mk KX G ?a_joined_to ?l_joined_to ?c_joined_to ?k_joined_to), (D3.fnD_mk KX G ?a_is_ring ?l_is_ring ?c_is_ring ?k_is_ring), (D3.fnD_mk KX G ?a_is_texts ?l_is_texts ?c_is_texts ?k_is_texts), (D3.fnD_mk KX G ?a_ring_between ?l_ring_between ?c_ring_between ?k_ring_between), (D3.fnD_mk KX G ?a_check_texts ?l_check_texts ?c_check_texts ?k_check_texts), (D3.fnD_mk KX G ?a_first_ring ?l_first_ring ?c_first_ring ?k_first_ring), (D3.fnD_mk KX G ?a_is_cut ?l_is_cut ?c_is_cut ?k_is_cut), (D3.fnD_mk KX G ?a_check_cut ?l_check_cut ?c_check_cut ?k_check_cut), (D3.fnD_mk KX G ?a__law_bent ?l__law_bent ?c__law_bent ?k__law_bent), (D3.fnD_mk KX G ?a_cut_ring ?l_cut_ring ?c_cut_ring ?k_cut_ring), (D3.fnD_mk KX G ?a_takes_cut_ring ?l_takes_cut_ring ?c_takes_cut_ring ?k_takes_cut_ring), (D3.fnD_mk KX G ?a_ring_run ?l_ring_run ?c_ring_run ?k_ring_run), (D3.fnD_mk KX G ?a__law_told ?l__law_told ?c__law_told ?k__law_told), (D3.fnD_mk KX G ?a_law ?l_law ?c_law ?k_law), (PySem.W.mg_none_of KX G ?b_abs), (PySem.W.mg_none_of KX G ?b_all), (PySem.W.mg_none_of KX G ?b_any), (PySem.W.mg_none_of KX G ?b_bool), (PySem.W.mg_none_of KX G ?b_enumerate), (PySem.W.mg_none_of KX G ?b_int), (PySem.W.mg_none_of KX G ?b_isinstance), (PySem.W.mg_none_of KX G ?b_len), (PySem.W.mg_none_of KX G ?b_list), (PySem.W.mg_none_of KX G ?b_range), (PySem.W.mg_none_of KX G ?b_repr), (PySem.W.mg_none_of KX G ?b_set), (PySem.W.mg_none_of KX G ?b_sorted), (PySem.W.mg_none_of KX G ?b_str), (PySem.W.mg_none_of KX G ?b_sum), (PySem.W.mg_none_of KX G ?b_tuple), (PySem.W.mg_none_of KX G ?b_zip), (D3.glD_int KX G ?g_MOST_PROGRAMS), (D3.glD_int KX G ?g_MOST_DEEDS), (D3.glD_int KX G ?g_MOST_VARIABLES), (D3.exD_mk KX G ?xa_Malformed ?xe_Malformed ?xk_Malformed ?xb_Malformed ?xt_Malformed ?xi_Malformed ?xs_Malformed), (D3.iniD_mk KX G ?ia_Refused ?icl_Refused ?ihbm_Refused ?isa_Refused ?iexC_Refused ?ityC_Refused ?ikC_Refused ?iini_Refused ?itI_Refused ?inoy_Refused ?iup_Refused ?isub_Refused ?imro_Refused ?ist_Refused ?isup_Refused ?insup_Refused ?ilk_Refused ?icd_Refused ?iS_Refused ?ihp_Refused ?ihar_Refused ?ihcode_Refused ?ihvs_Refused ?ihfile_Refused ?ihcell_Refused ?ihks_Refused ?ihpos_Refused ?ihbody_Refused ?iis_Refused ?iss_Refused ?iga_Refused ?igg_Refused ?ihd_Refused ?ibi_Refused), (D3.noX_mk KX G ?m0_Refused_Malformed ?m1_Refused_Malformed ?m2_Refused_Malformed ?m3_Refused_Malformed ?m4_Refused_Malformed ?m5_Refused_Malformed), ?kb_⟩ hmg
    (case a_is_whole => k_is)
    (case l_is_whole => k_is)
    (case c_is_whole => k_is)
    (case k_is_whole => k_is)
    (case a_do_touch => k_is)
    (case l_do_touch => k_is)
    (case c_do_touch => k_is)
    (case k_do_touch => k_is)
    (case a_piece_of => k_is)
    (case l_piece_of => k_is)
    (case c_piece_of => k_is)
    (case k_piece_of => k_is)
    (case a__law_draw => k_is)
    (case l__law_draw => k_is)
    (case c__law_draw => k_is)
    (case k__law_draw => k_is)
    (case a__law_take => k_is)
    (case l__law_take => k_is)
    (case c__law_take => k_is)
    (case k__law_take => k_is)
    (case a__law_says => k_is)
    (case l__law_says => k_is)
    (case c__law_says => k_is)
    (case k__law_says => k_is)
    (case a__law_pieces => k_is)
    (case l__law_pieces => k_is)
    (case c__law_pieces => k_is)
    (case k__law_pieces => k_is)
    (case a__law_touch => k_is)
    (case l__law_touch => k_is)
    (case c__law_touch => k_is)
    (case k__law_touch => k_is)
    (case a__law_runs => k_is)
    (case l__law_runs => k_is)
    (case c__law_runs => k_is)
    (case k__law_runs => k_is)
    (case a__law_number => k_is)
    (case l__law_number => k_is)
    (case c__law_number => k_is)
    (case k__law_number => k_is)
    (case a_is_deed => k_is)
    (case l_is_deed => k_is)
    (case c_is_deed => k_is)
    (case k_is_deed => k_is)
    (case a_is_places => k_is)
    (case l_is_places => k_is)
    (case c_is_places => k_is)
    (case k_is_places => k_is)
    (case a_rows_touch => k_is)
    (case l_rows_touch => k_is)
    (case c_rows_touch => k_is)
    (case k_rows_touch => k_is)
    (case a_is_names => k_is)
    (case l_is_names => k_is)
    (case c_is_names => k_is)
    (case k_is_names => k_is)
    (case a__law_texts => k_is)
    (case l__law_texts => k_is)
    (case c__law_texts => k_is)
    (case k__law_texts => k_is)
    (case a__law_cut => k_is)
    (case l__law_cut => k_is)
    (case c__law_cut => k_is)
    (case k__law_cut => k_is)
    (case a__law_in_order => k_is)
    (case l__law_in_order => k_is)
    (case c__law_in_order => k_is)
    (case k__law_in_order => k_is)
    (case a__law_is_ring => k_is)
    (case l__law_is_ring => k_is)
    (case c__law_is_ring => k_is)
    (case k__law_is_ring => k_is)
    (case a__law_odd_texts => k_is)
    (case l__law_odd_texts => k_is)
    (case c__law_odd_texts => k_is)
    (case k__law_odd_texts => k_is)
    (case a__law_odd_cut => k_is)
    (case l__law_odd_cut => k_is)
    (case c__law_odd_cut => k_is)
    (case k__law_odd_cut => k_is)
    (case a_is_text => k_is)
    (case l_is_text => k_is)
    (case c_is_text => k_is)
    (case k_is_text => k_is)
    (case a_joined_to => k_is)
    (case l_joined_to => k_is)
    (case c_joined_to => k_is)
    (case k_joined_to => k_is)
    (case a_is_ring => k_is)
    (case l_is_ring => k_is)
    (case c_is_ring => k_is)
    (case k_is_ring => k_is)
    (case a_is_texts => k_is)
    (case l_is_texts => k_is)
    (case c_is_texts => k_is)
    (case k_is_texts => k_is)
    (case a_ring_between => k_is)
    (case l_ring_between => k_is)
    (case c_ring_between => k_is)
    (case k_ring_between => k_is)
    (case a_check_texts => k_is)
    (case l_check_texts => k_is)
    (case c_check_texts => k_is)
    (case k_check_texts => k_is)
    (case a_first_ring => k_is)
    (case l_first_ring => k_is)
    (case c_first_ring => k_is)
    (case k_first_ring => k_is)
    (case a_is_cut => k_is)
    (case l_is_cut => k_is)
    (case c_is_cut => k_is)
    (case k_is_cut => k_is)
    (case a_check_cut => k_is)
    (case l_check_cut => k_is)
    (case c_check_cut => k_is)
    (case k_check_cut => k_is)
    (case a__law_bent => k_is)
    (case l__law_bent => k_is)
    (case c__law_bent => k_is)
    (case k__law_bent => k_is)
    (case a_cut_ring => k_is)
    (case l_cut_ring => k_is)
    (case c_cut_ring => k_is)
    (case k_cut_ring => k_is)
    (case a_takes_cut_ring => k_is)
    (case l_takes_cut_ring => k_is)
    (case c_takes_cut_ring => k_is)
    (case k_takes_cut_ring => k_is)
    (case a_ring_run => k_is)
    (case l_ring_run => k_is)
    (case c_ring_run => k_is)
    (case k_ring_run => k_is)
    (case a__law_told => k_is)
    (case l__law_told => k_is)
    (case c__law_told => k_is)
    (case k__law_told => k_is)
    (case a_law => k_is)
    (case l_law => k_is)
    (case c_law => k_is)
    (case k_law => k_is)
    (case b_abs => k_is)
    (case b_all => k_is)
    (case b_any => k_is)
    (case b_bool => k_is)
    (case b_enumerate => k_is)
    (case b_int => k_is)
    (case b_isinstance => k_is)
    (case b_len => k_is)
    (case b_list => k_is)
    (case b_range => k_is)
    (case b_repr => k_is)
    (case b_set => k_is)
    (case b_sorted => k_is)
    (case b_str => k_is)
    (case b_sum => k_is)
    (case b_tuple => k_is)
    (case b_zip => k_is)
    (case g_MOST_PROGRAMS => k_is)
    (case g_MOST_DEEDS => k_is)
    (case g_MOST_VARIABLES => k_is)
    (case xa_Malformed => k_is)
    (case xe_Malformed => k_exc)
    (case xk_Malformed => k_is)
    (case xb_Malformed => k_is)
    (case xt_Malformed => k_is)
    (case xi_Malformed => k_is)
    (case xs_Malformed => first | rfl | k_is)
    (case ia_Refused => k_is)
    (case icl_Refused => k_is)
    (case ihbm_Refused => decide)
    (case isa_Refused => k_is)
    (case iexC_Refused => k_is)
    (case ityC_Refused => k_is)
    (case ikC_Refused => k_is)
    (case iini_Refused => k_is)
    (case itI_Refused => k_is)
    (case inoy_Refused => k_is)
    (case iup_Refused => ks_is)
    (case isub_Refused => k_is)
    (case imro_Refused => k_is)
    (case ist_Refused => k_is)
    (case isup_Refused => k_is)
    (case insup_Refused => rfl)
    (case ilk_Refused => k_is)
    (case icd_Refused => k_is)
    (case iS_Refused => decide +kernel)
    (case ihp_Refused => rfl)
    (case ihar_Refused => rfl)
    (case ihcode_Refused => k_is)
    (case ihvs_Refused => rfl)
    (case ihfile_Refused => decide +kernel)
    (case ihcell_Refused => k_is)
    (case ihks_Refused => rfl)
    (case ihbody_Refused => rfl)
    (case iis_Refused => k_is)
    (case iss_Refused => first | rfl | k_is)
    (case iga_Refused => k_is)
    (case igg_Refused => k_is)
    (case ihd_Refused => k_is)
    (case ibi_Refused => (intro us hl; match us, hl with | [_, _], _ => rfl))
    (case ihpos_Refused => rfl)
    (case m0_Refused_Malformed => k_is)
    (case m1_Refused_Malformed => k_is)
    (case m2_Refused_Malformed => k_is)
    (case m3_Refused_Malformed => k_is)
    (case m4_Refused_Malformed => k_is)
    (case m5_Refused_Malformed => k_is)
    (case kb_ => first | rfl | decide +kernel | k_is)
