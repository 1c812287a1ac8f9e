import PyProof.Rows.All
import Wide.All
import OpenK.AllK
import Wide.FinOn
import HandS.ForMost
import HandS.IsInst
import HandS.Gcd
import HandS.Wide
import HandS.TupMul
import HandS.TupAny
import HandS.Zip
import HandS.TupSets
import HandS.Style
import HandS.Defaults
import HandS.Conv
import KE.GoesNew
import KE.GoesMore
import KE.SortData
import HandS.Ends
import HandS.Head0
import HandS.Head1
import HandS.Head2
import HandS.HeadEnd
import HandS.HeadHook1
import HandS.HeadHook2
import KE.HD3
import PySem.Challenge.RW_safehelms_k06_whole_bounds_by_own_taking
section
set_option Elab.async false
set_option linter.all false
set_option maxRecDepth 100000
set_option maxHeartbeats 4000000
/-! A layer over HandS: what code does, said of data alone. -/
namespace W6
open PySem PySem.Spec PyProof.Rows L2

/-! ### what a slot holds -/
/-- nothing known; data; the well (a list of three ints that calls may change); a list of this def's own that grows; a list that is read -/
inductive Sl where
  | no
  | dat (d : PyData)
  | well
  | own (ds : List PyData)
  | rd (ds : List PyData)
  | ty (n : String)
  | scr (ns : List Int)

def wo (M : List Addr) (H : Hp) : Hp := fun a => if a ∈ M then none else H a
def mt (O : Option Addr) (M : List Addr) : List Addr := match O with
  | none => M
  | some a => a :: M

theorem wo_some {M : List Addr} {H : Hp} {a : Addr} {o : HO} (h : wo M H a = some o) : a ∉ M ∧ H a = some o := by
  unfold wo at h
  split at h
  · cases h
  · exact ⟨by assumption, h⟩
theorem wo_of {M : List Addr} {H : Hp} {a : Addr} {o : HO} (n : a ∉ M) (h : H a = some o) : wo M H a = some o := by
  unfold wo
  rw [if_neg n]
  exact h
theorem wo_sub (M : List Addr) (H : Hp) : Same (wo M H) H := fun a o h => (wo_some h).2
theorem wo_mono {M : List Addr} {H H' : Hp} (e : ∀ a o, a ∉ M → H a = some o → H' a = some o) : Same (wo M H) (wo M H') := fun a o h =>
  wo_of (wo_some h).1 (e a o (wo_some h).1 (wo_some h).2)
theorem mem_mt {O : Option Addr} {M : List Addr} {a : Addr} (h : a ∈ M) : a ∈ mt O M := by
  cases O with
  | none => exact h
  | some b => exact List.mem_cons_of_mem _ h

/-! ### data: the lists are tracked ones -/
mutual
inductive Dq (K : PySem.W.Frag) (H : Hp) : V → PyData → Prop
  | non : Dq K H .non .none
  | bl (b : Bool) : Dq K H (.bl b) (.bool b)
  | int (i : Int) : Dq K H (.int i) (.int i)
  | str (x : Str) : Dq K H (.str x) (.str x)
  | lst {a : Addr} {xs : List V} {ds : List PyData} (h : H a = some (.lst xs)) (hs : DqAll K H xs ds) : Dq K H (.ref a) (.list ds)
  | tup {a : Addr} {xs : List V} {ds : List PyData} (h : SqT K H a xs) (hs : DqAll K H xs ds) : Dq K H (.ref a) (.tuple ds)
inductive DqAll (K : PySem.W.Frag) (H : Hp) : List V → List PyData → Prop
  | nil : DqAll K H [] []
  | cons {v : V} {vs : List V} {d : PyData} {ds : List PyData} (h : Dq K H v d) (hs : DqAll K H vs ds) : DqAll K H (v :: vs) (d :: ds)
end
mutual
theorem Dq.dp {K : PySem.W.Frag} {H : Hp} : ∀ (d : PyData) (v : V), Dq K H v d → Dp K H v d
  | .none, _, h => by cases h; exact .non
  | .bool b, _, h => by cases h; exact .bl b
  | .int i, _, h => by cases h; exact .int i
  | .str x, _, h => by cases h; exact .str x
  | .list ds, _, h => by
    cases h with
    | lst hs ha => exact .lst (SqL.of hs) (DqAll.dp ds _ ha)
  | .tuple ds, _, h => by
    cases h with
    | tup hs ha => exact .tup hs (DqAll.dp ds _ ha)
  | .dict _, _, h => by cases h
theorem DqAll.dp {K : PySem.W.Frag} {H : Hp} : ∀ (ds : List PyData) (vs : List V), DqAll K H vs ds → DpAll K H vs ds
  | [], _, h => by cases h; exact .nil
  | d :: ds, _, h => by
    cases h with
    | cons h1 h2 => exact .cons (Dq.dp d _ h1) (DqAll.dp ds _ h2)
end

theorem seqT {K : PySem.W.Frag} {H H' : Hp} {a : Addr} {xs : List V} (e : Same H H') (h : SqT K H a xs) : SqT K H' a xs := by
  rcases h with (h | ⟨o, h⟩) | h
  · exact .inl (.inl (e _ _ h))
  · exact .inl (.inr ⟨o, e _ _ h⟩)
  · exact .inr h

mutual
theorem dp_mono {K : PySem.W.Frag} {H H' : Hp} (e : Same H H') : ∀ (d : PyData) (v : V), Dq K H v d → Dq K H' v d
  | .none, _, h => by cases h; exact .non
  | .bool b, _, h => by cases h; exact .bl b
  | .int i, _, h => by cases h; exact .int i
  | .str x, _, h => by cases h; exact .str x
  | .list ds, _, h => by
    cases h with
    | lst hs ha => exact .lst (e _ _ hs) (dps_mono e ds _ ha)
  | .tuple ds, _, h => by
    cases h with
    | tup hs ha => exact .tup (seqT e hs) (dps_mono e ds _ ha)
  | .dict _, _, h => by cases h
theorem dps_mono {K : PySem.W.Frag} {H H' : Hp} (e : Same H H') : ∀ (ds : List PyData) (vs : List V), DqAll K H vs ds → DqAll K H' vs ds
  | [], _, h => by cases h; exact .nil
  | d :: ds, _, h => by
    cases h with
    | cons h1 h2 => exact .cons (dp_mono e d _ h1) (dps_mono e ds _ h2)
end
theorem dps_len {K : PySem.W.Frag} {H : Hp} : ∀ {ds : List PyData} {vs : List V}, DqAll K H vs ds → vs.length = ds.length
  | [], _, h => by cases h; rfl
  | d :: ds, _, h => by
    cases h with
    | cons h1 h2 => rw [List.length_cons, List.length_cons, dps_len h2]
theorem dps_get {K : PySem.W.Frag} {H : Hp} : ∀ {ds : List PyData} {vs : List V} {i : Nat} {d : PyData}, DqAll K H vs ds → ds[i]? = some d → ∃ v, vs[i]? = some v ∧ Dq K H v d
  | [], _, _, _, h, e => by simp at e
  | d :: ds, _, 0, _, h, e => by
    cases h with
    | cons h1 h2 => simp at e; subst e; exact ⟨_, rfl, h1⟩
  | d :: ds, _, i + 1, _, h, e => by
    cases h with
    | cons h1 h2 =>
      obtain ⟨v, a, b⟩ := dps_get (i := i) h2 (by simpa using e)
      exact ⟨v, by simpa using a, b⟩
theorem dps_get' {K : PySem.W.Frag} {H : Hp} {ds : List PyData} {vs : List V} {i : Nat} {v : V} (h : DqAll K H vs ds) (e : vs[i]? = some v) : ∃ d, ds[i]? = some d ∧ Dq K H v d := by
  have hl : i < ds.length := by
    rw [← dps_len h]
    exact (List.getElem?_eq_some_iff.mp e).1
  obtain ⟨w, a, b⟩ := dps_get h (List.getElem?_eq_getElem hl)
  rw [e] at a
  cases a
  exact ⟨_, List.getElem?_eq_getElem hl, b⟩
theorem dps_app {K : PySem.W.Frag} {H : Hp} : ∀ {ds es : List PyData} {vs ws : List V}, DqAll K H vs ds → DqAll K H ws es → DqAll K H (vs ++ ws) (ds ++ es)
  | [], _, _, _, h, g => by cases h; exact g
  | d :: ds, _, _, _, h, g => by
    cases h with
    | cons h1 h2 => exact .cons h1 (dps_app h2 g)
theorem dps_set {K : PySem.W.Frag} {H : Hp} {d : PyData} {v : V} (hd : Dq K H v d) : ∀ {ds : List PyData} {vs : List V} (i : Nat), DqAll K H vs ds → DqAll K H (vs.set i v) (ds.set i d)
  | [], _, _, h => by cases h; exact .nil
  | _ :: _, _, 0, h => by
    cases h with
    | cons h1 h2 => exact .cons hd h2
  | _ :: _, _, i + 1, h => by
    cases h with
    | cons h1 h2 => exact .cons h1 (dps_set hd i h2)
theorem dps_take {K : PySem.W.Frag} {H : Hp} : ∀ {ds : List PyData} {vs : List V} (n : Nat), DqAll K H vs ds → DqAll K H (vs.take n) (ds.take n)
  | _, _, 0, _ => .nil
  | [], _, n + 1, h => by cases h; exact .nil
  | _ :: _, _, n + 1, h => by
    cases h with
    | cons h1 h2 => exact .cons h1 (dps_take n h2)
theorem dps_drop {K : PySem.W.Frag} {H : Hp} : ∀ {ds : List PyData} {vs : List V} (n : Nat), DqAll K H vs ds → DqAll K H (vs.drop n) (ds.drop n)
  | _, _, 0, h => h
  | [], _, n + 1, h => by cases h; exact .nil
  | _ :: _, _, n + 1, h => by
    cases h with
    | cons h1 h2 => exact dps_drop n h2
theorem dps_rep {K : PySem.W.Frag} {H : Hp} {ds : List PyData} {vs : List V} (h : DqAll K H vs ds) : ∀ n, DqAll K H (List.replicate n vs).flatten (List.replicate n ds).flatten
  | 0 => .nil
  | n + 1 => by
    rw [List.replicate_succ, List.replicate_succ, List.flatten_cons, List.flatten_cons]
    exact dps_app h (dps_rep h n)

/-! ### the state -/
structure Stt (W M : List Addr) (O : Option Addr) (H : Hp) : Prop where
  sub : ∀ a ∈ W, a ∈ M
  wl : ∀ a ∈ W, ∃ x y z : Int, H a = some (.lst [.int x, .int y, .int z])
  dom : ∀ a ∈ M, H a ≠ none
  own : ∀ a, O = some a → a ∉ M ∧ H a ≠ none
/-- all but the wells stays -/
def Ext (W : List Addr) (H H' : Hp) : Prop := ∀ a o, a ∉ W → H a = some o → H' a = some o
/-- all but the wells and the own list stays -/
def ExtO (W : List Addr) (O : Option Addr) (H H' : Hp) : Prop := ∀ a o, a ∉ W → O ≠ some a → H a = some o → H' a = some o
theorem Ext.refl (W : List Addr) (H : Hp) : Ext W H H := fun _ _ _ h => h
theorem Ext.trans {W : List Addr} {H H1 H2 : Hp} (a : Ext W H H1) (b : Ext W H1 H2) : Ext W H H2 := fun x o n h => b x o n (a x o n h)
theorem Ext.of {W : List Addr} {H H' : Hp} (e : Same H H') : Ext W H H' := fun a o _ h => e a o h
theorem ExtO.refl (W : List Addr) (O : Option Addr) (H : Hp) : ExtO W O H H := fun _ _ _ _ h => h
theorem ExtO.trans {W : List Addr} {O : Option Addr} {H H1 H2 : Hp} (a : ExtO W O H H1) (b : ExtO W O H1 H2) : ExtO W O H H2 := fun x o n m h => b x o n m (a x o n m h)
theorem Ext.o {W : List Addr} {H H' : Hp} (e : Ext W H H') (O : Option Addr) : ExtO W O H H' := fun a o n _ h => e a o n h
theorem ExtO.none {W : List Addr} {H H' : Hp} (e : ExtO W none H H') : Ext W H H' := fun a o n h => e a o n (fun z => nomatch z) h
theorem same_new {H : Hp} {p : Addr} {o : HO} (h : H p = none) : Same H (upd H p o) := fun b x e => by
  rw [upd_ne (ne_of_none e h)]
  exact e
theorem Stt.nw {W M : List Addr} {O : Option Addr} {H : Hp} (st : Stt W M O H) {a : Addr} (h : O = some a) : a ∉ W := fun z => (st.own a h).1 (st.sub a z)
theorem Stt.same {W M : List Addr} {O : Option Addr} {H H' : Hp} (st : Stt W M O H) (e : Same H H') : Stt W M O H' := by
  have ne : ∀ a, H a ≠ none → H' a ≠ none := fun a h => by
    cases q : H a with
    | none => exact absurd q h
    | some o =>
      rw [e a o q]
      intro z
      cases z
  refine ⟨st.sub, fun a ha => ?_, fun a ha => ne a (st.dom a ha), fun a ha => ⟨(st.own a ha).1, ne a (st.own a ha).2⟩⟩
  obtain ⟨x, y, z, h⟩ := st.wl a ha
  exact ⟨x, y, z, e a _ h⟩
theorem Stt.wo {W M : List Addr} {O : Option Addr} {H H' : Hp} (st : Stt W M O H) (e : ExtO W O H H') : Same (wo (mt O M) H) (W6.wo (mt O M) H') :=
  wo_mono fun a o n h => e a o (fun z => n (mem_mt (st.sub a z))) (fun z => n (by rw [z]; exact List.mem_cons_self)) h
theorem wo_own {M : List Addr} {H : Hp} {a : Addr} {o : HO} : Same (wo (a :: M) H) (wo (a :: M) (upd H a o)) := fun b u h => by
  obtain ⟨n, h⟩ := wo_some h
  refine wo_of n ?_
  rw [upd_ne (fun z => n (by rw [z]; exact List.mem_cons_self))]
  exact h

def SlOk (K : PySem.W.Frag) (W M : List Addr) (O : Option Addr) (H : Hp) (v : V) : Sl → Prop
  | .no => False
  | .dat d => Dq K (wo (mt O M) H) v d
  | .well => ∃ a, a ∈ W ∧ v = .ref a
  | .own ds => ∃ a vs, v = .ref a ∧ O = some a ∧ H a = some (.lst vs) ∧ DqAll K (wo (mt O M) H) vs ds
  | .rd ds => ∃ a vs, v = .ref a ∧ a ∉ W ∧ O ≠ some a ∧ H a = some (.lst vs) ∧ DqAll K (wo (mt O M) H) vs ds
  | .ty n => v = .ty n
  | .scr ns => ∃ a, v = .ref a ∧ SqL K (wo (mt O M) H) a (ns.map V.int)
theorem SlOk.mono {K : PySem.W.Frag} {W M : List Addr} {O : Option Addr} {H H' : Hp} {v : V} {s : Sl} (st : Stt W M O H) (e : Ext W H H') (h : SlOk K W M O H v s) : SlOk K W M O H' v s := by
  cases s with
  | no => exact h
  | dat d => exact dp_mono (st.wo (e.o O)) d v h
  | well => exact h
  | own ds =>
    obtain ⟨a, vs, h1, h2, h3, h4⟩ := h
    exact ⟨a, vs, h1, h2, e a _ (st.nw h2) h3, dps_mono (st.wo (e.o O)) ds vs h4⟩
  | rd ds =>
    obtain ⟨a, vs, h1, h2, h3, h4, h5⟩ := h
    exact ⟨a, vs, h1, h2, h3, e a _ h2 h4, dps_mono (st.wo (e.o O)) ds vs h5⟩
  | ty n => exact h
  | scr ns =>
    obtain ⟨a, h1, h2⟩ := h
    exact ⟨a, h1, (st.wo (e.o O)).seq h2⟩
/-- what may be looked at as data -/
def asD : Sl → Option PyData
  | .dat d => some d
  | .own ds => some (.list ds)
  | .rd ds => some (.list ds)
  | _ => none
theorem SlOk.full {K : PySem.W.Frag} {W M : List Addr} {O : Option Addr} {H : Hp} {v : V} {s : Sl} {d : PyData} (h : SlOk K W M O H v s) (e : asD s = some d) : Dq K H v d := by
  cases s with
  | no => cases e
  | dat d' =>
    cases e
    exact dp_mono (wo_sub _ _) d v h
  | well => cases e
  | own ds =>
    cases e
    obtain ⟨a, vs, rfl, h2, h3, h4⟩ := h
    exact .lst h3 (dps_mono (wo_sub _ _) ds vs h4)
  | rd ds =>
    cases e
    obtain ⟨a, vs, rfl, h1, h2, h3, h4⟩ := h
    exact .lst h3 (dps_mono (wo_sub _ _) ds vs h4)
  | ty n => cases e
  | scr ns => cases e

structure EnvOk (K : PySem.W.Frag) (W M : List Addr) (O : Option Addr) (H : Hp) (σ : L2.St) (ρ : List Sl) : Prop where
  len : σ.length = ρ.length
  at' : ∀ (i : Nat) (s : Sl), ρ[i]? = some s → s ≠ .no → ∃ v, σ[i]? = some (some v) ∧ SlOk K W M O H v s
theorem EnvOk.mono {K : PySem.W.Frag} {W M : List Addr} {O : Option Addr} {H H' : Hp} {σ : L2.St} {ρ : List Sl} (h : EnvOk K W M O H σ ρ) (st : Stt W M O H) (e : Ext W H H') : EnvOk K W M O H' σ ρ :=
  ⟨h.len, fun i s a b => let ⟨v, c, d⟩ := h.at' i s a b; ⟨v, c, d.mono st e⟩⟩
theorem EnvOk.set {K : PySem.W.Frag} {W M : List Addr} {O : Option Addr} {H : Hp} {σ : L2.St} {ρ : List Sl} (h : EnvOk K W M O H σ ρ) {v : V} {s : Sl} (i : Nat) (hs : SlOk K W M O H v s) : EnvOk K W M O H (σ.set i (some v)) (ρ.set i s) := by
  refine ⟨by rw [List.length_set, List.length_set, h.len], fun j t a b => ?_⟩
  by_cases e : i = j
  · subst e
    have hl : i < ρ.length := by
      have := (List.getElem?_eq_some_iff.mp a).1
      rw [List.length_set] at this
      exact this
    rw [List.getElem?_set_self hl] at a
    cases a
    exact ⟨v, List.getElem?_set_self (by rw [h.len]; exact hl), hs⟩
  · rw [List.getElem?_set_ne e] at a
    rw [List.getElem?_set_ne e]
    exact h.at' j t a b
/-- slots forgotten -/
def wip (ρ : List Sl) : List Nat → List Sl
  | [] => ρ
  | v :: vs => (wip ρ vs).set v .no
theorem EnvOk.wipe {K : PySem.W.Frag} {W M : List Addr} {O : Option Addr} {H : Hp} {σ : L2.St} {ρ : List Sl} (h : EnvOk K W M O H σ ρ) : ∀ vs, EnvOk K W M O H (wipe σ vs) (wip ρ vs)
  | [] => h
  | v :: vs => by
    have ih := EnvOk.wipe h vs
    refine ⟨?_, fun j t a b => ?_⟩
    · show ((L2.wipe σ vs).set v none).length = ((wip ρ vs).set v .no).length
      rw [List.length_set, List.length_set, ih.len]
    · have a : ((wip ρ vs).set v .no)[j]? = some t := a
      show ∃ w, ((L2.wipe σ vs).set v none)[j]? = some (some w) ∧ _
      by_cases e : v = j
      · subst e
        have hl : v < (wip ρ vs).length := by
          have := (List.getElem?_eq_some_iff.mp a).1
          rw [List.length_set] at this
          exact this
        rw [List.getElem?_set_self hl] at a
        cases a
        exact absurd rfl b
      · rw [List.getElem?_set_ne e] at a
        rw [List.getElem?_set_ne e]
        exact ih.at' j t a b

/-- more is kept off -/
theorem wo_more {W M L : List Addr} {O : Option Addr} {H H' : Hp} (st : Stt W M O H) (e : ExtO W O H H') (hL : ∀ a ∈ L, H a = none) : Same (wo (mt O M) H) (wo (mt O (L ++ M)) H') := fun a o h => by
  obtain ⟨n, h⟩ := wo_some h
  refine wo_of (fun z => ?_) (e a o (fun z => n (mem_mt (st.sub a z))) (fun z => n (by rw [z]; exact List.mem_cons_self)) h)
  have nl : a ∉ L := fun z => by
    rw [hL a z] at h
    cases h
  cases O with
  | none =>
    rcases List.mem_append.mp z with z | z
    · exact nl z
    · exact n z
  | some b =>
    rcases List.mem_cons.mp z with z | z
    · exact n (by rw [z]; exact List.mem_cons_self)
    · rcases List.mem_append.mp z with z | z
      · exact nl z
      · exact n (List.mem_cons_of_mem _ z)
theorem SlOk.more {K : PySem.W.Frag} {W M L : List Addr} {O : Option Addr} {H H' : Hp} {v : V} {s : Sl} (st : Stt W M O H) (e : Ext W H H') (hL : ∀ a ∈ L, H a = none) (h : SlOk K W M O H v s) : SlOk K W (L ++ M) O H' v s := by
  have k := wo_more st (e.o O) hL
  cases s with
  | no => exact h
  | dat d => exact dp_mono k d v h
  | well => exact h
  | own ds =>
    obtain ⟨a, vs, h1, h2, h3, h4⟩ := h
    exact ⟨a, vs, h1, h2, e a _ (st.nw h2) h3, dps_mono k ds vs h4⟩
  | rd ds =>
    obtain ⟨a, vs, h1, h2, h3, h4, h5⟩ := h
    exact ⟨a, vs, h1, h2, h3, e a _ h2 h4, dps_mono k ds vs h5⟩
  | ty n => exact h
  | scr ns =>
    obtain ⟨a, h1, h2⟩ := h
    exact ⟨a, h1, k.seq h2⟩
theorem EnvOk.more {K : PySem.W.Frag} {W M L : List Addr} {O : Option Addr} {H H' : Hp} {σ : L2.St} {ρ : List Sl} (h : EnvOk K W M O H σ ρ) (st : Stt W M O H) (e : Ext W H H') (hL : ∀ a ∈ L, H a = none) : EnvOk K W (L ++ M) O H' σ ρ :=
  ⟨h.len, fun i s a b => let ⟨v, c, d⟩ := h.at' i s a b; ⟨v, c, d.more st e hL⟩⟩

/-! ### where one stands -/
structure En where
  P : Program
  w : World
  K : PySem.W.Frag
  mg : Str → Option Value
  base : Heap
structure Ctx where
  N : List Str
  sc : Scope
  df : Bool
  k : Nat
  q : Around → Prop
structure Good (E : En) (Γ : Ctx) (X : Cx) : Prop where
  prog : X.prog = E.P
  w : X.w = E.w
  K : X.K = E.K
  mg : X.mg = E.mg
  base : X.base = E.base
  N : X.N = Γ.N
  sc : X.env.scope = Γ.sc
  calm : X.calm = true
  room : Room Γ.k X.A
  xe : X.xe = fun _ _ => False
  fn : Γ.df = true → ∀ x, X.fn x = true
  q : Γ.q X.A
theorem Good.pass {E : En} {Γ : Ctx} {X : Cx} (g : Good E Γ X) : PassesOwn (model X.prog X.w) X.A X.env X.xe := by
  rw [g.xe]
  exact PassesOwn.never
theorem Good.fnok {E : En} {Γ : Ctx} {X : Cx} (g : Good E Γ X) {CX : CXT} {k : Nat} {f : Addr} {fd : FuncData} {ps : List Str} {sp : Sp} (F : FnOk E.P E.w E.K E.mg E.base CX k f fd ps sp) : FnOk X.prog X.w X.K X.mg X.base CX k f fd ps sp := by
  rw [g.prog, g.w, g.K, g.mg, g.base]
  exact F

/-! ### the semantic readings -/
def seE (X : Cx) (e : Expr) : TE := fun σ H Q => ∀ pins s, Inv X pins σ H s → wpAny (model X.prog X.w) X.A (eval e X.env) (EP X pins σ Q) X.xe s
theorem pe_se {X : Cx} {e : Expr} : PE X e (seE X e) := ⟨fun pins s _ _ _ I h => h pins s I⟩
def seT (X : Cx) (e : Expr) : TT := fun σ H Q => ∀ pins s, Inv X pins σ H s → wpAny (model X.prog X.w) X.A (isTrue e X.env (eval e X.env)) (TP X pins σ Q) X.xe s
theorem pt_se {X : Cx} {e : Expr} : PT X e (seT X e) := ⟨fun pins s _ _ _ I h => h pins s I⟩
def seW (X : Cx) (e : Expr) : TT := fun σ H Q => ∀ (whole : Sem Value) pins s, Inv X pins σ H s → wpAny (model X.prog X.w) X.A (isTrue e X.env whole) (TP X pins σ Q) X.xe s
theorem pw_se {X : Cx} {e : Expr} : PW X e (seW X e) := ⟨fun whole pins s _ _ _ I h => h whole pins s I⟩
def seA (X : Cx) (es : List Expr) : TA := fun σ H Q => ∀ pos pins s, Inv X pins σ H s → wpAny (model X.prog X.w) X.A (spliced (backTo pos (starEach es X.env))) (AP X pins σ Q) X.xe s
theorem pa_se {X : Cx} {es : List Expr} : PA X es (seA X es) := ⟨fun pos pins s _ _ _ I h => h pos pins s I⟩
def seS (X : Cx) (st : Stmt) : TS := fun D σ H => ∀ pins s, Inv X pins σ H s → wpAny (model X.prog X.w) X.A (exec st X.env) (SP X pins D) X.xe s
theorem ps_se {X : Cx} {st : Stmt} : PS X st (seS X st) := ⟨fun pins s _ _ _ I h => h pins s I⟩
def seSs (X : Cx) (sts : List Stmt) : TS := fun D σ H => ∀ pins s, Inv X pins σ H s → wpAny (model X.prog X.w) X.A (execs sts X.env) (SP X pins D) X.xe s
theorem pss_se {X : Cx} {sts : List Stmt} : PSs X sts (seSs X sts) := ⟨fun pins s _ _ _ I h => h pins s I⟩
def seG (X : Cx) (tg : Expr) : TG := fun v σ H Q => ∀ pins s u, Inv X pins σ H s → RelV v u → wpAny (model X.prog X.w) X.A (assign tg X.env u) (fun _ s' => ∃ σ' H', Inv X pins σ' H' s' ∧ Q σ' H') X.xe s
theorem pg_se {X : Cx} {tg : Expr} : PG X tg (seG X tg) := ⟨fun pins s _ _ _ u _ I r h => h pins s u I r⟩
def seGs (X : Cx) (ts : List Expr) : TGs := fun vs σ H Q => ∀ pins s us, Inv X pins σ H s → Vals vs us → wpAny (model X.prog X.w) X.A (assignInOrder ((assignEach ts X.env).map (·.2)) us) (fun _ s' => ∃ σ' H', Inv X pins σ' H' s' ∧ Q σ' H') X.xe s
theorem pgs_se {X : Cx} {ts : List Expr} : PGs X ts (seGs X ts) := ⟨fun pins s _ _ _ us _ I r h => h pins s us I r⟩
def seI (X : Cx) (tg iter : Expr) : TI := fun σ H R => ∀ pins s, Inv X pins σ H s → wpAny (model X.prog X.w) X.A (eval iter X.env) (fun v s1 => wpAny (model X.prog X.w) X.A (pyIter v) (PIE X pins σ tg R) X.xe s1) X.xe s
theorem pi_se {X : Cx} {tg iter : Expr} : PI X tg iter (seI X tg iter) := ⟨fun pins s _ _ _ I h => h pins s I⟩
def seO (X : Cx) (f : Value → Value → Sem Value) : R2 := fun x y H Q => ∀ pins s σ v u, Inv X pins σ H s → RelV x v → RelV y u → wpAny (model X.prog X.w) X.A (f v u) (EP X pins σ Q) X.xe s
theorem op_se {X : Cx} {f : Value → Value → Sem Value} : OpR X f (seO X f) := fun pins s σ _ _ _ v u _ I rx ry h => h pins s σ v u I rx ry

/-! ### the judgements -/
def PV (K : PySem.W.Frag) (W M : List Addr) (O : Option Addr) (H : Hp) (P : Sl → Prop) (Q : VK) : Prop :=
  ∀ v s H2, Ext W H H2 → Stt W M O H2 → SlOk K W M O H2 v s → P s → Q v H2
def JE (E : En) (Γ : Ctx) (ρ : List Sl) (e : Expr) (P : Sl → Prop) : Prop :=
  ∀ X, Good E Γ X → ∀ W M O σ H, Stt W M O H → EnvOk X.K W M O H σ ρ → ∀ Q, PV X.K W M O H P Q → seE X e σ H Q
def JT (E : En) (Γ : Ctx) (ρ : List Sl) (e : Expr) (P : Bool → Prop) : Prop :=
  ∀ X, Good E Γ X → ∀ W M O σ H, Stt W M O H → EnvOk X.K W M O H σ ρ → ∀ Q : Bool → Hp → Prop, (∀ b H2, Ext W H H2 → Stt W M O H2 → P b → Q b H2) → seT X e σ H Q
def JW (E : En) (Γ : Ctx) (ρ : List Sl) (e : Expr) (P : Bool → Prop) : Prop :=
  ∀ X, Good E Γ X → ∀ W M O σ H, Stt W M O H → EnvOk X.K W M O H σ ρ → ∀ Q : Bool → Hp → Prop, (∀ b H2, Ext W H H2 → Stt W M O H2 → P b → Q b H2) → seW X e σ H Q
/-- values one by one -/
def SlsOk (K : PySem.W.Frag) (W M : List Addr) (O : Option Addr) (H : Hp) : List V → List Sl → Prop := Paired fun v s => SlOk K W M O H v s
theorem SlsOk.mono {K : PySem.W.Frag} {W M : List Addr} {O : Option Addr} {H H' : Hp} {vs : List V} {ss : List Sl} (st : Stt W M O H) (e : Ext W H H') (h : SlsOk K W M O H vs ss) : SlsOk K W M O H' vs ss :=
  Paired.mapP h fun _ _ q => q.mono st e
def JA (E : En) (Γ : Ctx) (ρ : List Sl) (es : List Expr) (P : List Sl → Prop) : Prop :=
  ∀ X, Good E Γ X → ∀ W M O σ H, Stt W M O H → EnvOk X.K W M O H σ ρ → ∀ Q : List V → Hp → Prop, (∀ vs ss H2, Ext W H H2 → Stt W M O H2 → SlsOk X.K W M O H2 vs ss → P ss → Q vs H2) → seA X es σ H Q
/-- a two-place operation on what was evaluated -/
def JO (E : En) (Γ : Ctx) (f : Value → Value → Sem Value) (s1 s2 : Sl) (P : Sl → Prop) : Prop :=
  ∀ X, Good E Γ X → ∀ W M O H v1 v2, Stt W M O H → SlOk X.K W M O H v1 s1 → SlOk X.K W M O H v2 s2 → ∀ Q, PV X.K W M O H P Q → seO X f v1 v2 H Q
structure Po where
  nx : List Sl → Prop
  rt : PyData → Prop
  bk : List Sl → Prop := fun _ => False
  ct : List Sl → Prop := fun _ => False
structure PD (K : PySem.W.Frag) (W M : List Addr) (O : Option Addr) (H : Hp) (D : Po) (DD : Ends) : Prop where
  nx : ∀ σ' H' ρ', ExtO W O H H' → Stt W M O H' → EnvOk K W M O H' σ' ρ' → D.nx ρ' → DD.nx σ' H'
  rt : ∀ v d H', ExtO W O H H' → Stt W M O H' → Dq K (wo M H') v d → D.rt d → DD.rt v H'
  bk : ∀ σ' H' ρ', ExtO W O H H' → Stt W M O H' → EnvOk K W M O H' σ' ρ' → D.bk ρ' → DD.bk σ' H'
  ct : ∀ σ' H' ρ', ExtO W O H H' → Stt W M O H' → EnvOk K W M O H' σ' ρ' → D.ct ρ' → DD.ct σ' H'
theorem PD.ext {K : PySem.W.Frag} {W M : List Addr} {O : Option Addr} {H H1 : Hp} {D : Po} {DD : Ends} (p : PD K W M O H D DD) (e : ExtO W O H H1) : PD K W M O H1 D DD :=
  ⟨fun σ' H' ρ' a => p.nx σ' H' ρ' (e.trans a), fun v d H' a => p.rt v d H' (e.trans a), fun σ' H' ρ' a => p.bk σ' H' ρ' (e.trans a), fun σ' H' ρ' a => p.ct σ' H' ρ' (e.trans a)⟩
/-- a statement; o: whether there is an own list -/
def J1 (E : En) (Γ : Ctx) (o : Bool) (ρ : List Sl) (st : Stmt) (D : Po) : Prop :=
  ∀ X, Good E Γ X → ∀ W M O σ H, O.isSome = o → Stt W M O H → EnvOk X.K W M O H σ ρ → ∀ DD, PD X.K W M O H D DD → seS X st DD σ H
def JS (E : En) (Γ : Ctx) (o : Bool) (ρ : List Sl) (sts : List Stmt) (D : Po) : Prop :=
  ∀ X, Good E Γ X → ∀ W M O σ H, O.isSome = o → Stt W M O H → EnvOk X.K W M O H σ ρ → ∀ DD, PD X.K W M O H D DD → seSs X sts DD σ H
/-- a target takes data -/
def JG (E : En) (Γ : Ctx) (ρ : List Sl) (tg : Expr) (d : PyData) (P : List Sl → Prop) : Prop :=
  ∀ X, Good E Γ X → ∀ W M O σ H v, Stt W M O H → EnvOk X.K W M O H σ ρ → Dq X.K (wo (mt O M) H) v d → ∀ Q : L2.St → Hp → Prop, (∀ σ' H' ρ', Ext W H H' → Stt W M O H' → EnvOk X.K W M O H' σ' ρ' → P ρ' → Q σ' H') → seG X tg v σ H Q
def JGs (E : En) (Γ : Ctx) (ρ : List Sl) (ts : List Expr) (ds : List PyData) (P : List Sl → Prop) : Prop :=
  ∀ X, Good E Γ X → ∀ W M O σ H vs, Stt W M O H → EnvOk X.K W M O H σ ρ → DqAll X.K (wo (mt O M) H) vs ds → ∀ Q : L2.St → Hp → Prop, (∀ σ' H' ρ', Ext W H H' → Stt W M O H' → EnvOk X.K W M O H' σ' ρ' → P ρ' → Q σ' H') → seGs X ts vs σ H Q
/-- what an iterator gives -/
def ItD (K : PySem.W.Frag) (W M : List Addr) (O : Option Addr) (H : Hp) (J : It) (items : List PyData) : Prop :=
  ∀ L : List Addr, (∀ a ∈ L, H a = none) → ∀ H', ExtO W O H H' → Stt W (L ++ M) O H' → ∀ i : Nat, (i = items.length → J.stop i H') ∧ ∀ d, items[i]? = some d → J.go i H' ∧ ∀ x H'', J.yld i H' x H'' → Same H' H'' ∧ Dq K (wo (mt O (L ++ M)) H'') x d
def JI (E : En) (Γ : Ctx) (ρ : List Sl) (tg iter : Expr) (P : List PyData → Prop) : Prop :=
  ∀ X, Good E Γ X → ∀ W M O σ H, Stt W M O H → EnvOk X.K W M O H σ ρ → ∀ R : It → Hp → Prop, (∀ J items H2, Ext W H H2 → Stt W M O H2 → ItD X.K W M O H2 J items → P items → R J H2) → seI X tg iter σ H R
end W6
end
section
set_option Elab.async false
set_option linter.all false
set_option maxRecDepth 100000
set_option maxHeartbeats 4000000
/-! Rules of the layer: expressions. -/
namespace W6
open PySem PySem.Spec PyProof.Rows L2
section
variable {E : En} {Γ : Ctx} {ρ : List Sl} {pos : Pos} {P : Sl → Prop}

theorem PV.go {K : PySem.W.Frag} {W M : List Addr} {O : Option Addr} {H H2 : Hp} {P : Sl → Prop} {Q : VK} (q : PV K W M O H P Q) (st : Stt W M O H) (e : Same H H2) {v : V} {s : Sl} (h : SlOk K W M O H2 v s) (p : P s) : Q v H2 := q v s H2 (Ext.of e) (st.same e) h p
theorem PV.here {K : PySem.W.Frag} {W M : List Addr} {O : Option Addr} {H : Hp} {P : Sl → Prop} {Q : VK} (q : PV K W M O H P Q) (st : Stt W M O H) {v : V} {s : Sl} (h : SlOk K W M O H v s) (p : P s) : Q v H := q v s H (Ext.refl W H) st h p
theorem PV.ext {K : PySem.W.Frag} {W M : List Addr} {O : Option Addr} {H H1 : Hp} {P : Sl → Prop} {Q : VK} (q : PV K W M O H P Q) (e : Ext W H H1) : PV K W M O H1 P Q := fun v s H2 a => q v s H2 (e.trans a)
/-- a new object -/
theorem PV.new {K : PySem.W.Frag} {W M : List Addr} {O : Option Addr} {H : Hp} {P : Sl → Prop} {Q : VK} (q : PV K W M O H P Q) (st : Stt W M O H) {p : Addr} {o : HO} {d : PyData} (hp : H p = none) (h : Dq K (upd (wo (mt O M) H) p o) (.ref p) d) (pp : P (.dat d)) : Q (.ref p) (upd H p o) := by
  have hn : p ∉ mt O M := fun z => by
    cases O with
    | none => exact st.dom p z hp
    | some a =>
      rcases List.mem_cons.mp z with z | z
      · rw [z] at hp
        exact (st.own a rfl).2 hp
      · exact st.dom p z hp
  refine q.go st (same_new hp) (s := .dat d) ?_ pp
  refine dp_mono (fun b u hb => ?_) d _ h
  by_cases hbp : b = p
  · subst hbp
    rw [upd_same] at hb
    cases hb
    exact wo_of hn upd_same
  · rw [upd_ne hbp] at hb
    refine wo_of (wo_some hb).1 ?_
    rw [upd_ne hbp]
    exact (wo_some hb).2
theorem wo_fresh {M : List Addr} {H : Hp} {p : Addr} (h : H p = none) : wo M H p = none := by
  unfold wo
  split
  · rfl
  · exact h

theorem je_of (h : ∀ X, Good E Γ X → ∀ W M O σ H, Stt W M O H → EnvOk X.K W M O H σ ρ → ∃ t, PE X e t ∧ ∀ Q, PV X.K W M O H P Q → t σ H Q) : JE E Γ ρ e P := fun X g W M O σ H st en Q q => by
  obtain ⟨t, h1, h2⟩ := h X g W M O σ H st en
  exact fun pins s I => h1.run pins s σ H Q I (h2 Q q)
theorem JE.imp {e : Expr} {P' : Sl → Prop} (h : JE E Γ ρ e P) (k : ∀ s, P s → P' s) : JE E Γ ρ e P' := fun X g W M O σ H st en Q q => h X g W M O σ H st en Q fun v s H2 a b c p => q v s H2 a b c (k s p)

/-! ### names and constants -/
theorem je_var (i : Nat) {x : Str} {s : Sl} (hN : Γ.N[i]? = some x) (hv : Vis Γ.sc x) (hs : ρ[i]? = some s) (hn : s ≠ .no) (p : P s) (hd : (x == ("__debug__" : Str)) = false := by decide)
    (hcd : (x == ("__classdict__" : Str)) = false := by decide) : JE E Γ ρ (.Name x pos) P := je_of fun X g W M O σ H st en => by
  refine ⟨_, pe_var (i := i) (by rw [g.N]; exact hN) (by rw [g.sc]; exact hv) hd hcd, fun Q q => ?_⟩
  obtain ⟨v, h1, h2⟩ := en.at' i s hs hn
  exact ⟨v, h1, q.here st h2 p⟩
theorem je_int {i : Int} {j : Nat} (p : P (.dat (.int i))) : JE E Γ ρ (.Constant (.int i) j pos) P := je_of fun X g W M O σ H st en => ⟨_, pe_int, fun Q q => q.here st (s := .dat (.int i)) (.int i) p⟩
theorem je_bl {i : Bool} {j : Nat} (p : P (.dat (.bool i))) : JE E Γ ρ (.Constant (.bool i) j pos) P := je_of fun X g W M O σ H st en => ⟨_, pe_bl, fun Q q => q.here st (s := .dat (.bool i)) (.bl i) p⟩
theorem je_non {j : Nat} (p : P (.dat .none)) : JE E Γ ρ (.Constant .none j pos) P := je_of fun X g W M O σ H st en => ⟨_, pe_non, fun Q q => q.here st (s := .dat .none) .non p⟩
theorem je_str {i : Str} {j : Nat} (p : P (.dat (.str i))) : JE E Γ ρ (.Constant (.str i) j pos) P := je_of fun X g W M O σ H st en => ⟨_, pe_str, fun Q q => q.here st (s := .dat (.str i)) (.str i) p⟩
/-- a constant of the module -/
def Cst (E : En) (x : Str) (d : PyData) : Prop := ∃ v u, E.mg x = some u ∧ RelV v u ∧ ∀ H, Dq E.K H v d
abbrev Glo (Γ : Ctx) (x : Str) : Prop := Γ.sc.names.lookup x = some .globalImplicit
theorem Good.gl {X : Cx} {x : Str} (g : Good E Γ X) (h : Glo Γ x) : Gl X x := by
  show X.env.scope.names.lookup x = _
  rw [g.sc]
  exact h
theorem je_glob {x : Str} {d : PyData} (c : Cst E x d) (hg : Glo Γ x) (p : P (.dat d)) (hd : (x == ("__debug__" : Str)) = false := by decide) : JE E Γ ρ (.Name x pos) P := je_of fun X g W M O σ H st en => by
  obtain ⟨v, u, h1, h2, h3⟩ := c
  refine ⟨_, pe_glob (g.gl hg) (by rw [g.mg]; exact h1) h2 hd, fun Q q => q.here st (s := .dat d) ?_ p⟩
  show Dq X.K _ v d
  rw [g.K]
  exact h3 _
theorem je_ty {x : Str} {n : String} (hm : E.mg x = none) (hg : Glo Γ x) (hv : bootBuiltins x = some (.type n)) (p : P (.ty n)) (hn : x ≠ "__name__" := by decide) (hd : (x == ("__debug__" : Str)) = false := by decide) : JE E Γ ρ (.Name x pos) P := je_of fun X g W M O σ H st en =>
  ⟨_, pe_bltn (v := .ty n) (g.gl hg) (by rw [g.mg]; exact hm) hv rfl hn hd, fun Q q => q.here st (s := .ty n) rfl p⟩

/-! ### operators -/
theorem je_bin {a b : Expr} {op : Operator} (h : JE E Γ ρ a fun s1 => JE E Γ ρ b fun s2 => JO E Γ (binaryOp op) s1 s2 P) : JE E Γ ρ (.BinOp a op b pos) P := je_of fun X g W M O σ H st en =>
  ⟨_, pe_op op_se (pe_se (e := a)) (pe_se (e := b)), fun Q q => h X g W M O σ H st en _ fun v1 s1 H1 e1 st1 o1 p1 => p1 X g W M O σ H1 st1 (en.mono st e1) _ fun v2 s2 H2 e2 st2 o2 p2 =>
    p2 X g W M O H2 v1 v2 st2 (o1.mono st1 e2) o2 Q (q.ext (e1.trans e2))⟩
theorem je_cmp {a b : Expr} {op : CmpOp} (h : JE E Γ ρ a fun s1 => JE E Γ ρ b fun s2 => JO E Γ (compareOp op) s1 s2 P) (hm : behindInMarks op b = false := by first | exact nomark _ | rfl) : JE E Γ ρ (.Compare a [op] [b] pos) P := je_of fun X g W M O σ H st en =>
  ⟨_, pe_cmpR op_se (pe_se (e := a)) (pe_se (e := b)) hm, fun Q q => h X g W M O σ H st en _ fun v1 s1 H1 e1 st1 o1 p1 => p1 X g W M O σ H1 st1 (en.mono st e1) _ fun v2 s2 H2 e2 st2 o2 p2 =>
    p2 X g W M O H2 v1 v2 st2 (o1.mono st1 e2) o2 Q (q.ext (e1.trans e2))⟩
theorem je_chain {a b c : Expr} {op op' : CmpOp} (h : JE E Γ ρ a fun s1 => JE E Γ ρ b fun s2 => JO E Γ (compareOp op) s1 s2 fun s => ∃ k, s = .dat (.bool k) ∧ (k = true → JE E Γ ρ c fun s3 => JO E Γ (compareOp op') s2 s3 P) ∧ (k = false → P (.dat (.bool false))))
    (hm : lastMarks [op, op'] [b, c] = false := by with_unfolding_all rfl) : JE E Γ ρ (.Compare a [op, op'] [b, c] pos) P := je_of fun X g W M O σ H st en =>
  ⟨_, pe_chain op_se op_se (pe_se (e := a)) (pe_se (e := b)) (pe_se (e := c)) hm, fun Q q => h X g W M O σ H st en _ fun v1 s1 H1 e1 st1 o1 p1 => p1 X g W M O σ H1 st1 (en.mono st e1) _ fun v2 s2 H2 e2 st2 o2 p2 => by
    refine p2 X g W M O H2 v1 v2 st2 (o1.mono st1 e2) o2 _ fun v s H3 e3 st3 o3 p3 => ?_
    obtain ⟨k, rfl, hk, hf⟩ := p3
    cases o3
    refine ⟨k, rfl, ?_⟩
    cases k with
    | true =>
      refine iteT (hk rfl X g W M O σ H3 st3 (en.mono st ((e1.trans e2).trans e3)) _ fun v4 s4 H4 e4 st4 o4 p4 => ?_)
      exact p4 X g W M O H4 v2 v4 st4 (o2.mono st2 (e3.trans e4)) o4 Q (q.ext (((e1.trans e2).trans e3).trans e4))
    | false => exact iteF (q _ (.dat (.bool false)) H3 ((e1.trans e2).trans e3) st3 (.bl false) (hf rfl))⟩
theorem je_neg {a : Expr} (h : JE E Γ ρ a fun s => ∃ i, s = .dat (.int i) ∧ P (.dat (.int (-i)))) : JE E Γ ρ (.UnaryOp .USub a pos) P := je_of fun X g W M O σ H st en =>
  ⟨_, pe_un un_neg (pe_se (e := a)), fun Q q => h X g W M O σ H st en _ fun v s H1 e1 st1 o1 p1 => by
    obtain ⟨i, rfl, p⟩ := p1
    cases o1
    exact ⟨i, rfl, q _ (.dat (.int (-i))) H1 e1 st1 (.int _) p⟩⟩
theorem je_not {a : Expr} (h : JE E Γ ρ a fun s => ∃ k, s = .dat (.bool k) ∧ P (.dat (.bool (!k)))) : JE E Γ ρ (.UnaryOp .Not a pos) P := je_of fun X g W M O σ H st en =>
  ⟨_, pe_not (pe_se (e := a)), fun Q q => h X g W M O σ H st en _ fun v s H1 e1 st1 o1 p1 => by
    obtain ⟨i, rfl, p⟩ := p1
    cases o1
    exact ⟨i, rfl, q _ (.dat (.bool (!i))) H1 e1 st1 (.bl _) p⟩⟩
theorem je_one {a : Expr} {op : BoolOp} (h : JE E Γ ρ a P) : JE E Γ ρ (.BoolOp op [a] pos) P := je_of fun X g W M O σ H st en => ⟨_, pe_one (pe_se (e := a)), fun Q q => h X g W M O σ H st en Q q⟩
theorem je_and {a b : Expr} {rest : List Expr} (h : JE E Γ ρ a fun s => ∃ k, s = .dat (.bool k) ∧ (k = true → JE E Γ ρ (.BoolOp .And (b :: rest) pos) P) ∧ (k = false → P (.dat (.bool false)))) : JE E Γ ρ (.BoolOp .And (a :: b :: rest) pos) P := je_of fun X g W M O σ H st en =>
  ⟨_, pe_and (pe_se (e := a)) (pe_se (e := .BoolOp .And (b :: rest) pos)), fun Q q => h X g W M O σ H st en _ fun v s H1 e1 st1 o1 p1 => by
    obtain ⟨k, rfl, hk, hf⟩ := p1
    cases o1
    refine ⟨k, rfl, ?_⟩
    cases k with
    | true => exact iteT (hk rfl X g W M O σ H1 st1 (en.mono st e1) Q (q.ext e1))
    | false => exact iteF (q _ (.dat (.bool false)) H1 e1 st1 (.bl false) (hf rfl))⟩
theorem je_or {a b : Expr} {rest : List Expr} (h : JE E Γ ρ a fun s => ∃ k, s = .dat (.bool k) ∧ (k = false → JE E Γ ρ (.BoolOp .Or (b :: rest) pos) P) ∧ (k = true → P (.dat (.bool true)))) : JE E Γ ρ (.BoolOp .Or (a :: b :: rest) pos) P := je_of fun X g W M O σ H st en =>
  ⟨_, pe_or (pe_se (e := a)) (pe_se (e := .BoolOp .Or (b :: rest) pos)), fun Q q => h X g W M O σ H st en _ fun v s H1 e1 st1 o1 p1 => by
    obtain ⟨k, rfl, hk, hf⟩ := p1
    cases o1
    refine ⟨k, rfl, ?_⟩
    cases k with
    | false => exact iteF (hk rfl X g W M O σ H1 st1 (en.mono st e1) Q (q.ext e1))
    | true => exact iteT (q _ (.dat (.bool true)) H1 e1 st1 (.bl true) (hf rfl))⟩
theorem je_if {c a b : Expr} (h : JT E Γ ρ c fun k => (k = true → JE E Γ ρ a P) ∧ (k = false → JE E Γ ρ b P)) : JE E Γ ρ (.IfExp c a b pos) P := je_of fun X g W M O σ H st en =>
  ⟨_, pe_ifExp (pt_se (e := c)) (pe_se (e := a)) (pe_se (e := b)), fun Q q => h X g W M O σ H st en _ fun k H1 e1 st1 p1 => by
    cases k with
    | true => exact iteT (p1.1 rfl X g W M O σ H1 st1 (en.mono st e1) Q (q.ext e1))
    | false => exact iteF (p1.2 rfl X g W M O σ H1 st1 (en.mono st e1) Q (q.ext e1))⟩

/-! ### tests -/
theorem jt_of {e : Expr} {R : Bool → Prop} (h : ∀ X, Good E Γ X → ∀ W M O σ H, Stt W M O H → EnvOk X.K W M O H σ ρ → ∃ t, PT X e t ∧ ∀ Q : Bool → Hp → Prop, (∀ b H2, Ext W H H2 → Stt W M O H2 → R b → Q b H2) → t σ H Q) : JT E Γ ρ e R := fun X g W M O σ H st en Q q => by
  obtain ⟨t, h1, h2⟩ := h X g W M O σ H st en
  exact fun pins s I => h1.run pins s σ H Q I (h2 Q q)
theorem jw_of {e : Expr} {R : Bool → Prop} (h : ∀ X, Good E Γ X → ∀ W M O σ H, Stt W M O H → EnvOk X.K W M O H σ ρ → ∃ t, PW X e t ∧ ∀ Q : Bool → Hp → Prop, (∀ b H2, Ext W H H2 → Stt W M O H2 → R b → Q b H2) → t σ H Q) : JW E Γ ρ e R := fun X g W M O σ H st en Q q => by
  obtain ⟨t, h1, h2⟩ := h X g W M O σ H st en
  exact fun whole pins s I => h1.run whole pins s σ H Q I (h2 Q q)
variable {R : Bool → Prop}
theorem jt_val {e : Expr} (h : JE E Γ ρ e fun s => ∃ k, s = .dat (.bool k) ∧ R k) (he : ∀ env whole, isTrue e env whole = (do let v ← whole; standAt e.pos; holding [v] (truthy v)) := by intro _ _; rfl) : JT E Γ ρ e R := jt_of fun X g W M O σ H st en =>
  ⟨_, pt_val (pe_se (e := e)) (he X.env), fun Q q => h X g W M O σ H st en _ fun v s H1 e1 st1 o1 p1 => by
    obtain ⟨k, rfl, p⟩ := p1
    cases o1
    exact ⟨k, rfl, q k H1 e1 st1 p⟩⟩
theorem jt_cmp {a b : Expr} {op : CmpOp} (h : JE E Γ ρ a fun s1 => JE E Γ ρ b fun s2 => JO E Γ (compareOp op) s1 s2 fun s => ∃ k, s = .dat (.bool k) ∧ R k) (hm : behindInMarks op b = false := by first | exact nomark _ | rfl) : JT E Γ ρ (.Compare a [op] [b] pos) R := jt_of fun X g W M O σ H st en =>
  ⟨_, pt_cmpR op_se (pe_se (e := a)) (pe_se (e := b)) hm, fun Q q => h X g W M O σ H st en _ fun v1 s1 H1 e1 st1 o1 p1 => p1 X g W M O σ H1 st1 (en.mono st e1) _ fun v2 s2 H2 e2 st2 o2 p2 =>
    p2 X g W M O H2 v1 v2 st2 (o1.mono st1 e2) o2 _ fun v s H3 e3 st3 o3 p3 => by
      obtain ⟨k, rfl, p⟩ := p3
      cases o3
      exact ⟨k, rfl, q k H3 ((e1.trans e2).trans e3) st3 p⟩⟩
theorem jt_not {a : Expr} (h : JT E Γ ρ a fun k => R (!k)) : JT E Γ ρ (.UnaryOp .Not a pos) R := jt_of fun X g W M O σ H st en =>
  ⟨_, pt_not (pt_se (e := a)), fun Q q => h X g W M O σ H st en _ fun k H1 e1 st1 p1 => q _ H1 e1 st1 p1⟩
theorem jt_bool {op : BoolOp} {es : List Expr} (h : JW E Γ ρ (.BoolOp op es pos) R) : JT E Γ ρ (.BoolOp op es pos) R := jt_of fun X g W M O σ H st en =>
  ⟨_, PW.pt (pw_se (e := .BoolOp op es pos)), fun Q q => h X g W M O σ H st en Q q⟩
theorem jw_and1 {a : Expr} (h : JT E Γ ρ a R) : JW E Γ ρ (.BoolOp .And [a] pos) R := jw_of fun X g W M O σ H st en => ⟨_, pw_and1 (pt_se (e := a)), fun Q q => h X g W M O σ H st en Q q⟩
theorem jw_or1 {a : Expr} (h : JT E Γ ρ a R) : JW E Γ ρ (.BoolOp .Or [a] pos) R := jw_of fun X g W M O σ H st en => ⟨_, pw_or1 (pt_se (e := a)), fun Q q => h X g W M O σ H st en Q q⟩
theorem jw_and {a b : Expr} {rest : List Expr} (h : JT E Γ ρ a fun k => (k = true → JW E Γ ρ (.BoolOp .And (b :: rest) pos) R) ∧ (k = false → R false)) : JW E Γ ρ (.BoolOp .And (a :: b :: rest) pos) R := jw_of fun X g W M O σ H st en =>
  ⟨_, pw_and (pt_se (e := a)) (pw_se (e := .BoolOp .And (b :: rest) pos)), fun Q q => h X g W M O σ H st en _ fun k H1 e1 st1 p1 => by
    cases k with
    | true => exact iteT (p1.1 rfl X g W M O σ H1 st1 (en.mono st e1) Q fun b H2 e2 => q b H2 (e1.trans e2))
    | false => exact iteF (q false H1 e1 st1 (p1.2 rfl))⟩
theorem jw_or {a b : Expr} {rest : List Expr} (h : JT E Γ ρ a fun k => (k = false → JW E Γ ρ (.BoolOp .Or (b :: rest) pos) R) ∧ (k = true → R true)) : JW E Γ ρ (.BoolOp .Or (a :: b :: rest) pos) R := jw_of fun X g W M O σ H st en =>
  ⟨_, pw_or (pt_se (e := a)) (pw_se (e := .BoolOp .Or (b :: rest) pos)), fun Q q => h X g W M O σ H st en _ fun k H1 e1 st1 p1 => by
    cases k with
    | false => exact iteF (p1.1 rfl X g W M O σ H1 st1 (en.mono st e1) Q fun b H2 e2 => q b H2 (e1.trans e2))
    | true => exact iteT (q true H1 e1 st1 (p1.2 rfl))⟩

/-! ### operators by values -/
theorem jo_of {f : Value → Value → Sem Value} {s1 s2 : Sl} (h : ∀ X, Good E Γ X → ∃ r, OpR X f r ∧ ∀ W M O H v1 v2, Stt W M O H → SlOk X.K W M O H v1 s1 → SlOk X.K W M O H v2 s2 → ∀ Q, PV X.K W M O H P Q → r v1 v2 H Q) : JO E Γ f s1 s2 P := fun X g W M O H v1 v2 st o1 o2 Q q => by
  obtain ⟨r, h1, h2⟩ := h X g
  exact fun pins s σ v u I rx ry => h1 pins s σ H v1 v2 v u Q I rx ry (h2 W M O H v1 v2 st o1 o2 Q q)
theorem jo_I0 {f : Value → Value → Sem Value} {k : Int → Int → V} {i j : Int} {d : PyData} (ho : ∀ X, OpR X f (rI0 k)) (hd : ∀ K H, Dq K H (k i j) d) (p : P (.dat d)) : JO E Γ f (.dat (.int i)) (.dat (.int j)) P := jo_of fun X g => ⟨_, ho X, fun W M O H v1 v2 st o1 o2 Q q => by
  cases o1
  cases o2
  exact ⟨i, j, rfl, rfl, q.here st (s := .dat d) (hd _ _) p⟩⟩
theorem jo_I {f : Value → Value → Sem Value} {k : Int → Int → V} {C : Int → Int → Prop} {i j : Int} {d : PyData} (ho : ∀ X, OpR X f (rI C k)) (hc : C i j) (hd : ∀ K H, Dq K H (k i j) d) (p : P (.dat d)) : JO E Γ f (.dat (.int i)) (.dat (.int j)) P := jo_of fun X g => ⟨_, ho X, fun W M O H v1 v2 st o1 o2 Q q => by
  cases o1
  cases o2
  exact ⟨i, j, rfl, rfl, hc, q.here st (s := .dat d) (hd _ _) p⟩⟩
theorem jo_add {i j : Int} (p : P (.dat (.int (i + j)))) : JO E Γ (binaryOp .Add) (.dat (.int i)) (.dat (.int j)) P := jo_I0 (fun _ => op_add) (fun _ _ => .int _) p
theorem jo_sub {i j : Int} (p : P (.dat (.int (i - j)))) : JO E Γ (binaryOp .Sub) (.dat (.int i)) (.dat (.int j)) P := jo_I0 (fun _ => op_sub) (fun _ _ => .int _) p
theorem jo_mul {i j : Int} (hc : CMulW i j) (p : P (.dat (.int (i * j)))) : JO E Γ (binaryOp .Mult) (.dat (.int i)) (.dat (.int j)) P := jo_I (fun _ => op_mulW) hc (fun _ _ => .int _) p
theorem jo_mul64 {i j : Int} (hc : CMul i j) (p : P (.dat (.int (i * j)))) : JO E Γ (binaryOp .Mult) (.dat (.int i)) (.dat (.int j)) P := jo_I (fun _ => op_mul) hc (fun _ _ => .int _) p
theorem jo_div {i j : Int} (hc : CDivW i j) (p : P (.dat (.int (i / j)))) : JO E Γ (binaryOp .FloorDiv) (.dat (.int i)) (.dat (.int j)) P := jo_I (fun _ => op_fdivW) hc (fun _ _ => .int _) p
theorem jo_mod {i j : Int} (hc : 0 < j) (p : P (.dat (.int (i % j)))) : JO E Γ (binaryOp .Mod) (.dat (.int i)) (.dat (.int j)) P := jo_I (fun _ => op_mod) hc (fun _ _ => .int _) p
theorem jo_lt {i j : Int} (p : P (.dat (.bool (decide (i < j))))) : JO E Γ (compareOp .Lt) (.dat (.int i)) (.dat (.int j)) P := jo_I0 (fun _ => op_lt) (fun _ _ => .bl _) p
theorem jo_le {i j : Int} (p : P (.dat (.bool (decide (i ≤ j))))) : JO E Γ (compareOp .LtE) (.dat (.int i)) (.dat (.int j)) P := jo_I0 (fun _ => op_le) (fun _ _ => .bl _) p
theorem jo_gt {i j : Int} (p : P (.dat (.bool (decide (j < i))))) : JO E Γ (compareOp .Gt) (.dat (.int i)) (.dat (.int j)) P := jo_I0 (fun _ => op_gt) (fun _ _ => .bl _) p
theorem jo_ge {i j : Int} (p : P (.dat (.bool (decide (j ≤ i))))) : JO E Γ (compareOp .GtE) (.dat (.int i)) (.dat (.int j)) P := jo_I0 (fun _ => op_ge) (fun _ _ => .bl _) p
theorem jo_eqI {i j : Int} (p : P (.dat (.bool (decide (i = j))))) : JO E Γ (compareOp .Eq) (.dat (.int i)) (.dat (.int j)) P := jo_of fun X g => ⟨_, op_eq, fun W M O H v1 v2 st o1 o2 Q q => by
  cases o1
  cases o2
  refine ⟨rfl, ?_⟩
  rw [dec_int, Bool.beq_eq_decide_eq]
  exact q.here st (s := .dat (.bool (decide (i = j)))) (.bl _) p⟩
theorem jo_neI {i j : Int} (p : P (.dat (.bool (!decide (i = j))))) : JO E Γ (compareOp .NotEq) (.dat (.int i)) (.dat (.int j)) P := jo_of fun X g => ⟨_, op_ne, fun W M O H v1 v2 st o1 o2 Q q => by
  cases o1
  cases o2
  refine ⟨rfl, ?_⟩
  rw [dec_int, Bool.beq_eq_decide_eq]
  exact q.here st (s := .dat (.bool (!decide (i = j)))) (.bl _) p⟩
theorem jo_eqD {s1 s2 : Sl} {d e : PyData} (h1 : asD s1 = some d) (h2 : asD s2 = some e) (sd : SeqAt.shaped d = true) (se : SeqAt.shaped e = true) (p : P (.dat (.bool (PyData.eqv d e)))) : JO E Γ (compareOp .Eq) s1 s2 P := jo_of fun X g => ⟨_, op_eqD g.room.units, fun W M O H v1 v2 st o1 o2 Q q =>
  ⟨d, e, Dq.dp d v1 (o1.full h1), Dq.dp e v2 (o2.full h2), sd, se, q.here st (s := .dat (.bool _)) (.bl _) p⟩⟩
theorem jo_neD {s1 s2 : Sl} {d e : PyData} (h1 : asD s1 = some d) (h2 : asD s2 = some e) (sd : SeqAt.shaped d = true) (se : SeqAt.shaped e = true) (p : P (.dat (.bool (!PyData.eqv d e)))) : JO E Γ (compareOp .NotEq) s1 s2 P := jo_of fun X g => ⟨_, op_neD g.room.units, fun W M O H v1 v2 st o1 o2 Q q =>
  ⟨d, e, Dq.dp d v1 (o1.full h1), Dq.dp e v2 (o2.full h2), sd, se, q.here st (s := .dat (.bool _)) (.bl _) p⟩⟩
def isNon : PyData → Bool
  | .none => true
  | _ => false
theorem dec_non {K : PySem.W.Frag} {H : Hp} {v : V} {d : PyData} (h : Dq K H v d) : decide (v = .non) = isNon d := by
  cases h <;> rfl
theorem jo_isN {d : PyData} (p : P (.dat (.bool (isNon d)))) : JO E Γ (compareOp .Is) (.dat d) (.dat .none) P := jo_of fun X g => ⟨_, op_isN, fun W M O H v1 v2 st o1 o2 Q q => by
  cases o2
  refine ⟨rfl, ?_⟩
  rw [dec_non (show Dq X.K _ v1 d from o1)]
  exact q.here st (s := .dat (.bool _)) (.bl _) p⟩
theorem jo_notN {d : PyData} (p : P (.dat (.bool (!isNon d)))) : JO E Γ (compareOp .IsNot) (.dat d) (.dat .none) P := jo_of fun X g => ⟨_, op_notN, fun W M O H v1 v2 st o1 o2 Q q => by
  cases o2
  refine ⟨rfl, ?_⟩
  rw [dec_non (show Dq X.K _ v1 d from o1)]
  exact q.here st (s := .dat (.bool _)) (.bl _) p⟩
theorem jo_notBl {a b : Bool} (p : P (.dat (.bool (!decide (a = b))))) : JO E Γ (compareOp .IsNot) (.dat (.bool a)) (.dat (.bool b)) P := jo_of fun X g => ⟨_, op_notBl, fun W M O H v1 v2 st o1 o2 Q q => by
  cases o1
  cases o2
  exact ⟨a, b, rfl, rfl, q.here st (s := .dat (.bool _)) (.bl _) p⟩⟩
theorem jo_catL {xs ys : List PyData} (h : xs.length + ys.length ≤ 100000) (p : P (.dat (.list (xs ++ ys)))) : JO E Γ (binaryOp .Add) (.dat (.list xs)) (.dat (.list ys)) P := jo_of fun X g => ⟨_, op_cat, fun W M O H v1 v2 st o1 o2 Q q => by
  cases o1 with
  | lst h1 a1 =>
    cases o2 with
    | lst h2 a2 =>
      refine ⟨_, _, _, _, rfl, rfl, wo_sub _ _ _ _ h1, wo_sub _ _ _ _ h2, Nat.le_trans ?_ (show 100000 ≤ sizeLine by decide), fun r hr => q.new st hr (.lst upd_same (dps_mono (same_new (wo_fresh hr)) _ _ (dps_app a1 a2))) p⟩
      rw [dps_len a1, dps_len a2]
      exact h⟩
theorem jo_repL {xs : List PyData} {k : Int} (h0 : 0 ≤ k) (h1 : k ≤ 1000) (h : xs.length ≤ 100) (p : P (.dat (.list (List.replicate k.toNat xs).flatten))) : JO E Γ (binaryOp .Mult) (.dat (.list xs)) (.dat (.int k)) P := jo_of fun X g => ⟨_, op_rep, fun W M O H v1 v2 st o1 o2 Q q => by
  cases o2
  cases o1 with
  | lst g1 a1 =>
    refine ⟨_, k, _, rfl, rfl, wo_sub _ _ _ _ g1, by omega, by omega, Nat.le_trans ?_ (show 100000 ≤ sizeLine by decide), fun r hr => q.new st hr (.lst upd_same (dps_mono (same_new (wo_fresh hr)) _ _ (dps_rep a1 _))) p⟩
    rw [dps_len a1]
    exact Nat.le_trans (Nat.mul_le_mul h (show k.toNat ≤ 1000 by omega)) (by decide)⟩
theorem jo_catT {xs ys : List PyData} (h : xs.length + ys.length ≤ 100000) (p : P (.dat (.tuple (xs ++ ys)))) : JO E Γ (binaryOp .Add) (.dat (.tuple xs)) (.dat (.tuple ys)) P := jo_of fun X g => ⟨_, op_catA, fun W M O H v1 v2 st o1 o2 Q q => by
  have O1 := o1
  have O2 := o2
  cases o1 with
  | tup h1 a1 =>
    cases o2 with
    | tup h2 a2 =>
      have l1 := dps_len a1
      have l2 := dps_len a2
      refine ⟨_, _, _, _, rfl, rfl, seqT (wo_sub _ _) h1, seqT (wo_sub _ _) h2, Nat.le_trans ?_ (show 100000 ≤ sizeLine by decide), fun e => ?_, fun _ e => ?_, fun _ _ r hr => q.new st hr (.tup (SqT.of upd_same) (dps_mono (same_new (wo_fresh hr)) _ _ (dps_app a1 a2))) p⟩
      · rw [l1, l2]
        exact h
      · subst e
        have e1 : xs = [] := List.eq_nil_of_length_eq_zero (by rw [← l1]; rfl)
        subst e1
        exact q.here st (s := .dat (.tuple ys)) O2 p
      · subst e
        have e1 : ys = [] := List.eq_nil_of_length_eq_zero (by rw [← l2]; rfl)
        subst e1
        rw [List.append_nil] at p
        exact q.here st (s := .dat (.tuple xs)) O1 p⟩
end
end W6
end
section
set_option Elab.async false
set_option linter.all false
set_option maxRecDepth 100000
set_option maxHeartbeats 4000000
/-! Rules of the layer: displays, subscripts, calls. -/
namespace W6
open PySem PySem.Spec PyProof.Rows L2
section
variable {E : En} {Γ : Ctx} {ρ : List Sl} {pos : Pos} {P : Sl → Prop}

/-! ### argument lists -/
theorem ja_of {es : List Expr} {R : List Sl → Prop} (h : ∀ X, Good E Γ X → ∀ W M O σ H, Stt W M O H → EnvOk X.K W M O H σ ρ → ∃ t, PA X es t ∧ ∀ Q : List V → Hp → Prop, (∀ vs ss H2, Ext W H H2 → Stt W M O H2 → SlsOk X.K W M O H2 vs ss → R ss → Q vs H2) → t σ H Q) : JA E Γ ρ es R := fun X g W M O σ H st en Q q => by
  obtain ⟨t, h1, h2⟩ := h X g W M O σ H st en
  exact fun pos pins s I => h1.run pos pins s σ H Q I (h2 Q q)
theorem ja_nil {R : List Sl → Prop} (h : R []) : JA E Γ ρ [] R := ja_of fun X g W M O σ H st en => ⟨_, pa_nil, fun Q q => q [] [] H (Ext.refl W H) st .nil h⟩
theorem ja_cons {e : Expr} {es : List Expr} {R : List Sl → Prop} (h : JE E Γ ρ e fun s => JA E Γ ρ es fun ss => R (s :: ss)) (hs : ∀ env, starEach (e :: es) env = (false, eval e env) :: starEach es env := by intro _; rfl) : JA E Γ ρ (e :: es) R := ja_of fun X g W M O σ H st en =>
  ⟨_, pa_cons (pe_se (e := e)) (pa_se (es := es)) (hs X.env), fun Q q => h X g W M O σ H st en _ fun v s H1 e1 st1 o1 p1 => p1 X g W M O σ H1 st1 (en.mono st e1) _ fun vs ss H2 e2 st2 o2 p2 =>
    q (v :: vs) (s :: ss) H2 (e1.trans e2) st2 (.cons (o1.mono st1 e2) o2) p2⟩
/-- all are data -/
def datL : List Sl → Option (List PyData)
  | [] => some []
  | .dat d :: ss => (datL ss).map (d :: ·)
  | _ :: _ => none
theorem datL_ok {K : PySem.W.Frag} {W M : List Addr} {O : Option Addr} {H : Hp} : ∀ {ss : List Sl} {vs : List V} {ds : List PyData}, SlsOk K W M O H vs ss → datL ss = some ds → DqAll K (wo (mt O M) H) vs ds
  | [], _, ds, h, e => by
    cases h
    cases e
    exact .nil
  | .dat d :: ss, _, ds, h, e => by
    cases h with
    | cons h1 h2 =>
      obtain ⟨es, e1, rfl⟩ := Option.map_eq_some_iff.mp (show (datL ss).map (d :: ·) = some ds from e)
      exact .cons h1 (datL_ok h2 e1)
  | .no :: _, _, _, _, e => nomatch e
  | .well :: _, _, _, _, e => nomatch e
  | .own _ :: _, _, _, _, e => nomatch e
  | .rd _ :: _, _, _, _, e => nomatch e
  | .ty _ :: _, _, _, _, e => nomatch e
  | .scr _ :: _, _, _, _, e => nomatch e
theorem je_tup {es : List Expr} {x1 : Nat} (h : JA E Γ ρ es fun ss => ∃ ds, datL ss = some ds ∧ ds.length ≤ 100000 ∧ P (.dat (.tuple ds))) : JE E Γ ρ (.Tuple es x1 pos) P := je_of fun X g W M O σ H st en =>
  ⟨_, pe_tup (pa_se (es := es)), fun Q q => h X g W M O σ H st en _ fun vs ss H1 e1 st1 o1 p1 => by
    obtain ⟨ds, h1, h2, p⟩ := p1
    have a := datL_ok o1 h1
    refine ⟨Nat.le_trans ?_ (show 100000 ≤ sizeLine by decide), fun r hr => (q.ext e1).new st1 hr (.tup (SqT.of upd_same) (dps_mono (same_new (wo_fresh hr)) _ _ a)) p⟩
    rw [dps_len a]
    exact h2⟩
theorem je_lst {es : List Expr} (h : JA E Γ ρ es fun ss => ∃ ds, datL ss = some ds ∧ ds.length ≤ 100000 ∧ P (.dat (.list ds))) : JE E Γ ρ (.List es pos) P := je_of fun X g W M O σ H st en =>
  ⟨_, pe_lst (pa_se (es := es)), fun Q q => h X g W M O σ H st en _ fun vs ss H1 e1 st1 o1 p1 => by
    obtain ⟨ds, h1, h2, p⟩ := p1
    have a := datL_ok o1 h1
    refine ⟨Nat.le_trans ?_ (show 100000 ≤ sizeLine by decide), fun r hr => (q.ext e1).new st1 hr (.lst upd_same (dps_mono (same_new (wo_fresh hr)) _ _ a)) p⟩
    rw [dps_len a]
    exact h2⟩

/-! ### subscripts -/
def seqD : Sl → Option (List PyData)
  | .dat (.list xs) => some xs
  | .dat (.tuple xs) => some xs
  | .own xs => some xs
  | .rd xs => some xs
  | _ => none
theorem seq_ok {K : PySem.W.Frag} {W M : List Addr} {O : Option Addr} {H : Hp} {v : V} {s : Sl} {xs : List PyData} (h : SlOk K W M O H v s) (e : seqD s = some xs) : ∃ a vs, v = .ref a ∧ (SqL K H a vs ∨ SqT K H a vs) ∧ DqAll K (wo (mt O M) H) vs xs := by
  cases s with
  | dat d =>
    cases d with
    | list ys =>
      cases e
      cases h with
      | lst h1 h2 => exact ⟨_, _, rfl, .inl (SqL.of (wo_sub _ _ _ _ h1)), h2⟩
    | tuple ys =>
      cases e
      cases h with
      | tup h1 h2 => exact ⟨_, _, rfl, .inr (seqT (wo_sub _ _) h1), h2⟩
    | _ => cases e
  | own ys =>
    cases e
    obtain ⟨a, vs, h1, h2, h3, h4⟩ := h
    exact ⟨a, vs, h1, .inl (SqL.of h3), h4⟩
  | rd ys =>
    cases e
    obtain ⟨a, vs, h1, h2, h3, h4, h5⟩ := h
    exact ⟨a, vs, h1, .inl (SqL.of h4), h5⟩
  | _ => cases e
theorem atI_dq {K : PySem.W.Frag} {H : Hp} {vs : List V} {xs : List PyData} {i : Int} {d : PyData} (h : DqAll K H vs xs) (e : atI xs i = some d) : ∃ v, atI vs i = some v ∧ Dq K H v d := by
  unfold atI at e ⊢
  rw [dps_len h]
  cases q : ixN xs.length i with
  | none => rw [q] at e; cases e
  | some j =>
    rw [q] at e
    exact dps_get h e
theorem je_ix {a b : Expr} (h : JE E Γ ρ a fun s1 => JE E Γ ρ b fun s2 => ∃ xs i d, seqD s1 = some xs ∧ s2 = .dat (.int i) ∧ atI xs i = some d ∧ P (.dat d)) (hs : PlainIx b := by intro _ _; rfl) : JE E Γ ρ (.Subscript a b pos) P := je_of fun X g W M O σ H st en =>
  ⟨_, pe_ix (ix_list.or ix_tup) (pe_se (e := a)) (pe_se (e := b)) hs, fun Q q => h X g W M O σ H st en _ fun v1 s1 H1 e1 st1 o1 p1 => p1 X g W M O σ H1 st1 (en.mono st e1) _ fun v2 s2 H2 e2 st2 o2 p2 => by
    obtain ⟨xs, i, d, h1, rfl, h2, p⟩ := p2
    cases o2
    obtain ⟨r, vs, rfl, h3, h4⟩ := seq_ok (o1.mono st1 e2) h1
    obtain ⟨v, h5, h6⟩ := atI_dq h4 h2
    have fin := q v (.dat d) H2 (e1.trans e2) st2 h6 p
    rcases h3 with h3 | h3
    · exact .inl ⟨r, vs, i, v, rfl, rfl, h3, h5, fin⟩
    · exact .inr ⟨r, vs, i, v, rfl, rfl, h3, h5, fin⟩⟩
/-- the well's own numbers -/
theorem je_ixW {a b : Expr} (h : JE E Γ ρ a fun s1 => s1 = .well ∧ JE E Γ ρ b fun s2 => ∃ i : Nat, s2 = .dat (.int (i : Int)) ∧ i < 3 ∧ ∀ n, P (.dat (.int n))) (hs : PlainIx b := by intro _ _; rfl) : JE E Γ ρ (.Subscript a b pos) P := je_of fun X g W M O σ H st en =>
  ⟨_, pe_ix ix_list (pe_se (e := a)) (pe_se (e := b)) hs, fun Q q => h X g W M O σ H st en _ fun v1 s1 H1 e1 st1 o1 p1 => by
    obtain ⟨rfl, p1⟩ := p1
    refine p1 X g W M O σ H1 st1 (en.mono st e1) _ fun v2 s2 H2 e2 st2 o2 p2 => ?_
    obtain ⟨i, rfl, hi, p⟩ := p2
    cases o2
    obtain ⟨r, h1, rfl⟩ := o1
    obtain ⟨x, y, z, hl⟩ := st2.wl r h1
    have h5 : ∃ n : Int, ([.int x, .int y, .int z] : List V)[i]? = some (.int n) := by
      match i, hi with
      | 0, _ => exact ⟨x, rfl⟩
      | 1, _ => exact ⟨y, rfl⟩
      | 2, _ => exact ⟨z, rfl⟩
    obtain ⟨n, h5⟩ := h5
    exact ⟨r, _, (i : Int), .int n, rfl, rfl, SqL.of hl, atI_nat h5, q (.int n) (.dat (.int n)) H2 (e1.trans e2) st2 (.int n) (p n)⟩⟩
def cutG {α : Type} (xs : List α) (lo hi : Option Int) : List α := (xs.drop (HT.sIx xs.length 0 lo)).take (HT.sIx xs.length xs.length hi - HT.sIx xs.length 0 lo)
theorem cut_dq {K : PySem.W.Frag} {H : Hp} {vs : List V} {xs : List PyData} (h : DqAll K H vs xs) (lo hi : Option Int) : DqAll K H (cutV vs lo hi) (cutG xs lo hi) := by
  unfold cutV cutG
  rw [dps_len h]
  exact dps_take _ (dps_drop _ h)
theorem cutG_map {α β : Type} (f : α → β) (xs : List α) (lo hi : Option Int) : cutG (xs.map f) lo hi = (cutG xs lo hi).map f := by
  unfold cutG
  rw [List.length_map, List.map_take, List.map_drop]
/-- what a slice gives -/
def slD : Sl → Option Int → Option Int → Option PyData
  | .dat (.list xs), lo, hi => some (.list (cutG xs lo hi))
  | .dat (.tuple xs), lo, hi => some (.tuple (cutG xs lo hi))
  | _, _, _ => none
theorem cut_whole {α : Type} {xs : List α} {lo hi : Option Int} (h : HT.sIx xs.length 0 lo = 0 ∧ HT.sIx xs.length xs.length hi = xs.length) : cutG xs lo hi = xs := by
  unfold cutG
  rw [h.1, h.2, List.drop_zero, Nat.sub_zero, List.take_length]
def rSl2 (K : PySem.W.Frag) : V → Option Int → Option Int → Hp → VK → Prop := fun x lo hi H Q => rSlL K x lo hi H Q ∨ rSlA K x lo hi H Q
theorem sl2 {X : Cx} : SlR X (rSl2 X.K) := sl_list.or sl_tupA
theorem sl_go {X : Cx} {W M : List Addr} {O : Option Addr} {H : Hp} {v : V} {s : Sl} {lo hi : Option Int} {d : PyData} {Q : VK} (st : Stt W M O H) (o : SlOk X.K W M O H v s) (e : slD s lo hi = some d) (q : PV X.K W M O H P Q) (p : P (.dat d)) : rSl2 X.K v lo hi H Q := by
  cases s with
  | dat c =>
    cases c with
    | list xs =>
      cases e
      cases o with
      | lst h1 h2 => exact .inl ⟨_, _, rfl, SqL.of (wo_sub _ _ _ _ h1), fun r hr => q.new st hr (.lst upd_same (dps_mono (same_new (wo_fresh hr)) _ _ (cut_dq h2 lo hi))) p⟩
    | tuple xs =>
      cases e
      have O1 := o
      cases o with
      | tup h1 h2 =>
        have hl := dps_len h2
        refine .inr ⟨_, _, rfl, seqT (wo_sub _ _) h1, fun hw => ?_, fun _ r hr => q.new st hr (.tup (SqT.of upd_same) (dps_mono (same_new (wo_fresh hr)) _ _ (cut_dq h2 lo hi))) p⟩
        rw [hl] at hw
        rw [cut_whole hw] at p
        exact q.here st (s := .dat (.tuple xs)) O1 p
    | _ => cases e
  | _ => cases e
theorem je_slLo {a lo : Expr} {p2 : Pos} (h : JE E Γ ρ a fun s1 => JE E Γ ρ lo fun s2 => ∃ i d, s2 = .dat (.int i) ∧ slD s1 (some i) none = some d ∧ P (.dat d)) : JE E Γ ρ (.Subscript a (.Slice (some lo) none none p2) pos) P := je_of fun X g W M O σ H st en =>
  ⟨_, pe_slice sl2 (pe_se (e := a)) (po_some (pe_se (e := lo))) po_none, fun Q q => h X g W M O σ H st en _ fun v1 s1 H1 e1 st1 o1 p1 => p1 X g W M O σ H1 st1 (en.mono st e1) _ fun v2 s2 H2 e2 st2 o2 p2 => by
    obtain ⟨i, d, rfl, h2, p⟩ := p2
    cases o2
    exact ⟨i, rfl, sl_go st2 (o1.mono st1 e2) h2 (q.ext (e1.trans e2)) p⟩⟩
theorem je_slHi {a hi : Expr} {p2 : Pos} (h : JE E Γ ρ a fun s1 => JE E Γ ρ hi fun s2 => ∃ i d, s2 = .dat (.int i) ∧ slD s1 none (some i) = some d ∧ P (.dat d)) : JE E Γ ρ (.Subscript a (.Slice none (some hi) none p2) pos) P := je_of fun X g W M O σ H st en =>
  ⟨_, pe_slice sl2 (pe_se (e := a)) po_none (po_some (pe_se (e := hi))), fun Q q => h X g W M O σ H st en _ fun v1 s1 H1 e1 st1 o1 p1 => p1 X g W M O σ H1 st1 (en.mono st e1) _ fun v2 s2 H2 e2 st2 o2 p2 => by
    obtain ⟨i, d, rfl, h2, p⟩ := p2
    cases o2
    exact ⟨i, rfl, sl_go st2 (o1.mono st1 e2) h2 (q.ext (e1.trans e2)) p⟩⟩

/-! ### calls of built-ins by values -/
def seC (X : Cx) (f : Value) : List V → Hp → VK → Prop := fun vs H Q => ∀ pins s σ us, Inv X pins σ H s → Vals vs us → wpAny (model X.prog X.w) X.A (call f us) (EP X pins σ Q) X.xe s
theorem cr_se {X : Cx} {f : Value} : CallR X f (seC X f) := fun pins s σ _ _ us _ I r h => h pins s σ us I r
def JC (E : En) (Γ : Ctx) (f : Value) (ss : List Sl) (P : Sl → Prop) : Prop :=
  ∀ X, Good E Γ X → ∀ W M O H vs, Stt W M O H → SlsOk X.K W M O H vs ss → ∀ Q, PV X.K W M O H P Q → seC X f vs H Q
theorem jc_of {f : Value} {ss : List Sl} (h : ∀ X, Good E Γ X → ∃ r, CallR X f r ∧ ∀ W M O H vs, Stt W M O H → SlsOk X.K W M O H vs ss → ∀ Q, PV X.K W M O H P Q → r vs H Q) : JC E Γ f ss P := fun X g W M O H vs st o Q q => by
  obtain ⟨r, h1, h2⟩ := h X g
  exact fun pins s σ us I rv => h1 pins s σ H vs us Q I rv (h2 W M O H vs st o Q q)
variable {x : Str} {p : Pos} {e : Expr} {es : List Expr}
theorem je_callB {id : String} (hm : E.mg x = none) (hg : Glo Γ x) (hv : bootBuiltins x = some (.builtin id)) (h : JA E Γ ρ (e :: es) fun ss => JC E Γ (.builtin id) ss P) (hn : x ≠ "__name__" := by decide) (hd : (x == ("__debug__" : Str)) = false := by decide)
    (he : ∀ env, starEach (e :: es) env = (false, eval e env) :: starEach es env := by intro _; rfl) (hpl : ∀ env, (backTo pos (starEach es env)).any (·.1) = false := by intro _; rfl) : JE E Γ ρ (.Call (.Name x p) (e :: es) [] pos) P := je_of fun X g W M O σ H st en =>
  ⟨_, pe_callB cr_se (g.gl hg) (by rw [g.mg]; exact hm) hv (pa_se (es := e :: es)) hn hd (he _) (hpl _), fun Q q => h X g W M O σ H st en _ fun vs ss H1 e1 st1 o1 p1 => p1 X g W M O H1 vs st1 o1 Q (q.ext e1)⟩
theorem je_callTy {id : String} (hm : E.mg x = none) (hg : Glo Γ x) (hv : bootBuiltins x = some (.type id)) (h : JA E Γ ρ (e :: es) fun ss => JC E Γ (.type id) ss P) (hn : x ≠ "__name__" := by decide) (hd : (x == ("__debug__" : Str)) = false := by decide)
    (he : ∀ env, starEach (e :: es) env = (false, eval e env) :: starEach es env := by intro _; rfl) (hpl : ∀ env, (backTo pos (starEach es env)).any (·.1) = false := by intro _; rfl) : JE E Γ ρ (.Call (.Name x p) (e :: es) [] pos) P := je_of fun X g W M O σ H st en =>
  ⟨_, pe_callTy cr_se (g.gl hg) (by rw [g.mg]; exact hm) hv (pa_se (es := e :: es)) hn hd (he _) (hpl _), fun Q q => h X g W M O σ H st en _ fun vs ss H1 e1 st1 o1 p1 => p1 X g W M O H1 vs st1 o1 Q (q.ext e1)⟩
theorem je_callF {id : String} (hm : E.mg x = some (.builtin id)) (hg : Glo Γ x) (h : JA E Γ ρ (e :: es) fun ss => JC E Γ (.builtin id) ss P) (hd : (x == ("__debug__" : Str)) = false := by decide)
    (he : ∀ env, starEach (e :: es) env = (false, eval e env) :: starEach es env := by intro _; rfl) (hpl : ∀ env, (backTo pos (starEach es env)).any (·.1) = false := by intro _; rfl) : JE E Γ ρ (.Call (.Name x p) (e :: es) [] pos) P := je_of fun X g W M O σ H st en =>
  ⟨_, pe_callBfun cr_se (g.gl hg) (by rw [g.mg]; exact hm) (pa_se (es := e :: es)) hd (he _) (hpl _), fun Q q => h X g W M O σ H st en _ fun vs ss H1 e1 st1 o1 p1 => p1 X g W M O H1 vs st1 o1 Q (q.ext e1)⟩
theorem sls1 {K : PySem.W.Frag} {W M : List Addr} {O : Option Addr} {H : Hp} {vs : List V} {s : Sl} (h : SlsOk K W M O H vs [s]) : ∃ v, vs = [v] ∧ SlOk K W M O H v s := by
  cases h with
  | cons h1 h2 =>
    cases h2
    exact ⟨_, rfl, h1⟩
theorem sls2 {K : PySem.W.Frag} {W M : List Addr} {O : Option Addr} {H : Hp} {vs : List V} {s t : Sl} (h : SlsOk K W M O H vs [s, t]) : ∃ v u, vs = [v, u] ∧ SlOk K W M O H v s ∧ SlOk K W M O H u t := by
  cases h with
  | cons h1 h2 =>
    obtain ⟨u, rfl, h3⟩ := sls1 h2
    exact ⟨_, u, rfl, h1, h3⟩
theorem jc_len {s : Sl} {xs : List PyData} (h : seqD s = some xs) (p : P (.dat (.int (xs.length : Int)))) : JC E Γ (.builtin "len") [s] P := jc_of fun X g => ⟨_, call_len_seq, fun W M O H vs st oo Q q => by
  obtain ⟨v, rfl, o⟩ := sls1 oo
  obtain ⟨a, ys, rfl, h1, h2⟩ := seq_ok o h
  refine ⟨a, ys, rfl, h1, ?_⟩
  rw [dps_len h2]
  exact q.here st (s := .dat (.int _)) (.int _) p⟩
theorem jc_lenS {ns : List Int} (p : P (.dat (.int (ns.length : Int)))) : JC E Γ (.builtin "len") [.scr ns] P := jc_of fun X g => ⟨_, call_len_seq, fun W M O H vs st oo Q q => by
  obtain ⟨v, rfl, a, rfl, h1⟩ := sls1 oo
  refine ⟨a, ns.map V.int, rfl, .inl ((wo_sub _ _).seq h1), ?_⟩
  rw [List.length_map]
  exact q.here st (s := .dat (.int _)) (.int _) p⟩
theorem jc_abs {i : Int} (p : P (.dat (.int (i.natAbs : Int)))) : JC E Γ (.builtin "abs") [.dat (.int i)] P := jc_of fun X g => ⟨_, call_abs, fun W M O H vs st oo Q q => by
  obtain ⟨v, rfl, o⟩ := sls1 oo
  cases o
  refine ⟨i, rfl, ?_⟩
  have e : (if i < 0 then -i else i) = (i.natAbs : Int) := by split <;> omega
  rw [e]
  exact q.here st (s := .dat (.int _)) (.int _) p⟩
theorem jc_max {i j : Int} (p : P (.dat (.int (max i j)))) : JC E Γ (.builtin "max") [.dat (.int i), .dat (.int j)] P := jc_of fun X g => ⟨_, call_max2 g.calm, fun W M O H vs st oo Q q => by
  obtain ⟨v, u, rfl, o, o'⟩ := sls2 oo
  cases o
  cases o'
  refine ⟨i, j, rfl, ?_⟩
  have e : (if j > i then j else i) = max i j := by split <;> omega
  rw [e]
  exact q.here st (s := .dat (.int _)) (.int _) p⟩
theorem jc_min {i j : Int} (p : P (.dat (.int (min i j)))) : JC E Γ (.builtin "min") [.dat (.int i), .dat (.int j)] P := jc_of fun X g => ⟨_, call_min2 g.calm, fun W M O H vs st oo Q q => by
  obtain ⟨v, u, rfl, o, o'⟩ := sls2 oo
  cases o
  cases o'
  refine ⟨i, j, rfl, ?_⟩
  have e : (if j < i then j else i) = min i j := by split <;> omega
  rw [e]
  exact q.here st (s := .dat (.int _)) (.int _) p⟩
theorem jc_int {i : Int} (p : P (.dat (.int i))) : JC E Γ (.type "int") [.dat (.int i)] P := jc_of fun X g => ⟨_, call_int1, fun W M O H vs st oo Q q => by
  obtain ⟨v, rfl, o⟩ := sls1 oo
  cases o
  exact .inl ⟨i, rfl, q.here st (s := .dat (.int _)) (.int _) p⟩⟩
theorem jc_gcd {i j : Int} (p : P (.dat (.int ((Nat.gcd i.natAbs j.natAbs : Nat) : Int)))) : JC E Γ (.builtin "math.gcd") [.dat (.int i), .dat (.int j)] P := jc_of fun X g => ⟨_, cr_gcd, fun W M O H vs st oo Q q => by
  obtain ⟨v, u, rfl, o, o'⟩ := sls2 oo
  cases o
  cases o'
  exact ⟨i, j, rfl, q.here st (s := .dat (.int _)) (.int _) p⟩⟩
theorem bls_of {K : PySem.W.Frag} {H : Hp} : ∀ {bs : List Bool} {vs : List V}, DqAll K H vs (bs.map .bool) → vs = bs.map V.bl
  | [], _, h => by cases h; rfl
  | b :: bs, _, h => by
    cases h with
    | cons h1 h2 =>
      cases h1
      rw [bls_of h2] <;> rfl
theorem jc_all {bs : List Bool} (p : P (.dat (.bool (bs.all id)))) : JC E Γ (.builtin "all") [.dat (.list (bs.map .bool))] P := jc_of fun X g => ⟨_, cr_all g.calm, fun W M O H vs st oo Q q => by
  obtain ⟨v, rfl, o⟩ := sls1 oo
  cases o with
  | lst h1 h2 =>
    have e := bls_of h2
    subst e
    exact ⟨_, bs, rfl, SqL.of (wo_sub _ _ _ _ h1), q.here st (s := .dat (.bool _)) (.bl _) p⟩⟩
theorem jc_any {bs : List Bool} (p : P (.dat (.bool (bs.any id)))) : JC E Γ (.builtin "any") [.dat (.list (bs.map .bool))] P := jc_of fun X g => ⟨_, cr_any g.calm, fun W M O H vs st oo Q q => by
  obtain ⟨v, rfl, o⟩ := sls1 oo
  cases o with
  | lst h1 h2 =>
    have e := bls_of h2
    subst e
    exact ⟨_, bs, rfl, SqL.of (wo_sub _ _ _ _ h1), q.here st (s := .dat (.bool _)) (.bl _) p⟩⟩
/-- tuple(xs): of a list of any kind a new one, of a tuple itself -/
theorem jc_tuple {s : Sl} {xs : List PyData} (h : seqD s = some xs) (p : P (.dat (.tuple xs))) : JC E Γ (.type "tuple") [s] P := jc_of fun X g => ⟨_, call_tuple_of, fun W M O H vs st oo Q q => by
  obtain ⟨v, rfl, o⟩ := sls1 oo
  obtain ⟨a, ys, rfl, h1, h2⟩ := seq_ok o h
  refine ⟨a, ys, rfl, ?_⟩
  rcases h1 with h1 | h1
  · exact .inl ⟨h1, fun r hr => q.new st hr (.tup (SqT.of upd_same) (dps_mono (same_new (wo_fresh hr)) _ _ h2)) p⟩
  · refine .inr ⟨h1, ?_⟩
    cases s with
    | dat d =>
      cases d with
      | tuple zs =>
        cases h
        exact q.here st (s := .dat (.tuple xs)) o p
      | list zs =>
        cases h
        cases o with
        | lst g1 g2 => exact q.here st (s := .dat (.tuple xs)) (.tup (h1.elim (fun r => r.elim (fun r => by rw [wo_sub _ _ _ _ g1] at r; cases r) (fun ⟨_, r⟩ => by rw [wo_sub _ _ _ _ g1] at r; cases r)) fun r => .inr r) h2) p
      | _ => cases h
    | own zs =>
      obtain ⟨b, ws, e1, e2, e3, e4⟩ := o
      cases e1
      exact q.here st (s := .dat (.tuple xs)) (.tup (h1.elim (fun r => r.elim (fun r => by rw [e3] at r; cases r) (fun ⟨_, r⟩ => by rw [e3] at r; cases r)) fun r => .inr r) h2) p
    | rd zs =>
      obtain ⟨b, ws, e1, e2, e3, e4, e5⟩ := o
      cases e1
      exact q.here st (s := .dat (.tuple xs)) (.tup (h1.elim (fun r => r.elim (fun r => by rw [e4] at r; cases r) (fun ⟨_, r⟩ => by rw [e4] at r; cases r)) fun r => .inr r) h2) p
    | _ => cases h⟩
theorem jc_list {s : Sl} {xs : List PyData} (h : seqD s = some xs) (p : P (.dat (.list xs))) : JC E Γ (.type "list") [s] P := jc_of fun X g => ⟨_, call_list_of, fun W M O H vs st oo Q q => by
  obtain ⟨v, rfl, o⟩ := sls1 oo
  obtain ⟨a, ys, rfl, h1, h2⟩ := seq_ok o h
  exact ⟨a, ys, rfl, h1, fun r hr => q.new st hr (.lst upd_same (dps_mono (same_new (wo_fresh hr)) _ _ h2)) p⟩⟩
theorem jc_divmod {i j : Int} (hc : CDiv i j) (p : P (.dat (.tuple [.int (i / j), .int (i % j)]))) : JC E Γ (.builtin "divmod") [.dat (.int i), .dat (.int j)] P := jc_of fun X g => ⟨_, call_divmod, fun W M O H vs st oo Q q => by
  obtain ⟨v, u, rfl, o, o'⟩ := sls2 oo
  cases o
  cases o'
  exact ⟨i, j, rfl, hc, fun r hr => q.new st hr (.tup (SqT.of upd_same) (.cons (.int _) (.cons (.int _) .nil))) p⟩⟩
/-! isinstance -/
def tyD : PyData → Option String
  | .none => some "NoneType"
  | .bool _ => some "bool"
  | .int _ => some "int"
  | .str _ => some "str"
  | .list _ => some "list"
  | .tuple _ => some "tuple"
  | .dict _ => none
theorem tyx_of {K : PySem.W.Frag} {H : Hp} {v : V} {d : PyData} {t : String} (h : Dq K H v d) (e : tyD d = some t) : TyX K H v (.type t) := by
  cases h with
  | non => cases e; exact .base .non
  | bl b => cases e; exact .base (.bl b)
  | int i => cases e; exact .base (.int i)
  | str x => cases e; exact .base (.str x)
  | lst h1 h2 => cases e; exact .base (.lst h1)
  | tup h1 h2 =>
    cases e
    rcases h1 with (h1 | ⟨o, h1⟩) | ⟨o, its, n, h1, h2, _⟩
    · exact .base (.tup h1)
    · exact .fTuple h1
    · exact .kTuple h1 h2
theorem jc_isi {d : PyData} {t T : String} {b : Bool} (h : tyD d = some t) (hk : kitB t T = some b) (p : P (.dat (.bool b))) : JC E Γ (.builtin "isinstance") [.dat d, .ty T] P := jc_of fun X g => ⟨_, call_isi, fun W M O H vs st oo Q q => by
  obtain ⟨v, u, rfl, o, o'⟩ := sls2 oo
  have e : u = .ty T := o'
  subst e
  exact ⟨v, .ty T, .type t, .type T, b, rfl, .ty T, tyx_of (dp_mono (wo_sub _ _) _ _ o) h, kit_ty hk, q.here st (s := .dat (.bool _)) (.bl _) p⟩⟩

/-! ### calls of defs -/
def toRd : Sl → Sl
  | .own ds => .rd ds
  | s => s
def spC (K : PySem.W.Frag) (C : List Sl → (PyData → Prop) → Prop) : Sp := fun vs H Q _ => ∃ W M ss P, Stt W M none H ∧ SlsOk K W M none H vs ss ∧ C ss P ∧ ∀ v d H', Ext W H H' → Stt W M none H' → Dq K (wo M H') v d → P d → Q v H'
structure Def (E : En) (k : Nat) (x : Str) (ps : List Str) (dv : List PyData) (C : List Sl → (PyData → Prop) → Prop) : Prop where
  ex : ∃ f fd dvs ds, FnOk E.P E.w E.K E.mg E.base CX0 k f fd ps (spC E.K C) ∧ E.mg x = some (.ref f) ∧ PySem.W.keepIn E.K (.ref f) = true ∧ Binds E.K fd ps ds ∧ Vals dvs ds ∧ ∀ H, DqAll E.K H dvs dv
theorem rd_ok {K : PySem.W.Frag} {W M : List Addr} {O : Option Addr} {H : Hp} {v : V} {s : Sl} (st : Stt W M O H) (h : SlOk K W M O H v s) : SlOk K W (mt O M) none H v (toRd s) := by
  cases s with
  | own ds =>
    obtain ⟨a, vs, h1, h2, h3, h4⟩ := h
    exact ⟨a, vs, h1, st.nw h2, fun z => (nomatch z), h3, h4⟩
  | rd ds =>
    obtain ⟨a, vs, h1, h2, h3, h4, h5⟩ := h
    exact ⟨a, vs, h1, h2, fun z => (nomatch z), h4, h5⟩
  | no => exact h
  | dat d => exact h
  | well => exact h
  | ty n => exact h
  | scr ns => exact h
theorem rds_ok {K : PySem.W.Frag} {W M : List Addr} {O : Option Addr} {H : Hp} (st : Stt W M O H) : ∀ {vs : List V} {ss : List Sl}, SlsOk K W M O H vs ss → SlsOk K W (mt O M) none H vs (ss.map toRd)
  | _, _, .nil => .nil
  | _, _, .cons h t => .cons (rd_ok st h) (rds_ok st t)
theorem dats_ok {K : PySem.W.Frag} {W M : List Addr} {O : Option Addr} {H : Hp} : ∀ {vs : List V} {ds : List PyData}, DqAll K (wo (mt O M) H) vs ds → SlsOk K W M O H vs (ds.map .dat)
  | _, [], h => by cases h; exact .nil
  | _, d :: ds, h => by
    cases h with
    | cons h1 h2 => exact .cons h1 (dats_ok h2)
theorem paired_app {α β : Type} {R : α → β → Prop} : ∀ {a : List α} {b : List β} {c : List α} {d : List β}, Paired R a b → Paired R c d → Paired R (a ++ c) (b ++ d)
  | _, _, _, _, .nil, h => h
  | _, _, _, _, .cons h t, k => .cons h (paired_app t k)
theorem Stt.call {W M : List Addr} {O : Option Addr} {H : Hp} (st : Stt W M O H) : Stt W (mt O M) none H := by
  refine ⟨fun a h => mem_mt (st.sub a h), st.wl, fun a h => ?_, fun a h => (nomatch h)⟩
  cases O with
  | none => exact st.dom a h
  | some b =>
    rcases List.mem_cons.mp h with h | h
    · rw [h]
      exact (st.own b rfl).2
    · exact st.dom a h
theorem Stt.back {W M : List Addr} {O : Option Addr} {H H' : Hp} (st : Stt W M O H) (s : Stt W (mt O M) none H') : Stt W M O H' :=
  ⟨st.sub, s.wl, fun a h => s.dom a (mem_mt h), fun a h => ⟨(st.own a h).1, s.dom a (by rw [h]; exact List.mem_cons_self)⟩⟩
theorem je_call {j : Nat} {ps : List Str} {dv : List PyData} {C : List Sl → (PyData → Prop) → Prop} (D : Def E j x ps dv C) (hk : j ≤ Γ.k) (hg : Glo Γ x) (h : JA E Γ ρ (e :: es) fun ss => C (ss.map toRd ++ dv.map .dat) fun d => P (.dat d)) (hd : (x == ("__debug__" : Str)) = false := by decide)
    (he : ∀ env, starEach (e :: es) env = (false, eval e env) :: starEach es env := by intro _; rfl) (hpl : ∀ env, (backTo pos (starEach es env)).any (·.1) = false := by intro _; rfl) : JE E Γ ρ (.Call (.Name x p) (e :: es) [] pos) P := je_of fun X g W M O σ H st en => by
  obtain ⟨f, fd, dvs, ds, F, h1, h2, h3, h4, h5⟩ := D.ex
  refine ⟨_, pe_call (g.fnok F) (g.room.mono hk) (g.gl hg) (by rw [g.mg]; exact h1) (by rw [g.K]; exact h2) (by rw [g.K]; exact h3) h4 pass0 (pa_se (es := e :: es)) hd (he _) (hpl _), fun Q q => ?_⟩
  refine h X g W M O σ H st en _ fun vs ss H1 e1 st1 o1 p1 => ?_
  refine ⟨W, mt O M, ss.map toRd ++ dv.map .dat, _, st1.call, ?_, p1, fun v d H' e2 st2 hv pd => ?_⟩
  · rw [← g.K]
    exact paired_app (rds_ok st1 o1) (dats_ok (O := none) (by rw [g.K]; exact h5 _))
  · refine q v (.dat d) H' (e1.trans e2) (st1.back st2) ?_ pd
    show Dq X.K (wo (mt O M) H') v d
    rw [g.K]
    exact hv
end
end W6
end
section
set_option Elab.async false
set_option linter.all false
set_option maxRecDepth 100000
set_option maxHeartbeats 4000000
/-! Iterators over lists and tuples in any mix: zip, enumerate. -/
namespace W6
open PySem PySem.Spec PyProof.Rows L2

/-! ### a list (true) or a tuple (false) -/
def SqK (b : Bool) (K : PySem.W.Frag) (H : Hp) (a : Addr) (xs : List V) : Prop := match b with
  | true => SqL K H a xs
  | false => SqT K H a xs
def SeqIs (b : Bool) (h : Heap) (a : Addr) (items : Array Value) : Prop := match b with
  | true => h.IsList a items
  | false => h.IsTuple a items
def ItAt (b : Bool) (h : Heap) (it a : Addr) (i : Nat) : Prop := match b with
  | true => h.IsListIter it a i
  | false => h.IsTupleIter it a i
def itObj (b : Bool) (a : Addr) : Obj := match b with
  | true => { cls := .type "list_iterator", data := .fields #[.ref a, .int 0 0] }
  | false => { cls := .type "tuple_iterator", data := .fields #[.ref a, .int 0 0] }
theorem begK (b : Bool) (a : Addr) (items : Array Value) : Begins (.ref a) (itObj b a) fun h => SeqIs b h a items := match b with
  | true => begins_list a items
  | false => begins_tuple a items
theorem drawK {prog : Program} {w : World} {A : Around} (b : Bool) (hh : A.handled = none) (it a : Addr) (hne : a ≠ it) (items : Array Value) :
    Draws prog w A it [it, a] items.size (fun i v => items[i]? = some v) fun i h => ItAt b h it a i ∧ SeqIs b h a items := match b with
  | true => Draws.list hh it a hne items
  | false => Draws.tuple hh it a hne items
theorem itAt_live {b : Bool} {h : Heap} {it a : Addr} {i : Nat} (x : ItAt b h it a i) : ∃ o, h.get? it = some o ∧ ∀ v, o.data ≠ .cell v := by
  cases b with
  | true =>
    obtain ⟨o, h1, h2, h3⟩ := x
    exact ⟨o, h1, fun v q => by rw [h3] at q; cases q⟩
  | false =>
    obtain ⟨o, h1, h2, h3⟩ := x
    exact ⟨o, h1, fun v q => by rw [h3] at q; cases q⟩
theorem itAt_keep {b : Bool} {h h' : Heap} {it a : Addr} {i : Nat} (x : ItAt b h it a i) (k : ∀ o, h.get? it = some o → h'.get? it = some o) : ItAt b h' it a i := by
  cases b with
  | true => exact Heap.IsListIter.at x k
  | false => exact Heap.IsTupleIter.at x k
theorem itAt_new {b : Bool} {h : Heap} {it a : Addr} (x : h.get? it = some (itObj b a)) : ItAt b h it a 0 := by
  cases b with
  | true => exact ⟨_, x, rfl, rfl⟩
  | false => exact ⟨_, x, rfl, rfl⟩
section
variable {X : Cx} {pins : List (Addr × Obj)} {σ : L2.St} {H : Hp} {s : Shared}
theorem inv_seq (I : Inv X pins σ H s) {b : Bool} {a : Addr} {xs : List V} (h : SqK b X.K H a xs) : ∃ its : List Value, Vals xs its ∧ SeqIs b s.heap a its.toArray ∧ a < s.heap.objs.size := by
  cases b with
  | true =>
    obtain ⟨its, r, p, _⟩ := I.list h
    exact ⟨its, r, p.isList, p.lt⟩
  | false =>
    obtain ⟨its, r, p, _⟩ := I.tuple h
    exact ⟨its, r, p, p.lt⟩
theorem inv_inj (I : Inv X pins σ H s) {b : Bool} {a : Addr} {xs ys : List V} (h : SqK b X.K H a xs) (h' : SqK b X.K H a ys) : xs = ys := by
  cases b with
  | true => exact I.list_inj h h'
  | false => exact I.tuple_inj h h'
end

/-! ### zip -/
def ItzK (K : PySem.W.Frag) (k1 k2 : Bool) (a b : Addr) : It :=
  ⟨fun i H => ∃ (xs ys : List V) (x y : V), SqK k1 K H a xs ∧ SqK k2 K H b ys ∧ xs[i]? = some x ∧ ys[i]? = some y,
    fun i H v H' => ∃ T x y, v = .ref T ∧ H T = none ∧ H' = upd H T (.tup [x, y]) ∧ (∀ xs, SqK k1 K H a xs → xs[i]? = some x) ∧ ∀ ys, SqK k2 K H b ys → ys[i]? = some y,
    fun i H => ∃ xs ys : List V, SqK k1 K H a xs ∧ SqK k2 K H b ys ∧ i = min xs.length ys.length⟩
theorem turn_zipK {P : Program} {w : World} {K : PySem.W.Frag} {elts : List Expr} {kk : Nat} {tpos : Pos} {k1 k2 : Bool} {a b z TI TO i1 i2 : Addr} (D : ZipSep2 z TI TO i1 i2 [i1, a] [i2, b]) (na : a ≠ i1) (nb : b ≠ i2) :
    Turn P w K (.Tuple elts kk tpos) (ItzK K k1 k2 a b) [z, TI, TO, i1, i2] z (fun i h => IsZip h z TI TO .none ∧ IsTupOf2 h TI (.ref i1) (.ref i2) ∧ (∃ a1 a2, IsTupOf2 h TO a1 a2) ∧ ItAt k1 h i1 a i ∧ ItAt k2 h i2 b i) where
  mem := by simp
  obj := fun i h st c hc => by
    obtain ⟨hz, hTI, ⟨x, y, hTO⟩, h1, h2⟩ := st
    simp only [List.mem_cons, List.not_mem_nil, or_false] at hc
    rcases hc with q | q | q | q | q
    · exact ⟨_, by rw [q]; exact hz, fun v q => by cases q⟩
    · exact ⟨_, by rw [q]; exact hTI, fun v q => by cases q⟩
    · exact ⟨_, by rw [q]; exact hTO, fun v q => by cases q⟩
    · rw [q]; exact itAt_live h1
    · rw [q]; exact itAt_live h2
  keep := fun i h h' st k => by
    obtain ⟨hz, hTI, ⟨x, y, hTO⟩, h1, h2⟩ := st
    exact ⟨k z (by simp) _ hz, k TI (by simp) _ hTI, ⟨x, y, k TO (by simp) _ hTO⟩, itAt_keep h1 (k i1 (by simp)), itAt_keep h2 (k i2 (by simp))⟩
  item := by
    intro X hP hw hK hc i pins s σ H E I hf st hg
    subst hP hw hK
    obtain ⟨xs, ys, x, y, hqx, hqy, hx, hy⟩ := hg
    obtain ⟨its, rv, p, _⟩ := inv_seq I hqx
    obtain ⟨its2, rv2, p2, _⟩ := inv_seq I hqy
    have st0 := st
    obtain ⟨hz, hTI, hTO, h1, h2⟩ := st
    have l1 := rv.length
    have l2 := rv2.length
    have g1 : i < xs.length := (List.getElem?_eq_some_iff.mp hx).1
    have g2 : i < ys.length := (List.getElem?_eq_some_iff.mp hy).1
    refine (GoesN.zip2 D (drawK (A := X.A.in1) k1 (I.ok.hd hc) i1 a na its.toArray) (drawK (A := X.A.in1) k2 (I.ok.hd hc) i2 b nb its2.toArray)).goes i s _ E ?_ ⟨hz, hTI, hTO, ⟨h1, p⟩, ⟨h2, p2⟩⟩ fun v h' tk hY st' hk htk => ?_
    · simp only [List.size_toArray]
      omega
    · obtain ⟨T, u, u2, rfl, hT, hu, hu2, hTup⟩ := hY
      obtain ⟨ux, e1, ru⟩ := rv.get hx
      obtain ⟨uy, e2, ru2⟩ := rv2.get hy
      have hu' : its[i]? = some u := by simpa using hu
      have hu2' : its2[i]? = some u2 := by simpa using hu2
      rw [hu'] at e1
      cases e1
      rw [hu2'] at e2
      cases e2
      have new : ObjOk X.prog X.w (upd H T (.tup [x, y])) h' T (.tup [x, y]) := ⟨by show 2 ≤ sizeLine; decide, [u, u2], .cons ru (.cons ru2 .nil), hTup⟩
      have hn : H T = none := I.hok.fresh hT
      have I1 : Inv X pins σ (upd H T (.tup [x, y])) { s with heap := h', toks := tk } := I.turnedNew (ch := [z, TO, i1, i2]) hk (fun c hc => hf c (by
        simp only [List.mem_cons, List.not_mem_nil, or_false] at hc ⊢
        rcases hc with q | q | q | q
        · exact .inl q
        · exact .inr (.inr (.inl q))
        · exact .inr (.inr (.inr (.inl q)))
        · exact .inr (.inr (.inr (.inr q))))) hT new
      obtain ⟨sz, sTI, sTO, s1, s2⟩ := st'
      refine ⟨.ref T, _, I1, rfl, ⟨T, x, y, rfl, hn, rfl, fun l hl => by rw [inv_inj I hl hqx]; exact hx, fun l hl => by rw [inv_inj I hl hqy]; exact hy⟩, ⟨sz, sTI, sTO, s1.1, s2.1⟩, fun c hcm => ?_⟩
      have ho : ∃ o, s.heap.get? c = some o := by
        have hcm2 := hcm
        simp only [List.mem_cons, List.not_mem_nil, or_false] at hcm2
        obtain ⟨a1, a2, hTO⟩ := hTO
        rcases hcm2 with q | q | q | q | q
        · exact ⟨_, by rw [q]; exact hz⟩
        · exact ⟨_, by rw [q]; exact hTI⟩
        · exact ⟨_, by rw [q]; exact hTO⟩
        · rw [q]
          obtain ⟨o, e, _⟩ := itAt_live h1
          exact ⟨o, e⟩
        · rw [q]
          obtain ⟨o, e, _⟩ := itAt_live h2
          exact ⟨o, e⟩
      obtain ⟨o, e⟩ := ho
      rw [upd_ne (Nat.ne_of_lt (Nat.lt_of_lt_of_le (Heap.lt_size e) hT))]
      exact (hf c hcm).1
  done := by
    intro X hP hw hK hc i pins s σ H E I hf st hg
    subst hP hw hK
    obtain ⟨xs, ys, hqx, hqy, hi⟩ := hg
    obtain ⟨its, rv, p, _⟩ := inv_seq I hqx
    obtain ⟨its2, rv2, p2, _⟩ := inv_seq I hqy
    obtain ⟨hz, hTI, hTO, h1, h2⟩ := st
    have l1 := rv.length
    have l2 := rv2.length
    have e : i = min its.toArray.size its2.toArray.size := by
      simp only [List.size_toArray]
      omega
    subst e
    refine (GoesN.zip2 (elts := elts) (x1 := kk) (pos := tpos) D (drawK (A := X.A.in1) k1 (I.ok.hd hc) i1 a na its.toArray) (drawK (A := X.A.in1) k2 (I.ok.hd hc) i2 b nb its2.toArray)).stops s _ E ⟨hz, hTI, hTO, ⟨h1, p⟩, ⟨h2, p2⟩⟩ fun h' tk hk htk => ?_
    exact I.turnedL (ch := [z, TO, i1, i2]) hk fun c hc => hf c (by
      simp only [List.mem_cons, List.not_mem_nil, or_false] at hc ⊢
      rcases hc with q | q | q | q
      · exact .inl q
      · exact .inr (.inr (.inl q))
      · exact .inr (.inr (.inr (.inl q)))
      · exact .inr (.inr (.inr (.inr q))))
  self := fun A i s Q E st h => wpAny_pyIter_zip st.1 h
def iZipK (K : PySem.W.Frag) (ta : TA) : TI := fun σ H R => ta σ H fun vs H1 => ∃ k1 k2 a b xs ys, vs = [.ref a, .ref b] ∧ SqK k1 K H1 a xs ∧ SqK k2 K H1 b ys ∧ R (ItzK K k1 k2 a b) H1
theorem fresh_fp {X : Cx} {pins : List (Addr × Obj)} {σ : L2.St} {H : Hp} {s : Shared} (I : Inv X pins σ H s) {n : Nat} {l : List Addr} (hl : ∀ b ∈ l, ∃ i, b = s.heap.objs.size + i) : ∀ b ∈ l, FpOk X pins H b := fun b hb => by
  obtain ⟨i, e⟩ := hl b hb
  have hle : s.heap.objs.size ≤ b := by rw [e]; exact Nat.le_add_right _ _
  exact I.fpOk hle (I.hok.fresh hle)
theorem pi_zipK {X : Cx} {e e2 : Expr} {ta : TA} {p pos tpos : Pos} {elts : List Expr} {kk : Nat} (hg : Gl X "zip") (hm : X.mg "zip" = none) (ha : PA X [e, e2] ta)
    (hs : starEach [e, e2] X.env = (false, eval e X.env) :: starEach [e2] X.env := by rfl) (hpl : (backTo pos (starEach [e2] X.env)).any (·.1) = false := by rfl) :
    PI X (.Tuple elts kk tpos) (.Call (.Name "zip" p) [e, e2] [] pos) (iZipK X.K ta) := by
  refine ⟨fun pins s σ H R I h => ?_⟩
  refine Call_ (ld_blt I hg hm PyProof.Rows.boot_zip (PyProof.Rows.callWith_type1 (thn (ha.run pos pins s σ H _ I h) fun us s1 ⟨vs, H1, I1, r1, q1⟩ => ?_) hs hpl))
  obtain ⟨k1, k2, a, b, xs, ys, ex, hqx, hqy, q⟩ := q1
  subst ex
  obtain ⟨u1, u2, rfl, r2, r3⟩ := vals2 r1
  cases r2
  cases r3
  obtain ⟨its, rv, p1, la⟩ := inv_seq I1 hqx
  obtain ⟨its2, rv2, p2, lb⟩ := inv_seq I1 hqy
  refine zip_begins2 (begK k1 a its.toArray) (begK k2 b its2.toArray) p1 p2 fun h' hz hTI hTO h1 h2 hsz hk => wpAny_pyIter_zip hz ?_
  have I2 : Inv X pins σ H1 { s1 with heap := h' } := I1.kept (t' := s1.toks) hk
  have D : ZipSep2 (s1.heap.objs.size + 4) (s1.heap.objs.size + 2) (s1.heap.objs.size + 3) s1.heap.objs.size (s1.heap.objs.size + 1) [s1.heap.objs.size, a] [s1.heap.objs.size + 1, b] :=
    zip_sep2 (fun c hc => by rw [List.mem_singleton.mp hc]; exact la) fun c hc => by rw [List.mem_singleton.mp hc]; exact lb
  refine ⟨s1.heap.objs.size + 4, [s1.heap.objs.size + 4, s1.heap.objs.size + 2, s1.heap.objs.size + 3, s1.heap.objs.size, s1.heap.objs.size + 1], _, _, H1, rfl, I2, turn_zipK (k1 := k1) (k2 := k2) D (Nat.ne_of_lt la) (Nat.ne_of_lt (Nat.lt_succ_of_lt lb)),
    ⟨hz, hTI, ⟨_, _, hTO⟩, itAt_new h1, itAt_new h2⟩, fun c hc => ?_, q⟩
  have hle : s1.heap.objs.size ≤ c := by
    simp only [List.mem_cons, List.not_mem_nil, or_false] at hc
    rcases hc with q | q | q | q | q <;> rw [q] <;> first | exact Nat.le_add_right _ _ | exact Nat.le_refl _
  exact I1.fpOk hle (I1.hok.fresh hle)

/-! ### enumerate -/
theorem meets_enumK (b : Bool) (a : Addr) (items : Array Value) :
    Meets (Builtin.«enumerate.__new__» ⟨[.type "enumerate", .ref a], []⟩) (fun _ R s => SeqIs b s.heap a items ∧
      R (.ok (.ret (.ref (s.heap.push (itObj b a)).objs.size))) { s with heap := (s.heap.push (itObj b a)).push { cls := .type "enumerate", data := .fields #[.none, .bool false, .ref s.heap.objs.size, rawInt 0, .none, .none] } }) :=
  .of_wp fun prog w A R s h => by
    obtain ⟨hp, g, d, tk, os⟩ := s
    obtain ⟨h1, h⟩ := h
    have hsub := sub_enumerate
    have q1 : ∀ {A' : Around} {E : Value → Shared → Prop} {Q : Value → Shared → Prop}, Q (.ref hp.objs.size) ⟨hp.push (itObj b a), g, d, tk, os⟩ → wpAny (model prog w) A' (pyIter (.ref a)) Q E ⟨hp, g, d, tk, os⟩ :=
      fun q => (begK b a items).iter prog w _ _ ⟨hp, g, d, tk, os⟩ _ h1 q
    wp_walk using q1
    refine wpAny_stack_any fun st => wpAny_pure ?_
    split
    · rename_i c _ _ _ _ _
      cases (c == Value.type "enumerate")
      · wp_walk using q1
        exact ⟨_, rfl, h⟩
      · wp_walk using q1
        exact ⟨_, rfl, h⟩
    · wp_walk using q1
      exact ⟨_, rfl, h⟩
theorem call_enumK {prog : Program} {w : World} {A : Around} {E : Value → Shared → Prop} {s : Shared} {b : Bool} {a : Addr} {items : Array Value} {Q : Value → Shared → Prop} (hL : SeqIs b s.heap a items)
    (h : ∀ h', IsEnum h' (s.heap.objs.size + 1) s.heap.objs.size 0 .none → h'.get? s.heap.objs.size = some (itObj b a) → (∀ b o, s.heap.get? b = some o → h'.get? b = some o) → Q (.ref (s.heap.objs.size + 1)) { s with heap := h' }) :
    wpAny (model prog w) A (call (.type "enumerate") [.ref a]) Q E s := by
  refine callType_new F.called_enumerate (by decide) (F.typeCall_enumerate_1 _) (F.newCall_enumerate_1 _) (fun obj => F.args_object_init_2 obj _) F.entry_enumerate_new (meets_enumK b a items) ⟨hL, ?_⟩
  have hz : (s.heap.push (itObj b a)).objs.size = s.heap.objs.size + 1 := Heap.size_push ..
  show _ ∧ _
  rw [hz]
  have he : IsEnum ((s.heap.push (itObj b a)).push { cls := .type "enumerate", data := .fields #[.none, .bool false, .ref s.heap.objs.size, rawInt 0, .none, .none] }) (s.heap.objs.size + 1) s.heap.objs.size 0 .none := by
    have := Heap.get?_push_size (s.heap.push (itObj b a)) (o := { cls := .type "enumerate", data := .fields #[.none, .bool false, .ref s.heap.objs.size, rawInt 0, .none, .none] }) rfl
    rw [hz] at this
    exact this
  exact ⟨⟨_, he, rfl⟩, h _ he (Heap.get?_push_of_some _ (Heap.get?_push_size _ (begK b a items).free)) fun c o x => Heap.get?_push_of_some _ (Heap.get?_push_of_some _ x)⟩
def IteK (K : PySem.W.Frag) (k : Bool) (a : Addr) : It :=
  ⟨fun i H => ∃ (xs : List V) (x : V), SqK k K H a xs ∧ xs[i]? = some x, fun i H v H' => ∃ T x, v = .ref T ∧ H T = none ∧ H' = upd H T (.tup [.int (i : Nat), x]) ∧ ∀ xs, SqK k K H a xs → xs[i]? = some x, fun i H => ∃ xs : List V, SqK k K H a xs ∧ i = xs.length⟩
theorem turn_enumK {P : Program} {w : World} {K : PySem.W.Frag} {elts : List Expr} {kk : Nat} {tpos : Pos} {k : Bool} {a e it : Addr} (h1 : e ≠ it) (h2 : e ∉ [it, a]) (na : a ≠ it) :
    Turn P w K (.Tuple elts kk tpos) (IteK K k a) [e, it] e (fun i h => (∃ old, IsEnum h e it ((0 : Int) + (i : Int)) old) ∧ ItAt k h it a i) where
  mem := by simp
  obj := fun i h st c hc => by
    obtain ⟨⟨old, he⟩, hi⟩ := st
    simp only [List.mem_cons, List.not_mem_nil, or_false] at hc
    rcases hc with q | q
    · exact ⟨_, by rw [q]; exact he, fun v q => by cases q⟩
    · rw [q]; exact itAt_live hi
  keep := fun i h h' st k => by
    obtain ⟨⟨old, he⟩, hi⟩ := st
    exact ⟨⟨old, k e (by simp) _ he⟩, itAt_keep hi (k it (by simp))⟩
  item := by
    intro X hP hw hK hc i pins s σ H E I hf st hg
    subst hP hw hK
    obtain ⟨xs, x, hqx, hx⟩ := hg
    obtain ⟨its, rv, p, _⟩ := inv_seq I hqx
    obtain ⟨he, hi⟩ := st
    have l1 := rv.length
    have g1 : i < xs.length := (List.getElem?_eq_some_iff.mp hx).1
    refine (GoesN.enumFrom 0 (drawK (A := X.A.in1) k (I.ok.hd hc) it a na its.toArray) e h1 h2 (by simp)).goes i s _ E ?_ ⟨he, hi, p⟩ fun v h' tk hY st' hk htk => ?_
    · simp only [List.size_toArray]
      omega
    · obtain ⟨T, t, u, rfl, hT, hu, hTup⟩ := hY
      obtain ⟨ux, e1, ru⟩ := rv.get hx
      have hu' : its[i]? = some u := by simpa using hu
      rw [hu'] at e1
      cases e1
      have e0 : (0 : Int) + (i : Int) = (i : Int) := Int.zero_add _
      rw [e0] at hTup
      have new : ObjOk X.prog X.w (upd H T (.tup [.int (i : Nat), x])) h' T (.tup [.int (i : Nat), x]) := ⟨by show 2 ≤ sizeLine; decide, [.int i t, u], .cons ⟨_, rfl⟩ (.cons ru .nil), hTup⟩
      have hn : H T = none := I.hok.fresh hT
      have I1 : Inv X pins σ (upd H T (.tup [.int (i : Nat), x])) { s with heap := h', toks := tk } := I.turnedNew (ch := [e, it]) hk hf hT new
      refine ⟨.ref T, _, I1, rfl, ⟨T, x, rfl, hn, rfl, fun l hl => by rw [inv_inj I hl hqx]; exact hx⟩, ⟨st'.1, st'.2.1⟩, fun c hcm => ?_⟩
      have ho : ∃ o, s.heap.get? c = some o := by
        have hcm2 := hcm
        simp only [List.mem_cons, List.not_mem_nil, or_false] at hcm2
        obtain ⟨old, he⟩ := he
        rcases hcm2 with q | q
        · exact ⟨_, by rw [q]; exact he⟩
        · rw [q]
          obtain ⟨o, e, _⟩ := itAt_live hi
          exact ⟨o, e⟩
      obtain ⟨o, e⟩ := ho
      rw [upd_ne (Nat.ne_of_lt (Nat.lt_of_lt_of_le (Heap.lt_size e) hT))]
      exact (hf c hcm).1
  done := by
    intro X hP hw hK hc i pins s σ H E I hf st hg
    subst hP hw hK
    obtain ⟨xs, hqx, hi⟩ := hg
    obtain ⟨its, rv, p, _⟩ := inv_seq I hqx
    obtain ⟨he, h3⟩ := st
    have l1 := rv.length
    have e : i = its.toArray.size := by
      simp only [List.size_toArray]
      omega
    subst e
    refine (GoesN.enumFrom (elts := elts) (x1 := kk) (pos := tpos) 0 (drawK (A := X.A.in1) k (I.ok.hd hc) it a na its.toArray) e h1 h2 (by simp)).stops s _ E ⟨he, h3, p⟩ fun h' tk hk htk => ?_
    exact I.turnedL (ch := [e, it]) hk hf
  self := fun A i s Q E st h => let ⟨⟨_, he⟩, _⟩ := st; wpAny_pyIter_enum he h
def iEnumK (K : PySem.W.Frag) (ta : TA) : TI := fun σ H R => ta σ H fun vs H1 => ∃ k a xs, vs = [.ref a] ∧ SqK k K H1 a xs ∧ R (IteK K k a) H1
theorem pi_enumK {X : Cx} {e : Expr} {ta : TA} {p pos tpos : Pos} {elts : List Expr} {kk : Nat} (hg : Gl X "enumerate") (hm : X.mg "enumerate" = none) (ha : PA X [e] ta) (hs : starEach [e] X.env = [(false, eval e X.env)] := by rfl) :
    PI X (.Tuple elts kk tpos) (.Call (.Name "enumerate" p) [e] [] pos) (iEnumK X.K ta) := by
  refine ⟨fun pins s σ H R I h => ?_⟩
  refine Call_ (ld_blt I hg hm boot_enumerate (PyProof.Rows.callWith_type1 (thn (ha.run pos pins s σ H _ I h) fun us s1 ⟨vs, H1, I1, r1, q1⟩ => ?_) hs rfl))
  obtain ⟨k, a, xs, ex, hq, q⟩ := q1
  subst ex
  obtain ⟨u1, rfl, r2⟩ := vals1 r1
  cases r2
  obtain ⟨its, rv, p1, la⟩ := inv_seq I1 hq
  refine call_enumK p1 fun h' he hit hk => wpAny_pyIter_enum he ?_
  have I2 : Inv X pins σ H1 { s1 with heap := h' } := I1.kept (t' := s1.toks) hk
  refine ⟨s1.heap.objs.size + 1, [s1.heap.objs.size + 1, s1.heap.objs.size], _, _, H1, rfl, I2, turn_enumK (k := k) (a := a) (Nat.succ_ne_self _) (fun hm => ?_) (Nat.ne_of_lt la), ⟨⟨.none, ?_⟩, itAt_new hit⟩, fun c hc => ?_, q⟩
  · rcases List.mem_cons.mp hm with z | z
    · exact Nat.succ_ne_self _ z
    · have z' : s1.heap.objs.size + 1 = a := List.mem_singleton.mp z
      exact absurd (z' ▸ la) (Nat.not_lt.mpr (Nat.le_succ _))
  · exact he
  · have hle : s1.heap.objs.size ≤ c := by
      simp only [List.mem_cons, List.not_mem_nil, or_false] at hc
      rcases hc with q | q <;> rw [q] <;> first | exact Nat.le_add_right _ _ | exact Nat.le_refl _
    exact I1.fpOk hle (I1.hok.fresh hle)
end W6
end
section
set_option Elab.async false
set_option linter.all false
set_option maxRecDepth 100000
set_option maxHeartbeats 4000000
/-! Rules of the layer: iterators, comprehensions, statements, defs. -/
namespace W6
open PySem PySem.Spec PyProof.Rows L2
section
variable {E : En} {Γ : Ctx} {ρ : List Sl} {pos : Pos} {P : Sl → Prop}

/-! ### what is walked -/
theorem ji_of {tg iter : Expr} {R : List PyData → Prop} (h : ∀ X, Good E Γ X → ∀ W M O σ H, Stt W M O H → EnvOk X.K W M O H σ ρ → ∃ wi, PI X tg iter wi ∧ ∀ R' : It → Hp → Prop, (∀ J items H2, Ext W H H2 → Stt W M O H2 → ItD X.K W M O H2 J items → R items → R' J H2) → wi σ H R') : JI E Γ ρ tg iter R := fun X g W M O σ H st en R' q => by
  obtain ⟨wi, h1, h2⟩ := h X g W M O σ H st en
  exact fun pins s I => h1.run pins s σ H R' I (h2 R' q)
theorem JI.imp {tg iter : Expr} {R R' : List PyData → Prop} (h : JI E Γ ρ tg iter R) (k : ∀ ds, R ds → R' ds) : JI E Γ ρ tg iter R' := fun X g W M O σ H st en Q q => h X g W M O σ H st en Q fun J items H2 a b c p => q J items H2 a b c (k items p)
/-- data that is a list or a tuple -/
def sq2 : PyData → Option (Bool × List PyData)
  | .list xs => some (true, xs)
  | .tuple xs => some (false, xs)
  | _ => none
theorem sq2_ok {K : PySem.W.Frag} {H : Hp} {v : V} {d : PyData} {b : Bool} {xs : List PyData} (h : Dq K H v d) (e : sq2 d = some (b, xs)) : ∃ a vs, v = .ref a ∧ SqK b K H a vs ∧ DqAll K H vs xs := by
  cases h with
  | lst h1 h2 =>
    cases e
    exact ⟨_, _, rfl, SqL.of h1, h2⟩
  | tup h1 h2 =>
    cases e
    exact ⟨_, _, rfl, h1, h2⟩
  | _ => cases e
theorem sqK_same {b : Bool} {K : PySem.W.Frag} {H H' : Hp} {a : Addr} {xs : List V} (e : Same H H') (h : SqK b K H a xs) : SqK b K H' a xs := by
  cases b with
  | true => exact e.seq h
  | false => exact seqT e h
theorem itd_seq {K : PySem.W.Frag} {W M : List Addr} {O : Option Addr} {H : Hp} {a : Addr} {vs : List V} {ds : List PyData} (st : Stt W M O H) (h : SqL K (wo (mt O M) H) a vs) (hs : DqAll K (wo (mt O M) H) vs ds) : ItD K W M O H (Itl K a) ds := fun L hL H' e st' i => by
  have k := wo_more st e hL
  have h' : SqL K H' a vs := (wo_sub _ _).seq (k.seq h)
  refine ⟨fun hi => ⟨vs, h', by rw [dps_len hs, hi]; exact Nat.le_refl _⟩, fun d hd => ?_⟩
  obtain ⟨v, h1, h2⟩ := dps_get hs hd
  refine ⟨⟨vs, v, h', h1⟩, fun x H'' y => ?_⟩
  obtain ⟨rfl, y⟩ := y
  have e1 := y vs h'
  rw [h1] at e1
  cases e1
  exact ⟨Same.refl _, dp_mono k _ _ h2⟩
theorem itd_tup {K : PySem.W.Frag} {W M : List Addr} {O : Option Addr} {H : Hp} {a : Addr} {vs : List V} {ds : List PyData} (st : Stt W M O H) (h : SqT K (wo (mt O M) H) a vs) (hs : DqAll K (wo (mt O M) H) vs ds) : ItD K W M O H (Itt K a) ds := fun L hL H' e st' i => by
  have k := wo_more st e hL
  have h' : SqT K H' a vs := seqT (wo_sub _ _) (seqT k h)
  refine ⟨fun hi => ⟨vs, h', by rw [dps_len hs, hi]; exact Nat.le_refl _⟩, fun d hd => ?_⟩
  obtain ⟨v, h1, h2⟩ := dps_get hs hd
  refine ⟨⟨vs, v, h', h1⟩, fun x H'' y => ?_⟩
  obtain ⟨rfl, y⟩ := y
  have e1 := y vs h'
  rw [h1] at e1
  cases e1
  exact ⟨Same.refl _, dp_mono k _ _ h2⟩
theorem ji_list {tg e : Expr} {R : List PyData → Prop} (h : JE E Γ ρ e fun s => ∃ ds, s = .dat (.list ds) ∧ R ds) : JI E Γ ρ tg e R := ji_of fun X g W M O σ H st en =>
  ⟨_, pi_list (pe_se (e := e)), fun R' q => h X g W M O σ H st en _ fun v s H1 e1 st1 o1 p1 => by
    obtain ⟨ds, rfl, p⟩ := p1
    cases o1 with
    | lst h1 h2 => exact ⟨_, rfl, ⟨_, SqL.of (wo_sub _ _ _ _ h1)⟩, q _ ds H1 e1 st1 (itd_seq st1 (SqL.of h1) h2) p⟩⟩
theorem ji_tup {tg e : Expr} {R : List PyData → Prop} (h : JE E Γ ρ e fun s => ∃ ds, s = .dat (.tuple ds) ∧ R ds) : JI E Γ ρ tg e R := ji_of fun X g W M O σ H st en =>
  ⟨_, pi_tup (pe_se (e := e)), fun R' q => h X g W M O σ H st en _ fun v s H1 e1 st1 o1 p1 => by
    obtain ⟨ds, rfl, p⟩ := p1
    cases o1 with
    | tup h1 h2 => exact ⟨_, rfl, ⟨_, seqT (wo_sub _ _) h1⟩, q _ ds H1 e1 st1 (itd_tup st1 h1 h2) p⟩⟩
theorem itd_range {K : PySem.W.Frag} {W M : List Addr} {O : Option Addr} {H : Hp} (lo : Int) (n : Nat) : ItD K W M O H (Itr lo n) ((List.range n).map fun (i : Nat) => .int (lo + (i : Int))) := fun L hL H' e st' i => by
  refine ⟨fun hi => ?_, fun d hd => ?_⟩
  · rw [List.length_map, List.length_range] at hi
    show n ≤ i
    omega
  · rw [List.getElem?_map] at hd
    obtain ⟨j, hj, rfl⟩ := Option.map_eq_some_iff.mp hd
    obtain ⟨hl, e2⟩ := List.getElem?_eq_some_iff.mp hj
    rw [List.length_range] at hl
    rw [List.getElem_range] at e2
    subst e2
    refine ⟨hl, fun x H'' y => ?_⟩
    obtain ⟨rfl, rfl⟩ := y
    exact ⟨Same.refl _, .int _⟩
theorem ji_range1 {tg a : Expr} {p : Pos} {R : List PyData → Prop} (hm : E.mg "range" = none) (hg : Glo Γ "range") (h : JE E Γ ρ a fun s => ∃ n : Nat, s = .dat (.int (n : Int)) ∧ n ≤ 100000 ∧ R ((List.range n).map fun (i : Nat) => .int (i : Int))) (hs : ∀ env, starEach [a] env = [(false, eval a env)] := by intro _; rfl) : JI E Γ ρ tg (.Call (.Name "range" p) [a] [] pos) R := ji_of fun X g W M O σ H st en =>
  ⟨_, pi_range1 (g.gl hg) (by rw [g.mg]; exact hm) (pa_cons (pe_se (e := a)) pa_nil (hs _)) (hs _), fun R' q => h X g W M O σ H st en _ fun v s H1 e1 st1 o1 p1 => by
    obtain ⟨n, rfl, hn, p⟩ := p1
    cases o1
    refine ⟨(n : Int), rfl, by omega, by omega, ?_⟩
    rw [Int.toNat_natCast]
    have k := q _ _ H1 e1 st1 (itd_range 0 n)
    simp only [Int.zero_add] at k
    exact k p⟩
theorem ji_range2 {tg a b : Expr} {p : Pos} {R : List PyData → Prop} (hm : E.mg "range" = none) (hg : Glo Γ "range") (h : JE E Γ ρ a fun s => JE E Γ ρ b fun t => ∃ i j : Int, s = .dat (.int i) ∧ t = .dat (.int j) ∧ (-100000 ≤ i ∧ i ≤ 100000 ∧ -100000 ≤ j ∧ j ≤ 100000) ∧ R ((List.range (j - i).toNat).map fun (k : Nat) => .int (i + (k : Int))))
    (hs : ∀ env, starEach [a, b] env = [(false, eval a env), (false, eval b env)] := by intro _; rfl) (hs2 : ∀ env, starEach [b] env = [(false, eval b env)] := by intro _; rfl) : JI E Γ ρ tg (.Call (.Name "range" p) [a, b] [] pos) R := ji_of fun X g W M O σ H st en =>
  ⟨_, pi_range2 (g.gl hg) (by rw [g.mg]; exact hm) (pa_cons (pe_se (e := a)) (pa_cons (pe_se (e := b)) pa_nil (hs2 _)) (by rw [hs, hs2])) (hs _) (hs2 _), fun R' q => h X g W M O σ H st en _ fun v s H1 e1 st1 o1 p1 => p1 X g W M O σ H1 st1 (en.mono st e1) _ fun v2 s2 H2 e2 st2 o2 p2 => by
    obtain ⟨i, j, rfl, rfl, hij, p⟩ := p2
    cases o1
    cases o2
    exact ⟨i, j, rfl, ⟨by omega, by omega, by omega, by omega⟩, q _ _ H2 (e1.trans e2) st2 (itd_range i _) p⟩⟩
/-- what zip gives -/
def zipD (xs ys : List PyData) : List PyData := List.zipWith (fun x y => .tuple [x, y]) xs ys
theorem itd_zip {K : PySem.W.Frag} {W M : List Addr} {O : Option Addr} {H : Hp} {k1 k2 : Bool} {a b : Addr} {vs ws : List V} {xs ys : List PyData} (st : Stt W M O H) (h1 : SqK k1 K (wo (mt O M) H) a vs) (h2 : SqK k2 K (wo (mt O M) H) b ws) (a1 : DqAll K (wo (mt O M) H) vs xs) (a2 : DqAll K (wo (mt O M) H) ws ys) :
    ItD K W M O H (ItzK K k1 k2 a b) (zipD xs ys) := fun L hL H' e st' i => by
  have k := wo_more st e hL
  have g1 : SqK k1 K H' a vs := sqK_same (wo_sub _ _) (sqK_same k h1)
  have g2 : SqK k2 K H' b ws := sqK_same (wo_sub _ _) (sqK_same k h2)
  have l1 := dps_len a1
  have l2 := dps_len a2
  refine ⟨fun hi => ⟨vs, ws, g1, g2, ?_⟩, fun d hd => ?_⟩
  · unfold zipD at hi
    rw [List.length_zipWith] at hi
    omega
  · unfold zipD at hd
    rw [List.getElem?_zipWith] at hd
    cases hx : xs[i]? with
    | none => rw [hx] at hd; simp at hd
    | some x =>
      cases hy : ys[i]? with
      | none => rw [hx, hy] at hd; simp at hd
      | some y =>
        rw [hx, hy] at hd
        simp at hd
        subst hd
        obtain ⟨v, e1, d1⟩ := dps_get a1 hx
        obtain ⟨w, e2, d2⟩ := dps_get a2 hy
        refine ⟨⟨vs, ws, v, w, g1, g2, e1, e2⟩, fun z H'' q => ?_⟩
        obtain ⟨T, v', w', rfl, hT, rfl, f1, f2⟩ := q
        have q1 := f1 vs g1
        have q2 := f2 ws g2
        rw [e1] at q1
        rw [e2] at q2
        cases q1
        cases q2
        refine ⟨same_new hT, ?_⟩
        have hn : T ∉ mt O (L ++ M) := fun z => st'.call.dom T z hT
        have sm : Same (wo (mt O (L ++ M)) H') (wo (mt O (L ++ M)) (upd H' T (.tup [v, w]))) := wo_mono fun c o _ hc => same_new hT c o hc
        exact .tup (SqT.of (wo_of hn upd_same)) (.cons (dp_mono sm _ _ (dp_mono k _ _ d1)) (.cons (dp_mono sm _ _ (dp_mono k _ _ d2)) .nil))
theorem ji_zip {elts : List Expr} {kk : Nat} {tpos p : Pos} {a b : Expr} {R : List PyData → Prop} (hm : E.mg "zip" = none) (hg : Glo Γ "zip") (h : JE E Γ ρ a fun s => JE E Γ ρ b fun t => ∃ d1 d2 k1 k2 xs ys, s = .dat d1 ∧ t = .dat d2 ∧ sq2 d1 = some (k1, xs) ∧ sq2 d2 = some (k2, ys) ∧ R (zipD xs ys))
    (hs : ∀ env, starEach [a, b] env = (false, eval a env) :: starEach [b] env := by intro _; rfl) (hs2 : ∀ env, starEach [b] env = (false, eval b env) :: starEach [] env := by intro _; rfl) (hpl : ∀ env, (backTo pos (starEach [b] env)).any (·.1) = false := by intro _; rfl) :
    JI E Γ ρ (.Tuple elts kk tpos) (.Call (.Name "zip" p) [a, b] [] pos) R := ji_of fun X g W M O σ H st en =>
  ⟨_, pi_zipK (g.gl hg) (by rw [g.mg]; exact hm) (pa_cons (pe_se (e := a)) (pa_cons (pe_se (e := b)) pa_nil (hs2 _)) (hs _)) (hs _) (hpl _), fun R' q => h X g W M O σ H st en _ fun v s H1 e1 st1 o1 p1 => p1 X g W M O σ H1 st1 (en.mono st e1) _ fun v2 s2 H2 e2 st2 o2 p2 => by
    obtain ⟨d1, d2, k1, k2, xs, ys, rfl, rfl, h1, h2, p⟩ := p2
    obtain ⟨a1, vs, rfl, g1, g2⟩ := sq2_ok (o1.mono st1 e2) h1
    obtain ⟨a2, ws, rfl, g3, g4⟩ := sq2_ok o2 h2
    exact ⟨k1, k2, a1, a2, vs, ws, rfl, sqK_same (wo_sub _ _) g1, sqK_same (wo_sub _ _) g3, q _ _ H2 (e1.trans e2) st2 (itd_zip st2 g1 g3 g2 g4) p⟩⟩
def enumD (xs : List PyData) : List PyData := xs.mapIdx fun i x => .tuple [.int (i : Int), x]
theorem itd_enum {K : PySem.W.Frag} {W M : List Addr} {O : Option Addr} {H : Hp} {k1 : Bool} {a : Addr} {vs : List V} {xs : List PyData} (st : Stt W M O H) (h1 : SqK k1 K (wo (mt O M) H) a vs) (a1 : DqAll K (wo (mt O M) H) vs xs) :
    ItD K W M O H (IteK K k1 a) (enumD xs) := fun L hL H' e st' i => by
  have k := wo_more st e hL
  have g1 : SqK k1 K H' a vs := sqK_same (wo_sub _ _) (sqK_same k h1)
  have l1 := dps_len a1
  refine ⟨fun hi => ⟨vs, g1, ?_⟩, fun d hd => ?_⟩
  · unfold enumD at hi
    rw [List.length_mapIdx] at hi
    omega
  · unfold enumD at hd
    rw [List.getElem?_mapIdx] at hd
    obtain ⟨x, hx, rfl⟩ := Option.map_eq_some_iff.mp hd
    obtain ⟨v, e1, d1⟩ := dps_get a1 hx
    refine ⟨⟨vs, v, g1, e1⟩, fun z H'' q => ?_⟩
    obtain ⟨T, v', rfl, hT, rfl, f1⟩ := q
    have q1 := f1 vs g1
    rw [e1] at q1
    cases q1
    refine ⟨same_new hT, ?_⟩
    have hn : T ∉ mt O (L ++ M) := fun z => st'.call.dom T z hT
    have sm : Same (wo (mt O (L ++ M)) H') (wo (mt O (L ++ M)) (upd H' T (.tup [.int (i : Nat), v]))) := wo_mono fun c o _ hc => same_new hT c o hc
    exact .tup (SqT.of (wo_of hn upd_same)) (.cons (.int _) (.cons (dp_mono sm _ _ (dp_mono k _ _ d1)) .nil))
theorem ji_enum {elts : List Expr} {kk : Nat} {tpos p : Pos} {a : Expr} {R : List PyData → Prop} (hm : E.mg "enumerate" = none) (hg : Glo Γ "enumerate") (h : JE E Γ ρ a fun s => ∃ d1 k1 xs, s = .dat d1 ∧ sq2 d1 = some (k1, xs) ∧ R (enumD xs))
    (hs : ∀ env, starEach [a] env = [(false, eval a env)] := by intro _; rfl) : JI E Γ ρ (.Tuple elts kk tpos) (.Call (.Name "enumerate" p) [a] [] pos) R := ji_of fun X g W M O σ H st en =>
  ⟨_, pi_enumK (g.gl hg) (by rw [g.mg]; exact hm) (pa_cons (pe_se (e := a)) pa_nil (hs _)) (hs _), fun R' q => h X g W M O σ H st en _ fun v s H1 e1 st1 o1 p1 => by
    obtain ⟨d1, k1, xs, rfl, h1, p⟩ := p1
    obtain ⟨a1, vs, rfl, g1, g2⟩ := sq2_ok o1 h1
    exact ⟨k1, a1, vs, rfl, sqK_same (wo_sub _ _) g1, q _ _ H1 e1 st1 (itd_enum st1 g1 g2) p⟩⟩

/-! ### comprehensions -/
def Ctx.blk (Γ : Ctx) (scope : Scope) : Ctx := ⟨Γ.N, relS scope Γ.sc, false, Γ.k, Γ.q⟩
theorem Good.blk {X : Cx} {scope : Scope} (g : Good E Γ X) {s : Shared} {H : Hp} {C : Addr} {cl : List (Str × Addr)} {fp : List Addr} : Good E (Γ.blk scope) (X.blk s H scope (compEnvC scope cl C X.env) fp) := by
  refine ⟨g.prog, g.w, g.K, g.mg, g.base, g.N, ?_, g.calm, g.room, rfl, fun z => (nomatch z), g.q⟩
  show relS scope X.env.scope = relS scope Γ.sc
  rw [g.sc]
def seTs (X : Cx) (ifs : List Expr) : TT := fun σ H Q => ∀ pins s, Inv X pins σ H s →
  wpAny (model X.prog X.w) X.A (forIn ifs true fun c r => if r = true then do let ok ← isTrue c X.env (eval c X.env); pure (ForInStep.yield ok) else pure (ForInStep.yield r)) (TP X pins σ Q) X.xe s
theorem pts_se {X : Cx} {ifs : List Expr} : PTs X ifs (seTs X ifs) := ⟨fun pins s _ _ _ I h => h pins s I⟩
def JTs (E : En) (Γ : Ctx) (ρ : List Sl) (ifs : List Expr) (P : Bool → Prop) : Prop :=
  ∀ X, Good E Γ X → ∀ W M O σ H, Stt W M O H → EnvOk X.K W M O H σ ρ → ∀ Q : Bool → Hp → Prop, (∀ b H2, Ext W H H2 → Stt W M O H2 → P b → Q b H2) → seTs X ifs σ H Q
theorem jts_nil {R : Bool → Prop} (h : R true) : JTs E Γ ρ [] R := fun X g W M O σ H st en Q q pins s I => pts_nil.run pins s σ H Q I (q true H (Ext.refl W H) st h)
theorem jts_one {c : Expr} {R : Bool → Prop} (h : JT E Γ ρ c R) : JTs E Γ ρ [c] R := fun X g W M O σ H st en Q q pins s I => (pts_one (pt_se (e := c))).run pins s σ H Q I (h X g W M O σ H st en Q q)
/-- a turn of a comprehension, its own slots set: it gives o -/
def Turn1 (E : En) (Γ : Ctx) (ρ : List Sl) (ifs : List Expr) (elt : Expr) (o : Option PyData) : Prop :=
  JTs E Γ ρ ifs fun b => (b = true → JE E Γ ρ elt fun s => ∃ d, s = .dat d ∧ o = some d) ∧ (b = false → o = none)
theorem keep_some {α : Type} (l : List (Option α)) (n : Nat) (x : α) (h : l[n]? = some (some x)) : ((l.take (n + 1)).filterMap id) = (l.take n).filterMap id ++ [x] := by
  rw [List.take_add_one, h, List.filterMap_append] <;> rfl
theorem keep_none {α : Type} (l : List (Option α)) (n : Nat) (h : l[n]? = some none) : ((l.take (n + 1)).filterMap id) = (l.take n).filterMap id := by
  rw [List.take_add_one, h, List.filterMap_append]
  show (l.take n).filterMap id ++ [] = _
  rw [List.append_nil]
theorem lc_go {K : PySem.W.Frag} {W M : List Addr} {O : Option Addr} {σ : L2.St} {H H1 : Hp} {J : It} {items : List PyData} {rs : List (Option PyData)} {Q : VK} {gt : TG} {js : List Nat} {sets : PyData → List Sl} {tt : TT} {te : TE}
    (st : Stt W M O H) (en : EnvOk K W M O H σ ρ) (e1 : Ext W H H1) (st1 : Stt W M O H1) (hJ : ItD K W M O H1 J items) (hl : rs.length = items.length) (hz : items.length ≤ 100000)
    (hg : ∀ (M' : List Addr) (d : PyData) (x : V) (H' : Hp) (k : L2.St → Hp → Prop), d ∈ items → Stt W M' O H' → EnvOk K W M' O H' (L2.wipe σ js) (wip ρ js) → Dq K (wo (mt O M') H') x d → (∀ σ2, L2.wipe σ2 js = L2.wipe σ js → EnvOk K W M' O H' σ2 (sets d) → k σ2 H') → gt x (L2.wipe σ js) H' k)
    (ht : ∀ (M' : List Addr) (d : PyData) (o : Option PyData) (σ2 : L2.St) (H2 : Hp), (∃ i : Nat, items[i]? = some d ∧ rs[i]? = some o) → Stt W M' O H2 → EnvOk K W M' O H2 σ2 (sets d) → ∀ k : Bool → Hp → Prop, (∀ b H3, Ext W H2 H3 → Stt W M' O H3 → (b = true → ∀ k2 : VK, (∀ v e H4, Ext W H3 H4 → Stt W M' O H4 → Dq K (wo (mt O M') H4) v e → o = some e → k2 v H4) → te σ2 H3 k2) → (b = false → o = none) → k b H3) → tt σ2 H2 k)
    (p : P (.dat (.list (rs.filterMap id)))) (q : PV K W M O H P Q) : ∀ D, H1 D = none → ∃ Wd : Nat → Nat → Hp → Prop, (∃ m, Wd 0 m (upd H1 D (.lst []))) ∧ ∀ i m H, Wd i m H →
      (J.stop i H ∧ Q (.ref D) H) ∨ (J.go i H ∧ ∃ Nx : Hp → Prop, (∀ H', Nx H' → ∃ m', m' < m ∧ Wd (i + 1) m' H') ∧ ∀ x H', J.yld i H x H' → gt x (L2.wipe σ js) H' fun σ2 H2 => L2.wipe σ2 js = L2.wipe σ js ∧ tt σ2 H2 fun b H3 =>
        if b = true then te σ2 H3 fun y H4 => ∃ acc, H4 D = some (.lst acc) ∧ acc.length < sizeLine ∧ Nx (upd H4 D (.lst (acc ++ [y]))) else Nx H3) := by
  intro D hD
  have nD : D ∉ mt O M := fun z => st1.call.dom D z hD
  have nW : D ∉ W := fun z => nD (mem_mt (st1.sub D z))
  have nO : O ≠ some D := fun z => nD (by rw [z]; exact List.mem_cons_self)
  have hL1 : ∀ a ∈ [D], H1 a = none := fun a ha => by rw [List.mem_singleton.mp ha]; exact hD
  have hL : ∀ a ∈ [D], H a = none := fun a ha => by
    rw [List.mem_singleton.mp ha]
    cases z : H D with
    | none => rfl
    | some o =>
      have := e1 D o nW z
      rw [hD] at this
      cases this
  have sD : ∀ {H' : Hp} {xs : List V}, Stt W ([D] ++ M) O H' → Stt W ([D] ++ M) O (upd H' D (.lst xs)) := fun {H' xs} s => by
    refine ⟨s.sub, fun a ha => ?_, fun a ha => ?_, fun a ha => ⟨(s.own a ha).1, ?_⟩⟩
    · obtain ⟨u1, u2, u3, h⟩ := s.wl a ha
      exact ⟨u1, u2, u3, by rw [upd_ne (fun z : a = D => nW (by rw [← z]; exact ha))]; exact h⟩
    · by_cases z : a = D
      · rw [z, upd_same]
        intro w
        cases w
      · rw [upd_ne z]
        exact s.dom a ha
    · rw [upd_ne (fun z : a = D => nO (by rw [← z]; exact ha))]
      exact (s.own a ha).2
  have st0 : Stt W ([D] ++ M) O (upd H1 D (.lst [])) := by
    have z := st1.same (same_new (o := .lst []) hD)
    refine ⟨fun a ha => List.mem_cons_of_mem _ (z.sub a ha), z.wl, fun a ha => ?_, fun a ha => ⟨fun m => ?_, (z.own a ha).2⟩⟩
    · rcases List.mem_cons.mp ha with ha | ha
      · rw [ha, upd_same]
        intro w
        cases w
      · exact z.dom a ha
    · rcases List.mem_cons.mp m with m | m
      · exact nO (by rw [← m]; exact ha)
      · exact (z.own a ha).1 m
  have less : ∀ {H' : Hp}, Stt W ([D] ++ M) O H' → Stt W M O H' := fun {H'} s => ⟨st.sub, s.wl, fun a ha => s.dom a (List.mem_cons_of_mem _ ha), fun a ha => ⟨(st1.own a ha).1, (s.own a ha).2⟩⟩
  refine ⟨fun i m H' => m = items.length - i ∧ i ≤ items.length ∧ Stt W ([D] ++ M) O H' ∧ Ext W H1 H' ∧ ∃ vs, H' D = some (.lst vs) ∧ vs.length ≤ i ∧ DqAll K (wo (mt O ([D] ++ M)) H') vs ((rs.take i).filterMap id),
    ⟨items.length, rfl, Nat.zero_le _, st0, Ext.of (same_new hD), [], upd_same, Nat.le_refl _, .nil⟩, ?_⟩
  rintro i m H' ⟨rfl, hi, st', kp, vs, hv, hlen, ha⟩
  by_cases hlt : i < items.length
  · have hd : items[i]? = some items[i] := List.getElem?_eq_getElem hlt
    have hr : rs[i]? = some rs[i] := List.getElem?_eq_getElem (by omega)
    obtain ⟨go, yl⟩ := (hJ [D] hL1 H' (kp.o O) st' i).2 _ hd
    refine .inr ⟨go, fun H'' => Stt W ([D] ++ M) O H'' ∧ Ext W H1 H'' ∧ ∃ vs, H'' D = some (.lst vs) ∧ vs.length ≤ i + 1 ∧ DqAll K (wo (mt O ([D] ++ M)) H'') vs ((rs.take (i + 1)).filterMap id), fun H'' ⟨a1, a2, a3⟩ => ⟨items.length - (i + 1), by omega, rfl, hlt, a1, a2, a3⟩, fun x H'' y => ?_⟩
    obtain ⟨s1, dx⟩ := yl x H'' y
    have st'' := st'.same s1
    have enx : EnvOk K W ([D] ++ M) O H'' σ ρ := en.more st (e1.trans (kp.trans (Ext.of s1))) hL
    refine hg ([D] ++ M) _ x H'' _ (List.getElem_mem hlt) st'' (enx.wipe js) dx fun σ2 hw en2 => ⟨hw, ?_⟩
    refine ht ([D] ++ M) _ _ σ2 H'' ⟨i, hd, hr⟩ st'' en2 _ fun b H3 e3 st3 hk hn => ?_
    have kp3 : Ext W H1 H3 := kp.trans ((Ext.of s1).trans e3)
    have hv3 : H3 D = some (.lst vs) := e3 D _ nW (s1 D _ hv)
    have sm : Same (wo (mt O ([D] ++ M)) H') (wo (mt O ([D] ++ M)) H3) := st'.wo (((Ext.of s1).trans e3).o O)
    cases b with
    | true =>
      refine iteT (hk rfl _ fun y e H4 e4 st4 dy he => ?_)
      have sm4 : Same (wo (mt O ([D] ++ M)) H3) (wo (mt O ([D] ++ M)) H4) := st3.wo (e4.o O)
      have sm5 : Same (wo (mt O ([D] ++ M)) H4) (wo (mt O ([D] ++ M)) (upd H4 D (.lst (vs ++ [y])))) := wo_mono fun a o n h => by
        rw [upd_ne (fun z : a = D => n (by rw [z]; exact mem_mt List.mem_cons_self))]
        exact h
      refine ⟨vs, e4 D _ nW hv3, Nat.lt_of_le_of_lt hlen (Nat.lt_of_lt_of_le (show i < 100000 by omega) (by decide)), sD st4, fun a o n h => ?_, vs ++ [y], upd_same, by rw [List.length_append]; exact Nat.succ_le_succ hlen, ?_⟩
      · rw [upd_ne (ne_of_none h hD)]
        exact e4 a o n (kp3 a o n h)
      · rw [keep_some rs i e (by rw [hr, he])]
        exact dps_mono sm5 _ _ (dps_app (dps_mono sm4 _ _ (dps_mono sm _ _ ha)) (.cons dy .nil))
    | false =>
      refine iteF ⟨st3, kp3, vs, hv3, Nat.le_succ_of_le hlen, ?_⟩
      rw [keep_none rs i (by rw [hr, hn rfl])]
      exact dps_mono sm _ _ ha
  · have e : i = items.length := by omega
    refine .inl ⟨(hJ [D] hL1 H' (kp.o O) st' i).1 e, ?_⟩
    rw [List.take_of_length_le (by omega)] at ha
    refine q (.ref D) (.dat (.list (rs.filterMap id))) H' (e1.trans kp) (less st') (.lst (wo_of nD hv) (dps_mono (fun a o h => ?_) _ _ ha)) p
    obtain ⟨n, h⟩ := wo_some h
    refine wo_of (fun z => n ?_) h
    cases O with
    | none => exact List.mem_cons_of_mem _ z
    | some b =>
      rcases List.mem_cons.mp z with z | z
      · rw [z]; exact List.mem_cons_self
      · exact List.mem_cons_of_mem _ (List.mem_cons_of_mem _ z)
end
end W6
end
section
set_option Elab.async false
set_option linter.all false
set_option maxRecDepth 100000
set_option maxHeartbeats 4000000
/-! Rules of the layer: comprehensions, statements, defs. -/
namespace W6
open PySem PySem.Spec PyProof.Rows L2
section
variable {E : En} {Γ : Ctx} {ρ : List Sl} {pos : Pos} {P : Sl → Prop}

/-! ### comprehensions -/
/-- the test and the element of a block, whatever the block -/
def bTT (X : Cx) (scope : Scope) (ifs : List Expr) : TT := fun σ H Q => ∀ (s : Shared) (H0 : Hp) (C : Addr) (cl : List (Str × Addr)) (fp : List Addr), seTs (X.blk s H0 scope (compEnvC scope cl C X.env) fp) ifs σ H Q
def bTE (X : Cx) (scope : Scope) (e : Expr) : TE := fun σ H Q => ∀ (s : Shared) (H0 : Hp) (C : Addr) (cl : List (Str × Addr)) (fp : List Addr), seE (X.blk s H0 scope (compEnvC scope cl C X.env) fp) e σ H Q
theorem b_pts {X : Cx} {scope : Scope} {ifs : List Expr} (s : Shared) (H0 : Hp) (C : Addr) (cl : List (Str × Addr)) (fp : List Addr) : PTs (X.blk s H0 scope (compEnvC scope cl C X.env) fp) ifs (bTT X scope ifs) := ⟨fun pins s' σ H Q I h => h s H0 C cl fp pins s' I⟩
theorem b_pe {X : Cx} {scope : Scope} {e : Expr} (s : Shared) (H0 : Hp) (C : Addr) (cl : List (Str × Addr)) (fp : List Addr) : PE (X.blk s H0 scope (compEnvC scope cl C X.env) fp) e (bTE X scope e) := ⟨fun pins s' σ H Q I h => h s H0 C cl fp pins s' I⟩
theorem turn_go {X : Cx} (g : Good E Γ X) {scope : Scope} {ifs : List Expr} {elt : Expr} {ρ' : List Sl} {o : Option PyData} (h : Turn1 E (Γ.blk scope) ρ' ifs elt o) {W M : List Addr} {O : Option Addr} {σ : L2.St} {H : Hp} (st : Stt W M O H) (en : EnvOk X.K W M O H σ ρ') (k : Bool → Hp → Prop)
    (hk : ∀ b H3, Ext W H H3 → Stt W M O H3 → (b = true → ∀ k2 : VK, (∀ v e H4, Ext W H3 H4 → Stt W M O H4 → Dq X.K (wo (mt O M) H4) v e → o = some e → k2 v H4) → bTE X scope elt σ H3 k2) → (b = false → o = none) → k b H3) : bTT X scope ifs σ H k := fun s H0 C cl fp =>
  h _ g.blk W M O σ H st en k fun b H3 e3 st3 p => hk b H3 e3 st3 (fun hb k2 q s1 H1 C1 cl1 fp1 => p.1 hb _ g.blk W M O σ H3 st3 (en.mono st e3) k2 fun v t H4 e4 st4 o4 p4 => by
    obtain ⟨d, rfl, e⟩ := p4
    exact q v d H4 e4 st4 o4 e) p.2
theorem wip_set {σ : L2.St} {v : V} {j : Nat} : ∀ {js : List Nat}, j ∈ js → L2.wipe (σ.set j (some v)) js = L2.wipe σ js
  | i :: js, h => by
    show (L2.wipe (σ.set j (some v)) js).set i none = (L2.wipe σ js).set i none
    by_cases e : j ∈ js
    · rw [wip_set e]
    · have e1 : j = i := (List.mem_cons.mp h).resolve_right e
      subst e1
      have com : ∀ {ks : List Nat} {τ : L2.St} {x : Option V}, (L2.wipe (τ.set j x) ks).set j none = (L2.wipe τ ks).set j none := fun {ks} => by
        induction ks with
        | nil => intro τ x; exact List.set_set _
        | cons a ks ih =>
          intro τ x
          show ((L2.wipe (τ.set j x) ks).set a none).set j none = ((L2.wipe τ ks).set a none).set j none
          by_cases z : a = j
          · subst z
            rw [List.set_set, List.set_set]
            exact ih
          · rw [List.set_comm _ _ z, ih, List.set_comm _ _ (Ne.symm z)]
      exact com
theorem wip_wipe {σ : L2.St} : ∀ (js : List Nat), L2.wipe (L2.wipe σ js) js = L2.wipe σ js := fun js => by
  have key : ∀ (ks : List Nat) (τ : L2.St), (∀ k ∈ ks, τ[k]? = some none ∨ τ.length ≤ k) → L2.wipe τ ks = τ := fun ks => by
    induction ks with
    | nil => intro τ _; rfl
    | cons a ks ih =>
      intro τ h
      show (L2.wipe τ ks).set a none = τ
      rw [ih τ fun k hk => h k (List.mem_cons_of_mem _ hk)]
      rcases h a List.mem_cons_self with z | z
      · obtain ⟨hl, e⟩ := List.getElem?_eq_some_iff.mp z
        apply List.ext_getElem?
        intro n
        rw [List.getElem?_set]
        split
        · rename_i e1
          subst e1
          first | rw [z] | rw [if_pos hl, z]
        · rfl
      · exact List.set_eq_of_length_le z
  refine key js _ fun k hk => ?_
  have z : ∀ (ks : List Nat) (τ : L2.St), k ∈ ks → (L2.wipe τ ks)[k]? = some none ∨ (L2.wipe τ ks).length ≤ k := fun ks => by
    induction ks with
    | nil => intro τ h; cases h
    | cons a ks ih =>
      intro τ h
      show ((L2.wipe τ ks).set a none)[k]? = some none ∨ ((L2.wipe τ ks).set a none).length ≤ k
      rw [List.length_set, List.getElem?_set]
      by_cases e : a = k
      · subst e
        rw [if_pos rfl]
        by_cases hl : a < (L2.wipe τ ks).length
        · rw [if_pos hl]; exact .inl rfl
        · exact .inr (Nat.not_lt.mp hl)
      · rw [if_neg e]
        exact ih τ ((List.mem_cons.mp h).resolve_left (fun q => e q.symm))
  exact z js σ hk
/-- what a comprehension with one name asks -/
abbrev Lc1 (E : En) (Γ : Ctx) (ρ : List Sl) (scope : Scope) (j : Nat) (ifs : List Expr) (elt : Expr) (items : List PyData) (P : Sl → Prop) : Prop :=
  ∃ rs : List (Option PyData), rs.length = items.length ∧ items.length ≤ 100000 ∧ (∀ (i : Nat) d o, items[i]? = some d → rs[i]? = some o → Turn1 E (Γ.blk scope) ((wip ρ [j]).set j (.dat d)) ifs elt o) ∧ P (.dat (.list (rs.filterMap id)))
/-- .. with a pair of names -/
abbrev Lc2 (E : En) (Γ : Ctx) (ρ : List Sl) (scope : Scope) (j l : Nat) (ifs : List Expr) (elt : Expr) (items : List PyData) (P : Sl → Prop) : Prop :=
  ∃ rs : List (Option PyData), rs.length = items.length ∧ items.length ≤ 100000 ∧ (∀ (i : Nat) d o, items[i]? = some d → rs[i]? = some o → ∃ d1 d2, d = .tuple [d1, d2] ∧ Turn1 E (Γ.blk scope) (((wip ρ [j, l]).set j (.dat d1)).set l (.dat d2)) ifs elt o) ∧ P (.dat (.list (rs.filterMap id)))
section
variable {y z : Str} {py pz : Pos} {iter elt : Expr} {ifs : List Expr} {scope : Scope}
theorem lc1_read {X : Cx} (g : Good E Γ X) {j : Nat} {W M : List Addr} {O : Option Addr} {σ : L2.St} {H : Hp} (st : Stt W M O H) (en : EnvOk X.K W M O H σ ρ) {Q : VK} (q : PV X.K W M O H P Q)
    (h : JI E Γ ρ (.Name y py) iter fun items => Lc1 E Γ ρ scope j ifs elt items P) : tLc (seI X (.Name y py) iter) (gName j) (bTT X scope ifs) (bTE X scope elt) ([(y, j)].map (·.2)) σ H Q := by
  refine h X g W M O σ H st en _ fun J items H1 e1 st1 hJ p1 => ?_
  obtain ⟨rs, h1, h2, h3, p⟩ := p1
  refine lc_go (js := [j]) (sets := fun d => (wip ρ [j]).set j (.dat d)) st en e1 st1 hJ h1 h2 (fun M' d x H' k hd s' en' dx hk => hk _ ?_ (en'.set j (s := .dat d) dx)) (fun M' d o σ2 H2 hi s2 en2 k hk => ?_) p q
  · rw [wip_set (js := [j]) (List.mem_singleton.mpr rfl)]
    exact wip_wipe _
  · obtain ⟨i, i1, i2⟩ := hi
    exact turn_go g (h3 i d o i1 i2) s2 en2 k hk
theorem je_lc1 (j : Nat) (hN : Γ.N.Nodup) (hb : blkC Γ.N Γ.sc scope [(y, j)] = true) (hj : Γ.N[j]? = some y) (hy : (relS scope Γ.sc).names.lookup y = some .local)
    (h : JI E Γ ρ (.Name y py) iter fun items => Lc1 E Γ ρ scope j ifs elt items P) (hs : ∀ env x, foldedSetIterable iter env x = pure x := by intro _ _; rfl) : JE E Γ ρ (.ListComp elt [⟨.Name y py, iter, ifs, 0⟩] scope pos) P := je_of fun X g W M O σ H st en =>
  ⟨_, pe_lc g.calm (by rw [g.N]; exact hN) (pi_se (tg := .Name y py) (iter := iter)) (blkOk_by (own := [(y, j)]) (by rw [g.N, g.sc]; exact hb)) (fun s H C cl fp => pg_name (i := j) (by show X.N.Nodup; rw [g.N]; exact hN) (by show X.N[j]? = _; rw [g.N]; exact hj) (.inl (by show (relS scope X.env.scope).names.lookup y = _; rw [g.sc]; exact hy)) (.inr (by show (relS scope X.env.scope).names.lookup y = _; rw [g.sc]; exact hy)))
    b_pts b_pe (hs _), fun Q q => lc1_read g st en q h⟩
theorem lc2_read {X : Cx} (g : Good E Γ X) {j l : Nat} {W M : List Addr} {O : Option Addr} {σ : L2.St} {H : Hp} (st : Stt W M O H) (en : EnvOk X.K W M O H σ ρ) {Q : VK} (q : PV X.K W M O H P Q) {kk : Nat} {tpos : Pos}
    (h : JI E Γ ρ (.Tuple [.Name y py, .Name z pz] kk tpos) iter fun items => Lc2 E Γ ρ scope j l ifs elt items P) : tLc (seI X (.Tuple [.Name y py, .Name z pz] kk tpos) iter) (gTup X.K 2 (gCons (gName j) (gCons (gName l) gNil))) (bTT X scope ifs) (bTE X scope elt) ([(y, j), (z, l)].map (·.2)) σ H Q := by
  refine h X g W M O σ H st en _ fun J items H1 e1 st1 hJ p1 => ?_
  obtain ⟨rs, h1, h2, h3, p⟩ := p1
  have ex : ∀ d ∈ items, ∃ d1 d2, d = .tuple [d1, d2] := fun d hd => by
    obtain ⟨i, hi⟩ := List.mem_iff_getElem?.mp hd
    have hl : i < rs.length := by
      rw [h1]
      exact (List.getElem?_eq_some_iff.mp hi).1
    obtain ⟨d1, d2, e, _⟩ := h3 i d _ hi (List.getElem?_eq_getElem hl)
    exact ⟨d1, d2, e⟩
  refine lc_go (js := [j, l]) (sets := fun d => match d with
    | .tuple [d1, d2] => ((wip ρ [j, l]).set j (.dat d1)).set l (.dat d2)
    | _ => []) st en e1 st1 hJ h1 h2 (fun M' d x H' k hd s' en' dx hk => ?_) (fun M' d o σ2 H2 hi s2 en2 k hk => ?_) p q
  · obtain ⟨d1, d2, rfl⟩ := ex d hd
    cases dx with
    | tup g1 g2 =>
      cases g2 with
      | cons g3 g4 =>
        cases g4 with
        | cons g5 g6 =>
          cases g6
          refine ⟨_, _, rfl, seqT (wo_sub _ _) g1, rfl, _, _, rfl, _, _, rfl, rfl, hk _ ?_ ((en'.set j (s := .dat d1) g3).set l (s := .dat d2) g5)⟩
          rw [wip_set (js := [j, l]) (List.mem_cons_of_mem _ (List.mem_singleton.mpr rfl)), wip_set (js := [j, l]) List.mem_cons_self]
          exact wip_wipe _
  · obtain ⟨i, i1, i2⟩ := hi
    obtain ⟨d1, d2, rfl, t⟩ := h3 i d o i1 i2
    exact turn_go g t s2 en2 k hk
theorem je_lc2 (j l : Nat) {kk : Nat} {tpos : Pos} (hN : Γ.N.Nodup) (hb : blkC Γ.N Γ.sc scope [(y, j), (z, l)] = true) (hj : Γ.N[j]? = some y) (hl : Γ.N[l]? = some z) (hy : (relS scope Γ.sc).names.lookup y = some .local) (hz : (relS scope Γ.sc).names.lookup z = some .local)
    (h : JI E Γ ρ (.Tuple [.Name y py, .Name z pz] kk tpos) iter fun items => Lc2 E Γ ρ scope j l ifs elt items P) (hs : ∀ env x, foldedSetIterable iter env x = pure x := by intro _ _; rfl) : JE E Γ ρ (.ListComp elt [⟨.Tuple [.Name y py, .Name z pz] kk tpos, iter, ifs, 0⟩] scope pos) P := je_of fun X g W M O σ H st en =>
  ⟨_, pe_lc g.calm (by rw [g.N]; exact hN) (pi_se (iter := iter)) (blkOk_by (own := [(y, j), (z, l)]) (by rw [g.N, g.sc]; exact hb)) (fun s H C cl fp => pg_tup (X := X.blk s H scope (compEnvC scope cl C X.env) fp) g.calm (pgs_cons (pg_name (i := j) (by show X.N.Nodup; rw [g.N]; exact hN) (by show X.N[j]? = _; rw [g.N]; exact hj) (.inl (by show (relS scope X.env.scope).names.lookup y = _; rw [g.sc]; exact hy)) (.inr (by show (relS scope X.env.scope).names.lookup y = _; rw [g.sc]; exact hy)))
      (pgs_cons (pg_name (i := l) (by show X.N.Nodup; rw [g.N]; exact hN) (by show X.N[l]? = _; rw [g.N]; exact hl) (.inl (by show (relS scope X.env.scope).names.lookup z = _; rw [g.sc]; exact hz)) (.inr (by show (relS scope X.env.scope).names.lookup z = _; rw [g.sc]; exact hz))) pgs_nil)))
    b_pts b_pe (hs _), fun Q q => lc2_read g st en q h⟩
end

/-! ### statements -/
theorem j1_of {o : Bool} {st : Stmt} {D : Po} (h : ∀ X, Good E Γ X → ∀ W M O σ H, O.isSome = o → Stt W M O H → EnvOk X.K W M O H σ ρ → ∃ t, PS X st t ∧ ∀ DD, PD X.K W M O H D DD → t DD σ H) : J1 E Γ o ρ st D := fun X g W M O σ H ho st en DD q => by
  obtain ⟨t, h1, h2⟩ := h X g W M O σ H ho st en
  exact fun pins s I => h1.run pins s σ H DD I (h2 DD q)
theorem js_of {o : Bool} {sts : List Stmt} {D : Po} (h : ∀ X, Good E Γ X → ∀ W M O σ H, O.isSome = o → Stt W M O H → EnvOk X.K W M O H σ ρ → ∃ t, PSs X sts t ∧ ∀ DD, PD X.K W M O H D DD → t DD σ H) : JS E Γ o ρ sts D := fun X g W M O σ H ho st en DD q => by
  obtain ⟨t, h1, h2⟩ := h X g W M O σ H ho st en
  exact fun pins s I => h1.run pins s σ H DD I (h2 DD q)
variable {o : Bool} {D : Po} {st : Stmt} {sts : List Stmt}
theorem js_nil (h : D.nx ρ) : JS E Γ o ρ [] D := js_of fun X g W M O σ H ho st en => ⟨_, pss_nil, fun DD q => q.nx σ H ρ (ExtO.refl W O H) st en h⟩
theorem js_cons (h : J1 E Γ o ρ st { D with nx := fun ρ' => JS E Γ o ρ' sts D }) : JS E Γ o ρ (st :: sts) D := js_of fun X g W M O σ H ho s0 en =>
  ⟨_, pss_cons (ps_se (st := st)) (pss_se (sts := sts)), fun DD q => h X g W M O σ H ho s0 en _ ⟨fun σ' H' ρ' e1 s1 en1 j => j X g W M O σ' H' ho s1 en1 DD (q.ext e1), q.rt, q.bk, q.ct⟩⟩
theorem js_one (h : J1 E Γ o ρ st D) : JS E Γ o ρ [st] D := js_cons (D := D) (sts := []) fun X g W M O σ H ho s0 en DD q => h X g W M O σ H ho s0 en DD ⟨fun σ' H' ρ' e1 s1 en1 j => q.nx σ' H' ρ' e1 s1 en1 (js_nil j), q.rt, q.bk, q.ct⟩
/-- x = e -/
theorem j1_set (i : Nat) {x : Str} {e : Expr} {px : Pos} (hN : Γ.N.Nodup) (hi : Γ.N[i]? = some x) (hx : Loc Γ.sc x) (h : JE E Γ ρ e fun s => D.nx (ρ.set i s)) (hd : Γ.df = true := by rfl)
    (hs : ∀ env : Env, env.scope = Γ.sc → swapsWith e (some (.Name x px)) pos.line env = pure false := by (intro env h; cases env; cases h; first | rfl | with_unfolding_all rfl)) : J1 E Γ o ρ (.Assign [.Name x px] e pos) D := j1_of fun X g W M O σ H ho st en =>
  ⟨_, ps_set (i := i) (by rw [g.N]; exact hN) (by rw [g.N]; exact hi) (by rw [g.sc]; exact hx) (pe_se (e := e)) (hs _ g.sc) (.inl (g.fn hd x)), fun DD q => h X g W M O σ H st en _ fun v s H1 e1 st1 o1 p1 => q.nx _ H1 _ (e1.o O) st1 ((en.mono st e1).set i o1) p1⟩
/-- x = [..] on one line -/
theorem j1_setLc1 (i j : Nat) {x y : Str} {iter elt : Expr} {ifs : List Expr} {scope : Scope} {px py lpos : Pos} (hN : Γ.N.Nodup) (hi : Γ.N[i]? = some x) (hxl : Γ.sc.names.lookup x = some .local) (hb : blkC Γ.N Γ.sc scope [(y, j)] = true) (hj : Γ.N[j]? = some y) (hy : (relS scope Γ.sc).names.lookup y = some .local)
    (hsw : ∀ env : Env, env.scope = Γ.sc → swapsWith (.ListComp elt [⟨.Name y py, iter, ifs, 0⟩] scope lpos) (some (.Name x px)) pos.line env = pure true)
    (h : JI E Γ ρ (.Name y py) iter fun items => Lc1 E Γ ρ scope j ifs elt items fun s => D.nx (ρ.set i s)) (hs : ∀ env x, foldedSetIterable iter env x = pure x := by intro _ _; rfl) :
    J1 E Γ o ρ (.Assign [.Name x px] (.ListComp elt [⟨.Name y py, iter, ifs, 0⟩] scope lpos) pos) D := j1_of fun X g W M O σ H ho st en =>
  ⟨_, ps_setLc (i := i) g.calm (by rw [g.N]; exact hN) (by rw [g.N]; exact hi) (by rw [g.sc]; exact hxl) (hsw _ g.sc) (pi_se (tg := .Name y py) (iter := iter)) (blkOk_by (own := [(y, j)]) (by rw [g.N, g.sc]; exact hb)) (fun s H C cl fp => pg_name (i := j) (by show X.N.Nodup; rw [g.N]; exact hN) (by show X.N[j]? = _; rw [g.N]; exact hj) (.inl (by show (relS scope X.env.scope).names.lookup y = _; rw [g.sc]; exact hy)) (.inr (by show (relS scope X.env.scope).names.lookup y = _; rw [g.sc]; exact hy)))
    b_pts b_pe (hs _), fun DD q => lc1_read (P := fun s => D.nx (ρ.set i s)) g st en (fun v s H1 e1 st1 o1 p1 => q.nx _ H1 _ (e1.o O) st1 ((en.mono st e1).set i o1) p1) h⟩
theorem j1_setLc2 (i j l : Nat) {x y z : Str} {iter elt : Expr} {ifs : List Expr} {scope : Scope} {px py pz lpos tpos : Pos} {kk : Nat} (hN : Γ.N.Nodup) (hi : Γ.N[i]? = some x) (hxl : Γ.sc.names.lookup x = some .local) (hb : blkC Γ.N Γ.sc scope [(y, j), (z, l)] = true) (hj : Γ.N[j]? = some y) (hl : Γ.N[l]? = some z) (hy : (relS scope Γ.sc).names.lookup y = some .local) (hz : (relS scope Γ.sc).names.lookup z = some .local)
    (hsw : ∀ env : Env, env.scope = Γ.sc → swapsWith (.ListComp elt [⟨.Tuple [.Name y py, .Name z pz] kk tpos, iter, ifs, 0⟩] scope lpos) (some (.Name x px)) pos.line env = pure true)
    (h : JI E Γ ρ (.Tuple [.Name y py, .Name z pz] kk tpos) iter fun items => Lc2 E Γ ρ scope j l ifs elt items fun s => D.nx (ρ.set i s)) (hs : ∀ env x, foldedSetIterable iter env x = pure x := by intro _ _; rfl) :
    J1 E Γ o ρ (.Assign [.Name x px] (.ListComp elt [⟨.Tuple [.Name y py, .Name z pz] kk tpos, iter, ifs, 0⟩] scope lpos) pos) D := j1_of fun X g W M O σ H ho st en =>
  ⟨_, ps_setLc (i := i) g.calm (by rw [g.N]; exact hN) (by rw [g.N]; exact hi) (by rw [g.sc]; exact hxl) (hsw _ g.sc) (pi_se (iter := iter)) (blkOk_by (own := [(y, j), (z, l)]) (by rw [g.N, g.sc]; exact hb)) (fun s H C cl fp => pg_tup (X := X.blk s H scope (compEnvC scope cl C X.env) fp) g.calm (pgs_cons (pg_name (i := j) (by show X.N.Nodup; rw [g.N]; exact hN) (by show X.N[j]? = _; rw [g.N]; exact hj) (.inl (by show (relS scope X.env.scope).names.lookup y = _; rw [g.sc]; exact hy)) (.inr (by show (relS scope X.env.scope).names.lookup y = _; rw [g.sc]; exact hy)))
      (pgs_cons (pg_name (i := l) (by show X.N.Nodup; rw [g.N]; exact hN) (by show X.N[l]? = _; rw [g.N]; exact hl) (.inl (by show (relS scope X.env.scope).names.lookup z = _; rw [g.sc]; exact hz)) (.inr (by show (relS scope X.env.scope).names.lookup z = _; rw [g.sc]; exact hz))) pgs_nil)))
    b_pts b_pe (hs _), fun DD q => lc2_read (P := fun s => D.nx (ρ.set i s)) g st en (fun v s H1 e1 st1 o1 p1 => q.nx _ H1 _ (e1.o O) st1 ((en.mono st e1).set i o1) p1) h⟩
/-- return e -/
def rtD : Sl → Option PyData
  | .dat d => some d
  | .own ds => some (.list ds)
  | _ => none
theorem rt_ok {K : PySem.W.Frag} {W M : List Addr} {O : Option Addr} {H : Hp} {v : V} {s : Sl} {d : PyData} (st : Stt W M O H) (h : SlOk K W M O H v s) (e : rtD s = some d) : Dq K (wo M H) v d := by
  have sm : Same (wo (mt O M) H) (wo M H) := fun a o h => let ⟨n, h⟩ := wo_some h; wo_of (fun z => n (mem_mt z)) h
  cases s with
  | dat d' =>
    cases e
    exact dp_mono sm _ _ h
  | own ds =>
    cases e
    obtain ⟨a, vs, rfl, h2, h3, h4⟩ := h
    exact .lst (wo_of (st.own a h2).1 h3) (dps_mono sm _ _ h4)
  | _ => cases e
theorem j1_ret {e : Expr} (h : JE E Γ ρ e fun s => ∃ d, rtD s = some d ∧ D.rt d) : J1 E Γ o ρ (.Return (some e) pos) D := j1_of fun X g W M O σ H ho st en =>
  ⟨_, ps_ret (pe_se (e := e)), fun DD q => h X g W M O σ H st en _ fun v s H1 e1 st1 o1 p1 => by
    obtain ⟨d, h1, p⟩ := p1
    exact q.rt v d H1 (e1.o O) st1 (rt_ok st1 o1 h1) p⟩
theorem j1_if {c : Expr} {a b : List Stmt} (h : JT E Γ ρ c fun k => (k = true → JS E Γ o ρ a D) ∧ (k = false → JS E Γ o ρ b D)) : J1 E Γ o ρ (.If c a b pos) D := j1_of fun X g W M O σ H ho st en =>
  ⟨_, ps_if (pt_se (e := c)) (pss_se (sts := a)) (pss_se (sts := b)), fun DD q => h X g W M O σ H st en _ fun k H1 e1 st1 p1 => by
    cases k with
    | true => exact iteT (p1.1 rfl X g W M O σ H1 ho st1 (en.mono st e1) DD (q.ext (e1.o O)))
    | false => exact iteF (p1.2 rfl X g W M O σ H1 ho st1 (en.mono st e1) DD (q.ext (e1.o O)))⟩
theorem j1_expr {e : Expr} (h : JE E Γ ρ e fun _ => D.nx ρ) (hs : ∀ env : Env, env.scope = Γ.sc → swapsWith e none pos.line env = pure false := by (intro env h; cases env; cases h; first | rfl | with_unfolding_all rfl)) : J1 E Γ o ρ (.Expr e pos) D := j1_of fun X g W M O σ H ho st en =>
  ⟨_, ps_expr (pe_se (e := e)) (hs _ g.sc), fun DD q => h X g W M O σ H st en _ fun v s H1 e1 st1 o1 p1 => q.nx σ H1 ρ (e1.o O) st1 (en.mono st e1) p1⟩

/-! targets -/
theorem jg_name (i : Nat) {x : Str} {d : PyData} {R : List Sl → Prop} (hN : Γ.N.Nodup) (hi : Γ.N[i]? = some x) (hx : Loc Γ.sc x) (h : R (ρ.set i (.dat d))) (hd : Γ.df = true := by rfl) : JG E Γ ρ (.Name x pos) d R := fun X g W M O σ H v st en dv Q q =>
  fun pins s u I r => (pg_name (i := i) (by rw [g.N]; exact hN) (by rw [g.N]; exact hi) (by rw [g.sc]; exact hx) (.inl (g.fn hd x))).run pins s σ H v u Q I r (q _ H _ (Ext.refl W H) st (en.set i (s := .dat d) dv) h)
theorem jgs_nil {R : List Sl → Prop} (h : R ρ) : JGs E Γ ρ [] [] R := fun X g W M O σ H vs st en dv Q q => by
  cases dv
  exact fun pins s us I r => pgs_nil.run pins s σ H [] us Q I r ⟨rfl, q σ H ρ (Ext.refl W H) st en h⟩
theorem jgs_cons {t : Expr} {ts : List Expr} {d : PyData} {ds : List PyData} {R : List Sl → Prop} (h : JG E Γ ρ t d fun ρ' => JGs E Γ ρ' ts ds R) (hs : ∀ env, (assignEach (t :: ts) env).map (·.2) = assign t env :: (assignEach ts env).map (·.2) := by intro _; rfl) : JGs E Γ ρ (t :: ts) (d :: ds) R := fun X g W M O σ H vs st en dv Q q => by
  cases dv with
  | cons d1 d2 =>
    refine fun pins s us I r => (pgs_cons (pg_se (tg := t)) (pgs_se (ts := ts)) (hs _)).run pins s σ H _ us Q I r ⟨_, _, rfl, h X g W M O σ H _ st en d1 _ fun σ' H' ρ' e1 st1 en1 p1 => ?_⟩
    exact p1 X g W M O σ' H' _ st1 en1 (dps_mono (st.wo (e1.o O)) _ _ d2) Q fun σ2 H2 ρ2 e2 => q σ2 H2 ρ2 (e1.trans e2)
theorem jg_tup {ts : List Expr} {k : Nat} {d : PyData} {R : List Sl → Prop} (h : ∃ ds, d = .tuple ds ∧ ds.length = ts.length ∧ JGs E Γ ρ ts ds R)
    (hn : ∀ env, (assignEach ts env).length = ts.length := by intro _; rfl) (hst : ∀ env, (assignEach ts env).findIdx? (·.1) = none := by intro _; rfl) : JG E Γ ρ (.Tuple ts k pos) d R := fun X g W M O σ H v st en dv Q q => by
  obtain ⟨ds, rfl, hl, h⟩ := h
  cases dv with
  | tup h1 h2 => exact fun pins s u I r => (pg_tup g.calm (pgs_se (ts := ts)) (hn _) (hst _)).run pins s σ H _ u Q I r ⟨_, _, rfl, seqT (wo_sub _ _) h1, by rw [dps_len h2]; exact hl, h X g W M O σ H _ st en h2 Q q⟩
/-- the well's own number is set -/
theorem jg_setW {a b : Expr} {d : PyData} {R : List Sl → Prop} (h : ∃ n, d = .int n ∧ JE E Γ ρ a fun s1 => s1 = .well ∧ JE E Γ ρ b fun s2 => ∃ i : Nat, s2 = .dat (.int (i : Int)) ∧ i < 3 ∧ R ρ)
    (ha : ∀ env v, assign (.Subscript a b pos) env v = (do
      let ov ← holding [v] (eval a env)
      let iv ← holding [v, ov] (eval b env)
      standAt pos
      holding [v, ov, iv] (setItem ov iv v)
      release [v, ov, iv] []) := by intro _ _; rfl) : JG E Γ ρ (.Subscript a b pos) d R := fun X g W M O σ H v st en dv Q q => by
  obtain ⟨n, rfl, h⟩ := h
  cases dv
  refine fun pins s u I r => (pg_sub (pe_se (e := a)) (pe_se (e := b)) set_list (ha X.env)).run pins s σ H _ u Q I r ?_
  refine h X g W M O σ H st en _ fun v1 s1 H1 e1 st1 o1 p1 => ?_
  obtain ⟨rfl, p1⟩ := p1
  refine p1 X g W M O σ H1 st1 (en.mono st e1) _ fun v2 s2 H2 e2 st2 o2 p2 => ?_
  obtain ⟨i, rfl, hi, p⟩ := p2
  cases o2
  obtain ⟨w, hw, rfl⟩ := o1
  obtain ⟨x, y, z, hl⟩ := st2.wl w hw
  refine ⟨w, _, (i : Int), i, rfl, rfl, hl, ?_, ?_⟩
  · unfold ixN
    rw [if_pos (by omega), if_pos (by show (i : Int) < ((3 : Nat) : Int); omega)]
    simp
  · have e3 : Ext W H2 (upd H2 w (.lst (([.int x, .int y, .int z] : List V).set i (.int n)))) := fun c o nc hc => by
      rw [upd_ne (fun z => nc (by rw [z]; exact hw))]
      exact hc
    have st3 : Stt W M O (upd H2 w (.lst (([.int x, .int y, .int z] : List V).set i (.int n)))) := by
      refine ⟨st2.sub, fun c hc => ?_, fun c hc => ?_, fun c hc => ⟨(st2.own c hc).1, ?_⟩⟩
      · by_cases e : c = w
        · rw [e, upd_same]
          match i, hi with
          | 0, _ => exact ⟨n, y, z, rfl⟩
          | 1, _ => exact ⟨x, n, z, rfl⟩
          | 2, _ => exact ⟨x, y, n, rfl⟩
        · rw [upd_ne e]
          exact st2.wl c hc
      · by_cases e : c = w
        · rw [e, upd_same]
          intro z
          cases z
        · rw [upd_ne e]
          exact st2.dom c hc
      · by_cases e : c = w
        · rw [e, upd_same]
          intro z
          cases z
        · rw [upd_ne e]
          exact (st2.own c hc).2
    exact q σ _ ρ ((e1.trans e2).trans e3) st3 ((en.mono st (e1.trans e2)).mono st2 e3) p
/-- target = e, the target of any form -/
theorem j1_asg {tg e : Expr} (h : JE E Γ ρ e fun s => ∃ d, s = .dat d ∧ JG E Γ ρ tg d D.nx) (hs : ∀ env : Env, env.scope = Γ.sc → swapsWithSole [tg] e pos.line env = pure false := by (intro env h; cases env; cases h; first | rfl | with_unfolding_all rfl)) (hw : ∀ env : Env, env.scope = Γ.sc → swappedStores [tg] e env = pure none := by (intro env h; cases env; cases h; first | rfl | with_unfolding_all rfl))
    (h1 : ∀ env, (assignEach [tg] env).map (·.2) = [assign tg env] := by intro _; rfl) : J1 E Γ o ρ (.Assign [tg] e pos) D := j1_of fun X g W M O σ H ho st en =>
  ⟨_, ps_asg (pe_se (e := e)) (pg_se (tg := tg)) (hs _ g.sc) (hw _ g.sc) (h1 _), fun DD q => h X g W M O σ H st en _ fun v s H1 e1 st1 o1 p1 => by
    obtain ⟨d, rfl, p⟩ := p1
    exact p X g W M O σ H1 v st1 (en.mono st e1) o1 _ fun σ' H' ρ' e2 st2 en2 p2 => q.nx σ' H' ρ' ((e1.trans e2).o O) st2 en2 p2⟩
/-- x, y = a, b -/
theorem j1_par (i j : Nat) {x y : Str} {a b : Expr} {px py pt pt2 : Pos} {kt k2 : Nat} (hN : Γ.N.Nodup) (hi : Γ.N[i]? = some x) (hj : Γ.N[j]? = some y) (hij : i ≠ j) (hx : Γ.sc.names.lookup x = some .local) (hy : Γ.sc.names.lookup y = some .local)
    (h : JE E Γ ρ a fun s => JE E Γ ρ b fun t => D.nx ((ρ.set i s).set j t)) (hw : ∀ env : Env, env.scope = Γ.sc → swappedStores [.Tuple [.Name x px, .Name y py] kt pt] (.Tuple [a, b] k2 pt2) env = pure (some [x, y]) := by (intro env h; cases env; cases h; first | rfl | with_unfolding_all rfl))
    (hs : ∀ env : Env, env.scope = Γ.sc → swapsWithSole [.Tuple [.Name x px, .Name y py] kt pt] (.Tuple [a, b] k2 pt2) pos.line env = pure false := by (intro env h; cases env; cases h; first | rfl | with_unfolding_all rfl))
    (h1 : ∀ env, starEach [a, b] env = (false, eval a env) :: starEach [b] env := by intro _; rfl) (h2 : ∀ env, starEach [b] env = (false, eval b env) :: starEach [] env := by intro _; rfl) :
    J1 E Γ o ρ (.Assign [.Tuple [.Name x px, .Name y py] kt pt] (.Tuple [a, b] k2 pt2) pos) D := j1_of fun X g W M O σ H ho st en =>
  ⟨_, ps_par (i := i) (j := j) g.calm (by rw [g.N]; exact hN) (by rw [g.N]; exact hi) (by rw [g.N]; exact hj) hij (by rw [g.sc]; exact hx) (by rw [g.sc]; exact hy) (pa_cons (pe_se (e := a)) (pa_cons (pe_se (e := b)) pa_nil (h2 _)) (h1 _)) (hw _ g.sc) (hs _ g.sc),
    fun DD q => h X g W M O σ H st en _ fun v s H1 e1 st1 o1 p1 => p1 X g W M O σ H1 st1 (en.mono st e1) _ fun v2 s2 H2 e2 st2 o2 p2 =>
      ⟨v, v2, rfl, q.nx _ H2 _ ((e1.trans e2).o O) st2 (((en.mono st (e1.trans e2)).set i (o1.mono st1 e2)).set j o2) p2⟩⟩
theorem j1_par3 (i j l : Nat) {x y z : Str} {a b c : Expr} {px py pz pt pt2 : Pos} {kt k2 : Nat} (hN : Γ.N.Nodup) (hi : Γ.N[i]? = some x) (hj : Γ.N[j]? = some y) (hl : Γ.N[l]? = some z) (hij : i ≠ j) (hil : i ≠ l) (hjl : j ≠ l) (hx : Γ.sc.names.lookup x = some .local) (hy : Γ.sc.names.lookup y = some .local) (hz : Γ.sc.names.lookup z = some .local)
    (h : JE E Γ ρ a fun s => JE E Γ ρ b fun t => JE E Γ ρ c fun u => D.nx (((ρ.set i s).set j t).set l u)) (hw : ∀ env : Env, env.scope = Γ.sc → swappedStores [.Tuple [.Name x px, .Name y py, .Name z pz] kt pt] (.Tuple [a, b, c] k2 pt2) env = pure (some [x, y, z]) := by (intro env h; cases env; cases h; first | rfl | with_unfolding_all rfl))
    (hs : ∀ env : Env, env.scope = Γ.sc → swapsWithSole [.Tuple [.Name x px, .Name y py, .Name z pz] kt pt] (.Tuple [a, b, c] k2 pt2) pos.line env = pure false := by (intro env h; cases env; cases h; first | rfl | with_unfolding_all rfl))
    (h1 : ∀ env, starEach [a, b, c] env = (false, eval a env) :: starEach [b, c] env := by intro _; rfl) (h2 : ∀ env, starEach [b, c] env = (false, eval b env) :: starEach [c] env := by intro _; rfl) (h3 : ∀ env, starEach [c] env = (false, eval c env) :: starEach [] env := by intro _; rfl) :
    J1 E Γ o ρ (.Assign [.Tuple [.Name x px, .Name y py, .Name z pz] kt pt] (.Tuple [a, b, c] k2 pt2) pos) D := j1_of fun X g W M O σ H ho st en =>
  ⟨_, ps_par3 (i := i) (j := j) (l := l) g.calm (by rw [g.N]; exact hN) (by rw [g.N]; exact hi) (by rw [g.N]; exact hj) (by rw [g.N]; exact hl) hij hil hjl (by rw [g.sc]; exact hx) (by rw [g.sc]; exact hy) (by rw [g.sc]; exact hz) (pa_cons (pe_se (e := a)) (pa_cons (pe_se (e := b)) (pa_cons (pe_se (e := c)) pa_nil (h3 _)) (h2 _)) (h1 _)) (hw _ g.sc) (hs _ g.sc),
    fun DD q => h X g W M O σ H st en _ fun v s H1 e1 st1 o1 p1 => p1 X g W M O σ H1 st1 (en.mono st e1) _ fun v2 s2 H2 e2 st2 o2 p2 => p2 X g W M O σ H2 st2 ((en.mono st e1).mono st1 e2) _ fun v3 s3 H3 e3 st3 o3 p3 =>
      ⟨v, v2, v3, rfl, q.nx _ H3 _ (((e1.trans e2).trans e3).o O) st3 ((((en.mono st (e1.trans (e2.trans e3))).set i (o1.mono st1 (e2.trans e3))).set j (o2.mono st2 e3)).set l o3) p3⟩⟩

/-! loops -/
theorem j1_for {tg iter : Expr} {body : List Stmt} (h : JI E Γ ρ tg iter fun items => ∃ I : Nat → List Sl → Prop, I 0 ρ ∧ (∀ (i : Nat) d ρ', items[i]? = some d → I i ρ' → JG E Γ ρ' tg d fun ρ2 => JS E Γ o ρ2 body ⟨I (i + 1), D.rt, D.nx, I (i + 1)⟩) ∧ ∀ ρ', I items.length ρ' → D.nx ρ')
    (hs : ∀ env x, foldedSetIterable iter env x = pure x := by intro _ _; rfl) : J1 E Γ o ρ (.For tg iter body [] pos) D := j1_of fun X g W M O σ H ho st en =>
  ⟨_, ps_for g.pass g.calm (pi_se (tg := tg) (iter := iter)) (pg_se (tg := tg)) (pss_se (sts := body)) (hs _), fun DD q => h X g W M O σ H st en _ fun J items H1 e1 st1 hJ p1 => by
    obtain ⟨I, h0, h1, h2⟩ := p1
    refine ⟨fun i m σ' H' => m = items.length - i ∧ i ≤ items.length ∧ Stt W M O H' ∧ ExtO W O H1 H' ∧ ∃ ρ', EnvOk X.K W M O H' σ' ρ' ∧ I i ρ', ⟨items.length, rfl, Nat.zero_le _, st1, ExtO.refl W O H1, ρ, en.mono st e1, h0⟩, ?_⟩
    rintro i m σ' H' ⟨rfl, hi, st', kp, ρ', en', hI⟩
    have J' := hJ [] (fun _ z => nomatch z) H' kp st' i
    by_cases hlt : i < items.length
    · have hd : items[i]? = some items[i] := List.getElem?_eq_getElem hlt
      obtain ⟨go, yl⟩ := J'.2 _ hd
      refine .inr ⟨go, fun σ2 H2 => Stt W M O H2 ∧ ExtO W O H1 H2 ∧ ∃ ρ2, EnvOk X.K W M O H2 σ2 ρ2 ∧ I (i + 1) ρ2, fun σ2 H2 ⟨a1, a2, a3⟩ => ⟨items.length - (i + 1), by omega, rfl, hlt, a1, a2, a3⟩, fun x H'' y => ?_⟩
      obtain ⟨s1, dx⟩ := yl x H'' y
      refine h1 i _ ρ' hd hI X g W M O σ' H'' x (st'.same s1) (en'.mono st' (Ext.of s1)) dx _ fun σ2 H2 ρ2 e2 st2 en2 p2 => ?_
      have kp2 : ExtO W O H1 H2 := kp.trans (((Ext.of s1).trans e2).o O)
      have kp3 : ExtO W O H H2 := (e1.o O).trans kp2
      exact p2 X g W M O σ2 H2 ho st2 en2 _ ⟨fun σ3 H3 ρ3 e3 s3 en3 j => ⟨s3, kp2.trans e3, ρ3, en3, j⟩, fun v d H3 e3 => q.rt v d H3 (kp3.trans e3), fun σ3 H3 ρ3 e3 s3 en3 j => q.nx σ3 H3 ρ3 (kp3.trans e3) s3 en3 j, fun σ3 H3 ρ3 e3 s3 en3 j => ⟨s3, kp2.trans e3, ρ3, en3, j⟩⟩
    · have e : i = items.length := by omega
      subst e
      exact .inl ⟨J'.1 rfl, q.nx σ' H' ρ' ((e1.o O).trans kp) st' en' (h2 ρ' hI)⟩⟩
theorem j1_while {c : Expr} {body : List Stmt} (I : Nat → List Sl → Prop) (n : Nat) (h0 : I n ρ) (h : ∀ m ρ', I m ρ' → JT E Γ ρ' c fun b => (b = true → JS E Γ o ρ' body ⟨fun ρ2 => ∃ m', m' < m ∧ I m' ρ2, D.rt, D.nx, fun ρ2 => ∃ m', m' < m ∧ I m' ρ2⟩) ∧ (b = false → D.nx ρ')) :
    J1 E Γ o ρ (.While c body [] pos) D := j1_of fun X g W M O σ H ho st en =>
  ⟨_, ps_while g.pass (pt_se (e := c)) (pss_se (sts := body)), fun DD q => by
    refine ⟨fun m σ' H' => Stt W M O H' ∧ ExtO W O H H' ∧ ∃ ρ', EnvOk X.K W M O H' σ' ρ' ∧ I m ρ', ⟨n, st, ExtO.refl W O H, ρ, en, h0⟩, ?_⟩
    rintro m σ' H' ⟨st', kp, ρ', en', hI⟩
    refine h m ρ' hI X g W M O σ' H' st' en' _ fun b H1 e1 st1 p1 => ?_
    have kp1 : ExtO W O H H1 := kp.trans (e1.o O)
    cases b with
    | true =>
      refine iteT ⟨fun σ2 H2 => ∃ m', m' < m ∧ Stt W M O H2 ∧ ExtO W O H H2 ∧ ∃ ρ2, EnvOk X.K W M O H2 σ2 ρ2 ∧ I m' ρ2, fun σ2 H2 ⟨m', a, b⟩ => ⟨m', a, b⟩, ?_⟩
      have go : ∀ σ3 H3 ρ3, ExtO W O H1 H3 → Stt W M O H3 → EnvOk X.K W M O H3 σ3 ρ3 → (∃ m', m' < m ∧ I m' ρ3) → ∃ m', m' < m ∧ Stt W M O H3 ∧ ExtO W O H H3 ∧ ∃ ρ2, EnvOk X.K W M O H3 σ3 ρ2 ∧ I m' ρ2 := fun σ3 H3 ρ3 e3 s3 en3 ⟨m', a, b⟩ => ⟨m', a, s3, kp1.trans e3, ρ3, en3, b⟩
      exact p1.1 rfl X g W M O σ' H1 ho st1 (en'.mono st' e1) _ ⟨go, fun v d H3 e3 => q.rt v d H3 (kp1.trans e3), fun σ3 H3 ρ3 e3 s3 en3 j => q.nx σ3 H3 ρ3 (kp1.trans e3) s3 en3 j, go⟩
    | false => exact iteF (q.nx σ' H1 ρ' kp1 st1 (en'.mono st' e1) (p1.2 rfl))⟩

/-! ### an own list -/
def fz : Sl → Sl
  | .own ds => .dat (.list ds)
  | s => s
theorem fz_ok {K : PySem.W.Frag} {W M : List Addr} {O : Option Addr} {H : Hp} {v : V} {s : Sl} (st : Stt W M O H) (h : SlOk K W M O H v s) : SlOk K W M none H v (fz s) := by
  have sm : Same (wo (mt O M) H) (wo M H) := fun a o h => let ⟨n, h⟩ := wo_some h; wo_of (fun z => n (mem_mt z)) h
  cases s with
  | own ds => exact rt_ok st h rfl
  | dat d => exact dp_mono sm d v h
  | rd ds =>
    obtain ⟨a, vs, h1, h2, h3, h4, h5⟩ := h
    exact ⟨a, vs, h1, h2, fun z => (nomatch z), h4, dps_mono sm ds vs h5⟩
  | scr ns =>
    obtain ⟨a, h1, h2⟩ := h
    exact ⟨a, h1, sm.seq h2⟩
  | no => exact h
  | well => exact h
  | ty n => exact h
theorem fz_env {K : PySem.W.Frag} {W M : List Addr} {O : Option Addr} {H : Hp} {σ : L2.St} {ρ : List Sl} (st : Stt W M O H) (h : EnvOk K W M O H σ ρ) : EnvOk K W M none H σ (ρ.map fz) := by
  refine ⟨by rw [List.length_map, h.len], fun i s a b => ?_⟩
  rw [List.getElem?_map] at a
  obtain ⟨t, h1, rfl⟩ := Option.map_eq_some_iff.mp a
  obtain ⟨v, h2, h3⟩ := h.at' i t h1 (fun z => b (by rw [z]; rfl))
  exact ⟨v, h2, fz_ok st h3⟩
/-- x = a new list, which from here on is this def's own: e gives a list -/
theorem js_own (i : Nat) {x : Str} {e : Expr} {px : Pos} {ds : List PyData} (hN : Γ.N.Nodup) (hi : Γ.N[i]? = some x) (hx : Loc Γ.sc x)
    (he : ∀ X, Good E Γ X → ∀ W M O σ H, Stt W M O H → EnvOk X.K W M O H σ ρ → ∀ Q : VK, (∀ p vs H1, Ext W H H1 → Stt W M O H1 → H1 p = none → DqAll X.K (wo (mt O M) H1) vs ds → Q (.ref p) (upd H1 p (.lst vs))) → seE X e σ H Q)
    (h : JS E Γ true (ρ.set i (.own ds)) sts ⟨fun ρ' => D.nx (ρ'.map fz), D.rt, fun ρ' => D.bk (ρ'.map fz), fun ρ' => D.ct (ρ'.map fz)⟩) (hd : Γ.df = true := by rfl)
    (hs : ∀ env : Env, env.scope = Γ.sc → swapsWith e (some (.Name x px)) pos.line env = pure false := by (intro env h; cases env; cases h; first | rfl | with_unfolding_all rfl)) : JS E Γ false ρ (.Assign [.Name x px] e pos :: sts) D := js_of fun X g W M O σ H ho st en => by
  cases O with
  | some a => cases ho
  | none =>
    refine ⟨_, pss_cons (ps_set (i := i) (by rw [g.N]; exact hN) (by rw [g.N]; exact hi) (by rw [g.sc]; exact hx) (pe_se (e := e)) (hs _ g.sc) (.inl (g.fn hd x))) (pss_se (sts := sts)), fun DD q => ?_⟩
    refine he X g W M none σ H st en _ fun p vs H1 e1 st1 hp hv => ?_
    have nM : p ∉ M := fun z => st1.dom p z hp
    have st2 : Stt W M (some p) (upd H1 p (.lst vs)) := by
      have z := st1.same (same_new (o := .lst vs) hp)
      refine ⟨z.sub, z.wl, z.dom, fun a ha => ?_⟩
      cases ha
      exact ⟨nM, by rw [upd_same]; exact fun w => nomatch w⟩
    have en2 : EnvOk X.K W M (some p) (upd H1 p (.lst vs)) σ ρ := by
      have k := en.mono st e1
      refine ⟨k.len, fun j s a b => ?_⟩
      obtain ⟨v, h1, h2⟩ := k.at' j s a b
      refine ⟨v, h1, ?_⟩
      have sm : Same (wo M H1) (wo (p :: M) (upd H1 p (.lst vs))) := fun c o hc => by
        obtain ⟨n, hc⟩ := wo_some hc
        have ne := ne_of_none hc hp
        refine wo_of (fun z => ?_) (by rw [upd_ne ne]; exact hc)
        rcases List.mem_cons.mp z with z | z
        · exact ne z
        · exact n z
      cases s with
      | own es =>
        obtain ⟨_, _, _, z, _⟩ := h2
        cases z
      | dat d => exact dp_mono sm d v h2
      | rd es =>
        obtain ⟨a, ws, h3, h4, h5, h6, h7⟩ := h2
        have ne := ne_of_none h6 hp
        exact ⟨a, ws, h3, h4, fun z => ne (by cases z; rfl), by rw [upd_ne ne]; exact h6, dps_mono sm es ws h7⟩
      | scr ns =>
        obtain ⟨a, h3, h4⟩ := h2
        exact ⟨a, h3, sm.seq h4⟩
      | no => exact h2
      | well => exact h2
      | ty n => exact h2
    have own : SlOk X.K W M (some p) (upd H1 p (.lst vs)) (.ref p) (.own ds) := by
      refine ⟨p, vs, rfl, rfl, upd_same, dps_mono (fun c o hc => ?_) _ _ hv⟩
      obtain ⟨n, hc⟩ := wo_some hc
      have ne := ne_of_none hc hp
      refine wo_of (fun z => ?_) (by rw [upd_ne ne]; exact hc)
      rcases List.mem_cons.mp z with z | z
      · exact ne z
      · exact n z
    have ex : ∀ {H'}, ExtO W (some p) (upd H1 p (.lst vs)) H' → ExtO W none H H' := fun {H'} k a o n _ hc => by
      have h1 := e1 a o n hc
      have ne := ne_of_none h1 hp
      exact k a o n (fun z => ne (by cases z; rfl)) (by rw [upd_ne ne]; exact h1)
    have back : ∀ {H'}, Stt W M (some p) H' → Stt W M none H' := fun {H'} s => ⟨s.sub, s.wl, s.dom, fun _ z => nomatch z⟩
    exact h X g W M (some p) _ _ rfl st2 (en2.set i own) DD ⟨fun σ' H' ρ' k s en' j => q.nx σ' H' _ (ex k) (back s) (fz_env s en') j, fun v d H' k s dv j => q.rt v d H' (ex k) (back s) dv j, fun σ' H' ρ' k s en' j => q.bk σ' H' _ (ex k) (back s) (fz_env s en') j, fun σ' H' ρ' k s en' j => q.ct σ' H' _ (ex k) (back s) (fz_env s en') j⟩
theorem own_nil {X : Cx} (g : Good E Γ X) : ∀ W M O σ H, Stt W M O H → EnvOk X.K W M O H σ ρ → ∀ Q : VK, (∀ p vs H1, Ext W H H1 → Stt W M O H1 → H1 p = none → DqAll X.K (wo (mt O M) H1) vs [] → Q (.ref p) (upd H1 p (.lst vs))) → seE X (.List [] pos) σ H Q := fun W M O σ H st en Q q pins s I =>
  (pe_lst pa_nil).run pins s σ H Q I ⟨Nat.zero_le _, fun p hp => q p [] H (Ext.refl W H) st hp .nil⟩
/-- list(e) -/
theorem own_list {x : Str} {p : Pos} {e : Expr} {ds : List PyData} (hm : E.mg x = none) (hg : Glo Γ x) (hv : bootBuiltins x = some (.type "list")) (h : JE E Γ ρ e fun s => seqD s = some ds) (hn : x ≠ "__name__" := by decide) (hd : (x == ("__debug__" : Str)) = false := by decide)
    (hs : ∀ env, starEach [e] env = (false, eval e env) :: starEach [] env := by intro _; rfl) (hpl : ∀ env, (backTo pos (starEach [] env)).any (·.1) = false := by intro _; rfl) :
    ∀ X, Good E Γ X → ∀ W M O σ H, Stt W M O H → EnvOk X.K W M O H σ ρ → ∀ Q : VK, (∀ p vs H1, Ext W H H1 → Stt W M O H1 → H1 p = none → DqAll X.K (wo (mt O M) H1) vs ds → Q (.ref p) (upd H1 p (.lst vs))) → seE X (.Call (.Name x p) [e] [] pos) σ H Q := fun X g W M O σ H st en Q q pins s I =>
  (pe_callTy call_list_of (g.gl hg) (by rw [g.mg]; exact hm) hv (pa_cons (pe_se (e := e)) pa_nil (hs _)) hn hd (hs _) (hpl _)).run pins s σ H Q I (h X g W M O σ H st en _ fun v t H1 e1 st1 o1 p1 => by
    obtain ⟨a, ys, rfl, h1, h2⟩ := seq_ok o1 p1
    exact ⟨a, ys, rfl, h1, fun r hr => q r ys H1 e1 st1 hr h2⟩)
/-- the own list is handed over: the rest returns -/
theorem js_freeze (h : JS E Γ false (ρ.map fz) sts ⟨fun _ => False, D.rt, fun _ => False, fun _ => False⟩) : JS E Γ true ρ sts D := fun X g W M O σ H ho st en DD q => by
  have k : Stt W M none H := ⟨st.sub, st.wl, st.dom, fun _ z => nomatch z⟩
  refine h X g W M none σ H rfl k (fz_env st en) DD ⟨fun _ _ _ _ _ _ z => z.elim, fun v d H' e s dv j => q.rt v d H' (e.none.o O) ⟨s.sub, s.wl, s.dom, fun a ha => ⟨(st.own a ha).1, fun z => ?_⟩⟩ dv j, fun _ _ _ _ _ _ z => z.elim, fun _ _ _ _ _ _ z => z.elim⟩
  cases w : H a with
  | none => exact (st.own a ha).2 w
  | some o =>
    rw [e a o (st.nw ha) (fun z => nomatch z) w] at z
    cases z
def isOwn : Sl → Bool
  | .own _ => true
  | _ => false
/-- but the i-th none is own -/
def soleOwn : List Sl → Nat → Bool
  | [], _ => true
  | _ :: r, 0 => r.all fun s => !isOwn s
  | s :: r, i + 1 => !isOwn s && soleOwn r i
theorem soleOwn_at : ∀ {ρ : List Sl} {i j : Nat} {s : Sl}, soleOwn ρ i = true → ρ[j]? = some s → j ≠ i → isOwn s = false
  | [], _, _, _, _, h, _ => by simp at h
  | _ :: r, 0, 0, _, _, _, n => absurd rfl n
  | _ :: r, 0, j + 1, s, h, e, _ => by
    have h' : (r.all fun s => !isOwn s) = true := h
    have := List.all_eq_true.mp h' s (List.mem_of_getElem? (by simpa using e))
    simpa using this
  | t :: r, i + 1, 0, s, h, e, _ => by
    have h' : (!isOwn t && soleOwn r i) = true := h
    simp at e
    subst e
    simp at h'
    exact h'.1
  | t :: r, i + 1, j + 1, s, h, e, n => by
    have h' : (!isOwn t && soleOwn r i) = true := h
    simp at h'
    exact soleOwn_at h'.2 (by simpa using e) (fun z => n (by rw [z]))
/-- the own list changed -/
theorem own_upd {K : PySem.W.Frag} {W M : List Addr} {H : Hp} {a : Addr} {σ : L2.St} {ρ : List Sl} {i : Nat} {ds es : List PyData} {ws : List V} (st : Stt W M (some a) H) (en : EnvOk K W M (some a) H σ ρ) (hρ : ρ[i]? = some (.own ds)) (so : soleOwn ρ i = true) (hw : DqAll K (wo (a :: M) H) ws es) :
    Stt W M (some a) (upd H a (.lst ws)) ∧ ExtO W (some a) H (upd H a (.lst ws)) ∧ EnvOk K W M (some a) (upd H a (.lst ws)) σ (ρ.set i (.own es)) := by
  have sm : Same (wo (a :: M) H) (wo (a :: M) (upd H a (.lst ws))) := wo_own
  have nW := st.nw rfl
  have nM := (st.own a rfl).1
  refine ⟨⟨st.sub, fun c hc => ?_, fun c hc => ?_, fun c hc => ?_⟩, fun c o n m hc => ?_, ?_⟩
  · rw [upd_ne (fun z => nW (by rw [← z]; exact hc))]
    exact st.wl c hc
  · rw [upd_ne (fun z => nM (by rw [← z]; exact hc))]
    exact st.dom c hc
  · cases hc
    exact ⟨nM, by rw [upd_same]; exact fun w => nomatch w⟩
  · rw [upd_ne (fun z => m (by rw [z]))]
    exact hc
  · refine ⟨by rw [List.length_set, en.len], fun j s h1 h2 => ?_⟩
    by_cases e : i = j
    · subst e
      have hl := (List.getElem?_eq_some_iff.mp hρ).1
      rw [List.getElem?_set_self hl] at h1
      cases h1
      obtain ⟨v, h3, h4⟩ := en.at' i _ hρ (fun z => nomatch z)
      obtain ⟨b, us, rfl, h5, h6, h7⟩ := h4
      cases h5
      exact ⟨_, h3, a, ws, rfl, rfl, upd_same, dps_mono sm _ _ hw⟩
    · rw [List.getElem?_set_ne e] at h1
      obtain ⟨v, h3, h4⟩ := en.at' j s h1 h2
      refine ⟨v, h3, ?_⟩
      cases s with
      | own es' => exact absurd (soleOwn_at so h1 (Ne.symm e)) (by simp [isOwn])
      | dat d => exact dp_mono sm d v h4
      | rd es' =>
        obtain ⟨b, us, h5, h6, h7, h8, h9⟩ := h4
        exact ⟨b, us, h5, h6, h7, by rw [upd_ne (fun z => h7 (by rw [z]))]; exact h8, dps_mono sm _ _ h9⟩
      | scr ns =>
        obtain ⟨b, h5, h6⟩ := h4
        exact ⟨b, h5, sm.seq h6⟩
      | no => exact h4
      | well => exact h4
      | ty n => exact h4
/-- x.append(e) -/
theorem j1_app (i : Nat) {x : Str} {ds : List PyData} {e : Expr} {p1 p2 p3 : Pos} (hi : Γ.N[i]? = some x) (hx : Vis Γ.sc x) (hρ : ρ[i]? = some (.own ds)) (so : soleOwn ρ i = true) (hz : ds.length < 100000) (h : JE E Γ ρ e fun s => ∃ d, s = .dat d ∧ D.nx (ρ.set i (.own (ds ++ [d]))))
    (hd : (x == ("__debug__" : Str)) = false := by decide) (hcd : (x == ("__classdict__" : Str)) = false := by decide) (hbase : ∀ env, attributeBase (.Name x p1) "append" env (eval (.Name x p1) env) = eval (.Name x p1) env := by intro _; rfl)
    (hfew : ∀ env, ((backTo p3 (starEach [e] env)).all (fun x => !x.1) && (backToKw p3 (keywordEach [] env)).all (fun x => x.1.isSome) && decide (([e] : List Expr).length + ([] : List Keyword).length + (if ([] : List Keyword).isEmpty then 0 else 1) < 30)) = true := by intro _; rfl)
    (hline : (p2.endLine == p3.line) = true := by rfl) (hs : ∀ env, starEach [e] env = (false, eval e env) :: starEach [] env := by intro _; rfl) (hplain : ∀ env, (backTo p3 (starEach [] env)).any (·.1) = false := by intro _; rfl)
    (hsw : ∀ env : Env, env.scope = Γ.sc → swapsWith (.Call (.Attribute (.Name x p1) "append" p2) [e] [] p3) none pos.line env = pure false := by (intro env h; cases env; cases h; first | rfl | with_unfolding_all rfl)) :
    J1 E Γ true ρ (.Expr (.Call (.Attribute (.Name x p1) "append" p2) [e] [] p3) pos) D := j1_of fun X g W M O σ H ho st en => by
  refine ⟨_, ps_expr (pe_bm PySem.F.plainAttrs_list PySem.F.slot_list_append PySem.F.type_list_append mt_append (pe_var (i := i) (by rw [g.N]; exact hi) (by rw [g.sc]; exact hx) hd hcd) (pa_cons (pe_se (e := e)) pa_nil (hs _)) (hbase _) (hfew _) hline (hs _) (hplain _)) (hsw _ g.sc), fun DD q => ?_⟩
  obtain ⟨v, h1, h2⟩ := en.at' i _ hρ (fun z => nomatch z)
  obtain ⟨a, vs, rfl, h3, h4, h5⟩ := id h2
  subst h3
  refine ⟨_, h1, .inl ⟨rfl, vs, SqL.of h4⟩, ?_⟩
  refine h X g W M _ σ H st en _ fun w s H1 e1 st1 o1 p1 => ?_
  obtain ⟨d, rfl, p⟩ := p1
  have h6 : H1 a = some (.lst vs) := e1 a _ (st.nw rfl) h4
  refine ⟨a, vs, w, rfl, rfl, h6, Nat.lt_of_lt_of_le (show vs.length < 100000 by rw [dps_len h5]; exact hz) (by decide), ?_⟩
  obtain ⟨s1, x1, n1⟩ := own_upd st1 (en.mono st e1) hρ so (dps_app (dps_mono (st.wo (e1.o _)) _ _ h5) (.cons o1 .nil))
  exact q.nx σ _ _ ((e1.o _).trans x1) s1 n1 p
/-- x[k] = e -/
theorem j1_setL (i : Nat) {x : Str} {ds : List PyData} {e b : Expr} {p1 p2 : Pos} (hi : Γ.N[i]? = some x) (hx : Vis Γ.sc x) (hρ : ρ[i]? = some (.own ds)) (so : soleOwn ρ i = true) (h : JE E Γ ρ e fun s => ∃ d, s = .dat d ∧ JE E Γ ρ b fun t => ∃ k : Nat, t = .dat (.int (k : Int)) ∧ k < ds.length ∧ D.nx (ρ.set i (.own (ds.set k d))))
    (hd : (x == ("__debug__" : Str)) = false := by decide) (hcd : (x == ("__classdict__" : Str)) = false := by decide)
    (ha : ∀ env v, assign (.Subscript (.Name x p1) b p2) env v = (do
      let ov ← holding [v] (eval (.Name x p1) env)
      let iv ← holding [v, ov] (eval b env)
      standAt p2
      holding [v, ov, iv] (setItem ov iv v)
      release [v, ov, iv] []) := by intro _ _; rfl)
    (hs : ∀ env : Env, env.scope = Γ.sc → swapsWithSole [.Subscript (.Name x p1) b p2] e pos.line env = pure false := by (intro env h; cases env; cases h; first | rfl | with_unfolding_all rfl)) (hw : ∀ env : Env, env.scope = Γ.sc → swappedStores [.Subscript (.Name x p1) b p2] e env = pure none := by (intro env h; cases env; cases h; first | rfl | with_unfolding_all rfl))
    (h1 : ∀ env, (assignEach [.Subscript (.Name x p1) b p2] env).map (·.2) = [assign (.Subscript (.Name x p1) b p2) env] := by intro _; rfl) : J1 E Γ true ρ (.Assign [.Subscript (.Name x p1) b p2] e pos) D := j1_of fun X g W M O σ H ho st en => by
  refine ⟨_, ps_asg (pe_se (e := e)) (pg_sub (pe_var (i := i) (by rw [g.N]; exact hi) (by rw [g.sc]; exact hx) hd hcd) (pe_se (e := b)) set_list (ha _)) (hs _ g.sc) (hw _ g.sc) (h1 _), fun DD q => ?_⟩
  refine h X g W M O σ H st en _ fun w s H1 e1 st1 o1 p1 => ?_
  obtain ⟨d, rfl, p⟩ := p1
  have en1 := en.mono st e1
  obtain ⟨v, g1, g2⟩ := en1.at' i _ hρ (fun z => nomatch z)
  refine ⟨v, g1, ?_⟩
  refine p X g W M O σ H1 st1 en1 _ fun u t H2 e2 st2 o2 p2 => ?_
  obtain ⟨k, rfl, hk, p⟩ := p2
  cases o2
  obtain ⟨a, vs, rfl, h3, h4, h5⟩ := g2.mono st1 e2
  subst h3
  have hl := dps_len h5
  refine ⟨a, vs, (k : Int), k, rfl, rfl, h4, ?_, ?_⟩
  · unfold ixN
    rw [if_pos (by omega), if_pos (by omega)]
    simp
  · obtain ⟨s1, x1, n1⟩ := own_upd st2 (en1.mono st1 e2) hρ so (dps_set (dp_mono (st1.wo (e2.o _)) _ _ o1) k h5)
    exact q.nx σ _ _ (((e1.trans e2).o _).trans x1) s1 n1 p

/-! ### a def -/
theorem start_ok {K : PySem.W.Frag} {W M : List Addr} {H : Hp} {vs : List V} {ss : List Sl} (N : List Str) (h : SlsOk K W M none H vs ss) : EnvOk K W M none H (L2.start N vs) (ss ++ List.replicate (N.length - ss.length) .no) := by
  have hl : vs.length = ss.length := Paired.length h
  refine ⟨?_, fun i s a b => ?_⟩
  · unfold L2.start
    rw [List.length_append, List.length_append, List.length_map, List.length_replicate, List.length_replicate, hl]
  · have key : ∀ {vs : List V} {ss : List Sl} {i : Nat} {s : Sl}, SlsOk K W M none H vs ss → ss[i]? = some s → ∃ v, vs[i]? = some v ∧ SlOk K W M none H v s := by
      intro vs ss
      induction ss generalizing vs with
      | nil => intro i s h e; simp at e
      | cons t ss ih =>
        intro i s h e
        cases h with
        | cons h1 h2 =>
          cases i with
          | zero => simp at e; subst e; exact ⟨_, rfl, h1⟩
          | succ i =>
            obtain ⟨v, e1, e2⟩ := ih h2 (by simpa using e)
            exact ⟨v, by simpa using e1, e2⟩
    by_cases hi : i < ss.length
    · rw [List.getElem?_append_left hi] at a
      obtain ⟨v, e1, e2⟩ := key h a
      refine ⟨v, ?_, e2⟩
      unfold L2.start
      rw [List.getElem?_append_left (by rw [List.length_map]; omega), List.getElem?_map, e1] <;> rfl
    · rw [List.getElem?_append_right (by omega)] at a
      obtain ⟨_, e⟩ := List.getElem?_eq_some_iff.mp a
      rw [List.getElem_replicate] at e
      exact absurd e.symm b
theorem def_body {N : List Str} {qual : Str} {sc : Scope} {k : Nat} {f : Addr} {C : List Sl → (PyData → Prop) → Prop} {body : List Stmt} (h : ∀ ss P, C ss P → JS E ⟨N, sc, true, k, fun _ => True⟩ false (ss ++ List.replicate (N.length - ss.length) .no) body ⟨fun _ => P .none, P, fun _ => False, fun _ => False⟩)
    (cdv : Value) (A : Around) (outer : List Env) (s : Shared) (H : Hp) (vs : List V) (Q : VK) (Ex : XK) (hr : Room k (A.deeper (envOfC qual sc s.heap.objs.size f cdv))) (hsp : spC E.K C vs H Q Ex) :
    ∃ t, PSs (cxOf CX0 E.P E.w E.K E.mg E.base N qual sc f cdv A outer s H Ex).nox body t ∧ t { nx := fun _ H' => Q .non H', rt := Q } (L2.start N vs) H := by
  obtain ⟨W, M, ss, P, st, ok, hC, q⟩ := hsp
  refine ⟨_, pss_se, ?_⟩
  refine h ss P hC _ ⟨rfl, rfl, rfl, rfl, rfl, rfl, rfl, rfl, hr, rfl, fun _ _ => rfl, trivial⟩ W M none (L2.start N vs) H rfl st (start_ok N ok) _ ⟨fun σ' H' ρ' e s en p => q .non .none H' e.none s .non p, fun v d H' e s dv p => q v d H' e.none s dv p, fun _ _ _ _ _ _ z => z.elim, fun _ _ _ _ _ _ z => z.elim⟩
/-- a def without defaults -/
theorem def_ok {x : Str} {stm : Stmt} {f : Addr} {fd : FuncData} {N ps : List Str} {k : Nat} {C : List Sl → (PyData → Prop) → Prop} (F : Fun E.K x x stm f fd) (S : FnScope N ps (defScope stm)) (hm : E.mg x = some (.ref f)) (hb : Binds E.K fd ps []) (hl : ∀ ss P, C ss P → ss.length = ps.length)
    (h : ∀ ss P, C ss P → JS E ⟨N, defScope stm, true, k, fun _ => True⟩ false (ss ++ List.replicate (N.length - ss.length) .no) (defBody stm) ⟨fun _ => P .none, P, fun _ => False, fun _ => False⟩) : Def E (k + 1) x ps [] C :=
  ⟨f, fd, [], [], F.ok S (fun vs H Q Ex hsp => by
    obtain ⟨W, M, ss, P, st, ok, hC, q⟩ := hsp
    rw [← hl ss P hC]
    exact Paired.length ok) (def_body h), hm, F.kp, hb, .nil, fun _ => .nil⟩
end
end W6
end
section
set_option Elab.async false
set_option linter.all false
set_option maxRecDepth 100000
set_option maxHeartbeats 4000000
/-! The text by places. -/
namespace W6
open PySem PySem.Spec PyProof.Rows L2
def top (i : Nat) : Stmt := PySem.Challenge.pw_safehelms_k06_whole_bounds_by_own_taking.main.body.getD i (.Pass ⟨0, 0, 0, 0⟩)
abbrev s_is_whole : Stmt := top 7
abbrev N_is_whole : List Str := ["value"]
theorem c_is_whole : FnScope N_is_whole ["value"] (defScope s_is_whole) := ⟨rfl, rfl, rfl, by decide +kernel, rfl, by decide +kernel, by decide +kernel⟩
abbrev s_is_between : Stmt := top 8
abbrev N_is_between : List Str := ["value", "low", "high"]
theorem c_is_between : FnScope N_is_between ["value", "low", "high"] (defScope s_is_between) := ⟨rfl, rfl, rfl, by decide +kernel, rfl, by decide +kernel, by decide +kernel⟩
abbrev s_are_wholes : Stmt := top 9
abbrev N_are_wholes : List Str := ["value", "many", "each"]
theorem c_are_wholes : FnScope N_are_wholes ["value", "many"] (defScope s_are_wholes) := ⟨rfl, rfl, rfl, by decide +kernel, rfl, by decide +kernel, by decide +kernel⟩
abbrev s_divisor_of : Stmt := top 10
abbrev N_divisor_of : List Str := ["one", "two"]
theorem c_divisor_of : FnScope N_divisor_of ["one", "two"] (defScope s_divisor_of) := ⟨rfl, rfl, rfl, by decide +kernel, rfl, by decide +kernel, by decide +kernel⟩
abbrev s_is_ratio : Stmt := top 15
abbrev N_is_ratio : List Str := ["value"]
theorem c_is_ratio : FnScope N_is_ratio ["value"] (defScope s_is_ratio) := ⟨rfl, rfl, rfl, by decide +kernel, rfl, by decide +kernel, by decide +kernel⟩
abbrev s_ratio : Stmt := top 16
abbrev N_ratio : List Str := ["top", "low", "part"]
theorem c_ratio : FnScope N_ratio ["top", "low"] (defScope s_ratio) := ⟨rfl, rfl, rfl, by decide +kernel, rfl, by decide +kernel, by decide +kernel⟩
abbrev s_plus : Stmt := top 17
abbrev N_plus : List Str := ["one", "two"]
theorem c_plus : FnScope N_plus ["one", "two"] (defScope s_plus) := ⟨rfl, rfl, rfl, by decide +kernel, rfl, by decide +kernel, by decide +kernel⟩
abbrev s_minus : Stmt := top 18
abbrev N_minus : List Str := ["one", "two"]
theorem c_minus : FnScope N_minus ["one", "two"] (defScope s_minus) := ⟨rfl, rfl, rfl, by decide +kernel, rfl, by decide +kernel, by decide +kernel⟩
abbrev s_times : Stmt := top 19
abbrev N_times : List Str := ["one", "two"]
theorem c_times : FnScope N_times ["one", "two"] (defScope s_times) := ⟨rfl, rfl, rfl, by decide +kernel, rfl, by decide +kernel, by decide +kernel⟩
abbrev s_over : Stmt := top 20
abbrev N_over : List Str := ["one", "two"]
theorem c_over : FnScope N_over ["one", "two"] (defScope s_over) := ⟨rfl, rfl, rfl, by decide +kernel, rfl, by decide +kernel, by decide +kernel⟩
abbrev s_opposite : Stmt := top 21
abbrev N_opposite : List Str := ["one"]
theorem c_opposite : FnScope N_opposite ["one"] (defScope s_opposite) := ⟨rfl, rfl, rfl, by decide +kernel, rfl, by decide +kernel, by decide +kernel⟩
abbrev s_is_up_to : Stmt := top 22
abbrev N_is_up_to : List Str := ["one", "two"]
theorem c_is_up_to : FnScope N_is_up_to ["one", "two"] (defScope s_is_up_to) := ⟨rfl, rfl, rfl, by decide +kernel, rfl, by decide +kernel, by decide +kernel⟩
abbrev s_is_below : Stmt := top 23
abbrev N_is_below : List Str := ["one", "two"]
theorem c_is_below : FnScope N_is_below ["one", "two"] (defScope s_is_below) := ⟨rfl, rfl, rfl, by decide +kernel, rfl, by decide +kernel, by decide +kernel⟩
abbrev s_dot : Stmt := top 24
abbrev N_dot : List Str := ["one", "two", "found", "here", "there"]
theorem c_dot : FnScope N_dot ["one", "two"] (defScope s_dot) := ⟨rfl, rfl, rfl, by decide +kernel, rfl, by decide +kernel, by decide +kernel⟩
abbrev s_noughts : Stmt := top 25
abbrev N_noughts : List Str := ["many"]
theorem c_noughts : FnScope N_noughts ["many"] (defScope s_noughts) := ⟨rfl, rfl, rfl, by decide +kernel, rfl, by decide +kernel, by decide +kernel⟩
abbrev s_unit : Stmt := top 26
abbrev N_unit : List Str := ["many", "at"]
theorem c_unit : FnScope N_unit ["many", "at"] (defScope s_unit) := ⟨rfl, rfl, rfl, by decide +kernel, rfl, by decide +kernel, by decide +kernel⟩
abbrev s_row_plus : Stmt := top 27
abbrev N_row_plus : List Str := ["one", "two", "here", "there"]
theorem c_row_plus : FnScope N_row_plus ["one", "two"] (defScope s_row_plus) := ⟨rfl, rfl, rfl, by decide +kernel, rfl, by decide +kernel, by decide +kernel⟩
abbrev s_scaled : Stmt := top 28
abbrev N_scaled : List Str := ["row", "number", "each"]
theorem c_scaled : FnScope N_scaled ["row", "number"] (defScope s_scaled) := ⟨rfl, rfl, rfl, by decide +kernel, rfl, by decide +kernel, by decide +kernel⟩
abbrev s_turned : Stmt := top 29
abbrev N_turned : List Str := ["row", "each"]
theorem c_turned : FnScope N_turned ["row"] (defScope s_turned) := ⟨rfl, rfl, rfl, by decide +kernel, rfl, by decide +kernel, by decide +kernel⟩
abbrev s_mixed : Stmt := top 30
abbrev N_mixed : List Str := ["rows", "numbers", "many", "found", "row", "number"]
theorem c_mixed : FnScope N_mixed ["rows", "numbers", "many"] (defScope s_mixed) := ⟨rfl, rfl, rfl, by decide +kernel, rfl, by decide +kernel, by decide +kernel⟩
abbrev s_is_row_by : Stmt := top 31
abbrev N_is_row_by : List Str := ["value", "many", "each"]
theorem c_is_row_by : FnScope N_is_row_by ["value", "many"] (defScope s_is_row_by) := ⟨rfl, rfl, rfl, by decide +kernel, rfl, by decide +kernel, by decide +kernel⟩
abbrev s_check_row : Stmt := top 33
abbrev N_check_row : List Str := ["many", "value", "index", "each"]
theorem c_check_row : FnScope N_check_row ["many", "value"] (defScope s_check_row) := ⟨rfl, rfl, rfl, by decide +kernel, rfl, by decide +kernel, by decide +kernel⟩
abbrev s_first_board : Stmt := top 35
abbrev N_first_board : List Str := ["columns", "right", "many", "signs", "board", "at", "sign", "row", "number", "column"]
theorem c_first_board : FnScope N_first_board ["columns", "right"] (defScope s_first_board) := ⟨rfl, rfl, rfl, by decide +kernel, rfl, by decide +kernel, by decide +kernel⟩
abbrev s_gaps : Stmt := top 36
abbrev N_gaps : List Str := ["board", "basis", "costs", "found", "row", "column", "gap", "number"]
theorem c_gaps : FnScope N_gaps ["board", "basis", "costs"] (defScope s_gaps) := ⟨rfl, rfl, rfl, by decide +kernel, rfl, by decide +kernel, by decide +kernel⟩
abbrev s_leaving : Stmt := top 37
abbrev N_leaving : List Str := ["board", "basis", "column", "found", "at", "row", "key"]
theorem c_leaving : FnScope N_leaving ["board", "basis", "column"] (defScope s_leaving) := ⟨rfl, rfl, rfl, by decide +kernel, rfl, by decide +kernel, by decide +kernel⟩
abbrev s_turned_about : Stmt := top 38
abbrev N_turned_about : List Str := ["board", "at", "column", "lead", "found", "place", "row", "one", "two"]
theorem c_turned_about : FnScope N_turned_about ["board", "at", "column"] (defScope s_turned_about) := ⟨rfl, rfl, rfl, by decide +kernel, rfl, by decide +kernel, by decide +kernel⟩
abbrev s_descended : Stmt := top 39
abbrev N_descended : List Str := ["board", "basis", "costs", "many", "left", "helping", "at", "column"]
theorem c_descended : FnScope N_descended ["board", "basis", "costs", "many"] (defScope s_descended) := ⟨rfl, rfl, rfl, by decide +kernel, rfl, by decide +kernel, by decide +kernel⟩
abbrev s_prices : Stmt := top 40
abbrev N_prices : List Str := ["left", "signs", "costs", "many", "at", "sign"]
theorem c_prices : FnScope N_prices ["left", "signs", "costs", "many"] (defScope s_prices) := ⟨rfl, rfl, rfl, by decide +kernel, rfl, by decide +kernel, by decide +kernel⟩
abbrev s_driven_out : Stmt := top 41
abbrev N_driven_out : List Str := ["board", "basis", "many", "at", "others", "column"]
theorem c_driven_out : FnScope N_driven_out ["board", "basis", "many"] (defScope s_driven_out) := ⟨rfl, rfl, rfl, by decide +kernel, rfl, by decide +kernel, by decide +kernel⟩
abbrev s_weights_by : Stmt := top 42
abbrev N_weights_by : List Str := ["board", "basis", "many", "found", "row", "column"]
theorem c_weights_by : FnScope N_weights_by ["board", "basis", "many"] (defScope s_weights_by) := ⟨rfl, rfl, rfl, by decide +kernel, rfl, by decide +kernel, by decide +kernel⟩
abbrev s_least_by : Stmt := top 43
abbrev N_least_by : List Str := ["columns", "right", "costs", "many", "rows", "board", "signs", "costing", "basis", "left", "row", "column"]
theorem c_least_by : FnScope N_least_by ["columns", "right", "costs"] (defScope s_least_by) := ⟨rfl, rfl, rfl, by decide +kernel, rfl, by decide +kernel, by decide +kernel⟩
abbrev s_void_by : Stmt := top 44
abbrev N_void_by : List Str := ["rows", "bounds", "size", "columns", "found", "price", "row", "bound", "each"]
theorem c_void_by : FnScope N_void_by ["rows", "bounds", "size"] (defScope s_void_by) := ⟨rfl, rfl, rfl, by decide +kernel, rfl, by decide +kernel, by decide +kernel⟩
abbrev s_greatest_by : Stmt := top 45
abbrev N_greatest_by : List Str := ["rows", "bounds", "row"]
theorem c_greatest_by : FnScope N_greatest_by ["rows", "bounds", "row"] (defScope s_greatest_by) := ⟨rfl, rfl, rfl, by decide +kernel, rfl, by decide +kernel, by decide +kernel⟩
abbrev s_is_wish : Stmt := top 49
abbrev N_is_wish : List Str := ["value", "size"]
theorem c_is_wish : FnScope N_is_wish ["value", "size"] (defScope s_is_wish) := ⟨rfl, rfl, rfl, by decide +kernel, rfl, by decide +kernel, by decide +kernel⟩
abbrev s_is_lot_by : Stmt := top 50
abbrev N_is_lot_by : List Str := ["value", "most", "each"]
theorem c_is_lot_by : FnScope N_is_lot_by ["value", "most"] (defScope s_is_lot_by) := ⟨rfl, rfl, rfl, by decide +kernel, rfl, by decide +kernel, by decide +kernel⟩
abbrev s_rows_in : Stmt := top 51
abbrev N_rows_in : List Str := ["lot", "row", "bound"]
theorem c_rows_in : FnScope N_rows_in ["lot"] (defScope s_rows_in) := ⟨rfl, rfl, rfl, by decide +kernel, rfl, by decide +kernel, by decide +kernel⟩
abbrev s_bounds_in : Stmt := top 52
abbrev N_bounds_in : List Str := ["lot", "row", "bound"]
theorem c_bounds_in : FnScope N_bounds_in ["lot"] (defScope s_bounds_in) := ⟨rfl, rfl, rfl, by decide +kernel, rfl, by decide +kernel, by decide +kernel⟩
abbrev s_void_weights : Stmt := top 53
abbrev N_void_weights : List Str := ["lot"]
theorem c_void_weights : FnScope N_void_weights ["lot"] (defScope s_void_weights) := ⟨rfl, rfl, rfl, by decide +kernel, rfl, by decide +kernel, by decide +kernel⟩
abbrev s_greatest_in : Stmt := top 54
abbrev N_greatest_in : List Str := ["lot", "row", "weights", "point", "price"]
theorem c_greatest_in : FnScope N_greatest_in ["lot", "row"] (defScope s_greatest_in) := ⟨rfl, rfl, rfl, by decide +kernel, rfl, by decide +kernel, by decide +kernel⟩
abbrev s_paper_by : Stmt := top 55
abbrev N_paper_by : List Str := ["lot", "row", "bound", "found"]
theorem c_paper_by : FnScope N_paper_by ["lot", "row", "bound"] (defScope s_paper_by) := ⟨rfl, rfl, rfl, by decide +kernel, rfl, by decide +kernel, by decide +kernel⟩
abbrev s_is_bounded : Stmt := top 56
abbrev N_is_bounded : List Str := ["lot", "row", "bound"]
theorem c_is_bounded : FnScope N_is_bounded ["lot", "row", "bound"] (defScope s_is_bounded) := ⟨rfl, rfl, rfl, by decide +kernel, rfl, by decide +kernel, by decide +kernel⟩
abbrev s_are_weights : Stmt := top 57
abbrev N_are_weights : List Str := ["value", "many", "each"]
theorem c_are_weights : FnScope N_are_weights ["value", "many"] (defScope s_are_weights) := ⟨rfl, rfl, rfl, by decide +kernel, rfl, by decide +kernel, by decide +kernel⟩
abbrev s_is_paper_by : Stmt := top 58
abbrev N_is_paper_by : List Str := ["lot", "row", "bound", "paper", "kind", "weights", "made", "reached"]
theorem c_is_paper_by : FnScope N_is_paper_by ["lot", "row", "bound", "paper"] (defScope s_is_paper_by) := ⟨rfl, rfl, rfl, by decide +kernel, rfl, by decide +kernel, by decide +kernel⟩
abbrev s_check_lot : Stmt := top 60
abbrev N_check_lot : List Str := ["value"]
theorem c_check_lot : FnScope N_check_lot ["value"] (defScope s_check_lot) := ⟨rfl, rfl, rfl, by decide +kernel, rfl, by decide +kernel, by decide +kernel⟩
abbrev s_check_wish : Stmt := top 61
abbrev N_check_wish : List Str := ["lot", "row", "bound"]
theorem c_check_wish : FnScope N_check_wish ["lot", "row", "bound"] (defScope s_check_wish) := ⟨rfl, rfl, rfl, by decide +kernel, rfl, by decide +kernel, by decide +kernel⟩
abbrev s_bounds : Stmt := top 62
abbrev N_bounds : List Str := ["lot", "row", "bound"]
theorem c_bounds : FnScope N_bounds ["lot", "row", "bound"] (defScope s_bounds) := ⟨rfl, rfl, rfl, by decide +kernel, rfl, by decide +kernel, by decide +kernel⟩
abbrev s_paper_of : Stmt := top 63
abbrev N_paper_of : List Str := ["lot", "row", "bound", "found"]
theorem c_paper_of : FnScope N_paper_of ["lot", "row", "bound"] (defScope s_paper_of) := ⟨rfl, rfl, rfl, by decide +kernel, rfl, by decide +kernel, by decide +kernel⟩
abbrev s_is_paper : Stmt := top 64
abbrev N_is_paper : List Str := ["lot", "row", "bound", "paper"]
theorem c_is_paper : FnScope N_is_paper ["lot", "row", "bound", "paper"] (defScope s_is_paper) := ⟨rfl, rfl, rfl, by decide +kernel, rfl, by decide +kernel, by decide +kernel⟩
abbrev s__law_well : Stmt := top 66
abbrev N__law_well : List Str := ["_law_script", "_law_turn", "_law_own", "_law_seed", "_law_cell"]
theorem c__law_well : FnScope N__law_well ["_law_script", "_law_turn"] (defScope s__law_well) := ⟨rfl, rfl, rfl, by decide +kernel, rfl, by decide +kernel, by decide +kernel⟩
abbrev s__law_draw : Stmt := top 67
abbrev N__law_draw : List Str := ["_law_well_here", "_law_many", "_law_digit", "_law_seed"]
theorem c__law_draw : FnScope N__law_draw ["_law_well_here", "_law_many"] (defScope s__law_draw) := ⟨rfl, rfl, rfl, by decide +kernel, rfl, by decide +kernel, by decide +kernel⟩
abbrev s__law_of : Stmt := top 68
abbrev N__law_of : List Str := ["_law_well_here", "_law_some"]
theorem c__law_of : FnScope N__law_of ["_law_well_here", "_law_some"] (defScope s__law_of) := ⟨rfl, rfl, rfl, by decide +kernel, rfl, by decide +kernel, by decide +kernel⟩
abbrev s__law_frac : Stmt := top 69
abbrev N__law_frac : List Str := ["_law_top", "_law_low", "_law_far", "_law_near"]
theorem c__law_frac : FnScope N__law_frac ["_law_top", "_law_low"] (defScope s__law_frac) := ⟨rfl, rfl, rfl, by decide +kernel, rfl, by decide +kernel, by decide +kernel⟩
abbrev s__law_plus : Stmt := top 70
abbrev N__law_plus : List Str := ["_law_one", "_law_two"]
theorem c__law_plus : FnScope N__law_plus ["_law_one", "_law_two"] (defScope s__law_plus) := ⟨rfl, rfl, rfl, by decide +kernel, rfl, by decide +kernel, by decide +kernel⟩
abbrev s__law_times : Stmt := top 71
abbrev N__law_times : List Str := ["_law_one", "_law_two"]
theorem c__law_times : FnScope N__law_times ["_law_one", "_law_two"] (defScope s__law_times) := ⟨rfl, rfl, rfl, by decide +kernel, rfl, by decide +kernel, by decide +kernel⟩
abbrev s__law_up_to : Stmt := top 72
abbrev N__law_up_to : List Str := ["_law_one", "_law_two"]
theorem c__law_up_to : FnScope N__law_up_to ["_law_one", "_law_two"] (defScope s__law_up_to) := ⟨rfl, rfl, rfl, by decide +kernel, rfl, by decide +kernel, by decide +kernel⟩
abbrev s__law_dot : Stmt := top 73
abbrev N__law_dot : List Str := ["_law_one", "_law_two", "_law_found", "_law_here", "_law_there"]
theorem c__law_dot : FnScope N__law_dot ["_law_one", "_law_two"] (defScope s__law_dot) := ⟨rfl, rfl, rfl, by decide +kernel, rfl, by decide +kernel, by decide +kernel⟩
abbrev s__law_number : Stmt := top 74
abbrev N__law_number : List Str := ["_law_well_here"]
theorem c__law_number : FnScope N__law_number ["_law_well_here"] (defScope s__law_number) := ⟨rfl, rfl, rfl, by decide +kernel, rfl, by decide +kernel, by decide +kernel⟩
abbrev s__law_row : Stmt := top 75
abbrev N__law_row : List Str := ["_law_well_here", "_law_size", "_law_found", "_law_turn"]
theorem c__law_row : FnScope N__law_row ["_law_well_here", "_law_size"] (defScope s__law_row) := ⟨rfl, rfl, rfl, by decide +kernel, rfl, by decide +kernel, by decide +kernel⟩
abbrev s__law_is_whole : Stmt := top 76
abbrev N__law_is_whole : List Str := ["_law_thing"]
theorem c__law_is_whole : FnScope N__law_is_whole ["_law_thing"] (defScope s__law_is_whole) := ⟨rfl, rfl, rfl, by decide +kernel, rfl, by decide +kernel, by decide +kernel⟩
abbrev s__law_is_frac : Stmt := top 77
abbrev N__law_is_frac : List Str := ["_law_thing"]
theorem c__law_is_frac : FnScope N__law_is_frac ["_law_thing"] (defScope s__law_is_frac) := ⟨rfl, rfl, rfl, by decide +kernel, rfl, by decide +kernel, by decide +kernel⟩
abbrev s__law_is_row : Stmt := top 78
abbrev N__law_is_row : List Str := ["_law_thing", "_law_size", "_law_each"]
theorem c__law_is_row : FnScope N__law_is_row ["_law_thing", "_law_size"] (defScope s__law_is_row) := ⟨rfl, rfl, rfl, by decide +kernel, rfl, by decide +kernel, by decide +kernel⟩
abbrev s__law_mixed : Stmt := top 79
abbrev N__law_mixed : List Str := ["_law_lot_here", "_law_weights", "_law_row_here", "_law_bound", "_law_own", "_law_most", "_law_weight", "_law_here", "_law_there"]
theorem c__law_mixed : FnScope N__law_mixed ["_law_lot_here", "_law_weights"] (defScope s__law_mixed) := ⟨rfl, rfl, rfl, by decide +kernel, rfl, by decide +kernel, by decide +kernel⟩
abbrev s__law_are_weights : Stmt := top 80
abbrev N__law_are_weights : List Str := ["_law_lot_here", "_law_thing", "_law_each"]
theorem c__law_are_weights : FnScope N__law_are_weights ["_law_lot_here", "_law_thing"] (defScope s__law_are_weights) := ⟨rfl, rfl, rfl, by decide +kernel, rfl, by decide +kernel, by decide +kernel⟩
abbrev s__law_is_paper : Stmt := top 81
abbrev N__law_is_paper : List Str := ["_law_lot_here", "_law_row_here", "_law_bound", "_law_thing", "_law_both", "_law_most"]
theorem c__law_is_paper : FnScope N__law_is_paper ["_law_lot_here", "_law_row_here", "_law_bound", "_law_thing"] (defScope s__law_is_paper) := ⟨rfl, rfl, rfl, by decide +kernel, rfl, by decide +kernel, by decide +kernel⟩
abbrev s__law_lot : Stmt := top 82
abbrev N__law_lot : List Str := ["_law_well_here", "_law_size", "_law_most", "_law_found", "_law_turn", "_law_way", "_law_row_here", "_law_spot", "_law_at", "_law_each"]
theorem c__law_lot : FnScope N__law_lot ["_law_well_here", "_law_size", "_law_most"] (defScope s__law_lot) := ⟨rfl, rfl, rfl, by decide +kernel, rfl, by decide +kernel, by decide +kernel⟩
abbrev s__law_inside : Stmt := top 83
abbrev N__law_inside : List Str := ["_law_well_here", "_law_size", "_law_most", "_law_point", "_law_lot_here", "_law_found", "_law_row_here", "_law_bound", "_law_worth"]
theorem c__law_inside : FnScope N__law_inside ["_law_well_here", "_law_size", "_law_most"] (defScope s__law_inside) := ⟨rfl, rfl, rfl, by decide +kernel, rfl, by decide +kernel, by decide +kernel⟩
abbrev s__law_whole_wish : Stmt := top 84
abbrev N__law_whole_wish : List Str := ["_law_row_here", "_law_bound", "_law_strict", "_law_times_here", "_law_each"]
theorem c__law_whole_wish : FnScope N__law_whole_wish ["_law_row_here", "_law_bound", "_law_strict"] (defScope s__law_whole_wish) := ⟨rfl, rfl, rfl, by decide +kernel, rfl, by decide +kernel, by decide +kernel⟩
abbrev s__law_common : Stmt := top 85
abbrev N__law_common : List Str := ["_law_one", "_law_two"]
theorem c__law_common : FnScope N__law_common ["_law_one", "_law_two"] (defScope s__law_common) := ⟨rfl, rfl, rfl, by decide +kernel, rfl, by decide +kernel, by decide +kernel⟩
abbrev s__law_lowered : Stmt := top 86
abbrev N__law_lowered : List Str := ["_law_wish", "_law_by", "_law_each"]
theorem c__law_lowered : FnScope N__law_lowered ["_law_wish"] (defScope s__law_lowered) := ⟨rfl, rfl, rfl, by decide +kernel, rfl, by decide +kernel, by decide +kernel⟩
abbrev s__law_joined_wish : Stmt := top 87
abbrev N__law_joined_wish : List Str := ["_law_one", "_law_two", "_law_spot", "_law_up", "_law_down", "_law_both", "_law_here", "_law_there"]
theorem c__law_joined_wish : FnScope N__law_joined_wish ["_law_one", "_law_two", "_law_spot"] (defScope s__law_joined_wish) := ⟨rfl, rfl, rfl, by decide +kernel, rfl, by decide +kernel, by decide +kernel⟩
abbrev s__law_is_void : Stmt := top 88
abbrev N__law_is_void : List Str := ["_law_wishes", "_law_size", "_law_left", "_law_spot", "_law_found", "_law_downs", "_law_one", "_law_wish", "_law_two"]
theorem c__law_is_void : FnScope N__law_is_void ["_law_wishes", "_law_size"] (defScope s__law_is_void) := ⟨rfl, rfl, rfl, by decide +kernel, rfl, by decide +kernel, by decide +kernel⟩
abbrev s__law_lot_wishes : Stmt := top 89
abbrev N__law_lot_wishes : List Str := ["_law_lot_here", "_law_row_here", "_law_bound"]
theorem c__law_lot_wishes : FnScope N__law_lot_wishes ["_law_lot_here"] (defScope s__law_lot_wishes) := ⟨rfl, rfl, rfl, by decide +kernel, rfl, by decide +kernel, by decide +kernel⟩
abbrev s__law_bounds : Stmt := top 90
abbrev N__law_bounds : List Str := ["_law_lot_here", "_law_row_here", "_law_bound", "_law_against", "_law_each"]
theorem c__law_bounds : FnScope N__law_bounds ["_law_lot_here", "_law_row_here", "_law_bound"] (defScope s__law_bounds) := ⟨rfl, rfl, rfl, by decide +kernel, rfl, by decide +kernel, by decide +kernel⟩
abbrev s__law_ask : Stmt := top 91
abbrev N__law_ask : List Str := ["_law_well_here", "_law_lot_here", "_law_row_here", "_law_bound", "_law_weights", "_law_wish"]
theorem c__law_ask : FnScope N__law_ask ["_law_well_here", "_law_lot_here"] (defScope s__law_ask) := ⟨rfl, rfl, rfl, by decide +kernel, rfl, by decide +kernel, by decide +kernel⟩
abbrev s__law_right : Stmt := top 92
abbrev N__law_right : List Str := ["_law_well_here", "_law_size", "_law_lot_here", "_law_turn", "_law_row_here", "_law_bound", "_law_due", "_law_told"]
theorem c__law_right : FnScope N__law_right ["_law_well_here"] (defScope s__law_right) := ⟨rfl, rfl, rfl, by decide +kernel, rfl, by decide +kernel, by decide +kernel⟩
abbrev s_law : Stmt := top 93
abbrev N_law : List Str := ["_law_script", "_law_turn"]
theorem c_law : FnScope N_law ["_law_script"] (defScope s_law) := ⟨rfl, rfl, rfl, by decide +kernel, rfl, by decide +kernel, by decide +kernel⟩
end W6
end
section
set_option Elab.async false
set_option linter.all false
set_option maxRecDepth 100000
set_option maxHeartbeats 4000000
/-! Further rules: // by any number, tuple * int, not in, never. -/
namespace W6
open PySem PySem.Spec PyProof.Rows L2
/-! ### // by a number that is not 0, of up to 9000 bits -/
def CDivZ (_ j : Int) : Prop := j ≠ 0 ∧ j.natAbs.log2 < 9000
theorem divZ {i j : Int} {n : Nat} (h : j ≠ 0) (hb : j.natAbs < 2 ^ n) (h0 : 0 < n) (h9 : n ≤ 9000) : CDivZ i j := ⟨h, Nat.lt_of_lt_of_le (PySem.Flt.log2_lt_of h0 hb) h9⟩
theorem op_divZ {X : Cx} : OpR X (binaryOp .FloorDiv) (rI CDivZ fun i j => .int (i.fdiv j)) := opI fun i j _ _ _ _ _ hc q => floordiv_int hc.1 q (.inl (PyProof.noPylong_of_log2 hc.2))
section
variable {E : En} {Γ : Ctx} {ρ : List Sl} {pos : Pos} {P : Sl → Prop}
theorem jo_divZ {i j : Int} (hc : CDivZ i j) (p : P (.dat (.int (i.fdiv j)))) : JO E Γ (binaryOp .FloorDiv) (.dat (.int i)) (.dat (.int j)) P := jo_I (fun _ => op_divZ) hc (fun _ _ => .int _) p

/-! ### tuple * int -/
theorem mul_tup0 (l : Addr) (items : Array Value) (n : Nat) (dd : Option Addr) (sl : Array (Option Value)) (u : Tok) (hne : items.isEmpty = false) :
    Meets (Builtin.«tuple.__mul__» ⟨[.ref l, .int 0 u], []⟩) (fun _ R s => s.heap.get? l = some { cls := .type "tuple", dict := dd, data := .seq items n, slots := sl } ∧
      R (.ok (.ret (Value.ref s.heap.objs.size))) { s with heap := s.heap.push { cls := Value.type "tuple", data := Data.seq #[] }, toks := s.toks }) :=
  .of_wp fun prog w A R s h => by
    obtain ⟨hp, g, d, tk, os⟩ := s
    obtain ⟨hl, h⟩ := h
    have f1 := AutoSeq1.idx_int
    have c1 : (items.isEmpty || (0 : Int) == 1) = false := by rw [hne]; rfl
    have c2 : (decide ((0 : Int) ≤ 0) || items.isEmpty) = true := rfl
    wp_walk using AutoSeq1.wpAny_loadPart' hl
    repeat (first
      | (refine wpAny_ite_false (decide_eq_false (by rw [c1]; exact Bool.false_ne_true)) ?_; wp_walk using AutoSeq1.wpAny_loadPart' hl)
      | (refine wpAny_ite_true (decide_eq_true c2) ?_; wp_walk using AutoSeq1.wpAny_loadPart' hl))
    exact ⟨_, rfl, h⟩
theorem mul_tup1 (l : Addr) (items : Array Value) (n : Nat) (dd : Option Addr) (sl : Array (Option Value)) (u : Tok) (hne : items.isEmpty = false) :
    Meets (Builtin.«tuple.__mul__» ⟨[.ref l, .int 1 u], []⟩) (fun _ R s => s.heap.get? l = some { cls := .type "tuple", dict := dd, data := .seq items n, slots := sl } ∧ R (.ok (.ret (Value.ref l))) s) :=
  .of_wp fun prog w A R s h => by
    obtain ⟨hp, g, d, tk, os⟩ := s
    obtain ⟨hl, h⟩ := h
    have f1 := AutoSeq1.idx_int
    have c1 : (items.isEmpty || (1 : Int) == 1) = true := by rw [hne]; rfl
    wp_walk using AutoSeq1.wpAny_loadPart' hl
    repeat (first
      | (refine wpAny_ite_true (decide_eq_true c1) ?_; wp_walk using AutoSeq1.wpAny_loadPart' hl))
    exact ⟨_, rfl, h⟩
/-- t * k, t not empty, 0 ≤ k -/
def rRepA (K : PySem.W.Frag) : R2 := fun x y H Q => ∃ l k xs, x = .ref l ∧ y = .int k ∧ SqT K H l xs ∧ xs ≠ [] ∧ 0 ≤ k ∧ k ≤ 1000 ∧ xs.length ≤ 1000 ∧ (k = 1 → Q (.ref l) H) ∧ (k ≠ 1 → ∀ p, H p = none → Q (.ref p) (upd H p (.tup (List.replicate k.toNat xs).flatten)))
theorem op_repA {X : Cx} : OpR X (binaryOp .Mult) (rRepA X.K) := by
  intro pins s σ H x y v u Q I rx ry h
  obtain ⟨l, k, xs, rfl, rfl, hT, hne, h1, h2, hz, q1, q2⟩ := h
  by_cases hk2 : 2 ≤ k
  · exact op_repT pins s σ H _ _ v u Q I rx ry ⟨l, k, xs, rfl, rfl, hT, hne, hk2, h2, hz, q2 (by omega)⟩
  · cases rx
    obtain ⟨t, rfl⟩ := ry
    obtain ⟨its, r, ⟨⟨cls, dd, data, sl⟩, ho, hc, n, hd⟩, hs⟩ := I.tuple hT
    simp only at hc hd
    subst hc hd
    have hle : its.length = xs.length := r.length.symm
    have hi : its.toArray.isEmpty = false := by
      cases its with
      | nil =>
        cases xs with
        | nil => exact absurd rfl hne
        | cons a b => cases hle
      | cons a b => rfl
    by_cases h0 : k = 0
    · subst h0
      refine wpAny_binaryOp_repeat_ref (T := "tuple") (U := "int") (by decide) ⟨_, ho, rfl⟩ (fun s' => typeIs_int s' 0 t) noFill_tuple_mul F.fills_int_mul F.slot_int_rmul repeat_tuple F.slot_int_index.lookup
        (call_meets F.slot_int_rmul (typeIs_int s 0 t) F.entry_int_rmul (F.args_int_rmul_2 _ _) (int_rmul_tuple 0 t l its.toArray n dd sl) ⟨ho, rfl, ⟨_, ho, rfl⟩, call_meets F.slot_tuple_mul ⟨_, ho, rfl⟩ F.entry_tuple_mul (F.args_tuple_mul_2 _ _) (mul_tup0 l its.toArray n dd sl t hi) ⟨ho, ?_⟩⟩)
      refine ⟨.ref s.heap.objs.size, _, I.laid (t' := s.toks) (o := .tup []) (fun b ob q => Heap.get?_push_of_some _ q) (Nat.le_refl _) ?_, rfl, q2 (by decide) _ (I.hok.fresh (Nat.le_refl _))⟩
      exact ⟨Nat.zero_le _, [], .nil, IsTup.new _ _⟩
    · have h1 : k = 1 := by omega
      subst h1
      refine wpAny_binaryOp_repeat_ref (T := "tuple") (U := "int") (by decide) ⟨_, ho, rfl⟩ (fun s' => typeIs_int s' 1 t) noFill_tuple_mul F.fills_int_mul F.slot_int_rmul repeat_tuple F.slot_int_index.lookup
        (call_meets F.slot_int_rmul (typeIs_int s 1 t) F.entry_int_rmul (F.args_int_rmul_2 _ _) (int_rmul_tuple 1 t l its.toArray n dd sl) ⟨ho, rfl, ⟨_, ho, rfl⟩, call_meets F.slot_tuple_mul ⟨_, ho, rfl⟩ F.entry_tuple_mul (F.args_tuple_mul_2 _ _) (mul_tup1 l its.toArray n dd sl t hi) ⟨ho, ?_⟩⟩)
      exact ⟨.ref l, H, I, rfl, q1 rfl⟩
theorem rep_flat {α : Type} (d : α) : ∀ k : Nat, List.replicate k d = (List.replicate k [d]).flatten
  | 0 => rfl
  | k + 1 => by
    rw [List.replicate_succ, List.replicate_succ, List.flatten_cons, ← rep_flat d k] <;> rfl
theorem jo_repT {d : PyData} {k : Nat} (h : k ≤ 1000) (p : P (.dat (.tuple (List.replicate k d)))) : JO E Γ (binaryOp .Mult) (.dat (.tuple [d])) (.dat (.int (k : Int))) P := jo_of fun X g => ⟨_, op_repA, fun W M O H v1 v2 st o1 o2 Q q => by
  have O1 := o1
  cases o2
  cases o1 with
  | tup h1 h2 =>
    cases h2 with
    | cons h3 h4 =>
      cases h4
      refine ⟨_, (k : Int), _, rfl, rfl, seqT (wo_sub _ _) h1, fun z => (nomatch z), by omega, by omega, by show 1 ≤ 1000; decide, fun e => ?_, fun _ r hr => q.new st hr (.tup (SqT.of upd_same) (dps_mono (same_new (wo_fresh hr)) _ _ ?_)) p⟩
      · have e1 : k = 1 := by omega
        subst e1
        exact q.here st (s := .dat (.tuple [d])) O1 p
      · rw [rep_flat d k, ← Int.toNat_natCast k]
        exact dps_rep (.cons h3 .nil) _⟩

/-! ### x not in (a, b), texts -/
theorem jo_notInS {x a b : Str} (p : P (.dat (.bool (!(decide (a = x) || decide (b = x)))))) : JO E Γ (compareOp .NotIn) (.dat (.str x)) (.dat (.tuple [.str a, .str b])) P := jo_of fun X g => ⟨_, op_notIn_seq, fun W M O H v1 v2 st o1 o2 Q q => by
  cases o1
  cases o2 with
  | tup h1 h2 =>
    cases h2 with
    | cons h3 h4 =>
      cases h3
      cases h4 with
      | cons h5 h6 =>
        cases h5
        cases h6
        refine ⟨_, _, rfl, .inr (seqT (wo_sub _ _) h1), rfl, rfl, ?_⟩
        have e : (if true = true then !inV (.str x) [V.str a, V.str b] else inV (.str x) [V.str a, V.str b]) = (!(decide (a = x) || decide (b = x))) := by
          show (!(eqV (.str a) (.str x) || (eqV (.str b) (.str x) || false))) = _
          rw [Bool.or_false]
          show (!((a == x) || (b == x))) = _
          rw [Bool.beq_eq_decide_eq, Bool.beq_eq_decide_eq]
        rw [e]
        exact q.here st (s := .dat (.bool _)) (.bl _) p⟩
/-! ### texts compared -/
theorem jo_eqS {x a : Str} (p : P (.dat (.bool (decide (x = a))))) : JO E Γ (compareOp .Eq) (.dat (.str x)) (.dat (.str a)) P := jo_of fun X g => ⟨_, op_eq, fun W M O H v1 v2 st o1 o2 Q q => by
  cases o1
  cases o2
  refine ⟨rfl, ?_⟩
  rw [dec_str, Bool.beq_eq_decide_eq]
  exact q.here st (s := .dat (.bool _)) (.bl _) p⟩
theorem jo_neS {x a : Str} (p : P (.dat (.bool (!decide (x = a))))) : JO E Γ (compareOp .NotEq) (.dat (.str x)) (.dat (.str a)) P := jo_of fun X g => ⟨_, op_ne, fun W M O H v1 v2 st o1 o2 Q q => by
  cases o1
  cases o2
  refine ⟨rfl, ?_⟩
  rw [dec_str, Bool.beq_eq_decide_eq]
  exact q.here st (s := .dat (.bool _)) (.bl _) p⟩
/-- list(range(a, b)) -/
theorem je_listRg {x y : Str} {p1 p2 pp : Pos} {a b : Expr} (hm : E.mg "list" = none) (hg : Glo Γ "list") (hm2 : E.mg "range" = none) (hg2 : Glo Γ "range") (h : JE E Γ ρ a fun s => JE E Γ ρ b fun t => ∃ i j : Int, s = .dat (.int i) ∧ t = .dat (.int j) ∧ (0 ≤ i ∧ i ≤ 1000 ∧ 0 ≤ j ∧ j ≤ 1000) ∧ P (.dat (.list ((List.range (j - i).toNat).map fun (k : Nat) => .int (i + (k : Int))))))
    (na : ∀ env, starEach [a, b] env = (false, eval a env) :: starEach [b] env := by intro _; rfl) (nb : ∀ env, starEach [b] env = (false, eval b env) :: starEach [] env := by intro _; rfl) (hp : ∀ env, (backTo pp (starEach [b] env)).any (·.1) = false := by intro _; rfl) (ne : ∀ env, starEach [.Call (.Name "range" p2) [a, b] [] pp] env = (false, eval (.Call (.Name "range" p2) [a, b] [] pp) env) :: starEach [] env := by intro _; rfl) :
    JE E Γ ρ (.Call (.Name "list" p1) [.Call (.Name "range" p2) [a, b] [] pp] [] pos) P := je_of fun X g W M O σ H st en =>
  ⟨_, pe_listRg g.calm (g.gl hg) (by rw [g.mg]; exact hm) (prg_2 (g.gl hg2) (by rw [g.mg]; exact hm2) (pe_se (e := a)) (pe_se (e := b)) (na _) (nb _) (hp _)) (ne _), fun Q q => h X g W M O σ H st en _ fun v1 s1 H1 e1 st1 o1 p1 => p1 X g W M O σ H1 st1 (en.mono st e1) _ fun v2 s2 H2 e2 st2 o2 p2 => by
    obtain ⟨i, j, rfl, rfl, hij, p⟩ := p2
    cases o1
    cases o2
    refine ⟨i, j, rfl, rfl, RgOk.of_le hij.1 (by omega) (by omega) hij.2.2.1, fun r hr => (q.ext (e1.trans e2)).new st2 hr (.lst upd_same ?_) p⟩
    unfold rgV
    generalize (j - i).toNat = n
    have key : ∀ (l : List Nat) (H : Hp), DqAll X.K H (l.map fun k => V.int (i + (k : Nat))) (l.map fun (k : Nat) => .int (i + (k : Int))) := fun l => by
      induction l with
      | nil => exact fun _ => .nil
      | cons a l ih => exact fun H => .cons (.int _) (ih H)
    exact key _ _⟩
theorem j1_never {o : Bool} {st : Stmt} {D : Po} (h : False) : J1 E Γ o ρ st D := h.elim
end
end W6
end
section
set_option linter.all false
/-! Fractions as Rat: what the pairs of numbers are. -/
namespace W6
/-- the size of a fraction's numbers -/
def Sz (n : Nat) (q : Rat) : Prop := q.num.natAbs < 2 ^ n ∧ q.den < 2 ^ n
theorem pow_le {a b : Nat} (h : a ≤ b) : 2 ^ a ≤ 2 ^ b := Nat.pow_le_pow_right (by decide) h
theorem Sz.mono {n m : Nat} {q : Rat} (h : Sz n q) (k : n ≤ m) : Sz m q := ⟨Nat.lt_of_lt_of_le h.1 (pow_le k), Nat.lt_of_lt_of_le h.2 (pow_le k)⟩
theorem mul_lt {a b n m : Nat} (ha : a < 2 ^ n) (hb : b < 2 ^ m) : a * b < 2 ^ (n + m) := by
  rw [Nat.pow_add]
  exact Nat.mul_lt_mul'' ha hb
/-- the numbers of a quotient are no greater -/
theorem sz_divInt {a b : Int} {n : Nat} (ha : a.natAbs < 2 ^ n) (hb : b.natAbs < 2 ^ n) (h0 : 0 < n) : Sz n (Rat.divInt a b) := by
  constructor
  · rw [Rat.num_divInt]
    refine Nat.lt_of_le_of_lt ?_ ha
    rw [Int.natAbs_ediv_of_dvd]
    · refine Nat.le_trans (Nat.div_le_self _ _) ?_
      rw [Int.natAbs_mul]
      have : b.sign.natAbs ≤ 1 := by
        rcases Int.lt_trichotomy b 0 with h | h | h
        · rw [Int.sign_eq_neg_one_of_neg h]; decide
        · rw [h]; decide
        · rw [Int.sign_eq_one_of_pos h]; decide
      calc b.sign.natAbs * a.natAbs ≤ 1 * a.natAbs := Nat.mul_le_mul_right _ this
        _ = a.natAbs := Nat.one_mul _
    · exact Int.dvd_mul_of_dvd_right (Int.gcd_dvd_right ..)
  · rw [Rat.den_divInt]
    split
    · exact Nat.one_lt_two_pow (by omega)
    · exact Nat.lt_of_le_of_lt (Nat.div_le_self _ _) hb
theorem mul_eq (p q : Rat) : p * q = Rat.divInt (p.num * q.num) (p.den * q.den) := by
  conv => lhs; rw [← Rat.num_divInt_den p, ← Rat.num_divInt_den q]
  rw [Rat.divInt_mul_divInt]
theorem den_ne (p : Rat) : (p.den : Int) ≠ 0 := by
  have := p.den_nz
  omega
theorem add_eq (p q : Rat) : p + q = Rat.divInt (p.num * q.den + q.num * p.den) (p.den * q.den) := by
  conv => lhs; rw [← Rat.num_divInt_den p, ← Rat.num_divInt_den q]
  rw [Rat.divInt_add_divInt _ _ (den_ne p) (den_ne q)]
theorem sub_eq (p q : Rat) : p - q = Rat.divInt (p.num * q.den - q.num * p.den) (p.den * q.den) := by
  rw [Rat.sub_eq_add_neg, add_eq, Rat.neg_num, Rat.neg_den]
  congr 1
  rw [Int.neg_mul, Int.sub_eq_add_neg]
theorem div_eq (p q : Rat) : p / q = Rat.divInt (p.num * q.den) (p.den * q.num) := by
  rw [Rat.div_def, Rat.inv_def]
  conv => lhs; rw [← Rat.num_divInt_den p]
  rw [Rat.divInt_mul_divInt]
theorem sz_mul {n m : Nat} {p q : Rat} (hp : Sz n p) (hq : Sz m q) (h0 : 0 < n + m) : Sz (n + m) (p * q) := by
  rw [mul_eq]
  refine sz_divInt ?_ ?_ h0
  · rw [Int.natAbs_mul]
    exact mul_lt hp.1 hq.1
  · rw [Int.natAbs_mul]
    exact mul_lt hp.2 hq.2
theorem sz_add {n m : Nat} {p q : Rat} (hp : Sz n p) (hq : Sz m q) : Sz (n + m + 1) (p + q) := by
  rw [add_eq]
  refine sz_divInt ?_ ?_ (Nat.succ_pos _)
  · have a := mul_lt hp.1 hq.2
    have b := mul_lt hp.2 hq.1
    have c : (p.num * (q.den : Int)).natAbs = p.num.natAbs * q.den := by rw [Int.natAbs_mul]; rfl
    have d : (q.num * (p.den : Int)).natAbs = p.den * q.num.natAbs := by rw [Int.natAbs_mul, Nat.mul_comm]; rfl
    have e := Int.natAbs_add_le (p.num * (q.den : Int)) (q.num * (p.den : Int))
    have f : 2 ^ (n + m + 1) = 2 ^ (n + m) + 2 ^ (n + m) := by rw [Nat.pow_succ, Nat.mul_two]
    omega
  · rw [Int.natAbs_mul]
    exact Nat.lt_of_lt_of_le (mul_lt hp.2 hq.2) (pow_le (Nat.le_succ _))
theorem sz_neg {n : Nat} {p : Rat} (hp : Sz n p) : Sz n (-p) := ⟨by rw [Rat.neg_num, Int.natAbs_neg]; exact hp.1, by rw [Rat.neg_den]; exact hp.2⟩
theorem sz_sub {n m : Nat} {p q : Rat} (hp : Sz n p) (hq : Sz m q) : Sz (n + m + 1) (p - q) := by
  rw [Rat.sub_eq_add_neg]
  exact sz_add hp (sz_neg hq)
theorem sz_div {n m : Nat} {p q : Rat} (hp : Sz n p) (hq : Sz m q) (h0 : 0 < n + m) : Sz (n + m) (p / q) := by
  rw [div_eq]
  refine sz_divInt ?_ ?_ h0
  · rw [Int.natAbs_mul]
    exact mul_lt hp.1 hq.2
  · rw [Int.natAbs_mul]
    exact mul_lt hp.2 hq.1
theorem sz_zero : Sz 1 0 := by constructor <;> decide
theorem sz_one : Sz 1 1 := by constructor <;> decide
theorem sz_m1 : Sz 1 (-1) := by constructor <;> decide
/-- the pair that the division by the divisor makes -/
theorem num_fdiv {a b : Int} {g : Int} (hb : b ≠ 0) (hg : g = b.sign * (Nat.gcd a.natAbs b.natAbs : Nat)) : a.fdiv g = (Rat.divInt a b).num ∧ b.fdiv g = ((Rat.divInt a b).den : Int) := by
  have e1 : (b.gcd a) = Nat.gcd a.natAbs b.natAbs := by
    show Nat.gcd b.natAbs a.natAbs = _
    exact Nat.gcd_comm _ _
  have hpos : 0 < Nat.gcd a.natAbs b.natAbs := Nat.gcd_pos_of_pos_right _ (by omega)
  have d1 : ((Nat.gcd a.natAbs b.natAbs : Nat) : Int) ∣ a := Int.ofNat_dvd_left.mpr (Nat.gcd_dvd_left _ _)
  have d2 : ((Nat.gcd a.natAbs b.natAbs : Nat) : Int) ∣ b := Int.ofNat_dvd_left.mpr (Nat.gcd_dvd_right _ _)
  rw [Rat.num_divInt, Rat.den_divInt, if_neg hb, e1]
  obtain ⟨x, hx⟩ := d1
  obtain ⟨y, hy⟩ := d2
  generalize hG : Nat.gcd a.natAbs b.natAbs = G at *
  have hG0 : (G : Int) ≠ 0 := by omega
  rcases Int.lt_trichotomy b 0 with h | h | h
  · have s : b.sign = -1 := Int.sign_eq_neg_one_of_neg h
    rw [s] at hg ⊢
    have eg : g = -(G : Int) := by rw [hg]; omega
    subst eg
    have hy0 : y < 0 := by
      rcases Int.lt_or_le y 0 with k | k
      · exact k
      · have : 0 ≤ (G : Int) * y := Int.mul_nonneg (by omega) k
        omega
    constructor
    · rw [hx]
      have k1 : (G : Int) * x = -(G : Int) * -x := by rw [Int.neg_mul_neg]
      have k2 : -1 * ((G : Int) * x) = (G : Int) * -x := by rw [Int.mul_neg]; omega
      rw [k2, Int.mul_ediv_cancel_left _ hG0]
      rw [k1, Int.mul_fdiv_cancel_left _ (by omega)]
    · have k1 : b = -(G : Int) * -y := by rw [Int.neg_mul_neg]; exact hy
      have k3 : b.natAbs / G = y.natAbs := by
        rw [hy, Int.natAbs_mul, Int.natAbs_natCast, Nat.mul_div_cancel_left _ hpos]
      rw [k3]
      conv => lhs; rw [k1]
      rw [Int.mul_fdiv_cancel_left _ (by omega)]
      omega
  · exact absurd h hb
  · have s : b.sign = 1 := Int.sign_eq_one_of_pos h
    rw [s] at hg ⊢
    have eg : g = (G : Int) := by rw [hg]; omega
    subst eg
    have hy0 : 0 < y := by
      rcases Int.lt_or_le 0 y with k | k
      · exact k
      · have : (G : Int) * y ≤ 0 := Int.mul_nonpos_of_nonneg_of_nonpos (by omega) k
        omega
    constructor
    · rw [Int.one_mul]
      rw [hx, Int.mul_fdiv_cancel_left _ hG0, Int.mul_ediv_cancel_left _ hG0]
    · have k3 : b.natAbs / G = y.natAbs := by
        rw [hy, Int.natAbs_mul, Int.natAbs_natCast, Nat.mul_div_cancel_left _ hpos]
      rw [k3]
      conv => lhs; rw [hy]
      rw [Int.mul_fdiv_cancel_left _ hG0]
      omega
end W6
end
section
set_option Elab.async false
set_option linter.all false
set_option maxRecDepth 100000
set_option maxHeartbeats 4000000
/-! What the walks share: how numbers, rows and boards stand as data; the built-in names. -/
namespace W6
open PySem PySem.Spec PyProof.Rows L2
/-- the built-in names are the built-ins -/
structure Blt (E : En) : Prop where
  isinstance : E.mg "isinstance" = none
  len : E.mg "len" = none
  all : E.mg "all" = none
  any : E.mg "any" = none
  abs : E.mg "abs" = none
  max : E.mg "max" = none
  min : E.mg "min" = none
  sorted : E.mg "sorted" = none
  divmod : E.mg "divmod" = none
  repr : E.mg "repr" = none
  int_ : E.mg "int" = none
  bool_ : E.mg "bool" = none
  str_ : E.mg "str" = none
  tuple_ : E.mg "tuple" = none
  list_ : E.mg "list" = none
  set_ : E.mg "set" = none
  range_ : E.mg "range" = none
  zip_ : E.mg "zip" = none
  enumerate_ : E.mg "enumerate" = none
  gcd : E.mg "gcd" = some (.builtin "math.gcd")
/-- a fraction, a row, rows -/
abbrev fr (q : Rat) : PyData := .tuple [.int q.num, .int (q.den : Int)]
abbrev rw_ (qs : List Rat) : PyData := .tuple (qs.map fr)
abbrev rws (rs : List (List Rat)) : PyData := .list (rs.map rw_)
theorem sz_log {a : Int} {n : Nat} (h : a.natAbs < 2 ^ n) (h0 : 0 < n) : a.natAbs.log2 < n := PySem.Flt.log2_lt_of h0 h
theorem cmul_sz {a b : Int} {n m : Nat} (ha : a.natAbs < 2 ^ n) (hb : b.natAbs < 2 ^ m) (h : n + m ≤ 100000) : CMulW a b := wide_mul (a := n + 1) (b := m + 1) (Nat.lt_of_lt_of_le ha (pow_le (Nat.le_succ _))) (Nat.lt_of_lt_of_le hb (pow_le (Nat.le_succ _))) (Nat.succ_pos _) (Nat.succ_pos _) (by omega)
theorem canFr (q : Rat) : (fr q).canLay0 = true := rfl
theorem canRows : ∀ qs : List Rat, PyData.canLayAll0 (qs.map fr) = true
  | [] => rfl
  | q :: qs => by
    show ((fr q).canLay0 && PyData.canLayAll0 (qs.map fr)) = true
    rw [canRows qs] <;> rfl
end W6
end
section
set_option linter.all false
/-! The mirror: what each def of the program computes, over lists of Rat. -/
namespace W6
def sumR : List Rat → Rat
  | [] => 0
  | x :: xs => x + sumR xs
theorem sumR_app : ∀ xs ys : List Rat, sumR (xs ++ ys) = sumR xs + sumR ys
  | [], ys => by rw [List.nil_append]; show _ = 0 + _; rw [Rat.zero_add]
  | x :: xs, ys => by
    show x + sumR (xs ++ ys) = x + sumR xs + sumR ys
    rw [sumR_app xs ys, Rat.add_assoc]
theorem sumR_take {l : List Rat} {i : Nat} {x : Rat} (h : l[i]? = some x) : sumR (l.take (i + 1)) = sumR (l.take i) + x := by
  rw [List.take_add_one, h, sumR_app]
  show _ + (x + 0) = _
  rw [Rat.add_zero]
/-- x . y -/
def dotR (xs ys : List Rat) : Rat := sumR (List.zipWith (· * ·) xs ys)
def nts (n : Nat) : List Rat := List.replicate n 0
def unitR (n i : Nat) : List Rat := nts i ++ [1] ++ nts (n - 1 - i)
def addR (xs ys : List Rat) : List Rat := List.zipWith (· + ·) xs ys
def scaR (xs : List Rat) (q : Rat) : List Rat := xs.map (· * q)
def negR (xs : List Rat) : List Rat := xs.map (- ·)
def mixStep (acc : List Rat) (p : List Rat × Rat) : List Rat := if p.2 = 0 then acc else addR acc (scaR p.1 p.2)
def mixR (rows : List (List Rat)) (ns : List Rat) (k : Nat) : List Rat := (rows.zip ns).foldl mixStep (nts k)
def sgn (q : Rat) : Rat := if q < 0 then -1 else 1
def at_ (l : List Rat) (i : Nat) : Rat := l.getD i 0
def idx {α : Type} (l : List α) : List (Nat × α) := l.mapIdx fun i x => (i, x)
def firstB (cols : List (List Rat)) (right : List Rat) : List (List Rat) :=
  (idx (right.map sgn)).map fun p => (cols.map fun c => at_ c p.1 * p.2) ++ unitR right.length p.1 ++ [at_ right p.1 * p.2]
def gapStep (costs : List Rat) (found : List Rat) (p : List Rat × Nat) : List Rat := if at_ costs p.2 = 0 then found else List.zipWith (fun g n => g - at_ costs p.2 * n) found p.1
def gapsR (board : List (List Rat)) (basis : List Nat) (costs : List Rat) : List Rat := (board.zip basis).foldl (gapStep costs) costs
/-- the row at which a column comes in, so far: quotient, row -/
def leavStep (basis : List Nat) (col : Nat) (found : Option (Rat × Nat)) (p : Nat × List Rat) : Option (Rat × Nat) :=
  if 0 < at_ p.2 col then
    let key := at_ p.2 (p.2.length - 1) / at_ p.2 col
    match found with
    | none => some (key, p.1)
    | some (k, r) => if key < k ∨ (key = k ∧ basis.getD p.1 0 < basis.getD r 0) then some (key, p.1) else some (k, r)
  else found
def leavR (board : List (List Rat)) (basis : List Nat) (col : Nat) : Option (Rat × Nat) := (idx board).foldl (leavStep basis col) none
def turnR (board : List (List Rat)) (r col : Nat) : List (List Rat) :=
  let lead := scaR (board.getD r []) (1 / at_ (board.getD r []) col)
  (idx board).map fun p => if p.1 = r then lead else if at_ p.2 col = 0 then p.2 else List.zipWith (fun a b => a - at_ p.2 col * b) p.2 lead
def helps (left : List Rat) (many : Nat) : List Nat := (List.range many).filter fun c => decide (at_ left c < 0)
abbrev Bd := List (List Rat) × List Nat
/-- one turn of descended -/
def stepR (costs : List Rat) (many : Nat) (s : Bd) : Option Bd :=
  match helps (gapsR s.1 s.2 costs) many with
  | [] => none
  | c :: _ => match leavR s.1 s.2 c with
    | none => none
    | some (_, r) => some (turnR s.1 r c, s.2.set r c)
def pricesR (left signs costs : List Rat) (many : Nat) : List Rat := (idx signs).map fun p => p.2 * (at_ costs (many + p.1) - at_ left (many + p.1))
def driveStep (many : Nat) (s : Bd) (i : Nat) : Bd :=
  if many ≤ s.2.getD i 0 then
    match (List.range many).filter fun c => decide (at_ (s.1.getD i []) c ≠ 0) with
    | [] => s
    | c :: _ => (turnR s.1 i c, s.2.set i c)
  else s
def drivenR (s : Bd) (many : Nat) : Bd := (List.range s.2.length).foldl (driveStep many) s
def weightStep (many : Nat) (found : List Rat) (p : List Rat × Nat) : List Rat := if p.2 < many then found.set p.2 (at_ p.1 (p.1.length - 1)) else found
def weightsR (s : Bd) (many : Nat) : List Rat := (s.1.zip s.2).foldl (weightStep many) (nts many)
end W6
end
section
set_option Elab.async false
set_option linter.all false
set_option maxRecDepth 100000
set_option maxHeartbeats 4000000
/-! Shorter forms of the layer's rules: maps, filters, folds. -/
namespace W6
open PySem PySem.Spec PyProof.Rows L2
/-- a def of the program stands under its name -/
structure At (E : En) (x : Str) (stm : Stmt) (ps : List Str) : Prop where
  ex : ∃ f fd, Fun E.K x x stm f fd ∧ E.mg x = some (.ref f) ∧ Binds E.K fd ps []
section
variable {E : En} {Γ : Ctx} {ρ : List Sl} {pos : Pos} {P : Sl → Prop} {o : Bool} {D : Po}
theorem def_at {x : Str} {stm : Stmt} {N ps : List Str} {k : Nat} {C : List Sl → (PyData → Prop) → Prop} (A : At E x stm ps) (S : FnScope N ps (defScope stm)) (hl : ∀ ss P, C ss P → ss.length = ps.length)
    (h : ∀ ss P, C ss P → JS E ⟨N, defScope stm, true, k, fun _ => True⟩ false (ss ++ List.replicate (N.length - ss.length) .no) (defBody stm) ⟨fun _ => P .none, P, fun _ => False, fun _ => False⟩) : Def E (k + 1) x ps [] C := by
  obtain ⟨f, fd, F, hm, hb⟩ := A.ex
  exact def_ok F S hm hb hl h
/-! forgetting -/
theorem env_forget {K : PySem.W.Frag} {W M : List Addr} {O : Option Addr} {H : Hp} {σ : L2.St} {ρ : List Sl} (h : EnvOk K W M O H σ ρ) : ∀ js, EnvOk K W M O H σ (wip ρ js)
  | [] => h
  | v :: vs => by
    have ih := env_forget h vs
    refine ⟨?_, fun j t a b => ?_⟩
    · show σ.length = ((wip ρ vs).set v .no).length
      rw [List.length_set, ih.len]
    · have a : ((wip ρ vs).set v .no)[j]? = some t := a
      by_cases e : v = j
      · subst e
        have hl : v < (wip ρ vs).length := by
          have := (List.getElem?_eq_some_iff.mp a).1
          rw [List.length_set] at this
          exact this
        rw [List.getElem?_set_self hl] at a
        cases a
        exact absurd rfl b
      · rw [List.getElem?_set_ne e] at a
        exact ih.at' j t a b
theorem js_forget {sts : List Stmt} (js : List Nat) {ρ0 : List Sl} (e : wip ρ js = ρ0) (h : JS E Γ o ρ0 sts D) : JS E Γ o ρ sts D := fun X g W M O σ H ho st en => h X g W M O σ H ho st (e ▸ env_forget en js)
theorem j1_forget {s : Stmt} (js : List Nat) {ρ0 : List Sl} (e : wip ρ js = ρ0) (h : J1 E Γ o ρ0 s D) : J1 E Γ o ρ s D := fun X g W M O σ H ho st en => h X g W M O σ H ho st (e ▸ env_forget en js)
theorem jg_forget {tg : Expr} {d : PyData} {R : List Sl → Prop} (js : List Nat) {ρ0 : List Sl} (e : wip ρ js = ρ0) (h : JG E Γ ρ0 tg d R) : JG E Γ ρ tg d R := fun X g W M O σ H v st en => h X g W M O σ H v st (e ▸ env_forget en js)
/-! comprehensions -/
theorem filterMap_some {α β : Type} (xs : List α) (g : α → β) : (xs.map fun a => some (g a)).filterMap id = xs.map g := by
  rw [List.filterMap_map]
  show xs.filterMap (fun a => some (g a)) = _
  exact congrFun (List.filterMap_eq_map (f := g)) xs
theorem filterMap_keep {α β : Type} (keep : α → Bool) (g : α → β) : ∀ xs : List α, (xs.map fun a => if keep a then some (g a) else none).filterMap id = (xs.filter keep).map g
  | [] => rfl
  | x :: xs => by
    rw [List.map_cons, List.filterMap_cons, List.filter_cons, filterMap_keep keep g xs]
    cases keep x <;> rfl
theorem lcMap {α : Type} {scope : Scope} {j : Nat} {elt : Expr} (xs : List α) (f g : α → PyData) (hl : xs.length ≤ 100000) (h : ∀ a ∈ xs, JE E (Γ.blk scope) ((wip ρ [j]).set j (.dat (f a))) elt fun s => s = .dat (g a)) (p : P (.dat (.list (xs.map g)))) : Lc1 E Γ ρ scope j [] elt (xs.map f) P := by
  refine ⟨xs.map fun a => some (g a), by rw [List.length_map, List.length_map], by rw [List.length_map]; exact hl, fun i d o hd ho => ?_, ?_⟩
  · rw [List.getElem?_map] at hd ho
    cases hx : xs[i]? with
    | none => rw [hx] at hd; cases hd
    | some a =>
      rw [hx] at hd ho
      cases hd
      cases ho
      refine jts_nil ⟨fun _ => (h a (List.mem_of_getElem? hx)).imp fun s e => ⟨_, e, rfl⟩, fun z => nomatch z⟩
  · rw [filterMap_some]
    exact p
theorem lcKeep {α : Type} {scope : Scope} {j : Nat} {c elt : Expr} (xs : List α) (f g : α → PyData) (keep : α → Bool) (hl : xs.length ≤ 100000) (hc : ∀ a ∈ xs, JT E (Γ.blk scope) ((wip ρ [j]).set j (.dat (f a))) c fun b => b = keep a) (h : ∀ a ∈ xs, keep a = true → JE E (Γ.blk scope) ((wip ρ [j]).set j (.dat (f a))) elt fun s => s = .dat (g a)) (p : P (.dat (.list ((xs.filter keep).map g)))) : Lc1 E Γ ρ scope j [c] elt (xs.map f) P := by
  refine ⟨xs.map fun a => if keep a then some (g a) else none, by rw [List.length_map, List.length_map], by rw [List.length_map]; exact hl, fun i d o hd ho => ?_, ?_⟩
  · rw [List.getElem?_map] at hd ho
    cases hx : xs[i]? with
    | none => rw [hx] at hd; cases hd
    | some a =>
      rw [hx] at hd ho
      cases hd
      cases ho
      refine jts_one fun X gd W M O σ H st en Q q => hc a (List.mem_of_getElem? hx) X gd W M O σ H st en Q fun b H2 e2 s2 hb => q b H2 e2 s2 ?_
      subst hb
      refine ⟨fun hk => (h a (List.mem_of_getElem? hx) hk).imp fun s e => ⟨_, e, if_pos hk⟩, fun hk => if_neg (by rw [hk]; decide)⟩
  · rw [filterMap_keep]
    exact p
theorem lc2Map {α : Type} {scope : Scope} {j l : Nat} {elt : Expr} (xs : List α) (f1 f2 g : α → PyData) (hl : xs.length ≤ 100000) (h : ∀ a ∈ xs, JE E (Γ.blk scope) (((wip ρ [j, l]).set j (.dat (f1 a))).set l (.dat (f2 a))) elt fun s => s = .dat (g a)) (p : P (.dat (.list (xs.map g)))) : Lc2 E Γ ρ scope j l [] elt (xs.map fun a => .tuple [f1 a, f2 a]) P := by
  refine ⟨xs.map fun a => some (g a), by rw [List.length_map, List.length_map], by rw [List.length_map]; exact hl, fun i d o hd ho => ?_, ?_⟩
  · rw [List.getElem?_map] at hd ho
    cases hx : xs[i]? with
    | none => rw [hx] at hd; cases hd
    | some a =>
      rw [hx] at hd ho
      cases hd
      cases ho
      exact ⟨_, _, rfl, jts_nil ⟨fun _ => (h a (List.mem_of_getElem? hx)).imp fun s e => ⟨_, e, rfl⟩, fun z => nomatch z⟩⟩
  · rw [filterMap_some]
    exact p
theorem zipD_map {α β : Type} (f : α → PyData) (g : β → PyData) : ∀ (xs : List α) (ys : List β), zipD (xs.map f) (ys.map g) = (xs.zip ys).map fun p => .tuple [f p.1, g p.2]
  | [], _ => rfl
  | _ :: _, [] => rfl
  | x :: xs, y :: ys => by
    show PyData.tuple [f x, g y] :: zipD (xs.map f) (ys.map g) = _
    rw [zipD_map f g xs ys]
    rfl
theorem enumD_map {α : Type} (f : α → PyData) (xs : List α) : enumD (xs.map f) = (idx xs).map fun p => .tuple [.int (p.1 : Int), f p.2] := by
  refine List.ext_getElem? fun i => ?_
  show (List.mapIdx _ _)[i]? = (List.map _ (List.mapIdx _ _))[i]?
  rw [List.getElem?_mapIdx, List.getElem?_map, List.getElem?_map, List.getElem?_mapIdx]
  cases xs[i]? <;> rfl
/-! loops that fold -/
theorem fold_take {α β : Type} (step : β → α → β) (b : β) {xs : List α} {i : Nat} {a : α} (h : xs[i]? = some a) : (xs.take (i + 1)).foldl step b = step ((xs.take i).foldl step b) a := by
  rw [List.take_add_one, h, List.foldl_append]
  rfl
theorem for_fold {α β : Type} {tg : Expr} {body : List Stmt} (js : List Nat) (xs : List α) (f : α → PyData) (acc : β → List Sl) (step : β → α → β) (b0 : β) {items : List PyData} (hi : items = xs.map f) (h0 : wip ρ js = acc b0)
    (h : ∀ (i : Nat) a, xs[i]? = some a → JG E Γ (acc ((xs.take i).foldl step b0)) tg (f a) fun ρ2 => JS E Γ o ρ2 body ⟨fun ρ3 => wip ρ3 js = acc (step ((xs.take i).foldl step b0) a), D.rt, D.nx, fun ρ3 => wip ρ3 js = acc (step ((xs.take i).foldl step b0) a)⟩)
    (he : ∀ ρ', wip ρ' js = acc (xs.foldl step b0) → D.nx ρ') :
    ∃ I : Nat → List Sl → Prop, I 0 ρ ∧ (∀ (i : Nat) d ρ', items[i]? = some d → I i ρ' → JG E Γ ρ' tg d fun ρ2 => JS E Γ o ρ2 body ⟨I (i + 1), D.rt, D.nx, I (i + 1)⟩) ∧ ∀ ρ', I items.length ρ' → D.nx ρ' := by
  subst hi
  refine ⟨fun i ρ' => wip ρ' js = acc ((xs.take i).foldl step b0), h0, fun i d ρ' hd hI => ?_, fun ρ' hI => he ρ' ?_⟩
  · rw [List.getElem?_map] at hd
    cases hx : xs[i]? with
    | none => rw [hx] at hd; cases hd
    | some a =>
      rw [hx] at hd
      cases hd
      have := h i a hx
      rw [← fold_take step b0 hx] at this
      exact jg_forget js hI this
  · have hI : wip ρ' js = acc ((xs.take (xs.map f).length).foldl step b0) := hI
    rw [List.length_map, List.take_length] at hI
    exact hI
end
end W6
end
section
set_option Elab.async false
set_option linter.all false
set_option maxRecDepth 100000
set_option maxHeartbeats 4000000
set_option exponentiation.threshold 10000
/-! The walk: whole numbers and fractions. -/
namespace W6
open PySem PySem.Spec PyProof.Rows L2
/-- the built-ins and the numbers that stand under names -/
structure BC (E : En) : Prop extends Blt E where
  zero : Cst E "ZERO" (fr 0)
  one : Cst E "ONE" (fr 1)
  less : Cst E "LESS" (fr (-1))
  size : Cst E "MOST_SIZE" (.int 12)
  wishes : Cst E "MOST_WISHES" (.int 100)
theorem shFr (q : Rat) : SeqAt.shaped (fr q) = true := rfl
theorem num_eq0 (q : Rat) : decide (q.num = 0) = decide (q = 0) := by
  have : q.num = 0 ↔ q = 0 := Rat.num_eq_zero
  simp [this]
theorem num_lt0 (q : Rat) : decide (q.num < 0) = decide (q < 0) := by
  have : q.num < 0 ↔ q < 0 := by
    have h : (0 ≤ q.num ↔ 0 ≤ q) := Rat.num_nonneg
    rw [← Rat.not_le, ← h, Int.not_le]
  simp [this]
theorem num_gt0 (q : Rat) : decide (0 < q.num) = decide (0 < q) := by
  have : 0 < q.num ↔ 0 < q := by
    have h := num_lt0 (-q)
    rw [Rat.neg_num] at h
    have h : (-q.num < 0) ↔ (-q < 0) := decide_eq_decide.mp h
    constructor
    · intro g; have := h.mp (by omega); grind
    · intro g; have := h.mpr (by grind); omega
  simp [this]
theorem le_num (p q : Rat) : decide (p.num * (q.den : Int) ≤ q.num * (p.den : Int)) = decide (p ≤ q) := by
  have : p.num * (q.den : Int) ≤ q.num * (p.den : Int) ↔ p ≤ q := (Rat.le_iff _ _).symm
  simp [this]
theorem lt_num (p q : Rat) : decide (p.num * (q.den : Int) < q.num * (p.den : Int)) = decide (p < q) := by
  have : p.num * (q.den : Int) < q.num * (p.den : Int) ↔ p < q := (Rat.lt_iff _ _).symm
  simp [this]
theorem all_true {α : Type} (xs : List α) : (xs.map fun _ => true).all id = true := by
  rw [List.all_eq_true]
  intro b h
  obtain ⟨_, _, rfl⟩ := List.mem_map.mp h
  rfl
section
variable {E : En}
abbrev C_is_whole : List Sl → (PyData → Prop) → Prop := fun ss P => ∃ a : Int, ss = [.dat (.int a)] ∧ P (.bool true)
theorem D_is_whole (B : BC E) (A : At E "is_whole" s_is_whole ["value"]) : Def E 1 "is_whole" ["value"] [] C_is_whole := by
  refine def_at A c_is_whole (fun ss P h => by obtain ⟨a, rfl, _⟩ := h; rfl) fun ss P h => ?_
  obtain ⟨a, rfl, p⟩ := h
  refine js_cons (j1_ret ?_)
  refine je_and ?_
  refine je_callB B.isinstance rfl rfl ?_
  refine ja_cons ?_
  refine je_var 0 rfl (by first | exact Or.inl rfl | exact Or.inr (Or.inl rfl) | exact Or.inr (Or.inr rfl)) rfl (by intro z; cases z) ?_
  refine ja_cons ?_
  refine je_ty B.int_ rfl rfl ?_
  refine ja_nil ?_
  refine jc_isi rfl rfl ?_
  refine ⟨_, rfl, ?_⟩
  refine ⟨fun _ => ?_, fun z => nomatch z⟩
  refine je_one ?_
  refine je_not ?_
  refine je_callB B.isinstance rfl rfl ?_
  refine ja_cons ?_
  refine je_var 0 rfl (by first | exact Or.inl rfl | exact Or.inr (Or.inl rfl) | exact Or.inr (Or.inr rfl)) rfl (by intro z; cases z) ?_
  refine ja_cons ?_
  refine je_ty B.bool_ rfl rfl ?_
  refine ja_nil ?_
  refine jc_isi rfl rfl ?_
  refine ⟨_, rfl, ?_⟩
  refine ⟨_, rfl, ?_⟩
  exact p
abbrev C_is_between : List Sl → (PyData → Prop) → Prop := fun ss P => ∃ a l h : Int, ss = [.dat (.int a), .dat (.int l), .dat (.int h)] ∧ l ≤ a ∧ a ≤ h ∧ P (.bool true)
theorem D_is_between (B : BC E) (A : At E "is_between" s_is_between ["value", "low", "high"]) (D_is_whole : Def E 1 "is_whole" ["value"] [] C_is_whole) : Def E 2 "is_between" ["value", "low", "high"] [] C_is_between := by
  refine def_at A c_is_between (fun ss P h => by obtain ⟨a, l, h, rfl, _⟩ := h; rfl) fun ss P h => ?_
  obtain ⟨a, l, h, rfl, h1, h2, p⟩ := h
  refine js_cons (j1_ret ?_)
  refine je_and ?_
  refine je_call D_is_whole (Nat.le_of_ble_eq_true rfl) rfl ?_
  refine ja_cons ?_
  refine je_var 0 rfl (by first | exact Or.inl rfl | exact Or.inr (Or.inl rfl) | exact Or.inr (Or.inr rfl)) rfl (by intro z; cases z) ?_
  refine ja_nil ?_
  refine ⟨a, rfl, ?_⟩
  refine ⟨_, rfl, ?_⟩
  refine ⟨fun _ => ?_, fun z => nomatch z⟩
  refine je_one ?_
  refine je_chain ?_
  refine je_var 1 rfl (by first | exact Or.inl rfl | exact Or.inr (Or.inl rfl) | exact Or.inr (Or.inr rfl)) rfl (by intro z; cases z) ?_
  refine je_var 0 rfl (by first | exact Or.inl rfl | exact Or.inr (Or.inl rfl) | exact Or.inr (Or.inr rfl)) rfl (by intro z; cases z) ?_
  refine jo_le ?_
  rw [decide_eq_true h1]
  refine ⟨_, rfl, ?_⟩
  refine ⟨fun _ => ?_, fun z => nomatch z⟩
  refine je_var 2 rfl (by first | exact Or.inl rfl | exact Or.inr (Or.inl rfl) | exact Or.inr (Or.inr rfl)) rfl (by intro z; cases z) ?_
  refine jo_le ?_
  rw [decide_eq_true h2]
  exact ⟨_, rfl, p⟩
abbrev C_are_wholes : List Sl → (PyData → Prop) → Prop := fun ss P => ∃ xs : List Int, ss = [.dat (.tuple (xs.map .int)), .dat (.int (xs.length : Int))] ∧ xs.length ≤ 1000 ∧ P (.bool true)
theorem D_are_wholes (B : BC E) (A : At E "are_wholes" s_are_wholes ["value", "many"]) (D_is_whole : Def E 1 "is_whole" ["value"] [] C_is_whole) : Def E 2 "are_wholes" ["value", "many"] [] C_are_wholes := by
  refine def_at A c_are_wholes (fun ss P h => by obtain ⟨xs, rfl, _⟩ := h; rfl) fun ss P h => ?_
  obtain ⟨xs, rfl, hl, p⟩ := h
  refine js_cons (j1_ret ?_)
  refine je_and ?_
  refine je_callB B.isinstance rfl rfl ?_
  refine ja_cons ?_
  refine je_var 0 rfl (by first | exact Or.inl rfl | exact Or.inr (Or.inl rfl) | exact Or.inr (Or.inr rfl)) rfl (by intro z; cases z) ?_
  refine ja_cons ?_
  refine je_ty B.tuple_ rfl rfl ?_
  refine ja_nil ?_
  refine jc_isi rfl rfl ?_
  refine ⟨_, rfl, ?_⟩
  refine ⟨fun _ => ?_, fun z => nomatch z⟩
  refine je_and ?_
  refine je_cmp ?_
  refine je_callB B.len rfl rfl ?_
  refine ja_cons ?_
  refine je_var 0 rfl (by first | exact Or.inl rfl | exact Or.inr (Or.inl rfl) | exact Or.inr (Or.inr rfl)) rfl (by intro z; cases z) ?_
  refine ja_nil ?_
  refine jc_len rfl ?_
  refine je_var 1 rfl (by first | exact Or.inl rfl | exact Or.inr (Or.inl rfl) | exact Or.inr (Or.inr rfl)) rfl (by intro z; cases z) ?_
  refine jo_eqI ?_
  rw [List.length_map, decide_eq_true rfl]
  refine ⟨_, rfl, ?_⟩
  refine ⟨fun _ => ?_, fun z => nomatch z⟩
  refine je_one ?_
  refine je_callB B.all rfl rfl ?_
  refine ja_cons ?_
  refine je_lc1 2 (by decide +kernel) (by decide +kernel) rfl rfl ?_
  refine ji_tup ?_
  refine je_var 0 rfl (by first | exact Or.inl rfl | exact Or.inr (Or.inl rfl) | exact Or.inr (Or.inr rfl)) rfl (by intro z; cases z) ?_
  refine ⟨_, rfl, lcMap xs .int (fun _ => .bool true) (by omega) (fun a _ => ?_) ?_⟩
  · refine je_call D_is_whole (Nat.le_of_ble_eq_true rfl) rfl ?_
    refine ja_cons ?_
    refine je_var 2 rfl (by first | exact Or.inl rfl | exact Or.inr (Or.inl rfl) | exact Or.inr (Or.inr rfl)) rfl (by intro z; cases z) ?_
    refine ja_nil ?_
    exact ⟨a, rfl, rfl⟩
  · have e : xs.map (fun _ => PyData.bool true) = (xs.map fun _ => true).map PyData.bool := by rw [List.map_map]; rfl
    rw [e]
    refine ja_nil ?_
    refine jc_all ?_
    rw [all_true]
    exact ⟨_, rfl, p⟩
abbrev C_divisor_of : List Sl → (PyData → Prop) → Prop := fun ss P => ∃ a b : Int, ss = [.dat (.int a), .dat (.int b)] ∧ P (.int ((Nat.gcd a.natAbs b.natAbs : Nat) : Int))
theorem D_divisor_of (B : BC E) (A : At E "divisor_of" s_divisor_of ["one", "two"]) : Def E 1 "divisor_of" ["one", "two"] [] C_divisor_of := by
  refine def_at A c_divisor_of (fun ss P h => by obtain ⟨a, b, rfl, _⟩ := h; rfl) fun ss P h => ?_
  obtain ⟨a, b, rfl, p⟩ := h
  refine js_cons (j1_ret ?_)
  refine je_callF B.gcd rfl ?_
  refine ja_cons ?_
  refine je_var 0 rfl (by first | exact Or.inl rfl | exact Or.inr (Or.inl rfl) | exact Or.inr (Or.inr rfl)) rfl (by intro z; cases z) ?_
  refine ja_cons ?_
  refine je_var 1 rfl (by first | exact Or.inl rfl | exact Or.inr (Or.inl rfl) | exact Or.inr (Or.inr rfl)) rfl (by intro z; cases z) ?_
  refine ja_nil ?_
  refine jc_gcd ?_
  exact ⟨_, rfl, p⟩
abbrev C_is_ratio : List Sl → (PyData → Prop) → Prop := fun ss P => ∃ q : Rat, ss = [.dat (fr q)] ∧ P (.bool true)
theorem D_is_ratio (B : BC E) (A : At E "is_ratio" s_is_ratio ["value"]) (D_are_wholes : Def E 2 "are_wholes" ["value", "many"] [] C_are_wholes) (D_divisor_of : Def E 1 "divisor_of" ["one", "two"] [] C_divisor_of) : Def E 3 "is_ratio" ["value"] [] C_is_ratio := by
  refine def_at A c_is_ratio (fun ss P h => by obtain ⟨q, rfl, _⟩ := h; rfl) fun ss P h => ?_
  obtain ⟨q, rfl, p⟩ := h
  refine js_cons (j1_ret ?_)
  refine je_and ?_
  refine je_call D_are_wholes (Nat.le_of_ble_eq_true rfl) rfl ?_
  refine ja_cons ?_
  refine je_var 0 rfl (by first | exact Or.inl rfl | exact Or.inr (Or.inl rfl) | exact Or.inr (Or.inr rfl)) rfl (by intro z; cases z) ?_
  refine ja_cons ?_
  refine je_int ?_
  refine ja_nil ?_
  refine ⟨[q.num, (q.den : Int)], rfl, Nat.le_of_ble_eq_true rfl, ?_⟩
  refine ⟨_, rfl, ?_⟩
  refine ⟨fun _ => ?_, fun z => nomatch z⟩
  refine je_and ?_
  refine je_cmp ?_
  refine je_ix ?_
  refine je_var 0 rfl (by first | exact Or.inl rfl | exact Or.inr (Or.inl rfl) | exact Or.inr (Or.inr rfl)) rfl (by intro z; cases z) ?_
  refine je_int ?_
  refine ⟨_, _, _, rfl, rfl, rfl, ?_⟩
  refine je_int ?_
  refine jo_gt ?_
  rw [decide_eq_true (by have := q.den_pos; omega)]
  refine ⟨_, rfl, ?_⟩
  refine ⟨fun _ => ?_, fun z => nomatch z⟩
  refine je_one ?_
  refine je_cmp ?_
  refine je_call D_divisor_of (Nat.le_of_ble_eq_true rfl) rfl ?_
  refine ja_cons ?_
  refine je_ix ?_
  refine je_var 0 rfl (by first | exact Or.inl rfl | exact Or.inr (Or.inl rfl) | exact Or.inr (Or.inr rfl)) rfl (by intro z; cases z) ?_
  refine je_int ?_
  refine ⟨_, _, _, rfl, rfl, rfl, ?_⟩
  refine ja_cons ?_
  refine je_ix ?_
  refine je_var 0 rfl (by first | exact Or.inl rfl | exact Or.inr (Or.inl rfl) | exact Or.inr (Or.inr rfl)) rfl (by intro z; cases z) ?_
  refine je_int ?_
  refine ⟨_, _, _, rfl, rfl, rfl, ?_⟩
  refine ja_nil ?_
  refine ⟨_, _, rfl, ?_⟩
  refine je_int ?_
  refine jo_eqI ?_
  rw [decide_eq_true (by have := q.reduced; unfold Nat.Coprime at this; rw [Int.natAbs_natCast, this]; rfl)]
  exact ⟨_, rfl, p⟩
/-- ratio(a, b) -/
abbrev C_ratio : List Sl → (PyData → Prop) → Prop := fun ss P => ∃ a b : Int, ss = [.dat (.int a), .dat (.int b)] ∧ b ≠ 0 ∧ b.natAbs < 2 ^ 8000 ∧ P (fr (Rat.divInt a b))
theorem D_ratio (B : BC E) (A : At E "ratio" s_ratio ["top", "low"]) (D_divisor_of : Def E 1 "divisor_of" ["one", "two"] [] C_divisor_of) : Def E 2 "ratio" ["top", "low"] [] C_ratio := by
  refine def_at A c_ratio (fun ss P h => by obtain ⟨a, b, rfl, _⟩ := h; rfl) fun ss P h => ?_
  obtain ⟨a, b, rfl, hb0, hs, p⟩ := h
  have hg : (Nat.gcd a.natAbs b.natAbs) ≤ b.natAbs := Nat.le_of_dvd (by omega) (Nat.gcd_dvd_right _ _)
  have hp : 0 < Nat.gcd a.natAbs b.natAbs := Nat.gcd_pos_of_pos_right _ (by omega)
  suffices h : ∀ g : Int, g = b.sign * (Nat.gcd a.natAbs b.natAbs : Nat) → JS E ⟨N_ratio, defScope s_ratio, true, 1, fun _ => True⟩ false [.dat (.int a), .dat (.int b), .dat (.int g)] ((defBody s_ratio).drop 1) ⟨fun _ => P .none, P, fun _ => False, fun _ => False⟩ by
    refine js_cons (j1_set 2 (by decide +kernel) rfl (by first | exact Or.inl rfl | exact Or.inr rfl) ?_)
    refine je_if ?_
    refine jt_cmp ?_
    refine je_var 1 rfl (by first | exact Or.inl rfl | exact Or.inr (Or.inl rfl) | exact Or.inr (Or.inr rfl)) rfl (by intro z; cases z) ?_
    refine je_int ?_
    refine jo_gt ⟨_, rfl, ?_⟩
    refine ⟨fun hk => ?_, fun hk => ?_⟩
    · refine je_call D_divisor_of (Nat.le_of_ble_eq_true rfl) rfl ?_
      refine ja_cons ?_
      refine je_var 0 rfl (by first | exact Or.inl rfl | exact Or.inr (Or.inl rfl) | exact Or.inr (Or.inr rfl)) rfl (by intro z; cases z) ?_
      refine ja_cons ?_
      refine je_var 1 rfl (by first | exact Or.inl rfl | exact Or.inr (Or.inl rfl) | exact Or.inr (Or.inr rfl)) rfl (by intro z; cases z) ?_
      refine ja_nil ?_
      refine ⟨_, _, rfl, ?_⟩
      refine h _ ?_
      rw [Int.sign_eq_one_of_pos (of_decide_eq_true hk), Int.one_mul]
    · refine je_neg ?_
      refine je_call D_divisor_of (Nat.le_of_ble_eq_true rfl) rfl ?_
      refine ja_cons ?_
      refine je_var 0 rfl (by first | exact Or.inl rfl | exact Or.inr (Or.inl rfl) | exact Or.inr (Or.inr rfl)) rfl (by intro z; cases z) ?_
      refine ja_cons ?_
      refine je_var 1 rfl (by first | exact Or.inl rfl | exact Or.inr (Or.inl rfl) | exact Or.inr (Or.inr rfl)) rfl (by intro z; cases z) ?_
      refine ja_nil ?_
      refine ⟨_, _, rfl, _, rfl, ?_⟩
      refine h _ ?_
      rw [Int.sign_eq_neg_one_of_neg (by have := of_decide_eq_false hk; omega)]
      omega
  intro g eg
  obtain ⟨e1, e2⟩ := num_fdiv hb0 eg
  have g1 : g ≠ 0 := by
    rcases Int.lt_trichotomy b 0 with h | h | h
    · rw [eg, Int.sign_eq_neg_one_of_neg h]; omega
    · exact absurd h hb0
    · rw [eg, Int.sign_eq_one_of_pos h]; omega
  have g2 : g.natAbs < 2 ^ 8000 := by
    refine Nat.lt_of_le_of_lt ?_ hs
    rw [eg, Int.natAbs_mul, Int.natAbs_sign_of_ne_zero hb0, Int.natAbs_natCast, Nat.one_mul]
    exact hg
  refine js_cons (j1_ret ?_)
  refine je_tup ?_
  refine ja_cons ?_
  refine je_bin ?_
  refine je_var 0 rfl (by first | exact Or.inl rfl | exact Or.inr (Or.inl rfl) | exact Or.inr (Or.inr rfl)) rfl (by intro z; cases z) ?_
  refine je_var 2 rfl (by first | exact Or.inl rfl | exact Or.inr (Or.inl rfl) | exact Or.inr (Or.inr rfl)) rfl (by intro z; cases z) ?_
  refine jo_divZ (divZ g1 g2 (by decide) (by decide)) ?_
  refine ja_cons ?_
  refine je_bin ?_
  refine je_var 1 rfl (by first | exact Or.inl rfl | exact Or.inr (Or.inl rfl) | exact Or.inr (Or.inr rfl)) rfl (by intro z; cases z) ?_
  refine je_var 2 rfl (by first | exact Or.inl rfl | exact Or.inr (Or.inl rfl) | exact Or.inr (Or.inr rfl)) rfl (by intro z; cases z) ?_
  refine jo_divZ (divZ g1 g2 (by decide) (by decide)) ?_
  refine ja_nil ?_
  refine ⟨_, rfl, Nat.le_of_ble_eq_true rfl, ?_⟩
  refine ⟨_, rfl, ?_⟩
  rw [e1, e2]
  exact p
abbrev C_plus : List Sl → (PyData → Prop) → Prop := fun ss P => ∃ p q : Rat, ss = [.dat (fr p), .dat (fr q)] ∧ (∃ n m, Sz n p ∧ Sz m q ∧ n + m ≤ 7000) ∧ P (fr (p + q))
theorem D_plus (B : BC E) (A : At E "plus" s_plus ["one", "two"]) (D_ratio : Def E 2 "ratio" ["top", "low"] [] C_ratio) : Def E 3 "plus" ["one", "two"] [] C_plus := by
  refine def_at A c_plus (fun ss P h => by obtain ⟨a, b, rfl, _⟩ := h; rfl) fun ss P h => ?_
  obtain ⟨a, b, rfl, ⟨n,m,sn,sm,hnm⟩, p⟩ := h
  refine js_cons (j1_ret ?_)
  refine je_call D_ratio (Nat.le_of_ble_eq_true rfl) rfl ?_
  refine ja_cons ?_
  refine je_bin ?_
  refine je_bin ?_
  refine je_ix ?_
  refine je_var 0 rfl (by first | exact Or.inl rfl | exact Or.inr (Or.inl rfl) | exact Or.inr (Or.inr rfl)) rfl (by intro z; cases z) ?_
  refine je_int ?_
  refine ⟨_, _, _, rfl, rfl, rfl, ?_⟩
  refine je_ix ?_
  refine je_var 1 rfl (by first | exact Or.inl rfl | exact Or.inr (Or.inl rfl) | exact Or.inr (Or.inr rfl)) rfl (by intro z; cases z) ?_
  refine je_int ?_
  refine ⟨_, _, _, rfl, rfl, rfl, ?_⟩
  refine jo_mul (cmul_sz sn.1 (b := (b.den : Int)) sm.2 (by omega)) ?_
  refine je_bin ?_
  refine je_ix ?_
  refine je_var 1 rfl (by first | exact Or.inl rfl | exact Or.inr (Or.inl rfl) | exact Or.inr (Or.inr rfl)) rfl (by intro z; cases z) ?_
  refine je_int ?_
  refine ⟨_, _, _, rfl, rfl, rfl, ?_⟩
  refine je_ix ?_
  refine je_var 0 rfl (by first | exact Or.inl rfl | exact Or.inr (Or.inl rfl) | exact Or.inr (Or.inr rfl)) rfl (by intro z; cases z) ?_
  refine je_int ?_
  refine ⟨_, _, _, rfl, rfl, rfl, ?_⟩
  refine jo_mul (cmul_sz sm.1 (b := (a.den : Int)) sn.2 (by omega)) ?_
  refine jo_add ?_
  refine ja_cons ?_
  refine je_bin ?_
  refine je_ix ?_
  refine je_var 0 rfl (by first | exact Or.inl rfl | exact Or.inr (Or.inl rfl) | exact Or.inr (Or.inr rfl)) rfl (by intro z; cases z) ?_
  refine je_int ?_
  refine ⟨_, _, _, rfl, rfl, rfl, ?_⟩
  refine je_ix ?_
  refine je_var 1 rfl (by first | exact Or.inl rfl | exact Or.inr (Or.inl rfl) | exact Or.inr (Or.inr rfl)) rfl (by intro z; cases z) ?_
  refine je_int ?_
  refine ⟨_, _, _, rfl, rfl, rfl, ?_⟩
  refine jo_mul (cmul_sz (a := (a.den : Int)) sn.2 (b := (b.den : Int)) sm.2 (by omega)) ?_
  refine ja_nil ?_
  refine ⟨_, _, rfl, ?_, ?_, ?_⟩
  · exact Int.mul_ne_zero (den_ne a) (den_ne b)
  · rw [Int.natAbs_mul]
    exact Nat.lt_of_lt_of_le (mul_lt sn.2 sm.2) (pow_le (by omega))
  · rw [← add_eq]
    exact ⟨_, rfl, p⟩
abbrev C_minus : List Sl → (PyData → Prop) → Prop := fun ss P => ∃ p q : Rat, ss = [.dat (fr p), .dat (fr q)] ∧ (∃ n m, Sz n p ∧ Sz m q ∧ n + m ≤ 7000) ∧ P (fr (p - q))
theorem D_minus (B : BC E) (A : At E "minus" s_minus ["one", "two"]) (D_ratio : Def E 2 "ratio" ["top", "low"] [] C_ratio) : Def E 3 "minus" ["one", "two"] [] C_minus := by
  refine def_at A c_minus (fun ss P h => by obtain ⟨a, b, rfl, _⟩ := h; rfl) fun ss P h => ?_
  obtain ⟨a, b, rfl, ⟨n,m,sn,sm,hnm⟩, p⟩ := h
  refine js_cons (j1_ret ?_)
  refine je_call D_ratio (Nat.le_of_ble_eq_true rfl) rfl ?_
  refine ja_cons ?_
  refine je_bin ?_
  refine je_bin ?_
  refine je_ix ?_
  refine je_var 0 rfl (by first | exact Or.inl rfl | exact Or.inr (Or.inl rfl) | exact Or.inr (Or.inr rfl)) rfl (by intro z; cases z) ?_
  refine je_int ?_
  refine ⟨_, _, _, rfl, rfl, rfl, ?_⟩
  refine je_ix ?_
  refine je_var 1 rfl (by first | exact Or.inl rfl | exact Or.inr (Or.inl rfl) | exact Or.inr (Or.inr rfl)) rfl (by intro z; cases z) ?_
  refine je_int ?_
  refine ⟨_, _, _, rfl, rfl, rfl, ?_⟩
  refine jo_mul (cmul_sz sn.1 (b := (b.den : Int)) sm.2 (by omega)) ?_
  refine je_bin ?_
  refine je_ix ?_
  refine je_var 1 rfl (by first | exact Or.inl rfl | exact Or.inr (Or.inl rfl) | exact Or.inr (Or.inr rfl)) rfl (by intro z; cases z) ?_
  refine je_int ?_
  refine ⟨_, _, _, rfl, rfl, rfl, ?_⟩
  refine je_ix ?_
  refine je_var 0 rfl (by first | exact Or.inl rfl | exact Or.inr (Or.inl rfl) | exact Or.inr (Or.inr rfl)) rfl (by intro z; cases z) ?_
  refine je_int ?_
  refine ⟨_, _, _, rfl, rfl, rfl, ?_⟩
  refine jo_mul (cmul_sz sm.1 (b := (a.den : Int)) sn.2 (by omega)) ?_
  refine jo_sub ?_
  refine ja_cons ?_
  refine je_bin ?_
  refine je_ix ?_
  refine je_var 0 rfl (by first | exact Or.inl rfl | exact Or.inr (Or.inl rfl) | exact Or.inr (Or.inr rfl)) rfl (by intro z; cases z) ?_
  refine je_int ?_
  refine ⟨_, _, _, rfl, rfl, rfl, ?_⟩
  refine je_ix ?_
  refine je_var 1 rfl (by first | exact Or.inl rfl | exact Or.inr (Or.inl rfl) | exact Or.inr (Or.inr rfl)) rfl (by intro z; cases z) ?_
  refine je_int ?_
  refine ⟨_, _, _, rfl, rfl, rfl, ?_⟩
  refine jo_mul (cmul_sz (a := (a.den : Int)) sn.2 (b := (b.den : Int)) sm.2 (by omega)) ?_
  refine ja_nil ?_
  refine ⟨_, _, rfl, ?_, ?_, ?_⟩
  · exact Int.mul_ne_zero (den_ne a) (den_ne b)
  · rw [Int.natAbs_mul]
    exact Nat.lt_of_lt_of_le (mul_lt sn.2 sm.2) (pow_le (by omega))
  · rw [← sub_eq]
    exact ⟨_, rfl, p⟩
abbrev C_times : List Sl → (PyData → Prop) → Prop := fun ss P => ∃ p q : Rat, ss = [.dat (fr p), .dat (fr q)] ∧ (∃ n m, Sz n p ∧ Sz m q ∧ n + m ≤ 7000) ∧ P (fr (p * q))
theorem D_times (B : BC E) (A : At E "times" s_times ["one", "two"]) (D_ratio : Def E 2 "ratio" ["top", "low"] [] C_ratio) : Def E 3 "times" ["one", "two"] [] C_times := by
  refine def_at A c_times (fun ss P h => by obtain ⟨a, b, rfl, _⟩ := h; rfl) fun ss P h => ?_
  obtain ⟨a, b, rfl, ⟨n,m,sn,sm,hnm⟩, p⟩ := h
  refine js_cons (j1_ret ?_)
  refine je_call D_ratio (Nat.le_of_ble_eq_true rfl) rfl ?_
  refine ja_cons ?_
  refine je_bin ?_
  refine je_ix ?_
  refine je_var 0 rfl (by first | exact Or.inl rfl | exact Or.inr (Or.inl rfl) | exact Or.inr (Or.inr rfl)) rfl (by intro z; cases z) ?_
  refine je_int ?_
  refine ⟨_, _, _, rfl, rfl, rfl, ?_⟩
  refine je_ix ?_
  refine je_var 1 rfl (by first | exact Or.inl rfl | exact Or.inr (Or.inl rfl) | exact Or.inr (Or.inr rfl)) rfl (by intro z; cases z) ?_
  refine je_int ?_
  refine ⟨_, _, _, rfl, rfl, rfl, ?_⟩
  refine jo_mul (cmul_sz sn.1 sm.1 (by omega)) ?_
  refine ja_cons ?_
  refine je_bin ?_
  refine je_ix ?_
  refine je_var 0 rfl (by first | exact Or.inl rfl | exact Or.inr (Or.inl rfl) | exact Or.inr (Or.inr rfl)) rfl (by intro z; cases z) ?_
  refine je_int ?_
  refine ⟨_, _, _, rfl, rfl, rfl, ?_⟩
  refine je_ix ?_
  refine je_var 1 rfl (by first | exact Or.inl rfl | exact Or.inr (Or.inl rfl) | exact Or.inr (Or.inr rfl)) rfl (by intro z; cases z) ?_
  refine je_int ?_
  refine ⟨_, _, _, rfl, rfl, rfl, ?_⟩
  refine jo_mul (cmul_sz (a := (a.den : Int)) sn.2 (b := (b.den : Int)) sm.2 (by omega)) ?_
  refine ja_nil ?_
  refine ⟨_, _, rfl, ?_, ?_, ?_⟩
  · exact Int.mul_ne_zero (den_ne a) (den_ne b)
  · rw [Int.natAbs_mul]
    exact Nat.lt_of_lt_of_le (mul_lt sn.2 sm.2) (pow_le (by omega))
  · rw [← mul_eq]
    exact ⟨_, rfl, p⟩
abbrev C_over : List Sl → (PyData → Prop) → Prop := fun ss P => ∃ p q : Rat, ss = [.dat (fr p), .dat (fr q)] ∧ q ≠ 0 ∧ (∃ n m, Sz n p ∧ Sz m q ∧ n + m ≤ 7000) ∧ P (fr (p / q))
theorem D_over (B : BC E) (A : At E "over" s_over ["one", "two"]) (D_ratio : Def E 2 "ratio" ["top", "low"] [] C_ratio) : Def E 3 "over" ["one", "two"] [] C_over := by
  refine def_at A c_over (fun ss P h => by obtain ⟨a, b, rfl, _⟩ := h; rfl) fun ss P h => ?_
  obtain ⟨a, b, rfl, hb, ⟨n,m,sn,sm,hnm⟩, p⟩ := h
  refine js_cons (j1_ret ?_)
  refine je_call D_ratio (Nat.le_of_ble_eq_true rfl) rfl ?_
  refine ja_cons ?_
  refine je_bin ?_
  refine je_ix ?_
  refine je_var 0 rfl (by first | exact Or.inl rfl | exact Or.inr (Or.inl rfl) | exact Or.inr (Or.inr rfl)) rfl (by intro z; cases z) ?_
  refine je_int ?_
  refine ⟨_, _, _, rfl, rfl, rfl, ?_⟩
  refine je_ix ?_
  refine je_var 1 rfl (by first | exact Or.inl rfl | exact Or.inr (Or.inl rfl) | exact Or.inr (Or.inr rfl)) rfl (by intro z; cases z) ?_
  refine je_int ?_
  refine ⟨_, _, _, rfl, rfl, rfl, ?_⟩
  refine jo_mul (cmul_sz sn.1 (b := (b.den : Int)) sm.2 (by omega)) ?_
  refine ja_cons ?_
  refine je_bin ?_
  refine je_ix ?_
  refine je_var 0 rfl (by first | exact Or.inl rfl | exact Or.inr (Or.inl rfl) | exact Or.inr (Or.inr rfl)) rfl (by intro z; cases z) ?_
  refine je_int ?_
  refine ⟨_, _, _, rfl, rfl, rfl, ?_⟩
  refine je_ix ?_
  refine je_var 1 rfl (by first | exact Or.inl rfl | exact Or.inr (Or.inl rfl) | exact Or.inr (Or.inr rfl)) rfl (by intro z; cases z) ?_
  refine je_int ?_
  refine ⟨_, _, _, rfl, rfl, rfl, ?_⟩
  refine jo_mul (cmul_sz (a := (a.den : Int)) sn.2 sm.1 (by omega)) ?_
  refine ja_nil ?_
  refine ⟨_, _, rfl, ?_, ?_, ?_⟩
  · exact Int.mul_ne_zero (den_ne a) (fun z => hb (Rat.num_eq_zero.mp z))
  · rw [Int.natAbs_mul]
    exact Nat.lt_of_lt_of_le (mul_lt sn.2 sm.1) (pow_le (by omega))
  · rw [← div_eq]
    exact ⟨_, rfl, p⟩
abbrev C_opposite : List Sl → (PyData → Prop) → Prop := fun ss P => ∃ p : Rat, ss = [.dat (fr p)] ∧ P (fr (-p))
theorem D_opposite (B : BC E) (A : At E "opposite" s_opposite ["one"]) : Def E 1 "opposite" ["one"] [] C_opposite := by
  refine def_at A c_opposite (fun ss P h => by obtain ⟨a, rfl, _⟩ := h; rfl) fun ss P h => ?_
  obtain ⟨a, rfl, p⟩ := h
  refine js_cons (j1_ret ?_)
  refine je_tup ?_
  refine ja_cons ?_
  refine je_neg ?_
  refine je_ix ?_
  refine je_var 0 rfl (by first | exact Or.inl rfl | exact Or.inr (Or.inl rfl) | exact Or.inr (Or.inr rfl)) rfl (by intro z; cases z) ?_
  refine je_int ?_
  refine ⟨_, _, _, rfl, rfl, rfl, ?_⟩
  refine ⟨_, rfl, ?_⟩
  refine ja_cons ?_
  refine je_ix ?_
  refine je_var 0 rfl (by first | exact Or.inl rfl | exact Or.inr (Or.inl rfl) | exact Or.inr (Or.inr rfl)) rfl (by intro z; cases z) ?_
  refine je_int ?_
  refine ⟨_, _, _, rfl, rfl, rfl, ?_⟩
  refine ja_nil ?_
  refine ⟨_, rfl, Nat.le_of_ble_eq_true rfl, ?_⟩
  exact ⟨_, rfl, p⟩
abbrev C_is_up_to : List Sl → (PyData → Prop) → Prop := fun ss P => ∃ p q : Rat, ss = [.dat (fr p), .dat (fr q)] ∧ (∃ n m, Sz n p ∧ Sz m q ∧ n + m ≤ 7000) ∧ P (.bool (decide (p ≤ q)))
theorem D_is_up_to (B : BC E) (A : At E "is_up_to" s_is_up_to ["one", "two"]) : Def E 1 "is_up_to" ["one", "two"] [] C_is_up_to := by
  refine def_at A c_is_up_to (fun ss P h => by obtain ⟨a, b, rfl, _⟩ := h; rfl) fun ss P h => ?_
  obtain ⟨a, b, rfl, ⟨n,m,sn,sm,hnm⟩, p⟩ := h
  refine js_cons (j1_ret ?_)
  refine je_cmp ?_
  refine je_bin ?_
  refine je_ix ?_
  refine je_var 0 rfl (by first | exact Or.inl rfl | exact Or.inr (Or.inl rfl) | exact Or.inr (Or.inr rfl)) rfl (by intro z; cases z) ?_
  refine je_int ?_
  refine ⟨_, _, _, rfl, rfl, rfl, ?_⟩
  refine je_ix ?_
  refine je_var 1 rfl (by first | exact Or.inl rfl | exact Or.inr (Or.inl rfl) | exact Or.inr (Or.inr rfl)) rfl (by intro z; cases z) ?_
  refine je_int ?_
  refine ⟨_, _, _, rfl, rfl, rfl, ?_⟩
  refine jo_mul (cmul_sz sn.1 (b := (b.den : Int)) sm.2 (by omega)) ?_
  refine je_bin ?_
  refine je_ix ?_
  refine je_var 1 rfl (by first | exact Or.inl rfl | exact Or.inr (Or.inl rfl) | exact Or.inr (Or.inr rfl)) rfl (by intro z; cases z) ?_
  refine je_int ?_
  refine ⟨_, _, _, rfl, rfl, rfl, ?_⟩
  refine je_ix ?_
  refine je_var 0 rfl (by first | exact Or.inl rfl | exact Or.inr (Or.inl rfl) | exact Or.inr (Or.inr rfl)) rfl (by intro z; cases z) ?_
  refine je_int ?_
  refine ⟨_, _, _, rfl, rfl, rfl, ?_⟩
  refine jo_mul (cmul_sz sm.1 (b := (a.den : Int)) sn.2 (by omega)) ?_
  refine jo_le ?_
  rw [le_num]
  exact ⟨_, rfl, p⟩
abbrev C_is_below : List Sl → (PyData → Prop) → Prop := fun ss P => ∃ p q : Rat, ss = [.dat (fr p), .dat (fr q)] ∧ (∃ n m, Sz n p ∧ Sz m q ∧ n + m ≤ 7000) ∧ P (.bool (decide (p < q)))
theorem D_is_below (B : BC E) (A : At E "is_below" s_is_below ["one", "two"]) : Def E 1 "is_below" ["one", "two"] [] C_is_below := by
  refine def_at A c_is_below (fun ss P h => by obtain ⟨a, b, rfl, _⟩ := h; rfl) fun ss P h => ?_
  obtain ⟨a, b, rfl, ⟨n,m,sn,sm,hnm⟩, p⟩ := h
  refine js_cons (j1_ret ?_)
  refine je_cmp ?_
  refine je_bin ?_
  refine je_ix ?_
  refine je_var 0 rfl (by first | exact Or.inl rfl | exact Or.inr (Or.inl rfl) | exact Or.inr (Or.inr rfl)) rfl (by intro z; cases z) ?_
  refine je_int ?_
  refine ⟨_, _, _, rfl, rfl, rfl, ?_⟩
  refine je_ix ?_
  refine je_var 1 rfl (by first | exact Or.inl rfl | exact Or.inr (Or.inl rfl) | exact Or.inr (Or.inr rfl)) rfl (by intro z; cases z) ?_
  refine je_int ?_
  refine ⟨_, _, _, rfl, rfl, rfl, ?_⟩
  refine jo_mul (cmul_sz sn.1 (b := (b.den : Int)) sm.2 (by omega)) ?_
  refine je_bin ?_
  refine je_ix ?_
  refine je_var 1 rfl (by first | exact Or.inl rfl | exact Or.inr (Or.inl rfl) | exact Or.inr (Or.inr rfl)) rfl (by intro z; cases z) ?_
  refine je_int ?_
  refine ⟨_, _, _, rfl, rfl, rfl, ?_⟩
  refine je_ix ?_
  refine je_var 0 rfl (by first | exact Or.inl rfl | exact Or.inr (Or.inl rfl) | exact Or.inr (Or.inr rfl)) rfl (by intro z; cases z) ?_
  refine je_int ?_
  refine ⟨_, _, _, rfl, rfl, rfl, ?_⟩
  refine jo_mul (cmul_sz sm.1 (b := (a.den : Int)) sn.2 (by omega)) ?_
  refine jo_lt ?_
  rw [lt_num]
  exact ⟨_, rfl, p⟩
end
end W6
end
section
set_option Elab.async false
set_option linter.all false
set_option maxRecDepth 100000
set_option maxHeartbeats 4000000
/-! The walk: rows. -/
namespace W6
open PySem PySem.Spec PyProof.Rows L2
def Szs (n : Nat) (xs : List Rat) : Prop := ∀ x ∈ xs, Sz n x
theorem Szs.get {n : Nat} {xs : List Rat} (h : Szs n xs) {i : Nat} {x : Rat} (e : xs[i]? = some x) : Sz n x := h x (List.mem_of_getElem? e)
theorem szs_nts (n k : Nat) (h : 0 < n) : Szs n (nts k) := fun x hx => by
  obtain ⟨_, rfl⟩ := List.mem_replicate.mp hx
  exact sz_zero.mono h
theorem szs_sca {n m : Nat} {xs : List Rat} {q : Rat} (h : Szs n xs) (k : Sz m q) (h0 : 0 < n + m) : Szs (n + m) (scaR xs q) := fun x hx => by
  obtain ⟨a, ha, rfl⟩ := List.mem_map.mp hx
  exact sz_mul (h a ha) k h0
theorem szs_add {n m : Nat} {xs ys : List Rat} (h : Szs n xs) (k : Szs m ys) : Szs (n + m + 1) (addR xs ys) := fun x hx => by
  obtain ⟨i, hi⟩ := List.mem_iff_getElem?.mp hx
  unfold addR at hi
  rw [List.getElem?_zipWith] at hi
  split at hi
  · cases hi
    rename_i a b ea eb
    exact sz_add (h.get ea) (k.get eb)
  · cases hi
theorem map_fr_nts (k : Nat) : (nts k).map fr = List.replicate k (fr 0) := by
  unfold nts
  rw [List.map_replicate]
theorem dot_fold : ∀ (l : List (Rat × Rat)) (b : Rat), l.foldl (fun b p => b + p.1 * p.2) b = b + sumR (l.map fun p => p.1 * p.2)
  | [], b => by show b = b + 0; grind
  | p :: l, b => by
    rw [List.foldl_cons, dot_fold l]
    show b + p.1 * p.2 + _ = b + (p.1 * p.2 + _)
    grind
theorem dot_zip : ∀ xs ys : List Rat, (xs.zip ys).map (fun p => p.1 * p.2) = List.zipWith (· * ·) xs ys
  | [], _ => rfl
  | _ :: _, [] => rfl
  | x :: xs, y :: ys => by
    show x * y :: (xs.zip ys).map (fun p => p.1 * p.2) = x * y :: _
    rw [dot_zip xs ys]
theorem dot_is (xs ys : List Rat) : (xs.zip ys).foldl (fun b p => b + p.1 * p.2) 0 = dotR xs ys := by
  rw [dot_fold, dot_zip]
  unfold dotR
  grind
theorem dot_sz {n m : Nat} (h0 : 0 < n + m) : ∀ (l : List (Rat × Rat)) (b : Rat) (k : Nat), (∀ p ∈ l, Sz n p.1 ∧ Sz m p.2) → Sz k b → Sz (k + l.length * (n + m + 1)) (l.foldl (fun b p => b + p.1 * p.2) b)
  | [], b, k, _, hb => by
    show Sz (k + 0 * _) b
    rw [Nat.zero_mul]
    exact hb
  | p :: l, b, k, h, hb => by
    rw [List.foldl_cons]
    refine (dot_sz h0 l _ (k + (n + m) + 1) (fun q hq => h q (List.mem_cons_of_mem _ hq)) (sz_add hb (sz_mul (h p List.mem_cons_self).1 (h p List.mem_cons_self).2 h0))).mono ?_
    rw [List.length_cons, Nat.add_mul]
    omega
theorem zip_sz {n m : Nat} {xs ys : List Rat} (h : Szs n xs) (k : Szs m ys) : ∀ p ∈ xs.zip ys, Sz n p.1 ∧ Sz m p.2 := fun p hp => ⟨h _ (List.of_mem_zip hp).1, k _ (List.of_mem_zip hp).2⟩
theorem mem_take {α : Type} {l : List α} {i : Nat} {x : α} (h : x ∈ l.take i) : x ∈ l := List.mem_of_mem_take h
section
variable {E : En}
abbrev C_dot : List Sl → (PyData → Prop) → Prop := fun ss P => ∃ xs ys : List Rat, ss = [.dat (rw_ xs), .dat (.list (ys.map fr))] ∧ (∃ n m, 0 < n + m ∧ Szs n xs ∧ Szs m ys ∧ (xs.length + 1) * (n + m + 1) ≤ 6000) ∧ P (fr (dotR xs ys))
theorem D_dot (B : BC E) (A : At E "dot" s_dot ["one", "two"]) (D_plus : Def E 3 "plus" ["one", "two"] [] C_plus) (D_times : Def E 3 "times" ["one", "two"] [] C_times) : Def E 4 "dot" ["one", "two"] [] C_dot := by
  refine def_at A c_dot (fun ss P h => by obtain ⟨xs, ys, rfl, _⟩ := h; rfl) fun ss P h => ?_
  obtain ⟨xs, ys, rfl, ⟨n,m,h0,sx,sy,hnm⟩, p⟩ := h
  have hl := Nat.add_mul xs.length 1 (n + m + 1)
  refine js_cons (j1_set 2 (by decide +kernel) rfl (by first | exact Or.inl rfl | exact Or.inr rfl) ?_)
  refine je_glob B.zero rfl ?_
  refine js_cons (j1_for ?_)
  refine ji_zip B.zip_ rfl ?_
  refine je_var 0 rfl (by first | exact Or.inl rfl | exact Or.inr (Or.inl rfl) | exact Or.inr (Or.inr rfl)) rfl (by intro z; cases z) ?_
  refine je_var 1 rfl (by first | exact Or.inl rfl | exact Or.inr (Or.inl rfl) | exact Or.inr (Or.inr rfl)) rfl (by intro z; cases z) ?_
  refine ⟨_, _, _, _, _, _, rfl, rfl, rfl, rfl, ?_⟩
  rw [zipD_map]
  refine for_fold [3, 4] (xs.zip ys) _ (fun q => [.dat (rw_ xs), .dat (.list (ys.map fr)), .dat (fr q), .no, .no]) (fun b p => b + p.1 * p.2) 0 rfl rfl (fun i a ha => ?_) (fun ρ' e => js_forget [3, 4] e ?_)
  · have hs := dot_sz h0 ((xs.zip ys).take i) 0 1 (fun q hq => zip_sz sx sy q (mem_take hq)) sz_zero
    have h1 := zip_sz sx sy a (List.mem_of_getElem? ha)
    have h2 : (min i (xs.zip ys).length) * (n + m + 1) ≤ xs.length * (n + m + 1) := Nat.mul_le_mul_right _ (by rw [List.length_zip]; omega)
    rw [List.length_take] at hs
    generalize ((xs.zip ys).take i).foldl (fun b p => b + p.1 * p.2) 0 = b at hs
    refine jg_tup ⟨_, rfl, rfl, ?_⟩
    refine jgs_cons ?_
    refine jg_name 3 (by decide +kernel) rfl (by first | exact Or.inl rfl | exact Or.inr rfl) ?_
    refine jgs_cons ?_
    refine jg_name 4 (by decide +kernel) rfl (by first | exact Or.inl rfl | exact Or.inr rfl) ?_
    refine jgs_nil ?_
    refine js_cons (j1_if ?_)
    refine jt_bool ?_
    refine jw_and ?_
    refine jt_cmp ?_
    refine je_ix ?_
    refine je_var 3 rfl (by first | exact Or.inl rfl | exact Or.inr (Or.inl rfl) | exact Or.inr (Or.inr rfl)) rfl (by intro z; cases z) ?_
    refine je_int ?_
    refine ⟨_, _, _, rfl, rfl, rfl, ?_⟩
    refine je_int ?_
    refine jo_neI ?_
    refine ⟨_, rfl, ?_⟩
    rw [num_eq0]
    refine ⟨fun hk => ?_, fun hk => ?_⟩
    · refine jw_and1 ?_
      refine jt_cmp ?_
      refine je_ix ?_
      refine je_var 4 rfl (by first | exact Or.inl rfl | exact Or.inr (Or.inl rfl) | exact Or.inr (Or.inr rfl)) rfl (by intro z; cases z) ?_
      refine je_int ?_
      refine ⟨_, _, _, rfl, rfl, rfl, ?_⟩
      refine je_int ?_
      refine jo_neI ?_
      refine ⟨_, rfl, ?_⟩
      rw [num_eq0]
      refine ⟨fun hk => ?_, fun hk => ?_⟩
      · refine js_cons (j1_set 2 (by decide +kernel) rfl (by first | exact Or.inl rfl | exact Or.inr rfl) ?_)
        refine je_call D_plus (Nat.le_of_ble_eq_true rfl) rfl ?_
        refine ja_cons ?_
        refine je_var 2 rfl (by first | exact Or.inl rfl | exact Or.inr (Or.inl rfl) | exact Or.inr (Or.inr rfl)) rfl (by intro z; cases z) ?_
        refine ja_cons ?_
        refine je_call D_times (Nat.le_of_ble_eq_true rfl) rfl ?_
        refine ja_cons ?_
        refine je_var 3 rfl (by first | exact Or.inl rfl | exact Or.inr (Or.inl rfl) | exact Or.inr (Or.inr rfl)) rfl (by intro z; cases z) ?_
        refine ja_cons ?_
        refine je_var 4 rfl (by first | exact Or.inl rfl | exact Or.inr (Or.inl rfl) | exact Or.inr (Or.inr rfl)) rfl (by intro z; cases z) ?_
        refine ja_nil ?_
        refine ⟨_, _, rfl, ⟨_, _, h1.1, h1.2, by omega⟩, ?_⟩
        refine ja_nil ?_
        refine ⟨_, _, rfl, ⟨_, _, hs, sz_mul h1.1 h1.2 h0, by omega⟩, ?_⟩
        refine js_nil ?_
        refine js_nil ?_
        rfl
      · have hz : a.2 = 0 := by simpa using hk
        refine js_nil ?_
        refine js_nil ?_
        have e : b + a.1 * a.2 = b := by rw [hz, Rat.mul_zero, Rat.add_zero]
        rw [e]
        rfl
    · have hz : a.1 = 0 := by simpa using hk
      refine ⟨fun z => (nomatch z), fun _ => ?_⟩
      refine js_nil ?_
      refine js_nil ?_
      have e : b + a.1 * a.2 = b := by rw [hz, Rat.zero_mul, Rat.add_zero]
      rw [e]
      rfl
  · rw [dot_is]
    refine js_cons (j1_ret ?_)
    refine je_var 2 rfl (by first | exact Or.inl rfl | exact Or.inr (Or.inl rfl) | exact Or.inr (Or.inr rfl)) rfl (by intro z; cases z) ?_
    refine ⟨_, rfl, ?_⟩
    exact p
abbrev C_noughts : List Sl → (PyData → Prop) → Prop := fun ss P => ∃ k : Nat, ss = [.dat (.int (k : Int))] ∧ k ≤ 1000 ∧ P (rw_ (nts k))
theorem D_noughts (B : BC E) (A : At E "noughts" s_noughts ["many"]) : Def E 1 "noughts" ["many"] [] C_noughts := by
  refine def_at A c_noughts (fun ss P h => by obtain ⟨k, rfl, _⟩ := h; rfl) fun ss P h => ?_
  obtain ⟨k, rfl, hk, p⟩ := h
  refine js_cons (j1_ret ?_)
  refine je_bin ?_
  refine je_tup ?_
  refine ja_cons ?_
  refine je_glob B.zero rfl ?_
  refine ja_nil ?_
  refine ⟨_, rfl, Nat.le_of_ble_eq_true rfl, ?_⟩
  refine je_var 0 rfl (by first | exact Or.inl rfl | exact Or.inr (Or.inl rfl) | exact Or.inr (Or.inr rfl)) rfl (by intro z; cases z) ?_
  refine jo_repT hk ?_
  refine ⟨_, rfl, ?_⟩
  rw [← map_fr_nts]
  exact p
abbrev C_unit : List Sl → (PyData → Prop) → Prop := fun ss P => ∃ k i : Nat, ss = [.dat (.int (k : Int)), .dat (.int (i : Int))] ∧ i < k ∧ k ≤ 1000 ∧ P (rw_ (unitR k i))
theorem D_unit (B : BC E) (A : At E "unit" s_unit ["many", "at"]) (D_noughts : Def E 1 "noughts" ["many"] [] C_noughts) : Def E 2 "unit" ["many", "at"] [] C_unit := by
  refine def_at A c_unit (fun ss P h => by obtain ⟨k, i, rfl, _⟩ := h; rfl) fun ss P h => ?_
  obtain ⟨k, i, rfl, hik, hk, p⟩ := h
  refine js_cons (j1_ret ?_)
  refine je_bin ?_
  refine je_bin ?_
  refine je_call D_noughts (Nat.le_of_ble_eq_true rfl) rfl ?_
  refine ja_cons ?_
  refine je_var 1 rfl (by first | exact Or.inl rfl | exact Or.inr (Or.inl rfl) | exact Or.inr (Or.inr rfl)) rfl (by intro z; cases z) ?_
  refine ja_nil ?_
  refine ⟨i, rfl, by omega, ?_⟩
  refine je_tup ?_
  refine ja_cons ?_
  refine je_glob B.one rfl ?_
  refine ja_nil ?_
  refine ⟨_, rfl, Nat.le_of_ble_eq_true rfl, ?_⟩
  refine jo_catT ?_ ?_
  · rw [List.length_map]; unfold nts; rw [List.length_replicate]; show i + 1 ≤ _; omega
  refine je_call D_noughts (Nat.le_of_ble_eq_true rfl) rfl ?_
  refine ja_cons ?_
  refine je_bin ?_
  refine je_bin ?_
  refine je_var 0 rfl (by first | exact Or.inl rfl | exact Or.inr (Or.inl rfl) | exact Or.inr (Or.inr rfl)) rfl (by intro z; cases z) ?_
  refine je_int ?_
  refine jo_sub ?_
  refine je_var 1 rfl (by first | exact Or.inl rfl | exact Or.inr (Or.inl rfl) | exact Or.inr (Or.inr rfl)) rfl (by intro z; cases z) ?_
  refine jo_sub ?_
  refine ja_nil ?_
  refine ⟨k - 1 - i, by show [Sl.dat (.int ((k : Int) - 1 - (i : Int)))] = _; rw [show ((k : Int) - 1 - (i : Int)) = ((k - 1 - i : Nat) : Int) by omega], by omega, ?_⟩
  refine jo_catT ?_ ?_
  · rw [List.length_append, List.length_map, List.length_map]; unfold nts; rw [List.length_replicate, List.length_replicate]; show i + 1 + (k - 1 - i) ≤ _; omega
  refine ⟨_, rfl, ?_⟩
  have e : rw_ (unitR k i) = .tuple ((nts i).map fr ++ [fr 1] ++ (nts (k - 1 - i)).map fr) := by
    show PyData.tuple ((nts i ++ [1] ++ nts (k - 1 - i)).map fr) = _
    rw [List.map_append, List.map_append]
    rfl
  rw [e] at p
  exact p
abbrev C_row_plus : List Sl → (PyData → Prop) → Prop := fun ss P => ∃ xs ys : List Rat, ss = [.dat (rw_ xs), .dat (rw_ ys)] ∧ (∃ n m, Szs n xs ∧ Szs m ys ∧ n + m ≤ 7000) ∧ xs.length ≤ 1000 ∧ P (rw_ (addR xs ys))
theorem D_row_plus (B : BC E) (A : At E "row_plus" s_row_plus ["one", "two"]) (D_plus : Def E 3 "plus" ["one", "two"] [] C_plus) : Def E 4 "row_plus" ["one", "two"] [] C_row_plus := by
  refine def_at A c_row_plus (fun ss P h => by obtain ⟨xs, ys, rfl, _⟩ := h; rfl) fun ss P h => ?_
  obtain ⟨xs, ys, rfl, ⟨n,m,sx,sy,hnm⟩, hl, p⟩ := h
  refine js_cons (j1_ret ?_)
  refine je_callTy B.tuple_ rfl rfl ?_
  refine ja_cons ?_
  refine je_lc2 2 3 (by decide +kernel) (by decide +kernel) rfl rfl rfl rfl ?_
  refine ji_zip B.zip_ rfl ?_
  refine je_var 0 rfl (by first | exact Or.inl rfl | exact Or.inr (Or.inl rfl) | exact Or.inr (Or.inr rfl)) rfl (by intro z; cases z) ?_
  refine je_var 1 rfl (by first | exact Or.inl rfl | exact Or.inr (Or.inl rfl) | exact Or.inr (Or.inr rfl)) rfl (by intro z; cases z) ?_
  refine ⟨_, _, _, _, _, _, rfl, rfl, rfl, rfl, ?_⟩
  rw [zipD_map]
  refine lc2Map (xs.zip ys) _ _ (fun p => fr (p.1 + p.2)) (by rw [List.length_zip]; omega) (fun a ha => ?_) ?_
  · have h1 := zip_sz sx sy a ha
    refine je_call D_plus (Nat.le_of_ble_eq_true rfl) rfl ?_
    refine ja_cons ?_
    refine je_var 2 rfl (by first | exact Or.inl rfl | exact Or.inr (Or.inl rfl) | exact Or.inr (Or.inr rfl)) rfl (by intro z; cases z) ?_
    refine ja_cons ?_
    refine je_var 3 rfl (by first | exact Or.inl rfl | exact Or.inr (Or.inl rfl) | exact Or.inr (Or.inr rfl)) rfl (by intro z; cases z) ?_
    refine ja_nil ?_
    exact ⟨_, _, rfl, ⟨_, _, h1.1, h1.2, hnm⟩, rfl⟩
  · refine ja_nil ?_
    refine jc_tuple rfl ?_
    refine ⟨_, rfl, ?_⟩
    have e : (xs.zip ys).map (fun p => fr (p.1 + p.2)) = (addR xs ys).map fr := by
      unfold addR
      rw [List.zip_eq_zipWith, List.map_zipWith, List.map_zipWith]
    rw [e]
    exact p
abbrev C_scaled : List Sl → (PyData → Prop) → Prop := fun ss P => ∃ (xs : List Rat) (q : Rat), ss = [.dat (rw_ xs), .dat (fr q)] ∧ (∃ n m, Szs n xs ∧ Sz m q ∧ n + m ≤ 7000) ∧ xs.length ≤ 1000 ∧ P (rw_ (scaR xs q))
theorem D_scaled (B : BC E) (A : At E "scaled" s_scaled ["row", "number"]) (D_times : Def E 3 "times" ["one", "two"] [] C_times) : Def E 4 "scaled" ["row", "number"] [] C_scaled := by
  refine def_at A c_scaled (fun ss P h => by obtain ⟨xs, q, rfl, _⟩ := h; rfl) fun ss P h => ?_
  obtain ⟨xs, q, rfl, ⟨n,m,sx,sy,hnm⟩, hl, p⟩ := h
  refine js_cons (j1_ret ?_)
  refine je_callTy B.tuple_ rfl rfl ?_
  refine ja_cons ?_
  refine je_lc1 2 (by decide +kernel) (by decide +kernel) rfl rfl ?_
  refine ji_tup ?_
  refine je_var 0 rfl (by first | exact Or.inl rfl | exact Or.inr (Or.inl rfl) | exact Or.inr (Or.inr rfl)) rfl (by intro z; cases z) ?_
  refine ⟨_, rfl, ?_⟩
  refine lcMap xs _ (fun x => fr (x * q)) (by omega) (fun a ha => ?_) ?_
  · refine je_call D_times (Nat.le_of_ble_eq_true rfl) rfl ?_
    refine ja_cons ?_
    refine je_var 2 rfl (by first | exact Or.inl rfl | exact Or.inr (Or.inl rfl) | exact Or.inr (Or.inr rfl)) rfl (by intro z; cases z) ?_
    refine ja_cons ?_
    refine je_var 1 rfl (by first | exact Or.inl rfl | exact Or.inr (Or.inl rfl) | exact Or.inr (Or.inr rfl)) rfl (by intro z; cases z) ?_
    refine ja_nil ?_
    exact ⟨_, _, rfl, ⟨_, _, sx a ha, sy, hnm⟩, rfl⟩
  · refine ja_nil ?_
    refine jc_tuple rfl ?_
    refine ⟨_, rfl, ?_⟩
    have e : xs.map (fun x => fr (x * q)) = (scaR xs q).map fr := by
      unfold scaR
      rw [List.map_map]
      rfl
    rw [e]
    exact p
abbrev C_turned : List Sl → (PyData → Prop) → Prop := fun ss P => ∃ (xs : List Rat), ss = [.dat (rw_ xs)] ∧ xs.length ≤ 1000 ∧ P (rw_ (negR xs))
theorem D_turned (B : BC E) (A : At E "turned" s_turned ["row"]) (D_opposite : Def E 1 "opposite" ["one"] [] C_opposite) : Def E 2 "turned" ["row"] [] C_turned := by
  refine def_at A c_turned (fun ss P h => by obtain ⟨xs, rfl, _⟩ := h; rfl) fun ss P h => ?_
  obtain ⟨xs, rfl, hl, p⟩ := h
  refine js_cons (j1_ret ?_)
  refine je_callTy B.tuple_ rfl rfl ?_
  refine ja_cons ?_
  refine je_lc1 1 (by decide +kernel) (by decide +kernel) rfl rfl ?_
  refine ji_tup ?_
  refine je_var 0 rfl (by first | exact Or.inl rfl | exact Or.inr (Or.inl rfl) | exact Or.inr (Or.inr rfl)) rfl (by intro z; cases z) ?_
  refine ⟨_, rfl, ?_⟩
  refine lcMap xs _ (fun x => fr (-x)) (by omega) (fun a ha => ?_) ?_
  · refine je_call D_opposite (Nat.le_of_ble_eq_true rfl) rfl ?_
    refine ja_cons ?_
    refine je_var 1 rfl (by first | exact Or.inl rfl | exact Or.inr (Or.inl rfl) | exact Or.inr (Or.inr rfl)) rfl (by intro z; cases z) ?_
    refine ja_nil ?_
    exact ⟨_, rfl, rfl⟩
  · refine ja_nil ?_
    refine jc_tuple rfl ?_
    refine ⟨_, rfl, ?_⟩
    have e : xs.map (fun x => fr (-x)) = (negR xs).map fr := by
      unfold negR
      rw [List.map_map]
      rfl
    rw [e]
    exact p
theorem mix_sz {n m : Nat} (h0 : 0 < n + m) : ∀ (l : List (List Rat × Rat)) (b : List Rat) (k : Nat), (∀ p ∈ l, Szs n p.1 ∧ Sz m p.2) → Szs k b → Szs (k + l.length * (n + m + 1)) (l.foldl mixStep b)
  | [], b, k, _, hb => by
    show Szs (k + 0 * _) b
    rw [Nat.zero_mul]
    exact hb
  | p :: l, b, k, h, hb => by
    rw [List.foldl_cons]
    refine fun x hx => (mix_sz h0 l _ (k + (n + m) + 1) (fun q hq => h q (List.mem_cons_of_mem _ hq)) ?_ x hx).mono ?_
    · unfold mixStep
      split
      · exact fun x hx => (hb x hx).mono (by omega)
      · exact szs_add hb (szs_sca (h p List.mem_cons_self).1 (h p List.mem_cons_self).2 h0)
    · rw [List.length_cons, Nat.add_mul]
      omega
theorem mix_len {k : Nat} : ∀ (l : List (List Rat × Rat)) (b : List Rat), b.length ≤ k → (l.foldl mixStep b).length ≤ k
  | [], b, hb => hb
  | p :: l, b, hb => by
    rw [List.foldl_cons]
    refine mix_len l _ ?_
    unfold mixStep
    split
    · exact hb
    · unfold addR
      rw [List.length_zipWith]
      omega
abbrev C_mixed : List Sl → (PyData → Prop) → Prop := fun ss P => ∃ (rs : List (List Rat)) (ns : List Rat) (k : Nat), ss = [.dat (rws rs), .dat (rw_ ns), .dat (.int (k : Int))] ∧ (∃ n m, 0 < n + m ∧ (∀ r ∈ rs, Szs n r) ∧ Szs m ns ∧ (rs.length + 1) * (n + m + 1) ≤ 6000) ∧ k ≤ 1000 ∧ (∀ r ∈ rs, r.length ≤ 1000) ∧ P (rw_ (mixR rs ns k))
theorem D_mixed (B : BC E) (A : At E "mixed" s_mixed ["rows", "numbers", "many"]) (D_noughts : Def E 1 "noughts" ["many"] [] C_noughts) (D_row_plus : Def E 4 "row_plus" ["one", "two"] [] C_row_plus) (D_scaled : Def E 4 "scaled" ["row", "number"] [] C_scaled) : Def E 5 "mixed" ["rows", "numbers", "many"] [] C_mixed := by
  refine def_at A c_mixed (fun ss P h => by obtain ⟨rs, ns, k, rfl, _⟩ := h; rfl) fun ss P h => ?_
  obtain ⟨rs, ns, k, rfl, ⟨n,m,h0,sx,sy,hnm⟩, hk, hr, p⟩ := h
  have hl := Nat.add_mul rs.length 1 (n + m + 1)
  refine js_cons (j1_set 3 (by decide +kernel) rfl (by first | exact Or.inl rfl | exact Or.inr rfl) ?_)
  refine je_call D_noughts (Nat.le_of_ble_eq_true rfl) rfl ?_
  refine ja_cons ?_
  refine je_var 2 rfl (by first | exact Or.inl rfl | exact Or.inr (Or.inl rfl) | exact Or.inr (Or.inr rfl)) rfl (by intro z; cases z) ?_
  refine ja_nil ?_
  refine ⟨_, rfl, hk, ?_⟩
  refine js_cons (j1_for ?_)
  refine ji_zip B.zip_ rfl ?_
  refine je_var 0 rfl (by first | exact Or.inl rfl | exact Or.inr (Or.inl rfl) | exact Or.inr (Or.inr rfl)) rfl (by intro z; cases z) ?_
  refine je_var 1 rfl (by first | exact Or.inl rfl | exact Or.inr (Or.inl rfl) | exact Or.inr (Or.inr rfl)) rfl (by intro z; cases z) ?_
  refine ⟨_, _, _, _, _, _, rfl, rfl, rfl, rfl, ?_⟩
  rw [zipD_map]
  refine for_fold [4, 5] (rs.zip ns) _ (fun q => [.dat (rws rs), .dat (rw_ ns), .dat (.int (k : Int)), .dat (rw_ q), .no, .no]) mixStep (nts k) rfl rfl (fun i a ha => ?_) (fun ρ' e => js_forget [4, 5] e ?_)
  · have hz : ∀ p ∈ rs.zip ns, Szs n p.1 ∧ Sz m p.2 := fun p hp => ⟨sx _ (List.of_mem_zip hp).1, sy _ (List.of_mem_zip hp).2⟩
    have hs := mix_sz h0 ((rs.zip ns).take i) (nts k) 1 (fun q hq => hz q (mem_take hq)) (szs_nts 1 k (by decide))
    have hq := mix_len (k := k) ((rs.zip ns).take i) (nts k) (by unfold nts; rw [List.length_replicate]; exact Nat.le_refl _)
    have h1 := hz a (List.mem_of_getElem? ha)
    have h3 := hr a.1 (List.of_mem_zip (List.mem_of_getElem? ha)).1
    have h2 : (min i (rs.zip ns).length) * (n + m + 1) ≤ rs.length * (n + m + 1) := Nat.mul_le_mul_right _ (by rw [List.length_zip]; omega)
    rw [List.length_take] at hs
    generalize ((rs.zip ns).take i).foldl mixStep (nts k) = b at hs hq
    unfold mixStep
    refine jg_tup ⟨_, rfl, rfl, ?_⟩
    refine jgs_cons ?_
    refine jg_name 4 (by decide +kernel) rfl (by first | exact Or.inl rfl | exact Or.inr rfl) ?_
    refine jgs_cons ?_
    refine jg_name 5 (by decide +kernel) rfl (by first | exact Or.inl rfl | exact Or.inr rfl) ?_
    refine jgs_nil ?_
    refine js_cons (j1_if ?_)
    refine jt_cmp ?_
    refine je_ix ?_
    refine je_var 5 rfl (by first | exact Or.inl rfl | exact Or.inr (Or.inl rfl) | exact Or.inr (Or.inr rfl)) rfl (by intro z; cases z) ?_
    refine je_int ?_
    refine ⟨_, _, _, rfl, rfl, rfl, ?_⟩
    refine je_int ?_
    refine jo_neI ?_
    refine ⟨_, rfl, ?_⟩
    rw [num_eq0]
    refine ⟨fun hk => ?_, fun hk => ?_⟩
    · have hz : ¬ a.2 = 0 := by simpa using hk
      rw [if_neg hz]
      refine js_cons (j1_set 3 (by decide +kernel) rfl (by first | exact Or.inl rfl | exact Or.inr rfl) ?_)
      refine je_call D_row_plus (Nat.le_of_ble_eq_true rfl) rfl ?_
      refine ja_cons ?_
      refine je_var 3 rfl (by first | exact Or.inl rfl | exact Or.inr (Or.inl rfl) | exact Or.inr (Or.inr rfl)) rfl (by intro z; cases z) ?_
      refine ja_cons ?_
      refine je_call D_scaled (Nat.le_of_ble_eq_true rfl) rfl ?_
      refine ja_cons ?_
      refine je_var 4 rfl (by first | exact Or.inl rfl | exact Or.inr (Or.inl rfl) | exact Or.inr (Or.inr rfl)) rfl (by intro z; cases z) ?_
      refine ja_cons ?_
      refine je_var 5 rfl (by first | exact Or.inl rfl | exact Or.inr (Or.inl rfl) | exact Or.inr (Or.inr rfl)) rfl (by intro z; cases z) ?_
      refine ja_nil ?_
      refine ⟨_, _, rfl, ⟨_, _, h1.1, h1.2, by omega⟩, h3, ?_⟩
      refine ja_nil ?_
      refine ⟨_, _, rfl, ⟨_, _, hs, szs_sca h1.1 h1.2 h0, by omega⟩, by omega, ?_⟩
      refine js_nil ?_
      refine js_nil ?_
      rfl
    · have hz : a.2 = 0 := by simpa using hk
      rw [if_pos hz]
      refine js_nil ?_
      refine js_nil ?_
      rfl
  · refine js_cons (j1_ret ?_)
    refine je_var 3 rfl (by first | exact Or.inl rfl | exact Or.inr (Or.inl rfl) | exact Or.inr (Or.inr rfl)) rfl (by intro z; cases z) ?_
    refine ⟨_, rfl, ?_⟩
    exact p
abbrev C_is_row_by : List Sl → (PyData → Prop) → Prop := fun ss P => ∃ xs : List Rat, ss = [.dat (rw_ xs), .dat (.int (xs.length : Int))] ∧ xs.length ≤ 1000 ∧ P (.bool true)
theorem D_is_row_by (B : BC E) (A : At E "is_row_by" s_is_row_by ["value", "many"]) (D_is_ratio : Def E 3 "is_ratio" ["value"] [] C_is_ratio) : Def E 4 "is_row_by" ["value", "many"] [] C_is_row_by := by
  refine def_at A c_is_row_by (fun ss P h => by obtain ⟨xs, rfl, _⟩ := h; rfl) fun ss P h => ?_
  obtain ⟨xs, rfl, hl, p⟩ := h
  refine js_cons (j1_ret ?_)
  refine je_and ?_
  refine je_callB B.isinstance rfl rfl ?_
  refine ja_cons ?_
  refine je_var 0 rfl (by first | exact Or.inl rfl | exact Or.inr (Or.inl rfl) | exact Or.inr (Or.inr rfl)) rfl (by intro z; cases z) ?_
  refine ja_cons ?_
  refine je_ty B.tuple_ rfl rfl ?_
  refine ja_nil ?_
  refine jc_isi rfl rfl ?_
  refine ⟨_, rfl, ?_⟩
  refine ⟨fun _ => ?_, fun z => nomatch z⟩
  refine je_and ?_
  refine je_cmp ?_
  refine je_callB B.len rfl rfl ?_
  refine ja_cons ?_
  refine je_var 0 rfl (by first | exact Or.inl rfl | exact Or.inr (Or.inl rfl) | exact Or.inr (Or.inr rfl)) rfl (by intro z; cases z) ?_
  refine ja_nil ?_
  refine jc_len rfl ?_
  refine je_var 1 rfl (by first | exact Or.inl rfl | exact Or.inr (Or.inl rfl) | exact Or.inr (Or.inr rfl)) rfl (by intro z; cases z) ?_
  refine jo_eqI ?_
  rw [List.length_map, decide_eq_true rfl]
  refine ⟨_, rfl, ?_⟩
  refine ⟨fun _ => ?_, fun z => nomatch z⟩
  refine je_one ?_
  refine je_callB B.all rfl rfl ?_
  refine ja_cons ?_
  refine je_lc1 2 (by decide +kernel) (by decide +kernel) rfl rfl ?_
  refine ji_tup ?_
  refine je_var 0 rfl (by first | exact Or.inl rfl | exact Or.inr (Or.inl rfl) | exact Or.inr (Or.inr rfl)) rfl (by intro z; cases z) ?_
  refine ⟨_, rfl, lcMap xs fr (fun _ => .bool true) (by omega) (fun a _ => ?_) ?_⟩
  · refine je_call D_is_ratio (Nat.le_of_ble_eq_true rfl) rfl ?_
    refine ja_cons ?_
    refine je_var 2 rfl (by first | exact Or.inl rfl | exact Or.inr (Or.inl rfl) | exact Or.inr (Or.inr rfl)) rfl (by intro z; cases z) ?_
    refine ja_nil ?_
    exact ⟨a, rfl, rfl⟩
  · have e : xs.map (fun _ => PyData.bool true) = (xs.map fun _ => true).map PyData.bool := by rw [List.map_map]; rfl
    rw [e]
    refine ja_nil ?_
    refine jc_all ?_
    rw [all_true]
    exact ⟨_, rfl, p⟩
abbrev C_check_row : List Sl → (PyData → Prop) → Prop := fun ss P => ∃ xs : List Rat, ss = [.dat (.int (xs.length : Int)), .dat (rw_ xs)] ∧ xs.length ≤ 1000 ∧ P .none
theorem D_check_row (B : BC E) (A : At E "check_row" s_check_row ["many", "value"]) (D_is_ratio : Def E 3 "is_ratio" ["value"] [] C_is_ratio) : Def E 4 "check_row" ["many", "value"] [] C_check_row := by
  refine def_at A c_check_row (fun ss P h => by obtain ⟨xs, rfl, _⟩ := h; rfl) fun ss P h => ?_
  obtain ⟨xs, rfl, hl, p⟩ := h
  refine js_cons (j1_if ?_)
  refine jt_bool ?_
  refine jw_or ?_
  refine jt_not ?_
  refine jt_val ?_
  refine je_callB B.isinstance rfl rfl ?_
  refine ja_cons ?_
  refine je_var 1 rfl (by first | exact Or.inl rfl | exact Or.inr (Or.inl rfl) | exact Or.inr (Or.inr rfl)) rfl (by intro z; cases z) ?_
  refine ja_cons ?_
  refine je_ty B.tuple_ rfl rfl ?_
  refine ja_nil ?_
  refine jc_isi rfl rfl ?_
  refine ⟨_, rfl, ?_⟩
  refine ⟨fun _ => ?_, fun z => nomatch z⟩
  refine jw_or1 ?_
  refine jt_cmp ?_
  refine je_callB B.len rfl rfl ?_
  refine ja_cons ?_
  refine je_var 1 rfl (by first | exact Or.inl rfl | exact Or.inr (Or.inl rfl) | exact Or.inr (Or.inr rfl)) rfl (by intro z; cases z) ?_
  refine ja_nil ?_
  refine jc_len rfl ?_
  refine je_var 0 rfl (by first | exact Or.inl rfl | exact Or.inr (Or.inl rfl) | exact Or.inr (Or.inr rfl)) rfl (by intro z; cases z) ?_
  refine jo_neI ?_
  rw [List.length_map, decide_eq_true rfl]
  refine ⟨_, rfl, ?_⟩
  refine ⟨fun z => (nomatch z), fun _ => ?_⟩
  refine js_nil ?_
  refine js_cons (j1_for ?_)
  refine ji_enum B.enumerate_ rfl ?_
  refine je_var 1 rfl (by first | exact Or.inl rfl | exact Or.inr (Or.inl rfl) | exact Or.inr (Or.inr rfl)) rfl (by intro z; cases z) ?_
  refine ⟨_, _, _, rfl, rfl, ?_⟩
  rw [enumD_map]
  refine for_fold [2, 3] (idx xs) _ (fun (_ : Unit) => [.dat (.int (xs.length : Int)), .dat (rw_ xs), .no, .no]) (fun b _ => b) () rfl rfl (fun i a ha => ?_) (fun ρ' e => js_forget [2, 3] e ?_)
  · refine jg_tup ⟨_, rfl, rfl, ?_⟩
    refine jgs_cons ?_
    refine jg_name 2 (by decide +kernel) rfl (by first | exact Or.inl rfl | exact Or.inr rfl) ?_
    refine jgs_cons ?_
    refine jg_name 3 (by decide +kernel) rfl (by first | exact Or.inl rfl | exact Or.inr rfl) ?_
    refine jgs_nil ?_
    refine js_cons (j1_if ?_)
    refine jt_not ?_
    refine jt_val ?_
    refine je_call D_is_ratio (Nat.le_of_ble_eq_true rfl) rfl ?_
    refine ja_cons ?_
    refine je_var 3 rfl (by first | exact Or.inl rfl | exact Or.inr (Or.inl rfl) | exact Or.inr (Or.inr rfl)) rfl (by intro z; cases z) ?_
    refine ja_nil ?_
    refine ⟨_, rfl, ?_⟩
    refine ⟨_, rfl, ?_⟩
    refine ⟨fun z => (nomatch z), fun _ => ?_⟩
    refine js_nil ?_
    refine js_nil ?_
    rfl
  · exact js_nil p
end
end W6
end
section
set_option Elab.async false
set_option linter.all false
set_option maxRecDepth 100000
set_option maxHeartbeats 4000000
/-! The walk: the program's own descent. -/
namespace W6
open PySem PySem.Spec PyProof.Rows L2
theorem at_lt {xs : List Rat} {i : Nat} (h : i < xs.length) : xs[i]? = some (at_ xs i) := by
  unfold at_
  rw [List.getD_eq_getElem?_getD, List.getElem?_eq_getElem h]
  rfl
theorem getD_lt {α : Type} {xs : List α} {i : Nat} {d : α} (h : i < xs.length) : xs[i]? = some (xs.getD i d) := by
  rw [List.getD_eq_getElem?_getD, List.getElem?_eq_getElem h]
  rfl
theorem atI_map {α : Type} {f : α → PyData} {xs : List α} {i : Nat} {x : α} (h : xs[i]? = some x) : atI (xs.map f) (i : Int) = some (f x) := atI_nat (by rw [List.getElem?_map, h]; rfl)
theorem atI_fr {xs : List Rat} {i : Nat} (h : i < xs.length) : atI (xs.map fr) (i : Int) = some (fr (at_ xs i)) := atI_map (at_lt h)
theorem atI_end {xs : List Rat} (h : 0 < xs.length) : atI (xs.map fr) (-1) = some (fr (at_ xs (xs.length - 1))) := by
  have e : xs.map fr = (xs.map fr).dropLast ++ [fr (at_ xs (xs.length - 1))] := by
    have hne : xs.map fr ≠ [] := by
      intro z
      rw [List.map_eq_nil_iff] at z
      subst z
      exact Nat.lt_irrefl _ h
    have hl := List.dropLast_concat_getLast hne
    rw [← hl]
    congr 2
    · rw [hl]
    · rw [List.getLast_map, List.getLast_eq_getElem]
      have := at_lt (xs := xs) (i := xs.length - 1) (by omega)
      rw [List.getElem?_eq_getElem (by omega)] at this
      rw [Option.some.inj this]
  rw [e]
  exact L2.atI_last _ _
abbrev int (n : Nat) : PyData := .int (n : Int)
theorem eqv_fr (p q : Rat) : PyData.eqv (fr p) (fr q) = decide (p = q) := by
  show ((p.num == q.num) && (((p.den : Int) == (q.den : Int)) && true)) = _
  rw [Bool.and_true]
  by_cases h : p = q
  · subst h
    simp
  · rw [decide_eq_false h]
    by_cases h1 : p.num = q.num
    · have h2 : ¬ (p.den : Int) = (q.den : Int) := fun z => h (Rat.ext h1 (by omega))
      simp [h2]
    · simp [h1]
theorem eqv_frs : ∀ xs ys : List Rat, PyData.eqvAll (xs.map fr) (ys.map fr) = decide (xs = ys)
  | [], [] => rfl
  | [], _ :: _ => rfl
  | _ :: _, [] => rfl
  | x :: xs, y :: ys => by
    show (PyData.eqv (fr x) (fr y) && PyData.eqvAll (xs.map fr) (ys.map fr)) = _
    rw [eqv_fr, eqv_frs xs ys]
    by_cases h : x = y <;> by_cases g : xs = ys <;> simp [h, g]
theorem eqv_rw (xs ys : List Rat) : PyData.eqv (rw_ xs) (rw_ ys) = decide (xs = ys) := eqv_frs xs ys
theorem dep_frs : ∀ xs : List Rat, PyData.depthAll (xs.map fr) ≤ 1
  | [] => Nat.zero_le _
  | x :: xs => by
    show max 1 (PyData.depthAll (xs.map fr)) ≤ 1
    have := dep_frs xs
    omega
theorem shRow (xs : List Rat) : SeqAt.shaped (rw_ xs) = true := by
  show (PyData.canLayAll0 (xs.map fr) && decide (PyData.depthAll (xs.map fr) + 1 ≤ 64)) = true
  rw [canRows, decide_eq_true (by have := dep_frs xs; omega)]
  rfl
theorem fold_app {α β : Type} (f : α → β) : ∀ (l : List α) (b : List β), l.foldl (fun b a => b ++ [f a]) b = b ++ l.map f
  | [], b => by rw [List.map_nil, List.append_nil]; rfl
  | a :: l, b => by
    rw [List.foldl_cons, fold_app f l, List.append_assoc]
    rfl
theorem idx_len {α : Type} (l : List α) : (idx l).length = l.length := by
  unfold idx
  rw [List.length_mapIdx]
theorem idx_get {α : Type} {l : List α} {i : Nat} {p : Nat × α} (h : (idx l)[i]? = some p) : p.1 = i ∧ l[i]? = some p.2 := by
  unfold idx at h
  rw [List.getElem?_mapIdx] at h
  cases e : l[i]? with
  | none => rw [e] at h; cases h
  | some x => rw [e] at h; cases h; exact ⟨rfl, rfl⟩
theorem idx_mem {α : Type} {l : List α} {p : Nat × α} (h : p ∈ idx l) : p.1 < l.length ∧ l[p.1]? = some p.2 := by
  obtain ⟨i, hi⟩ := List.mem_iff_getElem?.mp h
  obtain ⟨e, h2⟩ := idx_get hi
  rw [e]
  exact ⟨(List.getElem?_eq_some_iff.mp h2).1, h2⟩
theorem zip_get {α β : Type} {xs : List α} {ys : List β} {i : Nat} {p : α × β} (h : (xs.zip ys)[i]? = some p) : xs[i]? = some p.1 ∧ ys[i]? = some p.2 := by
  rw [List.getElem?_zip_eq_some] at h
  exact h
theorem sz_sgn (q : Rat) : Sz 1 (sgn q) := by
  unfold sgn
  split
  · exact sz_m1
  · exact sz_one
section
variable {E : En}
abbrev C_first_board : List Sl → (PyData → Prop) → Prop := fun ss P => ∃ (cols : List (List Rat)) (right : List Rat), ss = [.dat (rws cols), .dat (rw_ right)] ∧ (∀ c ∈ cols, c.length = right.length ∧ Szs 1000 c) ∧ Szs 1000 right ∧ cols.length ≤ 100 ∧ right.length ≤ 100 ∧ P (.tuple [rws (firstB cols right), .list ((right.map sgn).map fr)])
theorem D_first_board (B : BC E) (A : At E "first_board" s_first_board ["columns", "right"]) (D_times : Def E 3 "times" ["one", "two"] [] C_times) (D_unit : Def E 2 "unit" ["many", "at"] [] C_unit) : Def E 4 "first_board" ["columns", "right"] [] C_first_board := by
  refine def_at A c_first_board (fun ss P h => by obtain ⟨cols, right, rfl, _⟩ := h; rfl) fun ss P h => ?_
  obtain ⟨cols, right, rfl, hc, hr, hl, hm, p⟩ := h
  refine js_cons (j1_set 2 (by decide +kernel) rfl (by first | exact Or.inl rfl | exact Or.inr rfl) ?_)
  refine je_callB B.len rfl rfl ?_
  refine ja_cons ?_
  refine je_var 1 rfl (by first | exact Or.inl rfl | exact Or.inr (Or.inl rfl) | exact Or.inr (Or.inr rfl)) rfl (by intro z; cases z) ?_
  refine ja_nil ?_
  refine jc_len rfl ?_
  rw [List.length_map]
  refine js_cons (j1_setLc1 3 8 (by decide +kernel) rfl rfl (by decide +kernel) rfl rfl (by intro env h; cases env; cases h; first | rfl | with_unfolding_all rfl) ?_)
  refine ji_tup ?_
  refine je_var 1 rfl (by first | exact Or.inl rfl | exact Or.inr (Or.inl rfl) | exact Or.inr (Or.inr rfl)) rfl (by intro z; cases z) ?_
  refine ⟨_, rfl, lcMap right _ (fun q => fr (sgn q)) (by omega) (fun a ha => ?_) ?_⟩
  · refine je_if ?_
    refine jt_cmp ?_
    refine je_ix ?_
    refine je_var 8 rfl (by first | exact Or.inl rfl | exact Or.inr (Or.inl rfl) | exact Or.inr (Or.inr rfl)) rfl (by intro z; cases z) ?_
    refine je_int ?_
    refine ⟨_, _, _, rfl, rfl, rfl, ?_⟩
    refine je_int ?_
    refine jo_lt ?_
    refine ⟨_, rfl, ?_⟩
    rw [num_lt0]
    refine ⟨fun hk => ?_, fun hk => ?_⟩
    · have e : sgn a = -1 := by unfold sgn; rw [if_pos (of_decide_eq_true hk)]
      rw [e]
      refine je_glob B.less rfl ?_
      rfl
    · have e : sgn a = 1 := by unfold sgn; rw [if_neg (of_decide_eq_false hk)]
      rw [e]
      refine je_glob B.one rfl ?_
      rfl
  have es : right.map (fun q => fr (sgn q)) = (right.map sgn).map fr := by rw [List.map_map]; rfl
  rw [es]
  refine js_own 4 (by decide +kernel) rfl (by first | exact Or.inl rfl | exact Or.inr rfl) (fun X g => own_nil g) ?_
  refine js_cons (j1_for ?_)
  refine ji_enum B.enumerate_ rfl ?_
  refine je_var 3 rfl (by first | exact Or.inl rfl | exact Or.inr (Or.inl rfl) | exact Or.inr (Or.inr rfl)) rfl (by intro z; cases z) ?_
  refine ⟨_, _, _, rfl, rfl, ?_⟩
  rw [enumD_map]
  refine for_fold [5, 6, 7] (idx (right.map sgn)) _ (fun q => [.dat (rws cols), .dat (rw_ right), .dat (int right.length), .dat (.list ((right.map sgn).map fr)), .own (q.map rw_), .no, .no, .no, .no, .no]) (fun b p => b ++ [(cols.map fun c => at_ c p.1 * p.2) ++ unitR right.length p.1 ++ [at_ right p.1 * p.2]]) [] rfl rfl (fun i a ha => ?_) (fun ρ' e => js_forget [5, 6, 7] e ?_)
  · rw [fold_app, List.nil_append]
    generalize hb : (List.map (fun p : Nat × Rat => (cols.map fun c => at_ c p.1 * p.2) ++ unitR right.length p.1 ++ [at_ right p.1 * p.2]) (List.take i (idx (right.map sgn)))) = b
    have hbl : b.length ≤ right.length := by
      rw [← hb, List.length_map, List.length_take, idx_len, List.length_map]
      omega
    obtain ⟨e1, e2⟩ := idx_get ha
    have hi : a.1 < right.length := by
      have := (List.getElem?_eq_some_iff.mp e2).1
      rw [List.length_map] at this
      omega
    have hs : Sz 1 a.2 := by
      rw [List.getElem?_map] at e2
      cases e : right[i]? with
      | none => rw [e] at e2; cases e2
      | some x => rw [e] at e2; have e3 : sgn x = a.2 := Option.some.inj e2; rw [← e3]; exact sz_sgn x
    refine jg_tup ⟨_, rfl, rfl, ?_⟩
    refine jgs_cons ?_
    refine jg_name 5 (by decide +kernel) rfl (by first | exact Or.inl rfl | exact Or.inr rfl) ?_
    refine jgs_cons ?_
    refine jg_name 6 (by decide +kernel) rfl (by first | exact Or.inl rfl | exact Or.inr rfl) ?_
    refine jgs_nil ?_
    refine js_cons (j1_set 7 (by decide +kernel) rfl (by first | exact Or.inl rfl | exact Or.inr rfl) ?_)
    refine je_callTy B.tuple_ rfl rfl ?_
    refine ja_cons ?_
    refine je_lc1 9 (by decide +kernel) (by decide +kernel) rfl rfl ?_
    refine ji_list ?_
    refine je_var 0 rfl (by first | exact Or.inl rfl | exact Or.inr (Or.inl rfl) | exact Or.inr (Or.inr rfl)) rfl (by intro z; cases z) ?_
    refine ⟨_, rfl, lcMap cols _ (fun c => fr (at_ c a.1 * a.2)) (by omega) (fun c hcc => ?_) ?_⟩
    · refine je_call D_times (Nat.le_of_ble_eq_true rfl) rfl ?_
      refine ja_cons ?_
      refine je_ix ?_
      refine je_var 9 rfl (by first | exact Or.inl rfl | exact Or.inr (Or.inl rfl) | exact Or.inr (Or.inr rfl)) rfl (by intro z; cases z) ?_
      refine je_var 5 rfl (by first | exact Or.inl rfl | exact Or.inr (Or.inl rfl) | exact Or.inr (Or.inr rfl)) rfl (by intro z; cases z) ?_
      refine ⟨_, _, _, rfl, rfl, atI_fr (by rw [(hc c hcc).1]; exact hi), ?_⟩
      refine ja_cons ?_
      refine je_var 6 rfl (by first | exact Or.inl rfl | exact Or.inr (Or.inl rfl) | exact Or.inr (Or.inr rfl)) rfl (by intro z; cases z) ?_
      refine ja_nil ?_
      exact ⟨_, _, rfl, ⟨_, _, (hc c hcc).2.get (at_lt (by rw [(hc c hcc).1]; exact hi)), hs, by omega⟩, rfl⟩
    · have er : cols.map (fun c => fr (at_ c a.1 * a.2)) = (cols.map fun c => at_ c a.1 * a.2).map fr := by rw [List.map_map]; rfl
      rw [er]
      refine ja_nil ?_
      refine jc_tuple rfl ?_
      refine js_cons (j1_app 4 rfl (by first | exact Or.inl rfl | exact Or.inr (Or.inl rfl) | exact Or.inr (Or.inr rfl)) rfl rfl ?_ ?_)
      · rw [List.length_map]; exact Nat.lt_of_le_of_lt (Nat.le_trans hbl hm) (by decide)
      refine je_bin ?_
      refine je_bin ?_
      refine je_var 7 rfl (by first | exact Or.inl rfl | exact Or.inr (Or.inl rfl) | exact Or.inr (Or.inr rfl)) rfl (by intro z; cases z) ?_
      refine je_call D_unit (Nat.le_of_ble_eq_true rfl) rfl ?_
      refine ja_cons ?_
      refine je_var 2 rfl (by first | exact Or.inl rfl | exact Or.inr (Or.inl rfl) | exact Or.inr (Or.inr rfl)) rfl (by intro z; cases z) ?_
      refine ja_cons ?_
      refine je_var 5 rfl (by first | exact Or.inl rfl | exact Or.inr (Or.inl rfl) | exact Or.inr (Or.inr rfl)) rfl (by intro z; cases z) ?_
      refine ja_nil ?_
      refine ⟨right.length, a.1, rfl, hi, by omega, ?_⟩
      refine jo_catT ?_ ?_
      · unfold unitR nts; simp only [List.length_append, List.length_map, List.length_replicate, List.length_cons, List.length_nil]; omega
      refine je_tup ?_
      refine ja_cons ?_
      refine je_call D_times (Nat.le_of_ble_eq_true rfl) rfl ?_
      refine ja_cons ?_
      refine je_ix ?_
      refine je_var 1 rfl (by first | exact Or.inl rfl | exact Or.inr (Or.inl rfl) | exact Or.inr (Or.inr rfl)) rfl (by intro z; cases z) ?_
      refine je_var 5 rfl (by first | exact Or.inl rfl | exact Or.inr (Or.inl rfl) | exact Or.inr (Or.inr rfl)) rfl (by intro z; cases z) ?_
      refine ⟨_, _, _, rfl, rfl, atI_fr hi, ?_⟩
      refine ja_cons ?_
      refine je_var 6 rfl (by first | exact Or.inl rfl | exact Or.inr (Or.inl rfl) | exact Or.inr (Or.inr rfl)) rfl (by intro z; cases z) ?_
      refine ja_nil ?_
      refine ⟨_, _, rfl, ⟨_, _, hr.get (at_lt hi), hs, by omega⟩, ?_⟩
      refine ja_nil ?_
      refine ⟨_, rfl, Nat.le_of_ble_eq_true rfl, ?_⟩
      refine jo_catT ?_ ?_
      · unfold unitR nts; simp only [List.length_append, List.length_map, List.length_replicate, List.length_cons, List.length_nil]; omega
      refine ⟨_, rfl, ?_⟩
      refine js_nil ?_
      have er2 : rw_ ((cols.map fun c => at_ c a.1 * a.2) ++ unitR right.length a.1 ++ [at_ right a.1 * a.2]) = .tuple ((cols.map fun c => at_ c a.1 * a.2).map fr ++ (unitR right.length a.1).map fr ++ [fr (at_ right a.1 * a.2)]) := by
        show PyData.tuple (List.map fr _) = _
        rw [List.map_append, List.map_append]
        rfl
      rw [List.map_append, List.map_cons, er2]
      rfl
  · rw [fold_app, List.nil_append]
    refine js_freeze ?_
    refine js_cons (j1_ret ?_)
    refine je_tup ?_
    refine ja_cons ?_
    refine je_var 4 rfl (by first | exact Or.inl rfl | exact Or.inr (Or.inl rfl) | exact Or.inr (Or.inr rfl)) rfl (by intro z; cases z) ?_
    refine ja_cons ?_
    refine je_var 3 rfl (by first | exact Or.inl rfl | exact Or.inr (Or.inl rfl) | exact Or.inr (Or.inr rfl)) rfl (by intro z; cases z) ?_
    refine ja_nil ?_
    refine ⟨_, rfl, Nat.le_of_ble_eq_true rfl, ?_⟩
    exact ⟨_, rfl, p⟩
end
end W6
end
section
set_option Elab.async false
set_option linter.all false
set_option maxRecDepth 100000
set_option maxHeartbeats 4000000
/-! The walk: the program's own descent, its steps. -/
namespace W6
open PySem PySem.Spec PyProof.Rows L2
abbrev ixs (b : List Nat) : PyData := .list (b.map int)
theorem szs_at {n : Nat} {xs : List Rat} (h : Szs n xs) (h0 : 0 < n) (i : Nat) : Sz n (at_ xs i) := by
  by_cases hi : i < xs.length
  · exact h.get (at_lt hi)
  · unfold at_
    rw [List.getD_eq_getElem?_getD, List.getElem?_eq_none (by omega)]
    exact sz_zero.mono h0
theorem mem_zipWith {α β γ : Type} {f : α → β → γ} {xs : List α} {ys : List β} {z : γ} (h : z ∈ List.zipWith f xs ys) : ∃ x ∈ xs, ∃ y ∈ ys, z = f x y := by
  obtain ⟨i, hi⟩ := List.mem_iff_getElem?.mp h
  rw [List.getElem?_zipWith] at hi
  split at hi
  · cases hi
    rename_i a b ea eb
    exact ⟨a, List.mem_of_getElem? ea, b, List.mem_of_getElem? eb, rfl⟩
  · cases hi
theorem gap_sz {c b : Nat} {costs : List Rat} (h0 : 0 < c) (hc : Szs c costs) : ∀ (l : List (List Rat × Nat)) (f : List Rat) (k : Nat), (∀ p ∈ l, Szs b p.1) → Szs k f → Szs (k + l.length * (c + b + 1)) (l.foldl (gapStep costs) f)
  | [], f, k, _, hf => by
    show Szs (k + 0 * _) f
    rw [Nat.zero_mul]
    exact hf
  | p :: l, f, k, h, hf => by
    rw [List.foldl_cons]
    refine fun x hx => (gap_sz h0 hc l _ (k + (c + b) + 1) (fun q hq => h q (List.mem_cons_of_mem _ hq)) ?_ x hx).mono ?_
    · unfold gapStep
      split
      · exact fun x hx => (hf x hx).mono (by omega)
      · intro x hx
        obtain ⟨g, hg, n, hn, rfl⟩ := mem_zipWith hx
        exact sz_sub (hf g hg) (sz_mul (szs_at hc h0 _) (h p List.mem_cons_self n hn) (by omega))
    · rw [List.length_cons, Nat.add_mul]
      omega
theorem gap_len {costs : List Rat} : ∀ (l : List (List Rat × Nat)) (f : List Rat), (l.foldl (gapStep costs) f).length ≤ f.length
  | [], f => Nat.le_refl _
  | p :: l, f => by
    rw [List.foldl_cons]
    refine Nat.le_trans (gap_len l _) ?_
    unfold gapStep
    split
    · exact Nat.le_refl _
    · rw [List.length_zipWith]; omega
section
variable {E : En}
abbrev C_gaps : List Sl → (PyData → Prop) → Prop := fun ss P => ∃ (board : List (List Rat)) (basis : List Nat) (costs : List Rat), ss = [.dat (rws board), .dat (ixs basis), .dat (rw_ costs)] ∧ (∃ c b, 0 < c ∧ c ≤ 1000 ∧ Szs c costs ∧ (∀ r ∈ board, Szs b r) ∧ (board.length + 1) * (c + b + 1) ≤ 6000) ∧ (∀ i ∈ basis, i < costs.length) ∧ costs.length ≤ 1000 ∧ P (.list ((gapsR board basis costs).map fr))
theorem D_gaps (B : BC E) (A : At E "gaps" s_gaps ["board", "basis", "costs"]) (D_minus : Def E 3 "minus" ["one", "two"] [] C_minus) (D_times : Def E 3 "times" ["one", "two"] [] C_times) : Def E 4 "gaps" ["board", "basis", "costs"] [] C_gaps := by
  refine def_at A c_gaps (fun ss P h => by obtain ⟨board, basis, costs, rfl, _⟩ := h; rfl) fun ss P h => ?_
  obtain ⟨board, basis, costs, rfl, ⟨c,b,h0,hc1,hc,hb,hcb⟩, hbs, hl, p⟩ := h
  have hx := Nat.add_mul board.length 1 (c + b + 1)
  refine js_cons (j1_set 3 (by decide +kernel) rfl (by first | exact Or.inl rfl | exact Or.inr rfl) ?_)
  refine je_callTy B.list_ rfl rfl ?_
  refine ja_cons ?_
  refine je_var 2 rfl (by first | exact Or.inl rfl | exact Or.inr (Or.inl rfl) | exact Or.inr (Or.inr rfl)) rfl (by intro z; cases z) ?_
  refine ja_nil ?_
  refine jc_list rfl ?_
  refine js_cons (j1_for ?_)
  refine ji_zip B.zip_ rfl ?_
  refine je_var 0 rfl (by first | exact Or.inl rfl | exact Or.inr (Or.inl rfl) | exact Or.inr (Or.inr rfl)) rfl (by intro z; cases z) ?_
  refine je_var 1 rfl (by first | exact Or.inl rfl | exact Or.inr (Or.inl rfl) | exact Or.inr (Or.inr rfl)) rfl (by intro z; cases z) ?_
  refine ⟨_, _, _, _, _, _, rfl, rfl, rfl, rfl, ?_⟩
  rw [zipD_map]
  refine for_fold [4, 5] (board.zip basis) _ (fun q => [.dat (rws board), .dat (ixs basis), .dat (rw_ costs), .dat (.list (q.map fr)), .no, .no, .no, .no]) (gapStep costs) costs rfl rfl (fun i a ha => ?_) (fun ρ' e => js_forget [4, 5] e ?_)
  · have hs := gap_sz h0 hc ((board.zip basis).take i) costs c (fun q hq => hb _ (List.of_mem_zip (mem_take hq)).1) hc
    have hn := gap_len (costs := costs) ((board.zip basis).take i) costs
    obtain ⟨e1, e2⟩ := zip_get ha
    have hi := hbs _ (List.mem_of_getElem? e2)
    have hr := hb _ (List.mem_of_getElem? e1)
    have h2 : (min i (board.zip basis).length) * (c + b + 1) ≤ board.length * (c + b + 1) := Nat.mul_le_mul_right _ (by rw [List.length_zip]; omega)
    rw [List.length_take] at hs
    generalize ((board.zip basis).take i).foldl (gapStep costs) costs = f at hs hn
    unfold gapStep
    refine jg_tup ⟨_, rfl, rfl, ?_⟩
    refine jgs_cons ?_
    refine jg_name 4 (by decide +kernel) rfl (by first | exact Or.inl rfl | exact Or.inr rfl) ?_
    refine jgs_cons ?_
    refine jg_name 5 (by decide +kernel) rfl (by first | exact Or.inl rfl | exact Or.inr rfl) ?_
    refine jgs_nil ?_
    refine js_cons (j1_if ?_)
    refine jt_cmp ?_
    refine je_ix ?_
    refine je_ix ?_
    refine je_var 2 rfl (by first | exact Or.inl rfl | exact Or.inr (Or.inl rfl) | exact Or.inr (Or.inr rfl)) rfl (by intro z; cases z) ?_
    refine je_var 5 rfl (by first | exact Or.inl rfl | exact Or.inr (Or.inl rfl) | exact Or.inr (Or.inr rfl)) rfl (by intro z; cases z) ?_
    refine ⟨_, _, _, rfl, rfl, atI_fr hi, ?_⟩
    refine je_int ?_
    refine ⟨_, _, _, rfl, rfl, rfl, ?_⟩
    refine je_int ?_
    refine jo_neI ?_
    refine ⟨_, rfl, ?_⟩
    rw [num_eq0]
    refine ⟨fun hk => ?_, fun hk => ?_⟩
    · have hz : ¬ at_ costs a.2 = 0 := by simpa using hk
      rw [if_neg hz]
      refine js_cons (j1_setLc2 3 6 7 (by decide +kernel) rfl rfl (by decide +kernel) rfl rfl rfl rfl (by intro env h; cases env; cases h; first | rfl | with_unfolding_all rfl) ?_)
      refine ji_zip B.zip_ rfl ?_
      refine je_var 3 rfl (by first | exact Or.inl rfl | exact Or.inr (Or.inl rfl) | exact Or.inr (Or.inr rfl)) rfl (by intro z; cases z) ?_
      refine je_var 4 rfl (by first | exact Or.inl rfl | exact Or.inr (Or.inl rfl) | exact Or.inr (Or.inr rfl)) rfl (by intro z; cases z) ?_
      refine ⟨_, _, _, _, _, _, rfl, rfl, rfl, rfl, ?_⟩
      rw [zipD_map]
      refine lc2Map (f.zip a.1) _ _ (fun p => fr (p.1 - at_ costs a.2 * p.2)) (by rw [List.length_zip]; omega) (fun p hp => ?_) ?_
      · refine je_call D_minus (Nat.le_of_ble_eq_true rfl) rfl ?_
        refine ja_cons ?_
        refine je_var 6 rfl (by first | exact Or.inl rfl | exact Or.inr (Or.inl rfl) | exact Or.inr (Or.inr rfl)) rfl (by intro z; cases z) ?_
        refine ja_cons ?_
        refine je_call D_times (Nat.le_of_ble_eq_true rfl) rfl ?_
        refine ja_cons ?_
        refine je_ix ?_
        refine je_var 2 rfl (by first | exact Or.inl rfl | exact Or.inr (Or.inl rfl) | exact Or.inr (Or.inr rfl)) rfl (by intro z; cases z) ?_
        refine je_var 5 rfl (by first | exact Or.inl rfl | exact Or.inr (Or.inl rfl) | exact Or.inr (Or.inr rfl)) rfl (by intro z; cases z) ?_
        refine ⟨_, _, _, rfl, rfl, atI_fr hi, ?_⟩
        refine ja_cons ?_
        refine je_var 7 rfl (by first | exact Or.inl rfl | exact Or.inr (Or.inl rfl) | exact Or.inr (Or.inr rfl)) rfl (by intro z; cases z) ?_
        refine ja_nil ?_
        refine ⟨_, _, rfl, ⟨_, _, szs_at hc h0 _, hr _ (List.of_mem_zip hp).2, by omega⟩, ?_⟩
        refine ja_nil ?_
        exact ⟨_, _, rfl, ⟨_, _, hs _ (List.of_mem_zip hp).1, sz_mul (szs_at hc h0 _) (hr _ (List.of_mem_zip hp).2) (by omega), by omega⟩, rfl⟩
      · have e : (f.zip a.1).map (fun p => fr (p.1 - at_ costs a.2 * p.2)) = (List.zipWith (fun g n => g - at_ costs a.2 * n) f a.1).map fr := by
          rw [List.zip_eq_zipWith, List.map_zipWith, List.map_zipWith]
        rw [e]
        refine js_nil ?_
        refine js_nil ?_
        rfl
    · have hz : at_ costs a.2 = 0 := by simpa using hk
      rw [if_pos hz]
      refine js_nil ?_
      refine js_nil ?_
      rfl
  · refine js_cons (j1_ret ?_)
    refine je_var 3 rfl (by first | exact Or.inl rfl | exact Or.inr (Or.inl rfl) | exact Or.inr (Or.inr rfl)) rfl (by intro z; cases z) ?_
    refine ⟨_, rfl, ?_⟩
    exact p
def foundD : Option (Rat × Nat) → PyData
  | none => .list []
  | some (k, r) => .list [fr k, int r]
def leavD : Option (Rat × Nat) → PyData
  | none => .list []
  | some (_, r) => .list [int r]
theorem leav_ok {m : Nat} {basis : List Nat} {col b : Nat} (hb : 0 < b) : ∀ (l : List (Nat × List Rat)) (q : Option (Rat × Nat)), (∀ p ∈ l, p.1 < m ∧ Szs b p.2) → (∀ k r, q = some (k, r) → r < m ∧ Sz (b + b) k) → ∀ k r, l.foldl (leavStep basis col) q = some (k, r) → r < m ∧ Sz (b + b) k
  | [], q, _, hq => hq
  | p :: l, q, h, hq => by
    rw [List.foldl_cons]
    refine leav_ok hb l _ (fun p hp => h p (List.mem_cons_of_mem _ hp)) ?_
    have hp := h p List.mem_cons_self
    have hk : Sz (b + b) (at_ p.2 (p.2.length - 1) / at_ p.2 col) := sz_div (szs_at hp.2 hb _) (szs_at hp.2 hb _) (by omega)
    intro k r e
    unfold leavStep at e
    split at e
    · dsimp only at e
      cases q with
      | none => cases e; exact ⟨hp.1, hk⟩
      | some kr =>
        obtain ⟨k', r'⟩ := kr
        dsimp only at e
        split at e
        · cases e; exact ⟨hp.1, hk⟩
        · cases e; exact hq _ _ rfl
    · exact hq k r e
abbrev C_leaving : List Sl → (PyData → Prop) → Prop := fun ss P => ∃ (board : List (List Rat)) (basis : List Nat) (col : Nat), ss = [.dat (rws board), .dat (ixs basis), .dat (int col)] ∧ (∃ b, 0 < b ∧ b ≤ 1500 ∧ ∀ r ∈ board, col < r.length ∧ Szs b r) ∧ basis.length = board.length ∧ P (leavD (leavR board basis col))
theorem D_leaving (B : BC E) (A : At E "leaving" s_leaving ["board", "basis", "column"]) (D_over : Def E 3 "over" ["one", "two"] [] C_over) (D_is_below : Def E 1 "is_below" ["one", "two"] [] C_is_below) : Def E 4 "leaving" ["board", "basis", "column"] [] C_leaving := by
  refine def_at A c_leaving (fun ss P h => by obtain ⟨board, basis, col, rfl, _⟩ := h; rfl) fun ss P h => ?_
  obtain ⟨board, basis, col, rfl, ⟨b,hb0,hb1,hb⟩, hl, p⟩ := h
  refine js_cons (j1_set 3 (by decide +kernel) rfl (by first | exact Or.inl rfl | exact Or.inr rfl) ?_)
  refine je_lst ?_
  refine ja_nil ?_
  refine ⟨_, rfl, Nat.le_of_ble_eq_true rfl, ?_⟩
  refine js_cons (j1_for ?_)
  refine ji_enum B.enumerate_ rfl ?_
  refine je_var 0 rfl (by first | exact Or.inl rfl | exact Or.inr (Or.inl rfl) | exact Or.inr (Or.inr rfl)) rfl (by intro z; cases z) ?_
  refine ⟨_, _, _, rfl, rfl, ?_⟩
  rw [enumD_map]
  refine for_fold [4, 5, 6] (idx board) _ (fun q => [.dat (rws board), .dat (ixs basis), .dat (int col), .dat (foundD q), .no, .no, .no]) (leavStep basis col) none rfl rfl (fun i a ha => ?_) (fun ρ' e => js_forget [4, 5, 6] e ?_)
  · have hq := leav_ok (m := board.length) (basis := basis) (col := col) hb0 ((idx board).take i) none (fun p hp => ⟨(idx_mem (mem_take hp)).1, (hb _ (List.mem_of_getElem? (idx_mem (mem_take hp)).2)).2⟩) (fun _ _ z => nomatch z)
    obtain ⟨e1, e2⟩ := idx_mem (List.mem_of_getElem? ha)
    obtain ⟨hcol, hr⟩ := hb _ (List.mem_of_getElem? e2)
    generalize ((idx board).take i).foldl (leavStep basis col) none = q at hq
    have hk : Sz (b + b) (at_ a.2 (a.2.length - 1) / at_ a.2 col) := sz_div (szs_at hr hb0 _) (szs_at hr hb0 _) (by omega)
    unfold leavStep
    refine jg_tup ⟨_, rfl, rfl, ?_⟩
    refine jgs_cons ?_
    refine jg_name 4 (by decide +kernel) rfl (by first | exact Or.inl rfl | exact Or.inr rfl) ?_
    refine jgs_cons ?_
    refine jg_name 5 (by decide +kernel) rfl (by first | exact Or.inl rfl | exact Or.inr rfl) ?_
    refine jgs_nil ?_
    refine js_cons (j1_if ?_)
    refine jt_cmp ?_
    refine je_ix ?_
    refine je_ix ?_
    refine je_var 5 rfl (by first | exact Or.inl rfl | exact Or.inr (Or.inl rfl) | exact Or.inr (Or.inr rfl)) rfl (by intro z; cases z) ?_
    refine je_var 2 rfl (by first | exact Or.inl rfl | exact Or.inr (Or.inl rfl) | exact Or.inr (Or.inr rfl)) rfl (by intro z; cases z) ?_
    refine ⟨_, _, _, rfl, rfl, atI_fr hcol, ?_⟩
    refine je_int ?_
    refine ⟨_, _, _, rfl, rfl, rfl, ?_⟩
    refine je_int ?_
    refine jo_gt ?_
    refine ⟨_, rfl, ?_⟩
    rw [num_gt0]
    refine ⟨fun hk' => ?_, fun hk' => ?_⟩
    · have hz : 0 < at_ a.2 col := of_decide_eq_true hk'
      rw [if_pos hz]
      refine js_cons (j1_set 6 (by decide +kernel) rfl (by first | exact Or.inl rfl | exact Or.inr rfl) ?_)
      refine je_call D_over (Nat.le_of_ble_eq_true rfl) rfl ?_
      refine ja_cons ?_
      refine je_ix ?_
      refine je_var 5 rfl (by first | exact Or.inl rfl | exact Or.inr (Or.inl rfl) | exact Or.inr (Or.inr rfl)) rfl (by intro z; cases z) ?_
      refine je_neg ?_
      refine je_int ?_
      refine ⟨_, rfl, ?_⟩
      refine ⟨_, _, _, rfl, rfl, atI_end (by omega), ?_⟩
      refine ja_cons ?_
      refine je_ix ?_
      refine je_var 5 rfl (by first | exact Or.inl rfl | exact Or.inr (Or.inl rfl) | exact Or.inr (Or.inr rfl)) rfl (by intro z; cases z) ?_
      refine je_var 2 rfl (by first | exact Or.inl rfl | exact Or.inr (Or.inl rfl) | exact Or.inr (Or.inr rfl)) rfl (by intro z; cases z) ?_
      refine ⟨_, _, _, rfl, rfl, atI_fr hcol, ?_⟩
      refine ja_nil ?_
      refine ⟨_, _, rfl, by intro z; rw [z] at hz; exact absurd hz (by decide), ⟨_, _, szs_at hr hb0 _, szs_at hr hb0 _, by omega⟩, ?_⟩
      dsimp only
      generalize at_ a.2 (a.2.length - 1) / at_ a.2 col = key at hk
      cases q with
      | none =>
        refine js_cons (j1_if ?_)
        refine jt_bool ?_
        refine jw_or ?_
        refine jt_cmp ?_
        refine je_var 3 rfl (by first | exact Or.inl rfl | exact Or.inr (Or.inl rfl) | exact Or.inr (Or.inr rfl)) rfl (by intro z; cases z) ?_
        refine je_lst ?_
        refine ja_nil ?_
        refine ⟨_, rfl, Nat.le_of_ble_eq_true rfl, ?_⟩
        refine jo_eqD rfl rfl ?_ ?_ ?_
        rfl
        rfl
        refine ⟨_, rfl, ?_⟩
        refine ⟨fun z => (nomatch z), fun _ => ⟨fun _ => ?_, fun z => (nomatch z)⟩⟩
        refine js_cons (j1_set 3 (by decide +kernel) rfl (by first | exact Or.inl rfl | exact Or.inr rfl) ?_)
        refine je_lst ?_
        refine ja_cons ?_
        refine je_var 6 rfl (by first | exact Or.inl rfl | exact Or.inr (Or.inl rfl) | exact Or.inr (Or.inr rfl)) rfl (by intro z; cases z) ?_
        refine ja_cons ?_
        refine je_var 4 rfl (by first | exact Or.inl rfl | exact Or.inr (Or.inl rfl) | exact Or.inr (Or.inr rfl)) rfl (by intro z; cases z) ?_
        refine ja_nil ?_
        refine ⟨_, rfl, Nat.le_of_ble_eq_true rfl, ?_⟩
        refine js_nil ?_
        refine js_nil ?_
        refine js_nil ?_
        rfl
      | some kr =>
        obtain ⟨k, r⟩ := kr
        obtain ⟨hr1, hk1⟩ := hq k r rfl
        dsimp only
        have yes : (key < k ∨ (key = k ∧ basis.getD a.1 0 < basis.getD r 0)) → (if key < k ∨ (key = k ∧ basis.getD a.1 0 < basis.getD r 0) then some (key, a.1) else some (k, r)) = some (key, a.1) := fun h => if_pos h
        have no : ¬ (key < k ∨ (key = k ∧ basis.getD a.1 0 < basis.getD r 0)) → (if key < k ∨ (key = k ∧ basis.getD a.1 0 < basis.getD r 0) then some (key, a.1) else some (k, r)) = some (k, r) := fun h => if_neg h
        refine js_cons (j1_if ?_)
        refine jt_bool ?_
        refine jw_or ?_
        refine jt_cmp ?_
        refine je_var 3 rfl (by first | exact Or.inl rfl | exact Or.inr (Or.inl rfl) | exact Or.inr (Or.inr rfl)) rfl (by intro z; cases z) ?_
        refine je_lst ?_
        refine ja_nil ?_
        refine ⟨_, rfl, Nat.le_of_ble_eq_true rfl, ?_⟩
        refine jo_eqD rfl rfl ?_ ?_ ?_
        rfl
        rfl
        refine ⟨_, rfl, ?_⟩
        refine ⟨fun _ => ?_, fun z => nomatch z⟩
        refine jw_or ?_
        refine jt_val ?_
        refine je_call D_is_below (Nat.le_of_ble_eq_true rfl) rfl ?_
        refine ja_cons ?_
        refine je_var 6 rfl (by first | exact Or.inl rfl | exact Or.inr (Or.inl rfl) | exact Or.inr (Or.inr rfl)) rfl (by intro z; cases z) ?_
        refine ja_cons ?_
        refine je_ix ?_
        refine je_var 3 rfl (by first | exact Or.inl rfl | exact Or.inr (Or.inl rfl) | exact Or.inr (Or.inr rfl)) rfl (by intro z; cases z) ?_
        refine je_int ?_
        refine ⟨_, _, _, rfl, rfl, rfl, ?_⟩
        refine ja_nil ?_
        refine ⟨_, _, rfl, ⟨_, _, hk, hk1, by omega⟩, _, rfl, ?_⟩
        refine ⟨fun hk => ?_, fun hk => ?_⟩
        · refine jw_or1 ?_
          refine jt_bool ?_
          refine jw_and ?_
          refine jt_cmp ?_
          refine je_var 6 rfl (by first | exact Or.inl rfl | exact Or.inr (Or.inl rfl) | exact Or.inr (Or.inr rfl)) rfl (by intro z; cases z) ?_
          refine je_ix ?_
          refine je_var 3 rfl (by first | exact Or.inl rfl | exact Or.inr (Or.inl rfl) | exact Or.inr (Or.inr rfl)) rfl (by intro z; cases z) ?_
          refine je_int ?_
          refine ⟨_, _, _, rfl, rfl, rfl, ?_⟩
          refine jo_eqD rfl rfl ?_ ?_ ?_
          rfl
          rfl
          refine ⟨_, rfl, ?_⟩
          rw [eqv_fr]
          have n1 : ¬ key < k := of_decide_eq_false hk
          refine ⟨fun h2 => ?_, fun h2 => ?_⟩
          · refine jw_and1 ?_
            refine jt_cmp ?_
            refine je_ix ?_
            refine je_var 1 rfl (by first | exact Or.inl rfl | exact Or.inr (Or.inl rfl) | exact Or.inr (Or.inr rfl)) rfl (by intro z; cases z) ?_
            refine je_var 4 rfl (by first | exact Or.inl rfl | exact Or.inr (Or.inl rfl) | exact Or.inr (Or.inr rfl)) rfl (by intro z; cases z) ?_
            refine ⟨_, _, _, rfl, rfl, atI_map (getD_lt (d := 0) (by rw [hl]; exact e1)), ?_⟩
            refine je_ix ?_
            refine je_var 1 rfl (by first | exact Or.inl rfl | exact Or.inr (Or.inl rfl) | exact Or.inr (Or.inr rfl)) rfl (by intro z; cases z) ?_
            refine je_ix ?_
            refine je_var 3 rfl (by first | exact Or.inl rfl | exact Or.inr (Or.inl rfl) | exact Or.inr (Or.inr rfl)) rfl (by intro z; cases z) ?_
            refine je_int ?_
            refine ⟨_, _, _, rfl, rfl, rfl, ?_⟩
            refine ⟨_, _, _, rfl, rfl, atI_map (getD_lt (d := 0) (by rw [hl]; exact hr1)), ?_⟩
            refine jo_lt ?_
            refine ⟨_, rfl, ?_⟩
            have e2 : key = k := of_decide_eq_true h2
            refine ⟨fun h3 => ?_, fun h3 => ?_⟩
            · rw [yes (.inr ⟨e2, by have := of_decide_eq_true h3; omega⟩)]
              refine js_cons (j1_set 3 (by decide +kernel) rfl (by first | exact Or.inl rfl | exact Or.inr rfl) ?_)
              refine je_lst ?_
              refine ja_cons ?_
              refine je_var 6 rfl (by first | exact Or.inl rfl | exact Or.inr (Or.inl rfl) | exact Or.inr (Or.inr rfl)) rfl (by intro z; cases z) ?_
              refine ja_cons ?_
              refine je_var 4 rfl (by first | exact Or.inl rfl | exact Or.inr (Or.inl rfl) | exact Or.inr (Or.inr rfl)) rfl (by intro z; cases z) ?_
              refine ja_nil ?_
              refine ⟨_, rfl, Nat.le_of_ble_eq_true rfl, ?_⟩
              refine js_nil ?_
              refine js_nil ?_
              refine js_nil ?_
              rfl
            · rw [no (fun z => z.elim n1 fun z => by have := of_decide_eq_false h3; omega)]
              refine js_nil ?_
              refine js_nil ?_
              refine js_nil ?_
              rfl
          · rw [no (fun z => z.elim n1 fun z => of_decide_eq_false h2 z.1)]
            refine ⟨fun z => (nomatch z), fun _ => ?_⟩
            refine js_nil ?_
            refine js_nil ?_
            refine js_nil ?_
            rfl
        · rw [yes (.inl (of_decide_eq_true hk))]
          refine ⟨fun _ => ?_, fun z => (nomatch z)⟩
          refine js_cons (j1_set 3 (by decide +kernel) rfl (by first | exact Or.inl rfl | exact Or.inr rfl) ?_)
          refine je_lst ?_
          refine ja_cons ?_
          refine je_var 6 rfl (by first | exact Or.inl rfl | exact Or.inr (Or.inl rfl) | exact Or.inr (Or.inr rfl)) rfl (by intro z; cases z) ?_
          refine ja_cons ?_
          refine je_var 4 rfl (by first | exact Or.inl rfl | exact Or.inr (Or.inl rfl) | exact Or.inr (Or.inr rfl)) rfl (by intro z; cases z) ?_
          refine ja_nil ?_
          refine ⟨_, rfl, Nat.le_of_ble_eq_true rfl, ?_⟩
          refine js_nil ?_
          refine js_nil ?_
          refine js_nil ?_
          rfl
    · have hz : ¬ 0 < at_ a.2 col := of_decide_eq_false hk'
      rw [if_neg hz]
      refine js_nil ?_
      refine js_nil ?_
      rfl
  · refine js_cons (j1_ret ?_)
    refine je_slLo ?_
    refine je_var 3 rfl (by first | exact Or.inl rfl | exact Or.inr (Or.inl rfl) | exact Or.inr (Or.inr rfl)) rfl (by intro z; cases z) ?_
    refine je_int ?_
    have e : leavR board basis col = (idx board).foldl (leavStep basis col) none := rfl
    rw [← e]
    cases h : leavR board basis col with
    | none =>
      rw [h] at p
      exact ⟨_, _, rfl, rfl, _, rfl, p⟩
    | some kr =>
      rw [h] at p
      exact ⟨_, _, rfl, rfl, _, rfl, p⟩
end
end W6
end
section
set_option Elab.async false
set_option linter.all false
set_option maxRecDepth 100000
set_option maxHeartbeats 4000000
/-! The walk: the program's own descent, the turn of a board. -/
namespace W6
open PySem PySem.Spec PyProof.Rows L2
theorem take_len {α : Type} (l : List α) (i : Nat) : (l.take i).length ≤ l.length := by rw [List.length_take]; omega
def turnRow (board : List (List Rat)) (r col : Nat) (p : Nat × List Rat) : List Rat :=
  if p.1 = r then scaR (board.getD r []) (1 / at_ (board.getD r []) col) else if at_ p.2 col = 0 then p.2 else List.zipWith (fun a b => a - at_ p.2 col * b) p.2 (scaR (board.getD r []) (1 / at_ (board.getD r []) col))
theorem turnR_eq (board : List (List Rat)) (r col : Nat) : turnR board r col = (idx board).map (turnRow board r col) := rfl
section
variable {E : En}
abbrev C_turned_about : List Sl → (PyData → Prop) → Prop := fun ss P => ∃ (board : List (List Rat)) (r col : Nat), ss = [.dat (rws board), .dat (int r), .dat (int col)] ∧ r < board.length ∧ board.length ≤ 100 ∧ (∃ b w, b ≤ 1000 ∧ 0 < b ∧ w ≤ 1000 ∧ col < w ∧ ∀ row ∈ board, row.length = w ∧ Szs b row) ∧ at_ (board.getD r []) col ≠ 0 ∧ P (rws (turnR board r col))
theorem D_turned_about (B : BC E) (A : At E "turned_about" s_turned_about ["board", "at", "column"]) (D_minus : Def E 3 "minus" ["one", "two"] [] C_minus) (D_times : Def E 3 "times" ["one", "two"] [] C_times) (D_over : Def E 3 "over" ["one", "two"] [] C_over) (D_scaled : Def E 4 "scaled" ["row", "number"] [] C_scaled) : Def E 5 "turned_about" ["board", "at", "column"] [] C_turned_about := by
  refine def_at A c_turned_about (fun ss P h => by obtain ⟨board, r, col, rfl, _⟩ := h; rfl) fun ss P h => ?_
  obtain ⟨board, r, col, rfl, hr, hm, ⟨b,w,hb,hb0,hw,hcol,hrow⟩, hne, p⟩ := h
  have hR := hrow _ (List.mem_of_getElem? (getD_lt (d := []) hr))
  have sl : Szs (b + (1 + b)) (scaR (board.getD r []) (1 / at_ (board.getD r []) col)) := szs_sca hR.2 (sz_div sz_one (szs_at hR.2 hb0 _) (by omega)) (by omega)
  have ll : (scaR (board.getD r []) (1 / at_ (board.getD r []) col)).length = w := by unfold scaR; rw [List.length_map, hR.1]
  refine js_cons (j1_set 3 (by decide +kernel) rfl (by first | exact Or.inl rfl | exact Or.inr rfl) ?_)
  refine je_call D_scaled (Nat.le_of_ble_eq_true rfl) rfl ?_
  refine ja_cons ?_
  refine je_ix ?_
  refine je_var 0 rfl (by first | exact Or.inl rfl | exact Or.inr (Or.inl rfl) | exact Or.inr (Or.inr rfl)) rfl (by intro z; cases z) ?_
  refine je_var 1 rfl (by first | exact Or.inl rfl | exact Or.inr (Or.inl rfl) | exact Or.inr (Or.inr rfl)) rfl (by intro z; cases z) ?_
  refine ⟨_, _, _, rfl, rfl, atI_map (getD_lt (d := []) hr), ?_⟩
  refine ja_cons ?_
  refine je_call D_over (Nat.le_of_ble_eq_true rfl) rfl ?_
  refine ja_cons ?_
  refine je_glob B.one rfl ?_
  refine ja_cons ?_
  refine je_ix ?_
  refine je_ix ?_
  refine je_var 0 rfl (by first | exact Or.inl rfl | exact Or.inr (Or.inl rfl) | exact Or.inr (Or.inr rfl)) rfl (by intro z; cases z) ?_
  refine je_var 1 rfl (by first | exact Or.inl rfl | exact Or.inr (Or.inl rfl) | exact Or.inr (Or.inr rfl)) rfl (by intro z; cases z) ?_
  refine ⟨_, _, _, rfl, rfl, atI_map (getD_lt (d := []) hr), ?_⟩
  refine je_var 2 rfl (by first | exact Or.inl rfl | exact Or.inr (Or.inl rfl) | exact Or.inr (Or.inr rfl)) rfl (by intro z; cases z) ?_
  refine ⟨_, _, _, rfl, rfl, atI_fr (by rw [hR.1]; exact hcol), ?_⟩
  refine ja_nil ?_
  refine ⟨_, _, rfl, hne, ⟨1, b, sz_one, szs_at hR.2 hb0 _, by omega⟩, ?_⟩
  refine ja_nil ?_
  refine ⟨_, _, rfl, ⟨b, 1 + b, hR.2, sz_div sz_one (szs_at hR.2 hb0 _) (by omega), by omega⟩, by rw [hR.1]; exact hw, ?_⟩
  refine js_own 4 (by decide +kernel) rfl (by first | exact Or.inl rfl | exact Or.inr rfl) (fun X g => own_nil g) ?_
  refine js_cons (j1_for ?_)
  refine ji_enum B.enumerate_ rfl ?_
  refine je_var 0 rfl (by first | exact Or.inl rfl | exact Or.inr (Or.inl rfl) | exact Or.inr (Or.inr rfl)) rfl (by intro z; cases z) ?_
  refine ⟨_, _, _, rfl, rfl, ?_⟩
  rw [enumD_map]
  rw [turnR_eq] at p
  have eT : ∀ p : Nat × List Rat, turnRow board r col p = if p.1 = r then scaR (board.getD r []) (1 / at_ (board.getD r []) col) else if at_ p.2 col = 0 then p.2 else List.zipWith (fun a b => a - at_ p.2 col * b) p.2 (scaR (board.getD r []) (1 / at_ (board.getD r []) col)) := fun _ => rfl
  generalize scaR (board.getD r []) (1 / at_ (board.getD r []) col) = lead at sl ll eT
  refine for_fold [5, 6] (idx board) _ (fun q => [.dat (rws board), .dat (int r), .dat (int col), .dat (rw_ lead), .own (q.map rw_), .no, .no, .no, .no]) (fun b p => b ++ [turnRow board r col p]) [] rfl rfl (fun i a ha => ?_) (fun ρ' e => js_forget [5, 6] e ?_)
  · rw [fold_app, List.nil_append, eT]
    have hlen : (((idx board).take i).map (turnRow board r col)).length ≤ board.length := by rw [List.length_map, ← idx_len board]; exact take_len _ _
    generalize ((idx board).take i).map (turnRow board r col) = q at hlen
    obtain ⟨e1, e2⟩ := idx_mem (List.mem_of_getElem? ha)
    have hA := hrow _ (List.mem_of_getElem? e2)
    have hz : (q.map rw_).length < 100000 := by rw [List.length_map]; omega
    refine jg_tup ⟨_, rfl, rfl, ?_⟩
    refine jgs_cons ?_
    refine jg_name 5 (by decide +kernel) rfl (by first | exact Or.inl rfl | exact Or.inr rfl) ?_
    refine jgs_cons ?_
    refine jg_name 6 (by decide +kernel) rfl (by first | exact Or.inl rfl | exact Or.inr rfl) ?_
    refine jgs_nil ?_
    refine js_cons (j1_if ?_)
    refine jt_cmp ?_
    refine je_var 5 rfl (by first | exact Or.inl rfl | exact Or.inr (Or.inl rfl) | exact Or.inr (Or.inr rfl)) rfl (by intro z; cases z) ?_
    refine je_var 1 rfl (by first | exact Or.inl rfl | exact Or.inr (Or.inl rfl) | exact Or.inr (Or.inr rfl)) rfl (by intro z; cases z) ?_
    refine jo_eqI ?_
    refine ⟨_, rfl, ?_⟩
    have d1 : decide ((a.1 : Int) = (r : Int)) = decide (a.1 = r) := by
      by_cases h : a.1 = r
      · rw [decide_eq_true h, decide_eq_true (by omega)]
      · rw [decide_eq_false h, decide_eq_false (by omega)]
    rw [d1]
    refine ⟨fun hk => ?_, fun hk => ?_⟩
    · rw [if_pos (of_decide_eq_true hk)]
      refine js_cons (j1_app 4 rfl (by first | exact Or.inl rfl | exact Or.inr (Or.inl rfl) | exact Or.inr (Or.inr rfl)) rfl rfl ?_ ?_)
      exact hz
      refine je_var 3 rfl (by first | exact Or.inl rfl | exact Or.inr (Or.inl rfl) | exact Or.inr (Or.inr rfl)) rfl (by intro z; cases z) ?_
      refine ⟨_, rfl, ?_⟩
      refine js_nil ?_
      refine js_nil ?_
      rw [List.map_append]
      rfl
    · rw [if_neg (of_decide_eq_false hk)]
      refine js_cons (j1_if ?_)
      refine jt_cmp ?_
      refine je_ix ?_
      refine je_ix ?_
      refine je_var 6 rfl (by first | exact Or.inl rfl | exact Or.inr (Or.inl rfl) | exact Or.inr (Or.inr rfl)) rfl (by intro z; cases z) ?_
      refine je_var 2 rfl (by first | exact Or.inl rfl | exact Or.inr (Or.inl rfl) | exact Or.inr (Or.inr rfl)) rfl (by intro z; cases z) ?_
      refine ⟨_, _, _, rfl, rfl, atI_fr (by rw [hA.1]; exact hcol), ?_⟩
      refine je_int ?_
      refine ⟨_, _, _, rfl, rfl, rfl, ?_⟩
      refine je_int ?_
      refine jo_eqI ?_
      refine ⟨_, rfl, ?_⟩
      rw [num_eq0]
      refine ⟨fun hk' => ?_, fun hk' => ?_⟩
      · rw [if_pos (of_decide_eq_true hk')]
        refine js_cons (j1_app 4 rfl (by first | exact Or.inl rfl | exact Or.inr (Or.inl rfl) | exact Or.inr (Or.inr rfl)) rfl rfl ?_ ?_)
        exact hz
        refine je_var 6 rfl (by first | exact Or.inl rfl | exact Or.inr (Or.inl rfl) | exact Or.inr (Or.inr rfl)) rfl (by intro z; cases z) ?_
        refine ⟨_, rfl, ?_⟩
        refine js_nil ?_
        refine js_nil ?_
        refine js_nil ?_
        rw [List.map_append]
        rfl
      · rw [if_neg (of_decide_eq_false hk')]
        refine js_cons (j1_app 4 rfl (by first | exact Or.inl rfl | exact Or.inr (Or.inl rfl) | exact Or.inr (Or.inr rfl)) rfl rfl ?_ ?_)
        exact hz
        refine je_callTy B.tuple_ rfl rfl ?_
        refine ja_cons ?_
        refine je_lc2 7 8 (by decide +kernel) (by decide +kernel) rfl rfl rfl rfl ?_
        refine ji_zip B.zip_ rfl ?_
        refine je_var 6 rfl (by first | exact Or.inl rfl | exact Or.inr (Or.inl rfl) | exact Or.inr (Or.inr rfl)) rfl (by intro z; cases z) ?_
        refine je_var 3 rfl (by first | exact Or.inl rfl | exact Or.inr (Or.inl rfl) | exact Or.inr (Or.inr rfl)) rfl (by intro z; cases z) ?_
        refine ⟨_, _, _, _, _, _, rfl, rfl, rfl, rfl, ?_⟩
        rw [zipD_map]
        refine lc2Map (a.2.zip lead) _ _ (fun p => fr (p.1 - at_ a.2 col * p.2)) (by rw [List.length_zip]; omega) (fun p hp => ?_) ?_
        · refine je_call D_minus (Nat.le_of_ble_eq_true rfl) rfl ?_
          refine ja_cons ?_
          refine je_var 7 rfl (by first | exact Or.inl rfl | exact Or.inr (Or.inl rfl) | exact Or.inr (Or.inr rfl)) rfl (by intro z; cases z) ?_
          refine ja_cons ?_
          refine je_call D_times (Nat.le_of_ble_eq_true rfl) rfl ?_
          refine ja_cons ?_
          refine je_ix ?_
          refine je_var 6 rfl (by first | exact Or.inl rfl | exact Or.inr (Or.inl rfl) | exact Or.inr (Or.inr rfl)) rfl (by intro z; cases z) ?_
          refine je_var 2 rfl (by first | exact Or.inl rfl | exact Or.inr (Or.inl rfl) | exact Or.inr (Or.inr rfl)) rfl (by intro z; cases z) ?_
          refine ⟨_, _, _, rfl, rfl, atI_fr (by rw [hA.1]; exact hcol), ?_⟩
          refine ja_cons ?_
          refine je_var 8 rfl (by first | exact Or.inl rfl | exact Or.inr (Or.inl rfl) | exact Or.inr (Or.inr rfl)) rfl (by intro z; cases z) ?_
          refine ja_nil ?_
          refine ⟨_, _, rfl, ⟨_, _, szs_at hA.2 hb0 _, sl _ (List.of_mem_zip hp).2, by omega⟩, ?_⟩
          refine ja_nil ?_
          exact ⟨_, _, rfl, ⟨_, _, hA.2 _ (List.of_mem_zip hp).1, sz_mul (szs_at hA.2 hb0 _) (sl _ (List.of_mem_zip hp).2) (by omega), by omega⟩, rfl⟩
        · have e : (a.2.zip lead).map (fun p => fr (p.1 - at_ a.2 col * p.2)) = (List.zipWith (fun g n => g - at_ a.2 col * n) a.2 lead).map fr := by
            rw [List.zip_eq_zipWith, List.map_zipWith, List.map_zipWith]
          rw [e]
          refine ja_nil ?_
          refine jc_tuple rfl ?_
          refine ⟨_, rfl, ?_⟩
          refine js_nil ?_
          refine js_nil ?_
          refine js_nil ?_
          rw [List.map_append]
          rfl
  · rw [fold_app, List.nil_append]
    refine js_freeze ?_
    refine js_cons (j1_ret ?_)
    refine je_var 4 rfl (by first | exact Or.inl rfl | exact Or.inr (Or.inl rfl) | exact Or.inr (Or.inr rfl)) rfl (by intro z; cases z) ?_
    refine ⟨_, rfl, ?_⟩
    exact p
abbrev C_prices : List Sl → (PyData → Prop) → Prop := fun ss P => ∃ (left signs costs : List Rat) (many : Nat), ss = [.dat (.list (left.map fr)), .dat (.list (signs.map fr)), .dat (rw_ costs), .dat (int many)] ∧ (∃ b c, Szs b left ∧ Szs c costs ∧ b + c ≤ 6000) ∧ Szs 1 signs ∧ left.length = many + signs.length ∧ costs.length = many + signs.length ∧ signs.length ≤ 100 ∧ P (rw_ (pricesR left signs costs many))
theorem D_prices (B : BC E) (A : At E "prices" s_prices ["left", "signs", "costs", "many"]) (D_minus : Def E 3 "minus" ["one", "two"] [] C_minus) (D_times : Def E 3 "times" ["one", "two"] [] C_times) : Def E 4 "prices" ["left", "signs", "costs", "many"] [] C_prices := by
  refine def_at A c_prices (fun ss P h => by obtain ⟨left, signs, costs, many, rfl, _⟩ := h; rfl) fun ss P h => ?_
  obtain ⟨left, signs, costs, many, rfl, ⟨b,c,hb,hc,hbc⟩, hs, h1, h2, h3, p⟩ := h
  refine js_cons (j1_ret ?_)
  refine je_callTy B.tuple_ rfl rfl ?_
  refine ja_cons ?_
  refine je_lc2 4 5 (by decide +kernel) (by decide +kernel) rfl rfl rfl rfl ?_
  refine ji_enum B.enumerate_ rfl ?_
  refine je_var 1 rfl (by first | exact Or.inl rfl | exact Or.inr (Or.inl rfl) | exact Or.inr (Or.inr rfl)) rfl (by intro z; cases z) ?_
  refine ⟨_, _, _, rfl, rfl, ?_⟩
  rw [enumD_map]
  refine lc2Map (idx signs) _ _ (fun p => fr (p.2 * (at_ costs (many + p.1) - at_ left (many + p.1)))) (by rw [idx_len]; omega) (fun a ha => ?_) ?_
  · obtain ⟨e1, e2⟩ := idx_mem ha
    have ei : (many : Int) + (a.1 : Int) = ((many + a.1 : Nat) : Int) := by omega
    refine je_call D_times (Nat.le_of_ble_eq_true rfl) rfl ?_
    refine ja_cons ?_
    refine je_var 5 rfl (by first | exact Or.inl rfl | exact Or.inr (Or.inl rfl) | exact Or.inr (Or.inr rfl)) rfl (by intro z; cases z) ?_
    refine ja_cons ?_
    refine je_call D_minus (Nat.le_of_ble_eq_true rfl) rfl ?_
    refine ja_cons ?_
    refine je_ix ?_
    refine je_var 2 rfl (by first | exact Or.inl rfl | exact Or.inr (Or.inl rfl) | exact Or.inr (Or.inr rfl)) rfl (by intro z; cases z) ?_
    refine je_bin ?_
    refine je_var 3 rfl (by first | exact Or.inl rfl | exact Or.inr (Or.inl rfl) | exact Or.inr (Or.inr rfl)) rfl (by intro z; cases z) ?_
    refine je_var 4 rfl (by first | exact Or.inl rfl | exact Or.inr (Or.inl rfl) | exact Or.inr (Or.inr rfl)) rfl (by intro z; cases z) ?_
    refine jo_add ?_
    rw [ei]
    refine ⟨_, _, _, rfl, rfl, atI_fr (by omega), ?_⟩
    refine ja_cons ?_
    refine je_ix ?_
    refine je_var 0 rfl (by first | exact Or.inl rfl | exact Or.inr (Or.inl rfl) | exact Or.inr (Or.inr rfl)) rfl (by intro z; cases z) ?_
    refine je_bin ?_
    refine je_var 3 rfl (by first | exact Or.inl rfl | exact Or.inr (Or.inl rfl) | exact Or.inr (Or.inr rfl)) rfl (by intro z; cases z) ?_
    refine je_var 4 rfl (by first | exact Or.inl rfl | exact Or.inr (Or.inl rfl) | exact Or.inr (Or.inr rfl)) rfl (by intro z; cases z) ?_
    refine jo_add ?_
    rw [ei]
    refine ⟨_, _, _, rfl, rfl, atI_fr (by omega), ?_⟩
    refine ja_nil ?_
    refine ⟨_, _, rfl, ⟨_, _, hc.get (at_lt (by omega)), hb.get (at_lt (by omega)), by omega⟩, ?_⟩
    refine ja_nil ?_
    exact ⟨_, _, rfl, ⟨_, _, hs.get e2, sz_sub (hc.get (at_lt (by omega))) (hb.get (at_lt (by omega))), by omega⟩, rfl⟩
  · have e : (idx signs).map (fun p => fr (p.2 * (at_ costs (many + p.1) - at_ left (many + p.1)))) = (pricesR left signs costs many).map fr := by unfold pricesR; rw [List.map_map]; rfl
    rw [e]
    refine ja_nil ?_
    refine jc_tuple rfl ?_
    exact ⟨_, rfl, p⟩
theorem weight_len {many : Nat} : ∀ (l : List (List Rat × Nat)) (f : List Rat), (l.foldl (weightStep many) f).length = f.length
  | [], f => rfl
  | p :: l, f => by
    rw [List.foldl_cons, weight_len l]
    unfold weightStep
    split
    · rw [List.length_set]
    · rfl
abbrev C_weights_by : List Sl → (PyData → Prop) → Prop := fun ss P => ∃ (board : List (List Rat)) (basis : List Nat) (many : Nat), ss = [.dat (rws board), .dat (ixs basis), .dat (int many)] ∧ (∀ r ∈ board, 0 < r.length) ∧ many ≤ 1000 ∧ P (rw_ (weightsR (board, basis) many))
theorem D_weights_by (B : BC E) (A : At E "weights_by" s_weights_by ["board", "basis", "many"]) (D_noughts : Def E 1 "noughts" ["many"] [] C_noughts) : Def E 2 "weights_by" ["board", "basis", "many"] [] C_weights_by := by
  refine def_at A c_weights_by (fun ss P h => by obtain ⟨board, basis, many, rfl, _⟩ := h; rfl) fun ss P h => ?_
  obtain ⟨board, basis, many, rfl, hr, hm, p⟩ := h
  refine js_own 3 (by decide +kernel) rfl (by first | exact Or.inl rfl | exact Or.inr rfl) (own_list (ds := (nts many).map fr) B.list_ rfl rfl ?_) ?_
  · refine je_call D_noughts (Nat.le_of_ble_eq_true rfl) rfl ?_
    refine ja_cons ?_
    refine je_var 2 rfl (by first | exact Or.inl rfl | exact Or.inr (Or.inl rfl) | exact Or.inr (Or.inr rfl)) rfl (by intro z; cases z) ?_
    refine ja_nil ?_
    exact ⟨many, rfl, hm, rfl⟩
  refine js_cons (j1_for ?_)
  refine ji_zip B.zip_ rfl ?_
  refine je_var 0 rfl (by first | exact Or.inl rfl | exact Or.inr (Or.inl rfl) | exact Or.inr (Or.inr rfl)) rfl (by intro z; cases z) ?_
  refine je_var 1 rfl (by first | exact Or.inl rfl | exact Or.inr (Or.inl rfl) | exact Or.inr (Or.inr rfl)) rfl (by intro z; cases z) ?_
  refine ⟨_, _, _, _, _, _, rfl, rfl, rfl, rfl, ?_⟩
  rw [zipD_map]
  refine for_fold [4, 5] (board.zip basis) _ (fun q => [.dat (rws board), .dat (ixs basis), .dat (int many), .own (q.map fr), .no, .no]) (weightStep many) (nts many) rfl rfl (fun i a ha => ?_) (fun ρ' e => js_forget [4, 5] e ?_)
  · have hl := weight_len (many := many) ((board.zip basis).take i) (nts many)
    rw [show (nts many).length = many from List.length_replicate] at hl
    generalize ((board.zip basis).take i).foldl (weightStep many) (nts many) = f at hl
    obtain ⟨e1, e2⟩ := zip_get ha
    have h0 := hr _ (List.mem_of_getElem? e1)
    unfold weightStep
    have d1 : decide ((a.2 : Int) < (many : Int)) = decide (a.2 < many) := by
      by_cases h : a.2 < many
      · rw [decide_eq_true h, decide_eq_true (by omega)]
      · rw [decide_eq_false h, decide_eq_false (by omega)]
    refine jg_tup ⟨_, rfl, rfl, ?_⟩
    refine jgs_cons ?_
    refine jg_name 4 (by decide +kernel) rfl (by first | exact Or.inl rfl | exact Or.inr rfl) ?_
    refine jgs_cons ?_
    refine jg_name 5 (by decide +kernel) rfl (by first | exact Or.inl rfl | exact Or.inr rfl) ?_
    refine jgs_nil ?_
    refine js_cons (j1_if ?_)
    refine jt_cmp ?_
    refine je_var 5 rfl (by first | exact Or.inl rfl | exact Or.inr (Or.inl rfl) | exact Or.inr (Or.inr rfl)) rfl (by intro z; cases z) ?_
    refine je_var 2 rfl (by first | exact Or.inl rfl | exact Or.inr (Or.inl rfl) | exact Or.inr (Or.inr rfl)) rfl (by intro z; cases z) ?_
    refine jo_lt ?_
    refine ⟨_, rfl, ?_⟩
    rw [d1]
    refine ⟨fun hk => ?_, fun hk => ?_⟩
    · rw [if_pos (of_decide_eq_true hk)]
      refine js_cons (j1_setL 3 rfl (by first | exact Or.inl rfl | exact Or.inr (Or.inl rfl) | exact Or.inr (Or.inr rfl)) rfl rfl ?_)
      refine je_ix ?_
      refine je_var 4 rfl (by first | exact Or.inl rfl | exact Or.inr (Or.inl rfl) | exact Or.inr (Or.inr rfl)) rfl (by intro z; cases z) ?_
      refine je_neg ?_
      refine je_int ?_
      refine ⟨_, rfl, ?_⟩
      refine ⟨_, _, _, rfl, rfl, atI_end h0, ?_⟩
      refine ⟨_, rfl, ?_⟩
      refine je_var 5 rfl (by first | exact Or.inl rfl | exact Or.inr (Or.inl rfl) | exact Or.inr (Or.inr rfl)) rfl (by intro z; cases z) ?_
      refine ⟨a.2, rfl, by rw [List.length_map, hl]; exact of_decide_eq_true hk, ?_⟩
      refine js_nil ?_
      refine js_nil ?_
      rw [List.map_set]
      rfl
    · rw [if_neg (of_decide_eq_false hk)]
      refine js_nil ?_
      refine js_nil ?_
      rfl
  · refine js_cons (j1_ret ?_)
    refine je_callTy B.tuple_ rfl rfl ?_
    refine ja_cons ?_
    refine je_var 3 rfl (by first | exact Or.inl rfl | exact Or.inr (Or.inl rfl) | exact Or.inr (Or.inr rfl)) rfl (by intro z; cases z) ?_
    refine ja_nil ?_
    refine jc_tuple (xs := (weightsR (board, basis) many).map fr) rfl ?_
    exact ⟨_, rfl, p⟩
end
end W6
end
section
set_option Elab.async false
set_option linter.all false
set_option maxRecDepth 100000
set_option maxHeartbeats 4000000
/-! The walk: the descent itself. -/
namespace W6
open PySem PySem.Spec PyProof.Rows L2
/-- a board whose shape and sizes are right -/
structure Nice (M W : Nat) (s : Bd) : Prop where
  bl : s.1.length = M
  sl : s.2.length = M
  rl : ∀ r ∈ s.1, r.length = W + 1 ∧ Szs 800 r
  bs : ∀ c ∈ s.2, c < W
/-- the descent ends, in at most so many turns -/
inductive Go (costs : List Rat) (many M W : Nat) : Nat → Bd → Bd → Prop
  | done {n : Nat} {s : Bd} (h : Nice M W s) (e : stepR costs many s = none) : Go costs many M W n s s
  | step {n : Nat} {s s' f : Bd} (h : Nice M W s) (e : stepR costs many s = some s') (g : Go costs many M W n s' f) : Go costs many M W (n + 1) s f
theorem Go.nice {costs : List Rat} {many M W n : Nat} {s f : Bd} (g : Go costs many M W n s f) : Nice M W s := by
  cases g with
  | done h _ => exact h
  | step h _ _ => exact h
theorem Go.fin {costs : List Rat} {many M W n : Nat} {s f : Bd} (g : Go costs many M W n s f) : Nice M W f := by
  induction g with
  | done h _ => exact h
  | step _ _ _ ih => exact ih
theorem gap_len_eq {costs : List Rat} : ∀ (l : List (List Rat × Nat)) (f : List Rat), (∀ p ∈ l, f.length ≤ p.1.length) → (l.foldl (gapStep costs) f).length = f.length
  | [], f, _ => rfl
  | p :: l, f, h => by
    have hl : (gapStep costs f p).length = f.length := by
      unfold gapStep
      split
      · rfl
      · rw [List.length_zipWith]
        have := h p List.mem_cons_self
        omega
    rw [List.foldl_cons, gap_len_eq l _ (fun q hq => by rw [hl]; exact h q (List.mem_cons_of_mem _ hq)), hl]
theorem gapsR_len {board : List (List Rat)} {basis : List Nat} {costs : List Rat} (h : ∀ r ∈ board, costs.length ≤ r.length) : (gapsR board basis costs).length = costs.length := gap_len_eq _ _ fun p hp => h _ (List.of_mem_zip hp).1
theorem gapsR_sz {c b : Nat} {board : List (List Rat)} {basis : List Nat} {costs : List Rat} (h0 : 0 < c) (hc : Szs c costs) (hb : ∀ r ∈ board, Szs b r) : Szs (c + board.length * (c + b + 1)) (gapsR board basis costs) := fun x hx => (gap_sz h0 hc (board.zip basis) costs c (fun p hp => hb _ (List.of_mem_zip hp).1) hc x hx).mono (Nat.add_le_add_left (Nat.mul_le_mul_right _ (by rw [List.length_zip]; omega)) _)
theorem dep_ixs : ∀ b : List Nat, PyData.depthAll (b.map int) = 0
  | [] => rfl
  | x :: xs => by
    show max 0 (PyData.depthAll (xs.map int)) = 0
    rw [dep_ixs xs]; rfl
theorem can_ixs : ∀ b : List Nat, PyData.canLayAll0 (b.map int) = true
  | [] => rfl
  | x :: xs => by
    show (true && PyData.canLayAll0 (xs.map int)) = true
    rw [can_ixs xs]; rfl
theorem shIxs (b : List Nat) : SeqAt.shaped (ixs b) = true := by
  show (PyData.canLayAll0 (b.map int) && decide (PyData.depthAll (b.map int) + 1 ≤ 64)) = true
  rw [can_ixs, dep_ixs]; rfl
theorem atI_hd {f : Nat → PyData} {x : Nat} {xs : List Nat} : atI (List.map f (x :: xs)) 0 = some (f x) := atI_nat (j := 0) rfl
theorem cut_hi {α : Type} (xs : List α) (r : Nat) : cutG xs none (some (r : Int)) = xs.take r := by
  unfold cutG
  rw [HT.sIx_none, HT.sIx_nat, List.drop_zero, Nat.sub_zero]
  by_cases h : r ≤ xs.length
  · rw [Nat.min_eq_left h]
  · rw [Nat.min_eq_right (by omega), List.take_length, List.take_of_length_le (by omega)]
theorem cut_lo {α : Type} (xs : List α) (r : Nat) : cutG xs (some (r : Int)) none = xs.drop r := by
  unfold cutG
  rw [HT.sIx_none, HT.sIx_nat]
  by_cases h : r ≤ xs.length
  · rw [Nat.min_eq_left h, List.take_of_length_le (by rw [List.length_drop]; omega)]
  · rw [Nat.min_eq_right (by omega), List.drop_of_length_le (Nat.le_refl _), List.drop_of_length_le (by omega), List.take_nil]
theorem set_cut {basis : List Nat} {r c : Nat} (h : r < basis.length) : (basis.map int).take r ++ [int c] ++ (basis.map int).drop (r + 1) = (basis.set r c).map int := by
  rw [List.set_eq_take_append_cons_drop, if_pos h, List.map_append, List.map_cons, List.map_take, List.map_drop, List.append_assoc]
  rfl
theorem helps_mem {left : List Rat} {many c : Nat} (h : c ∈ helps left many) : c < many := List.mem_range.mp (List.mem_filter.mp h).1
theorem leav_row {board : List (List Rat)} {basis : List Nat} {col : Nat} : ∀ (l : List (Nat × List Rat)) (q : Option (Rat × Nat)), (∀ p ∈ l, board[p.1]? = some p.2) → (∀ k r, q = some (k, r) → r < board.length ∧ 0 < at_ (board.getD r []) col) → ∀ k r, l.foldl (leavStep basis col) q = some (k, r) → r < board.length ∧ 0 < at_ (board.getD r []) col
  | [], q, _, hq => hq
  | p :: l, q, h, hq => by
    rw [List.foldl_cons]
    refine leav_row l _ (fun p hp => h p (List.mem_cons_of_mem _ hp)) ?_
    have hp := h p List.mem_cons_self
    intro k r e
    unfold leavStep at e
    split at e
    · rename_i h0
      have hP : p.1 < board.length ∧ 0 < at_ (board.getD p.1 []) col := ⟨(List.getElem?_eq_some_iff.mp hp).1, by rw [List.getD_eq_getElem?_getD, hp]; exact h0⟩
      dsimp only at e
      cases q with
      | none => cases e; exact hP
      | some kr =>
        obtain ⟨k', r'⟩ := kr
        dsimp only at e
        split at e
        · cases e; exact hP
        · cases e; exact hq _ _ rfl
    · exact hq k r e
theorem leavR_row {board : List (List Rat)} {basis : List Nat} {col r : Nat} {k : Rat} (h : leavR board basis col = some (k, r)) : r < board.length ∧ 0 < at_ (board.getD r []) col :=
  leav_row (idx board) none (fun p hp => (idx_mem hp).2) (fun _ _ z => nomatch z) k r h
section
variable {E : En}
abbrev C_descended : List Sl → (PyData → Prop) → Prop := fun ss P => ∃ (costs : List Rat) (many M W n : Nat) (s f : Bd), ss = [.dat (rws s.1), .dat (ixs s.2), .dat (rw_ costs), .dat (int many)] ∧ Go costs many M W n s f ∧ (∃ c, 0 < c ∧ c ≤ 1000 ∧ Szs c costs ∧ (M + 1) * (c + 800 + 1) ≤ 6000) ∧ costs.length = W ∧ many ≤ W ∧ W ≤ 100 ∧ P (.tuple [rws f.1, ixs f.2, .list ((gapsR f.1 f.2 costs).map fr)])
theorem D_descended (B : BC E) (A : At E "descended" s_descended ["board", "basis", "costs", "many"]) (D_gaps : Def E 4 "gaps" ["board", "basis", "costs"] [] C_gaps) (D_leaving : Def E 4 "leaving" ["board", "basis", "column"] [] C_leaving) (D_turned_about : Def E 5 "turned_about" ["board", "at", "column"] [] C_turned_about) : Def E 6 "descended" ["board", "basis", "costs", "many"] [] C_descended := by
  refine def_at A c_descended (fun ss P h => by obtain ⟨costs, many, M, W, n, s, f, rfl, _⟩ := h; rfl) fun ss P h => ?_
  obtain ⟨costs, many, M, W, n, s, f, rfl, hg, ⟨c,hc0,hc1,hc,hcM⟩, hW, hmany, hW2, p⟩ := h
  have hM : M ≤ 100 := by
    have := Nat.mul_le_mul_left (M + 1) (show 801 ≤ c + 800 + 1 by omega)
    omega
  refine js_cons (j1_while (fun m ρ' => ∃ s, Go costs many M W m s f ∧ wip ρ' [4, 5, 6] = [.dat (rws s.1), .dat (ixs s.2), .dat (rw_ costs), .dat (int many), .no, .no, .no, .no]) n ⟨s, hg, rfl⟩ ?_)
  clear hg
  rintro m ρ' ⟨s, g, e⟩
  refine jt_val ?_
  refine je_bl ?_
  refine ⟨_, rfl, ?_⟩
  refine ⟨fun _ => ?_, fun z => (nomatch z)⟩
  refine js_forget [4, 5, 6] e ?_
  have hN := g.nice
  have hgl : (gapsR s.1 s.2 costs).length = W := by rw [gapsR_len (fun r hr => by rw [(hN.rl r hr).1, hW]; omega), hW]
  refine js_cons (j1_set 4 (by decide +kernel) rfl (by first | exact Or.inl rfl | exact Or.inr rfl) ?_)
  refine je_call D_gaps (Nat.le_of_ble_eq_true rfl) rfl ?_
  refine ja_cons ?_
  refine je_var 0 rfl (by first | exact Or.inl rfl | exact Or.inr (Or.inl rfl) | exact Or.inr (Or.inr rfl)) rfl (by intro z; cases z) ?_
  refine ja_cons ?_
  refine je_var 1 rfl (by first | exact Or.inl rfl | exact Or.inr (Or.inl rfl) | exact Or.inr (Or.inr rfl)) rfl (by intro z; cases z) ?_
  refine ja_cons ?_
  refine je_var 2 rfl (by first | exact Or.inl rfl | exact Or.inr (Or.inl rfl) | exact Or.inr (Or.inr rfl)) rfl (by intro z; cases z) ?_
  refine ja_nil ?_
  refine ⟨s.1, s.2, costs, rfl, ⟨c, 800, hc0, hc1, hc, fun r hr => (hN.rl r hr).2, by rw [hN.bl]; exact hcM⟩, fun i hi => by rw [hW]; exact hN.bs i hi, by omega, ?_⟩
  have eS : stepR costs many s = match helps (gapsR s.1 s.2 costs) many with
    | [] => none
    | c :: _ => match leavR s.1 s.2 c with
      | none => none
      | some (_, r) => some (turnR s.1 r c, s.2.set r c) := rfl
  refine js_cons (j1_setLc1 5 7 (by decide +kernel) rfl rfl (by decide +kernel) rfl rfl (by intro env h; cases env; cases h; first | rfl | with_unfolding_all rfl) ?_)
  refine ji_range1 B.range_ rfl ?_
  refine je_var 3 rfl (by first | exact Or.inl rfl | exact Or.inr (Or.inl rfl) | exact Or.inr (Or.inr rfl)) rfl (by intro z; cases z) ?_
  refine ⟨many, rfl, by omega, lcKeep (List.range many) int int (fun i => decide (at_ (gapsR s.1 s.2 costs) i < 0)) (by rw [List.length_range]; omega) (fun i hi => ?_) (fun i hi _ => ?_) ?_⟩
  · refine jt_cmp ?_
    refine je_ix ?_
    refine je_ix ?_
    refine je_var 4 rfl (by first | exact Or.inl rfl | exact Or.inr (Or.inl rfl) | exact Or.inr (Or.inr rfl)) rfl (by intro z; cases z) ?_
    refine je_var 7 rfl (by first | exact Or.inl rfl | exact Or.inr (Or.inl rfl) | exact Or.inr (Or.inr rfl)) rfl (by intro z; cases z) ?_
    refine ⟨_, _, _, rfl, rfl, atI_fr (by rw [hgl]; have := List.mem_range.mp hi; omega), ?_⟩
    refine je_int ?_
    refine ⟨_, _, _, rfl, rfl, rfl, ?_⟩
    refine je_int ?_
    refine jo_lt ?_
    refine ⟨_, rfl, ?_⟩
    exact num_lt0 _
  · refine je_var 7 rfl (by first | exact Or.inl rfl | exact Or.inr (Or.inl rfl) | exact Or.inr (Or.inr rfl)) rfl (by intro z; cases z) ?_
    rfl
  have eH : (List.range many).filter (fun i => decide (at_ (gapsR s.1 s.2 costs) i < 0)) = helps (gapsR s.1 s.2 costs) many := rfl
  rw [eH]
  have back : ∀ (q : Option (Rat × Nat)) (D : Po), D.rt = P → leavD q = .list [] → stepR costs many s = none → JS E ⟨N_descended, defScope s_descended, true, 5, fun _ => True⟩ false [.dat (rws s.1), .dat (ixs s.2), .dat (rw_ costs), .dat (int many), .dat (.list ((gapsR s.1 s.2 costs).map fr)), .dat (ixs (helps (gapsR s.1 s.2 costs) many)), .dat (leavD q), .no] (match defBody s_descended with | [.While _ b _ _] => b.drop 3 | _ => []) D := fun q D eD eq es => by
    have ef : f = s := by
      cases g with
      | done _ _ => rfl
      | step _ e2 _ => rw [es] at e2; cases e2
    rw [eq]
    subst ef
    refine js_cons (j1_if ?_)
    refine jt_cmp ?_
    refine je_var 6 rfl (by first | exact Or.inl rfl | exact Or.inr (Or.inl rfl) | exact Or.inr (Or.inr rfl)) rfl (by intro z; cases z) ?_
    refine je_lst ?_
    refine ja_nil ?_
    refine ⟨_, rfl, Nat.le_of_ble_eq_true rfl, ?_⟩
    refine jo_eqD rfl rfl ?_ ?_ ?_
    rfl
    rfl
    refine ⟨_, rfl, ?_⟩
    refine ⟨fun _ => ?_, fun z => nomatch z⟩
    refine js_cons (j1_ret ?_)
    refine je_tup ?_
    refine ja_cons ?_
    refine je_var 0 rfl (by first | exact Or.inl rfl | exact Or.inr (Or.inl rfl) | exact Or.inr (Or.inr rfl)) rfl (by intro z; cases z) ?_
    refine ja_cons ?_
    refine je_var 1 rfl (by first | exact Or.inl rfl | exact Or.inr (Or.inl rfl) | exact Or.inr (Or.inr rfl)) rfl (by intro z; cases z) ?_
    refine ja_cons ?_
    refine je_var 4 rfl (by first | exact Or.inl rfl | exact Or.inr (Or.inl rfl) | exact Or.inr (Or.inr rfl)) rfl (by intro z; cases z) ?_
    refine ja_nil ?_
    refine ⟨_, rfl, Nat.le_of_ble_eq_true rfl, ?_⟩
    refine ⟨_, rfl, ?_⟩
    rw [eD]
    exact p
  cases hh : helps (gapsR s.1 s.2 costs) many with
  | nil =>
    rw [hh] at eS back
    refine js_cons (j1_set 6 (by decide +kernel) rfl (by first | exact Or.inl rfl | exact Or.inr rfl) ?_)
    refine je_if ?_
    refine jt_cmp ?_
    refine je_var 5 rfl (by first | exact Or.inl rfl | exact Or.inr (Or.inl rfl) | exact Or.inr (Or.inr rfl)) rfl (by intro z; cases z) ?_
    refine je_lst ?_
    refine ja_nil ?_
    refine ⟨_, rfl, Nat.le_of_ble_eq_true rfl, ?_⟩
    refine jo_neD rfl rfl ?_ ?_ ?_
    rfl
    rfl
    refine ⟨_, rfl, ?_⟩
    refine ⟨fun z => (nomatch z), fun _ => ?_⟩
    refine je_lst ?_
    refine ja_nil ?_
    refine ⟨_, rfl, Nat.le_of_ble_eq_true rfl, ?_⟩
    exact back none _ rfl rfl eS
  | cons col rest =>
    rw [hh] at eS back
    have hcol : col < many := helps_mem (left := gapsR s.1 s.2 costs) (by rw [hh]; exact List.mem_cons_self)
    refine js_cons (j1_set 6 (by decide +kernel) rfl (by first | exact Or.inl rfl | exact Or.inr rfl) ?_)
    refine je_if ?_
    refine jt_cmp ?_
    refine je_var 5 rfl (by first | exact Or.inl rfl | exact Or.inr (Or.inl rfl) | exact Or.inr (Or.inr rfl)) rfl (by intro z; cases z) ?_
    refine je_lst ?_
    refine ja_nil ?_
    refine ⟨_, rfl, Nat.le_of_ble_eq_true rfl, ?_⟩
    refine jo_neD rfl rfl ?_ ?_ ?_
    exact shIxs _
    rfl
    refine ⟨_, rfl, ?_⟩
    refine ⟨fun _ => ?_, fun z => nomatch z⟩
    refine je_call D_leaving (Nat.le_of_ble_eq_true rfl) rfl ?_
    refine ja_cons ?_
    refine je_var 0 rfl (by first | exact Or.inl rfl | exact Or.inr (Or.inl rfl) | exact Or.inr (Or.inr rfl)) rfl (by intro z; cases z) ?_
    refine ja_cons ?_
    refine je_var 1 rfl (by first | exact Or.inl rfl | exact Or.inr (Or.inl rfl) | exact Or.inr (Or.inr rfl)) rfl (by intro z; cases z) ?_
    refine ja_cons ?_
    refine je_ix ?_
    refine je_var 5 rfl (by first | exact Or.inl rfl | exact Or.inr (Or.inl rfl) | exact Or.inr (Or.inr rfl)) rfl (by intro z; cases z) ?_
    refine je_int ?_
    refine ⟨_, _, _, rfl, rfl, atI_hd, ?_⟩
    refine ja_nil ?_
    refine ⟨s.1, s.2, col, rfl, ⟨800, by decide, by decide, fun r hr => ⟨by rw [(hN.rl r hr).1]; omega, (hN.rl r hr).2⟩⟩, hN.sl.trans hN.bl.symm, ?_⟩
    cases hl : leavR s.1 s.2 col with
    | none =>
      rw [show stepR costs many s = none by rw [eS]; show (match leavR s.1 s.2 col with | none => none | some (_, r) => some (turnR s.1 r col, s.2.set r col)) = none; rw [hl]] at back
      exact back none _ rfl rfl rfl
    | some kr =>
      obtain ⟨k, r⟩ := kr
      have eS2 : stepR costs many s = some (turnR s.1 r col, s.2.set r col) := by rw [eS]; show (match leavR s.1 s.2 col with | none => none | some (_, r) => some (turnR s.1 r col, s.2.set r col)) = _; rw [hl]
      clear back eS
      obtain ⟨hr, hpos⟩ := leavR_row hl
      have hrb : r < s.2.length := by rw [hN.sl, ← hN.bl]; exact hr
      refine js_cons (j1_if ?_)
      refine jt_cmp ?_
      refine je_var 6 rfl (by first | exact Or.inl rfl | exact Or.inr (Or.inl rfl) | exact Or.inr (Or.inr rfl)) rfl (by intro z; cases z) ?_
      refine je_lst ?_
      refine ja_nil ?_
      refine ⟨_, rfl, Nat.le_of_ble_eq_true rfl, ?_⟩
      refine jo_eqD rfl rfl ?_ ?_ ?_
      rfl
      rfl
      refine ⟨_, rfl, ?_⟩
      refine ⟨fun z => (nomatch z), fun _ => ?_⟩
      refine js_nil ?_
      refine js_cons (j1_set 0 (by decide +kernel) rfl (by first | exact Or.inl rfl | exact Or.inr rfl) ?_)
      refine je_call D_turned_about (Nat.le_of_ble_eq_true rfl) rfl ?_
      refine ja_cons ?_
      refine je_var 0 rfl (by first | exact Or.inl rfl | exact Or.inr (Or.inl rfl) | exact Or.inr (Or.inr rfl)) rfl (by intro z; cases z) ?_
      refine ja_cons ?_
      refine je_ix ?_
      refine je_var 6 rfl (by first | exact Or.inl rfl | exact Or.inr (Or.inl rfl) | exact Or.inr (Or.inr rfl)) rfl (by intro z; cases z) ?_
      refine je_int ?_
      refine ⟨_, _, _, rfl, rfl, rfl, ?_⟩
      refine ja_cons ?_
      refine je_ix ?_
      refine je_var 5 rfl (by first | exact Or.inl rfl | exact Or.inr (Or.inl rfl) | exact Or.inr (Or.inr rfl)) rfl (by intro z; cases z) ?_
      refine je_int ?_
      refine ⟨_, _, _, rfl, rfl, atI_hd, ?_⟩
      refine ja_nil ?_
      refine ⟨s.1, r, col, rfl, hr, by rw [hN.bl]; exact hM, ⟨800, W + 1, by decide, by decide, by omega, by omega, fun row hrow => hN.rl row hrow⟩, by intro z; rw [z] at hpos; exact absurd hpos (by decide), ?_⟩
      refine js_cons (j1_set 1 (by decide +kernel) rfl (by first | exact Or.inl rfl | exact Or.inr rfl) ?_)
      refine je_bin ?_
      refine je_bin ?_
      refine je_slHi ?_
      refine je_var 1 rfl (by first | exact Or.inl rfl | exact Or.inr (Or.inl rfl) | exact Or.inr (Or.inr rfl)) rfl (by intro z; cases z) ?_
      refine je_ix ?_
      refine je_var 6 rfl (by first | exact Or.inl rfl | exact Or.inr (Or.inl rfl) | exact Or.inr (Or.inr rfl)) rfl (by intro z; cases z) ?_
      refine je_int ?_
      refine ⟨_, _, _, rfl, rfl, rfl, ?_⟩
      refine ⟨(r : Int), _, rfl, rfl, ?_⟩
      rw [cut_hi]
      refine je_lst ?_
      refine ja_cons ?_
      refine je_ix ?_
      refine je_var 5 rfl (by first | exact Or.inl rfl | exact Or.inr (Or.inl rfl) | exact Or.inr (Or.inr rfl)) rfl (by intro z; cases z) ?_
      refine je_int ?_
      refine ⟨_, _, _, rfl, rfl, atI_hd, ?_⟩
      refine ja_nil ?_
      refine ⟨_, rfl, Nat.le_of_ble_eq_true rfl, ?_⟩
      refine jo_catL ?_ ?_
      · rw [List.length_take, List.length_map]; have := hN.sl; show min r s.2.length + 1 ≤ _; omega
      refine je_slLo ?_
      refine je_var 1 rfl (by first | exact Or.inl rfl | exact Or.inr (Or.inl rfl) | exact Or.inr (Or.inr rfl)) rfl (by intro z; cases z) ?_
      refine je_bin ?_
      refine je_ix ?_
      refine je_var 6 rfl (by first | exact Or.inl rfl | exact Or.inr (Or.inl rfl) | exact Or.inr (Or.inr rfl)) rfl (by intro z; cases z) ?_
      refine je_int ?_
      refine ⟨_, _, _, rfl, rfl, rfl, ?_⟩
      refine je_int ?_
      refine jo_add ?_
      refine ⟨((r + 1 : Nat) : Int), _, rfl, rfl, ?_⟩
      rw [cut_lo]
      refine jo_catL ?_ ?_
      · rw [List.length_append, List.length_take, List.length_drop, List.length_map]; have := hN.sl; show min r s.2.length + 1 + (s.2.length - (r + 1)) ≤ _; omega
      rw [set_cut hrb]
      refine js_nil ?_
      cases g with
      | done _ e2 => rw [eS2] at e2; cases e2
      | step _ e2 g2 =>
        rw [eS2] at e2
        cases e2
        exact ⟨_, Nat.lt_succ_self _, _, g2, rfl⟩
end
end W6
end
section
set_option Elab.async false
set_option linter.all false
set_option maxRecDepth 100000
set_option maxHeartbeats 4000000
/-! The walk: driving out, and the least. -/
namespace W6
open PySem PySem.Spec PyProof.Rows L2
theorem range_take {n i : Nat} (h : i ≤ n) : (List.range n).take i = List.range i := by
  rw [List.take_range, Nat.min_eq_left h]
def cost1 (m n : Nat) : List Rat := nts m ++ List.replicate n 1
def cost2 (costs : List Rat) (n : Nat) : List Rat := costs ++ nts n
def startB (cols : List (List Rat)) (right : List Rat) : Bd := (firstB cols right, (List.range right.length).map (cols.length + ·))
def art (many : Nat) (p : List Rat × Nat) : Bool := decide (many ≤ p.2) && decide (0 < at_ p.1 (p.1.length - 1))
def artLeft (many : Nat) (s : Bd) : Bool := ((s.1.zip s.2).map (art many)).any id
def drv (many i : Nat) (s : Bd) : Bd := (List.range i).foldl (driveStep many) s
/-- what least_by answers -/
structure LeastIs (cols : List (List Rat)) (right costs w pr : List Rat) : Prop where
  ex : ∃ n1 f1, Go (cost1 cols.length right.length) cols.length right.length (cols.length + right.length) n1 (startB cols right) f1 ∧
    ((artLeft cols.length f1 = true ∧ w = [] ∧ pr = pricesR (gapsR f1.1 f1.2 (cost1 cols.length right.length)) (right.map sgn) (cost1 cols.length right.length) cols.length) ∨
     (artLeft cols.length f1 = false ∧ (∀ i, i ≤ right.length → Nice right.length (cols.length + right.length) (drv cols.length i f1)) ∧ ∃ n2 f2, Go (cost2 costs right.length) cols.length right.length (cols.length + right.length) n2 (drv cols.length right.length f1) f2 ∧
        w = weightsR f2 cols.length ∧ pr = pricesR (gapsR f2.1 f2.2 (cost2 costs right.length)) (right.map sgn) (cost2 costs right.length) cols.length))
theorem cost1_len (m n : Nat) : (cost1 m n).length = m + n := by unfold cost1 nts; rw [List.length_append, List.length_replicate, List.length_replicate]
theorem cost2_len (costs : List Rat) (n : Nat) : (cost2 costs n).length = costs.length + n := by unfold cost2 nts; rw [List.length_append, List.length_replicate]
theorem cost1_sz (m n : Nat) : Szs 1 (cost1 m n) := fun x hx => by
  rcases List.mem_append.mp hx with h | h
  · exact szs_nts 1 m (by decide) x h
  · obtain ⟨_, rfl⟩ := List.mem_replicate.mp h
    exact sz_one
theorem cost2_sz {costs : List Rat} (h : Szs 20 costs) (n : Nat) : Szs 20 (cost2 costs n) := fun x hx => by
  rcases List.mem_append.mp hx with h2 | h2
  · exact h x h2
  · exact szs_nts 20 n (by decide) x h2
theorem signs_sz (right : List Rat) : Szs 1 (right.map sgn) := fun x hx => by
  obtain ⟨q, _, rfl⟩ := List.mem_map.mp hx
  exact sz_sgn q
theorem price_sz {b c many : Nat} {left signs costs : List Rat} (hb : Szs b left) (hb0 : 0 < b) (hc : Szs c costs) (hc0 : 0 < c) (hs : Szs 1 signs) : Szs (1 + (c + b + 1)) (pricesR left signs costs many) := fun x hx => by
  obtain ⟨p, hp, rfl⟩ := List.mem_map.mp hx
  exact sz_mul (hs _ (List.mem_of_getElem? (idx_mem hp).2)) (sz_sub (szs_at hc hc0 _) (szs_at hb hb0 _)) (by omega)
theorem gaps_szN {c M W : Nat} {s : Bd} {costs : List Rat} (hN : Nice M W s) (hM : M ≤ 4) (h0 : 0 < c) (h20 : c ≤ 20) (hc : Szs c costs) : Szs 3310 (gapsR s.1 s.2 costs) := fun x hx => by
  refine (gapsR_sz (b := 800) h0 hc (fun r hr => (hN.rl r hr).2) x hx).mono ?_
  have := Nat.mul_le_mul (show s.1.length ≤ 4 by rw [hN.bl]; exact hM) (show c + 800 + 1 ≤ 821 by omega)
  omega
theorem LeastIs.psz {cols : List (List Rat)} {right costs w pr : List Rat} (h : LeastIs cols right costs w pr) (hM : right.length ≤ 4) (hc : Szs 20 costs) : Szs 3400 pr := by
  obtain ⟨n1, f1, g1, h | ⟨_, hd, n2, f2, g2, _, rfl⟩⟩ := h.ex
  · obtain ⟨_, _, rfl⟩ := h
    exact fun x hx => (price_sz (gaps_szN g1.fin hM (by decide) (by decide) (cost1_sz _ _)) (by decide) (cost1_sz _ _) (by decide) (signs_sz right) x hx).mono (by decide)
  · exact fun x hx => (price_sz (gaps_szN g2.fin hM (by decide) (by decide) (cost2_sz hc _)) (by decide) (cost2_sz hc _) (by decide) (signs_sz right) x hx).mono (by decide)
theorem weight_sz {many b : Nat} (hb : 0 < b) : ∀ (l : List (List Rat × Nat)) (f : List Rat), (∀ p ∈ l, Szs b p.1) → Szs b f → Szs b (l.foldl (weightStep many) f)
  | [], f, _, hf => hf
  | p :: l, f, h, hf => by
    rw [List.foldl_cons]
    refine weight_sz hb l _ (fun q hq => h q (List.mem_cons_of_mem _ hq)) ?_
    unfold weightStep
    split
    · intro x hx
      rcases List.mem_or_eq_of_mem_set hx with h1 | h1
      · exact hf x h1
      · rw [h1]; exact szs_at (h p List.mem_cons_self) hb _
    · exact hf
theorem LeastIs.wsz {cols : List (List Rat)} {right costs w pr : List Rat} (h : LeastIs cols right costs w pr) : Szs 800 w := by
  obtain ⟨n1, f1, g1, h | ⟨_, hd, n2, f2, g2, rfl, _⟩⟩ := h.ex
  · obtain ⟨_, rfl, _⟩ := h
    exact fun x hx => absurd hx List.not_mem_nil
  · exact weight_sz (by decide) _ _ (fun p hp => (g2.fin.rl _ (List.of_mem_zip hp).1).2) (szs_nts 800 _ (by decide))
theorem LeastIs.wlen {cols : List (List Rat)} {right costs w pr : List Rat} (h : LeastIs cols right costs w pr) : w.length ≤ cols.length := by
  obtain ⟨n1, f1, g1, h | ⟨_, hd, n2, f2, g2, rfl, _⟩⟩ := h.ex
  · obtain ⟨_, rfl, _⟩ := h
    exact Nat.zero_le _
  · unfold weightsR
    rw [weight_len]
    unfold nts
    rw [List.length_replicate]
    exact Nat.le_refl _
theorem pricesR_len (left signs costs : List Rat) (many : Nat) : (pricesR left signs costs many).length = signs.length := by
  unfold pricesR
  rw [List.length_map, idx_len]
theorem LeastIs.plen {cols : List (List Rat)} {right costs w pr : List Rat} (h : LeastIs cols right costs w pr) : pr.length = right.length := by
  obtain ⟨n1, f1, g1, h | ⟨_, hd, n2, f2, g2, _, rfl⟩⟩ := h.ex
  · obtain ⟨_, _, rfl⟩ := h
    rw [pricesR_len, List.length_map]
  · rw [pricesR_len, List.length_map]
section
variable {E : En}
abbrev C_driven_out : List Sl → (PyData → Prop) → Prop := fun ss P => ∃ (s : Bd) (many M W : Nat), ss = [.dat (rws s.1), .dat (ixs s.2), .dat (int many)] ∧ (∀ i, i ≤ M → Nice M W (drv many i s)) ∧ many ≤ W ∧ W ≤ 100 ∧ M ≤ 100 ∧ P (.tuple [rws (drv many M s).1, ixs (drv many M s).2])
theorem D_driven_out (B : BC E) (A : At E "driven_out" s_driven_out ["board", "basis", "many"]) (D_turned_about : Def E 5 "turned_about" ["board", "at", "column"] [] C_turned_about) : Def E 6 "driven_out" ["board", "basis", "many"] [] C_driven_out := by
  refine def_at A c_driven_out (fun ss P h => by obtain ⟨s, many, M, W, rfl, _⟩ := h; rfl) fun ss P h => ?_
  obtain ⟨s, many, M, W, rfl, hN, hm, hW, hM, p⟩ := h
  have hsl : s.2.length = M := (hN 0 (Nat.zero_le _)).sl
  refine js_cons (j1_for ?_)
  refine ji_range1 B.range_ rfl ?_
  refine je_callB B.len rfl rfl ?_
  refine ja_cons ?_
  refine je_var 1 rfl (by first | exact Or.inl rfl | exact Or.inr (Or.inl rfl) | exact Or.inr (Or.inr rfl)) rfl (by intro z; cases z) ?_
  refine ja_nil ?_
  refine jc_len rfl ?_
  refine ⟨(s.2.map int).length, rfl, by rw [List.length_map]; omega, ?_⟩
  rw [List.length_map, hsl]
  refine for_fold [3, 4] (List.range M) int (fun q => [.dat (rws q.1), .dat (ixs q.2), .dat (int many), .no, .no, .no]) (driveStep many) s rfl rfl (fun i a ha => ?_) (fun ρ' e => js_forget [3, 4] e ?_)
  · have hi : i < M := by
      have := (List.getElem?_eq_some_iff.mp ha).1
      rw [List.length_range] at this
      exact this
    have ea : a = i := by
      rw [List.getElem?_range hi] at ha
      exact (Option.some.inj ha).symm
    subst ea
    rw [range_take (by omega)]
    have hQ := hN a (by omega)
    have eq : (List.range a).foldl (driveStep many) s = drv many a s := rfl
    rw [eq]
    generalize drv many a s = q at hQ
    have e1 : a < q.1.length := by rw [hQ.bl]; exact hi
    have e2 : a < q.2.length := by rw [hQ.sl]; exact hi
    have hrow := hQ.rl _ (List.mem_of_getElem? (getD_lt (d := []) e1))
    have eS : driveStep many q a = if many ≤ q.2.getD a 0 then (match (List.range many).filter fun c => decide (at_ (q.1.getD a []) c ≠ 0) with
      | [] => q
      | c :: _ => (turnR q.1 a c, q.2.set a c)) else q := rfl
    have d1 : decide ((many : Int) ≤ (q.2.getD a 0 : Int)) = decide (many ≤ q.2.getD a 0) := by
      by_cases h : many ≤ q.2.getD a 0
      · rw [decide_eq_true h, decide_eq_true (by omega)]
      · rw [decide_eq_false h, decide_eq_false (by omega)]
    refine jg_name 3 (by decide +kernel) rfl (by first | exact Or.inl rfl | exact Or.inr rfl) ?_
    refine js_cons (j1_if ?_)
    refine jt_cmp ?_
    refine je_ix ?_
    refine je_var 1 rfl (by first | exact Or.inl rfl | exact Or.inr (Or.inl rfl) | exact Or.inr (Or.inr rfl)) rfl (by intro z; cases z) ?_
    refine je_var 3 rfl (by first | exact Or.inl rfl | exact Or.inr (Or.inl rfl) | exact Or.inr (Or.inr rfl)) rfl (by intro z; cases z) ?_
    refine ⟨_, _, _, rfl, rfl, atI_map (getD_lt (d := 0) e2), ?_⟩
    refine je_var 2 rfl (by first | exact Or.inl rfl | exact Or.inr (Or.inl rfl) | exact Or.inr (Or.inr rfl)) rfl (by intro z; cases z) ?_
    refine jo_ge ?_
    refine ⟨_, rfl, ?_⟩
    rw [d1]
    refine ⟨fun hk => ?_, fun hk => ?_⟩
    · rw [if_pos (of_decide_eq_true hk)] at eS
      refine js_cons (j1_setLc1 4 5 (by decide +kernel) rfl rfl (by decide +kernel) rfl rfl (by intro env h; cases env; cases h; first | rfl | with_unfolding_all rfl) ?_)
      refine ji_range1 B.range_ rfl ?_
      refine je_var 2 rfl (by first | exact Or.inl rfl | exact Or.inr (Or.inl rfl) | exact Or.inr (Or.inr rfl)) rfl (by intro z; cases z) ?_
      refine ⟨many, rfl, by omega, lcKeep (List.range many) int int (fun i => decide (at_ (q.1.getD a []) i ≠ 0)) (by rw [List.length_range]; omega) (fun i hi => ?_) (fun i hi _ => ?_) ?_⟩
      · refine jt_cmp ?_
        refine je_ix ?_
        refine je_ix ?_
        refine je_ix ?_
        refine je_var 0 rfl (by first | exact Or.inl rfl | exact Or.inr (Or.inl rfl) | exact Or.inr (Or.inr rfl)) rfl (by intro z; cases z) ?_
        refine je_var 3 rfl (by first | exact Or.inl rfl | exact Or.inr (Or.inl rfl) | exact Or.inr (Or.inr rfl)) rfl (by intro z; cases z) ?_
        refine ⟨_, _, _, rfl, rfl, atI_map (getD_lt (d := []) e1), ?_⟩
        refine je_var 5 rfl (by first | exact Or.inl rfl | exact Or.inr (Or.inl rfl) | exact Or.inr (Or.inr rfl)) rfl (by intro z; cases z) ?_
        refine ⟨_, _, _, rfl, rfl, atI_fr (by rw [hrow.1]; have := List.mem_range.mp hi; omega), ?_⟩
        refine je_int ?_
        refine ⟨_, _, _, rfl, rfl, rfl, ?_⟩
        refine je_int ?_
        refine jo_neI ?_
        refine ⟨_, rfl, ?_⟩
        rw [num_eq0]
        simp
      · refine je_var 5 rfl (by first | exact Or.inl rfl | exact Or.inr (Or.inl rfl) | exact Or.inr (Or.inr rfl)) rfl (by intro z; cases z) ?_
        rfl
      cases ho : (List.range many).filter (fun i => decide (at_ (q.1.getD a []) i ≠ 0)) with
      | nil =>
        rw [ho] at eS
        rw [eS]
        refine js_cons (j1_if ?_)
        refine jt_cmp ?_
        refine je_var 4 rfl (by first | exact Or.inl rfl | exact Or.inr (Or.inl rfl) | exact Or.inr (Or.inr rfl)) rfl (by intro z; cases z) ?_
        refine je_lst ?_
        refine ja_nil ?_
        refine ⟨_, rfl, Nat.le_of_ble_eq_true rfl, ?_⟩
        refine jo_neD rfl rfl ?_ ?_ ?_
        rfl
        rfl
        refine ⟨_, rfl, ?_⟩
        refine ⟨fun z => (nomatch z), fun _ => ?_⟩
        refine js_nil ?_
        refine js_nil ?_
        refine js_nil ?_
        rfl
      | cons c rest =>
        rw [ho] at eS
        rw [eS]
        have hc : c ∈ (List.range many).filter (fun i => decide (at_ (q.1.getD a []) i ≠ 0)) := by rw [ho]; exact List.mem_cons_self
        obtain ⟨hc1, hc2⟩ := List.mem_filter.mp hc
        have hc1 := List.mem_range.mp hc1
        refine js_cons (j1_if ?_)
        refine jt_cmp ?_
        refine je_var 4 rfl (by first | exact Or.inl rfl | exact Or.inr (Or.inl rfl) | exact Or.inr (Or.inr rfl)) rfl (by intro z; cases z) ?_
        refine je_lst ?_
        refine ja_nil ?_
        refine ⟨_, rfl, Nat.le_of_ble_eq_true rfl, ?_⟩
        refine jo_neD rfl rfl ?_ ?_ ?_
        exact shIxs _
        rfl
        refine ⟨_, rfl, ?_⟩
        refine ⟨fun _ => ?_, fun z => nomatch z⟩
        refine js_cons (j1_set 0 (by decide +kernel) rfl (by first | exact Or.inl rfl | exact Or.inr rfl) ?_)
        refine je_call D_turned_about (Nat.le_of_ble_eq_true rfl) rfl ?_
        refine ja_cons ?_
        refine je_var 0 rfl (by first | exact Or.inl rfl | exact Or.inr (Or.inl rfl) | exact Or.inr (Or.inr rfl)) rfl (by intro z; cases z) ?_
        refine ja_cons ?_
        refine je_var 3 rfl (by first | exact Or.inl rfl | exact Or.inr (Or.inl rfl) | exact Or.inr (Or.inr rfl)) rfl (by intro z; cases z) ?_
        refine ja_cons ?_
        refine je_ix ?_
        refine je_var 4 rfl (by first | exact Or.inl rfl | exact Or.inr (Or.inl rfl) | exact Or.inr (Or.inr rfl)) rfl (by intro z; cases z) ?_
        refine je_int ?_
        refine ⟨_, _, _, rfl, rfl, atI_hd, ?_⟩
        refine ja_nil ?_
        refine ⟨q.1, a, c, rfl, e1, by rw [hQ.bl]; exact hM, ⟨800, W + 1, by decide, by decide, by omega, by omega, fun row hrow => hQ.rl row hrow⟩, of_decide_eq_true hc2, ?_⟩
        refine js_cons (j1_set 1 (by decide +kernel) rfl (by first | exact Or.inl rfl | exact Or.inr rfl) ?_)
        refine je_bin ?_
        refine je_bin ?_
        refine je_slHi ?_
        refine je_var 1 rfl (by first | exact Or.inl rfl | exact Or.inr (Or.inl rfl) | exact Or.inr (Or.inr rfl)) rfl (by intro z; cases z) ?_
        refine je_var 3 rfl (by first | exact Or.inl rfl | exact Or.inr (Or.inl rfl) | exact Or.inr (Or.inr rfl)) rfl (by intro z; cases z) ?_
        refine ⟨(a : Int), _, rfl, rfl, ?_⟩
        rw [cut_hi]
        refine je_lst ?_
        refine ja_cons ?_
        refine je_ix ?_
        refine je_var 4 rfl (by first | exact Or.inl rfl | exact Or.inr (Or.inl rfl) | exact Or.inr (Or.inr rfl)) rfl (by intro z; cases z) ?_
        refine je_int ?_
        refine ⟨_, _, _, rfl, rfl, atI_hd, ?_⟩
        refine ja_nil ?_
        refine ⟨_, rfl, Nat.le_of_ble_eq_true rfl, ?_⟩
        refine jo_catL ?_ ?_
        · rw [List.length_take, List.length_map]; show min a q.2.length + 1 ≤ _; omega
        refine je_slLo ?_
        refine je_var 1 rfl (by first | exact Or.inl rfl | exact Or.inr (Or.inl rfl) | exact Or.inr (Or.inr rfl)) rfl (by intro z; cases z) ?_
        refine je_bin ?_
        refine je_var 3 rfl (by first | exact Or.inl rfl | exact Or.inr (Or.inl rfl) | exact Or.inr (Or.inr rfl)) rfl (by intro z; cases z) ?_
        refine je_int ?_
        refine jo_add ?_
        refine ⟨((a + 1 : Nat) : Int), _, rfl, rfl, ?_⟩
        rw [cut_lo]
        refine jo_catL ?_ ?_
        · rw [List.length_append, List.length_take, List.length_drop, List.length_map]; show min a q.2.length + 1 + (q.2.length - (a + 1)) ≤ _; have := hQ.sl; omega
        rw [set_cut e2]
        refine js_nil ?_
        refine js_nil ?_
        refine js_nil ?_
        rfl
    · rw [if_neg (of_decide_eq_false hk)] at eS
      rw [eS]
      refine js_nil ?_
      refine js_nil ?_
      rfl
  · refine js_cons (j1_ret ?_)
    refine je_tup ?_
    refine ja_cons ?_
    refine je_var 0 rfl (by first | exact Or.inl rfl | exact Or.inr (Or.inl rfl) | exact Or.inr (Or.inr rfl)) rfl (by intro z; cases z) ?_
    refine ja_cons ?_
    refine je_var 1 rfl (by first | exact Or.inl rfl | exact Or.inr (Or.inl rfl) | exact Or.inr (Or.inr rfl)) rfl (by intro z; cases z) ?_
    refine ja_nil ?_
    refine ⟨_, rfl, Nat.le_of_ble_eq_true rfl, ?_⟩
    exact ⟨_, rfl, p⟩
abbrev C_least_by : List Sl → (PyData → Prop) → Prop := fun ss P => ∃ (cols : List (List Rat)) (right costs w pr : List Rat) (cd : PyData), ss = [.dat (rws cols), .dat (rw_ right), .dat cd] ∧ (cd = rw_ costs ∨ cd = .list (costs.map fr)) ∧ (∀ c ∈ cols, c.length = right.length ∧ Szs 1000 c) ∧ Szs 1000 right ∧ cols.length ≤ 50 ∧ right.length ≤ 4 ∧ costs.length = cols.length ∧ Szs 20 costs ∧ LeastIs cols right costs w pr ∧ P (.tuple [rw_ w, rw_ pr])
theorem D_least_by (B : BC E) (A : At E "least_by" s_least_by ["columns", "right", "costs"]) (D_noughts : Def E 1 "noughts" ["many"] [] C_noughts) (D_first_board : Def E 4 "first_board" ["columns", "right"] [] C_first_board) (D_descended : Def E 6 "descended" ["board", "basis", "costs", "many"] [] C_descended) (D_prices : Def E 4 "prices" ["left", "signs", "costs", "many"] [] C_prices) (D_driven_out : Def E 6 "driven_out" ["board", "basis", "many"] [] C_driven_out) (D_weights_by : Def E 2 "weights_by" ["board", "basis", "many"] [] C_weights_by) : Def E 7 "least_by" ["columns", "right", "costs"] [] C_least_by := by
  refine def_at A c_least_by (fun ss P h => by obtain ⟨cols, right, costs, w, pr, cd, rfl, _⟩ := h; rfl) fun ss P h => ?_
  obtain ⟨cols, right, costs, w, pr, cd, rfl, hcd, hcols, hright, hm, hn, hlen, hcs, ⟨hL⟩, p⟩ := h
  obtain ⟨n1, f1, g1, hL⟩ := hL
  refine js_cons (j1_asg ?_)
  refine je_tup ?_
  refine ja_cons ?_
  refine je_callB B.len rfl rfl ?_
  refine ja_cons ?_
  refine je_var 0 rfl (by first | exact Or.inl rfl | exact Or.inr (Or.inl rfl) | exact Or.inr (Or.inr rfl)) rfl (by intro z; cases z) ?_
  refine ja_nil ?_
  refine jc_len rfl ?_
  refine ja_cons ?_
  refine je_callB B.len rfl rfl ?_
  refine ja_cons ?_
  refine je_var 1 rfl (by first | exact Or.inl rfl | exact Or.inr (Or.inl rfl) | exact Or.inr (Or.inr rfl)) rfl (by intro z; cases z) ?_
  refine ja_nil ?_
  refine jc_len rfl ?_
  refine ja_nil ?_
  refine ⟨_, rfl, Nat.le_of_ble_eq_true rfl, ?_⟩
  refine ⟨_, rfl, ?_⟩
  refine jg_tup ⟨_, rfl, rfl, ?_⟩
  refine jgs_cons ?_
  refine jg_name 3 (by decide +kernel) rfl (by first | exact Or.inl rfl | exact Or.inr rfl) ?_
  refine jgs_cons ?_
  refine jg_name 4 (by decide +kernel) rfl (by first | exact Or.inl rfl | exact Or.inr rfl) ?_
  refine jgs_nil ?_
  rw [List.length_map, List.length_map]
  refine js_cons (j1_asg ?_)
  refine je_call D_first_board (Nat.le_of_ble_eq_true rfl) rfl ?_
  refine ja_cons ?_
  refine je_var 0 rfl (by first | exact Or.inl rfl | exact Or.inr (Or.inl rfl) | exact Or.inr (Or.inr rfl)) rfl (by intro z; cases z) ?_
  refine ja_cons ?_
  refine je_var 1 rfl (by first | exact Or.inl rfl | exact Or.inr (Or.inl rfl) | exact Or.inr (Or.inr rfl)) rfl (by intro z; cases z) ?_
  refine ja_nil ?_
  refine ⟨cols, right, rfl, hcols, hright, by omega, by omega, ?_⟩
  refine ⟨_, rfl, ?_⟩
  refine jg_tup ⟨_, rfl, rfl, ?_⟩
  refine jgs_cons ?_
  refine jg_name 5 (by decide +kernel) rfl (by first | exact Or.inl rfl | exact Or.inr rfl) ?_
  refine jgs_cons ?_
  refine jg_name 6 (by decide +kernel) rfl (by first | exact Or.inl rfl | exact Or.inr rfl) ?_
  refine jgs_nil ?_
  refine js_cons (j1_set 7 (by decide +kernel) rfl (by first | exact Or.inl rfl | exact Or.inr rfl) ?_)
  refine je_bin ?_
  refine je_call D_noughts (Nat.le_of_ble_eq_true rfl) rfl ?_
  refine ja_cons ?_
  refine je_var 3 rfl (by first | exact Or.inl rfl | exact Or.inr (Or.inl rfl) | exact Or.inr (Or.inr rfl)) rfl (by intro z; cases z) ?_
  refine ja_nil ?_
  refine ⟨cols.length, rfl, by omega, ?_⟩
  refine je_bin ?_
  refine je_tup ?_
  refine ja_cons ?_
  refine je_glob B.one rfl ?_
  refine ja_nil ?_
  refine ⟨_, rfl, Nat.le_of_ble_eq_true rfl, ?_⟩
  refine je_var 4 rfl (by first | exact Or.inl rfl | exact Or.inr (Or.inl rfl) | exact Or.inr (Or.inr rfl)) rfl (by intro z; cases z) ?_
  refine jo_repT (by omega) ?_
  refine jo_catT ?_ ?_
  · rw [List.length_map]; unfold nts; rw [List.length_replicate, List.length_replicate]; omega
  have e1 : PyData.tuple ((nts cols.length).map fr ++ List.replicate right.length (fr 1)) = rw_ (cost1 cols.length right.length) := by
    show _ = PyData.tuple (List.map fr (nts cols.length ++ List.replicate right.length 1))
    rw [List.map_append, List.map_replicate (a := (1 : Rat))]
  rw [e1]
  have hK0 : (right.length + 1) * (1 + 800 + 1) ≤ 6000 := Nat.le_trans (Nat.mul_le_mul_right _ (Nat.succ_le_succ hn)) (by decide)
  have hK : (right.length + 1) * (20 + 800 + 1) ≤ 6000 := Nat.le_trans (Nat.mul_le_mul_right _ (Nat.succ_le_succ hn)) (by decide)
  refine js_cons (j1_asg ?_)
  refine je_call D_descended (Nat.le_of_ble_eq_true rfl) rfl ?_
  refine ja_cons ?_
  refine je_var 5 rfl (by first | exact Or.inl rfl | exact Or.inr (Or.inl rfl) | exact Or.inr (Or.inr rfl)) rfl (by intro z; cases z) ?_
  refine ja_cons ?_
  refine je_listRg (x := "") (y := "") B.list_ rfl B.range_ rfl ?_
  refine je_var 3 rfl (by first | exact Or.inl rfl | exact Or.inr (Or.inl rfl) | exact Or.inr (Or.inr rfl)) rfl (by intro z; cases z) ?_
  refine je_bin ?_
  refine je_var 3 rfl (by first | exact Or.inl rfl | exact Or.inr (Or.inl rfl) | exact Or.inr (Or.inr rfl)) rfl (by intro z; cases z) ?_
  refine je_var 4 rfl (by first | exact Or.inl rfl | exact Or.inr (Or.inl rfl) | exact Or.inr (Or.inr rfl)) rfl (by intro z; cases z) ?_
  refine jo_add ?_
  refine ⟨_, _, rfl, rfl, by omega, ?_⟩
  refine ja_cons ?_
  refine je_var 7 rfl (by first | exact Or.inl rfl | exact Or.inr (Or.inl rfl) | exact Or.inr (Or.inr rfl)) rfl (by intro z; cases z) ?_
  refine ja_cons ?_
  refine je_var 3 rfl (by first | exact Or.inl rfl | exact Or.inr (Or.inl rfl) | exact Or.inr (Or.inr rfl)) rfl (by intro z; cases z) ?_
  refine ja_nil ?_
  refine ⟨cost1 cols.length right.length, cols.length, right.length, cols.length + right.length, n1, startB cols right, f1, ?_, g1, ⟨1, by decide, by decide, cost1_sz _ _, hK0⟩, cost1_len _ _, by omega, by omega, ?_⟩
  · have e : (List.range (((cols.length : Int) + (right.length : Int)) - (cols.length : Int)).toNat).map (fun (k : Nat) => PyData.int ((cols.length : Int) + (k : Int))) = (startB cols right).2.map int := by
      rw [show (((cols.length : Int) + (right.length : Int)) - (cols.length : Int)).toNat = right.length by omega]
      show _ = List.map int (List.map _ _)
      rw [List.map_map]
      rfl
    show [Sl.dat _, Sl.dat (.list ((List.range (((cols.length : Int) + (right.length : Int)) - (cols.length : Int)).toNat).map (fun (k : Nat) => PyData.int ((cols.length : Int) + (k : Int))))), _, _] = _
    rw [e]
    rfl
  refine ⟨_, rfl, ?_⟩
  refine jg_tup ⟨_, rfl, rfl, ?_⟩
  refine jgs_cons ?_
  refine jg_name 5 (by decide +kernel) rfl (by first | exact Or.inl rfl | exact Or.inr rfl) ?_
  refine jgs_cons ?_
  refine jg_name 8 (by decide +kernel) rfl (by first | exact Or.inl rfl | exact Or.inr rfl) ?_
  refine jgs_cons ?_
  refine jg_name 9 (by decide +kernel) rfl (by first | exact Or.inl rfl | exact Or.inr rfl) ?_
  refine jgs_nil ?_
  refine js_forget [] (ρ0 := [.dat (rws cols), .dat (rw_ right), .dat cd, .dat (int cols.length), .dat (int right.length), .dat (rws f1.1), .dat (.list ((right.map sgn).map fr)), .dat (rw_ (cost1 cols.length right.length)), .dat (ixs f1.2), .dat (.list ((gapsR f1.1 f1.2 (cost1 cols.length right.length)).map fr)), .no, .no]) rfl ?_
  have hF := g1.fin
  refine js_cons (j1_if ?_)
  refine jt_val ?_
  refine je_callB B.any rfl rfl ?_
  refine ja_cons ?_
  refine je_lc2 10 11 (by decide +kernel) (by decide +kernel) rfl rfl rfl rfl ?_
  refine ji_zip B.zip_ rfl ?_
  refine je_var 5 rfl (by first | exact Or.inl rfl | exact Or.inr (Or.inl rfl) | exact Or.inr (Or.inr rfl)) rfl (by intro z; cases z) ?_
  refine je_var 8 rfl (by first | exact Or.inl rfl | exact Or.inr (Or.inl rfl) | exact Or.inr (Or.inr rfl)) rfl (by intro z; cases z) ?_
  refine ⟨_, _, _, _, _, _, rfl, rfl, rfl, rfl, ?_⟩
  rw [zipD_map]
  have hz : (f1.1.zip f1.2).length ≤ 100000 := by rw [List.length_zip, hF.bl]; omega
  refine lc2Map (f1.1.zip f1.2) _ _ (fun p => .bool (art cols.length p)) hz (fun a ha => ?_) ?_
  · have d1 : decide ((cols.length : Int) ≤ (a.2 : Int)) = decide (cols.length ≤ a.2) := by
      by_cases h : cols.length ≤ a.2
      · rw [decide_eq_true h, decide_eq_true (by omega)]
      · rw [decide_eq_false h, decide_eq_false (by omega)]
    refine je_and ?_
    refine je_cmp ?_
    refine je_var 11 rfl (by first | exact Or.inl rfl | exact Or.inr (Or.inl rfl) | exact Or.inr (Or.inr rfl)) rfl (by intro z; cases z) ?_
    refine je_var 3 rfl (by first | exact Or.inl rfl | exact Or.inr (Or.inl rfl) | exact Or.inr (Or.inr rfl)) rfl (by intro z; cases z) ?_
    refine jo_ge ?_
    refine ⟨_, rfl, ?_⟩
    rw [d1]
    refine ⟨fun hk => ?_, fun hk => ?_⟩
    · refine je_one ?_
      refine je_cmp ?_
      refine je_ix ?_
      refine je_ix ?_
      refine je_var 10 rfl (by first | exact Or.inl rfl | exact Or.inr (Or.inl rfl) | exact Or.inr (Or.inr rfl)) rfl (by intro z; cases z) ?_
      refine je_neg ?_
      refine je_int ?_
      refine ⟨_, rfl, ?_⟩
      refine ⟨_, _, _, rfl, rfl, atI_end (by rw [(hF.rl _ (List.of_mem_zip ha).1).1]; omega), ?_⟩
      refine je_int ?_
      refine ⟨_, _, _, rfl, rfl, rfl, ?_⟩
      refine je_int ?_
      refine jo_gt ?_
      rw [num_gt0]
      unfold art
      rw [hk]
      rfl
    · unfold art
      rw [hk]
      rfl
  have e2 : (f1.1.zip f1.2).map (fun p => PyData.bool (art cols.length p)) = ((f1.1.zip f1.2).map (art cols.length)).map PyData.bool := by rw [List.map_map]; rfl
  rw [e2]
  refine ja_nil ?_
  refine jc_any ?_
  have e3 : ((f1.1.zip f1.2).map (art cols.length)).any id = artLeft cols.length f1 := rfl
  rw [e3]
  have hg1 : (gapsR f1.1 f1.2 (cost1 cols.length right.length)).length = cols.length + right.length := by rw [gapsR_len (fun r hr => by rw [(hF.rl r hr).1, cost1_len]; omega), cost1_len]
  refine ⟨_, rfl, ?_⟩
  refine ⟨fun hk => ?_, fun hk => ?_⟩
  · rcases hL with ⟨_, hw, hpr⟩ | ⟨h, _⟩
    · subst hw
      refine js_cons (j1_ret ?_)
      refine je_tup ?_
      refine ja_cons ?_
      refine je_tup ?_
      refine ja_nil ?_
      refine ⟨_, rfl, Nat.le_of_ble_eq_true rfl, ?_⟩
      refine ja_cons ?_
      refine je_call D_prices (Nat.le_of_ble_eq_true rfl) rfl ?_
      refine ja_cons ?_
      refine je_var 9 rfl (by first | exact Or.inl rfl | exact Or.inr (Or.inl rfl) | exact Or.inr (Or.inr rfl)) rfl (by intro z; cases z) ?_
      refine ja_cons ?_
      refine je_var 6 rfl (by first | exact Or.inl rfl | exact Or.inr (Or.inl rfl) | exact Or.inr (Or.inr rfl)) rfl (by intro z; cases z) ?_
      refine ja_cons ?_
      refine je_var 7 rfl (by first | exact Or.inl rfl | exact Or.inr (Or.inl rfl) | exact Or.inr (Or.inr rfl)) rfl (by intro z; cases z) ?_
      refine ja_cons ?_
      refine je_var 3 rfl (by first | exact Or.inl rfl | exact Or.inr (Or.inl rfl) | exact Or.inr (Or.inr rfl)) rfl (by intro z; cases z) ?_
      refine ja_nil ?_
      refine ⟨_, right.map sgn, cost1 cols.length right.length, cols.length, rfl, ⟨3310, 1, gaps_szN hF hn (by decide) (by decide) (cost1_sz _ _), cost1_sz _ _, by decide⟩, signs_sz right, by rw [hg1, List.length_map], by rw [cost1_len, List.length_map], by rw [List.length_map]; omega, ?_⟩
      rw [← hpr]
      refine ja_nil ?_
      refine ⟨_, rfl, Nat.le_of_ble_eq_true rfl, ?_⟩
      exact ⟨_, rfl, p⟩
    · rw [h] at hk; cases hk
  · rcases hL with ⟨h, _⟩ | ⟨_, hD, n2, f2, g2, hw, hpr⟩
    · rw [h] at hk; cases hk
    · refine js_nil ?_
      refine js_cons (j1_asg ?_)
      refine je_call D_driven_out (Nat.le_of_ble_eq_true rfl) rfl ?_
      refine ja_cons ?_
      refine je_var 5 rfl (by first | exact Or.inl rfl | exact Or.inr (Or.inl rfl) | exact Or.inr (Or.inr rfl)) rfl (by intro z; cases z) ?_
      refine ja_cons ?_
      refine je_var 8 rfl (by first | exact Or.inl rfl | exact Or.inr (Or.inl rfl) | exact Or.inr (Or.inr rfl)) rfl (by intro z; cases z) ?_
      refine ja_cons ?_
      refine je_var 3 rfl (by first | exact Or.inl rfl | exact Or.inr (Or.inl rfl) | exact Or.inr (Or.inr rfl)) rfl (by intro z; cases z) ?_
      refine ja_nil ?_
      refine ⟨f1, cols.length, right.length, cols.length + right.length, rfl, hD, by omega, by omega, by omega, ?_⟩
      refine ⟨_, rfl, ?_⟩
      refine jg_tup ⟨_, rfl, rfl, ?_⟩
      refine jgs_cons ?_
      refine jg_name 5 (by decide +kernel) rfl (by first | exact Or.inl rfl | exact Or.inr rfl) ?_
      refine jgs_cons ?_
      refine jg_name 8 (by decide +kernel) rfl (by first | exact Or.inl rfl | exact Or.inr rfl) ?_
      refine jgs_nil ?_
      refine js_cons (j1_set 7 (by decide +kernel) rfl (by first | exact Or.inl rfl | exact Or.inr rfl) ?_)
      refine je_bin ?_
      have hF2 := g2.fin
      have hg2 : (gapsR f2.1 f2.2 (cost2 costs right.length)).length = cols.length + right.length := by rw [gapsR_len (fun r hr => by rw [(hF2.rl r hr).1, cost2_len]; omega), cost2_len, hlen]
      refine je_callTy B.tuple_ rfl rfl ?_
      refine ja_cons ?_
      refine je_var 2 rfl (by first | exact Or.inl rfl | exact Or.inr (Or.inl rfl) | exact Or.inr (Or.inr rfl)) rfl (by intro z; cases z) ?_
      refine ja_nil ?_
      refine jc_tuple (xs := costs.map fr) (by rcases hcd with h | h <;> rw [h] <;> rfl) ?_
      refine je_call D_noughts (Nat.le_of_ble_eq_true rfl) rfl ?_
      refine ja_cons ?_
      refine je_var 4 rfl (by first | exact Or.inl rfl | exact Or.inr (Or.inl rfl) | exact Or.inr (Or.inr rfl)) rfl (by intro z; cases z) ?_
      refine ja_nil ?_
      refine ⟨right.length, rfl, by omega, ?_⟩
      refine jo_catT ?_ ?_
      · rw [List.length_map, List.length_map]; unfold nts; rw [List.length_replicate]; omega
      have e4 : PyData.tuple (costs.map fr ++ (nts right.length).map fr) = rw_ (cost2 costs right.length) := by
        show _ = PyData.tuple (List.map fr (costs ++ nts right.length))
        rw [List.map_append]
      rw [e4]
      refine js_cons (j1_asg ?_)
      refine je_call D_descended (Nat.le_of_ble_eq_true rfl) rfl ?_
      refine ja_cons ?_
      refine je_var 5 rfl (by first | exact Or.inl rfl | exact Or.inr (Or.inl rfl) | exact Or.inr (Or.inr rfl)) rfl (by intro z; cases z) ?_
      refine ja_cons ?_
      refine je_var 8 rfl (by first | exact Or.inl rfl | exact Or.inr (Or.inl rfl) | exact Or.inr (Or.inr rfl)) rfl (by intro z; cases z) ?_
      refine ja_cons ?_
      refine je_var 7 rfl (by first | exact Or.inl rfl | exact Or.inr (Or.inl rfl) | exact Or.inr (Or.inr rfl)) rfl (by intro z; cases z) ?_
      refine ja_cons ?_
      refine je_var 3 rfl (by first | exact Or.inl rfl | exact Or.inr (Or.inl rfl) | exact Or.inr (Or.inr rfl)) rfl (by intro z; cases z) ?_
      refine ja_nil ?_
      refine ⟨cost2 costs right.length, cols.length, right.length, cols.length + right.length, n2, drv cols.length right.length f1, f2, rfl, g2, ⟨20, by decide, by decide, cost2_sz hcs _, hK⟩, by rw [cost2_len, hlen], by omega, by omega, ?_⟩
      refine ⟨_, rfl, ?_⟩
      refine jg_tup ⟨_, rfl, rfl, ?_⟩
      refine jgs_cons ?_
      refine jg_name 5 (by decide +kernel) rfl (by first | exact Or.inl rfl | exact Or.inr rfl) ?_
      refine jgs_cons ?_
      refine jg_name 8 (by decide +kernel) rfl (by first | exact Or.inl rfl | exact Or.inr rfl) ?_
      refine jgs_cons ?_
      refine jg_name 9 (by decide +kernel) rfl (by first | exact Or.inl rfl | exact Or.inr rfl) ?_
      refine jgs_nil ?_
      refine js_forget [] (ρ0 := [.dat (rws cols), .dat (rw_ right), .dat cd, .dat (int cols.length), .dat (int right.length), .dat (rws f2.1), .dat (.list ((right.map sgn).map fr)), .dat (rw_ (cost2 costs right.length)), .dat (ixs f2.2), .dat (.list ((gapsR f2.1 f2.2 (cost2 costs right.length)).map fr)), .no, .no]) rfl ?_
      refine js_cons (j1_ret ?_)
      refine je_tup ?_
      refine ja_cons ?_
      refine je_call D_weights_by (Nat.le_of_ble_eq_true rfl) rfl ?_
      refine ja_cons ?_
      refine je_var 5 rfl (by first | exact Or.inl rfl | exact Or.inr (Or.inl rfl) | exact Or.inr (Or.inr rfl)) rfl (by intro z; cases z) ?_
      refine ja_cons ?_
      refine je_var 8 rfl (by first | exact Or.inl rfl | exact Or.inr (Or.inl rfl) | exact Or.inr (Or.inr rfl)) rfl (by intro z; cases z) ?_
      refine ja_cons ?_
      refine je_var 3 rfl (by first | exact Or.inl rfl | exact Or.inr (Or.inl rfl) | exact Or.inr (Or.inr rfl)) rfl (by intro z; cases z) ?_
      refine ja_nil ?_
      refine ⟨f2.1, f2.2, cols.length, rfl, fun r hr => by rw [(hF2.rl r hr).1]; omega, by omega, ?_⟩
      rw [← hw]
      refine ja_cons ?_
      refine je_call D_prices (Nat.le_of_ble_eq_true rfl) rfl ?_
      refine ja_cons ?_
      refine je_var 9 rfl (by first | exact Or.inl rfl | exact Or.inr (Or.inl rfl) | exact Or.inr (Or.inr rfl)) rfl (by intro z; cases z) ?_
      refine ja_cons ?_
      refine je_var 6 rfl (by first | exact Or.inl rfl | exact Or.inr (Or.inl rfl) | exact Or.inr (Or.inr rfl)) rfl (by intro z; cases z) ?_
      refine ja_cons ?_
      refine je_var 7 rfl (by first | exact Or.inl rfl | exact Or.inr (Or.inl rfl) | exact Or.inr (Or.inr rfl)) rfl (by intro z; cases z) ?_
      refine ja_cons ?_
      refine je_var 3 rfl (by first | exact Or.inl rfl | exact Or.inr (Or.inl rfl) | exact Or.inr (Or.inr rfl)) rfl (by intro z; cases z) ?_
      refine ja_nil ?_
      refine ⟨_, right.map sgn, cost2 costs right.length, cols.length, rfl, ⟨3310, 20, gaps_szN hF2 hn (by decide) (by decide) (cost2_sz hcs _), cost2_sz hcs _, by decide⟩, signs_sz right, by rw [hg2, List.length_map], by rw [cost2_len, hlen, List.length_map], by rw [List.length_map]; omega, ?_⟩
      rw [← hpr]
      refine ja_nil ?_
      refine ⟨_, rfl, Nat.le_of_ble_eq_true rfl, ?_⟩
      exact ⟨_, rfl, p⟩
end
end W6
end
section
set_option Elab.async false
set_option linter.all false
set_option maxRecDepth 100000
set_option maxHeartbeats 4000000
/-! The walk: void or greatest. -/
namespace W6
open PySem PySem.Spec PyProof.Rows L2
/-- a def with defaults stands under its name -/
structure AtD (E : En) (x : Str) (stm : Stmt) (ps : List Str) (d : List PyData) : Prop where
  ex : ∃ f fd dvs ws kws ds, FunD E.K x x (defArgs stm) (defBody stm) (defScope stm) ws kws f fd ∧ E.mg x = some (.ref f) ∧ Binds E.K fd ps ds ∧ Vals dvs ds ∧ ∀ H, DqAll E.K H dvs d
theorem def_atD {E : En} {x : Str} {stm : Stmt} {N ps : List Str} {d : List PyData} {k : Nat} {C : List Sl → (PyData → Prop) → Prop} (A : AtD E x stm ps d) (S : FnScope N ps (defScope stm)) (hl : ∀ ss P, C ss P → ss.length = ps.length)
    (h : ∀ ss P, C ss P → JS E ⟨N, defScope stm, true, k, fun _ => True⟩ false (ss ++ List.replicate (N.length - ss.length) .no) (defBody stm) ⟨fun _ => P .none, P, fun _ => False, fun _ => False⟩) : Def E (k + 1) x ps d C := by
  obtain ⟨f, fd, dvs, ws, kws, ds, F, hm, hb, hv, hd⟩ := A.ex
  refine ⟨f, fd, dvs, ds, F.ok S (fun vs H Q Ex hsp => ?_) (fun cdv A outer s H vs Q Ex hr hsp => ?_), hm, F.kp, hb, hv, hd⟩
  · obtain ⟨W, M, ss, P, st, ok, hC, q⟩ := hsp
    rw [← hl ss P hC]
    exact Paired.length ok
  · obtain ⟨t, h1, h2⟩ := def_body h cdv A outer s H vs Q Ex hr hsp
    exact ⟨t, h1.nox, h2⟩
theorem zipD_self {α : Type} (f g : α → PyData) : ∀ xs : List α, zipD (xs.map f) (xs.map g) = xs.map fun a => .tuple [f a, g a]
  | [] => rfl
  | x :: xs => by
    show PyData.tuple [f x, g x] :: zipD (xs.map f) (xs.map g) = _
    rw [zipD_self f g xs]
    rfl
abbrev Wish := List Rat × Rat
abbrev wishD (p : Wish) : PyData := .tuple [rw_ p.1, fr p.2]
abbrev lotD (k : Nat) (ws : List Wish) : PyData := .tuple [int k, .tuple (ws.map wishD)]
def rowsOf (ws : List Wish) : List (List Rat) := ws.map (·.1)
def bndsOf (ws : List Wish) : List Rat := ws.map (·.2)
def colsV (ws : List Wish) : List (List Rat) := ws.map fun p => p.1 ++ [p.2]
def rightV (k : Nat) : List Rat := nts k ++ [-1]
def pointV (k : Nat) (pr : List Rat) : List Rat := (negR (pr.take k)).map (· / at_ pr k)
structure LotOk (k : Nat) (ws : List Wish) : Prop where
  k0 : 1 ≤ k
  k1 : k ≤ 3
  len : ws.length ≤ 6
  sz : ∀ p ∈ ws, p.1.length = k ∧ Szs 7 p.1 ∧ Sz 13 p.2
theorem rws_of (ws : List Wish) : PyData.list (ws.map fun p => rw_ p.1) = rws (rowsOf ws) := by
  unfold rowsOf
  show _ = PyData.list (List.map rw_ (List.map _ ws))
  rw [List.map_map]
  rfl
theorem bds_of (ws : List Wish) : PyData.list (ws.map fun p => fr p.2) = .list ((bndsOf ws).map fr) := by
  unfold bndsOf
  rw [List.map_map]
  rfl
theorem eqv_nil (w : List Rat) : PyData.eqv (rw_ w) (.tuple []) = decide (w = []) := eqv_frs w []
theorem Szs.mono {n m : Nat} {xs : List Rat} (h : Szs n xs) (k : n ≤ m) : Szs m xs := fun x hx => (h x hx).mono k
/-- the answer of greatest_in -/
inductive Gr where
  | void (w : List Rat)
  | great (v : Rat) (pt w : List Rat)
  | less (a b : List Rat)
def grD : Gr → PyData
  | .void w => .tuple [.str "void", rw_ w]
  | .great v pt w => .tuple [.str "greatest", fr v, rw_ pt, rw_ w]
  | .less a b => .tuple [.str "endless", rw_ a, rw_ b]
structure VoidIs (k : Nat) (ws : List Wish) (w pr : List Rat) : Prop where
  le : LeastIs (colsV ws) (rightV k) (nts ws.length) w pr
  ne : w = [] → at_ pr k ≠ 0
def GreatIs (k : Nat) (ws : List Wish) (row : List Rat) (g : Gr) : Prop :=
  ∃ w1 p1, VoidIs k ws w1 p1 ∧
    ((w1 ≠ [] ∧ g = .void w1) ∨
     (w1 = [] ∧ ws = [] ∧ row = nts k ∧ g = .great 0 (pointV k p1) []) ∨
     (w1 = [] ∧ ws = [] ∧ row ≠ nts k ∧ g = .less (pointV k p1) row) ∨
     (w1 = [] ∧ ws ≠ [] ∧ ∃ w2 p2, LeastIs (rowsOf ws) row (bndsOf ws) w2 p2 ∧ ((w2 = [] ∧ g = .less (pointV k p1) p2) ∨ (w2 ≠ [] ∧ g = .great (dotR w2 (bndsOf ws)) p2 w2))))
/-- the answer of paper_by: none, or the kind (true: bound) and the weights -/
abbrev Pap := Option (Bool × List Rat)
def kindS (b : Bool) : Str := if b then "bound" else "void"
def papT : Bool × List Rat → PyData
  | (true, w) => .tuple [.str "bound", rw_ w]
  | (false, w) => .tuple [.str "void", rw_ w]
def papD : Pap → PyData
  | none => .tuple []
  | some p => papT p
def optD : Pap → PyData
  | none => .none
  | some p => papT p
def papOf (b : Rat) : Gr → Pap
  | .void w => some (false, w)
  | .great v _ w => if v ≤ b then some (true, w) else none
  | .less _ _ => none
def PaperIs (k : Nat) (ws : List Wish) (row : List Rat) (b : Rat) (r : Pap) : Prop := ∃ g, GreatIs k ws row g ∧ r = papOf b g
section
variable {E : En}
abbrev C_void_by : List Sl → (PyData → Prop) → Prop := fun ss P => ∃ (k : Nat) (ws : List Wish) (w pr : List Rat), ss = [.dat (rws (rowsOf ws)), .dat (.list ((bndsOf ws).map fr)), .dat (int k)] ∧ LotOk k ws ∧ VoidIs k ws w pr ∧ P (.tuple [rw_ w, rw_ (if w = [] then pointV k pr else [])])
theorem D_void_by (B : BC E) (A : At E "void_by" s_void_by ["rows", "bounds", "size"]) (D_least_by : Def E 7 "least_by" ["columns", "right", "costs"] [] C_least_by) (D_noughts : Def E 1 "noughts" ["many"] [] C_noughts) (D_over : Def E 3 "over" ["one", "two"] [] C_over) (D_turned : Def E 2 "turned" ["row"] [] C_turned) : Def E 8 "void_by" ["rows", "bounds", "size"] [] C_void_by := by
  refine def_at A c_void_by (fun ss P h => by obtain ⟨k, ws, w, pr, rfl, _⟩ := h; rfl) fun ss P h => ?_
  obtain ⟨k, ws, w, pr, rfl, hO, hV, p⟩ := h
  have hpl : pr.length = k + 1 := by rw [hV.le.plen]; unfold rightV nts; rw [List.length_append, List.length_replicate]; rfl
  have hps : Szs 3400 pr := hV.le.psz (by unfold rightV nts; rw [List.length_append, List.length_replicate]; have := hO.k1; show k + 1 ≤ 4; omega) (szs_nts 20 _ (by decide))
  have h1 := hO.len
  have h2 := hO.k1
  rw [← rws_of, ← bds_of]
  refine js_cons (j1_setLc2 3 6 7 (by decide +kernel) rfl rfl (by decide +kernel) rfl rfl rfl rfl (by intro env h; cases env; cases h; first | rfl | with_unfolding_all rfl) ?_)
  refine ji_zip B.zip_ rfl ?_
  refine je_var 0 rfl (by first | exact Or.inl rfl | exact Or.inr (Or.inl rfl) | exact Or.inr (Or.inr rfl)) rfl (by intro z; cases z) ?_
  refine je_var 1 rfl (by first | exact Or.inl rfl | exact Or.inr (Or.inl rfl) | exact Or.inr (Or.inr rfl)) rfl (by intro z; cases z) ?_
  refine ⟨_, _, _, _, _, _, rfl, rfl, rfl, rfl, ?_⟩
  rw [zipD_self]
  refine lc2Map ws _ _ (fun p => rw_ (p.1 ++ [p.2])) (by omega) (fun a ha => ?_) ?_
  · refine je_bin ?_
    refine je_var 6 rfl (by first | exact Or.inl rfl | exact Or.inr (Or.inl rfl) | exact Or.inr (Or.inr rfl)) rfl (by intro z; cases z) ?_
    refine je_tup ?_
    refine ja_cons ?_
    refine je_var 7 rfl (by first | exact Or.inl rfl | exact Or.inr (Or.inl rfl) | exact Or.inr (Or.inr rfl)) rfl (by intro z; cases z) ?_
    refine ja_nil ?_
    refine ⟨_, rfl, Nat.le_of_ble_eq_true rfl, ?_⟩
    refine jo_catT ?_ ?_
    · rw [List.length_map, (hO.sz a ha).1]; show k + 1 ≤ _; omega
    show _ = Sl.dat (.tuple ((a.1 ++ [a.2]).map fr))
    rw [List.map_append]
    rfl
  have e1 : PyData.list (ws.map fun p => rw_ (p.1 ++ [p.2])) = rws (colsV ws) := by
    show _ = PyData.list (List.map rw_ (List.map _ ws))
    rw [List.map_map]
    rfl
  rw [e1]
  have hcl : (colsV ws).length = ws.length := by unfold colsV; rw [List.length_map]
  refine js_cons (j1_asg ?_)
  refine je_call D_least_by (Nat.le_of_ble_eq_true rfl) rfl ?_
  refine ja_cons ?_
  refine je_var 3 rfl (by first | exact Or.inl rfl | exact Or.inr (Or.inl rfl) | exact Or.inr (Or.inr rfl)) rfl (by intro z; cases z) ?_
  refine ja_cons ?_
  refine je_bin ?_
  refine je_call D_noughts (Nat.le_of_ble_eq_true rfl) rfl ?_
  refine ja_cons ?_
  refine je_var 2 rfl (by first | exact Or.inl rfl | exact Or.inr (Or.inl rfl) | exact Or.inr (Or.inr rfl)) rfl (by intro z; cases z) ?_
  refine ja_nil ?_
  refine ⟨k, rfl, by omega, ?_⟩
  refine je_tup ?_
  refine ja_cons ?_
  refine je_glob B.less rfl ?_
  refine ja_nil ?_
  refine ⟨_, rfl, Nat.le_of_ble_eq_true rfl, ?_⟩
  refine jo_catT ?_ ?_
  · rw [List.length_map]; unfold nts; rw [List.length_replicate]; show k + 1 ≤ _; omega
  refine ja_cons ?_
  refine je_call D_noughts (Nat.le_of_ble_eq_true rfl) rfl ?_
  refine ja_cons ?_
  refine je_callB B.len rfl rfl ?_
  refine ja_cons ?_
  refine je_var 3 rfl (by first | exact Or.inl rfl | exact Or.inr (Or.inl rfl) | exact Or.inr (Or.inr rfl)) rfl (by intro z; cases z) ?_
  refine ja_nil ?_
  refine jc_len rfl ?_
  refine ja_nil ?_
  refine ⟨ws.length, by rw [List.length_map, hcl]; rfl, by omega, ?_⟩
  refine ja_nil ?_
  have e2 : PyData.tuple ((nts k).map fr ++ [fr (-1)]) = rw_ (rightV k) := by
    show _ = PyData.tuple (List.map fr (nts k ++ [-1]))
    rw [List.map_append]
    rfl
  rw [e2]
  have hrl : (rightV k).length = k + 1 := by unfold rightV nts; rw [List.length_append, List.length_replicate]; rfl
  refine ⟨colsV ws, rightV k, nts ws.length, w, pr, _, rfl, .inl rfl, fun c hc => ?_, fun x hx => ?_, by omega, by omega, by rw [hcl]; exact List.length_replicate, szs_nts 20 _ (by decide), hV.le, ?_⟩
  · obtain ⟨q, hq, rfl⟩ := List.mem_map.mp hc
    obtain ⟨g1, g2, g3⟩ := hO.sz q hq
    refine ⟨by rw [List.length_append, g1, hrl]; rfl, fun x hx => ?_⟩
    rcases List.mem_append.mp hx with h | h
    · exact (g2 x h).mono (by decide)
    · rw [List.mem_singleton.mp h]; exact g3.mono (by decide)
  · rcases List.mem_append.mp hx with h | h
    · exact szs_nts 1000 k (by decide) x h
    · rw [List.mem_singleton.mp h]; exact sz_m1.mono (by decide)
  refine ⟨_, rfl, ?_⟩
  refine jg_tup ⟨_, rfl, rfl, ?_⟩
  refine jgs_cons ?_
  refine jg_name 4 (by decide +kernel) rfl (by first | exact Or.inl rfl | exact Or.inr rfl) ?_
  refine jgs_cons ?_
  refine jg_name 5 (by decide +kernel) rfl (by first | exact Or.inl rfl | exact Or.inr rfl) ?_
  refine jgs_nil ?_
  refine js_cons (j1_if ?_)
  refine jt_cmp ?_
  refine je_var 4 rfl (by first | exact Or.inl rfl | exact Or.inr (Or.inl rfl) | exact Or.inr (Or.inr rfl)) rfl (by intro z; cases z) ?_
  refine je_tup ?_
  refine ja_nil ?_
  refine ⟨_, rfl, Nat.le_of_ble_eq_true rfl, ?_⟩
  refine jo_neD rfl rfl ?_ ?_ ?_
  exact shRow _
  rfl
  rw [eqv_nil]
  refine ⟨_, rfl, ?_⟩
  refine ⟨fun hk => ?_, fun hk => ?_⟩
  · have hw : ¬ w = [] := by simpa using hk
    rw [if_neg hw] at p
    refine js_cons (j1_ret ?_)
    refine je_tup ?_
    refine ja_cons ?_
    refine je_var 4 rfl (by first | exact Or.inl rfl | exact Or.inr (Or.inl rfl) | exact Or.inr (Or.inr rfl)) rfl (by intro z; cases z) ?_
    refine ja_cons ?_
    refine je_tup ?_
    refine ja_nil ?_
    refine ⟨_, rfl, Nat.le_of_ble_eq_true rfl, ?_⟩
    refine ja_nil ?_
    refine ⟨_, rfl, Nat.le_of_ble_eq_true rfl, ?_⟩
    exact ⟨_, rfl, p⟩
  · have hw : w = [] := by simpa using hk
    have hne := hV.ne hw
    subst hw
    rw [if_pos rfl] at p
    refine js_nil ?_
    refine js_cons (j1_ret ?_)
    refine je_tup ?_
    refine ja_cons ?_
    refine je_tup ?_
    refine ja_nil ?_
    refine ⟨_, rfl, Nat.le_of_ble_eq_true rfl, ?_⟩
    refine ja_cons ?_
    refine je_callTy B.tuple_ rfl rfl ?_
    refine ja_cons ?_
    refine je_lc1 8 (by decide +kernel) (by decide +kernel) rfl rfl ?_
    refine ji_tup ?_
    refine je_call D_turned (Nat.le_of_ble_eq_true rfl) rfl ?_
    refine ja_cons ?_
    refine je_slHi ?_
    refine je_var 5 rfl (by first | exact Or.inl rfl | exact Or.inr (Or.inl rfl) | exact Or.inr (Or.inr rfl)) rfl (by intro z; cases z) ?_
    refine je_var 2 rfl (by first | exact Or.inl rfl | exact Or.inr (Or.inl rfl) | exact Or.inr (Or.inr rfl)) rfl (by intro z; cases z) ?_
    refine ⟨(k : Int), _, rfl, rfl, ?_⟩
    rw [cutG_map, cut_hi]
    refine ja_nil ?_
    refine ⟨pr.take k, rfl, by rw [List.length_take]; omega, ?_⟩
    refine ⟨_, rfl, ?_⟩
    refine lcMap (negR (pr.take k)) fr (fun x => fr (x / at_ pr k)) (by unfold negR; rw [List.length_map, List.length_take]; omega) (fun a ha => ?_) ?_
    · refine je_call D_over (Nat.le_of_ble_eq_true rfl) rfl ?_
      refine ja_cons ?_
      refine je_var 8 rfl (by first | exact Or.inl rfl | exact Or.inr (Or.inl rfl) | exact Or.inr (Or.inr rfl)) rfl (by intro z; cases z) ?_
      refine ja_cons ?_
      refine je_ix ?_
      refine je_var 5 rfl (by first | exact Or.inl rfl | exact Or.inr (Or.inl rfl) | exact Or.inr (Or.inr rfl)) rfl (by intro z; cases z) ?_
      refine je_var 2 rfl (by first | exact Or.inl rfl | exact Or.inr (Or.inl rfl) | exact Or.inr (Or.inr rfl)) rfl (by intro z; cases z) ?_
      refine ⟨_, _, _, rfl, rfl, atI_fr (by omega), ?_⟩
      refine ja_nil ?_
      refine ⟨_, _, rfl, hne, ⟨3400, 3400, ?_, hps.get (at_lt (by omega)), by decide⟩, rfl⟩
      unfold negR at ha
      obtain ⟨x, hx, rfl⟩ := List.mem_map.mp ha
      exact sz_neg (hps x (mem_take hx))
    · have e3 : (negR (pr.take k)).map (fun x => fr (x / at_ pr k)) = (pointV k pr).map fr := by unfold pointV; rw [List.map_map]; rfl
      rw [e3]
      refine ja_nil ?_
      refine jc_tuple rfl ?_
      refine ja_nil ?_
      refine ⟨_, rfl, Nat.le_of_ble_eq_true rfl, ?_⟩
      exact ⟨_, rfl, p⟩
abbrev C_greatest_by : List Sl → (PyData → Prop) → Prop := fun ss P => ∃ (k : Nat) (ws : List Wish) (row w pr : List Rat), ss = [.dat (rws (rowsOf ws)), .dat (.list ((bndsOf ws).map fr)), .dat (rw_ row)] ∧ LotOk k ws ∧ row.length = k ∧ Szs 20 row ∧ LeastIs (rowsOf ws) row (bndsOf ws) w pr ∧ P (.tuple [rw_ w, rw_ pr])
theorem D_greatest_by (B : BC E) (A : At E "greatest_by" s_greatest_by ["rows", "bounds", "row"]) (D_least_by : Def E 7 "least_by" ["columns", "right", "costs"] [] C_least_by) : Def E 8 "greatest_by" ["rows", "bounds", "row"] [] C_greatest_by := by
  refine def_at A c_greatest_by (fun ss P h => by obtain ⟨k, ws, row, w, pr, rfl, _⟩ := h; rfl) fun ss P h => ?_
  obtain ⟨k, ws, row, w, pr, rfl, hO, hrl, hrs, hL, p⟩ := h
  have h1 := hO.len
  have h2 := hO.k1
  refine js_cons (j1_ret ?_)
  refine je_call D_least_by (Nat.le_of_ble_eq_true rfl) rfl ?_
  refine ja_cons ?_
  refine je_var 0 rfl (by first | exact Or.inl rfl | exact Or.inr (Or.inl rfl) | exact Or.inr (Or.inr rfl)) rfl (by intro z; cases z) ?_
  refine ja_cons ?_
  refine je_var 2 rfl (by first | exact Or.inl rfl | exact Or.inr (Or.inl rfl) | exact Or.inr (Or.inr rfl)) rfl (by intro z; cases z) ?_
  refine ja_cons ?_
  refine je_var 1 rfl (by first | exact Or.inl rfl | exact Or.inr (Or.inl rfl) | exact Or.inr (Or.inr rfl)) rfl (by intro z; cases z) ?_
  refine ja_nil ?_
  refine ⟨rowsOf ws, row, bndsOf ws, w, pr, _, rfl, .inr rfl, fun c hc => ?_, hrs.mono (by decide), by unfold rowsOf; rw [List.length_map]; omega, by omega, by unfold rowsOf bndsOf; rw [List.length_map, List.length_map], fun x hx => ?_, hL, ?_⟩
  · obtain ⟨q, hq, rfl⟩ := List.mem_map.mp hc
    obtain ⟨g1, g2, g3⟩ := hO.sz q hq
    exact ⟨g1.trans hrl.symm, g2.mono (by decide)⟩
  · obtain ⟨q, hq, rfl⟩ := List.mem_map.mp hx
    exact (hO.sz q hq).2.2.mono (by decide)
  · exact ⟨_, rfl, p⟩
abbrev C_rows_in : List Sl → (PyData → Prop) → Prop := fun ss P => ∃ (k : Nat) (ws : List Wish), ss = [.dat (lotD k ws)] ∧ ws.length ≤ 100 ∧ P (rws (rowsOf ws))
theorem D_rows_in (B : BC E) (A : At E "rows_in" s_rows_in ["lot"]) : Def E 1 "rows_in" ["lot"] [] C_rows_in := by
  refine def_at A c_rows_in (fun ss P h => by obtain ⟨k, ws, rfl, _⟩ := h; rfl) fun ss P h => ?_
  obtain ⟨k, ws, rfl, hl, p⟩ := h
  refine js_cons (j1_ret ?_)
  refine je_lc2 1 2 (by decide +kernel) (by decide +kernel) rfl rfl rfl rfl ?_
  refine ji_tup ?_
  refine je_ix ?_
  refine je_var 0 rfl (by first | exact Or.inl rfl | exact Or.inr (Or.inl rfl) | exact Or.inr (Or.inr rfl)) rfl (by intro z; cases z) ?_
  refine je_int ?_
  refine ⟨_, _, _, rfl, rfl, rfl, ?_⟩
  refine ⟨_, rfl, lc2Map ws (fun p => rw_ p.1) (fun p => fr p.2) (fun p => rw_ p.1) (by omega) (fun a ha => ?_) ?_⟩
  · refine je_var 1 rfl (by first | exact Or.inl rfl | exact Or.inr (Or.inl rfl) | exact Or.inr (Or.inr rfl)) rfl (by intro z; cases z) ?_
    rfl
  · rw [rws_of]
    exact ⟨_, rfl, p⟩
abbrev C_bounds_in : List Sl → (PyData → Prop) → Prop := fun ss P => ∃ (k : Nat) (ws : List Wish), ss = [.dat (lotD k ws)] ∧ ws.length ≤ 100 ∧ P (.list ((bndsOf ws).map fr))
theorem D_bounds_in (B : BC E) (A : At E "bounds_in" s_bounds_in ["lot"]) : Def E 1 "bounds_in" ["lot"] [] C_bounds_in := by
  refine def_at A c_bounds_in (fun ss P h => by obtain ⟨k, ws, rfl, _⟩ := h; rfl) fun ss P h => ?_
  obtain ⟨k, ws, rfl, hl, p⟩ := h
  refine js_cons (j1_ret ?_)
  refine je_lc2 1 2 (by decide +kernel) (by decide +kernel) rfl rfl rfl rfl ?_
  refine ji_tup ?_
  refine je_ix ?_
  refine je_var 0 rfl (by first | exact Or.inl rfl | exact Or.inr (Or.inl rfl) | exact Or.inr (Or.inr rfl)) rfl (by intro z; cases z) ?_
  refine je_int ?_
  refine ⟨_, _, _, rfl, rfl, rfl, ?_⟩
  refine ⟨_, rfl, lc2Map ws (fun p => rw_ p.1) (fun p => fr p.2) (fun p => fr p.2) (by omega) (fun a ha => ?_) ?_⟩
  · refine je_var 2 rfl (by first | exact Or.inl rfl | exact Or.inr (Or.inl rfl) | exact Or.inr (Or.inr rfl)) rfl (by intro z; cases z) ?_
    rfl
  · rw [bds_of]
    exact ⟨_, rfl, p⟩
abbrev C_void_weights : List Sl → (PyData → Prop) → Prop := fun ss P => ∃ (k : Nat) (ws : List Wish) (w pr : List Rat), ss = [.dat (lotD k ws)] ∧ LotOk k ws ∧ VoidIs k ws w pr ∧ P (.tuple [rw_ w, rw_ (if w = [] then pointV k pr else [])])
theorem D_void_weights (B : BC E) (A : At E "void_weights" s_void_weights ["lot"]) (D_void_by : Def E 8 "void_by" ["rows", "bounds", "size"] [] C_void_by) (D_rows_in : Def E 1 "rows_in" ["lot"] [] C_rows_in) (D_bounds_in : Def E 1 "bounds_in" ["lot"] [] C_bounds_in) : Def E 9 "void_weights" ["lot"] [] C_void_weights := by
  refine def_at A c_void_weights (fun ss P h => by obtain ⟨k, ws, w, pr, rfl, _⟩ := h; rfl) fun ss P h => ?_
  obtain ⟨k, ws, w, pr, rfl, hO, hV, p⟩ := h
  have h1 := hO.len
  refine js_cons (j1_ret ?_)
  refine je_call D_void_by (Nat.le_of_ble_eq_true rfl) rfl ?_
  refine ja_cons ?_
  refine je_call D_rows_in (Nat.le_of_ble_eq_true rfl) rfl ?_
  refine ja_cons ?_
  refine je_var 0 rfl (by first | exact Or.inl rfl | exact Or.inr (Or.inl rfl) | exact Or.inr (Or.inr rfl)) rfl (by intro z; cases z) ?_
  refine ja_nil ?_
  refine ⟨k, ws, rfl, by omega, ?_⟩
  refine ja_cons ?_
  refine je_call D_bounds_in (Nat.le_of_ble_eq_true rfl) rfl ?_
  refine ja_cons ?_
  refine je_var 0 rfl (by first | exact Or.inl rfl | exact Or.inr (Or.inl rfl) | exact Or.inr (Or.inr rfl)) rfl (by intro z; cases z) ?_
  refine ja_nil ?_
  refine ⟨k, ws, rfl, by omega, ?_⟩
  refine ja_cons ?_
  refine je_ix ?_
  refine je_var 0 rfl (by first | exact Or.inl rfl | exact Or.inr (Or.inl rfl) | exact Or.inr (Or.inr rfl)) rfl (by intro z; cases z) ?_
  refine je_int ?_
  refine ⟨_, _, _, rfl, rfl, rfl, ?_⟩
  refine ja_nil ?_
  exact ⟨k, ws, w, pr, rfl, hO, hV, _, rfl, p⟩
end
end W6
end
section
set_option Elab.async false
set_option linter.all false
set_option maxRecDepth 100000
set_option maxHeartbeats 4000000
/-! The walk: lots, papers, the tops. -/
namespace W6
open PySem PySem.Spec PyProof.Rows L2
theorem shPap : ∀ r : Pap, SeqAt.shaped (papD r) = true
  | none => rfl
  | some (b, w) => by
    have h : SeqAt.shaped (rw_ w) = true := shRow w
    have h1 : PyData.canLayAll0 (w.map fr) = true := canRows w
    have h2 := dep_frs w
    have hv : PyData.canLay0 (.str "void") = true := by decide +kernel
    have hb : PyData.canLay0 (.str "bound") = true := by decide +kernel
    cases b
    · show ((PyData.canLay0 (.str "void") && (PyData.canLayAll0 (w.map fr) && true)) && decide (max 0 (max (PyData.depthAll (w.map fr) + 1) 0) + 1 ≤ 64)) = true
      rw [h1, hv, decide_eq_true (by omega)]; rfl
    · show ((PyData.canLay0 (.str "bound") && (PyData.canLayAll0 (w.map fr) && true)) && decide (max 0 (max (PyData.depthAll (w.map fr) + 1) 0) + 1 ≤ 64)) = true
      rw [h1, hb, decide_eq_true (by omega)]; rfl
theorem eqv_pap : ∀ r : Pap, PyData.eqv (papD r) (.tuple []) = r.isNone
  | none => rfl
  | some (true, w) => rfl
  | some (false, w) => rfl
theorem rows_sz {k : Nat} {ws : List Wish} (h : LotOk k ws) : ∀ r ∈ rowsOf ws, r.length = k ∧ Szs 7 r := fun r hr => by
  obtain ⟨q, hq, rfl⟩ := List.mem_map.mp hr
  exact ⟨(h.sz q hq).1, (h.sz q hq).2.1⟩
theorem bnds_sz {k : Nat} {ws : List Wish} (h : LotOk k ws) : Szs 13 (bndsOf ws) := fun r hr => by
  obtain ⟨q, hq, rfl⟩ := List.mem_map.mp hr
  exact (h.sz q hq).2.2
theorem rows_len (ws : List Wish) : (rowsOf ws).length = ws.length := by unfold rowsOf; rw [List.length_map]
theorem bnds_len (ws : List Wish) : (bndsOf ws).length = ws.length := by unfold bndsOf; rw [List.length_map]
theorem dot_szN {n m : Nat} {xs ys : List Rat} (h0 : 0 < n + m) (h : Szs n xs) (k : Szs m ys) : Sz (1 + xs.length * (n + m + 1)) (dotR xs ys) := by
  rw [← dot_is]
  refine (dot_sz h0 (xs.zip ys) 0 1 (fun p hp => zip_sz h k p hp) sz_zero).mono ?_
  exact Nat.add_le_add_left (Nat.mul_le_mul_right _ (by rw [List.length_zip]; omega)) _
section
variable {E : En}
abbrev C_greatest_in : List Sl → (PyData → Prop) → Prop := fun ss P => ∃ (k : Nat) (ws : List Wish) (row : List Rat) (g : Gr), ss = [.dat (lotD k ws), .dat (rw_ row)] ∧ LotOk k ws ∧ row.length = k ∧ Szs 20 row ∧ GreatIs k ws row g ∧ P (grD g)
theorem D_greatest_in (B : BC E) (A : At E "greatest_in" s_greatest_in ["lot", "row"]) (D_void_weights : Def E 9 "void_weights" ["lot"] [] C_void_weights) (D_noughts : Def E 1 "noughts" ["many"] [] C_noughts) (D_greatest_by : Def E 8 "greatest_by" ["rows", "bounds", "row"] [] C_greatest_by) (D_rows_in : Def E 1 "rows_in" ["lot"] [] C_rows_in) (D_bounds_in : Def E 1 "bounds_in" ["lot"] [] C_bounds_in) (D_dot : Def E 4 "dot" ["one", "two"] [] C_dot) : Def E 10 "greatest_in" ["lot", "row"] [] C_greatest_in := by
  refine def_at A c_greatest_in (fun ss P h => by obtain ⟨k, ws, row, g, rfl, _⟩ := h; rfl) fun ss P h => ?_
  obtain ⟨k, ws, row, g, rfl, hO, hrl, hrs, ⟨w1,p1,hV,hG⟩, p⟩ := h
  have h1 := hO.len
  have h2 := hO.k1
  refine js_cons (j1_asg ?_)
  refine je_call D_void_weights (Nat.le_of_ble_eq_true rfl) rfl ?_
  refine ja_cons ?_
  refine je_var 0 rfl (by first | exact Or.inl rfl | exact Or.inr (Or.inl rfl) | exact Or.inr (Or.inr rfl)) rfl (by intro z; cases z) ?_
  refine ja_nil ?_
  refine ⟨k, ws, w1, p1, rfl, hO, hV, ?_⟩
  refine ⟨_, rfl, ?_⟩
  refine jg_tup ⟨_, rfl, rfl, ?_⟩
  refine jgs_cons ?_
  refine jg_name 2 (by decide +kernel) rfl (by first | exact Or.inl rfl | exact Or.inr rfl) ?_
  refine jgs_cons ?_
  refine jg_name 3 (by decide +kernel) rfl (by first | exact Or.inl rfl | exact Or.inr rfl) ?_
  refine jgs_nil ?_
  refine js_cons (j1_if ?_)
  refine jt_cmp ?_
  refine je_var 2 rfl (by first | exact Or.inl rfl | exact Or.inr (Or.inl rfl) | exact Or.inr (Or.inr rfl)) rfl (by intro z; cases z) ?_
  refine je_tup ?_
  refine ja_nil ?_
  refine ⟨_, rfl, Nat.le_of_ble_eq_true rfl, ?_⟩
  refine jo_neD rfl rfl ?_ ?_ ?_
  exact shRow _
  rfl
  rw [eqv_nil]
  have hw1 : ∀ c : Bool, (!decide (w1 = [])) = c → (c = true ∧ w1 ≠ []) ∨ (c = false ∧ w1 = []) := fun c e => by
    by_cases h : w1 = []
    · right; rw [← e, h]; exact ⟨rfl, rfl⟩
    · left; rw [← e, decide_eq_false h]; exact ⟨rfl, h⟩
  refine ⟨_, rfl, ?_⟩
  refine ⟨fun hk => ?_, fun hk => ?_⟩
  · have hw : w1 ≠ [] := by simpa using hk
    rcases hG with ⟨_, rfl⟩ | ⟨h, _⟩ | ⟨h, _⟩ | ⟨h, _⟩
    · refine js_cons (j1_ret ?_)
      refine je_tup ?_
      refine ja_cons ?_
      refine je_str ?_
      refine ja_cons ?_
      refine je_var 2 rfl (by first | exact Or.inl rfl | exact Or.inr (Or.inl rfl) | exact Or.inr (Or.inr rfl)) rfl (by intro z; cases z) ?_
      refine ja_nil ?_
      refine ⟨_, rfl, Nat.le_of_ble_eq_true rfl, ?_⟩
      exact ⟨_, rfl, p⟩
    all_goals exact absurd h hw
  · have hw : w1 = [] := by simpa using hk
    rw [if_pos hw]
    refine js_nil ?_
    refine js_cons (j1_if ?_)
    refine jt_cmp ?_
    refine je_ix ?_
    refine je_var 0 rfl (by first | exact Or.inl rfl | exact Or.inr (Or.inl rfl) | exact Or.inr (Or.inr rfl)) rfl (by intro z; cases z) ?_
    refine je_int ?_
    refine ⟨_, _, _, rfl, rfl, rfl, ?_⟩
    refine je_tup ?_
    refine ja_nil ?_
    refine ⟨_, rfl, Nat.le_of_ble_eq_true rfl, ?_⟩
    refine jo_eqD (e := .tuple []) rfl rfl ?_ rfl ?_
    · show (PyData.canLayAll0 (ws.map wishD) && decide (PyData.depthAll (ws.map wishD) + 1 ≤ 64)) = true
      have hc : ∀ l : List Wish, PyData.canLayAll0 (l.map wishD) = true ∧ PyData.depthAll (l.map wishD) ≤ 3 := fun l => by
        induction l with
        | nil => exact ⟨rfl, Nat.zero_le _⟩
        | cons q l ih =>
          constructor
          · show (PyData.canLayAll0 [rw_ q.1, fr q.2] && PyData.canLayAll0 (l.map wishD)) = true
            rw [ih.1]
            show ((PyData.canLayAll0 (q.1.map fr) && true) && true) = true
            rw [canRows]; rfl
          · show max (max (PyData.depthAll (q.1.map fr) + 1) (max 1 0) + 1) (PyData.depthAll (l.map wishD)) ≤ 3
            have := dep_frs q.1
            omega
      rw [(hc ws).1, decide_eq_true (by have := (hc ws).2; omega)]; rfl
    have e1 : PyData.eqv (.tuple (ws.map wishD)) (.tuple []) = decide (ws = []) := by
      cases ws with
      | nil => rfl
      | cons a l => rfl
    rw [e1]
    refine ⟨_, rfl, ?_⟩
    refine ⟨fun hk' => ?_, fun hk' => ?_⟩
    · have hws : ws = [] := of_decide_eq_true hk'
      refine js_cons (j1_ret ?_)
      refine je_if ?_
      refine jt_cmp ?_
      refine je_var 1 rfl (by first | exact Or.inl rfl | exact Or.inr (Or.inl rfl) | exact Or.inr (Or.inr rfl)) rfl (by intro z; cases z) ?_
      refine je_call D_noughts (Nat.le_of_ble_eq_true rfl) rfl ?_
      refine ja_cons ?_
      refine je_ix ?_
      refine je_var 0 rfl (by first | exact Or.inl rfl | exact Or.inr (Or.inl rfl) | exact Or.inr (Or.inr rfl)) rfl (by intro z; cases z) ?_
      refine je_int ?_
      refine ⟨_, _, _, rfl, rfl, rfl, ?_⟩
      refine ja_nil ?_
      refine ⟨k, rfl, by omega, ?_⟩
      refine jo_eqD rfl rfl ?_ ?_ ?_
      exact shRow _
      exact shRow _
      rw [eqv_rw]
      refine ⟨_, rfl, ?_⟩
      refine ⟨fun h4 => ?_, fun h4 => ?_⟩
      · have hrow : row = nts k := of_decide_eq_true h4
        rcases hG with ⟨h, _⟩ | ⟨_, _, _, rfl⟩ | ⟨_, _, h, _⟩ | ⟨_, h, _⟩
        · exact absurd hw h
        · refine je_tup ?_
          refine ja_cons ?_
          refine je_str ?_
          refine ja_cons ?_
          refine je_glob B.zero rfl ?_
          refine ja_cons ?_
          refine je_var 3 rfl (by first | exact Or.inl rfl | exact Or.inr (Or.inl rfl) | exact Or.inr (Or.inr rfl)) rfl (by intro z; cases z) ?_
          refine ja_cons ?_
          refine je_tup ?_
          refine ja_nil ?_
          refine ⟨_, rfl, Nat.le_of_ble_eq_true rfl, ?_⟩
          refine ja_nil ?_
          refine ⟨_, rfl, Nat.le_of_ble_eq_true rfl, ?_⟩
          exact ⟨_, rfl, p⟩
        · exact absurd hrow h
        · exact absurd hws h
      · have hrow : ¬ row = nts k := of_decide_eq_false h4
        rcases hG with ⟨h, _⟩ | ⟨_, _, h, _⟩ | ⟨_, _, _, rfl⟩ | ⟨_, h, _⟩
        · exact absurd hw h
        · exact absurd h hrow
        · refine je_tup ?_
          refine ja_cons ?_
          refine je_str ?_
          refine ja_cons ?_
          refine je_var 3 rfl (by first | exact Or.inl rfl | exact Or.inr (Or.inl rfl) | exact Or.inr (Or.inr rfl)) rfl (by intro z; cases z) ?_
          refine ja_cons ?_
          refine je_var 1 rfl (by first | exact Or.inl rfl | exact Or.inr (Or.inl rfl) | exact Or.inr (Or.inr rfl)) rfl (by intro z; cases z) ?_
          refine ja_nil ?_
          refine ⟨_, rfl, Nat.le_of_ble_eq_true rfl, ?_⟩
          exact ⟨_, rfl, p⟩
        · exact absurd hws h
    · have hws : ¬ ws = [] := of_decide_eq_false hk'
      rcases hG with ⟨h, _⟩ | ⟨_, h, _⟩ | ⟨_, h, _⟩ | ⟨_, _, w2, p2, hL, hG⟩
      · exact absurd hw h
      · exact absurd h hws
      · exact absurd h hws
      refine js_nil ?_
      refine js_cons (j1_asg ?_)
      refine je_call D_greatest_by (Nat.le_of_ble_eq_true rfl) rfl ?_
      refine ja_cons ?_
      refine je_call D_rows_in (Nat.le_of_ble_eq_true rfl) rfl ?_
      refine ja_cons ?_
      refine je_var 0 rfl (by first | exact Or.inl rfl | exact Or.inr (Or.inl rfl) | exact Or.inr (Or.inr rfl)) rfl (by intro z; cases z) ?_
      refine ja_nil ?_
      refine ⟨k, ws, rfl, by omega, ?_⟩
      refine ja_cons ?_
      refine je_call D_bounds_in (Nat.le_of_ble_eq_true rfl) rfl ?_
      refine ja_cons ?_
      refine je_var 0 rfl (by first | exact Or.inl rfl | exact Or.inr (Or.inl rfl) | exact Or.inr (Or.inr rfl)) rfl (by intro z; cases z) ?_
      refine ja_nil ?_
      refine ⟨k, ws, rfl, by omega, ?_⟩
      refine ja_cons ?_
      refine je_var 1 rfl (by first | exact Or.inl rfl | exact Or.inr (Or.inl rfl) | exact Or.inr (Or.inr rfl)) rfl (by intro z; cases z) ?_
      refine ja_nil ?_
      refine ⟨k, ws, row, w2, p2, rfl, hO, hrl, hrs, hL, ?_⟩
      refine ⟨_, rfl, ?_⟩
      refine jg_tup ⟨_, rfl, rfl, ?_⟩
      refine jgs_cons ?_
      refine jg_name 2 (by decide +kernel) rfl (by first | exact Or.inl rfl | exact Or.inr rfl) ?_
      refine jgs_cons ?_
      refine jg_name 4 (by decide +kernel) rfl (by first | exact Or.inl rfl | exact Or.inr rfl) ?_
      refine jgs_nil ?_
      refine js_cons (j1_if ?_)
      refine jt_cmp ?_
      refine je_var 2 rfl (by first | exact Or.inl rfl | exact Or.inr (Or.inl rfl) | exact Or.inr (Or.inr rfl)) rfl (by intro z; cases z) ?_
      refine je_tup ?_
      refine ja_nil ?_
      refine ⟨_, rfl, Nat.le_of_ble_eq_true rfl, ?_⟩
      refine jo_eqD rfl rfl ?_ ?_ ?_
      exact shRow _
      rfl
      rw [eqv_nil]
      refine ⟨_, rfl, ?_⟩
      refine ⟨fun h4 => ?_, fun h4 => ?_⟩
      · have hw2 : w2 = [] := of_decide_eq_true h4
        rcases hG with ⟨_, rfl⟩ | ⟨h, _⟩
        · refine js_cons (j1_ret ?_)
          refine je_tup ?_
          refine ja_cons ?_
          refine je_str ?_
          refine ja_cons ?_
          refine je_var 3 rfl (by first | exact Or.inl rfl | exact Or.inr (Or.inl rfl) | exact Or.inr (Or.inr rfl)) rfl (by intro z; cases z) ?_
          refine ja_cons ?_
          refine je_var 4 rfl (by first | exact Or.inl rfl | exact Or.inr (Or.inl rfl) | exact Or.inr (Or.inr rfl)) rfl (by intro z; cases z) ?_
          refine ja_nil ?_
          refine ⟨_, rfl, Nat.le_of_ble_eq_true rfl, ?_⟩
          exact ⟨_, rfl, p⟩
        · exact absurd hw2 h
      · have hw2 : ¬ w2 = [] := of_decide_eq_false h4
        rcases hG with ⟨h, _⟩ | ⟨_, rfl⟩
        · exact absurd h hw2
        · refine js_nil ?_
          refine js_cons (j1_ret ?_)
          refine je_tup ?_
          refine ja_cons ?_
          refine je_str ?_
          refine ja_cons ?_
          refine je_call D_dot (Nat.le_of_ble_eq_true rfl) rfl ?_
          refine ja_cons ?_
          refine je_var 2 rfl (by first | exact Or.inl rfl | exact Or.inr (Or.inl rfl) | exact Or.inr (Or.inr rfl)) rfl (by intro z; cases z) ?_
          refine ja_cons ?_
          refine je_call D_bounds_in (Nat.le_of_ble_eq_true rfl) rfl ?_
          refine ja_cons ?_
          refine je_var 0 rfl (by first | exact Or.inl rfl | exact Or.inr (Or.inl rfl) | exact Or.inr (Or.inr rfl)) rfl (by intro z; cases z) ?_
          refine ja_nil ?_
          refine ⟨k, ws, rfl, by omega, ?_⟩
          refine ja_nil ?_
          refine ⟨w2, bndsOf ws, rfl, ⟨800, 13, by decide, hL.wsz, bnds_sz hO, ?_⟩, ?_⟩
          · have h5 := hL.wlen
            rw [rows_len] at h5
            have := Nat.mul_le_mul_right (800 + 13 + 1) (show w2.length + 1 ≤ 7 by omega)
            omega
          refine ja_cons ?_
          refine je_var 4 rfl (by first | exact Or.inl rfl | exact Or.inr (Or.inl rfl) | exact Or.inr (Or.inr rfl)) rfl (by intro z; cases z) ?_
          refine ja_cons ?_
          refine je_var 2 rfl (by first | exact Or.inl rfl | exact Or.inr (Or.inl rfl) | exact Or.inr (Or.inr rfl)) rfl (by intro z; cases z) ?_
          refine ja_nil ?_
          refine ⟨_, rfl, Nat.le_of_ble_eq_true rfl, ?_⟩
          exact ⟨_, rfl, p⟩
theorem GreatIs.vsz {k : Nat} {ws : List Wish} {row : List Rat} {v : Rat} {pt w : List Rat} (hO : LotOk k ws) (h : GreatIs k ws row (.great v pt w)) : Sz 5000 v := by
  obtain ⟨w1, p1, hV, hG⟩ := h
  rcases hG with ⟨_, h⟩ | ⟨_, _, _, h⟩ | ⟨_, _, _, h⟩ | ⟨_, _, w2, p2, hL, ⟨_, h⟩ | ⟨_, h⟩⟩
  · cases h
  · cases h; exact sz_zero.mono (by decide)
  · cases h
  · cases h
  · cases h
    refine (dot_szN (by decide) hL.wsz (bnds_sz hO)).mono ?_
    have h5 := hL.wlen
    have h6 := hO.len
    rw [rows_len] at h5
    have := Nat.mul_le_mul_right (800 + 13 + 1) (show w.length ≤ 6 by omega)
    omega
abbrev C_paper_by : List Sl → (PyData → Prop) → Prop := fun ss P => ∃ (k : Nat) (ws : List Wish) (row : List Rat) (b : Rat) (r : Pap), ss = [.dat (lotD k ws), .dat (rw_ row), .dat (fr b)] ∧ LotOk k ws ∧ row.length = k ∧ Szs 20 row ∧ Sz 20 b ∧ PaperIs k ws row b r ∧ P (papD r)
theorem D_paper_by (B : BC E) (A : At E "paper_by" s_paper_by ["lot", "row", "bound"]) (D_greatest_in : Def E 10 "greatest_in" ["lot", "row"] [] C_greatest_in) (D_is_up_to : Def E 1 "is_up_to" ["one", "two"] [] C_is_up_to) : Def E 11 "paper_by" ["lot", "row", "bound"] [] C_paper_by := by
  refine def_at A c_paper_by (fun ss P h => by obtain ⟨k, ws, row, b, r, rfl, _⟩ := h; rfl) fun ss P h => ?_
  obtain ⟨k, ws, row, b, r, rfl, hO, hrl, hrs, hb, ⟨g,hG,hr⟩, p⟩ := h
  subst hr
  refine js_cons (j1_set 3 (by decide +kernel) rfl (by first | exact Or.inl rfl | exact Or.inr rfl) ?_)
  refine je_call D_greatest_in (Nat.le_of_ble_eq_true rfl) rfl ?_
  refine ja_cons ?_
  refine je_var 0 rfl (by first | exact Or.inl rfl | exact Or.inr (Or.inl rfl) | exact Or.inr (Or.inr rfl)) rfl (by intro z; cases z) ?_
  refine ja_cons ?_
  refine je_var 1 rfl (by first | exact Or.inl rfl | exact Or.inr (Or.inl rfl) | exact Or.inr (Or.inr rfl)) rfl (by intro z; cases z) ?_
  refine ja_nil ?_
  refine ⟨k, ws, row, g, rfl, hO, hrl, hrs, hG, ?_⟩
  cases g with
  | void w =>
    refine js_cons (j1_if ?_)
    refine jt_cmp ?_
    refine je_ix ?_
    refine je_var 3 rfl (by first | exact Or.inl rfl | exact Or.inr (Or.inl rfl) | exact Or.inr (Or.inr rfl)) rfl (by intro z; cases z) ?_
    refine je_int ?_
    refine ⟨_, _, _, rfl, rfl, rfl, ?_⟩
    refine je_str ?_
    refine jo_eqS ?_
    refine ⟨_, rfl, ?_⟩
    refine ⟨fun _ => ?_, fun z => nomatch z⟩
    refine js_cons (j1_ret ?_)
    refine je_tup ?_
    refine ja_cons ?_
    refine je_str ?_
    refine ja_cons ?_
    refine je_ix ?_
    refine je_var 3 rfl (by first | exact Or.inl rfl | exact Or.inr (Or.inl rfl) | exact Or.inr (Or.inr rfl)) rfl (by intro z; cases z) ?_
    refine je_int ?_
    refine ⟨_, _, _, rfl, rfl, rfl, ?_⟩
    refine ja_nil ?_
    refine ⟨_, rfl, Nat.le_of_ble_eq_true rfl, ?_⟩
    exact ⟨_, rfl, p⟩
  | great v pt w =>
    refine js_cons (j1_if ?_)
    refine jt_cmp ?_
    refine je_ix ?_
    refine je_var 3 rfl (by first | exact Or.inl rfl | exact Or.inr (Or.inl rfl) | exact Or.inr (Or.inr rfl)) rfl (by intro z; cases z) ?_
    refine je_int ?_
    refine ⟨_, _, _, rfl, rfl, rfl, ?_⟩
    refine je_str ?_
    refine jo_eqS ?_
    refine ⟨_, rfl, ?_⟩
    refine ⟨fun z => (nomatch z), fun _ => ?_⟩
    refine js_nil ?_
    refine js_cons (j1_if ?_)
    refine jt_bool ?_
    refine jw_and ?_
    refine jt_cmp ?_
    refine je_ix ?_
    refine je_var 3 rfl (by first | exact Or.inl rfl | exact Or.inr (Or.inl rfl) | exact Or.inr (Or.inr rfl)) rfl (by intro z; cases z) ?_
    refine je_int ?_
    refine ⟨_, _, _, rfl, rfl, rfl, ?_⟩
    refine je_str ?_
    refine jo_eqS ?_
    refine ⟨_, rfl, ?_⟩
    refine ⟨fun _ => ?_, fun z => nomatch z⟩
    refine jw_and1 ?_
    refine jt_val ?_
    refine je_call D_is_up_to (Nat.le_of_ble_eq_true rfl) rfl ?_
    refine ja_cons ?_
    refine je_ix ?_
    refine je_var 3 rfl (by first | exact Or.inl rfl | exact Or.inr (Or.inl rfl) | exact Or.inr (Or.inr rfl)) rfl (by intro z; cases z) ?_
    refine je_int ?_
    refine ⟨_, _, _, rfl, rfl, rfl, ?_⟩
    refine ja_cons ?_
    refine je_var 2 rfl (by first | exact Or.inl rfl | exact Or.inr (Or.inl rfl) | exact Or.inr (Or.inr rfl)) rfl (by intro z; cases z) ?_
    refine ja_nil ?_
    refine ⟨v, b, rfl, ⟨5000, 20, hG.vsz hO, hb, by decide⟩, ?_⟩
    refine ⟨_, rfl, ?_⟩
    refine ⟨fun hk => ?_, fun hk => ?_⟩
    · have e : papOf b (.great v pt w) = some (true, w) := if_pos (of_decide_eq_true hk)
      rw [e] at p
      refine js_cons (j1_ret ?_)
      refine je_tup ?_
      refine ja_cons ?_
      refine je_str ?_
      refine ja_cons ?_
      refine je_ix ?_
      refine je_var 3 rfl (by first | exact Or.inl rfl | exact Or.inr (Or.inl rfl) | exact Or.inr (Or.inr rfl)) rfl (by intro z; cases z) ?_
      refine je_int ?_
      refine ⟨_, _, _, rfl, rfl, rfl, ?_⟩
      refine ja_nil ?_
      refine ⟨_, rfl, Nat.le_of_ble_eq_true rfl, ?_⟩
      exact ⟨_, rfl, p⟩
    · have e : papOf b (.great v pt w) = none := if_neg (of_decide_eq_false hk)
      rw [e] at p
      refine js_nil ?_
      refine js_cons (j1_ret ?_)
      refine je_tup ?_
      refine ja_nil ?_
      refine ⟨_, rfl, Nat.le_of_ble_eq_true rfl, ?_⟩
      exact ⟨_, rfl, p⟩
  | less x y =>
    refine js_cons (j1_if ?_)
    refine jt_cmp ?_
    refine je_ix ?_
    refine je_var 3 rfl (by first | exact Or.inl rfl | exact Or.inr (Or.inl rfl) | exact Or.inr (Or.inr rfl)) rfl (by intro z; cases z) ?_
    refine je_int ?_
    refine ⟨_, _, _, rfl, rfl, rfl, ?_⟩
    refine je_str ?_
    refine jo_eqS ?_
    refine ⟨_, rfl, ?_⟩
    refine ⟨fun z => (nomatch z), fun _ => ?_⟩
    refine js_nil ?_
    refine js_cons (j1_if ?_)
    refine jt_bool ?_
    refine jw_and ?_
    refine jt_cmp ?_
    refine je_ix ?_
    refine je_var 3 rfl (by first | exact Or.inl rfl | exact Or.inr (Or.inl rfl) | exact Or.inr (Or.inr rfl)) rfl (by intro z; cases z) ?_
    refine je_int ?_
    refine ⟨_, _, _, rfl, rfl, rfl, ?_⟩
    refine je_str ?_
    refine jo_eqS ?_
    refine ⟨_, rfl, ?_⟩
    refine ⟨fun z => (nomatch z), fun _ => ?_⟩
    refine ⟨fun z => (nomatch z), fun _ => ?_⟩
    refine js_nil ?_
    refine js_cons (j1_ret ?_)
    refine je_tup ?_
    refine ja_nil ?_
    refine ⟨_, rfl, Nat.le_of_ble_eq_true rfl, ?_⟩
    exact ⟨_, rfl, p⟩
abbrev C_is_bounded : List Sl → (PyData → Prop) → Prop := fun ss P => ∃ (k : Nat) (ws : List Wish) (row : List Rat) (b : Rat) (r : Pap), ss = [.dat (lotD k ws), .dat (rw_ row), .dat (fr b)] ∧ LotOk k ws ∧ row.length = k ∧ Szs 20 row ∧ Sz 20 b ∧ PaperIs k ws row b r ∧ P (.bool r.isSome)
theorem D_is_bounded (B : BC E) (A : At E "is_bounded" s_is_bounded ["lot", "row", "bound"]) (D_paper_by : Def E 11 "paper_by" ["lot", "row", "bound"] [] C_paper_by) : Def E 12 "is_bounded" ["lot", "row", "bound"] [] C_is_bounded := by
  refine def_at A c_is_bounded (fun ss P h => by obtain ⟨k, ws, row, b, r, rfl, _⟩ := h; rfl) fun ss P h => ?_
  obtain ⟨k, ws, row, b, r, rfl, hO, hrl, hrs, hb, hP, p⟩ := h
  refine js_cons (j1_ret ?_)
  refine je_cmp ?_
  refine je_call D_paper_by (Nat.le_of_ble_eq_true rfl) rfl ?_
  refine ja_cons ?_
  refine je_var 0 rfl (by first | exact Or.inl rfl | exact Or.inr (Or.inl rfl) | exact Or.inr (Or.inr rfl)) rfl (by intro z; cases z) ?_
  refine ja_cons ?_
  refine je_var 1 rfl (by first | exact Or.inl rfl | exact Or.inr (Or.inl rfl) | exact Or.inr (Or.inr rfl)) rfl (by intro z; cases z) ?_
  refine ja_cons ?_
  refine je_var 2 rfl (by first | exact Or.inl rfl | exact Or.inr (Or.inl rfl) | exact Or.inr (Or.inr rfl)) rfl (by intro z; cases z) ?_
  refine ja_nil ?_
  refine ⟨k, ws, row, b, r, rfl, hO, hrl, hrs, hb, hP, ?_⟩
  refine je_tup ?_
  refine ja_nil ?_
  refine ⟨_, rfl, Nat.le_of_ble_eq_true rfl, ?_⟩
  refine jo_neD rfl rfl ?_ ?_ ?_
  exact shPap _
  rfl
  rw [eqv_pap]
  refine ⟨_, rfl, ?_⟩
  cases r <;> exact p
abbrev C_is_wish : List Sl → (PyData → Prop) → Prop := fun ss P => ∃ (q : Wish), ss = [.dat (wishD q), .dat (int q.1.length)] ∧ q.1.length ≤ 1000 ∧ P (.bool true)
theorem D_is_wish (B : BC E) (A : At E "is_wish" s_is_wish ["value", "size"]) (D_is_row_by : Def E 4 "is_row_by" ["value", "many"] [] C_is_row_by) (D_is_ratio : Def E 3 "is_ratio" ["value"] [] C_is_ratio) : Def E 5 "is_wish" ["value", "size"] [] C_is_wish := by
  refine def_at A c_is_wish (fun ss P h => by obtain ⟨q, rfl, _⟩ := h; rfl) fun ss P h => ?_
  obtain ⟨q, rfl, hl, p⟩ := h
  refine js_cons (j1_ret ?_)
  refine je_and ?_
  refine je_callB B.isinstance rfl rfl ?_
  refine ja_cons ?_
  refine je_var 0 rfl (by first | exact Or.inl rfl | exact Or.inr (Or.inl rfl) | exact Or.inr (Or.inr rfl)) rfl (by intro z; cases z) ?_
  refine ja_cons ?_
  refine je_ty B.tuple_ rfl rfl ?_
  refine ja_nil ?_
  refine jc_isi rfl rfl ?_
  refine ⟨_, rfl, ?_⟩
  refine ⟨fun _ => ?_, fun z => nomatch z⟩
  refine je_and ?_
  refine je_cmp ?_
  refine je_callB B.len rfl rfl ?_
  refine ja_cons ?_
  refine je_var 0 rfl (by first | exact Or.inl rfl | exact Or.inr (Or.inl rfl) | exact Or.inr (Or.inr rfl)) rfl (by intro z; cases z) ?_
  refine ja_nil ?_
  refine jc_len rfl ?_
  refine je_int ?_
  refine jo_eqI ?_
  refine ⟨_, rfl, ?_⟩
  refine ⟨fun _ => ?_, fun z => nomatch z⟩
  refine je_and ?_
  refine je_call D_is_row_by (Nat.le_of_ble_eq_true rfl) rfl ?_
  refine ja_cons ?_
  refine je_ix ?_
  refine je_var 0 rfl (by first | exact Or.inl rfl | exact Or.inr (Or.inl rfl) | exact Or.inr (Or.inr rfl)) rfl (by intro z; cases z) ?_
  refine je_int ?_
  refine ⟨_, _, _, rfl, rfl, rfl, ?_⟩
  refine ja_cons ?_
  refine je_var 1 rfl (by first | exact Or.inl rfl | exact Or.inr (Or.inl rfl) | exact Or.inr (Or.inr rfl)) rfl (by intro z; cases z) ?_
  refine ja_nil ?_
  refine ⟨q.1, rfl, hl, ?_⟩
  refine ⟨_, rfl, ?_⟩
  refine ⟨fun _ => ?_, fun z => nomatch z⟩
  refine je_one ?_
  refine je_call D_is_ratio (Nat.le_of_ble_eq_true rfl) rfl ?_
  refine ja_cons ?_
  refine je_ix ?_
  refine je_var 0 rfl (by first | exact Or.inl rfl | exact Or.inr (Or.inl rfl) | exact Or.inr (Or.inr rfl)) rfl (by intro z; cases z) ?_
  refine je_int ?_
  refine ⟨_, _, _, rfl, rfl, rfl, ?_⟩
  refine ja_nil ?_
  exact ⟨q.2, rfl, _, rfl, p⟩
abbrev C_is_lot_by : List Sl → (PyData → Prop) → Prop := fun ss P => ∃ (k : Nat) (ws : List Wish), ss = [.dat (lotD k ws), .dat (.int 100)] ∧ LotOk k ws ∧ P (.bool true)
theorem D_is_lot_by (B : BC E) (A : AtD E "is_lot_by" s_is_lot_by ["value", "most"] [.int 100]) (D_is_between : Def E 2 "is_between" ["value", "low", "high"] [] C_is_between) (D_is_wish : Def E 5 "is_wish" ["value", "size"] [] C_is_wish) : Def E 6 "is_lot_by" ["value", "most"] [.int 100] C_is_lot_by := by
  refine def_atD A c_is_lot_by (fun ss P h => by obtain ⟨k, ws, rfl, _⟩ := h; rfl) fun ss P h => ?_
  obtain ⟨k, ws, rfl, hO, p⟩ := h
  have h1 := hO.len
  refine js_cons (j1_if ?_)
  refine jt_bool ?_
  refine jw_or ?_
  refine jt_not ?_
  refine jt_val ?_
  refine je_callB B.isinstance rfl rfl ?_
  refine ja_cons ?_
  refine je_var 0 rfl (by first | exact Or.inl rfl | exact Or.inr (Or.inl rfl) | exact Or.inr (Or.inr rfl)) rfl (by intro z; cases z) ?_
  refine ja_cons ?_
  refine je_ty B.tuple_ rfl rfl ?_
  refine ja_nil ?_
  refine jc_isi rfl rfl ?_
  refine ⟨_, rfl, ?_⟩
  refine ⟨fun _ => ?_, fun z => nomatch z⟩
  refine jw_or ?_
  refine jt_cmp ?_
  refine je_callB B.len rfl rfl ?_
  refine ja_cons ?_
  refine je_var 0 rfl (by first | exact Or.inl rfl | exact Or.inr (Or.inl rfl) | exact Or.inr (Or.inr rfl)) rfl (by intro z; cases z) ?_
  refine ja_nil ?_
  refine jc_len rfl ?_
  refine je_int ?_
  refine jo_neI ?_
  refine ⟨_, rfl, ?_⟩
  refine ⟨fun _ => ?_, fun z => nomatch z⟩
  refine jw_or1 ?_
  refine jt_not ?_
  refine jt_val ?_
  refine je_call D_is_between (Nat.le_of_ble_eq_true rfl) rfl ?_
  refine ja_cons ?_
  refine je_ix ?_
  refine je_var 0 rfl (by first | exact Or.inl rfl | exact Or.inr (Or.inl rfl) | exact Or.inr (Or.inr rfl)) rfl (by intro z; cases z) ?_
  refine je_int ?_
  refine ⟨_, _, _, rfl, rfl, rfl, ?_⟩
  refine ja_cons ?_
  refine je_int ?_
  refine ja_cons ?_
  refine je_glob B.size rfl ?_
  refine ja_nil ?_
  refine ⟨(k : Int), 1, 12, rfl, by have := hO.k0; omega, by have := hO.k1; omega, ?_⟩
  refine ⟨_, rfl, ?_⟩
  refine ⟨fun z => (nomatch z), fun _ => ?_⟩
  refine js_nil ?_
  refine js_cons (j1_if ?_)
  refine jt_bool ?_
  refine jw_or ?_
  refine jt_not ?_
  refine jt_val ?_
  refine je_callB B.isinstance rfl rfl ?_
  refine ja_cons ?_
  refine je_ix ?_
  refine je_var 0 rfl (by first | exact Or.inl rfl | exact Or.inr (Or.inl rfl) | exact Or.inr (Or.inr rfl)) rfl (by intro z; cases z) ?_
  refine je_int ?_
  refine ⟨_, _, _, rfl, rfl, rfl, ?_⟩
  refine ja_cons ?_
  refine je_ty B.tuple_ rfl rfl ?_
  refine ja_nil ?_
  refine jc_isi rfl rfl ?_
  refine ⟨_, rfl, ?_⟩
  refine ⟨fun _ => ?_, fun z => nomatch z⟩
  refine jw_or1 ?_
  refine jt_cmp ?_
  refine je_callB B.len rfl rfl ?_
  refine ja_cons ?_
  refine je_ix ?_
  refine je_var 0 rfl (by first | exact Or.inl rfl | exact Or.inr (Or.inl rfl) | exact Or.inr (Or.inr rfl)) rfl (by intro z; cases z) ?_
  refine je_int ?_
  refine ⟨_, _, _, rfl, rfl, rfl, ?_⟩
  refine ja_nil ?_
  refine jc_len rfl ?_
  refine je_var 1 rfl (by first | exact Or.inl rfl | exact Or.inr (Or.inl rfl) | exact Or.inr (Or.inr rfl)) rfl (by intro z; cases z) ?_
  refine jo_gt ?_
  rw [List.length_map, decide_eq_false (by omega)]
  refine ⟨_, rfl, ?_⟩
  refine ⟨fun z => (nomatch z), fun _ => ?_⟩
  refine js_nil ?_
  refine js_cons (j1_ret ?_)
  refine je_callB B.all rfl rfl ?_
  refine ja_cons ?_
  refine je_lc1 2 (by decide +kernel) (by decide +kernel) rfl rfl ?_
  refine ji_tup ?_
  refine je_ix ?_
  refine je_var 0 rfl (by first | exact Or.inl rfl | exact Or.inr (Or.inl rfl) | exact Or.inr (Or.inr rfl)) rfl (by intro z; cases z) ?_
  refine je_int ?_
  refine ⟨_, _, _, rfl, rfl, rfl, ?_⟩
  refine ⟨_, rfl, lcMap ws wishD (fun _ => .bool true) (by omega) (fun a ha => ?_) ?_⟩
  · refine je_call D_is_wish (Nat.le_of_ble_eq_true rfl) rfl ?_
    refine ja_cons ?_
    refine je_var 2 rfl (by first | exact Or.inl rfl | exact Or.inr (Or.inl rfl) | exact Or.inr (Or.inr rfl)) rfl (by intro z; cases z) ?_
    refine ja_cons ?_
    refine je_ix ?_
    refine je_var 0 rfl (by first | exact Or.inl rfl | exact Or.inr (Or.inl rfl) | exact Or.inr (Or.inr rfl)) rfl (by intro z; cases z) ?_
    refine je_int ?_
    refine ⟨_, _, _, rfl, rfl, rfl, ?_⟩
    refine ja_nil ?_
    refine ⟨a, by rw [(hO.sz a ha).1]; rfl, by rw [(hO.sz a ha).1]; have := hO.k1; omega, rfl⟩
  · have e : ws.map (fun _ => PyData.bool true) = (ws.map fun _ => true).map PyData.bool := by rw [List.map_map]; rfl
    rw [e]
    refine ja_nil ?_
    refine jc_all ?_
    rw [all_true]
    exact ⟨_, rfl, p⟩
abbrev C_are_weights : List Sl → (PyData → Prop) → Prop := fun ss P => ∃ (w : List Rat), ss = [.dat (rw_ w), .dat (int w.length)] ∧ w.length ≤ 1000 ∧ (∀ x ∈ w, 0 ≤ x) ∧ P (.bool true)
theorem D_are_weights (B : BC E) (A : At E "are_weights" s_are_weights ["value", "many"]) (D_is_row_by : Def E 4 "is_row_by" ["value", "many"] [] C_is_row_by) : Def E 5 "are_weights" ["value", "many"] [] C_are_weights := by
  refine def_at A c_are_weights (fun ss P h => by obtain ⟨w, rfl, _⟩ := h; rfl) fun ss P h => ?_
  obtain ⟨w, rfl, hl, hw, p⟩ := h
  refine js_cons (j1_ret ?_)
  refine je_and ?_
  refine je_call D_is_row_by (Nat.le_of_ble_eq_true rfl) rfl ?_
  refine ja_cons ?_
  refine je_var 0 rfl (by first | exact Or.inl rfl | exact Or.inr (Or.inl rfl) | exact Or.inr (Or.inr rfl)) rfl (by intro z; cases z) ?_
  refine ja_cons ?_
  refine je_var 1 rfl (by first | exact Or.inl rfl | exact Or.inr (Or.inl rfl) | exact Or.inr (Or.inr rfl)) rfl (by intro z; cases z) ?_
  refine ja_nil ?_
  refine ⟨w, rfl, hl, ?_⟩
  refine ⟨_, rfl, ?_⟩
  refine ⟨fun _ => ?_, fun z => nomatch z⟩
  refine je_one ?_
  refine je_callB B.all rfl rfl ?_
  refine ja_cons ?_
  refine je_lc1 2 (by decide +kernel) (by decide +kernel) rfl rfl ?_
  refine ji_tup ?_
  refine je_var 0 rfl (by first | exact Or.inl rfl | exact Or.inr (Or.inl rfl) | exact Or.inr (Or.inr rfl)) rfl (by intro z; cases z) ?_
  refine ⟨_, rfl, lcMap w fr (fun _ => .bool true) (by omega) (fun a ha => ?_) ?_⟩
  · refine je_cmp ?_
    refine je_ix ?_
    refine je_var 2 rfl (by first | exact Or.inl rfl | exact Or.inr (Or.inl rfl) | exact Or.inr (Or.inr rfl)) rfl (by intro z; cases z) ?_
    refine je_int ?_
    refine ⟨_, _, _, rfl, rfl, rfl, ?_⟩
    refine je_int ?_
    refine jo_ge ?_
    rw [decide_eq_true (Rat.num_nonneg.mpr (hw a ha))]
  · have e : w.map (fun _ => PyData.bool true) = (w.map fun _ => true).map PyData.bool := by rw [List.map_map]; rfl
    rw [e]
    refine ja_nil ?_
    refine jc_all ?_
    rw [all_true]
    exact ⟨_, rfl, p⟩
/-- a paper that holds -/
structure GoodP (k : Nat) (ws : List Wish) (row : List Rat) (b : Rat) (q : Bool × List Rat) : Prop where
  len : q.2.length = ws.length
  sz : Szs 800 q.2
  nn : ∀ x ∈ q.2, 0 ≤ x
  bd : q.1 = true → mixR (rowsOf ws) q.2 k = row ∧ dotR q.2 (bndsOf ws) ≤ b
  vd : q.1 = false → mixR (rowsOf ws) q.2 k = nts k ∧ dotR q.2 (bndsOf ws) < 0
abbrev C_is_paper_by : List Sl → (PyData → Prop) → Prop := fun ss P => ∃ (k : Nat) (ws : List Wish) (row : List Rat) (b : Rat) (q : Bool × List Rat), ss = [.dat (lotD k ws), .dat (rw_ row), .dat (fr b), .dat (papT q)] ∧ LotOk k ws ∧ Sz 20 b ∧ GoodP k ws row b q ∧ P (.bool true)
theorem D_is_paper_by (B : BC E) (A : At E "is_paper_by" s_is_paper_by ["lot", "row", "bound", "paper"]) (D_are_weights : Def E 5 "are_weights" ["value", "many"] [] C_are_weights) (D_mixed : Def E 5 "mixed" ["rows", "numbers", "many"] [] C_mixed) (D_rows_in : Def E 1 "rows_in" ["lot"] [] C_rows_in) (D_dot : Def E 4 "dot" ["one", "two"] [] C_dot) (D_bounds_in : Def E 1 "bounds_in" ["lot"] [] C_bounds_in) (D_is_up_to : Def E 1 "is_up_to" ["one", "two"] [] C_is_up_to) (D_noughts : Def E 1 "noughts" ["many"] [] C_noughts) : Def E 6 "is_paper_by" ["lot", "row", "bound", "paper"] [] C_is_paper_by := by
  refine def_at A c_is_paper_by (fun ss P h => by obtain ⟨k, ws, row, b, q, rfl, _⟩ := h; rfl) fun ss P h => ?_
  obtain ⟨k, ws, row, b, q, rfl, hO, hb, hG, p⟩ := h
  have h1 := hO.len
  have h2 := hO.k1
  have hq := hG.len
  have hd : Sz 5000 (dotR q.2 (bndsOf ws)) := by
    refine (dot_szN (by decide) hG.sz (bnds_sz hO)).mono ?_
    have := Nat.mul_le_mul_right (800 + 13 + 1) (show q.2.length ≤ 6 by omega)
    omega
  have mid : ∀ (K : Str) (w : List Rat), q.2 = w → JS E ⟨N_is_paper_by, defScope s_is_paper_by, true, 5, fun _ => True⟩ false [.dat (lotD k ws), .dat (rw_ row), .dat (fr b), .dat (papT q), .dat (.str K), .dat (rw_ w), .dat (rw_ (mixR (rowsOf ws) w k)), .dat (fr (dotR w (bndsOf ws)))] ((defBody s_is_paper_by).drop 4) ⟨fun _ => P .none, P, fun _ => False, fun _ => False⟩ → JS E ⟨N_is_paper_by, defScope s_is_paper_by, true, 5, fun _ => True⟩ false [.dat (lotD k ws), .dat (rw_ row), .dat (fr b), .dat (papT q), .dat (.str K), .dat (rw_ w), .no, .no] ((defBody s_is_paper_by).drop 2) ⟨fun _ => P .none, P, fun _ => False, fun _ => False⟩ := fun K w ew h => by
    subst ew
    refine js_cons (j1_if ?_)
    refine jt_not ?_
    refine jt_val ?_
    refine je_call D_are_weights (Nat.le_of_ble_eq_true rfl) rfl ?_
    refine ja_cons ?_
    refine je_var 5 rfl (by first | exact Or.inl rfl | exact Or.inr (Or.inl rfl) | exact Or.inr (Or.inr rfl)) rfl (by intro z; cases z) ?_
    refine ja_cons ?_
    refine je_callB B.len rfl rfl ?_
    refine ja_cons ?_
    refine je_ix ?_
    refine je_var 0 rfl (by first | exact Or.inl rfl | exact Or.inr (Or.inl rfl) | exact Or.inr (Or.inr rfl)) rfl (by intro z; cases z) ?_
    refine je_int ?_
    refine ⟨_, _, _, rfl, rfl, rfl, ?_⟩
    refine ja_nil ?_
    refine jc_len rfl ?_
    refine ja_nil ?_
    refine ⟨q.2, by rw [List.length_map, hq]; rfl, by omega, hG.nn, ?_⟩
    refine ⟨_, rfl, ?_⟩
    refine ⟨fun z => (nomatch z), fun _ => ?_⟩
    refine js_nil ?_
    refine js_cons (j1_par 6 7 (by decide +kernel) rfl rfl (by decide) rfl rfl ?_)
    refine je_call D_mixed (Nat.le_of_ble_eq_true rfl) rfl ?_
    refine ja_cons ?_
    refine je_call D_rows_in (Nat.le_of_ble_eq_true rfl) rfl ?_
    refine ja_cons ?_
    refine je_var 0 rfl (by first | exact Or.inl rfl | exact Or.inr (Or.inl rfl) | exact Or.inr (Or.inr rfl)) rfl (by intro z; cases z) ?_
    refine ja_nil ?_
    refine ⟨k, ws, rfl, by omega, ?_⟩
    refine ja_cons ?_
    refine je_var 5 rfl (by first | exact Or.inl rfl | exact Or.inr (Or.inl rfl) | exact Or.inr (Or.inr rfl)) rfl (by intro z; cases z) ?_
    refine ja_cons ?_
    refine je_ix ?_
    refine je_var 0 rfl (by first | exact Or.inl rfl | exact Or.inr (Or.inl rfl) | exact Or.inr (Or.inr rfl)) rfl (by intro z; cases z) ?_
    refine je_int ?_
    refine ⟨_, _, _, rfl, rfl, rfl, ?_⟩
    refine ja_nil ?_
    refine ⟨rowsOf ws, q.2, k, rfl, ⟨7, 800, by decide, fun r hr => (rows_sz hO r hr).2, hG.sz, ?_⟩, by omega, fun r hr => by rw [(rows_sz hO r hr).1]; omega, ?_⟩
    · rw [rows_len]
      have := Nat.mul_le_mul_right (7 + 800 + 1) (show ws.length + 1 ≤ 7 by omega)
      omega
    refine je_call D_dot (Nat.le_of_ble_eq_true rfl) rfl ?_
    refine ja_cons ?_
    refine je_var 5 rfl (by first | exact Or.inl rfl | exact Or.inr (Or.inl rfl) | exact Or.inr (Or.inr rfl)) rfl (by intro z; cases z) ?_
    refine ja_cons ?_
    refine je_call D_bounds_in (Nat.le_of_ble_eq_true rfl) rfl ?_
    refine ja_cons ?_
    refine je_var 0 rfl (by first | exact Or.inl rfl | exact Or.inr (Or.inl rfl) | exact Or.inr (Or.inr rfl)) rfl (by intro z; cases z) ?_
    refine ja_nil ?_
    refine ⟨k, ws, rfl, by omega, ?_⟩
    refine ja_nil ?_
    refine ⟨q.2, bndsOf ws, rfl, ⟨800, 13, by decide, hG.sz, bnds_sz hO, ?_⟩, ?_⟩
    · have := Nat.mul_le_mul_right (800 + 13 + 1) (show q.2.length + 1 ≤ 7 by omega)
      omega
    exact h
  obtain ⟨kd, w⟩ := q
  have hbd := hG.bd
  have hvd := hG.vd
  cases kd with
  | true =>
    obtain ⟨g1, g2⟩ := hbd rfl
    refine js_cons (j1_if ?_)
    refine jt_bool ?_
    refine jw_or ?_
    refine jt_not ?_
    refine jt_val ?_
    refine je_callB B.isinstance rfl rfl ?_
    refine ja_cons ?_
    refine je_var 3 rfl (by first | exact Or.inl rfl | exact Or.inr (Or.inl rfl) | exact Or.inr (Or.inr rfl)) rfl (by intro z; cases z) ?_
    refine ja_cons ?_
    refine je_ty B.tuple_ rfl rfl ?_
    refine ja_nil ?_
    refine jc_isi rfl rfl ?_
    refine ⟨_, rfl, ?_⟩
    refine ⟨fun _ => ?_, fun z => nomatch z⟩
    refine jw_or ?_
    refine jt_cmp ?_
    refine je_callB B.len rfl rfl ?_
    refine ja_cons ?_
    refine je_var 3 rfl (by first | exact Or.inl rfl | exact Or.inr (Or.inl rfl) | exact Or.inr (Or.inr rfl)) rfl (by intro z; cases z) ?_
    refine ja_nil ?_
    refine jc_len rfl ?_
    refine je_int ?_
    refine jo_neI ?_
    refine ⟨_, rfl, ?_⟩
    refine ⟨fun _ => ?_, fun z => nomatch z⟩
    refine jw_or1 ?_
    refine jt_not ?_
    refine jt_val ?_
    refine je_callB B.isinstance rfl rfl ?_
    refine ja_cons ?_
    refine je_ix ?_
    refine je_var 3 rfl (by first | exact Or.inl rfl | exact Or.inr (Or.inl rfl) | exact Or.inr (Or.inr rfl)) rfl (by intro z; cases z) ?_
    refine je_int ?_
    refine ⟨_, _, _, rfl, rfl, rfl, ?_⟩
    refine ja_cons ?_
    refine je_ty B.str_ rfl rfl ?_
    refine ja_nil ?_
    refine jc_isi rfl rfl ?_
    refine ⟨_, rfl, ?_⟩
    refine ⟨fun z => (nomatch z), fun _ => ?_⟩
    refine js_nil ?_
    refine js_cons (j1_asg ?_)
    refine je_var 3 rfl (by first | exact Or.inl rfl | exact Or.inr (Or.inl rfl) | exact Or.inr (Or.inr rfl)) rfl (by intro z; cases z) ?_
    refine ⟨_, rfl, ?_⟩
    refine jg_tup ⟨_, rfl, rfl, ?_⟩
    refine jgs_cons ?_
    refine jg_name 4 (by decide +kernel) rfl (by first | exact Or.inl rfl | exact Or.inr rfl) ?_
    refine jgs_cons ?_
    refine jg_name 5 (by decide +kernel) rfl (by first | exact Or.inl rfl | exact Or.inr rfl) ?_
    refine jgs_nil ?_
    refine mid _ w rfl ?_
    refine js_cons (j1_if ?_)
    refine jt_cmp ?_
    refine je_var 4 rfl (by first | exact Or.inl rfl | exact Or.inr (Or.inl rfl) | exact Or.inr (Or.inr rfl)) rfl (by intro z; cases z) ?_
    refine je_str ?_
    refine jo_eqS ?_
    refine ⟨_, rfl, ?_⟩
    refine ⟨fun _ => ?_, fun z => nomatch z⟩
    refine js_cons (j1_ret ?_)
    refine je_and ?_
    refine je_cmp ?_
    refine je_var 6 rfl (by first | exact Or.inl rfl | exact Or.inr (Or.inl rfl) | exact Or.inr (Or.inr rfl)) rfl (by intro z; cases z) ?_
    refine je_var 1 rfl (by first | exact Or.inl rfl | exact Or.inr (Or.inl rfl) | exact Or.inr (Or.inr rfl)) rfl (by intro z; cases z) ?_
    refine jo_eqD rfl rfl ?_ ?_ ?_
    exact shRow _
    exact shRow _
    rw [eqv_rw, decide_eq_true g1]
    refine ⟨_, rfl, ?_⟩
    refine ⟨fun _ => ?_, fun z => nomatch z⟩
    refine je_one ?_
    refine je_call D_is_up_to (Nat.le_of_ble_eq_true rfl) rfl ?_
    refine ja_cons ?_
    refine je_var 7 rfl (by first | exact Or.inl rfl | exact Or.inr (Or.inl rfl) | exact Or.inr (Or.inr rfl)) rfl (by intro z; cases z) ?_
    refine ja_cons ?_
    refine je_var 2 rfl (by first | exact Or.inl rfl | exact Or.inr (Or.inl rfl) | exact Or.inr (Or.inr rfl)) rfl (by intro z; cases z) ?_
    refine ja_nil ?_
    refine ⟨_, b, rfl, ⟨5000, 20, hd, hb, by decide⟩, ?_⟩
    rw [decide_eq_true g2]
    exact ⟨_, rfl, p⟩
  | false =>
    obtain ⟨g1, g2⟩ := hvd rfl
    refine js_cons (j1_if ?_)
    refine jt_bool ?_
    refine jw_or ?_
    refine jt_not ?_
    refine jt_val ?_
    refine je_callB B.isinstance rfl rfl ?_
    refine ja_cons ?_
    refine je_var 3 rfl (by first | exact Or.inl rfl | exact Or.inr (Or.inl rfl) | exact Or.inr (Or.inr rfl)) rfl (by intro z; cases z) ?_
    refine ja_cons ?_
    refine je_ty B.tuple_ rfl rfl ?_
    refine ja_nil ?_
    refine jc_isi rfl rfl ?_
    refine ⟨_, rfl, ?_⟩
    refine ⟨fun _ => ?_, fun z => nomatch z⟩
    refine jw_or ?_
    refine jt_cmp ?_
    refine je_callB B.len rfl rfl ?_
    refine ja_cons ?_
    refine je_var 3 rfl (by first | exact Or.inl rfl | exact Or.inr (Or.inl rfl) | exact Or.inr (Or.inr rfl)) rfl (by intro z; cases z) ?_
    refine ja_nil ?_
    refine jc_len rfl ?_
    refine je_int ?_
    refine jo_neI ?_
    refine ⟨_, rfl, ?_⟩
    refine ⟨fun _ => ?_, fun z => nomatch z⟩
    refine jw_or1 ?_
    refine jt_not ?_
    refine jt_val ?_
    refine je_callB B.isinstance rfl rfl ?_
    refine ja_cons ?_
    refine je_ix ?_
    refine je_var 3 rfl (by first | exact Or.inl rfl | exact Or.inr (Or.inl rfl) | exact Or.inr (Or.inr rfl)) rfl (by intro z; cases z) ?_
    refine je_int ?_
    refine ⟨_, _, _, rfl, rfl, rfl, ?_⟩
    refine ja_cons ?_
    refine je_ty B.str_ rfl rfl ?_
    refine ja_nil ?_
    refine jc_isi rfl rfl ?_
    refine ⟨_, rfl, ?_⟩
    refine ⟨fun z => (nomatch z), fun _ => ?_⟩
    refine js_nil ?_
    refine js_cons (j1_asg ?_)
    refine je_var 3 rfl (by first | exact Or.inl rfl | exact Or.inr (Or.inl rfl) | exact Or.inr (Or.inr rfl)) rfl (by intro z; cases z) ?_
    refine ⟨_, rfl, ?_⟩
    refine jg_tup ⟨_, rfl, rfl, ?_⟩
    refine jgs_cons ?_
    refine jg_name 4 (by decide +kernel) rfl (by first | exact Or.inl rfl | exact Or.inr rfl) ?_
    refine jgs_cons ?_
    refine jg_name 5 (by decide +kernel) rfl (by first | exact Or.inl rfl | exact Or.inr rfl) ?_
    refine jgs_nil ?_
    refine mid _ w rfl ?_
    refine js_cons (j1_if ?_)
    refine jt_cmp ?_
    refine je_var 4 rfl (by first | exact Or.inl rfl | exact Or.inr (Or.inl rfl) | exact Or.inr (Or.inr rfl)) rfl (by intro z; cases z) ?_
    refine je_str ?_
    refine jo_eqS ?_
    refine ⟨_, rfl, ?_⟩
    refine ⟨fun z => (nomatch z), fun _ => ?_⟩
    refine js_nil ?_
    refine js_cons (j1_ret ?_)
    refine je_and ?_
    refine je_cmp ?_
    refine je_var 4 rfl (by first | exact Or.inl rfl | exact Or.inr (Or.inl rfl) | exact Or.inr (Or.inr rfl)) rfl (by intro z; cases z) ?_
    refine je_str ?_
    refine jo_eqS ?_
    refine ⟨_, rfl, ?_⟩
    refine ⟨fun _ => ?_, fun z => nomatch z⟩
    refine je_and ?_
    refine je_cmp ?_
    refine je_var 6 rfl (by first | exact Or.inl rfl | exact Or.inr (Or.inl rfl) | exact Or.inr (Or.inr rfl)) rfl (by intro z; cases z) ?_
    refine je_call D_noughts (Nat.le_of_ble_eq_true rfl) rfl ?_
    refine ja_cons ?_
    refine je_ix ?_
    refine je_var 0 rfl (by first | exact Or.inl rfl | exact Or.inr (Or.inl rfl) | exact Or.inr (Or.inr rfl)) rfl (by intro z; cases z) ?_
    refine je_int ?_
    refine ⟨_, _, _, rfl, rfl, rfl, ?_⟩
    refine ja_nil ?_
    refine ⟨k, rfl, by omega, ?_⟩
    refine jo_eqD rfl rfl ?_ ?_ ?_
    exact shRow _
    exact shRow _
    rw [eqv_rw, decide_eq_true g1]
    refine ⟨_, rfl, ?_⟩
    refine ⟨fun _ => ?_, fun z => nomatch z⟩
    refine je_one ?_
    refine je_cmp ?_
    refine je_ix ?_
    refine je_var 7 rfl (by first | exact Or.inl rfl | exact Or.inr (Or.inl rfl) | exact Or.inr (Or.inr rfl)) rfl (by intro z; cases z) ?_
    refine je_int ?_
    refine ⟨_, _, _, rfl, rfl, rfl, ?_⟩
    refine je_int ?_
    refine jo_lt ?_
    rw [num_lt0, decide_eq_true g2]
    exact ⟨_, rfl, p⟩
abbrev C_check_lot : List Sl → (PyData → Prop) → Prop := fun ss P => ∃ (k : Nat) (ws : List Wish), ss = [.dat (lotD k ws)] ∧ LotOk k ws ∧ P .none
theorem D_check_lot (B : BC E) (A : At E "check_lot" s_check_lot ["value"]) (D_is_lot_by : Def E 6 "is_lot_by" ["value", "most"] [.int 100] C_is_lot_by) : Def E 7 "check_lot" ["value"] [] C_check_lot := by
  refine def_at A c_check_lot (fun ss P h => by obtain ⟨k, ws, rfl, _⟩ := h; rfl) fun ss P h => ?_
  obtain ⟨k, ws, rfl, hO, p⟩ := h
  refine js_cons (j1_if ?_)
  refine jt_not ?_
  refine jt_val ?_
  refine je_call D_is_lot_by (Nat.le_of_ble_eq_true rfl) rfl ?_
  refine ja_cons ?_
  refine je_var 0 rfl (by first | exact Or.inl rfl | exact Or.inr (Or.inl rfl) | exact Or.inr (Or.inr rfl)) rfl (by intro z; cases z) ?_
  refine ja_nil ?_
  refine ⟨k, ws, rfl, hO, ?_⟩
  refine ⟨_, rfl, ?_⟩
  refine ⟨fun z => (nomatch z), fun _ => ?_⟩
  refine js_nil ?_
  refine js_nil ?_
  exact p
abbrev C_check_wish : List Sl → (PyData → Prop) → Prop := fun ss P => ∃ (k : Nat) (ws : List Wish) (row : List Rat) (b : Rat), ss = [.dat (lotD k ws), .dat (rw_ row), .dat (fr b)] ∧ LotOk k ws ∧ row.length = k ∧ P .none
theorem D_check_wish (B : BC E) (A : At E "check_wish" s_check_wish ["lot", "row", "bound"]) (D_check_lot : Def E 7 "check_lot" ["value"] [] C_check_lot) (D_check_row : Def E 4 "check_row" ["many", "value"] [] C_check_row) (D_is_ratio : Def E 3 "is_ratio" ["value"] [] C_is_ratio) : Def E 8 "check_wish" ["lot", "row", "bound"] [] C_check_wish := by
  refine def_at A c_check_wish (fun ss P h => by obtain ⟨k, ws, row, b, rfl, _⟩ := h; rfl) fun ss P h => ?_
  obtain ⟨k, ws, row, b, rfl, hO, hrl, p⟩ := h
  have h2 := hO.k1
  refine js_cons (j1_expr ?_)
  refine je_call D_check_lot (Nat.le_of_ble_eq_true rfl) rfl ?_
  refine ja_cons ?_
  refine je_var 0 rfl (by first | exact Or.inl rfl | exact Or.inr (Or.inl rfl) | exact Or.inr (Or.inr rfl)) rfl (by intro z; cases z) ?_
  refine ja_nil ?_
  refine ⟨k, ws, rfl, hO, ?_⟩
  refine js_cons (j1_expr ?_)
  refine je_call D_check_row (Nat.le_of_ble_eq_true rfl) rfl ?_
  refine ja_cons ?_
  refine je_ix ?_
  refine je_var 0 rfl (by first | exact Or.inl rfl | exact Or.inr (Or.inl rfl) | exact Or.inr (Or.inr rfl)) rfl (by intro z; cases z) ?_
  refine je_int ?_
  refine ⟨_, _, _, rfl, rfl, rfl, ?_⟩
  refine ja_cons ?_
  refine je_var 1 rfl (by first | exact Or.inl rfl | exact Or.inr (Or.inl rfl) | exact Or.inr (Or.inr rfl)) rfl (by intro z; cases z) ?_
  refine ja_nil ?_
  refine ⟨row, by rw [hrl]; rfl, by omega, ?_⟩
  refine js_cons (j1_if ?_)
  refine jt_not ?_
  refine jt_val ?_
  refine je_call D_is_ratio (Nat.le_of_ble_eq_true rfl) rfl ?_
  refine ja_cons ?_
  refine je_var 2 rfl (by first | exact Or.inl rfl | exact Or.inr (Or.inl rfl) | exact Or.inr (Or.inr rfl)) rfl (by intro z; cases z) ?_
  refine ja_nil ?_
  refine ⟨b, rfl, ?_⟩
  refine ⟨_, rfl, ?_⟩
  refine ⟨fun z => (nomatch z), fun _ => ?_⟩
  refine js_nil ?_
  refine js_nil ?_
  exact p
abbrev C_bounds : List Sl → (PyData → Prop) → Prop := fun ss P => ∃ (k : Nat) (ws : List Wish) (row : List Rat) (b : Rat) (r : Pap), ss = [.dat (lotD k ws), .dat (rw_ row), .dat (fr b)] ∧ LotOk k ws ∧ row.length = k ∧ Szs 20 row ∧ Sz 20 b ∧ PaperIs k ws row b r ∧ P (.bool r.isSome)
theorem D_bounds (B : BC E) (A : At E "bounds" s_bounds ["lot", "row", "bound"]) (D_check_wish : Def E 8 "check_wish" ["lot", "row", "bound"] [] C_check_wish) (D_is_bounded : Def E 12 "is_bounded" ["lot", "row", "bound"] [] C_is_bounded) : Def E 13 "bounds" ["lot", "row", "bound"] [] C_bounds := by
  refine def_at A c_bounds (fun ss P h => by obtain ⟨k, ws, row, b, r, rfl, _⟩ := h; rfl) fun ss P h => ?_
  obtain ⟨k, ws, row, b, r, rfl, hO, hrl, hrs, hb, hP, p⟩ := h
  refine js_cons (j1_expr ?_)
  refine je_call D_check_wish (Nat.le_of_ble_eq_true rfl) rfl ?_
  refine ja_cons ?_
  refine je_var 0 rfl (by first | exact Or.inl rfl | exact Or.inr (Or.inl rfl) | exact Or.inr (Or.inr rfl)) rfl (by intro z; cases z) ?_
  refine ja_cons ?_
  refine je_var 1 rfl (by first | exact Or.inl rfl | exact Or.inr (Or.inl rfl) | exact Or.inr (Or.inr rfl)) rfl (by intro z; cases z) ?_
  refine ja_cons ?_
  refine je_var 2 rfl (by first | exact Or.inl rfl | exact Or.inr (Or.inl rfl) | exact Or.inr (Or.inr rfl)) rfl (by intro z; cases z) ?_
  refine ja_nil ?_
  refine ⟨k, ws, row, b, rfl, hO, hrl, ?_⟩
  refine js_cons (j1_ret ?_)
  refine je_call D_is_bounded (Nat.le_of_ble_eq_true rfl) rfl ?_
  refine ja_cons ?_
  refine je_var 0 rfl (by first | exact Or.inl rfl | exact Or.inr (Or.inl rfl) | exact Or.inr (Or.inr rfl)) rfl (by intro z; cases z) ?_
  refine ja_cons ?_
  refine je_var 1 rfl (by first | exact Or.inl rfl | exact Or.inr (Or.inl rfl) | exact Or.inr (Or.inr rfl)) rfl (by intro z; cases z) ?_
  refine ja_cons ?_
  refine je_var 2 rfl (by first | exact Or.inl rfl | exact Or.inr (Or.inl rfl) | exact Or.inr (Or.inr rfl)) rfl (by intro z; cases z) ?_
  refine ja_nil ?_
  exact ⟨k, ws, row, b, r, rfl, hO, hrl, hrs, hb, hP, _, rfl, p⟩
abbrev C_paper_of : List Sl → (PyData → Prop) → Prop := fun ss P => ∃ (k : Nat) (ws : List Wish) (row : List Rat) (b : Rat) (r : Pap), ss = [.dat (lotD k ws), .dat (rw_ row), .dat (fr b)] ∧ LotOk k ws ∧ row.length = k ∧ Szs 20 row ∧ Sz 20 b ∧ PaperIs k ws row b r ∧ P (optD r)
theorem D_paper_of (B : BC E) (A : At E "paper_of" s_paper_of ["lot", "row", "bound"]) (D_check_wish : Def E 8 "check_wish" ["lot", "row", "bound"] [] C_check_wish) (D_paper_by : Def E 11 "paper_by" ["lot", "row", "bound"] [] C_paper_by) : Def E 12 "paper_of" ["lot", "row", "bound"] [] C_paper_of := by
  refine def_at A c_paper_of (fun ss P h => by obtain ⟨k, ws, row, b, r, rfl, _⟩ := h; rfl) fun ss P h => ?_
  obtain ⟨k, ws, row, b, r, rfl, hO, hrl, hrs, hb, hP, p⟩ := h
  refine js_cons (j1_expr ?_)
  refine je_call D_check_wish (Nat.le_of_ble_eq_true rfl) rfl ?_
  refine ja_cons ?_
  refine je_var 0 rfl (by first | exact Or.inl rfl | exact Or.inr (Or.inl rfl) | exact Or.inr (Or.inr rfl)) rfl (by intro z; cases z) ?_
  refine ja_cons ?_
  refine je_var 1 rfl (by first | exact Or.inl rfl | exact Or.inr (Or.inl rfl) | exact Or.inr (Or.inr rfl)) rfl (by intro z; cases z) ?_
  refine ja_cons ?_
  refine je_var 2 rfl (by first | exact Or.inl rfl | exact Or.inr (Or.inl rfl) | exact Or.inr (Or.inr rfl)) rfl (by intro z; cases z) ?_
  refine ja_nil ?_
  refine ⟨k, ws, row, b, rfl, hO, hrl, ?_⟩
  refine js_cons (j1_set 3 (by decide +kernel) rfl (by first | exact Or.inl rfl | exact Or.inr rfl) ?_)
  refine je_call D_paper_by (Nat.le_of_ble_eq_true rfl) rfl ?_
  refine ja_cons ?_
  refine je_var 0 rfl (by first | exact Or.inl rfl | exact Or.inr (Or.inl rfl) | exact Or.inr (Or.inr rfl)) rfl (by intro z; cases z) ?_
  refine ja_cons ?_
  refine je_var 1 rfl (by first | exact Or.inl rfl | exact Or.inr (Or.inl rfl) | exact Or.inr (Or.inr rfl)) rfl (by intro z; cases z) ?_
  refine ja_cons ?_
  refine je_var 2 rfl (by first | exact Or.inl rfl | exact Or.inr (Or.inl rfl) | exact Or.inr (Or.inr rfl)) rfl (by intro z; cases z) ?_
  refine ja_nil ?_
  refine ⟨k, ws, row, b, r, rfl, hO, hrl, hrs, hb, hP, ?_⟩
  refine js_cons (j1_ret ?_)
  refine je_if ?_
  refine jt_cmp ?_
  refine je_var 3 rfl (by first | exact Or.inl rfl | exact Or.inr (Or.inl rfl) | exact Or.inr (Or.inr rfl)) rfl (by intro z; cases z) ?_
  refine je_tup ?_
  refine ja_nil ?_
  refine ⟨_, rfl, Nat.le_of_ble_eq_true rfl, ?_⟩
  refine jo_neD rfl rfl ?_ ?_ ?_
  exact shPap _
  rfl
  rw [eqv_pap]
  cases r with
  | none =>
    refine ⟨_, rfl, ?_⟩
    refine ⟨fun z => (nomatch z), fun _ => ?_⟩
    refine je_non ?_
    exact ⟨_, rfl, p⟩
  | some q =>
    refine ⟨_, rfl, ?_⟩
    refine ⟨fun _ => ?_, fun z => nomatch z⟩
    refine je_var 3 rfl (by first | exact Or.inl rfl | exact Or.inr (Or.inl rfl) | exact Or.inr (Or.inr rfl)) rfl (by intro z; cases z) ?_
    exact ⟨_, rfl, p⟩
abbrev C_is_paper : List Sl → (PyData → Prop) → Prop := fun ss P => ∃ (k : Nat) (ws : List Wish) (row : List Rat) (b : Rat) (q : Bool × List Rat), ss = [.dat (lotD k ws), .dat (rw_ row), .dat (fr b), .dat (papT q)] ∧ LotOk k ws ∧ row.length = k ∧ Sz 20 b ∧ GoodP k ws row b q ∧ P (.bool true)
theorem D_is_paper (B : BC E) (A : At E "is_paper" s_is_paper ["lot", "row", "bound", "paper"]) (D_check_wish : Def E 8 "check_wish" ["lot", "row", "bound"] [] C_check_wish) (D_is_paper_by : Def E 6 "is_paper_by" ["lot", "row", "bound", "paper"] [] C_is_paper_by) : Def E 9 "is_paper" ["lot", "row", "bound", "paper"] [] C_is_paper := by
  refine def_at A c_is_paper (fun ss P h => by obtain ⟨k, ws, row, b, q, rfl, _⟩ := h; rfl) fun ss P h => ?_
  obtain ⟨k, ws, row, b, q, rfl, hO, hrl, hb, hG, p⟩ := h
  refine js_cons (j1_expr ?_)
  refine je_call D_check_wish (Nat.le_of_ble_eq_true rfl) rfl ?_
  refine ja_cons ?_
  refine je_var 0 rfl (by first | exact Or.inl rfl | exact Or.inr (Or.inl rfl) | exact Or.inr (Or.inr rfl)) rfl (by intro z; cases z) ?_
  refine ja_cons ?_
  refine je_var 1 rfl (by first | exact Or.inl rfl | exact Or.inr (Or.inl rfl) | exact Or.inr (Or.inr rfl)) rfl (by intro z; cases z) ?_
  refine ja_cons ?_
  refine je_var 2 rfl (by first | exact Or.inl rfl | exact Or.inr (Or.inl rfl) | exact Or.inr (Or.inr rfl)) rfl (by intro z; cases z) ?_
  refine ja_nil ?_
  refine ⟨k, ws, row, b, rfl, hO, hrl, ?_⟩
  refine js_cons (j1_ret ?_)
  refine je_call D_is_paper_by (Nat.le_of_ble_eq_true rfl) rfl ?_
  refine ja_cons ?_
  refine je_var 0 rfl (by first | exact Or.inl rfl | exact Or.inr (Or.inl rfl) | exact Or.inr (Or.inr rfl)) rfl (by intro z; cases z) ?_
  refine ja_cons ?_
  refine je_var 1 rfl (by first | exact Or.inl rfl | exact Or.inr (Or.inl rfl) | exact Or.inr (Or.inr rfl)) rfl (by intro z; cases z) ?_
  refine ja_cons ?_
  refine je_var 2 rfl (by first | exact Or.inl rfl | exact Or.inr (Or.inl rfl) | exact Or.inr (Or.inr rfl)) rfl (by intro z; cases z) ?_
  refine ja_cons ?_
  refine je_var 3 rfl (by first | exact Or.inl rfl | exact Or.inr (Or.inl rfl) | exact Or.inr (Or.inr rfl)) rfl (by intro z; cases z) ?_
  refine ja_nil ?_
  exact ⟨k, ws, row, b, q, rfl, hO, hb, hG, _, rfl, p⟩
end
end W6
end
section
set_option Elab.async false
set_option linter.all false
set_option maxRecDepth 100000
set_option maxHeartbeats 6400000
/-! sorted(set(xs)) of a list of tuples of ints: the list may be long, where few tuples differ. -/
namespace W6
open PySem PySem.Spec PyProof.Rows L2
/-- few differ -/
abbrev FewD (ks : List (Addr × List Int)) : Prop := ∀ L : List (Addr × List Int), (∀ p ∈ L, p ∈ ks) → (L.map (·.2)).Nodup → L.length < 63
theorem nodup_len {α : Type} : ∀ (l D : List α), l.Nodup → (∀ x ∈ l, x ∈ D) → l.length ≤ D.length
  | [], _, _, _ => Nat.zero_le _
  | x :: l, D, hn, hd => by
    obtain ⟨h1, h2⟩ := List.nodup_cons.mp hn
    obtain ⟨a, b, rfl⟩ := List.append_of_mem (hd x List.mem_cons_self)
    have := nodup_len l (a ++ b) h2 fun y hy => by
      have hne : y ≠ x := fun e => h1 (e ▸ hy)
      have := hd y (List.mem_cons_of_mem _ hy)
      rcases List.mem_append.mp this with h | h
      · exact List.mem_append_left _ h
      · exact List.mem_append_right _ ((List.mem_cons.mp h).resolve_left hne)
    rw [List.length_append] at this
    rw [List.length_append, List.length_cons, List.length_cons]
    omega
theorem fewD_of {ks : List (Addr × List Int)} (zs : List (List Int)) (h : ∀ p ∈ ks, p.2 ∈ zs) (hz : zs.length < 63) : FewD ks := fun L hL hn => by
  have := nodup_len _ zs hn fun x hx => by
    obtain ⟨p, hp, rfl⟩ := List.mem_map.mp hx
    exact h p (hL p hp)
  rw [List.length_map] at this
  omega
section
variable {Pg : Program} {wd : World} {A : Around} {E : Value → Shared → Prop} {s : Shared}
/-- the loop that fills the set -/
theorem fill_set {I : Addr} {fp wr : List Addr} {G : Array GenState → Array GenState → Prop} {n : Nat} {Pv : Nat → Value → Prop} {St : Nat → Shared → Prop} {R : Result → Shared → Prop} (W : WalksS Pg wd A.in1 I fp wr G n Pv St) (S : Addr) (hSf : S ∉ fp)
    (ks : List (Addr × List Int)) (hn : n = ks.length) (few : FewD ks) (hval : ∀ i v, Pv i v → ∃ p, ks[i]? = some p ∧ v = .ref p.1) (h0 : Heap) (hk : ∀ p ∈ ks, IsT Pg wd h0 p.2 p.1) (hS0 : h0.get? S = none) (hw0 : ∀ b ∈ wr, h0.get? b = none) (hu : A.in1.units < cLine) (k : Nat) :
    ∀ (i : Nat) (s : Shared), n - i = k → i ≤ n → St i s → (∀ b o, h0.get? b = some o → s.heap.get? b = some o) → (∃ L es ep t, SetTR Pg wd s.heap S L es ep t ∧ Got ks i L) →
      (∀ s' L es ep t, Moved (S :: wr) G s s' → SetTR Pg wd s'.heap S L es ep t → Got ks n L → (∀ b o, h0.get? b = some o → s'.heap.get? b = some o) → R (.ok (.ret .none)) s') → codeAny (model Pg wd) A (.builtin "set.update.loop" ⟨[.ref S, .ref I], []⟩) R s := by
  have out : S ∉ wr := fun h => hSf (W.sub _ h)
  have up : ∀ b ∈ wr, b ∈ S :: wr := fun b hb => List.mem_cons_of_mem _ hb
  have stays : ∀ {u v : Shared}, Moved wr G u v → (∀ b o, h0.get? b = some o → u.heap.get? b = some o) → ∀ b o, h0.get? b = some o → v.heap.get? b = some o := fun hm hkp b o e => hm.heap b o (fun hb => by rw [hw0 b hb] at e; cases e) (hkp b o e)
  induction k with
  | zero =>
    rintro i s hk' hi hst hkp ⟨L, es, ep, t, hS, g⟩ hR
    obtain rfl : i = n := by omega
    refine codeAny_builtin F.entry_set_update_loop ?_; rw [Around.under_plainId F.plain_set_update_loop _]
    change wpAny _ A.in1 (pyNext (.ref I) >>= _) _ _ s
    refine wpAny_bind (W.done s _ _ hst fun s' hm => ?_)
    have hkp' := stays hm hkp
    exact wpAny_pure (hR s' L es ep t (hm.mono up) (hS.keep (fun o e => hm.heap S o out e) fun p hp => isT_keep (hk p (List.mem_of_mem_take (g.sub p hp))) hkp') g hkp')
  | succ k ih =>
    rintro i s hk' hi hst hkp ⟨L, es, ep, t, hS, g⟩ hR
    have hlt : i < n := by omega
    refine codeAny_builtin F.entry_set_update_loop ?_; rw [Around.under_plainId F.plain_set_update_loop _]
    change wpAny _ A.in1 (pyNext (.ref I) >>= _) _ _ s
    refine wpAny_bind (W.item i s _ _ hlt hst fun v s' hP hst' hm => ?_)
    obtain ⟨p, hp, rfl⟩ := hval i v hP
    have hkp' := stays hm hkp
    have inks : ∀ q ∈ L, q ∈ ks := fun q hq => List.mem_of_mem_take (g.sub q hq)
    have hS' : SetTR Pg wd s'.heap S L es ep t := hS.keep (fun o e => hm.heap S o out e) fun q hq => isT_keep (hk q (inks q hq)) hkp'
    have hx : IsT Pg wd s'.heap p.2 p.1 := isT_keep (hk p (List.mem_of_getElem? hp)) hkp'
    change wpAny _ A.in1 (holding [Value.ref p.1] (setAdd S (.ref p.1)) >>= _) _ _ s'
    refine wpAny_bind (wpAny_holding ?_)
    unfold setAdd
    refine wpAny_holding (wpAny_bind (wpAny_pyHash_tuple hu hx ?_))
    have fewL := few L inks hS.nd
    refine add_at (s := { s' with toks := s'.toks + (p.2.length + 1) }) hS' hx hu (by omega) fun b h' L' es' ep' t' hsb hS2 c1 c2 => ?_
    have g' : Got ks (i + 1) L' := (Classical.em (p.2 ∈ L.map (·.2))).elim (fun c => by rw [c1 c]; exact g.same hp c) fun c => g.more hp (c2 c)
    have hkp2 : ∀ b o, h0.get? b = some o → h'.get? b = some o := fun b o e => (hsb.2 b (fun z => by rw [z, hS0] at e; cases e)).trans (hkp' b o e)
    refine wpAny_pure ⟨plainId_quiet F.plain_set_update_loop _, ih (i + 1) _ (by omega) hlt (W.frame _ s' _ _ hst' (Nat.le_add_right _ _) fun b hb o e => by rw [hsb.2 b (fun h : b = S => hSf (by rw [← h]; exact hb))]; exact e) hkp2 ⟨L', es', ep', t', hS2, g'⟩ fun s'' L2 es2 ep2 t2 hm'' hS'' g'' hkp'' => ?_⟩
    refine hR s'' L2 es2 ep2 t2 (Moved.trans W.gtrans ((hm.mono up).then_heap (Nat.le_add_right _ _) fun b o hb e => by rw [hsb.2 b (fun h : b = S => hb (by rw [h]; exact List.mem_cons_self))]; exact e) hm'') hS'' g'' hkp''
abbrev setObj (wd : World) : Obj := { cls := .type "set", dict := none, data := .set #[] 0 (.fresh 0 0 (!wd.params.followText "set-order")) }
/-- set(xs) where few differ -/
theorem call_set_few {l : Addr} {items : Array Value} (ks : List (Addr × List Int)) {Q : Value → Shared → Prop} (hh : A.handled = none) (hl : s.heap.IsList l items) (hit : items.toList = ks.map fun p => Value.ref p.1) (hk : ∀ p ∈ ks, IsT Pg wd s.heap p.2 p.1) (few : FewD ks) (hu : A.units + 3 < cLine)
    (h : ∀ (h' : Heap) (tk : Nat) L es ep t, SetTR Pg wd h' s.heap.objs.size L es ep t → Got ks ks.length L → (∀ b o, s.heap.get? b = some o → h'.get? b = some o) → Q (.ref s.heap.objs.size) { s with heap := h', toks := tk }) : wpAny (model Pg wd) A (call (.type "set") [.ref l]) Q E s := by
  have hisz : items.size = ks.length := by rw [← Array.length_toList, hit, List.length_map]
  obtain ⟨c, tl, hmro⟩ := F.called_set.mro
  have hmade := F.called_set.made; have hsub := F.called_set.sub
  refine wpAny_call (codeAny_of_tree ?_)
  change wpAny _ _ (callAny (.type "set") _) _ _ _
  refine wpAny_pure ⟨Code.quiet_builtin _ (by decide +kernel), codeAny_builtin F.entry_type_call ?_⟩
  rw [Around.under_plain (weight_type_call_type "set" [.ref l] []) rfl]
  have h1 := F.called_set.notType; have h2 := F.called_set.canCreate; have hct := F.typeCall_set_1 (.ref l)
  repeat (any_goals (first | assumption | wp_step))
  refine codeAny_mono (code_set_led1 (.ref l) (E := E) (Q₁ := fun obj s₁ => obj = .ref s.heap.objs.size ∧ s₁ = { s with heap := s.heap.push (setObj wd) }) ⟨rfl, rfl⟩) fun r s₁ hr => ?_
  match r, hr with
  | .error e, hr => exact hr
  | .ok (.ret obj), hr =>
    obtain ⟨rfl, rfl⟩ := hr
    have hS : (s.heap.push (setObj wd)).get? s.heap.objs.size = some (setObj wd) := Heap.get?_push_size _ rfl
    have hT : Shared.TypeIs { s with heap := s.heap.push (setObj wd) } (.ref s.heap.objs.size) "set" := ⟨_, hS, rfl⟩
    have hli := F.called_set.init.lookup; have hbi := F.called_set.init.bind (.ref s.heap.objs.size)
    repeat (any_goals (first | assumption | wp_step))
    refine codeAny_mono (codeAny_call_builtin (R := wants (fun r s₂ => r = .none ∧ ∃ h' tk L es ep t, s₂ = { s with heap := h', toks := tk } ∧ SetTR Pg wd h' s.heap.objs.size L es ep t ∧ Got ks ks.length L ∧ (∀ b o, s.heap.get? b = some o → h'.get? b = some o)) E) F.called_set.init.plain F.entry_set_init (check_set_init_1 hT ?_)) fun r₂ s₂ hr₂ => ?_
    · obtain ⟨⟨ocls, odict, odata, oslots⟩, hol, hcl, nl, hdl⟩ := hl
      simp only at hcl hdl; subst hcl; subst hdl
      have hol' := Heap.get?_push_of_some (setObj wd) hol
      have hsls := F.sub_list_set; have hslf := F.sub_list_frozenset
      have hne : (Value.type "list" == Value.type "dict") = false := by decide
      have hl1 : (s.heap.push (setObj wd)).IsList l items := ⟨_, hol', rfl, nl, rfl⟩
      unfold Builtin.«set.__init__» noKeywords Builtin.Frozenset.updateFrom
      generalize hPI : pyIter = PI
      wp_walk
      subst hPI
      refine wpAny_pyIter_list hl1 (wpAny_bind (wpAny_runValue ?_))
      have hlS : l < s.heap.objs.size := Heap.lt_size hol
      have hh3 : A.in1.in1.in1.handled = none := by simp [hh]
      have hneI : l ≠ (s.heap.push (setObj wd)).objs.size := by rw [Heap.size_push]; exact Nat.ne_of_lt (Nat.lt_succ_of_lt hlS)
      have hSf : s.heap.objs.size ∉ [(s.heap.push (setObj wd)).objs.size, l] := by
        rw [Heap.size_push]; simp only [List.mem_cons, List.mem_singleton, List.not_mem_nil, or_false, not_or]
        exact ⟨Nat.ne_of_lt (Nat.lt_succ_self _), Nat.ne_of_gt hlS⟩
      have hval : ∀ (i : Nat) (v : Value), items[i]? = some v → ∃ p, ks[i]? = some p ∧ v = .ref p.1 := fun i v hv => by
        have q : items.toList[i]? = some v := by rw [Array.getElem?_toList]; exact hv
        rw [hit, List.getElem?_map] at q
        match hq : ks[i]? with
        | none => rw [hq] at q; cases q
        | some p => rw [hq] at q; exact ⟨p, rfl, (Option.some.inj q).symm⟩
      have none_of : ∀ b, s.heap.objs.size ≤ b → s.heap.get? b = none := fun b hb => by
        match q : s.heap.get? b with
        | none => rfl
        | some o => exact absurd (Nat.lt_of_lt_of_le (Heap.lt_size q) hb) (Nat.lt_irrefl _)
      refine fill_set ((Walks.list hh3 _ l hneI items).toS) s.heap.objs.size hSf ks hisz few hval s.heap hk (none_of _ (Nat.le_refl _)) (fun b hb => none_of b (by rw [List.mem_singleton.mp hb, Heap.size_push]; exact Nat.le_succ _)) hu (items.size - 0) 0 _ (by omega) (Nat.zero_le _)
        ⟨⟨_, Heap.get?_push_size _ rfl, rfl, rfl⟩, (hl1.push _)⟩ (fun b o e => Heap.get?_push_of_some _ (Heap.get?_push_of_some _ e)) ?hS0 ?hR
      case hS0 => exact ⟨[], #[], 0, _, setTR_fresh (Heap.get?_push_of_some _ hS), Got.zero ks⟩
      case hR =>
        rintro ⟨h', g2, d', tk', os'⟩ L es ep t hm hS' g' hkp
        obtain rfl : g2 = s.gens := hm.gens
        obtain rfl : d' = s.drawn := hm.drawn
        obtain rfl : os' = s.os := hm.os
        rw [hisz] at g'
        exact wpAny_pure (wpAny_pure ⟨rfl, h', tk', L, es, ep, t, rfl, hS', g', hkp⟩)
    · match r₂, hr₂ with
      | .error e, hr₂ => exact hr₂
      | .ok (.ret r), hr₂ =>
        obtain ⟨rfl, h', tk, L, es, ep, t, rfl, hS', g', hk'⟩ := hr₂
        repeat (any_goals (first | assumption | wp_step))
        exact h _ _ _ _ _ _ hS' g' hk'
end
end W6
end
section
set_option Elab.async false
set_option linter.all false
set_option maxRecDepth 100000
set_option maxHeartbeats 6400000
/-! sorted(set(xs)), the second half. -/
namespace W6
open PySem PySem.Spec PyProof.Rows L2
section
variable {Pg : Program} {wd : World} {A : Around} {E : Value → Shared → Prop} {s : Shared}
abbrev keyD (p : Addr × List Int) : PyData := .tuple (p.2.map .int)
theorem reads_key {h : Heap} {b : Addr} {k : List Int} (x : IsT Pg wd h k b) : Reads h (.ref b) (.tuple (k.map .int)) [] := by
  obtain ⟨o, items, n, ho, hc, hd, hi⟩ := x
  exact .tuple ho hc hd ((ints_of_items hi).reads h)
theorem each_refs {R : Value → Addr × List Int → Prop} : ∀ L1 : List (Addr × List Int), (∀ q ∈ L1, R (.ref q.1) q) → PySem.W.EachIs R (L1.map fun q => Value.ref q.1) L1
  | [], _ => .nil
  | q :: L1, h => .cons (h q List.mem_cons_self) (each_refs L1 fun r hr => h r (List.mem_cons_of_mem _ hr))
theorem refs_each : ∀ {out : List Value} {L1 : List (Addr × List Int)}, PySem.W.EachIs (fun v q => v = Value.ref q.1) out L1 → out = L1.map fun q => Value.ref q.1
  | _, _, .nil => rfl
  | _, _, .cons h t => by rw [List.map_cons, ← h, ← refs_each t]
theorem dep_key (p : Addr × List Int) : (keyD p).depth ≤ 1 := by
  show PyData.depthAll (p.2.map .int) + 1 ≤ 1
  rw [PySem.W.depth_ints]
  exact Nat.le_refl _
theorem sorted_few {a : Addr} {L : List (Addr × List Int)} {es : Array (Int × Value)} {ep : Nat} {t : SetTable} {Q : Value → Shared → Prop} (R : SetTR Pg wd s.heap a L es ep t) (hh : A.handled = none) (hne : ∀ p ∈ L, p.2 ≠ []) (hu : A.units + 64 < cLine)
    (hQ : ∀ s' p (out : Array Value) (c : Nat) (L' : List (Addr × List Int)), (∀ b o, s.heap.get? b = some o → s'.heap.get? b = some o) → s'.gens = s.gens → s'.os = s.os → s.heap.objs.size ≤ p → s'.heap.get? p = some (seqObj "list" out c) → out.toList = L'.map (fun q => Value.ref q.1) → L'.Perm L → Q (.ref p) s') :
    wpAny (model Pg wd) A (call (.builtin "sorted") [.ref a]) Q E s := by
  obtain ⟨o, ho, hex, hd⟩ := R.ob
  have hsz := R.size; have hfew := R.few
  refine Calls.call_function_entry kind_sorted plain_sorted entry_sorted (args_sorted1 _) ?_
  unfold Builtin.«sorted»
  refine wpAny_bind (m := checkCount "sorted" 1 1 _) (wpAny_pure (wpAny_bind (collect_set (A := A.in1) hh ⟨o, ho, hex.1, hd⟩ R.fits (by unfold scanBound; omega) R.tab.ris R.led fun s1 vs k1 hz g1 o1 pm => ?_)))
  have hes : es.toList.map (·.2) = L.map fun q => Value.ref q.1 := by
    rw [R.rows]; unfold L2.rowsOf; rw [List.map_map]; rfl
  rw [hes] at pm
  have order : ∀ us : List Value, (∀ v ∈ us, ∃ q ∈ L, v = Value.ref q.1) → ∃ L1 : List (Addr × List Int), us = L1.map (fun q => Value.ref q.1) ∧ ∀ q ∈ L1, q ∈ L := fun us => by
    induction us with
    | nil => exact fun _ => ⟨[], rfl, fun q hq => nomatch hq⟩
    | cons v us ih =>
      intro hv
      obtain ⟨q, hq, e⟩ := hv v List.mem_cons_self
      obtain ⟨L1, e1, hs⟩ := ih fun u hu => hv u (List.mem_cons_of_mem _ hu)
      exact ⟨q :: L1, by rw [List.map_cons, e, e1], fun r hr => (List.mem_cons.mp hr).elim (fun z => z ▸ hq) (hs r)⟩
  have sole : ∀ q ∈ L, ∀ r ∈ L, q.1 = r.1 → q = r := fun q hq r hr e => by
    have a1 := R.tup q hq
    rw [e] at a1
    exact Prod.ext e (a1.inj (R.tup r hr))
  obtain ⟨L1, e1, hs1⟩ := order vs fun v hv => by
    obtain ⟨q, hq, e⟩ := List.mem_map.mp (pm.mem_iff.mp hv)
    exact ⟨q, hq, e.symm⟩
  have nL : L.Nodup := nodup_of_map R.nd
  have p1 : L1.Perm L := by
    have nref : (L.map fun q => Value.ref q.1).Nodup := List.pairwise_map.mpr (List.Pairwise.imp_of_mem (fun {q r} hq hr hne e => hne (sole q hq r hr (by injection e))) nL)
    have n1 : L1.Nodup := nodup_of_map ((e1 ▸ pm).nodup_iff.mpr nref)
    refine (List.perm_ext_iff_of_nodup n1 nL).mpr fun q => ⟨hs1 q, fun hq => ?_⟩
    have hm : Value.ref q.1 ∈ L1.map (fun q => Value.ref q.1) := (e1 ▸ pm).mem_iff.mpr (List.mem_map.mpr ⟨q, hq, rfl⟩)
    obtain ⟨r, hr, e⟩ := List.mem_map.mp hm
    rw [← sole r (hs1 r hr) q hq (by injection e)]
    exact hr
  have hvl : vs.length < 64 := by rw [pm.length_eq, List.length_map]; exact hfew
  have hll : L1.length < 64 := by rw [p1.length_eq]; exact hfew
  refine wpAny_bind (wpAny_newList ?_ (by rw [sizeLine_eq]; omega))
  have hoL : (s1.heap.push (seqObj "list" vs.toArray 0)).get? s1.heap.objs.size = some (seqObj "list" vs.toArray 0) := Heap.get?_push_size _ rfl
  have rd : ∀ q ∈ L1, Reads (s1.heap.push (seqObj "list" vs.toArray 0)) (.ref q.1) (keyD q) [] := fun q hq => reads_key (Pg := Pg) (wd := wd) (isT_keep (R.tup q (hs1 q hq)) fun b u e => Heap.get?_push_of_some _ (k1 b u e))
  have er1 : PySem.W.EachIs (fun v q => v = Value.ref q.1) vs L1 := by
    have h := each_refs (R := fun v q => v = Value.ref q.1) L1 fun q _ => rfl
    rw [← e1] at h
    exact h
  have er2 : PySem.W.EachIs (fun v q => ∃ as, Reads (s1.heap.push (seqObj "list" vs.toArray 0)) v (keyD q) as ∧ s1.heap.objs.size ∉ as) vs L1 := by
    have h := each_refs (R := fun v q => ∃ as, Reads (s1.heap.push (seqObj "list" vs.toArray 0)) v (keyD q) as ∧ s1.heap.objs.size ∉ as) L1 fun q hq => ⟨[], rd q hq, List.not_mem_nil⟩
    rw [← e1] at h
    exact h
  refine wpAny_bind (wpAny_holding (PySem.W.list_sort_data (s := { s1 with heap := s1.heap.push (seqObj "list" vs.toArray 0) }) (R := fun v q => v = Value.ref q.1) (enc := keyD) (bs := L1) hoL
    er1 er2
    (PySem.W.AllAlike.of fun b b' => PySem.W.alike_ints b.2 b'.2) (.inl fun d hd => ?_) (by rw [sizeLine_eq]; omega) (fun b _ => by have := dep_key b; show A.units + 1 + 1 + (keyD b).depth < cLine; omega) fun out hol he => ?_))
  · obtain ⟨q, hq, rfl⟩ := List.mem_map.mp hd
    match hk : q.2, hne q (hs1 q hq) with
    | [], h => exact absurd rfl h
    | x :: r, _ => exact ⟨.int x, r.map .int, by show PyData.tuple (q.2.map .int) = _; rw [hk]; rfl⟩
  · obtain ⟨c, hc⟩ := sortedHeap_at (vs := vs) (out := List.toArray out) hoL
    refine wpAny_pure ⟨_, rfl, hQ _ s1.heap.objs.size (List.toArray out) c (L1.mergeSort (PySem.W.dataLe false keyD)) (fun b u e => ?_) g1 o1 hz hc (refs_each he) ((List.mergeSort_perm _ _).trans p1)⟩
    have q := k1 b u e
    have hlt := Heap.lt_size q
    change (sortedHeap (s1.heap.push (seqObj "list" vs.toArray 0)) s1.heap.objs.size vs (List.toArray out)).get? b = some u
    rw [sortedHeap_old (Nat.ne_of_lt hlt) (by rw [size_push']; exact Nat.lt_succ_of_lt hlt)]
    exact Heap.get?_push_of_some _ q
end
section
variable {X : Cx}
/-- set(xs), few differ -/
def rSetF (K : PySem.W.Frag) (Pg : Program) (wd : World) : List V → Hp → VK → Prop := fun xs H Q => ∃ (l : Addr) (ks : List (Addr × List Int)), xs = [V.ref l] ∧ SqL K H l (ks.map fun p => V.ref p.1) ∧ (∀ p ∈ ks, SqT K H p.1 (p.2.map V.int)) ∧ FewD ks ∧
  ∀ a L, H a = none → (∀ p ∈ L, p ∈ ks) → (∀ p ∈ ks, p.2 ∈ L.map (·.2)) → Q (.ref a) (upd H a (SetTO Pg wd a L))
theorem cr_setF (hc : X.calm = true) (hu : X.A.units + 64 < cLine) : CallR X (.type "set") (rSetF X.K X.prog X.w) := by
  rintro pins s σ H xs us Q I r ⟨l, ks, rfl, hl, hk, hf, q⟩
  rw [Vals.ref1 r]
  obtain ⟨its, rv, pl, hz⟩ := I.list hl
  refine call_set_few (Pg := X.prog) (wd := X.w) ks (I.ok.hd hc) pl.isList (by simpa using refs_of_vals rv) (fun p hp => I.isT (hk p hp)) hf (by omega) fun h' tk L es ep t R g k => ?_
  exact ⟨.ref s.heap.objs.size, upd H s.heap.objs.size (SetTO X.prog X.w s.heap.objs.size L), I.laid (t' := tk) k (Nat.le_refl _) (setTO_new R.t0), rfl, q _ L (I.hok.fresh (Nat.le_refl _)) (fun p hp => List.mem_of_mem_take (g.sub p hp)) fun p hp => g.all p (by rw [List.take_length]; exact hp)⟩
def rSortF (K : PySem.W.Frag) (Pg : Program) (wd : World) : List V → Hp → VK → Prop := fun vs H Q => ∃ (a : Addr) (L : List (Addr × List Int)), vs = [V.ref a] ∧ H a = some (SetTO Pg wd a L) ∧ (∀ p ∈ L, SqT K H p.1 (p.2.map V.int)) ∧ (∀ p ∈ L, p.2 ≠ []) ∧
  ∀ (L' : List (Addr × List Int)) (p : Addr), L'.Perm L → (L'.map (·.2)).Nodup → L'.length < 64 → H p = none → Q (.ref p) (upd H p (.lst (L'.map fun q => V.ref q.1)))
theorem cr_sortF (hc : X.calm = true) (hu : X.A.units + 64 < cLine) : CallR X (.builtin "sorted") (rSortF X.K X.prog X.w) := by
  rintro pins s σ H vs us Q I r ⟨a, L, rfl, ha, hk, hne, q⟩
  have R0 : SetT0 X.prog X.w s.heap a L := (I.hok a _ ha).1
  obtain ⟨es, ep, t, R⟩ := R0.full fun p hp => I.isT (hk p hp)
  rw [Vals.ref1 r]
  refine sorted_few R (I.ok.hd hc) hne hu fun s' p out c L' k g o hp hg hout pm => ?_
  have hfew : L'.length < 64 := by rw [pm.length_eq]; exact R.few
  have hlen : (L'.map fun q => V.ref q.1).length ≤ sizeLine := by rw [List.length_map, sizeLine_eq]; omega
  have hn : H p = none := I.hok.fresh hp
  have hv : Vals (L'.map fun q => V.ref q.1) out.toList := by rw [hout]; exact vals_of_refs L'
  have J : Inv X pins σ (upd H p (.lst (L'.map fun q => V.ref q.1))) { s with heap := s'.heap, gens := s'.gens, drawn := s'.drawn, toks := s'.toks } := I.call (ch := []) (Un.laid k hp hn) (I.hok.laid k hp ⟨hlen, out.toList, c, hv, hg⟩) (by rw [g]; exact I.bare) (fun _ z => nomatch z)
  have e : s' = { s with heap := s'.heap, gens := s'.gens, drawn := s'.drawn, toks := s'.toks } := by
    obtain ⟨_, _, _, _, _⟩ := s'
    obtain ⟨_, _, _, _, _⟩ := s
    cases o
    rfl
  rw [e]
  exact ⟨.ref p, _, J, rfl, q L' p pm ((pm.map (·.2)).nodup_iff.mpr R.nd) hfew hn⟩
end
end W6
end
section
set_option Elab.async false
set_option linter.all false
set_option maxRecDepth 100000
set_option maxHeartbeats 4000000
/-! Rules of the layer: sorted(set(xs)), repr, three names at once of which one is an own list. -/
namespace W6
open PySem PySem.Spec PyProof.Rows L2
abbrev tupI (ns : List Int) : PyData := .tuple (ns.map .int)
theorem dqs_ints {K : PySem.W.Frag} {H : Hp} : ∀ {ns : List Int} {vs : List V}, DqAll K H vs (ns.map .int) → vs = ns.map V.int
  | [], _, h => by cases h; rfl
  | n :: ns, _, h => by
    cases h with
    | cons h1 h2 => cases h1; rw [dqs_ints h2]; rfl
theorem ints_dqs {K : PySem.W.Frag} {H : Hp} : ∀ ns : List Int, DqAll K H (ns.map V.int) (ns.map .int)
  | [] => .nil
  | n :: ns => .cons (.int n) (ints_dqs ns)
theorem keys_of {K : PySem.W.Frag} {H : Hp} : ∀ {xs : List (List Int)} {vs : List V}, DqAll K H vs (xs.map tupI) → ∃ ks : List (Addr × List Int), vs = ks.map (fun p => V.ref p.1) ∧ ks.map (·.2) = xs ∧ ∀ p ∈ ks, SqT K H p.1 (p.2.map V.int)
  | [], _, h => by cases h; exact ⟨[], rfl, rfl, fun p hp => nomatch hp⟩
  | x :: xs, _, h => by
    cases h with
    | cons h1 h2 =>
      obtain ⟨ks, rfl, e, hk⟩ := keys_of h2
      cases h1 with
      | tup h3 h4 =>
        rename_i a ws
        rw [dqs_ints h4] at h3
        refine ⟨(a, x) :: ks, rfl, by rw [List.map_cons, e], fun p hp => ?_⟩
        rcases List.mem_cons.mp hp with rfl | hp
        · exact h3
        · exact hk p hp
theorem of_keys {K : PySem.W.Frag} {H : Hp} : ∀ {ks : List (Addr × List Int)}, (∀ p ∈ ks, SqT K H p.1 (p.2.map V.int)) → DqAll K H (ks.map fun p => V.ref p.1) ((ks.map (·.2)).map tupI)
  | [], _ => .nil
  | p :: ks, h => .cons (.tup (h p List.mem_cons_self) (ints_dqs p.2)) (of_keys fun q hq => h q (List.mem_cons_of_mem _ hq))
theorem Stt.off {W M : List Addr} {O : Option Addr} {H : Hp} (st : Stt W M O H) {p : Addr} (hp : H p = none) : p ∉ mt O M := fun z => by
  match O, z with
  | none, z => exact st.dom p z hp
  | some a, z =>
    rcases List.mem_cons.mp z with z | z
    · rw [z] at hp
      exact (st.own a rfl).2 hp
    · exact st.dom p z hp
section
variable {E : En} {Γ : Ctx} {ρ : List Sl} {pos : Pos} {P : Sl → Prop}
theorem je_sortedSet {p1 p2 pp : Pos} {e : Expr} (hm : E.mg "sorted" = none) (hg : Glo Γ "sorted") (hm2 : E.mg "set" = none) (hg2 : Glo Γ "set")
    (h : JE E Γ ρ e fun s => ∃ xs zs : List (List Int), s = .dat (.list (xs.map tupI)) ∧ (∀ x ∈ xs, x ≠ [] ∧ x ∈ zs) ∧ zs.length < 63 ∧ ∀ ys : List (List Int), ys.Nodup → (∀ y, y ∈ ys ↔ y ∈ xs) → P (.dat (.list (ys.map tupI))))
    (na : ∀ env, starEach [e] env = (false, eval e env) :: starEach [] env := by intro _; rfl) (hp : ∀ env, (backTo pp (starEach [] env)).any (·.1) = false := by intro _; rfl)
    (nb : ∀ env, starEach [.Call (.Name "set" p2) [e] [] pp] env = (false, eval (.Call (.Name "set" p2) [e] [] pp) env) :: starEach [] env := by intro _; rfl) (hq : ∀ env, (backTo pos (starEach [] env)).any (·.1) = false := by intro _; rfl) :
    JE E Γ ρ (.Call (.Name "sorted" p1) [.Call (.Name "set" p2) [e] [] pp] [] pos) P := je_of fun X g W M O σ H st en =>
  ⟨_, pe_callB (cr_sortF g.calm g.room.units) (g.gl hg) (by rw [g.mg]; exact hm) rfl
      (pa_cons (pe_callTy (cr_setF g.calm g.room.units) (g.gl hg2) (by rw [g.mg]; exact hm2) rfl (pa_cons (pe_se (e := e)) pa_nil (na _)) (by decide) (by decide) (na _) (hp _)) pa_nil (nb _)) (by decide) (by decide) (nb _) (hq _),
    fun Q q => h X g W M O σ H st en _ fun v s H1 e1 st1 o1 p1 => by
      obtain ⟨xs, zs, rfl, hx, hz, p⟩ := p1
      cases o1 with
      | lst h3 h4 =>
        rename_i l vs
        obtain ⟨ks, rfl, ek, hk⟩ := keys_of h4
        have kx : ∀ q ∈ ks, q.2 ∈ xs := fun q hq => by rw [← ek]; exact List.mem_map_of_mem hq
        have full : ∀ q ∈ ks, SqT X.K H1 q.1 (q.2.map V.int) := fun q hq => seqT (wo_sub _ _) (hk q hq)
        refine ⟨l, ks, rfl, SqL.of (wo_sub _ _ _ _ h3), full, fewD_of zs (fun q hq => (hx _ (kx q hq)).2) hz, fun a L ha hL hL2 => ?_⟩
        have s1 : Same H1 (upd H1 a (SetTO X.prog X.w a L)) := same_new ha
        refine ⟨a, L, rfl, upd_same, fun q hq => seqT s1 (full q (hL q hq)), fun q hq => (hx _ (kx q (hL q hq))).1, fun L' r pm nd hl hr => ?_⟩
        have hr1 : H1 r = none := by
          match hh : H1 r with
          | none => rfl
          | some o => rw [s1 r o hh] at hr; cases hr
        have s2 : Same (upd H1 a (SetTO X.prog X.w a L)) (upd (upd H1 a (SetTO X.prog X.w a L)) r (.lst (L'.map fun q => V.ref q.1))) := same_new hr
        have s12 : Same H1 (upd (upd H1 a (SetTO X.prog X.w a L)) r (.lst (L'.map fun q => V.ref q.1))) := fun b o z => s2 b o (s1 b o z)
        refine (q.ext e1).go st1 s12 (s := .dat (.list ((L'.map (·.2)).map tupI))) (.lst (wo_of (st1.off hr1) upd_same) (of_keys fun q hq => ?_)) (p _ nd fun y => ?_)
        · exact seqT (wo_mono fun b o _ z => s12 b o z) (hk q (hL q (pm.mem_iff.mp hq)))
        · have h1 : y ∈ L'.map (·.2) ↔ y ∈ L.map (·.2) := (pm.map (·.2)).mem_iff
          rw [h1, ← ek]
          constructor
          · intro hy
            obtain ⟨q, hq, rfl⟩ := List.mem_map.mp hy
            exact List.mem_map_of_mem (hL q hq)
          · intro hy
            obtain ⟨q, hq, rfl⟩ := List.mem_map.mp hy
            exact hL2 q hq⟩
/-- repr(x), nothing under way -/
theorem cr_reprD {X : Cx} {d : PyData} (hG : X.A.guards = some []) (hu : X.A.units + 64 < cLine) (hs : d.showable = true) (hn : d.hasDict = false) (hz : d.shown.length ≤ sizeLine) (hd : d.depth ≤ 60) : CallR X (.builtin "repr") (fun xs H Q => ∃ v, xs = [v] ∧ Dq X.K H v d ∧ Q (V.str d.shown) H) := by
  rintro pins s σ H xs us Q I r ⟨v, rfl, hv, q⟩
  obtain ⟨u, rfl, ru⟩ := vals1 r
  have hv := Dq.dp d v hv
  cases hv with
  | non =>
    cases ru
    exact PySem.P.repr_of_none ⟨.str _, H, I.tok _, ⟨_, rfl⟩, q⟩
  | bl b =>
    cases ru
    exact PySem.P.repr_of_bool ⟨.str _, H, I.tok _, ⟨_, rfl⟩, q⟩
  | int i =>
    obtain ⟨t, rfl⟩ := ru
    exact PySem.P.repr_of_int (of_decide_eq_true hs) ⟨.str _, H, I.tok _, ⟨_, rfl⟩, q⟩
  | str x =>
    obtain ⟨t, rfl⟩ := ru
    exact PySem.P.repr_of_str ⟨.str _, H, I.tok _, ⟨_, rfl⟩, q⟩ hz
  | lst h1 h2 =>
    cases ru
    obtain ⟨as, rd⟩ := Dp.reads I _ _ _ (.lst h1 h2) rfl
    exact repr_of_reads' rd hs (fun z => by rw [hn] at z; cases z) hG (by omega) (fun _ _ z => z) (fun h' u tk k => ⟨.str _, H, I.kept k, ⟨_, rfl⟩, q⟩) hz
  | tup h1 h2 =>
    cases ru
    obtain ⟨as, rd⟩ := Dp.reads I _ _ _ (.tup h1 h2) rfl
    exact repr_of_reads' rd hs (fun z => by rw [hn] at z; cases z) hG (by omega) (fun _ _ z => z) (fun h' u tk k => ⟨.str _, H, I.kept k, ⟨_, rfl⟩, q⟩) hz
theorem jc_repr {d : PyData} (hG : ∀ A, Γ.q A → A.guards = some []) (hs : d.showable = true) (hn : d.hasDict = false) (hz : d.shown.length ≤ sizeLine) (hd : d.depth ≤ 60) (p : P (.dat (.str d.shown))) : JC E Γ (.builtin "repr") [.dat d] P := jc_of fun X g =>
  ⟨_, cr_reprD (hG _ g.q) g.room.units hs hn hz hd, fun W M O H vs st oo Q q => by
    obtain ⟨v, rfl, o⟩ := sls1 oo
    exact ⟨v, rfl, dp_mono (wo_sub _ _) d v o, q.here st (s := .dat (.str d.shown)) (.str _) p⟩⟩
end
end W6
end
section
set_option Elab.async false
set_option linter.all false
set_option maxRecDepth 100000
set_option maxHeartbeats 4000000
/-! Rules of the layer: three names at once of which one is an own list; loops with an invariant. -/
namespace W6
open PySem PySem.Spec PyProof.Rows L2
theorem own_new {K : PySem.W.Frag} {W M : List Addr} {H1 : Hp} {σ : L2.St} {ρ : List Sl} {p : Addr} {vs : List V} {ds : List PyData} (st1 : Stt W M none H1) (en : EnvOk K W M none H1 σ ρ) (hp : H1 p = none) (hv : DqAll K (wo M H1) vs ds) :
    Stt W M (some p) (upd H1 p (.lst vs)) ∧ EnvOk K W M (some p) (upd H1 p (.lst vs)) σ ρ ∧ SlOk K W M (some p) (upd H1 p (.lst vs)) (.ref p) (.own ds) := by
  have nM : p ∉ M := fun z => st1.dom p z hp
  have sm : Same (wo M H1) (wo (p :: M) (upd H1 p (.lst vs))) := fun c o hc => by
    obtain ⟨n, hc⟩ := wo_some hc
    have ne := ne_of_none hc hp
    exact wo_of (fun z => (List.mem_cons.mp z).elim ne n) (by rw [upd_ne ne]; exact hc)
  refine ⟨?_, ⟨en.len, fun j s a b => ?_⟩, p, vs, rfl, rfl, upd_same, dps_mono sm _ _ hv⟩
  · have z := st1.same (same_new (o := .lst vs) hp)
    refine ⟨z.sub, z.wl, z.dom, fun a ha => ?_⟩
    cases ha
    exact ⟨nM, by rw [upd_same]; exact fun w => nomatch w⟩
  · obtain ⟨v, h1, h2⟩ := en.at' j s a b
    refine ⟨v, h1, ?_⟩
    match s, h2 with
    | .own es, ⟨_, _, _, z, _⟩ => cases z
    | .dat d, h2 => exact dp_mono sm d v h2
    | .rd es, ⟨a, ws, h3, h4, h5, h6, h7⟩ =>
      have ne := ne_of_none h6 hp
      exact ⟨a, ws, h3, h4, fun z => ne (by cases z; rfl), by rw [upd_ne ne]; exact h6, dps_mono sm es ws h7⟩
    | .scr ns, ⟨a, h3, h4⟩ => exact ⟨a, h3, sm.seq h4⟩
    | .no, h2 => exact h2
    | .well, h2 => exact h2
    | .ty n, h2 => exact h2
theorem own_pd {K : PySem.W.Frag} {W M : List Addr} {H H1 : Hp} {p : Addr} {vs : List V} {D : Po} {DD : Ends} (e1 : Ext W H H1) (hp : H1 p = none) (q : PD K W M none H D DD) : PD K W M (some p) (upd H1 p (.lst vs)) ⟨fun ρ' => D.nx (ρ'.map fz), D.rt, fun ρ' => D.bk (ρ'.map fz), fun ρ' => D.ct (ρ'.map fz)⟩ DD := by
  have ex : ∀ {H'}, ExtO W (some p) (upd H1 p (.lst vs)) H' → ExtO W none H H' := fun {H'} k a o n _ hc => by
    have h1 := e1 a o n hc
    have ne := ne_of_none h1 hp
    exact k a o n (fun z => ne (by cases z; rfl)) (by rw [upd_ne ne]; exact h1)
  have back : ∀ {H'}, Stt W M (some p) H' → Stt W M none H' := fun {H'} s => ⟨s.sub, s.wl, s.dom, fun _ z => nomatch z⟩
  exact ⟨fun σ' H' ρ' k s en' j => q.nx σ' H' _ (ex k) (back s) (fz_env s en') j, fun v d H' k s dv j => q.rt v d H' (ex k) (back s) dv j, fun σ' H' ρ' k s en' j => q.bk σ' H' _ (ex k) (back s) (fz_env s en') j, fun σ' H' ρ' k s en' j => q.ct σ' H' _ (ex k) (back s) (fz_env s en') j⟩
section
variable {E : En} {Γ : Ctx} {ρ : List Sl} {pos : Pos} {P : Sl → Prop} {o : Bool} {D : Po} {sts : List Stmt}
/-- x, y, z = a, b, [] -/
theorem js_own3 (i j l : Nat) {x y z : Str} {a b : Expr} {px py pz pt pt2 pl : Pos} {kt k2 : Nat} (hN : Γ.N.Nodup) (hi : Γ.N[i]? = some x) (hj : Γ.N[j]? = some y) (hl : Γ.N[l]? = some z) (hij : i ≠ j) (hil : i ≠ l) (hjl : j ≠ l) (hx : Γ.sc.names.lookup x = some .local) (hy : Γ.sc.names.lookup y = some .local) (hz : Γ.sc.names.lookup z = some .local)
    (h : JE E Γ ρ a fun s => JE E Γ ρ b fun t => JS E Γ true (((ρ.set i s).set j t).set l (.own [])) sts ⟨fun ρ' => D.nx (ρ'.map fz), D.rt, fun ρ' => D.bk (ρ'.map fz), fun ρ' => D.ct (ρ'.map fz)⟩)
    (hw : ∀ env : Env, env.scope = Γ.sc → swappedStores [.Tuple [.Name x px, .Name y py, .Name z pz] kt pt] (.Tuple [a, b, .List [] pl] k2 pt2) env = pure (some [x, y, z]) := by (intro env h; cases env; cases h; first | rfl | with_unfolding_all rfl))
    (hs : ∀ env : Env, env.scope = Γ.sc → swapsWithSole [.Tuple [.Name x px, .Name y py, .Name z pz] kt pt] (.Tuple [a, b, .List [] pl] k2 pt2) pos.line env = pure false := by (intro env h; cases env; cases h; first | rfl | with_unfolding_all rfl))
    (h1 : ∀ env, starEach [a, b, .List [] pl] env = (false, eval a env) :: starEach [b, .List [] pl] env := by intro _; rfl) (h2 : ∀ env, starEach [b, .List [] pl] env = (false, eval b env) :: starEach [.List [] pl] env := by intro _; rfl) (h3 : ∀ env, starEach [.List [] pl] env = (false, eval (.List [] pl) env) :: starEach [] env := by intro _; rfl) :
    JS E Γ false ρ (.Assign [.Tuple [.Name x px, .Name y py, .Name z pz] kt pt] (.Tuple [a, b, .List [] pl] k2 pt2) pos :: sts) D := js_of fun X g W M O σ H ho st en => by
  match O, ho with
  | none, _ =>
    refine ⟨_, pss_cons (ps_par3 (i := i) (j := j) (l := l) g.calm (by rw [g.N]; exact hN) (by rw [g.N]; exact hi) (by rw [g.N]; exact hj) (by rw [g.N]; exact hl) hij hil hjl (by rw [g.sc]; exact hx) (by rw [g.sc]; exact hy) (by rw [g.sc]; exact hz)
      (pa_cons (pe_se (e := a)) (pa_cons (pe_se (e := b)) (pa_cons (pe_lst pa_nil) pa_nil (h3 _)) (h2 _)) (h1 _)) (hw _ g.sc) (hs _ g.sc)) (pss_se (sts := sts)), fun DD q => ?_⟩
    refine h X g W M none σ H st en _ fun v s H1 e1 st1 o1 p1 => p1 X g W M none σ H1 st1 (en.mono st e1) _ fun v2 t H2 e2 st2 o2 p2 => ?_
    refine ⟨Nat.zero_le _, fun p hp => ?_⟩
    have en2 := ((en.mono st e1).mono st1 e2)
    obtain ⟨st3, en3, own⟩ := own_new (vs := []) (ds := []) st2 ((en2.set i (o1.mono st1 e2)).set j o2) hp .nil
    exact ⟨v, v2, .ref p, rfl, p2 X g W M (some p) _ _ rfl st3 (en3.set l own) DD (own_pd (e1.trans e2) hp q)⟩
/-- a loop with an invariant -/
theorem for_inv {α β : Type} {tg : Expr} {body : List Stmt} (js : List Nat) (xs : List α) (f : α → PyData) (acc : β → List Sl) (Iv : Nat → β → Prop) (b0 : β) {items : List PyData} (hi : items = xs.map f) (h0 : wip ρ js = acc b0) (i0 : Iv 0 b0)
    (h : ∀ (i : Nat) a b, xs[i]? = some a → Iv i b → JG E Γ (acc b) tg (f a) fun ρ2 => JS E Γ o ρ2 body ⟨fun ρ3 => ∃ b', Iv (i + 1) b' ∧ wip ρ3 js = acc b', D.rt, D.nx, fun ρ3 => ∃ b', Iv (i + 1) b' ∧ wip ρ3 js = acc b'⟩)
    (he : ∀ ρ' b, Iv xs.length b → wip ρ' js = acc b → D.nx ρ') :
    ∃ I : Nat → List Sl → Prop, I 0 ρ ∧ (∀ (i : Nat) d ρ', items[i]? = some d → I i ρ' → JG E Γ ρ' tg d fun ρ2 => JS E Γ o ρ2 body ⟨I (i + 1), D.rt, D.nx, I (i + 1)⟩) ∧ ∀ ρ', I items.length ρ' → D.nx ρ' := by
  subst hi
  refine ⟨fun i ρ' => ∃ b, Iv i b ∧ wip ρ' js = acc b, ⟨b0, i0, h0⟩, fun i d ρ' hd ⟨b, hb, e⟩ => ?_, fun ρ' ⟨b, hb, e⟩ => he ρ' b ?_ e⟩
  · rw [List.getElem?_map] at hd
    match hx : xs[i]? with
    | none => rw [hx] at hd; cases hd
    | some a =>
      rw [hx] at hd
      cases hd
      exact jg_forget js e (h i a b hx hb)
  · rw [List.length_map] at hb
    exact hb
end
end W6
end
section
set_option Elab.async false
set_option linter.all false
set_option maxRecDepth 100000
set_option maxHeartbeats 4000000
set_option exponentiation.threshold 10000
/-! The walk: the law's draws and numbers. -/
namespace W6
open PySem PySem.Spec PyProof.Rows L2
/-- a fraction whose low part divides d, at most m in size -/
def Dn (d m : Nat) (q : Rat) : Prop := q.den ∣ d ∧ q.num.natAbs ≤ m * q.den
instance (d m : Nat) (q : Rat) : Decidable (Dn d m q) := inferInstanceAs (Decidable (_ ∧ _))
theorem gcd_step {f n : Nat} (hn : 0 < n) : Nat.gcd n (f % n) = Nat.gcd f n := by
  rw [Nat.gcd_comm n, ← Nat.gcd_rec, Nat.gcd_comm]
theorem frac_all : ∀ a, a < 13 → ∀ c, c < 3 → Dn 12 3 (Rat.divInt ((a : Nat) - 6 : Int) ((2 + c : Nat) : Int)) := by decide +kernel
theorem const_all : ∀ q ∈ ([0, 1, -1, 2, 0, -2, 3, 1] : List Rat), Dn 12 3 q := by decide +kernel
section
variable {E : En}
abbrev C__law_draw : List Sl → (PyData → Prop) → Prop := fun ss P => ∃ n : Nat, ss = [.well, .dat (int n)] ∧ 0 < n ∧ n ≤ 100000 ∧ ∀ d, d < n → P (int d)
theorem D__law_draw (B : BC E) (A : At E "_law_draw" s__law_draw ["_law_well_here", "_law_many"]) : Def E 1 "_law_draw" ["_law_well_here", "_law_many"] [] C__law_draw := by
  refine def_at A c__law_draw (fun ss P h => by obtain ⟨n, rfl, _⟩ := h; rfl) fun ss P h => ?_
  obtain ⟨n, rfl, h0, h1, p⟩ := h
  have mk : ∀ i : Int, ∃ d : Nat, d < n ∧ i % (n : Int) = (d : Int) := fun i => ⟨(i % (n : Int)).toNat, by have := Int.emod_lt_of_pos i (show (0 : Int) < n by omega); have := Int.emod_nonneg i (show (n : Int) ≠ 0 by omega); omega, by have := Int.emod_nonneg i (show (n : Int) ≠ 0 by omega); omega⟩
  refine js_cons (j1_if ?_)
  refine jt_cmp ?_
  refine je_ixW ?_
  refine je_var 0 rfl (by first | exact Or.inl rfl | exact Or.inr (Or.inl rfl) | exact Or.inr (Or.inr rfl)) rfl (by intro z; cases z) ?_
  refine ⟨rfl, ?_⟩
  refine je_int ?_
  refine ⟨0, rfl, by decide, fun n0 => ?_⟩
  refine je_int ?_
  refine jo_gt ⟨_, rfl, ?_⟩
  refine ⟨fun hk => ?_, fun hk => ?_⟩
  · refine js_cons (j1_asg ?_)
    refine je_callB B.divmod rfl rfl ?_
    refine ja_cons ?_
    refine je_ixW ?_
    refine je_var 0 rfl (by first | exact Or.inl rfl | exact Or.inr (Or.inl rfl) | exact Or.inr (Or.inr rfl)) rfl (by intro z; cases z) ?_
    refine ⟨rfl, ?_⟩
    refine je_int ?_
    refine ⟨0, rfl, by decide, fun n1 => ?_⟩
    refine ja_cons ?_
    refine je_var 1 rfl (by first | exact Or.inl rfl | exact Or.inr (Or.inl rfl) | exact Or.inr (Or.inr rfl)) rfl (by intro z; cases z) ?_
    refine ja_nil ?_
    refine jc_divmod ⟨by omega, by omega⟩ ?_
    obtain ⟨d, hd, ed⟩ := mk n1
    rw [ed]
    refine ⟨_, rfl, ?_⟩
    refine jg_tup ⟨_, rfl, rfl, ?_⟩
    refine jgs_cons ?_
    refine jg_setW ⟨_, rfl, ?_⟩
    refine je_var 0 rfl (by first | exact Or.inl rfl | exact Or.inr (Or.inl rfl) | exact Or.inr (Or.inr rfl)) rfl (by intro z; cases z) ?_
    refine ⟨rfl, ?_⟩
    refine je_int ?_
    refine ⟨0, rfl, by decide, ?_⟩
    refine jgs_cons ?_
    refine jg_name 2 (by decide +kernel) rfl (by first | exact Or.inl rfl | exact Or.inr rfl) ?_
    refine jgs_nil ?_
    refine js_cons (j1_ret ?_)
    refine je_var 2 rfl (by first | exact Or.inl rfl | exact Or.inr (Or.inl rfl) | exact Or.inr (Or.inr rfl)) rfl (by intro z; cases z) ?_
    refine ⟨_, rfl, ?_⟩
    exact p d hd
  · refine js_nil ?_
    refine js_cons (j1_asg ?_)
    refine je_bin ?_
    refine je_ixW ?_
    refine je_var 0 rfl (by first | exact Or.inl rfl | exact Or.inr (Or.inl rfl) | exact Or.inr (Or.inr rfl)) rfl (by intro z; cases z) ?_
    refine ⟨rfl, ?_⟩
    refine je_int ?_
    refine ⟨2, rfl, by decide, fun n2 => ?_⟩
    refine je_int ?_
    refine jo_add ?_
    refine ⟨_, rfl, ?_⟩
    refine jg_setW ⟨_, rfl, ?_⟩
    refine je_var 0 rfl (by first | exact Or.inl rfl | exact Or.inr (Or.inl rfl) | exact Or.inr (Or.inr rfl)) rfl (by intro z; cases z) ?_
    refine ⟨rfl, ?_⟩
    refine je_int ?_
    refine ⟨2, rfl, by decide, ?_⟩
    refine js_cons (j1_set 3 (by decide +kernel) rfl (by first | exact Or.inl rfl | exact Or.inr rfl) ?_)
    refine je_bin ?_
    refine je_callTy B.int_ rfl rfl ?_
    refine ja_cons ?_
    refine je_bin ?_
    refine je_bin ?_
    refine je_bin ?_
    refine je_ixW ?_
    refine je_var 0 rfl (by first | exact Or.inl rfl | exact Or.inr (Or.inl rfl) | exact Or.inr (Or.inr rfl)) rfl (by intro z; cases z) ?_
    refine ⟨rfl, ?_⟩
    refine je_int ?_
    refine ⟨1, rfl, by decide, fun n3 => ?_⟩
    refine je_int ?_
    refine jo_mul64 (.inr ⟨by decide, by decide⟩) ?_
    refine je_bin ?_
    refine je_ixW ?_
    refine je_var 0 rfl (by first | exact Or.inl rfl | exact Or.inr (Or.inl rfl) | exact Or.inr (Or.inr rfl)) rfl (by intro z; cases z) ?_
    refine ⟨rfl, ?_⟩
    refine je_int ?_
    refine ⟨2, rfl, by decide, fun n4 => ?_⟩
    refine je_int ?_
    refine jo_mul64 (.inr ⟨by decide, by decide⟩) ?_
    refine jo_add ?_
    refine je_int ?_
    refine jo_add ?_
    refine ja_nil ?_
    refine jc_int ?_
    refine je_int ?_
    refine jo_mod (by decide) ?_
    generalize (n3 * 40014 + n4 * 52387 + 5) % 2147483587 = seed
    refine js_cons (j1_asg ?_)
    refine je_var 3 rfl (by first | exact Or.inl rfl | exact Or.inr (Or.inl rfl) | exact Or.inr (Or.inr rfl)) rfl (by intro z; cases z) ?_
    refine ⟨_, rfl, ?_⟩
    refine jg_setW ⟨_, rfl, ?_⟩
    refine je_var 0 rfl (by first | exact Or.inl rfl | exact Or.inr (Or.inl rfl) | exact Or.inr (Or.inr rfl)) rfl (by intro z; cases z) ?_
    refine ⟨rfl, ?_⟩
    refine je_int ?_
    refine ⟨1, rfl, by decide, ?_⟩
    refine js_cons (j1_ret ?_)
    refine je_bin ?_
    refine je_callTy B.int_ rfl rfl ?_
    refine ja_cons ?_
    refine je_bin ?_
    refine je_bin ?_
    refine je_callTy B.int_ rfl rfl ?_
    refine ja_cons ?_
    refine je_bin ?_
    refine je_var 3 rfl (by first | exact Or.inl rfl | exact Or.inr (Or.inl rfl) | exact Or.inr (Or.inr rfl)) rfl (by intro z; cases z) ?_
    refine je_bin ?_
    refine je_bin ?_
    refine je_callTy B.int_ rfl rfl ?_
    refine ja_cons ?_
    refine je_var 3 rfl (by first | exact Or.inl rfl | exact Or.inr (Or.inl rfl) | exact Or.inr (Or.inr rfl)) rfl (by intro z; cases z) ?_
    refine ja_nil ?_
    refine jc_int ?_
    refine je_int ?_
    refine jo_mod (by decide) ?_
    refine je_int ?_
    refine jo_add ?_
    have hm1 := Int.emod_nonneg seed (show (6007 : Int) ≠ 0 by decide)
    have hm2 := Int.emod_lt_of_pos seed (show (0 : Int) < 6007 by decide)
    refine jo_mul64 (.inr ⟨by omega, by omega⟩) ?_
    refine ja_nil ?_
    refine jc_int ?_
    refine je_int ?_
    refine jo_mod (by decide) ?_
    refine je_int ?_
    refine jo_div ⟨by decide, by decide⟩ ?_
    refine ja_nil ?_
    refine jc_int ?_
    refine je_var 1 rfl (by first | exact Or.inl rfl | exact Or.inr (Or.inl rfl) | exact Or.inr (Or.inr rfl)) rfl (by intro z; cases z) ?_
    refine jo_mod (by omega) ?_
    obtain ⟨d, hd, ed⟩ := mk (seed * (seed % 6007 + 30029) % 2147483563 / 127)
    rw [ed]
    exact ⟨_, rfl, p d hd⟩
abbrev C__law_of : List Sl → (PyData → Prop) → Prop := fun ss P => ∃ (s : Sl) (xs : List PyData), ss = [.well, s] ∧ seqD s = some xs ∧ xs ≠ [] ∧ xs.length ≤ 100000 ∧ ∀ x ∈ xs, P x
theorem D__law_of (B : BC E) (A : At E "_law_of" s__law_of ["_law_well_here", "_law_some"]) (D__law_draw : Def E 1 "_law_draw" ["_law_well_here", "_law_many"] [] C__law_draw) : Def E 2 "_law_of" ["_law_well_here", "_law_some"] [] C__law_of := by
  refine def_at A c__law_of (fun ss P h => by obtain ⟨s, xs, rfl, _⟩ := h; rfl) fun ss P h => ?_
  obtain ⟨s, xs, rfl, hs, hne, hl, p⟩ := h
  have hno : s ≠ .no := by intro z; rw [z] at hs; cases hs
  refine js_cons (j1_ret ?_)
  refine je_ix ?_
  refine je_var 1 rfl (by first | exact Or.inl rfl | exact Or.inr (Or.inl rfl) | exact Or.inr (Or.inr rfl)) rfl hno ?_
  refine je_call D__law_draw (Nat.le_of_ble_eq_true rfl) rfl ?_
  refine ja_cons ?_
  refine je_var 0 rfl (by first | exact Or.inl rfl | exact Or.inr (Or.inl rfl) | exact Or.inr (Or.inr rfl)) rfl (by intro z; cases z) ?_
  refine ja_cons ?_
  refine je_callB B.len rfl rfl ?_
  refine ja_cons ?_
  refine je_var 1 rfl (by first | exact Or.inl rfl | exact Or.inr (Or.inl rfl) | exact Or.inr (Or.inr rfl)) rfl hno ?_
  refine ja_nil ?_
  refine jc_len hs ?_
  refine ja_nil ?_
  refine ⟨xs.length, rfl, List.length_pos_iff.mpr hne, hl, fun d hd => ?_⟩
  refine ⟨xs, (d : Int), xs[d], hs, rfl, atI_nat (List.getElem?_eq_getElem hd), _, rfl, p _ (List.getElem_mem hd)⟩
abbrev C__law_frac : List Sl → (PyData → Prop) → Prop := fun ss P => ∃ a b : Int, ss = [.dat (.int a), .dat (.int b)] ∧ b ≠ 0 ∧ b.natAbs < 2 ^ 8000 ∧ P (fr (Rat.divInt a b))
theorem D__law_frac (B : BC E) (A : At E "_law_frac" s__law_frac ["_law_top", "_law_low"]) : Def E 1 "_law_frac" ["_law_top", "_law_low"] [] C__law_frac := by
  refine def_at A c__law_frac (fun ss P h => by obtain ⟨a, b, rfl, _⟩ := h; rfl) fun ss P h => ?_
  obtain ⟨a, b, rfl, hb0, hs, p⟩ := h
  have hg : (Nat.gcd a.natAbs b.natAbs) ≤ b.natAbs := Nat.le_of_dvd (by omega) (Nat.gcd_dvd_right _ _)
  have hp : 0 < Nat.gcd a.natAbs b.natAbs := Nat.gcd_pos_of_pos_right _ (by omega)
  refine js_cons (j1_par 2 3 (by decide +kernel) rfl rfl (by decide) rfl rfl ?_)
  refine je_callB B.abs rfl rfl ?_
  refine ja_cons ?_
  refine je_var 0 rfl (by first | exact Or.inl rfl | exact Or.inr (Or.inl rfl) | exact Or.inr (Or.inr rfl)) rfl (by intro z; cases z) ?_
  refine ja_nil ?_
  refine jc_abs ?_
  refine je_callB B.abs rfl rfl ?_
  refine ja_cons ?_
  refine je_var 1 rfl (by first | exact Or.inl rfl | exact Or.inr (Or.inl rfl) | exact Or.inr (Or.inr rfl)) rfl (by intro z; cases z) ?_
  refine ja_nil ?_
  refine jc_abs ?_
  refine js_cons (j1_while (fun m ρ' => ∃ f : Nat, ρ' = [.dat (.int a), .dat (.int b), .dat (int f), .dat (int m)] ∧ Nat.gcd f m = Nat.gcd a.natAbs b.natAbs) b.natAbs ⟨a.natAbs, rfl, rfl⟩ ?_)
  rintro m ρ' ⟨f, rfl, hgf⟩
  refine jt_cmp ?_
  refine je_var 3 rfl (by first | exact Or.inl rfl | exact Or.inr (Or.inl rfl) | exact Or.inr (Or.inr rfl)) rfl (by intro z; cases z) ?_
  refine je_int ?_
  refine jo_gt ⟨_, rfl, ?_⟩
  refine ⟨fun hk => ?_, fun hk => ?_⟩
  · have hm : 0 < m := by have := of_decide_eq_true hk; omega
    refine js_cons (j1_par 2 3 (by decide +kernel) rfl rfl (by decide) rfl rfl ?_)
    refine je_var 3 rfl (by first | exact Or.inl rfl | exact Or.inr (Or.inl rfl) | exact Or.inr (Or.inr rfl)) rfl (by intro z; cases z) ?_
    refine je_bin ?_
    refine je_callTy B.int_ rfl rfl ?_
    refine ja_cons ?_
    refine je_var 2 rfl (by first | exact Or.inl rfl | exact Or.inr (Or.inl rfl) | exact Or.inr (Or.inr rfl)) rfl (by intro z; cases z) ?_
    refine ja_nil ?_
    refine jc_int ?_
    refine je_var 3 rfl (by first | exact Or.inl rfl | exact Or.inr (Or.inl rfl) | exact Or.inr (Or.inr rfl)) rfl (by intro z; cases z) ?_
    refine jo_mod (by omega) ?_
    refine js_nil ?_
    exact ⟨f % m, Nat.mod_lt _ hm, m, by rw [← Int.natCast_emod]; rfl, by rw [gcd_step hm]; exact hgf⟩
  · have hm : m = 0 := by have := of_decide_eq_false hk; omega
    subst hm
    rw [Nat.gcd_zero_right] at hgf
    subst hgf
    suffices h : ∀ g : Int, g = b.sign * (Nat.gcd a.natAbs b.natAbs : Nat) → JS E ⟨N__law_frac, defScope s__law_frac, true, 0, fun _ => True⟩ false [.dat (.int a), .dat (.int b), .dat (.int g), .dat (int 0)] ((defBody s__law_frac).drop 3) ⟨fun _ => P .none, P, fun _ => False, fun _ => False⟩ by
      refine js_cons (j1_set 2 (by decide +kernel) rfl (by first | exact Or.inl rfl | exact Or.inr rfl) ?_)
      refine je_if ?_
      refine jt_cmp ?_
      refine je_var 1 rfl (by first | exact Or.inl rfl | exact Or.inr (Or.inl rfl) | exact Or.inr (Or.inr rfl)) rfl (by intro z; cases z) ?_
      refine je_int ?_
      refine jo_gt ⟨_, rfl, ?_⟩
      refine ⟨fun hk' => ?_, fun hk' => ?_⟩
      · refine je_var 2 rfl (by first | exact Or.inl rfl | exact Or.inr (Or.inl rfl) | exact Or.inr (Or.inr rfl)) rfl (by intro z; cases z) ?_
        refine h _ ?_
        rw [Int.sign_eq_one_of_pos (of_decide_eq_true hk'), Int.one_mul]
      · refine je_bin ?_
        refine je_int ?_
        refine je_var 2 rfl (by first | exact Or.inl rfl | exact Or.inr (Or.inl rfl) | exact Or.inr (Or.inr rfl)) rfl (by intro z; cases z) ?_
        refine jo_sub ?_
        refine h _ ?_
        rw [Int.sign_eq_neg_one_of_neg (by have := of_decide_eq_false hk'; omega)]
        omega
    intro g eg
    obtain ⟨e1, e2⟩ := num_fdiv hb0 eg
    have g1 : g ≠ 0 := by
      rcases Int.lt_trichotomy b 0 with h | h | h
      · rw [eg, Int.sign_eq_neg_one_of_neg h]; omega
      · exact absurd h hb0
      · rw [eg, Int.sign_eq_one_of_pos h]; omega
    have g2 : g.natAbs < 2 ^ 8000 := by
      refine Nat.lt_of_le_of_lt ?_ hs
      rw [eg, Int.natAbs_mul, Int.natAbs_sign_of_ne_zero hb0, Int.natAbs_natCast, Nat.one_mul]
      exact hg
    refine js_cons (j1_ret ?_)
    refine je_tup ?_
    refine ja_cons ?_
    refine je_bin ?_
    refine je_var 0 rfl (by first | exact Or.inl rfl | exact Or.inr (Or.inl rfl) | exact Or.inr (Or.inr rfl)) rfl (by intro z; cases z) ?_
    refine je_var 2 rfl (by first | exact Or.inl rfl | exact Or.inr (Or.inl rfl) | exact Or.inr (Or.inr rfl)) rfl (by intro z; cases z) ?_
    refine jo_divZ (divZ g1 g2 (by decide) (by decide)) ?_
    refine ja_cons ?_
    refine je_bin ?_
    refine je_var 1 rfl (by first | exact Or.inl rfl | exact Or.inr (Or.inl rfl) | exact Or.inr (Or.inr rfl)) rfl (by intro z; cases z) ?_
    refine je_var 2 rfl (by first | exact Or.inl rfl | exact Or.inr (Or.inl rfl) | exact Or.inr (Or.inr rfl)) rfl (by intro z; cases z) ?_
    refine jo_divZ (divZ g1 g2 (by decide) (by decide)) ?_
    refine ja_nil ?_
    refine ⟨_, rfl, Nat.le_of_ble_eq_true rfl, ?_⟩
    refine ⟨_, rfl, ?_⟩
    rw [e1, e2]
    exact p
abbrev C__law_plus : List Sl → (PyData → Prop) → Prop := C_plus
theorem D__law_plus (B : BC E) (A : At E "_law_plus" s__law_plus ["_law_one", "_law_two"]) (D__law_frac : Def E 1 "_law_frac" ["_law_top", "_law_low"] [] C__law_frac) : Def E 2 "_law_plus" ["_law_one", "_law_two"] [] C__law_plus := by
  refine def_at A c__law_plus (fun ss P h => by obtain ⟨a, b, rfl, _⟩ := h; rfl) fun ss P h => ?_
  obtain ⟨a, b, rfl, ⟨n,m,sn,sm,hnm⟩, p⟩ := h
  refine js_cons (j1_ret ?_)
  refine je_call D__law_frac (Nat.le_of_ble_eq_true rfl) rfl ?_
  refine ja_cons ?_
  refine je_bin ?_
  refine je_bin ?_
  refine je_ix ?_
  refine je_var 0 rfl (by first | exact Or.inl rfl | exact Or.inr (Or.inl rfl) | exact Or.inr (Or.inr rfl)) rfl (by intro z; cases z) ?_
  refine je_int ?_
  refine ⟨_, _, _, rfl, rfl, rfl, ?_⟩
  refine je_ix ?_
  refine je_var 1 rfl (by first | exact Or.inl rfl | exact Or.inr (Or.inl rfl) | exact Or.inr (Or.inr rfl)) rfl (by intro z; cases z) ?_
  refine je_int ?_
  refine ⟨_, _, _, rfl, rfl, rfl, ?_⟩
  refine jo_mul (cmul_sz sn.1 (b := (b.den : Int)) sm.2 (by omega)) ?_
  refine je_bin ?_
  refine je_ix ?_
  refine je_var 1 rfl (by first | exact Or.inl rfl | exact Or.inr (Or.inl rfl) | exact Or.inr (Or.inr rfl)) rfl (by intro z; cases z) ?_
  refine je_int ?_
  refine ⟨_, _, _, rfl, rfl, rfl, ?_⟩
  refine je_ix ?_
  refine je_var 0 rfl (by first | exact Or.inl rfl | exact Or.inr (Or.inl rfl) | exact Or.inr (Or.inr rfl)) rfl (by intro z; cases z) ?_
  refine je_int ?_
  refine ⟨_, _, _, rfl, rfl, rfl, ?_⟩
  refine jo_mul (cmul_sz sm.1 (b := (a.den : Int)) sn.2 (by omega)) ?_
  refine jo_add ?_
  refine ja_cons ?_
  refine je_bin ?_
  refine je_ix ?_
  refine je_var 0 rfl (by first | exact Or.inl rfl | exact Or.inr (Or.inl rfl) | exact Or.inr (Or.inr rfl)) rfl (by intro z; cases z) ?_
  refine je_int ?_
  refine ⟨_, _, _, rfl, rfl, rfl, ?_⟩
  refine je_ix ?_
  refine je_var 1 rfl (by first | exact Or.inl rfl | exact Or.inr (Or.inl rfl) | exact Or.inr (Or.inr rfl)) rfl (by intro z; cases z) ?_
  refine je_int ?_
  refine ⟨_, _, _, rfl, rfl, rfl, ?_⟩
  refine jo_mul (cmul_sz (a := (a.den : Int)) sn.2 (b := (b.den : Int)) sm.2 (by omega)) ?_
  refine ja_nil ?_
  refine ⟨_, _, rfl, ?_, ?_, ?_⟩
  · exact Int.mul_ne_zero (den_ne a) (den_ne b)
  · rw [Int.natAbs_mul]
    exact Nat.lt_of_lt_of_le (mul_lt sn.2 sm.2) (pow_le (by omega))
  · rw [← add_eq]
    exact ⟨_, rfl, p⟩
abbrev C__law_times : List Sl → (PyData → Prop) → Prop := C_times
theorem D__law_times (B : BC E) (A : At E "_law_times" s__law_times ["_law_one", "_law_two"]) (D__law_frac : Def E 1 "_law_frac" ["_law_top", "_law_low"] [] C__law_frac) : Def E 2 "_law_times" ["_law_one", "_law_two"] [] C__law_times := by
  refine def_at A c__law_times (fun ss P h => by obtain ⟨a, b, rfl, _⟩ := h; rfl) fun ss P h => ?_
  obtain ⟨a, b, rfl, ⟨n,m,sn,sm,hnm⟩, p⟩ := h
  refine js_cons (j1_ret ?_)
  refine je_call D__law_frac (Nat.le_of_ble_eq_true rfl) rfl ?_
  refine ja_cons ?_
  refine je_bin ?_
  refine je_ix ?_
  refine je_var 0 rfl (by first | exact Or.inl rfl | exact Or.inr (Or.inl rfl) | exact Or.inr (Or.inr rfl)) rfl (by intro z; cases z) ?_
  refine je_int ?_
  refine ⟨_, _, _, rfl, rfl, rfl, ?_⟩
  refine je_ix ?_
  refine je_var 1 rfl (by first | exact Or.inl rfl | exact Or.inr (Or.inl rfl) | exact Or.inr (Or.inr rfl)) rfl (by intro z; cases z) ?_
  refine je_int ?_
  refine ⟨_, _, _, rfl, rfl, rfl, ?_⟩
  refine jo_mul (cmul_sz sn.1 sm.1 (by omega)) ?_
  refine ja_cons ?_
  refine je_bin ?_
  refine je_ix ?_
  refine je_var 0 rfl (by first | exact Or.inl rfl | exact Or.inr (Or.inl rfl) | exact Or.inr (Or.inr rfl)) rfl (by intro z; cases z) ?_
  refine je_int ?_
  refine ⟨_, _, _, rfl, rfl, rfl, ?_⟩
  refine je_ix ?_
  refine je_var 1 rfl (by first | exact Or.inl rfl | exact Or.inr (Or.inl rfl) | exact Or.inr (Or.inr rfl)) rfl (by intro z; cases z) ?_
  refine je_int ?_
  refine ⟨_, _, _, rfl, rfl, rfl, ?_⟩
  refine jo_mul (cmul_sz (a := (a.den : Int)) sn.2 (b := (b.den : Int)) sm.2 (by omega)) ?_
  refine ja_nil ?_
  refine ⟨_, _, rfl, ?_, ?_, ?_⟩
  · exact Int.mul_ne_zero (den_ne a) (den_ne b)
  · rw [Int.natAbs_mul]
    exact Nat.lt_of_lt_of_le (mul_lt sn.2 sm.2) (pow_le (by omega))
  · rw [← mul_eq]
    exact ⟨_, rfl, p⟩
abbrev C__law_up_to : List Sl → (PyData → Prop) → Prop := C_is_up_to
theorem D__law_up_to (B : BC E) (A : At E "_law_up_to" s__law_up_to ["_law_one", "_law_two"]) : Def E 1 "_law_up_to" ["_law_one", "_law_two"] [] C__law_up_to := by
  refine def_at A c__law_up_to (fun ss P h => by obtain ⟨a, b, rfl, _⟩ := h; rfl) fun ss P h => ?_
  obtain ⟨a, b, rfl, ⟨n,m,sn,sm,hnm⟩, p⟩ := h
  refine js_cons (j1_ret ?_)
  refine je_cmp ?_
  refine je_bin ?_
  refine je_ix ?_
  refine je_var 0 rfl (by first | exact Or.inl rfl | exact Or.inr (Or.inl rfl) | exact Or.inr (Or.inr rfl)) rfl (by intro z; cases z) ?_
  refine je_int ?_
  refine ⟨_, _, _, rfl, rfl, rfl, ?_⟩
  refine je_ix ?_
  refine je_var 1 rfl (by first | exact Or.inl rfl | exact Or.inr (Or.inl rfl) | exact Or.inr (Or.inr rfl)) rfl (by intro z; cases z) ?_
  refine je_int ?_
  refine ⟨_, _, _, rfl, rfl, rfl, ?_⟩
  refine jo_mul (cmul_sz sn.1 (b := (b.den : Int)) sm.2 (by omega)) ?_
  refine je_bin ?_
  refine je_ix ?_
  refine je_var 1 rfl (by first | exact Or.inl rfl | exact Or.inr (Or.inl rfl) | exact Or.inr (Or.inr rfl)) rfl (by intro z; cases z) ?_
  refine je_int ?_
  refine ⟨_, _, _, rfl, rfl, rfl, ?_⟩
  refine je_ix ?_
  refine je_var 0 rfl (by first | exact Or.inl rfl | exact Or.inr (Or.inl rfl) | exact Or.inr (Or.inr rfl)) rfl (by intro z; cases z) ?_
  refine je_int ?_
  refine ⟨_, _, _, rfl, rfl, rfl, ?_⟩
  refine jo_mul (cmul_sz sm.1 (b := (a.den : Int)) sn.2 (by omega)) ?_
  refine jo_le ?_
  rw [le_num]
  exact ⟨_, rfl, p⟩
abbrev C__law_dot : List Sl → (PyData → Prop) → Prop := fun ss P => ∃ xs ys : List Rat, ss = [.dat (rw_ xs), .dat (rw_ ys)] ∧ (∃ n m, 0 < n + m ∧ Szs n xs ∧ Szs m ys ∧ (xs.length + 1) * (n + m + 1) ≤ 6000) ∧ P (fr (dotR xs ys))
theorem D__law_dot (B : BC E) (A : At E "_law_dot" s__law_dot ["_law_one", "_law_two"]) (D__law_plus : Def E 2 "_law_plus" ["_law_one", "_law_two"] [] C__law_plus) (D__law_times : Def E 2 "_law_times" ["_law_one", "_law_two"] [] C__law_times) : Def E 3 "_law_dot" ["_law_one", "_law_two"] [] C__law_dot := by
  refine def_at A c__law_dot (fun ss P h => by obtain ⟨xs, ys, rfl, _⟩ := h; rfl) fun ss P h => ?_
  obtain ⟨xs, ys, rfl, ⟨n,m,h0,sx,sy,hnm⟩, p⟩ := h
  have hl := Nat.add_mul xs.length 1 (n + m + 1)
  refine js_cons (j1_set 2 (by decide +kernel) rfl (by first | exact Or.inl rfl | exact Or.inr rfl) ?_)
  refine je_tup ?_
  refine ja_cons ?_
  refine je_int ?_
  refine ja_cons ?_
  refine je_int ?_
  refine ja_nil ?_
  refine ⟨_, rfl, Nat.le_of_ble_eq_true rfl, ?_⟩
  refine js_cons (j1_for ?_)
  refine ji_zip B.zip_ rfl ?_
  refine je_var 0 rfl (by first | exact Or.inl rfl | exact Or.inr (Or.inl rfl) | exact Or.inr (Or.inr rfl)) rfl (by intro z; cases z) ?_
  refine je_var 1 rfl (by first | exact Or.inl rfl | exact Or.inr (Or.inl rfl) | exact Or.inr (Or.inr rfl)) rfl (by intro z; cases z) ?_
  refine ⟨_, _, _, _, _, _, rfl, rfl, rfl, rfl, ?_⟩
  rw [zipD_map]
  refine for_fold [3, 4] (xs.zip ys) _ (fun q => [.dat (rw_ xs), .dat (rw_ ys), .dat (fr q), .no, .no]) (fun b p => b + p.1 * p.2) 0 rfl rfl (fun i a ha => ?_) (fun ρ' e => js_forget [3, 4] e ?_)
  · have hs := dot_sz h0 ((xs.zip ys).take i) 0 1 (fun q hq => zip_sz sx sy q (mem_take hq)) sz_zero
    have h1 := zip_sz sx sy a (List.mem_of_getElem? ha)
    have h2 : (min i (xs.zip ys).length) * (n + m + 1) ≤ xs.length * (n + m + 1) := Nat.mul_le_mul_right _ (by rw [List.length_zip]; omega)
    rw [List.length_take] at hs
    generalize ((xs.zip ys).take i).foldl (fun b p => b + p.1 * p.2) 0 = b at hs
    refine jg_tup ⟨_, rfl, rfl, ?_⟩
    refine jgs_cons ?_
    refine jg_name 3 (by decide +kernel) rfl (by first | exact Or.inl rfl | exact Or.inr rfl) ?_
    refine jgs_cons ?_
    refine jg_name 4 (by decide +kernel) rfl (by first | exact Or.inl rfl | exact Or.inr rfl) ?_
    refine jgs_nil ?_
    refine js_cons (j1_set 2 (by decide +kernel) rfl (by first | exact Or.inl rfl | exact Or.inr rfl) ?_)
    refine je_call D__law_plus (Nat.le_of_ble_eq_true rfl) rfl ?_
    refine ja_cons ?_
    refine je_var 2 rfl (by first | exact Or.inl rfl | exact Or.inr (Or.inl rfl) | exact Or.inr (Or.inr rfl)) rfl (by intro z; cases z) ?_
    refine ja_cons ?_
    refine je_call D__law_times (Nat.le_of_ble_eq_true rfl) rfl ?_
    refine ja_cons ?_
    refine je_var 3 rfl (by first | exact Or.inl rfl | exact Or.inr (Or.inl rfl) | exact Or.inr (Or.inr rfl)) rfl (by intro z; cases z) ?_
    refine ja_cons ?_
    refine je_var 4 rfl (by first | exact Or.inl rfl | exact Or.inr (Or.inl rfl) | exact Or.inr (Or.inr rfl)) rfl (by intro z; cases z) ?_
    refine ja_nil ?_
    refine ⟨_, _, rfl, ⟨_, _, h1.1, h1.2, by omega⟩, ?_⟩
    refine ja_nil ?_
    refine ⟨_, _, rfl, ⟨_, _, hs, sz_mul h1.1 h1.2 h0, by omega⟩, ?_⟩
    refine js_nil ?_
    rfl
  · rw [dot_is]
    refine js_cons (j1_ret ?_)
    refine je_var 2 rfl (by first | exact Or.inl rfl | exact Or.inr (Or.inl rfl) | exact Or.inr (Or.inr rfl)) rfl (by intro z; cases z) ?_
    refine ⟨_, rfl, ?_⟩
    exact p
abbrev C__law_number : List Sl → (PyData → Prop) → Prop := fun ss P => ∃ u : Unit, ss = [.well] ∧ ∀ q : Rat, Dn 12 3 q → P (fr q)
theorem D__law_number (B : BC E) (A : At E "_law_number" s__law_number ["_law_well_here"]) (D__law_draw : Def E 1 "_law_draw" ["_law_well_here", "_law_many"] [] C__law_draw) (D__law_frac : Def E 1 "_law_frac" ["_law_top", "_law_low"] [] C__law_frac) : Def E 2 "_law_number" ["_law_well_here"] [] C__law_number := by
  refine def_at A c__law_number (fun ss P h => by obtain ⟨u, rfl, _⟩ := h; rfl) fun ss P h => ?_
  obtain ⟨u, rfl, p⟩ := h
  refine js_cons (j1_if ?_)
  refine jt_cmp ?_
  refine je_call D__law_draw (Nat.le_of_ble_eq_true rfl) rfl ?_
  refine ja_cons ?_
  refine je_var 0 rfl (by first | exact Or.inl rfl | exact Or.inr (Or.inl rfl) | exact Or.inr (Or.inr rfl)) rfl (by intro z; cases z) ?_
  refine ja_cons ?_
  refine je_int ?_
  refine ja_nil ?_
  refine ⟨4, rfl, by decide, by decide, fun d hd => ?_⟩
  refine je_int ?_
  refine jo_gt ⟨_, rfl, ?_⟩
  refine ⟨fun hk => ?_, fun hk => ?_⟩
  · refine js_cons (j1_ret ?_)
    refine je_ix ?_
    refine je_tup ?_
    refine ja_cons ?_
    refine je_tup ?_
    refine ja_cons ?_
    refine je_int ?_
    refine ja_cons ?_
    refine je_int ?_
    refine ja_nil ?_
    refine ⟨_, rfl, Nat.le_of_ble_eq_true rfl, ?_⟩
    refine ja_cons ?_
    refine je_tup ?_
    refine ja_cons ?_
    refine je_int ?_
    refine ja_cons ?_
    refine je_int ?_
    refine ja_nil ?_
    refine ⟨_, rfl, Nat.le_of_ble_eq_true rfl, ?_⟩
    refine ja_cons ?_
    refine je_tup ?_
    refine ja_cons ?_
    refine je_neg ?_
    refine je_int ?_
    refine ⟨_, rfl, ?_⟩
    refine ja_cons ?_
    refine je_int ?_
    refine ja_nil ?_
    refine ⟨_, rfl, Nat.le_of_ble_eq_true rfl, ?_⟩
    refine ja_cons ?_
    refine je_tup ?_
    refine ja_cons ?_
    refine je_int ?_
    refine ja_cons ?_
    refine je_int ?_
    refine ja_nil ?_
    refine ⟨_, rfl, Nat.le_of_ble_eq_true rfl, ?_⟩
    refine ja_cons ?_
    refine je_tup ?_
    refine ja_cons ?_
    refine je_int ?_
    refine ja_cons ?_
    refine je_int ?_
    refine ja_nil ?_
    refine ⟨_, rfl, Nat.le_of_ble_eq_true rfl, ?_⟩
    refine ja_cons ?_
    refine je_tup ?_
    refine ja_cons ?_
    refine je_neg ?_
    refine je_int ?_
    refine ⟨_, rfl, ?_⟩
    refine ja_cons ?_
    refine je_int ?_
    refine ja_nil ?_
    refine ⟨_, rfl, Nat.le_of_ble_eq_true rfl, ?_⟩
    refine ja_cons ?_
    refine je_tup ?_
    refine ja_cons ?_
    refine je_int ?_
    refine ja_cons ?_
    refine je_int ?_
    refine ja_nil ?_
    refine ⟨_, rfl, Nat.le_of_ble_eq_true rfl, ?_⟩
    refine ja_cons ?_
    refine je_tup ?_
    refine ja_cons ?_
    refine je_int ?_
    refine ja_cons ?_
    refine je_int ?_
    refine ja_nil ?_
    refine ⟨_, rfl, Nat.le_of_ble_eq_true rfl, ?_⟩
    refine ja_nil ?_
    refine ⟨_, rfl, Nat.le_of_ble_eq_true rfl, ?_⟩
    refine je_call D__law_draw (Nat.le_of_ble_eq_true rfl) rfl ?_
    refine ja_cons ?_
    refine je_var 0 rfl (by first | exact Or.inl rfl | exact Or.inr (Or.inl rfl) | exact Or.inr (Or.inr rfl)) rfl (by intro z; cases z) ?_
    refine ja_cons ?_
    refine je_int ?_
    refine ja_nil ?_
    refine ⟨8, rfl, by decide, by decide, fun d hd => ?_⟩
    have e : ([.tuple [.int 0, .int 1], .tuple [.int 1, .int 1], .tuple [.int (-1), .int 1], .tuple [.int 2, .int 1], .tuple [.int 0, .int 1], .tuple [.int (-2), .int 1], .tuple [.int 3, .int 1], .tuple [.int 1, .int 1]] : List PyData) = ([0, 1, -1, 2, 0, -2, 3, 1] : List Rat).map fr := rfl
    refine ⟨([0, 1, -1, 2, 0, -2, 3, 1] : List Rat).map fr, (d : Int), _, rfl, rfl, atI_fr (xs := [0, 1, -1, 2, 0, -2, 3, 1]) hd, _, rfl, p _ (const_all _ ?_)⟩
    exact List.mem_of_getElem? (at_lt (xs := [0, 1, -1, 2, 0, -2, 3, 1]) hd)
  · refine js_nil ?_
    refine js_cons (j1_ret ?_)
    refine je_call D__law_frac (Nat.le_of_ble_eq_true rfl) rfl ?_
    refine ja_cons ?_
    refine je_bin ?_
    refine je_call D__law_draw (Nat.le_of_ble_eq_true rfl) rfl ?_
    refine ja_cons ?_
    refine je_var 0 rfl (by first | exact Or.inl rfl | exact Or.inr (Or.inl rfl) | exact Or.inr (Or.inr rfl)) rfl (by intro z; cases z) ?_
    refine ja_cons ?_
    refine je_int ?_
    refine ja_nil ?_
    refine ⟨13, rfl, by decide, by decide, fun d hd => ?_⟩
    refine je_int ?_
    refine jo_sub ?_
    refine ja_cons ?_
    refine je_bin ?_
    refine je_int ?_
    refine je_call D__law_draw (Nat.le_of_ble_eq_true rfl) rfl ?_
    refine ja_cons ?_
    refine je_var 0 rfl (by first | exact Or.inl rfl | exact Or.inr (Or.inl rfl) | exact Or.inr (Or.inr rfl)) rfl (by intro z; cases z) ?_
    refine ja_cons ?_
    refine je_int ?_
    refine ja_nil ?_
    refine ⟨3, rfl, by decide, by decide, fun c hc => ?_⟩
    refine jo_add ?_
    refine ja_nil ?_
    have e : (2 : Int) + (c : Int) = ((2 + c : Nat) : Int) := by omega
    rw [e]
    refine ⟨_, _, rfl, by omega, ?_, _, rfl, p _ (frac_all d hd c hc)⟩
    rw [Int.natAbs_natCast]
    exact Nat.lt_of_lt_of_le (show 2 + c < 2 ^ 3 by omega) (pow_le (by decide))
abbrev C__law_row : List Sl → (PyData → Prop) → Prop := fun ss P => ∃ k : Nat, ss = [.well, .dat (int k)] ∧ k ≤ 1000 ∧ ∀ qs : List Rat, qs.length = k → (∀ q ∈ qs, Dn 12 3 q) → P (rw_ qs)
theorem D__law_row (B : BC E) (A : At E "_law_row" s__law_row ["_law_well_here", "_law_size"]) (D__law_number : Def E 2 "_law_number" ["_law_well_here"] [] C__law_number) : Def E 3 "_law_row" ["_law_well_here", "_law_size"] [] C__law_row := by
  refine def_at A c__law_row (fun ss P h => by obtain ⟨k, rfl, _⟩ := h; rfl) fun ss P h => ?_
  obtain ⟨k, rfl, hk, p⟩ := h
  refine js_own 2 (by decide +kernel) rfl (by first | exact Or.inl rfl | exact Or.inr rfl) (fun X g => own_nil g) ?_
  refine js_cons (j1_for ?_)
  refine ji_range1 B.range_ rfl ?_
  refine je_var 1 rfl (by first | exact Or.inl rfl | exact Or.inr (Or.inl rfl) | exact Or.inr (Or.inr rfl)) rfl (by intro z; cases z) ?_
  refine ⟨k, rfl, by omega, ?_⟩
  refine for_inv [3] (List.range k) int (fun (q : List Rat) => [.well, .dat (int k), .own (q.map fr), .no]) (fun i q => q.length = i ∧ ∀ x ∈ q, Dn 12 3 x) [] rfl rfl ⟨rfl, fun x hx => nomatch hx⟩ (fun i a b ha hb => ?_) (fun ρ' b hb e => js_forget [3] e ?_)
  · have hi := (List.getElem?_eq_some_iff.mp ha).1
    rw [List.length_range] at hi
    refine jg_name 3 (by decide +kernel) rfl (by first | exact Or.inl rfl | exact Or.inr rfl) ?_
    refine js_cons (j1_app 2 rfl (by first | exact Or.inl rfl | exact Or.inr (Or.inl rfl) | exact Or.inr (Or.inr rfl)) rfl rfl ?_ ?_)
    · rw [List.length_map, hb.1]; omega
    refine je_call D__law_number (Nat.le_of_ble_eq_true rfl) rfl ?_
    refine ja_cons ?_
    refine je_var 0 rfl (by first | exact Or.inl rfl | exact Or.inr (Or.inl rfl) | exact Or.inr (Or.inr rfl)) rfl (by intro z; cases z) ?_
    refine ja_nil ?_
    refine ⟨(), rfl, fun q hq => ?_⟩
    refine ⟨_, rfl, ?_⟩
    refine js_nil ?_
    refine ⟨b ++ [q], ⟨by rw [List.length_append, hb.1]; rfl, fun x hx => ?_⟩, by rw [List.map_append]; rfl⟩
    rcases List.mem_append.mp hx with h | h
    · exact hb.2 x h
    · rw [List.mem_singleton.mp h]; exact hq
  · rw [List.length_range] at hb
    refine js_cons (j1_ret ?_)
    refine je_callTy B.tuple_ rfl rfl ?_
    refine ja_cons ?_
    refine je_var 2 rfl (by first | exact Or.inl rfl | exact Or.inr (Or.inl rfl) | exact Or.inr (Or.inr rfl)) rfl (by intro z; cases z) ?_
    refine ja_nil ?_
    refine jc_tuple (xs := b.map fr) rfl ?_
    exact ⟨_, rfl, p b hb.1 hb.2⟩
end
end W6
end
section
set_option Elab.async false
set_option linter.all false
set_option maxRecDepth 100000
set_option maxHeartbeats 4000000
set_option exponentiation.threshold 10000
/-! The walk: the law's own check of papers. -/
namespace W6
open PySem PySem.Spec PyProof.Rows L2
def mixStepL (acc : List Rat × Rat) (p : Wish × Rat) : List Rat × Rat := (List.zipWith (fun h t => h + p.2 * t) acc.1 p.1.1, acc.2 + p.2 * p.1.2)
def mixL (ws : List Wish) (w : List Rat) (k : Nat) : List Rat × Rat := (ws.zip w).foldl mixStepL (nts k, 0)
theorem add_sca (w : Rat) : ∀ xs ys : List Rat, List.zipWith (fun h t => h + w * t) xs ys = addR xs (scaR ys w)
  | [], _ => rfl
  | _ :: _, [] => rfl
  | x :: xs, y :: ys => by
    show (x + w * y) :: List.zipWith (fun h t => h + w * t) xs ys = (x + y * w) :: addR xs (scaR ys w)
    rw [add_sca w xs ys, Rat.mul_comm]
theorem add_sca0 : ∀ xs ys : List Rat, xs.length ≤ ys.length → addR xs (scaR ys 0) = xs
  | [], _, _ => rfl
  | _ :: _, [], h => absurd h (by simp)
  | x :: xs, y :: ys, h => by
    show (x + y * 0) :: addR xs (scaR ys 0) = _
    rw [add_sca0 xs ys (Nat.le_of_succ_le_succ h), Rat.mul_zero, Rat.add_zero]
theorem mixL_fold {k : Nat} : ∀ (ws : List Wish) (w : List Rat) (acc : List Rat × Rat), acc.1.length ≤ k → (∀ p ∈ ws, p.1.length = k) → (ws.zip w).foldl mixStepL acc = (((rowsOf ws).zip w).foldl mixStep acc.1, acc.2 + sumR (List.zipWith (· * ·) w (bndsOf ws)))
  | [], w, acc, _, _ => by
    show acc = (acc.1, acc.2 + sumR (List.zipWith (· * ·) w []))
    rw [List.zipWith_nil_right]
    show _ = (acc.1, acc.2 + 0)
    rw [Rat.add_zero]
  | p :: ws, [], acc, _, _ => by
    show acc = (acc.1, acc.2 + 0)
    rw [Rat.add_zero]
  | p :: ws, x :: w, acc, h, hk => by
    show (ws.zip w).foldl mixStepL (mixStepL acc (p, x)) = (((rowsOf ws).zip w).foldl mixStep (mixStep acc.1 (p.1, x)), acc.2 + (x * p.2 + sumR (List.zipWith (· * ·) w (bndsOf ws))))
    have e1 : mixStep acc.1 (p.1, x) = (mixStepL acc (p, x)).1 := by
      unfold mixStep mixStepL
      rw [add_sca]
      split
      · rename_i hz
        have hz : x = 0 := hz
        rw [hz, add_sca0 _ _ (by rw [hk p List.mem_cons_self]; exact h)]
      · rfl
    have hl : (mixStepL acc (p, x)).1.length ≤ k := by
      unfold mixStepL
      rw [List.length_zipWith]
      omega
    rw [mixL_fold ws w _ hl (fun q hq => hk q (List.mem_cons_of_mem _ hq)), e1]
    refine Prod.ext rfl ?_
    show acc.2 + x * p.2 + _ = acc.2 + (x * p.2 + _)
    rw [Rat.add_assoc]
theorem mixL_eq {k : Nat} {ws : List Wish} {w : List Rat} (hk : ∀ p ∈ ws, p.1.length = k) : mixL ws w k = (mixR (rowsOf ws) w k, dotR w (bndsOf ws)) := by
  unfold mixL
  rw [mixL_fold ws w (nts k, 0) (by unfold nts; rw [List.length_replicate]; exact Nat.le_refl _) hk]
  refine Prod.ext rfl ?_
  show 0 + sumR _ = dotR _ _
  rw [Rat.zero_add]
  rfl
theorem mixL_sz {n m : Nat} (h0 : 0 < n + m) : ∀ (l : List (Wish × Rat)) (b : List Rat × Rat) (k : Nat), (∀ p ∈ l, (Szs n p.1.1 ∧ Sz n p.1.2) ∧ Sz m p.2) → (Szs k b.1 ∧ Sz k b.2) → Szs (k + l.length * (n + m + 1)) (l.foldl mixStepL b).1 ∧ Sz (k + l.length * (n + m + 1)) (l.foldl mixStepL b).2
  | [], b, k, _, hb => by
    show Szs (k + 0 * _) b.1 ∧ Sz (k + 0 * _) b.2
    rw [Nat.zero_mul]
    exact hb
  | p :: l, b, k, h, hb => by
    rw [List.foldl_cons]
    obtain ⟨⟨q1, q2⟩, q3⟩ := h p List.mem_cons_self
    have := mixL_sz h0 l (mixStepL b p) (k + (n + m) + 1) (fun q hq => h q (List.mem_cons_of_mem _ hq)) ⟨?_, ?_⟩
    · have e : k + (n + m) + 1 + l.length * (n + m + 1) = k + (p :: l).length * (n + m + 1) := by rw [List.length_cons, Nat.add_mul]; omega
      rw [e] at this
      exact this
    · unfold mixStepL
      rw [add_sca]
      exact szs_add hb.1 (szs_sca q1 q3 h0)
    · unfold mixStepL
      exact sz_add hb.2 ((sz_mul q3 q2 (by omega)).mono (by omega))
section
variable {E : En}
abbrev C__law_is_whole : List Sl → (PyData → Prop) → Prop := fun ss P => ∃ a : Int, ss = [.dat (.int a)] ∧ P (.bool true)
theorem D__law_is_whole (B : BC E) (A : At E "_law_is_whole" s__law_is_whole ["_law_thing"]) : Def E 1 "_law_is_whole" ["_law_thing"] [] C__law_is_whole := by
  refine def_at A c__law_is_whole (fun ss P h => by obtain ⟨a, rfl, _⟩ := h; rfl) fun ss P h => ?_
  obtain ⟨a, rfl, p⟩ := h
  refine js_cons (j1_ret ?_)
  refine je_and ?_
  refine je_callB B.isinstance rfl rfl ?_
  refine ja_cons ?_
  refine je_var 0 rfl (by first | exact Or.inl rfl | exact Or.inr (Or.inl rfl) | exact Or.inr (Or.inr rfl)) rfl (by intro z; cases z) ?_
  refine ja_cons ?_
  refine je_ty B.int_ rfl rfl ?_
  refine ja_nil ?_
  refine jc_isi rfl rfl ?_
  refine ⟨_, rfl, ?_⟩
  refine ⟨fun _ => ?_, fun z => nomatch z⟩
  refine je_one ?_
  refine je_not ?_
  refine je_callB B.isinstance rfl rfl ?_
  refine ja_cons ?_
  refine je_var 0 rfl (by first | exact Or.inl rfl | exact Or.inr (Or.inl rfl) | exact Or.inr (Or.inr rfl)) rfl (by intro z; cases z) ?_
  refine ja_cons ?_
  refine je_ty B.bool_ rfl rfl ?_
  refine ja_nil ?_
  refine jc_isi rfl rfl ?_
  refine ⟨_, rfl, ?_⟩
  refine ⟨_, rfl, ?_⟩
  exact p
abbrev C__law_is_frac : List Sl → (PyData → Prop) → Prop := fun ss P => ∃ q : Rat, ss = [.dat (fr q)] ∧ q.den < 2 ^ 8000 ∧ P (.bool true)
theorem D__law_is_frac (B : BC E) (A : At E "_law_is_frac" s__law_is_frac ["_law_thing"]) (D__law_is_whole : Def E 1 "_law_is_whole" ["_law_thing"] [] C__law_is_whole) (D__law_frac : Def E 1 "_law_frac" ["_law_top", "_law_low"] [] C__law_frac) : Def E 2 "_law_is_frac" ["_law_thing"] [] C__law_is_frac := by
  refine def_at A c__law_is_frac (fun ss P h => by obtain ⟨q, rfl, _⟩ := h; rfl) fun ss P h => ?_
  obtain ⟨q, rfl, hq, p⟩ := h
  refine js_cons (j1_if ?_)
  refine jt_bool ?_
  refine jw_or ?_
  refine jt_not ?_
  refine jt_val ?_
  refine je_callB B.isinstance rfl rfl ?_
  refine ja_cons ?_
  refine je_var 0 rfl (by first | exact Or.inl rfl | exact Or.inr (Or.inl rfl) | exact Or.inr (Or.inr rfl)) rfl (by intro z; cases z) ?_
  refine ja_cons ?_
  refine je_ty B.tuple_ rfl rfl ?_
  refine ja_nil ?_
  refine jc_isi rfl rfl ?_
  refine ⟨_, rfl, ?_⟩
  refine ⟨fun _ => ?_, fun z => nomatch z⟩
  refine jw_or ?_
  refine jt_cmp ?_
  refine je_callB B.len rfl rfl ?_
  refine ja_cons ?_
  refine je_var 0 rfl (by first | exact Or.inl rfl | exact Or.inr (Or.inl rfl) | exact Or.inr (Or.inr rfl)) rfl (by intro z; cases z) ?_
  refine ja_nil ?_
  refine jc_len rfl ?_
  refine je_int ?_
  refine jo_neI ?_
  refine ⟨_, rfl, ?_⟩
  refine ⟨fun _ => ?_, fun z => nomatch z⟩
  refine jw_or ?_
  refine jt_not ?_
  refine jt_val ?_
  refine je_call D__law_is_whole (Nat.le_of_ble_eq_true rfl) rfl ?_
  refine ja_cons ?_
  refine je_ix ?_
  refine je_var 0 rfl (by first | exact Or.inl rfl | exact Or.inr (Or.inl rfl) | exact Or.inr (Or.inr rfl)) rfl (by intro z; cases z) ?_
  refine je_int ?_
  refine ⟨_, _, _, rfl, rfl, rfl, ?_⟩
  refine ja_nil ?_
  refine ⟨_, rfl, ?_⟩
  refine ⟨_, rfl, ?_⟩
  refine ⟨fun _ => ?_, fun z => nomatch z⟩
  refine jw_or1 ?_
  refine jt_not ?_
  refine jt_val ?_
  refine je_call D__law_is_whole (Nat.le_of_ble_eq_true rfl) rfl ?_
  refine ja_cons ?_
  refine je_ix ?_
  refine je_var 0 rfl (by first | exact Or.inl rfl | exact Or.inr (Or.inl rfl) | exact Or.inr (Or.inr rfl)) rfl (by intro z; cases z) ?_
  refine je_int ?_
  refine ⟨_, _, _, rfl, rfl, rfl, ?_⟩
  refine ja_nil ?_
  refine ⟨_, rfl, ?_⟩
  refine ⟨_, rfl, ?_⟩
  refine ⟨fun z => (nomatch z), fun _ => ?_⟩
  refine js_nil ?_
  refine js_cons (j1_ret ?_)
  refine je_and ?_
  refine je_cmp ?_
  refine je_ix ?_
  refine je_var 0 rfl (by first | exact Or.inl rfl | exact Or.inr (Or.inl rfl) | exact Or.inr (Or.inr rfl)) rfl (by intro z; cases z) ?_
  refine je_int ?_
  refine ⟨_, _, _, rfl, rfl, rfl, ?_⟩
  refine je_int ?_
  refine jo_gt ?_
  rw [decide_eq_true (by have := q.den_pos; omega)]
  refine ⟨_, rfl, ?_⟩
  refine ⟨fun _ => ?_, fun z => nomatch z⟩
  refine je_one ?_
  refine je_cmp ?_
  refine je_call D__law_frac (Nat.le_of_ble_eq_true rfl) rfl ?_
  refine ja_cons ?_
  refine je_ix ?_
  refine je_var 0 rfl (by first | exact Or.inl rfl | exact Or.inr (Or.inl rfl) | exact Or.inr (Or.inr rfl)) rfl (by intro z; cases z) ?_
  refine je_int ?_
  refine ⟨_, _, _, rfl, rfl, rfl, ?_⟩
  refine ja_cons ?_
  refine je_ix ?_
  refine je_var 0 rfl (by first | exact Or.inl rfl | exact Or.inr (Or.inl rfl) | exact Or.inr (Or.inr rfl)) rfl (by intro z; cases z) ?_
  refine je_int ?_
  refine ⟨_, _, _, rfl, rfl, rfl, ?_⟩
  refine ja_nil ?_
  refine ⟨q.num, (q.den : Int), rfl, den_ne q, by rw [Int.natAbs_natCast]; exact hq, ?_⟩
  rw [Rat.num_divInt_den]
  refine je_var 0 rfl (by first | exact Or.inl rfl | exact Or.inr (Or.inl rfl) | exact Or.inr (Or.inr rfl)) rfl (by intro z; cases z) ?_
  refine jo_eqD rfl rfl ?_ ?_ ?_
  rfl
  rfl
  rw [eqv_fr, decide_eq_true rfl]
  exact ⟨_, rfl, p⟩
abbrev C__law_is_row : List Sl → (PyData → Prop) → Prop := fun ss P => ∃ xs : List Rat, ss = [.dat (rw_ xs), .dat (int xs.length)] ∧ xs.length ≤ 1000 ∧ Szs 8000 xs ∧ P (.bool true)
theorem D__law_is_row (B : BC E) (A : At E "_law_is_row" s__law_is_row ["_law_thing", "_law_size"]) (D__law_is_frac : Def E 2 "_law_is_frac" ["_law_thing"] [] C__law_is_frac) : Def E 3 "_law_is_row" ["_law_thing", "_law_size"] [] C__law_is_row := by
  refine def_at A c__law_is_row (fun ss P h => by obtain ⟨xs, rfl, _⟩ := h; rfl) fun ss P h => ?_
  obtain ⟨xs, rfl, hl, hs, p⟩ := h
  refine js_cons (j1_ret ?_)
  refine je_and ?_
  refine je_callB B.isinstance rfl rfl ?_
  refine ja_cons ?_
  refine je_var 0 rfl (by first | exact Or.inl rfl | exact Or.inr (Or.inl rfl) | exact Or.inr (Or.inr rfl)) rfl (by intro z; cases z) ?_
  refine ja_cons ?_
  refine je_ty B.tuple_ rfl rfl ?_
  refine ja_nil ?_
  refine jc_isi rfl rfl ?_
  refine ⟨_, rfl, ?_⟩
  refine ⟨fun _ => ?_, fun z => nomatch z⟩
  refine je_and ?_
  refine je_cmp ?_
  refine je_callB B.len rfl rfl ?_
  refine ja_cons ?_
  refine je_var 0 rfl (by first | exact Or.inl rfl | exact Or.inr (Or.inl rfl) | exact Or.inr (Or.inr rfl)) rfl (by intro z; cases z) ?_
  refine ja_nil ?_
  refine jc_len rfl ?_
  refine je_var 1 rfl (by first | exact Or.inl rfl | exact Or.inr (Or.inl rfl) | exact Or.inr (Or.inr rfl)) rfl (by intro z; cases z) ?_
  refine jo_eqI ?_
  rw [List.length_map, decide_eq_true rfl]
  refine ⟨_, rfl, ?_⟩
  refine ⟨fun _ => ?_, fun z => nomatch z⟩
  refine je_one ?_
  refine je_callB B.all rfl rfl ?_
  refine ja_cons ?_
  refine je_lc1 2 (by decide +kernel) (by decide +kernel) rfl rfl ?_
  refine ji_tup ?_
  refine je_var 0 rfl (by first | exact Or.inl rfl | exact Or.inr (Or.inl rfl) | exact Or.inr (Or.inr rfl)) rfl (by intro z; cases z) ?_
  refine ⟨_, rfl, lcMap xs fr (fun _ => .bool true) (by omega) (fun a ha => ?_) ?_⟩
  · refine je_call D__law_is_frac (Nat.le_of_ble_eq_true rfl) rfl ?_
    refine ja_cons ?_
    refine je_var 2 rfl (by first | exact Or.inl rfl | exact Or.inr (Or.inl rfl) | exact Or.inr (Or.inr rfl)) rfl (by intro z; cases z) ?_
    refine ja_nil ?_
    exact ⟨a, rfl, (hs a ha).2, rfl⟩
  · have e : xs.map (fun _ => PyData.bool true) = (xs.map fun _ => true).map PyData.bool := by rw [List.map_map]; rfl
    rw [e]
    refine ja_nil ?_
    refine jc_all ?_
    rw [all_true]
    exact ⟨_, rfl, p⟩
abbrev C__law_mixed : List Sl → (PyData → Prop) → Prop := fun ss P => ∃ (k : Nat) (ws : List Wish) (w : List Rat) (cd : PyData), ss = [.dat (lotD k ws), .dat cd] ∧ (cd = rw_ w ∨ cd = .list (w.map fr)) ∧ LotOk k ws ∧ (∃ m, Szs m w ∧ m ≤ 800) ∧ P (.tuple [rw_ (mixR (rowsOf ws) w k), fr (dotR w (bndsOf ws))])
theorem D__law_mixed (B : BC E) (A : At E "_law_mixed" s__law_mixed ["_law_lot_here", "_law_weights"]) (D__law_plus : Def E 2 "_law_plus" ["_law_one", "_law_two"] [] C__law_plus) (D__law_times : Def E 2 "_law_times" ["_law_one", "_law_two"] [] C__law_times) : Def E 3 "_law_mixed" ["_law_lot_here", "_law_weights"] [] C__law_mixed := by
  refine def_at A c__law_mixed (fun ss P h => by obtain ⟨k, ws, w, cd, rfl, _⟩ := h; rfl) fun ss P h => ?_
  obtain ⟨k, ws, w, cd, rfl, hcd, hO, ⟨m,hw,hm⟩, p⟩ := h
  have h1 := hO.len
  have h2 := hO.k1
  obtain ⟨kd, ecd⟩ : ∃ kd, sq2 cd = some (kd, w.map fr) := by rcases hcd with h | h <;> rw [h] <;> exact ⟨_, rfl⟩
  clear hcd
  refine js_cons (j1_par 2 3 (by decide +kernel) rfl rfl (by decide) rfl rfl ?_)
  refine je_bin ?_
  refine je_lst ?_
  refine ja_cons ?_
  refine je_tup ?_
  refine ja_cons ?_
  refine je_int ?_
  refine ja_cons ?_
  refine je_int ?_
  refine ja_nil ?_
  refine ⟨_, rfl, Nat.le_of_ble_eq_true rfl, ?_⟩
  refine ja_nil ?_
  refine ⟨_, rfl, Nat.le_of_ble_eq_true rfl, ?_⟩
  refine je_ix ?_
  refine je_var 0 rfl (by first | exact Or.inl rfl | exact Or.inr (Or.inl rfl) | exact Or.inr (Or.inr rfl)) rfl (by intro z; cases z) ?_
  refine je_int ?_
  refine ⟨_, _, _, rfl, rfl, rfl, ?_⟩
  refine jo_repL (k := (k : Int)) (by omega) (by omega) (by decide) ?_
  refine je_tup ?_
  refine ja_cons ?_
  refine je_int ?_
  refine ja_cons ?_
  refine je_int ?_
  refine ja_nil ?_
  refine ⟨_, rfl, Nat.le_of_ble_eq_true rfl, ?_⟩
  refine js_cons (j1_for ?_)
  refine ji_zip B.zip_ rfl ?_
  refine je_ix ?_
  refine je_var 0 rfl (by first | exact Or.inl rfl | exact Or.inr (Or.inl rfl) | exact Or.inr (Or.inr rfl)) rfl (by intro z; cases z) ?_
  refine je_int ?_
  refine ⟨_, _, _, rfl, rfl, rfl, ?_⟩
  refine je_var 1 rfl (by first | exact Or.inl rfl | exact Or.inr (Or.inl rfl) | exact Or.inr (Or.inr rfl)) rfl (by intro z; cases z) ?_
  refine ⟨_, _, _, kd, ws.map wishD, w.map fr, rfl, rfl, rfl, ecd, ?_⟩
  rw [zipD_map]
  have e0 : PyData.list (List.replicate ((k : Int)).toNat [PyData.tuple [.int 0, .int 1]]).flatten = .list ((nts k).map fr) := by
    rw [Int.toNat_natCast, ← rep_flat, map_fr_nts]
    rfl
  rw [e0]
  refine for_fold [4, 5, 6] (ws.zip w) _ (fun (q : List Rat × Rat) => [.dat (lotD k ws), .dat cd, .dat (.list (q.1.map fr)), .dat (fr q.2), .no, .no, .no, .no, .no]) mixStepL (nts k, 0) rfl rfl (fun i a ha => ?_) (fun ρ' e => js_forget [4, 5, 6] e ?_)
  · have hz : ∀ p ∈ ws.zip w, (Szs 13 p.1.1 ∧ Sz 13 p.1.2) ∧ Sz m p.2 := fun p hp => ⟨⟨(hO.sz _ (List.of_mem_zip hp).1).2.1.mono (by decide), (hO.sz _ (List.of_mem_zip hp).1).2.2⟩, hw _ (List.of_mem_zip hp).2⟩
    have hs := mixL_sz (by omega) ((ws.zip w).take i) (nts k, 0) 1 (fun q hq => hz q (mem_take hq)) ⟨szs_nts 1 k (by decide), sz_zero⟩
    obtain ⟨⟨a1, a2⟩, a3⟩ := hz a (List.mem_of_getElem? ha)
    have hlt := (hO.sz _ (List.of_mem_zip (List.mem_of_getElem? ha)).1).1
    have h3 : (min i (ws.zip w).length) * (13 + m + 1) ≤ 6 * (13 + 800 + 1) := Nat.mul_le_mul (by rw [List.length_zip]; omega) (by omega)
    rw [List.length_take] at hs
    generalize ((ws.zip w).take i).foldl mixStepL (nts k, 0) = b at hs
    refine jg_tup ⟨_, rfl, rfl, ?_⟩
    refine jgs_cons ?_
    refine jg_tup ⟨_, rfl, rfl, ?_⟩
    refine jgs_cons ?_
    refine jg_name 4 (by decide +kernel) rfl (by first | exact Or.inl rfl | exact Or.inr rfl) ?_
    refine jgs_cons ?_
    refine jg_name 5 (by decide +kernel) rfl (by first | exact Or.inl rfl | exact Or.inr rfl) ?_
    refine jgs_nil ?_
    refine jgs_cons ?_
    refine jg_name 6 (by decide +kernel) rfl (by first | exact Or.inl rfl | exact Or.inr rfl) ?_
    refine jgs_nil ?_
    refine js_cons (j1_setLc2 2 7 8 (by decide +kernel) rfl rfl (by decide +kernel) rfl rfl rfl rfl (by intro env h; cases env; cases h; first | rfl | with_unfolding_all rfl) ?_)
    refine ji_zip B.zip_ rfl ?_
    refine je_var 2 rfl (by first | exact Or.inl rfl | exact Or.inr (Or.inl rfl) | exact Or.inr (Or.inr rfl)) rfl (by intro z; cases z) ?_
    refine je_var 4 rfl (by first | exact Or.inl rfl | exact Or.inr (Or.inl rfl) | exact Or.inr (Or.inr rfl)) rfl (by intro z; cases z) ?_
    refine ⟨_, _, _, _, _, _, rfl, rfl, rfl, rfl, ?_⟩
    rw [zipD_map]
    refine lc2Map (b.1.zip a.1.1) _ _ (fun p => fr (p.1 + a.2 * p.2)) (by rw [List.length_zip]; omega) (fun p hp => ?_) ?_
    · refine je_call D__law_plus (Nat.le_of_ble_eq_true rfl) rfl ?_
      refine ja_cons ?_
      refine je_var 7 rfl (by first | exact Or.inl rfl | exact Or.inr (Or.inl rfl) | exact Or.inr (Or.inr rfl)) rfl (by intro z; cases z) ?_
      refine ja_cons ?_
      refine je_call D__law_times (Nat.le_of_ble_eq_true rfl) rfl ?_
      refine ja_cons ?_
      refine je_var 6 rfl (by first | exact Or.inl rfl | exact Or.inr (Or.inl rfl) | exact Or.inr (Or.inr rfl)) rfl (by intro z; cases z) ?_
      refine ja_cons ?_
      refine je_var 8 rfl (by first | exact Or.inl rfl | exact Or.inr (Or.inl rfl) | exact Or.inr (Or.inr rfl)) rfl (by intro z; cases z) ?_
      refine ja_nil ?_
      refine ⟨_, _, rfl, ⟨_, _, a3, a1 _ (List.of_mem_zip hp).2, by omega⟩, ?_⟩
      refine ja_nil ?_
      exact ⟨_, _, rfl, ⟨_, _, hs.1 _ (List.of_mem_zip hp).1, sz_mul a3 (a1 _ (List.of_mem_zip hp).2) (by omega), by omega⟩, rfl⟩
    have e : (b.1.zip a.1.1).map (fun p => fr (p.1 + a.2 * p.2)) = (List.zipWith (fun h t => h + a.2 * t) b.1 a.1.1).map fr := by
      rw [List.zip_eq_zipWith, List.map_zipWith, List.map_zipWith]
    rw [e]
    refine js_cons (j1_set 3 (by decide +kernel) rfl (by first | exact Or.inl rfl | exact Or.inr rfl) ?_)
    refine je_call D__law_plus (Nat.le_of_ble_eq_true rfl) rfl ?_
    refine ja_cons ?_
    refine je_var 3 rfl (by first | exact Or.inl rfl | exact Or.inr (Or.inl rfl) | exact Or.inr (Or.inr rfl)) rfl (by intro z; cases z) ?_
    refine ja_cons ?_
    refine je_call D__law_times (Nat.le_of_ble_eq_true rfl) rfl ?_
    refine ja_cons ?_
    refine je_var 6 rfl (by first | exact Or.inl rfl | exact Or.inr (Or.inl rfl) | exact Or.inr (Or.inr rfl)) rfl (by intro z; cases z) ?_
    refine ja_cons ?_
    refine je_var 5 rfl (by first | exact Or.inl rfl | exact Or.inr (Or.inl rfl) | exact Or.inr (Or.inr rfl)) rfl (by intro z; cases z) ?_
    refine ja_nil ?_
    refine ⟨_, _, rfl, ⟨_, _, a3, a2, by omega⟩, ?_⟩
    refine ja_nil ?_
    refine ⟨_, _, rfl, ⟨_, _, hs.2, sz_mul a3 a2 (by omega), by omega⟩, ?_⟩
    refine js_nil ?_
    rfl
  · have eL : (ws.zip w).foldl mixStepL (nts k, 0) = (mixR (rowsOf ws) w k, dotR w (bndsOf ws)) := mixL_eq (ws := ws) (w := w) (k := k) fun q hq => (hO.sz q hq).1
    rw [eL]
    refine js_cons (j1_ret ?_)
    refine je_tup ?_
    refine ja_cons ?_
    refine je_callTy B.tuple_ rfl rfl ?_
    refine ja_cons ?_
    refine je_var 2 rfl (by first | exact Or.inl rfl | exact Or.inr (Or.inl rfl) | exact Or.inr (Or.inr rfl)) rfl (by intro z; cases z) ?_
    refine ja_nil ?_
    refine jc_tuple rfl ?_
    refine ja_cons ?_
    refine je_var 3 rfl (by first | exact Or.inl rfl | exact Or.inr (Or.inl rfl) | exact Or.inr (Or.inr rfl)) rfl (by intro z; cases z) ?_
    refine ja_nil ?_
    refine ⟨_, rfl, Nat.le_of_ble_eq_true rfl, ?_⟩
    exact ⟨_, rfl, p⟩
abbrev C__law_are_weights : List Sl → (PyData → Prop) → Prop := fun ss P => ∃ (k : Nat) (ws : List Wish) (w : List Rat), ss = [.dat (lotD k ws), .dat (rw_ w)] ∧ w.length = ws.length ∧ w.length ≤ 1000 ∧ Szs 8000 w ∧ (∀ x ∈ w, 0 ≤ x) ∧ P (.bool true)
theorem D__law_are_weights (B : BC E) (A : At E "_law_are_weights" s__law_are_weights ["_law_lot_here", "_law_thing"]) (D__law_is_row : Def E 3 "_law_is_row" ["_law_thing", "_law_size"] [] C__law_is_row) : Def E 4 "_law_are_weights" ["_law_lot_here", "_law_thing"] [] C__law_are_weights := by
  refine def_at A c__law_are_weights (fun ss P h => by obtain ⟨k, ws, w, rfl, _⟩ := h; rfl) fun ss P h => ?_
  obtain ⟨k, ws, w, rfl, hlen, hl, hs, hw, p⟩ := h
  refine js_cons (j1_ret ?_)
  refine je_and ?_
  refine je_call D__law_is_row (Nat.le_of_ble_eq_true rfl) rfl ?_
  refine ja_cons ?_
  refine je_var 1 rfl (by first | exact Or.inl rfl | exact Or.inr (Or.inl rfl) | exact Or.inr (Or.inr rfl)) rfl (by intro z; cases z) ?_
  refine ja_cons ?_
  refine je_callB B.len rfl rfl ?_
  refine ja_cons ?_
  refine je_ix ?_
  refine je_var 0 rfl (by first | exact Or.inl rfl | exact Or.inr (Or.inl rfl) | exact Or.inr (Or.inr rfl)) rfl (by intro z; cases z) ?_
  refine je_int ?_
  refine ⟨_, _, _, rfl, rfl, rfl, ?_⟩
  refine ja_nil ?_
  refine jc_len rfl ?_
  refine ja_nil ?_
  refine ⟨w, by rw [List.length_map, hlen]; rfl, hl, hs, ?_⟩
  refine ⟨_, rfl, ?_⟩
  refine ⟨fun _ => ?_, fun z => nomatch z⟩
  refine je_one ?_
  refine je_callB B.all rfl rfl ?_
  refine ja_cons ?_
  refine je_lc1 2 (by decide +kernel) (by decide +kernel) rfl rfl ?_
  refine ji_tup ?_
  refine je_var 1 rfl (by first | exact Or.inl rfl | exact Or.inr (Or.inl rfl) | exact Or.inr (Or.inr rfl)) rfl (by intro z; cases z) ?_
  refine ⟨_, rfl, lcMap w fr (fun _ => .bool true) (by omega) (fun a ha => ?_) ?_⟩
  · refine je_cmp ?_
    refine je_ix ?_
    refine je_var 2 rfl (by first | exact Or.inl rfl | exact Or.inr (Or.inl rfl) | exact Or.inr (Or.inr rfl)) rfl (by intro z; cases z) ?_
    refine je_int ?_
    refine ⟨_, _, _, rfl, rfl, rfl, ?_⟩
    refine je_int ?_
    refine jo_ge ?_
    rw [decide_eq_true (Rat.num_nonneg.mpr (hw a ha))]
  · have e : w.map (fun _ => PyData.bool true) = (w.map fun _ => true).map PyData.bool := by rw [List.map_map]; rfl
    rw [e]
    refine ja_nil ?_
    refine jc_all ?_
    rw [all_true]
    exact ⟨_, rfl, p⟩
abbrev C__law_is_paper : List Sl → (PyData → Prop) → Prop := fun ss P => ∃ (k : Nat) (ws : List Wish) (row : List Rat) (b : Rat) (q : Bool × List Rat), ss = [.dat (lotD k ws), .dat (rw_ row), .dat (fr b), .dat (papT q)] ∧ LotOk k ws ∧ Sz 20 b ∧ GoodP k ws row b q ∧ P (.bool true)
theorem D__law_is_paper (B : BC E) (A : At E "_law_is_paper" s__law_is_paper ["_law_lot_here", "_law_row_here", "_law_bound", "_law_thing"]) (D__law_are_weights : Def E 4 "_law_are_weights" ["_law_lot_here", "_law_thing"] [] C__law_are_weights) (D__law_mixed : Def E 3 "_law_mixed" ["_law_lot_here", "_law_weights"] [] C__law_mixed) (D__law_up_to : Def E 1 "_law_up_to" ["_law_one", "_law_two"] [] C__law_up_to) : Def E 5 "_law_is_paper" ["_law_lot_here", "_law_row_here", "_law_bound", "_law_thing"] [] C__law_is_paper := by
  refine def_at A c__law_is_paper (fun ss P h => by obtain ⟨k, ws, row, b, q, rfl, _⟩ := h; rfl) fun ss P h => ?_
  obtain ⟨k, ws, row, b, q, rfl, hO, hb, hG, p⟩ := h
  have h1 := hO.len
  have h2 := hO.k1
  have hq := hG.len
  have hd : Sz 5000 (dotR q.2 (bndsOf ws)) := by
    refine (dot_szN (by decide) hG.sz (bnds_sz hO)).mono ?_
    have := Nat.mul_le_mul_right (800 + 13 + 1) (show q.2.length ≤ 6 by omega)
    omega
  have e0 : PyData.tuple (List.replicate k (.tuple [.int 0, .int 1])) = rw_ (nts k) := by
    show _ = PyData.tuple ((nts k).map fr)
    rw [map_fr_nts]
    rfl
  obtain ⟨kd, w⟩ := q
  have hbd := hG.bd
  have hvd := hG.vd
  have hq : w.length = ws.length := hq
  cases kd with
  | true =>
    obtain ⟨g1, g2⟩ := hbd rfl
    refine js_cons (j1_if ?_)
    refine jt_bool ?_
    refine jw_or ?_
    refine jt_not ?_
    refine jt_val ?_
    refine je_callB B.isinstance rfl rfl ?_
    refine ja_cons ?_
    refine je_var 3 rfl (by first | exact Or.inl rfl | exact Or.inr (Or.inl rfl) | exact Or.inr (Or.inr rfl)) rfl (by intro z; cases z) ?_
    refine ja_cons ?_
    refine je_ty B.tuple_ rfl rfl ?_
    refine ja_nil ?_
    refine jc_isi rfl rfl ?_
    refine ⟨_, rfl, ?_⟩
    refine ⟨fun _ => ?_, fun z => nomatch z⟩
    refine jw_or ?_
    refine jt_cmp ?_
    refine je_callB B.len rfl rfl ?_
    refine ja_cons ?_
    refine je_var 3 rfl (by first | exact Or.inl rfl | exact Or.inr (Or.inl rfl) | exact Or.inr (Or.inr rfl)) rfl (by intro z; cases z) ?_
    refine ja_nil ?_
    refine jc_len rfl ?_
    refine je_int ?_
    refine jo_neI ?_
    refine ⟨_, rfl, ?_⟩
    refine ⟨fun _ => ?_, fun z => nomatch z⟩
    refine jw_or1 ?_
    refine jt_not ?_
    refine jt_val ?_
    refine je_callB B.isinstance rfl rfl ?_
    refine ja_cons ?_
    refine je_ix ?_
    refine je_var 3 rfl (by first | exact Or.inl rfl | exact Or.inr (Or.inl rfl) | exact Or.inr (Or.inr rfl)) rfl (by intro z; cases z) ?_
    refine je_int ?_
    refine ⟨_, _, _, rfl, rfl, rfl, ?_⟩
    refine ja_cons ?_
    refine je_ty B.str_ rfl rfl ?_
    refine ja_nil ?_
    refine jc_isi rfl rfl ?_
    refine ⟨_, rfl, ?_⟩
    refine ⟨fun z => (nomatch z), fun _ => ?_⟩
    refine js_nil ?_
    refine js_cons (j1_if ?_)
    refine jt_bool ?_
    refine jw_or ?_
    refine jt_cmp ?_
    refine je_ix ?_
    refine je_var 3 rfl (by first | exact Or.inl rfl | exact Or.inr (Or.inl rfl) | exact Or.inr (Or.inr rfl)) rfl (by intro z; cases z) ?_
    refine je_int ?_
    refine ⟨_, _, _, rfl, rfl, rfl, ?_⟩
    refine je_tup ?_
    refine ja_cons ?_
    refine je_str ?_
    refine ja_cons ?_
    refine je_str ?_
    refine ja_nil ?_
    refine ⟨_, rfl, Nat.le_of_ble_eq_true rfl, ?_⟩
    refine jo_notInS ?_
    refine ⟨_, rfl, ?_⟩
    refine ⟨fun _ => ?_, fun z => nomatch z⟩
    refine jw_or1 ?_
    refine jt_not ?_
    refine jt_val ?_
    refine je_call D__law_are_weights (Nat.le_of_ble_eq_true rfl) rfl ?_
    refine ja_cons ?_
    refine je_var 0 rfl (by first | exact Or.inl rfl | exact Or.inr (Or.inl rfl) | exact Or.inr (Or.inr rfl)) rfl (by intro z; cases z) ?_
    refine ja_cons ?_
    refine je_ix ?_
    refine je_var 3 rfl (by first | exact Or.inl rfl | exact Or.inr (Or.inl rfl) | exact Or.inr (Or.inr rfl)) rfl (by intro z; cases z) ?_
    refine je_int ?_
    refine ⟨_, _, _, rfl, rfl, rfl, ?_⟩
    refine ja_nil ?_
    refine ⟨k, ws, w, rfl, hq, by omega, hG.sz.mono (by decide), hG.nn, ?_⟩
    refine ⟨_, rfl, ?_⟩
    refine ⟨fun z => (nomatch z), fun _ => ?_⟩
    refine js_nil ?_
    refine js_cons (j1_asg ?_)
    refine je_call D__law_mixed (Nat.le_of_ble_eq_true rfl) rfl ?_
    refine ja_cons ?_
    refine je_var 0 rfl (by first | exact Or.inl rfl | exact Or.inr (Or.inl rfl) | exact Or.inr (Or.inr rfl)) rfl (by intro z; cases z) ?_
    refine ja_cons ?_
    refine je_ix ?_
    refine je_var 3 rfl (by first | exact Or.inl rfl | exact Or.inr (Or.inl rfl) | exact Or.inr (Or.inr rfl)) rfl (by intro z; cases z) ?_
    refine je_int ?_
    refine ⟨_, _, _, rfl, rfl, rfl, ?_⟩
    refine ja_nil ?_
    refine ⟨k, ws, w, _, rfl, .inl rfl, hO, ⟨800, hG.sz, by decide⟩, ?_⟩
    refine ⟨_, rfl, ?_⟩
    refine jg_tup ⟨_, rfl, rfl, ?_⟩
    refine jgs_cons ?_
    refine jg_name 4 (by decide +kernel) rfl (by first | exact Or.inl rfl | exact Or.inr rfl) ?_
    refine jgs_cons ?_
    refine jg_name 5 (by decide +kernel) rfl (by first | exact Or.inl rfl | exact Or.inr rfl) ?_
    refine jgs_nil ?_
    refine js_cons (j1_if ?_)
    refine jt_cmp ?_
    refine je_ix ?_
    refine je_var 3 rfl (by first | exact Or.inl rfl | exact Or.inr (Or.inl rfl) | exact Or.inr (Or.inr rfl)) rfl (by intro z; cases z) ?_
    refine je_int ?_
    refine ⟨_, _, _, rfl, rfl, rfl, ?_⟩
    refine je_str ?_
    refine jo_eqS ?_
    refine ⟨_, rfl, ?_⟩
    refine ⟨fun _ => ?_, fun z => nomatch z⟩
    refine js_cons (j1_ret ?_)
    refine je_and ?_
    refine je_cmp ?_
    refine je_var 4 rfl (by first | exact Or.inl rfl | exact Or.inr (Or.inl rfl) | exact Or.inr (Or.inr rfl)) rfl (by intro z; cases z) ?_
    refine je_var 1 rfl (by first | exact Or.inl rfl | exact Or.inr (Or.inl rfl) | exact Or.inr (Or.inr rfl)) rfl (by intro z; cases z) ?_
    refine jo_eqD rfl rfl ?_ ?_ ?_
    exact shRow _
    exact shRow _
    rw [eqv_rw, decide_eq_true g1]
    refine ⟨_, rfl, ?_⟩
    refine ⟨fun _ => ?_, fun z => nomatch z⟩
    refine je_one ?_
    refine je_call D__law_up_to (Nat.le_of_ble_eq_true rfl) rfl ?_
    refine ja_cons ?_
    refine je_var 5 rfl (by first | exact Or.inl rfl | exact Or.inr (Or.inl rfl) | exact Or.inr (Or.inr rfl)) rfl (by intro z; cases z) ?_
    refine ja_cons ?_
    refine je_var 2 rfl (by first | exact Or.inl rfl | exact Or.inr (Or.inl rfl) | exact Or.inr (Or.inr rfl)) rfl (by intro z; cases z) ?_
    refine ja_nil ?_
    refine ⟨_, b, rfl, ⟨5000, 20, hd, hb, by decide⟩, ?_⟩
    rw [decide_eq_true g2]
    exact ⟨_, rfl, p⟩
  | false =>
    obtain ⟨g1, g2⟩ := hvd rfl
    refine js_cons (j1_if ?_)
    refine jt_bool ?_
    refine jw_or ?_
    refine jt_not ?_
    refine jt_val ?_
    refine je_callB B.isinstance rfl rfl ?_
    refine ja_cons ?_
    refine je_var 3 rfl (by first | exact Or.inl rfl | exact Or.inr (Or.inl rfl) | exact Or.inr (Or.inr rfl)) rfl (by intro z; cases z) ?_
    refine ja_cons ?_
    refine je_ty B.tuple_ rfl rfl ?_
    refine ja_nil ?_
    refine jc_isi rfl rfl ?_
    refine ⟨_, rfl, ?_⟩
    refine ⟨fun _ => ?_, fun z => nomatch z⟩
    refine jw_or ?_
    refine jt_cmp ?_
    refine je_callB B.len rfl rfl ?_
    refine ja_cons ?_
    refine je_var 3 rfl (by first | exact Or.inl rfl | exact Or.inr (Or.inl rfl) | exact Or.inr (Or.inr rfl)) rfl (by intro z; cases z) ?_
    refine ja_nil ?_
    refine jc_len rfl ?_
    refine je_int ?_
    refine jo_neI ?_
    refine ⟨_, rfl, ?_⟩
    refine ⟨fun _ => ?_, fun z => nomatch z⟩
    refine jw_or1 ?_
    refine jt_not ?_
    refine jt_val ?_
    refine je_callB B.isinstance rfl rfl ?_
    refine ja_cons ?_
    refine je_ix ?_
    refine je_var 3 rfl (by first | exact Or.inl rfl | exact Or.inr (Or.inl rfl) | exact Or.inr (Or.inr rfl)) rfl (by intro z; cases z) ?_
    refine je_int ?_
    refine ⟨_, _, _, rfl, rfl, rfl, ?_⟩
    refine ja_cons ?_
    refine je_ty B.str_ rfl rfl ?_
    refine ja_nil ?_
    refine jc_isi rfl rfl ?_
    refine ⟨_, rfl, ?_⟩
    refine ⟨fun z => (nomatch z), fun _ => ?_⟩
    refine js_nil ?_
    refine js_cons (j1_if ?_)
    refine jt_bool ?_
    refine jw_or ?_
    refine jt_cmp ?_
    refine je_ix ?_
    refine je_var 3 rfl (by first | exact Or.inl rfl | exact Or.inr (Or.inl rfl) | exact Or.inr (Or.inr rfl)) rfl (by intro z; cases z) ?_
    refine je_int ?_
    refine ⟨_, _, _, rfl, rfl, rfl, ?_⟩
    refine je_tup ?_
    refine ja_cons ?_
    refine je_str ?_
    refine ja_cons ?_
    refine je_str ?_
    refine ja_nil ?_
    refine ⟨_, rfl, Nat.le_of_ble_eq_true rfl, ?_⟩
    refine jo_notInS ?_
    refine ⟨_, rfl, ?_⟩
    refine ⟨fun _ => ?_, fun z => nomatch z⟩
    refine jw_or1 ?_
    refine jt_not ?_
    refine jt_val ?_
    refine je_call D__law_are_weights (Nat.le_of_ble_eq_true rfl) rfl ?_
    refine ja_cons ?_
    refine je_var 0 rfl (by first | exact Or.inl rfl | exact Or.inr (Or.inl rfl) | exact Or.inr (Or.inr rfl)) rfl (by intro z; cases z) ?_
    refine ja_cons ?_
    refine je_ix ?_
    refine je_var 3 rfl (by first | exact Or.inl rfl | exact Or.inr (Or.inl rfl) | exact Or.inr (Or.inr rfl)) rfl (by intro z; cases z) ?_
    refine je_int ?_
    refine ⟨_, _, _, rfl, rfl, rfl, ?_⟩
    refine ja_nil ?_
    refine ⟨k, ws, w, rfl, hq, by omega, hG.sz.mono (by decide), hG.nn, ?_⟩
    refine ⟨_, rfl, ?_⟩
    refine ⟨fun z => (nomatch z), fun _ => ?_⟩
    refine js_nil ?_
    refine js_cons (j1_asg ?_)
    refine je_call D__law_mixed (Nat.le_of_ble_eq_true rfl) rfl ?_
    refine ja_cons ?_
    refine je_var 0 rfl (by first | exact Or.inl rfl | exact Or.inr (Or.inl rfl) | exact Or.inr (Or.inr rfl)) rfl (by intro z; cases z) ?_
    refine ja_cons ?_
    refine je_ix ?_
    refine je_var 3 rfl (by first | exact Or.inl rfl | exact Or.inr (Or.inl rfl) | exact Or.inr (Or.inr rfl)) rfl (by intro z; cases z) ?_
    refine je_int ?_
    refine ⟨_, _, _, rfl, rfl, rfl, ?_⟩
    refine ja_nil ?_
    refine ⟨k, ws, w, _, rfl, .inl rfl, hO, ⟨800, hG.sz, by decide⟩, ?_⟩
    refine ⟨_, rfl, ?_⟩
    refine jg_tup ⟨_, rfl, rfl, ?_⟩
    refine jgs_cons ?_
    refine jg_name 4 (by decide +kernel) rfl (by first | exact Or.inl rfl | exact Or.inr rfl) ?_
    refine jgs_cons ?_
    refine jg_name 5 (by decide +kernel) rfl (by first | exact Or.inl rfl | exact Or.inr rfl) ?_
    refine jgs_nil ?_
    refine js_cons (j1_if ?_)
    refine jt_cmp ?_
    refine je_ix ?_
    refine je_var 3 rfl (by first | exact Or.inl rfl | exact Or.inr (Or.inl rfl) | exact Or.inr (Or.inr rfl)) rfl (by intro z; cases z) ?_
    refine je_int ?_
    refine ⟨_, _, _, rfl, rfl, rfl, ?_⟩
    refine je_str ?_
    refine jo_eqS ?_
    refine ⟨_, rfl, ?_⟩
    refine ⟨fun z => (nomatch z), fun _ => ?_⟩
    refine js_nil ?_
    refine js_cons (j1_ret ?_)
    refine je_and ?_
    refine je_cmp ?_
    refine je_var 4 rfl (by first | exact Or.inl rfl | exact Or.inr (Or.inl rfl) | exact Or.inr (Or.inr rfl)) rfl (by intro z; cases z) ?_
    refine je_bin ?_
    refine je_tup ?_
    refine ja_cons ?_
    refine je_tup ?_
    refine ja_cons ?_
    refine je_int ?_
    refine ja_cons ?_
    refine je_int ?_
    refine ja_nil ?_
    refine ⟨_, rfl, Nat.le_of_ble_eq_true rfl, ?_⟩
    refine ja_nil ?_
    refine ⟨_, rfl, Nat.le_of_ble_eq_true rfl, ?_⟩
    refine je_ix ?_
    refine je_var 0 rfl (by first | exact Or.inl rfl | exact Or.inr (Or.inl rfl) | exact Or.inr (Or.inr rfl)) rfl (by intro z; cases z) ?_
    refine je_int ?_
    refine ⟨_, _, _, rfl, rfl, rfl, ?_⟩
    refine jo_repT (by omega) ?_
    rw [e0]
    refine jo_eqD rfl rfl ?_ ?_ ?_
    exact shRow _
    exact shRow _
    rw [eqv_rw, decide_eq_true g1]
    refine ⟨_, rfl, ?_⟩
    refine ⟨fun _ => ?_, fun z => nomatch z⟩
    refine je_one ?_
    refine je_cmp ?_
    refine je_ix ?_
    refine je_var 5 rfl (by first | exact Or.inl rfl | exact Or.inr (Or.inl rfl) | exact Or.inr (Or.inr rfl)) rfl (by intro z; cases z) ?_
    refine je_int ?_
    refine ⟨_, _, _, rfl, rfl, rfl, ?_⟩
    refine je_int ?_
    refine jo_lt ?_
    rw [num_lt0, decide_eq_true g2]
    exact ⟨_, rfl, p⟩
end
end W6
end
section
set_option linter.all false
/-! Fractions over a given low part. -/
namespace W6
/-- q is z/d, |q| ≤ m -/
def Dz (d m : Nat) (q : Rat) : Prop := ∃ z : Int, q * (d : Rat) = (z : Rat) ∧ z.natAbs ≤ m * d
theorem Dz.mono {d m e n : Nat} {q : Rat} (h : Dz d m q) (hd : d ∣ e) (hm : m ≤ n) : Dz e n q := by
  obtain ⟨z, h1, h2⟩ := h
  obtain ⟨c, rfl⟩ := hd
  refine ⟨z * c, ?_, ?_⟩
  · rw [Rat.intCast_mul, ← h1, Rat.natCast_mul]
    show q * (d * c) = q * d * ((c : Int) : Rat)
    rw [Rat.intCast_natCast]
    grind
  · rw [Int.natAbs_mul, Int.natAbs_natCast, ← Nat.mul_assoc]
    exact Nat.mul_le_mul_right _ (Nat.le_trans h2 (Nat.mul_le_mul_right _ hm))
theorem Dz.add {d m n : Nat} {p q : Rat} (h : Dz d m p) (k : Dz d n q) : Dz d (m + n) (p + q) := by
  obtain ⟨z, h1, h2⟩ := h
  obtain ⟨y, k1, k2⟩ := k
  refine ⟨z + y, by rw [Rat.intCast_add, ← h1, ← k1]; grind, ?_⟩
  rw [Nat.add_mul]
  have := Int.natAbs_add_le z y
  omega
theorem Dz.neg {d m : Nat} {p : Rat} (h : Dz d m p) : Dz d m (-p) := by
  obtain ⟨z, h1, h2⟩ := h
  exact ⟨-z, by rw [Rat.intCast_neg, ← h1]; grind, by rw [Int.natAbs_neg]; exact h2⟩
theorem Dz.mul {d e m n : Nat} {p q : Rat} (h : Dz d m p) (k : Dz e n q) : Dz (d * e) (m * n) (p * q) := by
  obtain ⟨z, h1, h2⟩ := h
  obtain ⟨y, k1, k2⟩ := k
  refine ⟨z * y, by rw [Rat.intCast_mul, ← h1, ← k1, Rat.natCast_mul]; grind, ?_⟩
  rw [Int.natAbs_mul]
  refine Nat.le_trans (Nat.mul_le_mul h2 k2) (Nat.le_of_eq ?_)
  rw [Nat.mul_mul_mul_comm]
theorem Dz.zero (d m : Nat) : Dz d m 0 := ⟨0, by rw [Rat.zero_mul]; rfl, Nat.zero_le _⟩
theorem Dz.eq {d m : Nat} {q : Rat} (h : Dz d m q) (hd : 0 < d) : ∃ z : Int, q = Rat.divInt z d ∧ z.natAbs ≤ m * d := by
  obtain ⟨z, h1, h2⟩ := h
  refine ⟨z, ?_, h2⟩
  rw [Rat.divInt_eq_div, ← h1, Rat.intCast_natCast]
  have : (d : Rat) ≠ 0 := by
    intro z
    have := Rat.natCast_inj.mp (z.trans (by rfl : (0 : Rat) = ((0 : Nat) : Rat)))
    omega
  grind
theorem Dz.sz {d m n : Nat} {q : Rat} (h : Dz d m q) (hd : 0 < d) (h1 : m * d < 2 ^ n) (h2 : d < 2 ^ n) (h0 : 0 < n) : Sz n q := by
  obtain ⟨z, rfl, hz⟩ := h.eq hd
  exact sz_divInt (Nat.lt_of_le_of_lt hz h1) (by rw [Int.natAbs_natCast]; exact h2) h0
theorem Dz.den {d m : Nat} {q : Rat} (h : Dz d m q) (hd : 0 < d) : q.den ∣ d := by
  obtain ⟨z, rfl, hz⟩ := h.eq hd
  rw [Rat.den_divInt]
  split
  · exact Nat.one_dvd _
  · exact Nat.div_dvd_of_dvd (by rw [Int.natAbs_natCast]; exact Nat.gcd_dvd_left d z.natAbs)
theorem dz_of {d m : Nat} {q : Rat} (h1 : q.den ∣ d) (h2 : q.num.natAbs ≤ m * q.den) : Dz d m q := by
  obtain ⟨c, rfl⟩ := h1
  have e : q * (q.den : Rat) = (q.num : Rat) := by
    have h : q = (q.num : Rat) / (q.den : Rat) := by
      rw [← Rat.intCast_natCast, ← Rat.divInt_eq_div, Rat.num_divInt_den]
    have hne : (q.den : Rat) ≠ 0 := by
      intro z
      have := Rat.natCast_inj.mp (z.trans (by rfl : (0 : Rat) = ((0 : Nat) : Rat)))
      exact q.den_nz this
    calc q * (q.den : Rat) = (q.num : Rat) / (q.den : Rat) * (q.den : Rat) := by rw [← h]
      _ = (q.num : Rat) := Rat.div_mul_cancel hne
  refine ⟨q.num * c, ?_, ?_⟩
  · rw [Rat.intCast_mul, ← e, Rat.natCast_mul, Rat.intCast_natCast]
    grind
  · rw [Int.natAbs_mul, Int.natAbs_natCast, ← Nat.mul_assoc]
    exact Nat.mul_le_mul_right _ h2
end W6
end
section
set_option Elab.async false
set_option linter.all false
set_option maxRecDepth 100000
set_option maxHeartbeats 4000000
set_option exponentiation.threshold 10000
/-! The walk: the law's lots and asks. -/
namespace W6
open PySem PySem.Spec PyProof.Rows L2
theorem Dn.dz {d m : Nat} {q : Rat} (h : Dn d m q) : Dz d m q := dz_of h.1 h.2
theorem fr_of {q : Rat} {a b : Int} (h1 : q.num = a) (h2 : (q.den : Int) = b) : PyData.tuple [.int a, .int b] = fr q := by rw [← h1, ← h2]
theorem fr_half : PyData.tuple [.int 1, .int 2] = fr (1 / 2) := fr_of (by decide +kernel) (by decide +kernel)
theorem fr_third : PyData.tuple [.int (-1), .int 3] = fr (-1 / 3) := fr_of (by decide +kernel) (by decide +kernel)
structure LotDz (k : Nat) (ws : List Wish) : Prop where
  k0 : 1 ≤ k
  k1 : k ≤ 3
  len : ws.length ≤ 6
  sz : ∀ p ∈ ws, p.1.length = k ∧ (∀ x ∈ p.1, Dz 12 3 x) ∧ Dz 144 29 p.2
theorem LotDz.ok {k : Nat} {ws : List Wish} (h : LotDz k ws) : LotOk k ws := ⟨h.k0, h.k1, h.len, fun p hp => ⟨(h.sz p hp).1, fun x hx => ((h.sz p hp).2.1 x hx).sz (by decide) (by decide) (by decide) (by decide), (h.sz p hp).2.2.sz (by decide) (by decide) (by decide) (by decide)⟩⟩
theorem wishes_sh (l : List Wish) : PyData.canLayAll0 (l.map wishD) = true ∧ PyData.depthAll (l.map wishD) ≤ 3 := by
  induction l with
  | nil => exact ⟨rfl, Nat.zero_le _⟩
  | cons q l ih =>
    constructor
    · show (PyData.canLayAll0 [rw_ q.1, fr q.2] && PyData.canLayAll0 (l.map wishD)) = true
      rw [ih.1]
      show ((PyData.canLayAll0 (q.1.map fr) && true) && true) = true
      rw [canRows]; rfl
    · show max (max (PyData.depthAll (q.1.map fr) + 1) (max 1 0) + 1) (PyData.depthAll (l.map wishD)) ≤ 3
      have := dep_frs q.1
      omega
theorem shWl (l : List Wish) : SeqAt.shaped (.list (l.map wishD)) = true := by
  show (PyData.canLayAll0 (l.map wishD) && decide (PyData.depthAll (l.map wishD) + 1 ≤ 64)) = true
  rw [(wishes_sh l).1, decide_eq_true (by have := (wishes_sh l).2; omega)]; rfl
theorem shWt (l : List Wish) : SeqAt.shaped (.tuple (l.map wishD)) = true := shWl l
theorem eqv_wl (l : List Wish) : PyData.eqv (.list (l.map wishD)) (.list []) = l.isEmpty := by cases l <;> rfl
theorem eqv_wt (l : List Wish) : PyData.eqv (.tuple (l.map wishD)) (.tuple []) = l.isEmpty := by cases l <;> rfl
theorem dz_sum {d m : Nat} : ∀ (l : List Rat) (c : Nat), (∀ x ∈ l, Dz d m x) → l.length ≤ c → Dz d (m * c) (sumR l)
  | [], c, _, _ => Dz.zero _ _
  | x :: l, c, h, hl => by
    obtain ⟨c, rfl⟩ : ∃ e, c = e + 1 := ⟨c - 1, by rw [List.length_cons] at hl; omega⟩
    rw [Nat.mul_succ, Nat.add_comm]
    exact (h x List.mem_cons_self).add (dz_sum l c (fun y hy => h y (List.mem_cons_of_mem _ hy)) (by rw [List.length_cons] at hl; omega))
theorem dz_dot {d e m n c : Nat} {xs ys : List Rat} (h : ∀ x ∈ xs, Dz d m x) (k : ∀ y ∈ ys, Dz e n y) (hl : xs.length ≤ c) : Dz (d * e) (m * n * c) (dotR xs ys) := by
  refine dz_sum _ c (fun z hz => ?_) (by rw [List.length_zipWith]; omega)
  obtain ⟨x, hx, y, hy, rfl⟩ := mem_zipWith hz
  exact (h x hx).mul (k y hy)
theorem dz_mix {d e m n : Nat} : ∀ (l : List (List Rat × Rat)) (b : List Rat) (a : Nat), (∀ p ∈ l, (∀ x ∈ p.1, Dz d m x) ∧ Dz e n p.2) → (∀ x ∈ b, Dz (d * e) a x) → ∀ x ∈ l.foldl mixStep b, Dz (d * e) (a + m * n * l.length) x
  | [], b, a, _, hb => hb
  | p :: l, b, a, h, hb => by
    rw [List.foldl_cons]
    intro x hx
    refine (dz_mix l _ (a + m * n) (fun q hq => h q (List.mem_cons_of_mem _ hq)) (fun y hy => ?_) x hx).mono (Nat.dvd_refl _) (by rw [List.length_cons, Nat.mul_succ]; omega)
    unfold mixStep at hy
    split at hy
    · exact (hb y hy).mono (Nat.dvd_refl _) (by omega)
    · obtain ⟨u, hu, v, hv, rfl⟩ := mem_zipWith hy
      obtain ⟨t, ht, rfl⟩ := List.mem_map.mp hv
      exact (hb u hu).add (((h p List.mem_cons_self).1 t ht).mul (h p List.mem_cons_self).2)
theorem mix_leng {k : Nat} : ∀ (l : List (List Rat × Rat)) (b : List Rat), b.length = k → (∀ p ∈ l, p.1.length = k) → (l.foldl mixStep b).length = k
  | [], b, hb, _ => hb
  | p :: l, b, hb, h => by
    rw [List.foldl_cons]
    refine mix_leng l _ ?_ (fun q hq => h q (List.mem_cons_of_mem _ hq))
    unfold mixStep
    split
    · exact hb
    · unfold addR scaR
      rw [List.length_zipWith, List.length_map, hb, h p List.mem_cons_self, Nat.min_self]
section
variable {E : En}
abbrev C__law_lot : List Sl → (PyData → Prop) → Prop := fun ss P => ∃ k m : Nat, ss = [.well, .dat (int k), .dat (int m)] ∧ 1 ≤ k ∧ k ≤ 3 ∧ m ≤ 6 ∧ ∀ ws : List Wish, ws.length ≤ m → (∀ p ∈ ws, p.1.length = k ∧ (∀ x ∈ p.1, Dz 12 3 x) ∧ Dz 12 3 p.2) → P (lotD k ws)
theorem D__law_lot (B : BC E) (A : At E "_law_lot" s__law_lot ["_law_well_here", "_law_size", "_law_most"]) (D__law_draw : Def E 1 "_law_draw" ["_law_well_here", "_law_many"] [] C__law_draw) (D__law_row : Def E 3 "_law_row" ["_law_well_here", "_law_size"] [] C__law_row) (D__law_of : Def E 2 "_law_of" ["_law_well_here", "_law_some"] [] C__law_of) (D__law_number : Def E 2 "_law_number" ["_law_well_here"] [] C__law_number) : Def E 4 "_law_lot" ["_law_well_here", "_law_size", "_law_most"] [] C__law_lot := by
  refine def_at A c__law_lot (fun ss P h => by obtain ⟨k, m, rfl, _⟩ := h; rfl) fun ss P h => ?_
  obtain ⟨k, m, rfl, hk0, hk1, hm, p⟩ := h
  refine js_own 3 (by decide +kernel) rfl (by first | exact Or.inl rfl | exact Or.inr rfl) (fun X g => own_nil g) ?_
  refine js_cons (j1_for ?_)
  refine ji_range1 B.range_ rfl ?_
  refine je_call D__law_draw (Nat.le_of_ble_eq_true rfl) rfl ?_
  refine ja_cons ?_
  refine je_var 0 rfl (by first | exact Or.inl rfl | exact Or.inr (Or.inl rfl) | exact Or.inr (Or.inr rfl)) rfl (by intro z; cases z) ?_
  refine ja_cons ?_
  refine je_bin ?_
  refine je_var 2 rfl (by first | exact Or.inl rfl | exact Or.inr (Or.inl rfl) | exact Or.inr (Or.inr rfl)) rfl (by intro z; cases z) ?_
  refine je_int ?_
  refine jo_add ?_
  refine ja_nil ?_
  refine ⟨m + 1, by show [Sl.well, Sl.dat (.int ((m : Int) + 1))] = _; rw [show (m : Int) + 1 = ((m + 1 : Nat) : Int) by omega], by omega, by omega, fun d hd => ?_⟩
  refine ⟨d, rfl, by omega, ?_⟩
  refine for_inv [4, 5, 6, 7] (List.range d) int (fun (q : List Wish) => [.well, .dat (int k), .dat (int m), .own (q.map wishD), .no, .no, .no, .no, .no, .no]) (fun i q => q.length = i ∧ ∀ p ∈ q, p.1.length = k ∧ (∀ x ∈ p.1, Dz 12 3 x) ∧ Dz 12 3 p.2) [] rfl rfl ⟨rfl, fun x hx => nomatch hx⟩ (fun i a b ha hb => ?_) (fun ρ' b hb e => js_forget [4, 5, 6, 7] e ?_)
  · have hi := (List.getElem?_eq_some_iff.mp ha).1
    rw [List.length_range] at hi
    have rest : ∀ (D : Po) (qs : List Rat), qs.length = k → (∀ x ∈ qs, Dz 12 3 x) → (∀ ρ3, (∃ b', (b'.length = i + 1 ∧ ∀ p ∈ b', p.1.length = k ∧ (∀ x ∈ p.1, Dz 12 3 x) ∧ Dz 12 3 p.2) ∧ wip ρ3 [4, 5, 6, 7] = [.well, .dat (int k), .dat (int m), .own ((b' : List Wish).map wishD), .no, .no, .no, .no, .no, .no]) → D.nx ρ3) → JS E ⟨N__law_lot, defScope s__law_lot, true, 3, fun _ => True⟩ true [.well, .dat (int k), .dat (int m), .own (b.map wishD), .no, .no, .dat (rw_ qs), .no, .no, .no] (match (defBody s__law_lot).drop 1 with | .For _ _ bd _ _ :: _ => bd.drop 2 | _ => []) D := fun D qs hql hqs hD => by
      refine js_cons (j1_app 3 rfl (by first | exact Or.inl rfl | exact Or.inr (Or.inl rfl) | exact Or.inr (Or.inr rfl)) rfl rfl ?_ ?_)
      · rw [List.length_map, hb.1]; omega
      refine je_tup ?_
      refine ja_cons ?_
      refine je_var 6 rfl (by first | exact Or.inl rfl | exact Or.inr (Or.inl rfl) | exact Or.inr (Or.inr rfl)) rfl (by intro z; cases z) ?_
      refine ja_cons ?_
      refine je_call D__law_number (Nat.le_of_ble_eq_true rfl) rfl ?_
      refine ja_cons ?_
      refine je_var 0 rfl (by first | exact Or.inl rfl | exact Or.inr (Or.inl rfl) | exact Or.inr (Or.inr rfl)) rfl (by intro z; cases z) ?_
      refine ja_nil ?_
      refine ⟨(), rfl, fun q hq => ?_⟩
      refine ja_nil ?_
      refine ⟨_, rfl, Nat.le_of_ble_eq_true rfl, ?_⟩
      refine ⟨_, rfl, ?_⟩
      refine js_nil ?_
      refine hD _ ⟨b ++ [(qs, q)], ⟨by rw [List.length_append, hb.1]; rfl, fun x hx => ?_⟩, by rw [List.map_append]; rfl⟩
      rcases List.mem_append.mp hx with h | h
      · exact hb.2 x h
      · rw [List.mem_singleton.mp h]; exact ⟨hql, hqs, hq.dz⟩
    refine jg_name 4 (by decide +kernel) rfl (by first | exact Or.inl rfl | exact Or.inr rfl) ?_
    refine js_cons (j1_asg ?_)
    refine je_tup ?_
    refine ja_cons ?_
    refine je_call D__law_draw (Nat.le_of_ble_eq_true rfl) rfl ?_
    refine ja_cons ?_
    refine je_var 0 rfl (by first | exact Or.inl rfl | exact Or.inr (Or.inl rfl) | exact Or.inr (Or.inr rfl)) rfl (by intro z; cases z) ?_
    refine ja_cons ?_
    refine je_int ?_
    refine ja_nil ?_
    refine ⟨6, rfl, by decide, by decide, fun way hway => ?_⟩
    refine ja_cons ?_
    refine je_call D__law_row (Nat.le_of_ble_eq_true rfl) rfl ?_
    refine ja_cons ?_
    refine je_var 0 rfl (by first | exact Or.inl rfl | exact Or.inr (Or.inl rfl) | exact Or.inr (Or.inr rfl)) rfl (by intro z; cases z) ?_
    refine ja_cons ?_
    refine je_var 1 rfl (by first | exact Or.inl rfl | exact Or.inr (Or.inl rfl) | exact Or.inr (Or.inr rfl)) rfl (by intro z; cases z) ?_
    refine ja_nil ?_
    refine ⟨k, rfl, by omega, fun qs hql hqs => ?_⟩
    refine ja_nil ?_
    refine ⟨_, rfl, Nat.le_of_ble_eq_true rfl, ?_⟩
    refine ⟨_, rfl, ?_⟩
    refine jg_tup ⟨_, rfl, rfl, ?_⟩
    refine jgs_cons ?_
    refine jg_name 5 (by decide +kernel) rfl (by first | exact Or.inl rfl | exact Or.inr rfl) ?_
    refine jgs_cons ?_
    refine jg_name 6 (by decide +kernel) rfl (by first | exact Or.inl rfl | exact Or.inr rfl) ?_
    refine jgs_nil ?_
    refine js_cons (j1_if ?_)
    refine jt_cmp ?_
    refine je_var 5 rfl (by first | exact Or.inl rfl | exact Or.inr (Or.inl rfl) | exact Or.inr (Or.inr rfl)) rfl (by intro z; cases z) ?_
    refine je_int ?_
    refine jo_lt ?_
    refine ⟨_, rfl, ?_⟩
    refine ⟨fun hk => ?_, fun hk => ?_⟩
    · have hw : way < 2 := by have := of_decide_eq_true hk; omega
      refine js_cons (j1_set 7 (by decide +kernel) rfl (by first | exact Or.inl rfl | exact Or.inr rfl) ?_)
      refine je_call D__law_draw (Nat.le_of_ble_eq_true rfl) rfl ?_
      refine ja_cons ?_
      refine je_var 0 rfl (by first | exact Or.inl rfl | exact Or.inr (Or.inl rfl) | exact Or.inr (Or.inr rfl)) rfl (by intro z; cases z) ?_
      refine ja_cons ?_
      refine je_var 1 rfl (by first | exact Or.inl rfl | exact Or.inr (Or.inl rfl) | exact Or.inr (Or.inr rfl)) rfl (by intro z; cases z) ?_
      refine ja_nil ?_
      refine ⟨k, rfl, by omega, by omega, fun spot hspot => ?_⟩
      refine js_cons (j1_set 6 (by decide +kernel) rfl (by first | exact Or.inl rfl | exact Or.inr rfl) ?_)
      refine je_callTy B.tuple_ rfl rfl ?_
      refine ja_cons ?_
      refine je_lc1 8 (by decide +kernel) (by decide +kernel) rfl rfl ?_
      refine ji_range1 B.range_ rfl ?_
      refine je_var 1 rfl (by first | exact Or.inl rfl | exact Or.inr (Or.inl rfl) | exact Or.inr (Or.inr rfl)) rfl (by intro z; cases z) ?_
      have hv : Dz 12 3 (if way = 0 then (1 : Rat) else -1) := by
        split
        · exact (show Dn 12 3 1 by decide +kernel).dz
        · exact (show Dn 12 3 (-1) by decide +kernel).dz
      have ev : PyData.tuple [.int (1 - 2 * (way : Int)), .int 1] = fr (if way = 0 then (1 : Rat) else -1) := by
        obtain h | h : way = 0 ∨ way = 1 := by omega
        · subst h; rfl
        · subst h; rfl
      refine ⟨k, rfl, by omega, lcMap (List.range k) int (fun i => fr (if i = spot then (if way = 0 then (1 : Rat) else -1) else 0)) (by rw [List.length_range]; omega) (fun i hi => ?_) ?_⟩
      · have d1 : decide ((i : Int) = (spot : Int)) = decide (i = spot) := by
          by_cases h : i = spot
          · rw [decide_eq_true h, decide_eq_true (by omega)]
          · rw [decide_eq_false h, decide_eq_false (by omega)]
        refine je_if ?_
        refine jt_cmp ?_
        refine je_var 8 rfl (by first | exact Or.inl rfl | exact Or.inr (Or.inl rfl) | exact Or.inr (Or.inr rfl)) rfl (by intro z; cases z) ?_
        refine je_var 7 rfl (by first | exact Or.inl rfl | exact Or.inr (Or.inl rfl) | exact Or.inr (Or.inr rfl)) rfl (by intro z; cases z) ?_
        refine jo_eqI ?_
        refine ⟨_, rfl, ?_⟩
        rw [d1]
        refine ⟨fun hk' => ?_, fun hk' => ?_⟩
        · rw [if_pos (of_decide_eq_true hk'), ← ev]
          refine je_tup ?_
          refine ja_cons ?_
          refine je_bin ?_
          refine je_int ?_
          refine je_bin ?_
          refine je_int ?_
          refine je_var 5 rfl (by first | exact Or.inl rfl | exact Or.inr (Or.inl rfl) | exact Or.inr (Or.inr rfl)) rfl (by intro z; cases z) ?_
          refine jo_mul64 (.inl ⟨by decide, by decide⟩) ?_
          refine jo_sub ?_
          refine ja_cons ?_
          refine je_int ?_
          refine ja_nil ?_
          refine ⟨_, rfl, Nat.le_of_ble_eq_true rfl, ?_⟩
          rfl
        · rw [if_neg (of_decide_eq_false hk')]
          refine je_tup ?_
          refine ja_cons ?_
          refine je_int ?_
          refine ja_cons ?_
          refine je_int ?_
          refine ja_nil ?_
          refine ⟨_, rfl, Nat.le_of_ble_eq_true rfl, ?_⟩
          rfl
      · have eL : (List.range k).map (fun i => fr (if i = spot then (if way = 0 then (1 : Rat) else -1) else 0)) = ((List.range k).map fun i => if i = spot then (if way = 0 then (1 : Rat) else -1) else 0).map fr := by rw [List.map_map]; rfl
        rw [eL]
        refine ja_nil ?_
        refine jc_tuple rfl ?_
        refine js_nil ?_
        refine js_forget [4, 5, 7] rfl (rest _ _ (by rw [List.length_map, List.length_range]) (fun x hx => ?_) fun _ h => h)
        obtain ⟨j, _, rfl⟩ := List.mem_map.mp hx
        split
        · exact hv
        · exact Dz.zero _ _
    · refine js_cons (j1_if ?_)
      refine jt_bool ?_
      refine jw_and ?_
      refine jt_cmp ?_
      refine je_var 5 rfl (by first | exact Or.inl rfl | exact Or.inr (Or.inl rfl) | exact Or.inr (Or.inr rfl)) rfl (by intro z; cases z) ?_
      refine je_int ?_
      refine jo_eqI ?_
      refine ⟨_, rfl, ?_⟩
      refine ⟨fun hk' => ?_, fun hk' => ?_⟩
      · refine jw_and1 ?_
        refine jt_cmp ?_
        refine je_var 3 rfl (by first | exact Or.inl rfl | exact Or.inr (Or.inl rfl) | exact Or.inr (Or.inr rfl)) rfl (by intro z; cases z) ?_
        refine je_lst ?_
        refine ja_nil ?_
        refine ⟨_, rfl, Nat.le_of_ble_eq_true rfl, ?_⟩
        refine jo_neD rfl rfl ?_ ?_ ?_
        exact shWl _
        rfl
        rw [eqv_wl]
        refine ⟨_, rfl, ?_⟩
        refine ⟨fun h3 => ?_, fun h3 => ?_⟩
        · have hbn : b.map wishD ≠ [] := by cases b with
            | nil => cases h3
            | cons x l => exact fun z => nomatch z
          refine js_cons (j1_set 6 (by decide +kernel) rfl (by first | exact Or.inl rfl | exact Or.inr rfl) ?_)
          refine je_callTy B.tuple_ rfl rfl ?_
          refine ja_cons ?_
          refine je_lc1 9 (by decide +kernel) (by decide +kernel) rfl rfl ?_
          refine ji_tup ?_
          refine je_ix ?_
          refine je_call D__law_of (Nat.le_of_ble_eq_true rfl) rfl ?_
          refine ja_cons ?_
          refine je_var 0 rfl (by first | exact Or.inl rfl | exact Or.inr (Or.inl rfl) | exact Or.inr (Or.inr rfl)) rfl (by intro z; cases z) ?_
          refine ja_cons ?_
          refine je_var 3 rfl (by first | exact Or.inl rfl | exact Or.inr (Or.inl rfl) | exact Or.inr (Or.inr rfl)) rfl (by intro z; cases z) ?_
          refine ja_nil ?_
          refine ⟨_, b.map wishD, rfl, rfl, hbn, by rw [List.length_map, hb.1]; omega, fun x hx => ?_⟩
          obtain ⟨w, hw, rfl⟩ := List.mem_map.mp hx
          obtain ⟨w1, w2, w3⟩ := hb.2 w hw
          refine je_int ?_
          refine ⟨_, _, _, rfl, rfl, rfl, ?_⟩
          refine ⟨_, rfl, lcMap w.1 fr (fun x => fr (-x)) (by omega) (fun a ha => ?_) ?_⟩
          · refine je_tup ?_
            refine ja_cons ?_
            refine je_bin ?_
            refine je_int ?_
            refine je_ix ?_
            refine je_var 9 rfl (by first | exact Or.inl rfl | exact Or.inr (Or.inl rfl) | exact Or.inr (Or.inr rfl)) rfl (by intro z; cases z) ?_
            refine je_int ?_
            refine ⟨_, _, _, rfl, rfl, rfl, ?_⟩
            refine jo_sub ?_
            refine ja_cons ?_
            refine je_ix ?_
            refine je_var 9 rfl (by first | exact Or.inl rfl | exact Or.inr (Or.inl rfl) | exact Or.inr (Or.inr rfl)) rfl (by intro z; cases z) ?_
            refine je_int ?_
            refine ⟨_, _, _, rfl, rfl, rfl, ?_⟩
            refine ja_nil ?_
            refine ⟨_, rfl, Nat.le_of_ble_eq_true rfl, ?_⟩
            show _ = Sl.dat (.tuple [.int (-a).num, .int ((-a).den : Int)])
            rw [Rat.neg_num, Rat.neg_den, Int.zero_sub]
          · have eL : w.1.map (fun x => fr (-x)) = (negR w.1).map fr := by unfold negR; rw [List.map_map]; rfl
            rw [eL]
            refine ja_nil ?_
            refine jc_tuple rfl ?_
            refine js_nil ?_
            refine js_nil ?_
            refine js_forget [4, 5, 7] rfl (rest _ _ (by unfold negR; rw [List.length_map, w1]) (fun x hx => ?_) fun _ h => h)
            obtain ⟨j, hj, rfl⟩ := List.mem_map.mp hx
            exact (w2 j hj).neg
        · refine js_nil ?_
          refine js_nil ?_
          exact js_forget [4, 5, 7] rfl (rest _ qs hql (fun x hx => (hqs x hx).dz) fun _ h => h)
      · refine ⟨fun z => (nomatch z), fun _ => ?_⟩
        refine js_nil ?_
        refine js_nil ?_
        exact js_forget [4, 5, 7] rfl (rest _ qs hql (fun x hx => (hqs x hx).dz) fun _ h => h)
  · rw [List.length_range] at hb
    refine js_cons (j1_ret ?_)
    refine je_tup ?_
    refine ja_cons ?_
    refine je_var 1 rfl (by first | exact Or.inl rfl | exact Or.inr (Or.inl rfl) | exact Or.inr (Or.inr rfl)) rfl (by intro z; cases z) ?_
    refine ja_cons ?_
    refine je_callTy B.tuple_ rfl rfl ?_
    refine ja_cons ?_
    refine je_var 3 rfl (by first | exact Or.inl rfl | exact Or.inr (Or.inl rfl) | exact Or.inr (Or.inr rfl)) rfl (by intro z; cases z) ?_
    refine ja_nil ?_
    refine jc_tuple (xs := b.map wishD) rfl ?_
    refine ja_nil ?_
    refine ⟨_, rfl, Nat.le_of_ble_eq_true rfl, ?_⟩
    exact ⟨_, rfl, p b (by omega) hb.2⟩
abbrev C__law_inside : List Sl → (PyData → Prop) → Prop := fun ss P => ∃ k m : Nat, ss = [.well, .dat (int k), .dat (int m)] ∧ 1 ≤ k ∧ k ≤ 3 ∧ m ≤ 6 ∧ ∀ (pt : List Rat) (ws : List Wish), LotDz k ws → P (.tuple [rw_ pt, lotD k ws])
theorem D__law_inside (B : BC E) (A : At E "_law_inside" s__law_inside ["_law_well_here", "_law_size", "_law_most"]) (D__law_row : Def E 3 "_law_row" ["_law_well_here", "_law_size"] [] C__law_row) (D__law_lot : Def E 4 "_law_lot" ["_law_well_here", "_law_size", "_law_most"] [] C__law_lot) (D__law_dot : Def E 3 "_law_dot" ["_law_one", "_law_two"] [] C__law_dot) (D__law_up_to : Def E 1 "_law_up_to" ["_law_one", "_law_two"] [] C__law_up_to) (D__law_plus : Def E 2 "_law_plus" ["_law_one", "_law_two"] [] C__law_plus) (D__law_of : Def E 2 "_law_of" ["_law_well_here", "_law_some"] [] C__law_of) : Def E 5 "_law_inside" ["_law_well_here", "_law_size", "_law_most"] [] C__law_inside := by
  refine def_at A c__law_inside (fun ss P h => by obtain ⟨k, m, rfl, _⟩ := h; rfl) fun ss P h => ?_
  obtain ⟨k, m, rfl, hk0, hk1, hm, p⟩ := h
  refine js_own3 3 4 5 (by decide +kernel) rfl rfl rfl (by decide) (by decide) (by decide) rfl rfl rfl ?_
  refine je_call D__law_row (Nat.le_of_ble_eq_true rfl) rfl ?_
  refine ja_cons ?_
  refine je_var 0 rfl (by first | exact Or.inl rfl | exact Or.inr (Or.inl rfl) | exact Or.inr (Or.inr rfl)) rfl (by intro z; cases z) ?_
  refine ja_cons ?_
  refine je_var 1 rfl (by first | exact Or.inl rfl | exact Or.inr (Or.inl rfl) | exact Or.inr (Or.inr rfl)) rfl (by intro z; cases z) ?_
  refine ja_nil ?_
  refine ⟨k, rfl, by omega, fun pt hpl hpt => ?_⟩
  refine je_call D__law_lot (Nat.le_of_ble_eq_true rfl) rfl ?_
  refine ja_cons ?_
  refine je_var 0 rfl (by first | exact Or.inl rfl | exact Or.inr (Or.inl rfl) | exact Or.inr (Or.inr rfl)) rfl (by intro z; cases z) ?_
  refine ja_cons ?_
  refine je_var 1 rfl (by first | exact Or.inl rfl | exact Or.inr (Or.inl rfl) | exact Or.inr (Or.inr rfl)) rfl (by intro z; cases z) ?_
  refine ja_cons ?_
  refine je_var 2 rfl (by first | exact Or.inl rfl | exact Or.inr (Or.inl rfl) | exact Or.inr (Or.inr rfl)) rfl (by intro z; cases z) ?_
  refine ja_nil ?_
  refine ⟨k, m, rfl, hk0, hk1, hm, fun ws hwl hws => ?_⟩
  refine js_cons (j1_for ?_)
  refine ji_tup ?_
  refine je_ix ?_
  refine je_var 4 rfl (by first | exact Or.inl rfl | exact Or.inr (Or.inl rfl) | exact Or.inr (Or.inr rfl)) rfl (by intro z; cases z) ?_
  refine je_int ?_
  refine ⟨_, _, _, rfl, rfl, rfl, ?_⟩
  refine ⟨_, rfl, ?_⟩
  refine for_inv [6, 7, 8] ws wishD (fun (q : List Wish) => [.well, .dat (int k), .dat (int m), .dat (rw_ pt), .dat (lotD k ws), .own (q.map wishD), .no, .no, .no]) (fun i q => q.length = i ∧ ∀ p ∈ q, p.1.length = k ∧ (∀ x ∈ p.1, Dz 12 3 x) ∧ Dz 144 29 p.2) [] rfl rfl ⟨rfl, fun x hx => nomatch hx⟩ (fun i a b ha hb => ?_) (fun ρ' b hb e => js_forget [6, 7, 8] e ?_)
  · have hi := (List.getElem?_eq_some_iff.mp ha).1
    obtain ⟨a1, a2, a3⟩ := hws a (List.mem_of_getElem? ha)
    have s1 : Szs 7 a.1 := fun x hx => (a2 x hx).sz (by decide) (by decide) (by decide) (by decide)
    have s2 : Szs 7 pt := fun x hx => (hpt x hx).dz.sz (by decide) (by decide) (by decide) (by decide)
    have dw : Dz 144 27 (dotR a.1 pt) := (dz_dot (d := 12) (e := 12) (m := 3) (n := 3) (c := 3) a2 (fun y hy => (hpt y hy).dz) (by omega)).mono (by decide) (by decide)
    have rest : ∀ (D : Po) (q : Rat), Dz 144 29 q → (∀ ρ3, (∃ b', (b'.length = i + 1 ∧ ∀ p ∈ b', p.1.length = k ∧ (∀ x ∈ p.1, Dz 12 3 x) ∧ Dz 144 29 p.2) ∧ wip ρ3 [6, 7, 8] = [.well, .dat (int k), .dat (int m), .dat (rw_ pt), .dat (lotD k ws), .own ((b' : List Wish).map wishD), .no, .no, .no]) → D.nx ρ3) → JS E ⟨N__law_inside, defScope s__law_inside, true, 4, fun _ => True⟩ true [.well, .dat (int k), .dat (int m), .dat (rw_ pt), .dat (lotD k ws), .own (b.map wishD), .dat (rw_ a.1), .dat (fr q), .no] (match (defBody s__law_inside).drop 1 with | .For _ _ bd _ _ :: _ => bd.drop 2 | _ => []) D := fun D q hq hD => by
      refine js_cons (j1_app 5 rfl (by first | exact Or.inl rfl | exact Or.inr (Or.inl rfl) | exact Or.inr (Or.inr rfl)) rfl rfl ?_ ?_)
      · rw [List.length_map, hb.1]; omega
      refine je_tup ?_
      refine ja_cons ?_
      refine je_var 6 rfl (by first | exact Or.inl rfl | exact Or.inr (Or.inl rfl) | exact Or.inr (Or.inr rfl)) rfl (by intro z; cases z) ?_
      refine ja_cons ?_
      refine je_var 7 rfl (by first | exact Or.inl rfl | exact Or.inr (Or.inl rfl) | exact Or.inr (Or.inr rfl)) rfl (by intro z; cases z) ?_
      refine ja_nil ?_
      refine ⟨_, rfl, Nat.le_of_ble_eq_true rfl, ?_⟩
      refine ⟨_, rfl, ?_⟩
      refine js_nil ?_
      refine hD _ ⟨b ++ [(a.1, q)], ⟨by rw [List.length_append, hb.1]; rfl, fun x hx => ?_⟩, by rw [List.map_append]; rfl⟩
      rcases List.mem_append.mp hx with h | h
      · exact hb.2 x h
      · rw [List.mem_singleton.mp h]; exact ⟨a1, a2, hq⟩
    refine jg_tup ⟨_, rfl, rfl, ?_⟩
    refine jgs_cons ?_
    refine jg_name 6 (by decide +kernel) rfl (by first | exact Or.inl rfl | exact Or.inr rfl) ?_
    refine jgs_cons ?_
    refine jg_name 7 (by decide +kernel) rfl (by first | exact Or.inl rfl | exact Or.inr rfl) ?_
    refine jgs_nil ?_
    refine js_cons (j1_set 8 (by decide +kernel) rfl (by first | exact Or.inl rfl | exact Or.inr rfl) ?_)
    refine je_call D__law_dot (Nat.le_of_ble_eq_true rfl) rfl ?_
    refine ja_cons ?_
    refine je_var 6 rfl (by first | exact Or.inl rfl | exact Or.inr (Or.inl rfl) | exact Or.inr (Or.inr rfl)) rfl (by intro z; cases z) ?_
    refine ja_cons ?_
    refine je_var 3 rfl (by first | exact Or.inl rfl | exact Or.inr (Or.inl rfl) | exact Or.inr (Or.inr rfl)) rfl (by intro z; cases z) ?_
    refine ja_nil ?_
    refine ⟨a.1, pt, rfl, ⟨7, 7, by decide, s1, s2, by rw [a1]; omega⟩, ?_⟩
    refine js_cons (j1_if ?_)
    refine jt_not ?_
    refine jt_val ?_
    refine je_call D__law_up_to (Nat.le_of_ble_eq_true rfl) rfl ?_
    refine ja_cons ?_
    refine je_var 8 rfl (by first | exact Or.inl rfl | exact Or.inr (Or.inl rfl) | exact Or.inr (Or.inr rfl)) rfl (by intro z; cases z) ?_
    refine ja_cons ?_
    refine je_var 7 rfl (by first | exact Or.inl rfl | exact Or.inr (Or.inl rfl) | exact Or.inr (Or.inr rfl)) rfl (by intro z; cases z) ?_
    refine ja_nil ?_
    refine ⟨_, _, rfl, ⟨20, 20, dw.sz (by decide) (by decide) (by decide) (by decide), a3.sz (by decide) (by decide) (by decide) (by decide), by decide⟩, ?_⟩
    refine ⟨_, rfl, ?_⟩
    refine ⟨fun hk => ?_, fun hk => ?_⟩
    · refine js_cons (j1_set 7 (by decide +kernel) rfl (by first | exact Or.inl rfl | exact Or.inr rfl) ?_)
      refine je_call D__law_plus (Nat.le_of_ble_eq_true rfl) rfl ?_
      refine ja_cons ?_
      refine je_var 8 rfl (by first | exact Or.inl rfl | exact Or.inr (Or.inl rfl) | exact Or.inr (Or.inr rfl)) rfl (by intro z; cases z) ?_
      refine ja_cons ?_
      refine je_call D__law_of (Nat.le_of_ble_eq_true rfl) rfl ?_
      refine ja_cons ?_
      refine je_var 0 rfl (by first | exact Or.inl rfl | exact Or.inr (Or.inl rfl) | exact Or.inr (Or.inr rfl)) rfl (by intro z; cases z) ?_
      refine ja_cons ?_
      refine je_tup ?_
      refine ja_cons ?_
      refine je_tup ?_
      refine ja_cons ?_
      refine je_int ?_
      refine ja_cons ?_
      refine je_int ?_
      refine ja_nil ?_
      refine ⟨_, rfl, Nat.le_of_ble_eq_true rfl, ?_⟩
      refine ja_cons ?_
      refine je_tup ?_
      refine ja_cons ?_
      refine je_int ?_
      refine ja_cons ?_
      refine je_int ?_
      refine ja_nil ?_
      refine ⟨_, rfl, Nat.le_of_ble_eq_true rfl, ?_⟩
      refine ja_cons ?_
      refine je_tup ?_
      refine ja_cons ?_
      refine je_int ?_
      refine ja_cons ?_
      refine je_int ?_
      refine ja_nil ?_
      refine ⟨_, rfl, Nat.le_of_ble_eq_true rfl, ?_⟩
      refine ja_nil ?_
      refine ⟨_, rfl, Nat.le_of_ble_eq_true rfl, ?_⟩
      refine ja_nil ?_
      refine ⟨_, _, rfl, rfl, fun z => (nomatch z), Nat.le_of_ble_eq_true rfl, fun x hx => ?_⟩
      obtain ⟨q, hq, rfl⟩ : ∃ q : Rat, Dz 144 2 q ∧ x = fr q := by
        rcases List.mem_cons.mp hx with rfl | hx
        · exact ⟨0, Dz.zero _ _, rfl⟩
        rcases List.mem_cons.mp hx with rfl | hx
        · exact ⟨1 / 2, (show Dn 144 2 (1 / 2) by decide +kernel).dz, fr_half⟩
        rcases List.mem_cons.mp hx with rfl | hx
        · exact ⟨2, (show Dn 144 2 2 by decide +kernel).dz, rfl⟩
        · cases hx
      refine ja_nil ?_
      refine ⟨_, _, rfl, ⟨20, 20, dw.sz (by decide) (by decide) (by decide) (by decide), hq.sz (by decide) (by decide) (by decide) (by decide), by decide⟩, ?_⟩
      refine js_nil ?_
      exact js_forget [8] rfl (rest _ _ (dw.add hq) fun _ h => h)
    · refine js_nil ?_
      exact js_forget [8] rfl (rest _ _ (a3.mono (by decide) (by decide)) fun _ h => h)
  · refine js_cons (j1_ret ?_)
    refine je_tup ?_
    refine ja_cons ?_
    refine je_var 3 rfl (by first | exact Or.inl rfl | exact Or.inr (Or.inl rfl) | exact Or.inr (Or.inr rfl)) rfl (by intro z; cases z) ?_
    refine ja_cons ?_
    refine je_tup ?_
    refine ja_cons ?_
    refine je_var 1 rfl (by first | exact Or.inl rfl | exact Or.inr (Or.inl rfl) | exact Or.inr (Or.inr rfl)) rfl (by intro z; cases z) ?_
    refine ja_cons ?_
    refine je_callTy B.tuple_ rfl rfl ?_
    refine ja_cons ?_
    refine je_var 5 rfl (by first | exact Or.inl rfl | exact Or.inr (Or.inl rfl) | exact Or.inr (Or.inr rfl)) rfl (by intro z; cases z) ?_
    refine ja_nil ?_
    refine jc_tuple (xs := b.map wishD) rfl ?_
    refine ja_nil ?_
    refine ⟨_, rfl, Nat.le_of_ble_eq_true rfl, ?_⟩
    refine ja_nil ?_
    refine ⟨_, rfl, Nat.le_of_ble_eq_true rfl, ?_⟩
    exact ⟨_, rfl, p pt b ⟨hk0, hk1, by omega, hb.2⟩⟩
/-- what is asked -/
structure AskDz (k : Nat) (row : List Rat) (b : Rat) : Prop where
  len : row.length = k
  row : ∀ x ∈ row, Dz 24 36 x
  bnd : Dz 288 349 b
abbrev C__law_ask : List Sl → (PyData → Prop) → Prop := fun ss P => ∃ (k : Nat) (ws : List Wish), ss = [.well, .dat (lotD k ws)] ∧ LotDz k ws ∧ ∀ (row : List Rat) (b : Rat), AskDz k row b → P (.tuple [rw_ row, fr b])
theorem D__law_ask (B : BC E) (A : At E "_law_ask" s__law_ask ["_law_well_here", "_law_lot_here"]) (D__law_row : Def E 3 "_law_row" ["_law_well_here", "_law_size"] [] C__law_row) (D__law_number : Def E 2 "_law_number" ["_law_well_here"] [] C__law_number) (D__law_draw : Def E 1 "_law_draw" ["_law_well_here", "_law_many"] [] C__law_draw) (D__law_of : Def E 2 "_law_of" ["_law_well_here", "_law_some"] [] C__law_of) (D__law_mixed : Def E 3 "_law_mixed" ["_law_lot_here", "_law_weights"] [] C__law_mixed) (D__law_plus : Def E 2 "_law_plus" ["_law_one", "_law_two"] [] C__law_plus) : Def E 4 "_law_ask" ["_law_well_here", "_law_lot_here"] [] C__law_ask := by
  refine def_at A c__law_ask (fun ss P h => by obtain ⟨k, ws, rfl, _⟩ := h; rfl) fun ss P h => ?_
  obtain ⟨k, ws, rfl, hO, p⟩ := h
  have h1 := hO.len
  have h2 := hO.k1
  refine js_cons (j1_par 2 3 (by decide +kernel) rfl rfl (by decide) rfl rfl ?_)
  refine je_call D__law_row (Nat.le_of_ble_eq_true rfl) rfl ?_
  refine ja_cons ?_
  refine je_var 0 rfl (by first | exact Or.inl rfl | exact Or.inr (Or.inl rfl) | exact Or.inr (Or.inr rfl)) rfl (by intro z; cases z) ?_
  refine ja_cons ?_
  refine je_ix ?_
  refine je_var 1 rfl (by first | exact Or.inl rfl | exact Or.inr (Or.inl rfl) | exact Or.inr (Or.inr rfl)) rfl (by intro z; cases z) ?_
  refine je_int ?_
  refine ⟨_, _, _, rfl, rfl, rfl, ?_⟩
  refine ja_nil ?_
  refine ⟨k, rfl, by omega, fun qs hql hqs => ?_⟩
  refine je_call D__law_number (Nat.le_of_ble_eq_true rfl) rfl ?_
  refine ja_cons ?_
  refine je_var 0 rfl (by first | exact Or.inl rfl | exact Or.inr (Or.inl rfl) | exact Or.inr (Or.inr rfl)) rfl (by intro z; cases z) ?_
  refine ja_nil ?_
  refine ⟨(), rfl, fun q hq => ?_⟩
  have easy : P (.tuple [rw_ qs, fr q]) := p qs q ⟨hql, fun x hx => (hqs x hx).dz.mono (by decide) (by decide), hq.dz.mono (by decide) (by decide)⟩
  refine js_cons (j1_if ?_)
  refine jt_bool ?_
  refine jw_or ?_
  refine jt_cmp ?_
  refine je_ix ?_
  refine je_var 1 rfl (by first | exact Or.inl rfl | exact Or.inr (Or.inl rfl) | exact Or.inr (Or.inr rfl)) rfl (by intro z; cases z) ?_
  refine je_int ?_
  refine ⟨_, _, _, rfl, rfl, rfl, ?_⟩
  refine je_tup ?_
  refine ja_nil ?_
  refine ⟨_, rfl, Nat.le_of_ble_eq_true rfl, ?_⟩
  refine jo_eqD (e := .tuple []) rfl rfl (shWt _) rfl ?_
  rw [eqv_wt]
  refine ⟨_, rfl, ?_⟩
  refine ⟨fun hk => ?_, fun hk => ?_⟩
  · refine jw_or1 ?_
    refine jt_cmp ?_
    refine je_call D__law_draw (Nat.le_of_ble_eq_true rfl) rfl ?_
    refine ja_cons ?_
    refine je_var 0 rfl (by first | exact Or.inl rfl | exact Or.inr (Or.inl rfl) | exact Or.inr (Or.inr rfl)) rfl (by intro z; cases z) ?_
    refine ja_cons ?_
    refine je_int ?_
    refine ja_nil ?_
    refine ⟨3, rfl, by decide, by decide, fun d hd => ?_⟩
    refine je_int ?_
    refine jo_eqI ?_
    refine ⟨_, rfl, ?_⟩
    refine ⟨fun hk' => ?_, fun hk' => ?_⟩
    · refine js_cons (j1_ret ?_)
      refine je_tup ?_
      refine ja_cons ?_
      refine je_var 2 rfl (by first | exact Or.inl rfl | exact Or.inr (Or.inl rfl) | exact Or.inr (Or.inr rfl)) rfl (by intro z; cases z) ?_
      refine ja_cons ?_
      refine je_var 3 rfl (by first | exact Or.inl rfl | exact Or.inr (Or.inl rfl) | exact Or.inr (Or.inr rfl)) rfl (by intro z; cases z) ?_
      refine ja_nil ?_
      refine ⟨_, rfl, Nat.le_of_ble_eq_true rfl, ?_⟩
      exact ⟨_, rfl, easy⟩
    · refine js_nil ?_
      refine js_own 4 (by decide +kernel) rfl (by first | exact Or.inl rfl | exact Or.inr rfl) (fun X g => own_nil g) ?_
      refine js_cons (j1_for ?_)
      refine ji_tup ?_
      refine je_ix ?_
      refine je_var 1 rfl (by first | exact Or.inl rfl | exact Or.inr (Or.inl rfl) | exact Or.inr (Or.inr rfl)) rfl (by intro z; cases z) ?_
      refine je_int ?_
      refine ⟨_, _, _, rfl, rfl, rfl, ?_⟩
      refine ⟨_, rfl, ?_⟩
      refine for_inv [2, 3, 5] ws wishD (fun (w : List Rat) => [.well, .dat (lotD k ws), .no, .no, .own (w.map fr), .no]) (fun i w => w.length = i ∧ ∀ x ∈ w, Dz 2 2 x) [] rfl rfl ⟨rfl, fun x hx => nomatch hx⟩ (fun i a b ha hb => ?_) (fun ρ' w hw e => js_forget [2, 3, 5] e ?_)
      · have hi := (List.getElem?_eq_some_iff.mp ha).1
        refine jg_name 5 (by decide +kernel) rfl (by first | exact Or.inl rfl | exact Or.inr rfl) ?_
        refine js_cons (j1_app 4 rfl (by first | exact Or.inl rfl | exact Or.inr (Or.inl rfl) | exact Or.inr (Or.inr rfl)) rfl rfl ?_ ?_)
        · rw [List.length_map, hb.1]; omega
        refine je_call D__law_of (Nat.le_of_ble_eq_true rfl) rfl ?_
        refine ja_cons ?_
        refine je_var 0 rfl (by first | exact Or.inl rfl | exact Or.inr (Or.inl rfl) | exact Or.inr (Or.inr rfl)) rfl (by intro z; cases z) ?_
        refine ja_cons ?_
        refine je_tup ?_
        refine ja_cons ?_
        refine je_tup ?_
        refine ja_cons ?_
        refine je_int ?_
        refine ja_cons ?_
        refine je_int ?_
        refine ja_nil ?_
        refine ⟨_, rfl, Nat.le_of_ble_eq_true rfl, ?_⟩
        refine ja_cons ?_
        refine je_tup ?_
        refine ja_cons ?_
        refine je_int ?_
        refine ja_cons ?_
        refine je_int ?_
        refine ja_nil ?_
        refine ⟨_, rfl, Nat.le_of_ble_eq_true rfl, ?_⟩
        refine ja_cons ?_
        refine je_tup ?_
        refine ja_cons ?_
        refine je_int ?_
        refine ja_cons ?_
        refine je_int ?_
        refine ja_nil ?_
        refine ⟨_, rfl, Nat.le_of_ble_eq_true rfl, ?_⟩
        refine ja_cons ?_
        refine je_tup ?_
        refine ja_cons ?_
        refine je_int ?_
        refine ja_cons ?_
        refine je_int ?_
        refine ja_nil ?_
        refine ⟨_, rfl, Nat.le_of_ble_eq_true rfl, ?_⟩
        refine ja_cons ?_
        refine je_tup ?_
        refine ja_cons ?_
        refine je_int ?_
        refine ja_cons ?_
        refine je_int ?_
        refine ja_nil ?_
        refine ⟨_, rfl, Nat.le_of_ble_eq_true rfl, ?_⟩
        refine ja_nil ?_
        refine ⟨_, rfl, Nat.le_of_ble_eq_true rfl, ?_⟩
        refine ja_nil ?_
        refine ⟨_, _, rfl, rfl, fun z => (nomatch z), Nat.le_of_ble_eq_true rfl, fun x hx => ?_⟩
        obtain ⟨q, hq, rfl⟩ : ∃ q : Rat, Dz 2 2 q ∧ x = fr q := by
          rcases List.mem_cons.mp hx with rfl | hx
          · exact ⟨0, Dz.zero _ _, rfl⟩
          rcases List.mem_cons.mp hx with rfl | hx
          · exact ⟨1, (show Dn 2 2 1 by decide +kernel).dz, rfl⟩
          rcases List.mem_cons.mp hx with rfl | hx
          · exact ⟨0, Dz.zero _ _, rfl⟩
          rcases List.mem_cons.mp hx with rfl | hx
          · exact ⟨1 / 2, (show Dn 2 2 (1 / 2) by decide +kernel).dz, fr_half⟩
          rcases List.mem_cons.mp hx with rfl | hx
          · exact ⟨2, (show Dn 2 2 2 by decide +kernel).dz, rfl⟩
          · cases hx
        refine ⟨_, rfl, ?_⟩
        refine js_nil ?_
        refine ⟨b ++ [q], ⟨by rw [List.length_append, hb.1]; rfl, fun x hx => ?_⟩, by rw [List.map_append]; rfl⟩
        rcases List.mem_append.mp hx with h | h
        · exact hb.2 x h
        · rw [List.mem_singleton.mp h]; exact hq
      · have hlw : w.length ≤ 6 := by omega
        have hrows : ∀ r ∈ rowsOf ws, r.length = k ∧ ∀ x ∈ r, Dz 12 3 x := fun r hr => by
          obtain ⟨t, ht, rfl⟩ := List.mem_map.mp hr
          exact ⟨(hO.sz t ht).1, (hO.sz t ht).2.1⟩
        have dr : ∀ x ∈ mixR (rowsOf ws) w k, Dz 24 36 x := fun x hx => (dz_mix (d := 12) (e := 2) (m := 3) (n := 2) ((rowsOf ws).zip w) (nts k) 0 (fun t ht => ⟨(hrows _ (List.of_mem_zip ht).1).2, hw.2 _ (List.of_mem_zip ht).2⟩) (fun y hy => by rw [(List.mem_replicate.mp hy).2]; exact Dz.zero _ _) x hx).mono (by decide) (by
          have : ((rowsOf ws).zip w).length ≤ 6 := by rw [List.length_zip]; omega
          omega)
        have lr : (mixR (rowsOf ws) w k).length = k := mix_leng _ _ List.length_replicate fun t ht => (hrows _ (List.of_mem_zip ht).1).1
        have db : Dz 288 348 (dotR w (bndsOf ws)) := (dz_dot (d := 2) (e := 144) (m := 2) (n := 29) (c := 6) hw.2 (fun y hy => by
          obtain ⟨t, ht, rfl⟩ := List.mem_map.mp hy
          exact (hO.sz t ht).2.2) hlw).mono (by decide) (by decide)
        refine js_freeze ?_
        refine js_cons (j1_asg ?_)
        refine je_call D__law_mixed (Nat.le_of_ble_eq_true rfl) rfl ?_
        refine ja_cons ?_
        refine je_var 1 rfl (by first | exact Or.inl rfl | exact Or.inr (Or.inl rfl) | exact Or.inr (Or.inr rfl)) rfl (by intro z; cases z) ?_
        refine ja_cons ?_
        refine je_var 4 rfl (by first | exact Or.inl rfl | exact Or.inr (Or.inl rfl) | exact Or.inr (Or.inr rfl)) rfl (by intro z; cases z) ?_
        refine ja_nil ?_
        refine ⟨k, ws, w, _, rfl, .inr rfl, hO.ok, ⟨10, fun x hx => (hw.2 x hx).sz (by decide) (by decide) (by decide) (by decide), by decide⟩, ?_⟩
        refine ⟨_, rfl, ?_⟩
        refine jg_tup ⟨_, rfl, rfl, ?_⟩
        refine jgs_cons ?_
        refine jg_name 2 (by decide +kernel) rfl (by first | exact Or.inl rfl | exact Or.inr rfl) ?_
        refine jgs_cons ?_
        refine jg_name 3 (by decide +kernel) rfl (by first | exact Or.inl rfl | exact Or.inr rfl) ?_
        refine jgs_nil ?_
        refine js_cons (j1_ret ?_)
        refine je_tup ?_
        refine ja_cons ?_
        refine je_var 2 rfl (by first | exact Or.inl rfl | exact Or.inr (Or.inl rfl) | exact Or.inr (Or.inr rfl)) rfl (by intro z; cases z) ?_
        refine ja_cons ?_
        refine je_call D__law_plus (Nat.le_of_ble_eq_true rfl) rfl ?_
        refine ja_cons ?_
        refine je_var 3 rfl (by first | exact Or.inl rfl | exact Or.inr (Or.inl rfl) | exact Or.inr (Or.inr rfl)) rfl (by intro z; cases z) ?_
        refine ja_cons ?_
        refine je_call D__law_of (Nat.le_of_ble_eq_true rfl) rfl ?_
        refine ja_cons ?_
        refine je_var 0 rfl (by first | exact Or.inl rfl | exact Or.inr (Or.inl rfl) | exact Or.inr (Or.inr rfl)) rfl (by intro z; cases z) ?_
        refine ja_cons ?_
        refine je_tup ?_
        refine ja_cons ?_
        refine je_tup ?_
        refine ja_cons ?_
        refine je_int ?_
        refine ja_cons ?_
        refine je_int ?_
        refine ja_nil ?_
        refine ⟨_, rfl, Nat.le_of_ble_eq_true rfl, ?_⟩
        refine ja_cons ?_
        refine je_tup ?_
        refine ja_cons ?_
        refine je_int ?_
        refine ja_cons ?_
        refine je_int ?_
        refine ja_nil ?_
        refine ⟨_, rfl, Nat.le_of_ble_eq_true rfl, ?_⟩
        refine ja_cons ?_
        refine je_tup ?_
        refine ja_cons ?_
        refine je_neg ?_
        refine je_int ?_
        refine ⟨_, rfl, ?_⟩
        refine ja_cons ?_
        refine je_int ?_
        refine ja_nil ?_
        refine ⟨_, rfl, Nat.le_of_ble_eq_true rfl, ?_⟩
        refine ja_cons ?_
        refine je_tup ?_
        refine ja_cons ?_
        refine je_int ?_
        refine ja_cons ?_
        refine je_int ?_
        refine ja_nil ?_
        refine ⟨_, rfl, Nat.le_of_ble_eq_true rfl, ?_⟩
        refine ja_nil ?_
        refine ⟨_, rfl, Nat.le_of_ble_eq_true rfl, ?_⟩
        refine ja_nil ?_
        refine ⟨_, _, rfl, rfl, fun z => (nomatch z), Nat.le_of_ble_eq_true rfl, fun x hx => ?_⟩
        obtain ⟨q, hq, rfl⟩ : ∃ q : Rat, Dz 288 1 q ∧ x = fr q := by
          rcases List.mem_cons.mp hx with rfl | hx
          · exact ⟨0, Dz.zero _ _, rfl⟩
          rcases List.mem_cons.mp hx with rfl | hx
          · exact ⟨0, Dz.zero _ _, rfl⟩
          rcases List.mem_cons.mp hx with rfl | hx
          · exact ⟨-1 / 3, (show Dn 288 1 (-1 / 3) by decide +kernel).dz, fr_third⟩
          rcases List.mem_cons.mp hx with rfl | hx
          · exact ⟨1, (show Dn 288 1 1 by decide +kernel).dz, rfl⟩
          · cases hx
        refine ja_nil ?_
        refine ⟨_, _, rfl, ⟨20, 20, db.sz (by decide) (by decide) (by decide) (by decide), hq.sz (by decide) (by decide) (by decide) (by decide), by decide⟩, ?_⟩
        refine ja_nil ?_
        refine ⟨_, rfl, Nat.le_of_ble_eq_true rfl, ?_⟩
        exact ⟨_, rfl, p _ _ ⟨lr, dr, db.add hq⟩⟩
  · refine ⟨fun _ => ?_, fun z => nomatch z⟩
    refine js_cons (j1_ret ?_)
    refine je_tup ?_
    refine ja_cons ?_
    refine je_var 2 rfl (by first | exact Or.inl rfl | exact Or.inr (Or.inl rfl) | exact Or.inr (Or.inr rfl)) rfl (by intro z; cases z) ?_
    refine ja_cons ?_
    refine je_var 3 rfl (by first | exact Or.inl rfl | exact Or.inr (Or.inl rfl) | exact Or.inr (Or.inr rfl)) rfl (by intro z; cases z) ?_
    refine ja_nil ?_
    refine ⟨_, rfl, Nat.le_of_ble_eq_true rfl, ?_⟩
    exact ⟨_, rfl, easy⟩
end
end W6
end
section
set_option linter.all false
/-! Wishes of whole numbers; a name taken out. -/
namespace W6
/-- coefficients, the bound last; strict or not -/
abbrev IW := List Int × Int
/-- c . x -/
def dotI : List Int → (Nat → Rat) → Rat
  | [], _ => 0
  | c :: cs, x => (c : Rat) * x 0 + dotI cs fun i => x (i + 1)
def Hold (w : IW) (x : Nat → Rat) : Prop := if w.2 = 0 then dotI w.1 x ≤ 0 else dotI w.1 x < 0
def SatI (k : Nat) (ws : List IW) : Prop := ∃ x : Nat → Rat, x k = -1 ∧ ∀ w ∈ ws, Hold w x
def getI (c : List Int) (i : Nat) : Int := c.getD i 0
def updR (x : Nat → Rat) (i : Nat) (v : Rat) : Nat → Rat := fun j => if j = i then v else x j
theorem dotI_upd : ∀ (c : List Int) (x : Nat → Rat) (i : Nat) (v : Rat), dotI c (updR x i v) = dotI c x + (getI c i : Rat) * (v - x i)
  | [], x, i, v => by
    show (0 : Rat) = 0 + (((0 : Int)) : Rat) * _
    rw [Rat.intCast_zero]
    grind
  | c :: cs, x, 0, v => by
    show (c : Rat) * v + dotI cs (fun i => updR x 0 v (i + 1)) = (c : Rat) * x 0 + dotI cs (fun i => x (i + 1)) + (c : Rat) * (v - x 0)
    have : (fun i => updR x 0 v (i + 1)) = fun i => x (i + 1) := by
      funext i
      exact if_neg (by omega)
    rw [this]
    grind
  | c :: cs, x, i + 1, v => by
    have ih := dotI_upd cs (fun j => x (j + 1)) i v
    have e : (fun j => updR x (i + 1) v (j + 1)) = updR (fun j => x (j + 1)) i v := by
      funext j
      unfold updR
      by_cases h : j = i
      · rw [if_pos h, if_pos (by omega)]
      · rw [if_neg h, if_neg (by omega)]
    have e0 : updR x (i + 1) v 0 = x 0 := if_neg (by omega)
    have eg : getI (c :: cs) (i + 1) = getI cs i := rfl
    show (c : Rat) * updR x (i + 1) v 0 + dotI cs (fun j => updR x (i + 1) v (j + 1)) = (c : Rat) * x 0 + dotI cs (fun j => x (j + 1)) + _
    rw [e, ih, e0, eg]
    grind
theorem dotI_join (d u : Int) : ∀ (a b : List Int) (x : Nat → Rat), a.length = b.length → dotI (List.zipWith (fun h t => d * h + u * t) a b) x = d * dotI a x + u * dotI b x
  | [], [], x, _ => by show (0 : Rat) = d * 0 + u * 0; grind
  | [], _ :: _, _, h => by cases h
  | _ :: _, [], _, h => by cases h
  | p :: a, q :: b, x, h => by
    show ((d * p + u * q : Int) : Rat) * x 0 + dotI (List.zipWith (fun h t => d * h + u * t) a b) (fun i => x (i + 1)) = d * (p * x 0 + dotI a fun i => x (i + 1)) + u * (q * x 0 + dotI b fun i => x (i + 1))
    rw [dotI_join d u a b _ (Nat.succ.inj h), Rat.intCast_add, Rat.intCast_mul, Rat.intCast_mul]
    grind
theorem dotI_div {g : Int} : ∀ (c : List Int) (x : Nat → Rat), (∀ y ∈ c, g ∣ y) → dotI c x = g * dotI (c.map (· / g)) x
  | [], x, _ => by show (0 : Rat) = g * 0; grind
  | c :: cs, x, h => by
    show (c : Rat) * x 0 + dotI cs (fun i => x (i + 1)) = g * (((c / g : Int) : Rat) * x 0 + dotI (cs.map (· / g)) fun i => x (i + 1))
    rw [dotI_div cs _ fun y hy => h y (List.mem_cons_of_mem _ hy)]
    have e : (c : Rat) = (g : Rat) * ((c / g : Int) : Rat) := by
      rw [← Rat.intCast_mul, Int.mul_ediv_cancel' (h c List.mem_cons_self)]
    rw [e]
    grind
def gcdL (c : List Int) : Nat := c.foldl (fun g y => Nat.gcd g y.natAbs) 0
theorem gcdF_dvd : ∀ (c : List Int) (g : Nat), (c.foldl (fun g y => Nat.gcd g y.natAbs) g) ∣ g ∧ ∀ y ∈ c, ((c.foldl (fun g y => Nat.gcd g y.natAbs) g : Nat) : Int) ∣ y
  | [], g => ⟨Nat.dvd_refl _, fun y hy => nomatch hy⟩
  | a :: c, g => by
    obtain ⟨h1, h2⟩ := gcdF_dvd c (Nat.gcd g a.natAbs)
    refine ⟨Nat.dvd_trans h1 (Nat.gcd_dvd_left _ _), fun y hy => ?_⟩
    rcases List.mem_cons.mp hy with rfl | hy
    · exact Int.ofNat_dvd_left.mpr (Nat.dvd_trans h1 (Nat.gcd_dvd_right _ _))
    · exact h2 y hy
theorem gcdL_dvd {c : List Int} {y : Int} (h : y ∈ c) : (gcdL c : Int) ∣ y := (gcdF_dvd c 0).2 y h
theorem dvd_gcdF {e : Nat} : ∀ (c : List Int) (g : Nat), e ∣ g → (∀ y ∈ c, (e : Int) ∣ y) → e ∣ c.foldl (fun g y => Nat.gcd g y.natAbs) g
  | [], g, h, _ => h
  | a :: c, g, h, hc => dvd_gcdF c _ (Nat.dvd_gcd h (Int.ofNat_dvd_left.mp (hc a List.mem_cons_self))) fun y hy => hc y (List.mem_cons_of_mem _ hy)
theorem dvd_gcdL {e : Nat} {c : List Int} (h : ∀ y ∈ c, (e : Int) ∣ y) : e ∣ gcdL c := dvd_gcdF c 0 (Nat.dvd_zero _) h
def lowI (w : IW) : IW := if gcdL w.1 < 2 then w else (w.1.map (· / (gcdL w.1 : Int)), w.2)
theorem lowI_hold (w : IW) (x : Nat → Rat) : Hold (lowI w) x ↔ Hold w x := by
  unfold lowI
  split
  · exact Iff.rfl
  · rename_i h
    have hg : (0 : Rat) < ((gcdL w.1 : Int) : Rat) := by
      have : (0 : Int) < (gcdL w.1 : Int) := by omega
      exact Rat.intCast_pos.mpr this
    have e := dotI_div (g := (gcdL w.1 : Int)) w.1 x fun y hy => gcdL_dvd hy
    unfold Hold
    dsimp only
    rw [e]
    generalize dotI (w.1.map (· / (gcdL w.1 : Int))) x = d
    generalize ((gcdL w.1 : Int) : Rat) = g at hg
    split
    · constructor
      · intro h
        have := Rat.mul_le_mul_of_nonneg_left h (Rat.le_of_lt hg)
        rwa [Rat.mul_zero] at this
      · intro h
        rcases Rat.le_total (a := d) (b := 0) with hd | hd
        · exact hd
        · by_cases hz : d = 0
          · rw [hz]; exact Rat.le_refl
          · have := Rat.mul_pos hg (Rat.lt_iff_le_and_ne.mpr ⟨hd, fun z => hz z.symm⟩)
            grind
    · constructor
      · intro h
        have := Rat.mul_pos hg (show 0 < -d by grind)
        grind
      · intro h
        rcases Rat.le_total (a := 0) (b := d) with hd | hd
        · have := Rat.mul_nonneg (Rat.le_of_lt hg) hd
          grind
        · by_cases hz : d = 0
          · rw [hz] at h; grind
          · exact Rat.lt_iff_le_and_ne.mpr ⟨hd, hz⟩
theorem lowI_len (w : IW) : (lowI w).1.length = w.1.length := by
  unfold lowI
  split
  · rfl
  · rw [List.length_map]
theorem lowI_st (w : IW) : (lowI w).2 = w.2 := by unfold lowI; split <;> rfl
theorem lowI_get {w : IW} {i : Nat} (h : getI w.1 i = 0) : getI (lowI w).1 i = 0 := by
  unfold lowI
  split
  · exact h
  · unfold getI at *
    rw [List.getD_eq_getElem?_getD] at *
    rw [List.getElem?_map]
    cases e : w.1[i]? with
    | none => rfl
    | some y =>
      rw [e] at h
      have h : y = 0 := h
      show y / _ = 0
      rw [h, Int.zero_ediv]
theorem lowI_sz {w : IW} {n : Nat} (h : ∀ y ∈ w.1, y.natAbs < 2 ^ n) : ∀ y ∈ (lowI w).1, y.natAbs < 2 ^ n := by
  unfold lowI
  split
  · exact h
  · intro y hy
    obtain ⟨z, hz, rfl⟩ := List.mem_map.mp hy
    refine Nat.lt_of_le_of_lt ?_ (h z hz)
    rw [Int.natAbs_ediv_of_dvd (gcdL_dvd hz)]
    exact Nat.div_le_self _ _
/-- after lowering nothing is in common -/
theorem lowI_gcd (w : IW) {e : Nat} (h : ∀ y ∈ (lowI w).1, (e : Int) ∣ y) : e = 1 ∨ ∀ y ∈ (lowI w).1, y = 0 := by
  have key : gcdL w.1 = 0 ∨ (∀ y ∈ (lowI w).1, (e : Int) ∣ y) → gcdL w.1 ≠ 0 → (e * max 1 (gcdL w.1)) ∣ gcdL w.1 := fun _ hg => by
    refine dvd_gcdL fun y hy => ?_
    unfold lowI at h
    split at h
    · rename_i h2
      rw [show max 1 (gcdL w.1) = 1 by omega, Nat.mul_one]
      exact h y hy
    · rename_i h2
      rw [show max 1 (gcdL w.1) = gcdL w.1 by omega]
      have h3 := h (y / (gcdL w.1 : Int)) (List.mem_map.mpr ⟨y, hy, rfl⟩)
      obtain ⟨c, hc⟩ := h3
      refine ⟨c, ?_⟩
      have := Int.mul_ediv_cancel' (gcdL_dvd hy)
      rw [Int.natCast_mul, ← this, hc]
      grind
  by_cases hg : gcdL w.1 = 0
  · right
    intro y hy
    have e0 : lowI w = w := by unfold lowI; rw [if_pos (by omega)]
    rw [e0] at hy
    have := gcdL_dvd hy
    rw [hg] at this
    exact Int.zero_dvd.mp this
  · left
    obtain ⟨c, hc⟩ := key (.inr h) hg
    by_cases h2 : gcdL w.1 < 2
    · have h1 : gcdL w.1 = 1 := by omega
      rw [h1] at hc
      have : e * max 1 1 * c = 1 := hc.symm
      rw [show max 1 1 = 1 from rfl, Nat.mul_one] at this
      exact Nat.eq_one_of_mul_eq_one_right this
    · rw [show max 1 (gcdL w.1) = gcdL w.1 by omega] at hc
      have h3 : gcdL w.1 * (e * c) = gcdL w.1 * 1 := by rw [Nat.mul_one, ← Nat.mul_assoc, Nat.mul_comm (gcdL w.1) e]; exact hc.symm
      exact Nat.eq_one_of_mul_eq_one_right (Nat.eq_of_mul_eq_mul_left (by omega) h3)
/-- taken out -/
def joinI (a b : IW) (i : Nat) : IW := (List.zipWith (fun h t => (0 - getI b.1 i) * h + getI a.1 i * t) a.1 b.1, max a.2 b.2)
end W6
end
section
set_option linter.all false
/-! A name taken out: nothing is lost. -/
namespace W6
theorem has_max {α : Type} (f : α → Rat) : ∀ l : List α, l ≠ [] → ∃ m ∈ l, ∀ x ∈ l, f x ≤ f m
  | [], h => absurd rfl h
  | [a], _ => ⟨a, List.mem_cons_self, fun x hx => by rw [List.mem_singleton.mp hx]; exact Rat.le_refl⟩
  | a :: b :: l, _ => by
    obtain ⟨m, hm, h⟩ := has_max f (b :: l) (fun z => nomatch z)
    rcases Rat.le_total (a := f a) (b := f m) with h1 | h1
    · refine ⟨m, List.mem_cons_of_mem _ hm, fun x hx => ?_⟩
      rcases List.mem_cons.mp hx with rfl | hx
      · exact h1
      · exact h x hx
    · refine ⟨a, List.mem_cons_self, fun x hx => ?_⟩
      rcases List.mem_cons.mp hx with rfl | hx
      · exact Rat.le_refl
      · exact Rat.le_trans (h x hx) h1
/-- a place between lower and upper bounds; the flag: strict -/
theorem between (Ls Us : List (Rat × Bool)) (h : ∀ l ∈ Ls, ∀ u ∈ Us, l.1 ≤ u.1 ∧ ((l.2 = true ∨ u.2 = true) → l.1 < u.1)) : ∃ v : Rat, (∀ l ∈ Ls, l.1 ≤ v ∧ (l.2 = true → l.1 < v)) ∧ ∀ u ∈ Us, v ≤ u.1 ∧ (u.2 = true → v < u.1) := by
  by_cases hL : Ls = []
  · subst hL
    by_cases hU : Us = []
    · subst hU
      exact ⟨0, fun l hl => (nomatch hl), fun l hl => (nomatch hl)⟩
    · obtain ⟨u, hu, hm⟩ := has_max (fun p : Rat × Bool => -p.1) Us hU
      refine ⟨u.1 - 1, fun l hl => (nomatch hl), fun w hw => ?_⟩
      have := hm w hw
      constructor
      · grind
      · intro _; grind
  · obtain ⟨l, hl, hm⟩ := has_max (fun p : Rat × Bool => p.1) Ls hL
    by_cases hU : Us = []
    · subst hU
      refine ⟨l.1 + 1, fun w hw => ?_, fun w hw => (nomatch hw)⟩
      have := hm w hw
      constructor
      · grind
      · intro _; grind
    · obtain ⟨u, hu, hn⟩ := has_max (fun p : Rat × Bool => -p.1) Us hU
      obtain ⟨h1, h2⟩ := h l hl u hu
      by_cases e : l.1 = u.1
      · refine ⟨l.1, fun w hw => ⟨hm w hw, fun hs => ?_⟩, fun w hw => ⟨?_, fun hs => ?_⟩⟩
        · have := (h w hw u hu).2 (.inl hs)
          grind
        · have := hn w hw
          grind
        · have := (h l hl w hw).2 (.inr hs)
          have := hn w hw
          grind
      · refine ⟨(l.1 + u.1) / 2, fun w hw => ?_, fun w hw => ?_⟩
        · have := hm w hw
          constructor
          · grind
          · intro _; grind
        · have := hn w hw
          constructor
          · grind
          · intro _; grind
def roundI (left : List IW) (i : Nat) : List IW :=
  (left.filter fun w => decide (getI w.1 i = 0)) ++ ((left.filter fun w => decide (0 < getI w.1 i)).flatMap fun a => (left.filter fun w => decide (getI w.1 i < 0)).map fun b => lowI (joinI a b i))
theorem mem_round {left : List IW} {i : Nat} {w : IW} : w ∈ roundI left i ↔ (w ∈ left ∧ getI w.1 i = 0) ∨ ∃ a b, a ∈ left ∧ 0 < getI a.1 i ∧ b ∈ left ∧ getI b.1 i < 0 ∧ w = lowI (joinI a b i) := by
  unfold roundI
  rw [List.mem_append, List.mem_filter, List.mem_flatMap]
  constructor
  · rintro (⟨h1, h2⟩ | ⟨a, ha, h⟩)
    · exact .inl ⟨h1, of_decide_eq_true h2⟩
    · obtain ⟨b, hb, rfl⟩ := List.mem_map.mp h
      obtain ⟨a1, a2⟩ := List.mem_filter.mp ha
      obtain ⟨b1, b2⟩ := List.mem_filter.mp hb
      exact .inr ⟨a, b, a1, of_decide_eq_true a2, b1, of_decide_eq_true b2, rfl⟩
  · rintro (⟨h1, h2⟩ | ⟨a, b, a1, a2, b1, b2, rfl⟩)
    · exact .inl ⟨h1, decide_eq_true h2⟩
    · exact .inr ⟨a, List.mem_filter.mpr ⟨a1, decide_eq_true a2⟩, List.mem_map.mpr ⟨b, List.mem_filter.mpr ⟨b1, decide_eq_true b2⟩, rfl⟩⟩
theorem hold_iff (w : IW) (x : Nat → Rat) : Hold w x ↔ dotI w.1 x ≤ 0 ∧ (w.2 ≠ 0 → dotI w.1 x < 0) := by
  unfold Hold
  split
  · rename_i h
    exact ⟨fun g => ⟨g, fun z => absurd h z⟩, fun g => g.1⟩
  · rename_i h
    exact ⟨fun g => ⟨Rat.le_of_lt g, fun _ => g⟩, fun g => g.2 h⟩
theorem neg_mul_le {a b : Rat} (ha : 0 < a) (hb : b ≤ 0) : a * b ≤ 0 := by
  have := Rat.mul_nonneg (Rat.le_of_lt ha) (show 0 ≤ -b by grind)
  grind
theorem neg_mul_lt {a b : Rat} (ha : 0 < a) (hb : b < 0) : a * b < 0 := by
  have := Rat.mul_pos ha (show 0 < -b by grind)
  grind
theorem join_dot {a b : IW} {i : Nat} {x : Nat → Rat} (hl : a.1.length = b.1.length) : dotI (joinI a b i).1 x = (0 - (getI b.1 i : Rat)) * dotI a.1 x + (getI a.1 i : Rat) * dotI b.1 x := by
  unfold joinI
  dsimp only
  rw [dotI_join _ _ _ _ _ hl, Rat.intCast_sub, Rat.intCast_zero]
theorem max_ne {p q : Int} (hp : p = 0 ∨ p = 1) (hq : q = 0 ∨ q = 1) : max p q ≠ 0 ↔ p ≠ 0 ∨ q ≠ 0 := by omega
theorem round_sat {k i : Nat} {left : List IW} (hk : ∀ w ∈ left, w.1.length = k + 1 ∧ (w.2 = 0 ∨ w.2 = 1)) (hi : i < k) : SatI k (roundI left i) ↔ SatI k left := by
  constructor
  · rintro ⟨x, hx, h⟩
    have hz : ∀ w : IW, dotI w.1 (updR x i 0) = dotI w.1 x - (getI w.1 i : Rat) * x i := fun w => by rw [dotI_upd]; grind
    have hv : ∀ (w : IW) v, dotI w.1 (updR x i v) = dotI w.1 (updR x i 0) + (getI w.1 i : Rat) * v := fun w v => by rw [dotI_upd, dotI_upd]; grind
    obtain ⟨v, hL, hU⟩ := between ((left.filter fun w => decide (getI w.1 i < 0)).map fun b : IW => (dotI b.1 (updR x i 0) / (0 - (getI b.1 i : Rat)), decide (b.2 ≠ 0))) ((left.filter fun w => decide (0 < getI w.1 i)).map fun a : IW => ((0 - dotI a.1 (updR x i 0)) / (getI a.1 i : Rat), decide (a.2 ≠ 0))) fun l hl u hu => by
      obtain ⟨b, hb, rfl⟩ := List.mem_map.mp hl
      obtain ⟨a, ha, rfl⟩ := List.mem_map.mp hu
      obtain ⟨a1, a2⟩ := List.mem_filter.mp ha
      obtain ⟨b1, b2⟩ := List.mem_filter.mp hb
      have a2 := of_decide_eq_true a2
      have b2 := of_decide_eq_true b2
      have hj := h _ (mem_round.mpr (.inr ⟨a, b, a1, a2, b1, b2, rfl⟩))
      rw [lowI_hold, hold_iff, join_dot ((hk a a1).1.trans (hk b b1).1.symm)] at hj
      have hst : (joinI a b i).2 ≠ 0 ↔ a.2 ≠ 0 ∨ b.2 ≠ 0 := max_ne (hk a a1).2 (hk b b1).2
      rw [hst] at hj
      have za := hz a
      have zb := hz b
      have pa : (0 : Rat) < (getI a.1 i : Rat) := Rat.intCast_pos.mpr a2
      have pb : (0 : Rat) < 0 - (getI b.1 i : Rat) := by
        have : (0 : Rat) < ((0 - getI b.1 i : Int) : Rat) := Rat.intCast_pos.mpr (by omega)
        rwa [Rat.intCast_sub, Rat.intCast_zero] at this
      have e : (0 - (getI b.1 i : Rat)) * dotI a.1 x + (getI a.1 i : Rat) * dotI b.1 x = (0 - (getI b.1 i : Rat)) * dotI a.1 (updR x i 0) + (getI a.1 i : Rat) * dotI b.1 (updR x i 0) := by
        rw [za, zb]; grind
      rw [e] at hj
      dsimp only
      generalize dotI a.1 (updR x i 0) = A at hj
      generalize dotI b.1 (updR x i 0) = B at hj
      generalize (getI a.1 i : Rat) = p at hj pa
      generalize 0 - (getI b.1 i : Rat) = q at hj pb
      have e2 : (0 - A) / p - B / q = 0 - (q * A + p * B) / (p * q) := by
        have hp : p ≠ 0 := fun z => by rw [z] at pa; exact absurd pa (by decide)
        have hq : q ≠ 0 := fun z => by rw [z] at pb; exact absurd pb (by decide)
        grind
      have pq := Rat.mul_pos pa pb
      constructor
      · have : (q * A + p * B) / (p * q) ≤ 0 := by
          have := Rat.mul_nonneg (show 0 ≤ -(q * A + p * B) by have := hj.1; grind) (Rat.le_of_lt (Rat.inv_pos.mpr pq))
          rw [Rat.div_def]
          grind
        grind
      · intro hs
        have h1 := hj.2 (by
          rcases hs with hs | hs
          · exact .inr (of_decide_eq_true hs)
          · exact .inl (of_decide_eq_true hs))
        have : (q * A + p * B) / (p * q) < 0 := by
          have := Rat.mul_pos (show 0 < -(q * A + p * B) by grind) (Rat.inv_pos.mpr pq)
          rw [Rat.div_def]
          grind
        grind
    refine ⟨updR x i v, by rw [← hx]; exact if_neg (by omega), fun w hw => ?_⟩
    rw [hold_iff, hv]
    rcases Int.lt_trichotomy (getI w.1 i) 0 with h0 | h0 | h0
    · have hl := hL _ (List.mem_map.mpr ⟨w, List.mem_filter.mpr ⟨hw, decide_eq_true h0⟩, rfl⟩)
      have pb : (0 : Rat) < 0 - (getI w.1 i : Rat) := by
        have : (0 : Rat) < ((0 - getI w.1 i : Int) : Rat) := Rat.intCast_pos.mpr (by omega)
        rwa [Rat.intCast_sub, Rat.intCast_zero] at this
      dsimp only at hl
      generalize dotI w.1 (updR x i 0) = B at hl
      have e : B + (getI w.1 i : Rat) * v = (0 - (getI w.1 i : Rat)) * (B / (0 - (getI w.1 i : Rat)) - v) := by
        have hq : (0 - (getI w.1 i : Rat)) ≠ 0 := fun z => by rw [z] at pb; exact absurd pb (by decide)
        grind
      rw [e]
      exact ⟨neg_mul_le pb (by have := hl.1; grind), fun hs => neg_mul_lt pb (by have := hl.2 (decide_eq_true hs); grind)⟩
    · have hx2 := h w (mem_round.mpr (.inl ⟨hw, h0⟩))
      have hzw := hz w
      rw [hold_iff] at hx2
      rw [hzw, h0, Rat.intCast_zero]
      have e : dotI w.1 x - 0 * x i + 0 * v = dotI w.1 x := by grind
      rw [e]
      exact hx2
    · have hl := hU _ (List.mem_map.mpr ⟨w, List.mem_filter.mpr ⟨hw, decide_eq_true h0⟩, rfl⟩)
      have pa : (0 : Rat) < (getI w.1 i : Rat) := Rat.intCast_pos.mpr h0
      dsimp only at hl
      generalize dotI w.1 (updR x i 0) = A at hl
      generalize (getI w.1 i : Rat) = p at hl pa
      have e : A + p * v = p * (v - (0 - A) / p) := by
        have hq : p ≠ 0 := fun z => by rw [z] at pa; exact absurd pa (by decide)
        grind
      rw [e]
      exact ⟨neg_mul_le pa (by have := hl.1; grind), fun hs => neg_mul_lt pa (by have := hl.2 (decide_eq_true hs); grind)⟩
  · rintro ⟨x, hx, h⟩
    refine ⟨x, hx, fun w hw => ?_⟩
    rcases mem_round.mp hw with ⟨h1, _⟩ | ⟨a, b, a1, a2, b1, b2, rfl⟩
    · exact h w h1
    · rw [lowI_hold, hold_iff, join_dot ((hk a a1).1.trans (hk b b1).1.symm)]
      have hst : (joinI a b i).2 ≠ 0 ↔ a.2 ≠ 0 ∨ b.2 ≠ 0 := max_ne (hk a a1).2 (hk b b1).2
      rw [hst]
      have ha := (hold_iff a x).mp (h a a1)
      have hb := (hold_iff b x).mp (h b b1)
      have pa : (0 : Rat) < (getI a.1 i : Rat) := Rat.intCast_pos.mpr a2
      have pb : (0 : Rat) < 0 - (getI b.1 i : Rat) := by
        have : (0 : Rat) < ((0 - getI b.1 i : Int) : Rat) := Rat.intCast_pos.mpr (by omega)
        rwa [Rat.intCast_sub, Rat.intCast_zero] at this
      have q1 := neg_mul_le pb ha.1
      have q2 := neg_mul_le pa hb.1
      refine ⟨by grind, fun hs => ?_⟩
      rcases hs with hs | hs
      · have := neg_mul_lt pb (ha.2 hs)
        grind
      · have := neg_mul_lt pa (hb.2 hs)
        grind
end W6
end
section
set_option linter.all false
/-! What the rounds keep; the end. -/
namespace W6
def Lowered (c : List Int) : Prop := ∀ e : Nat, (∀ y ∈ c, (e : Int) ∣ y) → e = 1 ∨ ∀ y ∈ c, y = 0
structure Lw (k i n : Nat) (w : IW) : Prop where
  len : w.1.length = k + 1
  st : w.2 = 0 ∨ w.2 = 1
  sz : ∀ y ∈ w.1, y.natAbs < 2 ^ n
  z : ∀ j, j < i → getI w.1 j = 0
  low : Lowered w.1
def Lv (k i n : Nat) (ws : List IW) : Prop := ∀ w ∈ ws, Lw k i n w
theorem getI_mem {c : List Int} {i : Nat} (h : i < c.length) : getI c i ∈ c := by
  unfold getI
  rw [List.getD_eq_getElem?_getD, List.getElem?_eq_getElem h]
  exact List.getElem_mem h
theorem getI_zip {f : Int → Int → Int} {a b : List Int} {i : Nat} (hf : f 0 0 = 0) (h : a.length = b.length) : getI (List.zipWith f a b) i = f (getI a i) (getI b i) := by
  unfold getI
  rw [List.getD_eq_getElem?_getD, List.getD_eq_getElem?_getD, List.getD_eq_getElem?_getD, List.getElem?_zipWith]
  by_cases hi : i < a.length
  · rw [List.getElem?_eq_getElem hi, List.getElem?_eq_getElem (h ▸ hi)]
    rfl
  · rw [List.getElem?_eq_none (by omega), List.getElem?_eq_none (by omega)]
    exact hf.symm
theorem join_sz {n : Nat} {p q a b : Int} (hp : p.natAbs < 2 ^ n) (hq : q.natAbs < 2 ^ n) (ha : a.natAbs < 2 ^ n) (hb : b.natAbs < 2 ^ n) : ((0 - q) * a + p * b).natAbs < 2 ^ (2 * n + 1) := by
  have h1 : ((0 - q) * a).natAbs < 2 ^ (n + n) := by rw [Int.natAbs_mul, Int.zero_sub, Int.natAbs_neg]; exact mul_lt hq ha
  have h2 : (p * b).natAbs < 2 ^ (n + n) := by rw [Int.natAbs_mul]; exact mul_lt hp hb
  have h3 := Int.natAbs_add_le ((0 - q) * a) (p * b)
  have h4 : 2 ^ (2 * n + 1) = 2 ^ (n + n) + 2 ^ (n + n) := by rw [show 2 * n + 1 = (n + n) + 1 by omega, Nat.pow_succ]; omega
  omega
theorem join_len {a b : IW} {i : Nat} (h : a.1.length = b.1.length) : (joinI a b i).1.length = a.1.length := by
  unfold joinI
  rw [List.length_zipWith, h, Nat.min_self]
theorem join_szs {n i : Nat} {a b : IW} (ha : ∀ y ∈ a.1, y.natAbs < 2 ^ n) (hb : ∀ y ∈ b.1, y.natAbs < 2 ^ n) (hi : i < a.1.length) (hl : a.1.length = b.1.length) : ∀ y ∈ (joinI a b i).1, y.natAbs < 2 ^ (2 * n + 1) := fun y hy => by
  obtain ⟨j, hj⟩ := List.mem_iff_getElem?.mp hy
  unfold joinI at hj
  dsimp only at hj
  rw [List.getElem?_zipWith] at hj
  split at hj
  · cases hj
    rename_i u v eu ev
    exact join_sz (ha _ (getI_mem hi)) (hb _ (getI_mem (hl ▸ hi))) (ha u (List.mem_of_getElem? eu)) (hb v (List.mem_of_getElem? ev))
  · cases hj
theorem round_lv {k i n : Nat} {ws : List IW} (h : Lv k i n ws) (hi : i < k) : Lv k (i + 1) (2 * n + 1) (roundI ws i) := fun w hw => by
  rcases mem_round.mp hw with ⟨h1, h2⟩ | ⟨a, b, a1, a2, b1, b2, rfl⟩
  · have q := h w h1
    refine ⟨q.len, q.st, fun y hy => Nat.lt_of_lt_of_le (q.sz y hy) (pow_le (by omega)), fun j hj => ?_, q.low⟩
    by_cases e : j = i
    · rw [e]; exact h2
    · exact q.z j (by omega)
  · have qa := h a a1
    have qb := h b b1
    have hl : a.1.length = b.1.length := qa.len.trans qb.len.symm
    refine ⟨by rw [lowI_len, join_len hl, qa.len], ?_, lowI_sz (join_szs qa.sz qb.sz (by rw [qa.len]; omega) hl), fun j hj => lowI_get ?_, fun e he => lowI_gcd _ he⟩
    · rw [lowI_st]
      show max a.2 b.2 = 0 ∨ max a.2 b.2 = 1
      have := qa.st
      have := qb.st
      omega
    · show getI (List.zipWith _ _ _) j = 0
      rw [getI_zip (by rw [Int.mul_zero, Int.mul_zero]; rfl) hl]
      by_cases e : j = i
      · rw [e]
        rw [Int.zero_sub, Int.neg_mul, Int.mul_comm (getI b.1 i)]
        omega
      · rw [qa.z j (by omega), qb.z j (by omega), Int.mul_zero, Int.mul_zero]
        rfl
theorem low_lv {k n : Nat} {w : IW} (h1 : w.1.length = k + 1) (h2 : w.2 = 0 ∨ w.2 = 1) (h3 : ∀ y ∈ w.1, y.natAbs < 2 ^ n) : Lw k 0 n (lowI w) :=
  ⟨by rw [lowI_len, h1], by rw [lowI_st]; exact h2, lowI_sz h3, fun j hj => absurd hj (Nat.not_lt_zero j), fun e he => lowI_gcd _ he⟩
theorem lv_same {k i n : Nat} {ws vs : List IW} (h : Lv k i n ws) (e : ∀ y, y ∈ vs ↔ y ∈ ws) : Lv k i n vs := fun w hw => h w ((e w).mp hw)
theorem sat_same {k : Nat} {ws vs : List IW} (e : ∀ y, y ∈ vs ↔ y ∈ ws) : SatI k vs ↔ SatI k ws :=
  ⟨fun ⟨x, h1, h2⟩ => ⟨x, h1, fun w hw => h2 w ((e w).mpr hw)⟩, fun ⟨x, h1, h2⟩ => ⟨x, h1, fun w hw => h2 w ((e w).mp hw)⟩⟩
theorem sat_low {k : Nat} {ws : List IW} : SatI k (ws.map lowI) ↔ SatI k ws :=
  ⟨fun ⟨x, h1, h2⟩ => ⟨x, h1, fun w hw => (lowI_hold w x).mp (h2 _ (List.mem_map_of_mem hw))⟩, fun ⟨x, h1, h2⟩ => ⟨x, h1, fun w hw => by
    obtain ⟨v, hv, rfl⟩ := List.mem_map.mp hw
    exact (lowI_hold v x).mpr (h2 v hv)⟩⟩
theorem shape_end : ∀ (k : Nat) (c : List Int), c.length = k + 1 → (∀ j, j < k → getI c j = 0) → c = List.replicate k 0 ++ [getI c k]
  | 0, [a], _, _ => rfl
  | 0, a :: b :: c, h, _ => by simp at h
  | k + 1, [], h, _ => by simp at h
  | k + 1, a :: c, h, hz => by
    have e : a = 0 := hz 0 (by omega)
    have := shape_end k c (Nat.succ.inj h) fun j hj => hz (j + 1) (by omega)
    rw [List.replicate_succ, List.cons_append, e]
    show (0 : Int) :: c = 0 :: (List.replicate k 0 ++ [getI c k])
    rw [← this]
theorem dotI_end : ∀ (k : Nat) (b : Int) (x : Nat → Rat), dotI (List.replicate k 0 ++ [b]) x = b * x k
  | 0, b, x => by show (b : Rat) * x 0 + 0 = _; grind
  | k + 1, b, x => by
    rw [List.replicate_succ, List.cons_append]
    show (((0 : Int)) : Rat) * x 0 + dotI (List.replicate k 0 ++ [b]) (fun i => x (i + 1)) = _
    rw [dotI_end k b, Rat.intCast_zero]
    grind
theorem final_sat {k n : Nat} {ws : List IW} (h : Lv k k n ws) : SatI k ws ↔ ∀ w ∈ ws, ¬ getI w.1 k < w.2 := by
  have key : ∀ w ∈ ws, ∀ x : Nat → Rat, x k = -1 → (Hold w x ↔ ¬ getI w.1 k < w.2) := fun w hw x hx => by
    have q := h w hw
    rw [hold_iff, shape_end k w.1 q.len q.z, dotI_end, hx]
    have e : getI (List.replicate k 0 ++ [getI w.1 k]) k = getI w.1 k := by rw [← shape_end k w.1 q.len q.z]
    rw [e]
    generalize getI w.1 k = b
    have h1 : (b : Rat) * -1 ≤ 0 ↔ 0 ≤ b := by
      rw [show (b : Rat) * -1 = -(b : Rat) by grind]
      constructor
      · intro z
        have : (0 : Rat) ≤ (b : Rat) := by grind
        exact Rat.intCast_nonneg.mp this
      · intro z
        have := Rat.intCast_nonneg.mpr z
        grind
    have h2 : (b : Rat) * -1 < 0 ↔ 0 < b := by
      rw [show (b : Rat) * -1 = -(b : Rat) by grind]
      constructor
      · intro z
        have : (0 : Rat) < (b : Rat) := by grind
        exact Rat.intCast_pos.mp this
      · intro z
        have := Rat.intCast_pos.mpr z
        grind
    rw [h1, h2]
    have := q.st
    omega
  constructor
  · rintro ⟨x, hx, hs⟩ w hw
    exact (key w hw x hx).mp (hs w hw)
  · intro hs
    refine ⟨fun _ => -1, rfl, fun w hw => (key w hw _ rfl).mpr (hs w hw)⟩
def six (k : Nat) : List (List Int) := [-1, 0, 1].flatMap fun b => [List.replicate k 0 ++ [b] ++ [0], List.replicate k 0 ++ [b] ++ [1]]
theorem six_len (k : Nat) : (six k).length = 6 := rfl
theorem final_few {k n : Nat} {ws : List IW} (h : Lv k k n ws) : ∀ w ∈ ws, w.1 ++ [w.2] ∈ six k := fun w hw => by
  have q := h w hw
  have e := shape_end k w.1 q.len q.z
  generalize hb : getI w.1 k = b at e
  have hb3 : b = -1 ∨ b = 0 ∨ b = 1 := by
    have := q.low b.natAbs fun y hy => by
      rw [e] at hy
      rcases List.mem_append.mp hy with hy | hy
      · rw [(List.mem_replicate.mp hy).2]; exact Int.dvd_zero _
      · rw [List.mem_singleton.mp hy]; exact Int.natAbs_dvd_self
    rcases this with h1 | h1
    · omega
    · have := h1 b (by rw [e]; exact List.mem_append_right _ List.mem_cons_self)
      omega
  rw [e]
  unfold six
  refine List.mem_flatMap.mpr ⟨b, ?_, ?_⟩
  · rcases hb3 with h | h | h <;> rw [h] <;> decide
  · rcases q.st with h | h <;> rw [h]
    · exact List.mem_cons_self
    · exact List.mem_cons_of_mem _ List.mem_cons_self
theorem three_len {ws : List IW} {i : Nat} : (ws.filter fun w => decide (getI w.1 i = 0)).length + (ws.filter fun w => decide (0 < getI w.1 i)).length + (ws.filter fun w => decide (getI w.1 i < 0)).length = ws.length := by
  induction ws with
  | nil => rfl
  | cons w ws ih =>
    rw [List.filter_cons, List.filter_cons, List.filter_cons, List.length_cons]
    rcases Int.lt_trichotomy (getI w.1 i) 0 with h | h | h
    · rw [if_neg (by simp; omega), if_neg (by simp; omega), if_pos (by simp; omega), List.length_cons]; omega
    · rw [if_pos (by simp; omega), if_neg (by simp; omega), if_neg (by simp; omega), List.length_cons]; omega
    · rw [if_neg (by simp; omega), if_pos (by simp; omega), if_neg (by simp; omega), List.length_cons]; omega
theorem flat_len {α β : Type} (f : α → β) (m : Nat) : ∀ l : List (List β), (∀ x ∈ l, x.length = m) → l.flatten.length = l.length * m
  | [], _ => by simp
  | x :: l, h => by
    rw [List.flatten_cons, List.length_append, flat_len f m l (fun y hy => h y (List.mem_cons_of_mem _ hy)), h x List.mem_cons_self, List.length_cons, Nat.succ_mul]
    omega
theorem round_len (ws : List IW) (i : Nat) : (roundI ws i).length = (ws.filter fun w => decide (getI w.1 i = 0)).length + (ws.filter fun w => decide (0 < getI w.1 i)).length * (ws.filter fun w => decide (getI w.1 i < 0)).length := by
  unfold roundI
  rw [List.length_append, List.flatMap_def, flat_len (fun (x : IW) => x) _ _ fun x hx => ?_, List.length_map]
  obtain ⟨a, _, rfl⟩ := List.mem_map.mp hx
  exact List.length_map ..
theorem cnt7 : ∀ z, z < 8 → ∀ p, p < 8 → ∀ n, n < 8 → z + p + n ≤ 7 → z + p * n ≤ 12 := by decide
theorem cnt12 : ∀ z, z < 13 → ∀ p, p < 13 → ∀ n, n < 13 → z + p + n ≤ 12 → z + p * n ≤ 36 := by decide +kernel
theorem round7 {ws : List IW} (i : Nat) (h : ws.length ≤ 7) : (roundI ws i).length ≤ 12 := by
  have := three_len (ws := ws) (i := i)
  rw [round_len]
  exact cnt7 _ (by omega) _ (by omega) _ (by omega) (by omega)
theorem round12 {ws : List IW} (i : Nat) (h : ws.length ≤ 12) : (roundI ws i).length ≤ 36 := by
  have := three_len (ws := ws) (i := i)
  rw [round_len]
  exact cnt12 _ (by omega) _ (by omega) _ (by omega) (by omega)
end W6
end
section
set_option Elab.async false
set_option linter.all false
set_option maxRecDepth 100000
set_option maxHeartbeats 4000000
set_option exponentiation.threshold 10000
/-! The walk: the law's own way to say what is bounded. -/
namespace W6
open PySem PySem.Spec PyProof.Rows L2
theorem small_log {n : Nat} (h : n < 512) : ((n : Nat) : Int).natAbs.log2 < 9000 := Nat.lt_trans (sz_log (n := 9) (by rw [Int.natAbs_natCast]; exact h) (by decide)) (by decide)
abbrev iwD (w : IW) : PyData := tupI (w.1 ++ [w.2])
theorem atI_int {c : List Int} {i : Nat} (s : Int) (h : i < c.length) : atI ((c ++ [s]).map PyData.int) (i : Int) = some (.int (getI c i)) := by
  refine atI_map ?_
  rw [List.getElem?_append_left h, List.getElem?_eq_getElem h]
  unfold getI
  rw [List.getD_eq_getElem?_getD, List.getElem?_eq_getElem h]
  rfl
theorem atI_st {c : List Int} {i : Nat} (s : Int) (h : i = c.length) : atI ((c ++ [s]).map PyData.int) (i : Int) = some (.int s) := by
  refine atI_map ?_
  rw [h, List.getElem?_append_right (Nat.le_refl _), Nat.sub_self]
  rfl
theorem atI_neg1 (c : List Int) (s : Int) : atI ((c ++ [s]).map PyData.int) (-1) = some (.int s) := by
  rw [List.map_append]
  exact L2.atI_last _ _
theorem cut_init {α : Type} (c : List α) (s : α) : cutG (c ++ [s]) none (some (-1)) = c := by
  unfold cutG
  rw [HT.sIx_none]
  have e : HT.sIx (c ++ [s]).length (c ++ [s]).length (some (-1)) = c.length := by
    show (if (-1 : Int) < 0 then ((-1 : Int) + ((c ++ [s]).length : Int)).toNat else min (-1 : Int).toNat (c ++ [s]).length) = _
    rw [if_pos (by decide), List.length_append]
    show ((-1 : Int) + ((c.length + 1 : Nat) : Int)).toNat = _
    omega
  rw [e, List.drop_zero, Nat.sub_zero, List.take_left]
theorem cut_last {α : Type} (c : List α) (s : α) : cutG (c ++ [s]) (some (-1)) none = [s] := by
  unfold cutG
  rw [HT.sIx_none]
  have e : HT.sIx (c ++ [s]).length 0 (some (-1)) = c.length := by
    show (if (-1 : Int) < 0 then ((-1 : Int) + ((c ++ [s]).length : Int)).toNat else min (-1 : Int).toNat (c ++ [s]).length) = _
    rw [if_pos (by decide), List.length_append]
    show ((-1 : Int) + ((c.length + 1 : Nat) : Int)).toNat = _
    omega
  rw [e, List.drop_left, List.length_append]
  exact List.take_of_length_le (by show 1 ≤ c.length + 1 - c.length; omega)
theorem gcdL_take {c : List Int} {i : Nat} {y : Int} (h : c[i]? = some y) : gcdL (c.take (i + 1)) = Nat.gcd (gcdL (c.take i)) y.natAbs := by
  unfold gcdL
  rw [fold_take _ _ h]
theorem gcdL_lt {c : List Int} {n : Nat} (h : ∀ y ∈ c, y.natAbs < 2 ^ n) : gcdL c < 2 ^ n := by
  by_cases hz : ∀ y ∈ c, y = 0
  · have : ∀ (l : List Int), (∀ y ∈ l, y = 0) → l.foldl (fun g y => Nat.gcd g y.natAbs) 0 = 0 := fun l => by
      induction l with
      | nil => intro _; rfl
      | cons a l ih =>
        intro hl
        rw [List.foldl_cons, hl a List.mem_cons_self]
        exact ih fun y hy => hl y (List.mem_cons_of_mem _ hy)
    unfold gcdL
    rw [this c hz]
    exact Nat.two_pow_pos n
  · obtain ⟨y, hy⟩ := Classical.not_forall.mp hz
    obtain ⟨hy, hne⟩ := Classical.not_imp.mp hy
    have := Int.ofNat_dvd_left.mp (gcdL_dvd hy)
    exact Nat.lt_of_le_of_lt (Nat.le_of_dvd (by omega) this) (h y hy)
def lcmD (Q : List Rat) : Nat := Q.foldl (fun L q => Nat.lcm L q.den) 1
def wholeW (Q : List Rat) (st : Int) : IW := (Q.map (fun q => q.num * ((lcmD Q / q.den : Nat) : Int)), st)
theorem lcm_fold {D : Nat} (hD : 0 < D) : ∀ (Q : List Rat) (L : Nat), 0 < L → L ∣ D → (∀ q ∈ Q, q.den ∣ D) → 0 < Q.foldl (fun L q => Nat.lcm L q.den) L ∧ Q.foldl (fun L q => Nat.lcm L q.den) L ∣ D ∧ L ∣ Q.foldl (fun L q => Nat.lcm L q.den) L ∧ ∀ q ∈ Q, q.den ∣ Q.foldl (fun L q => Nat.lcm L q.den) L
  | [], L, h0, h1, _ => ⟨h0, h1, Nat.dvd_refl _, fun q hq => nomatch hq⟩
  | q :: Q, L, h0, h1, h => by
    obtain ⟨a1, a2, a3, a4⟩ := lcm_fold hD Q (Nat.lcm L q.den) (Nat.lcm_pos h0 q.den_pos) (Nat.lcm_dvd h1 (h q List.mem_cons_self)) fun p hp => h p (List.mem_cons_of_mem _ hp)
    refine ⟨a1, a2, Nat.dvd_trans (Nat.dvd_lcm_left _ _) a3, fun p hp => ?_⟩
    rcases List.mem_cons.mp hp with rfl | hp
    · exact Nat.dvd_trans (Nat.dvd_lcm_right _ _) a3
    · exact a4 p hp
theorem lcmD_ok {Q : List Rat} (h : ∀ q ∈ Q, q.den ∣ 288) : 0 < lcmD Q ∧ lcmD Q ∣ 288 ∧ ∀ q ∈ Q, q.den ∣ lcmD Q := by
  obtain ⟨a1, a2, _, a4⟩ := lcm_fold (by decide) Q 1 (by decide) (by decide) h
  exact ⟨a1, a2, a4⟩
section
variable {E : En}
abbrev C__law_common : List Sl → (PyData → Prop) → Prop := fun ss P => ∃ a b : Int, ss = [.dat (.int a), .dat (.int b)] ∧ P (int (Nat.gcd a.natAbs b.natAbs))
theorem D__law_common (B : BC E) (A : At E "_law_common" s__law_common ["_law_one", "_law_two"]) : Def E 1 "_law_common" ["_law_one", "_law_two"] [] C__law_common := by
  refine def_at A c__law_common (fun ss P h => by obtain ⟨a, b, rfl, _⟩ := h; rfl) fun ss P h => ?_
  obtain ⟨a, b, rfl, p⟩ := h
  refine js_cons (j1_par 0 1 (by decide +kernel) rfl rfl (by decide) rfl rfl ?_)
  refine je_callB B.abs rfl rfl ?_
  refine ja_cons ?_
  refine je_var 0 rfl (by first | exact Or.inl rfl | exact Or.inr (Or.inl rfl) | exact Or.inr (Or.inr rfl)) rfl (by intro z; cases z) ?_
  refine ja_nil ?_
  refine jc_abs ?_
  refine je_callB B.abs rfl rfl ?_
  refine ja_cons ?_
  refine je_var 1 rfl (by first | exact Or.inl rfl | exact Or.inr (Or.inl rfl) | exact Or.inr (Or.inr rfl)) rfl (by intro z; cases z) ?_
  refine ja_nil ?_
  refine jc_abs ?_
  refine js_cons (j1_while (fun m ρ' => ∃ f : Nat, ρ' = [.dat (int f), .dat (int m)] ∧ Nat.gcd f m = Nat.gcd a.natAbs b.natAbs) b.natAbs ⟨a.natAbs, rfl, rfl⟩ ?_)
  rintro m ρ' ⟨f, rfl, hgf⟩
  refine jt_cmp ?_
  refine je_var 1 rfl (by first | exact Or.inl rfl | exact Or.inr (Or.inl rfl) | exact Or.inr (Or.inr rfl)) rfl (by intro z; cases z) ?_
  refine je_int ?_
  refine jo_gt ⟨_, rfl, ?_⟩
  refine ⟨fun hk => ?_, fun hk => ?_⟩
  · have hm : 0 < m := by have := of_decide_eq_true hk; omega
    refine js_cons (j1_par 0 1 (by decide +kernel) rfl rfl (by decide) rfl rfl ?_)
    refine je_var 1 rfl (by first | exact Or.inl rfl | exact Or.inr (Or.inl rfl) | exact Or.inr (Or.inr rfl)) rfl (by intro z; cases z) ?_
    refine je_bin ?_
    refine je_callTy B.int_ rfl rfl ?_
    refine ja_cons ?_
    refine je_var 0 rfl (by first | exact Or.inl rfl | exact Or.inr (Or.inl rfl) | exact Or.inr (Or.inr rfl)) rfl (by intro z; cases z) ?_
    refine ja_nil ?_
    refine jc_int ?_
    refine je_var 1 rfl (by first | exact Or.inl rfl | exact Or.inr (Or.inl rfl) | exact Or.inr (Or.inr rfl)) rfl (by intro z; cases z) ?_
    refine jo_mod (by omega) ?_
    refine js_nil ?_
    exact ⟨f % m, Nat.mod_lt _ hm, m, by rw [← Int.natCast_emod]; rfl, by rw [gcd_step hm]; exact hgf⟩
  · have hm : m = 0 := by have := of_decide_eq_false hk; omega
    subst hm
    rw [Nat.gcd_zero_right] at hgf
    subst hgf
    refine js_cons (j1_ret ?_)
    refine je_var 0 rfl (by first | exact Or.inl rfl | exact Or.inr (Or.inl rfl) | exact Or.inr (Or.inr rfl)) rfl (by intro z; cases z) ?_
    refine ⟨_, rfl, ?_⟩
    exact p
abbrev C__law_whole_wish : List Sl → (PyData → Prop) → Prop := fun ss P => ∃ (qs : List Rat) (b : Rat) (st : Int), ss = [.dat (rw_ qs), .dat (fr b), .dat (.int st)] ∧ qs.length ≤ 100 ∧ (∀ q ∈ qs ++ [b], Dz 288 349 q) ∧ P (iwD (wholeW (qs ++ [b]) st))
theorem D__law_whole_wish (B : BC E) (A : At E "_law_whole_wish" s__law_whole_wish ["_law_row_here", "_law_bound", "_law_strict"]) (D__law_common : Def E 1 "_law_common" ["_law_one", "_law_two"] [] C__law_common) : Def E 2 "_law_whole_wish" ["_law_row_here", "_law_bound", "_law_strict"] [] C__law_whole_wish := by
  refine def_at A c__law_whole_wish (fun ss P h => by obtain ⟨qs, b, st, rfl, _⟩ := h; rfl) fun ss P h => ?_
  obtain ⟨qs, b, st, rfl, hl, hd, p⟩ := h
  have eC : PyData.tuple (qs.map fr ++ [fr b]) = .tuple ((qs ++ [b]).map fr) := by rw [List.map_append]; rfl
  have hll : (qs ++ [b]).length ≤ 101 := by rw [List.length_append]; show qs.length + 1 ≤ _; omega
  generalize hQ : qs ++ [b] = Q at hd p eC hll
  refine js_cons (j1_set 3 (by decide +kernel) rfl (by first | exact Or.inl rfl | exact Or.inr rfl) ?_)
  refine je_int ?_
  refine js_cons (j1_for ?_)
  refine ji_tup ?_
  refine je_bin ?_
  refine je_var 0 rfl (by first | exact Or.inl rfl | exact Or.inr (Or.inl rfl) | exact Or.inr (Or.inr rfl)) rfl (by intro z; cases z) ?_
  refine je_tup ?_
  refine ja_cons ?_
  refine je_var 1 rfl (by first | exact Or.inl rfl | exact Or.inr (Or.inl rfl) | exact Or.inr (Or.inr rfl)) rfl (by intro z; cases z) ?_
  refine ja_nil ?_
  refine ⟨_, rfl, Nat.le_of_ble_eq_true rfl, ?_⟩
  refine jo_catT ?_ ?_
  · rw [List.length_map]; show qs.length + 1 ≤ _; omega
  rw [eC]
  refine ⟨_, rfl, ?_⟩
  refine for_inv [4] Q fr (fun (L : Nat) => [.dat (rw_ qs), .dat (fr b), .dat (.int st), .dat (int L), .no]) (fun i L => L = lcmD (Q.take i)) 1 rfl rfl rfl (fun i a L ha hI => ?_) (fun ρ' L hI e => js_forget [4] e ?_)
  · obtain ⟨L0, L1, _⟩ := lcmD_ok (Q := Q.take i) fun q hq => (hd q (mem_take hq)).den (by decide)
    rw [← hI] at L0 L1
    have ad := (hd a (List.mem_of_getElem? ha)).den (by decide)
    have al : a.den ≤ 288 := Nat.le_of_dvd (by decide) ad
    have ll : L ≤ 288 := Nat.le_of_dvd (by decide) L1
    have gp : 0 < Nat.gcd L a.den := Nat.gcd_pos_of_pos_left _ L0
    have gl : Nat.gcd L a.den ≤ L := Nat.le_of_dvd L0 (Nat.gcd_dvd_left _ _)
    refine jg_name 4 (by decide +kernel) rfl (by first | exact Or.inl rfl | exact Or.inr rfl) ?_
    refine js_cons (j1_set 3 (by decide +kernel) rfl (by first | exact Or.inl rfl | exact Or.inr rfl) ?_)
    refine je_bin ?_
    refine je_bin ?_
    refine je_var 3 rfl (by first | exact Or.inl rfl | exact Or.inr (Or.inl rfl) | exact Or.inr (Or.inr rfl)) rfl (by intro z; cases z) ?_
    refine je_call D__law_common (Nat.le_of_ble_eq_true rfl) rfl ?_
    refine ja_cons ?_
    refine je_var 3 rfl (by first | exact Or.inl rfl | exact Or.inr (Or.inl rfl) | exact Or.inr (Or.inr rfl)) rfl (by intro z; cases z) ?_
    refine ja_cons ?_
    refine je_ix ?_
    refine je_var 4 rfl (by first | exact Or.inl rfl | exact Or.inr (Or.inl rfl) | exact Or.inr (Or.inr rfl)) rfl (by intro z; cases z) ?_
    refine je_int ?_
    refine ⟨_, _, _, rfl, rfl, rfl, ?_⟩
    refine ja_nil ?_
    refine ⟨(L : Int), (a.den : Int), rfl, ?_⟩
    rw [Int.natAbs_natCast, Int.natAbs_natCast]
    refine jo_div ⟨by omega, small_log (by omega)⟩ ?_
    refine je_ix ?_
    refine je_var 4 rfl (by first | exact Or.inl rfl | exact Or.inr (Or.inl rfl) | exact Or.inr (Or.inr rfl)) rfl (by intro z; cases z) ?_
    refine je_int ?_
    refine ⟨_, _, _, rfl, rfl, rfl, ?_⟩
    have h64 : (a.den : Int) < 2 ^ 64 := by omega
    refine jo_mul64 (.inr ⟨by omega, h64⟩) ?_
    refine js_nil ?_
    have eL : (L : Int) / ((Nat.gcd L a.den : Nat) : Int) * (a.den : Int) = ((Nat.lcm L a.den : Nat) : Int) := by
      rw [Nat.lcm, ← Int.natCast_ediv, ← Int.natCast_mul]
      congr 1
      rw [Nat.mul_comm, ← Nat.mul_div_assoc _ (Nat.gcd_dvd_left _ _), Nat.mul_comm]
    refine ⟨Nat.lcm L a.den, ?_, by rw [eL]; rfl⟩
    unfold lcmD at hI ⊢
    rw [fold_take _ _ ha, ← hI]
  · rw [List.take_length] at hI
    obtain ⟨L0, L1, L2⟩ := lcmD_ok (Q := Q) fun q hq => (hd q hq).den (by decide)
    have p0 := p
    unfold wholeW at p0
    rw [← hI] at L0 L1 L2 p0
    have ll : L ≤ 288 := Nat.le_of_dvd (by decide) L1
    have fin := p0
    refine js_cons (j1_ret ?_)
    refine je_bin ?_
    refine je_callTy B.tuple_ rfl rfl ?_
    refine ja_cons ?_
    refine je_lc1 4 (by decide +kernel) (by decide +kernel) rfl rfl ?_
    refine ji_tup ?_
    refine je_bin ?_
    refine je_var 0 rfl (by first | exact Or.inl rfl | exact Or.inr (Or.inl rfl) | exact Or.inr (Or.inr rfl)) rfl (by intro z; cases z) ?_
    refine je_tup ?_
    refine ja_cons ?_
    refine je_var 1 rfl (by first | exact Or.inl rfl | exact Or.inr (Or.inl rfl) | exact Or.inr (Or.inr rfl)) rfl (by intro z; cases z) ?_
    refine ja_nil ?_
    refine ⟨_, rfl, Nat.le_of_ble_eq_true rfl, ?_⟩
    refine jo_catT ?_ ?_
    · rw [List.length_map]; show qs.length + 1 ≤ _; omega
    rw [eC]
    refine ⟨_, rfl, lcMap Q fr (fun q => .int (q.num * ((L / q.den : Nat) : Int))) (by omega) (fun a ha => ?_) ?_⟩
    · have ad := (hd a ha).den (by decide)
      have al : a.den ≤ 288 := Nat.le_of_dvd (by decide) ad
      have dp := a.den_pos
      refine je_bin ?_
      refine je_ix ?_
      refine je_var 4 rfl (by first | exact Or.inl rfl | exact Or.inr (Or.inl rfl) | exact Or.inr (Or.inr rfl)) rfl (by intro z; cases z) ?_
      refine je_int ?_
      refine ⟨_, _, _, rfl, rfl, rfl, ?_⟩
      refine je_bin ?_
      refine je_var 3 rfl (by first | exact Or.inl rfl | exact Or.inr (Or.inl rfl) | exact Or.inr (Or.inr rfl)) rfl (by intro z; cases z) ?_
      refine je_ix ?_
      refine je_var 4 rfl (by first | exact Or.inl rfl | exact Or.inr (Or.inl rfl) | exact Or.inr (Or.inr rfl)) rfl (by intro z; cases z) ?_
      refine je_int ?_
      refine ⟨_, _, _, rfl, rfl, rfl, ?_⟩
      refine jo_div ⟨by omega, small_log (by omega)⟩ ?_
      rw [← Int.natCast_ediv]
      have hq : L / a.den ≤ L := Nat.div_le_self _ _
      have h64 : -(2 ^ 64) < ((L / a.den : Nat) : Int) ∧ ((L / a.den : Nat) : Int) < 2 ^ 64 := by generalize L / a.den = D at hq; omega
      refine jo_mul64 (.inr h64) ?_
      rfl
    · have e : Q.map (fun q => PyData.int (q.num * ((L / q.den : Nat) : Int))) = (Q.map fun q => q.num * ((L / q.den : Nat) : Int)).map .int := by rw [List.map_map]; rfl
      rw [e]
      refine ja_nil ?_
      refine jc_tuple rfl ?_
      refine je_tup ?_
      refine ja_cons ?_
      refine je_var 2 rfl (by first | exact Or.inl rfl | exact Or.inr (Or.inl rfl) | exact Or.inr (Or.inr rfl)) rfl (by intro z; cases z) ?_
      refine ja_nil ?_
      refine ⟨_, rfl, Nat.le_of_ble_eq_true rfl, ?_⟩
      refine jo_catT ?_ ?_
      · rw [List.length_map, List.length_map]; show Q.length + 1 ≤ _; omega
      refine ⟨_, rfl, ?_⟩
      have e2 : iwD (Q.map (fun q => q.num * ((L / q.den : Nat) : Int)), st) = .tuple ((Q.map fun q => q.num * ((L / q.den : Nat) : Int)).map .int ++ [.int st]) := by
        show PyData.tuple (List.map _ (_ ++ _)) = _
        rw [List.map_append]
        rfl
      rw [e2] at fin
      exact fin
abbrev C__law_lowered : List Sl → (PyData → Prop) → Prop := fun ss P => ∃ w : IW, ss = [.dat (iwD w)] ∧ (∀ y ∈ w.1, y.natAbs < 2 ^ 1000) ∧ w.1.length ≤ 100 ∧ P (iwD (lowI w))
theorem D__law_lowered (B : BC E) (A : At E "_law_lowered" s__law_lowered ["_law_wish"]) (D__law_common : Def E 1 "_law_common" ["_law_one", "_law_two"] [] C__law_common) : Def E 2 "_law_lowered" ["_law_wish"] [] C__law_lowered := by
  refine def_at A c__law_lowered (fun ss P h => by obtain ⟨w, rfl, _⟩ := h; rfl) fun ss P h => ?_
  obtain ⟨w, rfl, hs, hl, p⟩ := h
  obtain ⟨c, st⟩ := w
  have hs : ∀ y ∈ c, y.natAbs < 2 ^ 1000 := hs
  have hl : c.length ≤ 100 := hl
  refine js_cons (j1_set 1 (by decide +kernel) rfl (by first | exact Or.inl rfl | exact Or.inr rfl) ?_)
  refine je_int ?_
  refine js_cons (j1_for ?_)
  refine ji_tup ?_
  refine je_slHi ?_
  refine je_var 0 rfl (by first | exact Or.inl rfl | exact Or.inr (Or.inl rfl) | exact Or.inr (Or.inr rfl)) rfl (by intro z; cases z) ?_
  refine je_neg ?_
  refine je_int ?_
  refine ⟨_, rfl, ?_⟩
  refine ⟨(-1 : Int), .tuple (c.map .int), rfl, by show some (PyData.tuple (cutG ((c ++ [st]).map PyData.int) none (some (-1)))) = _; rw [List.map_append]; rw [show (List.map PyData.int [st]) = [PyData.int st] from rfl, cut_init], ?_⟩
  refine ⟨_, rfl, ?_⟩
  refine for_fold [2] c .int (fun (g : Nat) => [.dat (iwD (c, st)), .dat (int g), .no]) (fun g y => Nat.gcd g y.natAbs) 0 rfl rfl (fun i y hy => ?_) (fun ρ' e => js_forget [2] e ?_)
  · generalize (c.take i).foldl (fun g (y : Int) => Nat.gcd g y.natAbs) 0 = g
    refine jg_name 2 (by decide +kernel) rfl (by first | exact Or.inl rfl | exact Or.inr rfl) ?_
    refine js_cons (j1_set 1 (by decide +kernel) rfl (by first | exact Or.inl rfl | exact Or.inr rfl) ?_)
    refine je_if ?_
    refine jt_bool ?_
    refine jw_or ?_
    refine jt_cmp ?_
    refine je_var 1 rfl (by first | exact Or.inl rfl | exact Or.inr (Or.inl rfl) | exact Or.inr (Or.inr rfl)) rfl (by intro z; cases z) ?_
    refine je_int ?_
    refine jo_neI ?_
    refine ⟨_, rfl, ?_⟩
    refine ⟨fun hk => ?_, fun hk => ?_⟩
    · refine jw_or1 ?_
      refine jt_cmp ?_
      refine je_var 2 rfl (by first | exact Or.inl rfl | exact Or.inr (Or.inl rfl) | exact Or.inr (Or.inr rfl)) rfl (by intro z; cases z) ?_
      refine je_int ?_
      refine jo_neI ?_
      refine ⟨_, rfl, ?_⟩
      refine ⟨fun hk' => ?_, fun hk' => ?_⟩
      · refine je_call D__law_common (Nat.le_of_ble_eq_true rfl) rfl ?_
        refine ja_cons ?_
        refine je_var 1 rfl (by first | exact Or.inl rfl | exact Or.inr (Or.inl rfl) | exact Or.inr (Or.inr rfl)) rfl (by intro z; cases z) ?_
        refine ja_cons ?_
        refine je_var 2 rfl (by first | exact Or.inl rfl | exact Or.inr (Or.inl rfl) | exact Or.inr (Or.inr rfl)) rfl (by intro z; cases z) ?_
        refine ja_nil ?_
        refine ⟨(g : Int), y, rfl, ?_⟩
        refine js_nil ?_
        rw [Int.natAbs_natCast]
        rfl
      · have h1 : (g : Int) = 0 := by simpa using hk
        have h2 : y = 0 := by simpa using hk'
        have h1 : g = 0 := by omega
        subst h1; subst h2
        refine je_int ?_
        refine js_nil ?_
        rfl
    · refine ⟨fun _ => ?_, fun z => nomatch z⟩
      refine je_call D__law_common (Nat.le_of_ble_eq_true rfl) rfl ?_
      refine ja_cons ?_
      refine je_var 1 rfl (by first | exact Or.inl rfl | exact Or.inr (Or.inl rfl) | exact Or.inr (Or.inr rfl)) rfl (by intro z; cases z) ?_
      refine ja_cons ?_
      refine je_var 2 rfl (by first | exact Or.inl rfl | exact Or.inr (Or.inl rfl) | exact Or.inr (Or.inr rfl)) rfl (by intro z; cases z) ?_
      refine ja_nil ?_
      refine ⟨(g : Int), y, rfl, ?_⟩
      refine js_nil ?_
      rw [Int.natAbs_natCast]
      rfl
  · have eg : c.foldl (fun g (y : Int) => Nat.gcd g y.natAbs) 0 = gcdL c := rfl
    rw [eg]
    have d1 : decide ((gcdL c : Int) < 2) = decide (gcdL c < 2) := by
      by_cases h : gcdL c < 2
      · rw [decide_eq_true h, decide_eq_true (by omega)]
      · rw [decide_eq_false h, decide_eq_false (by omega)]
    refine js_cons (j1_ret ?_)
    refine je_if ?_
    refine jt_cmp ?_
    refine je_var 1 rfl (by first | exact Or.inl rfl | exact Or.inr (Or.inl rfl) | exact Or.inr (Or.inr rfl)) rfl (by intro z; cases z) ?_
    refine je_int ?_
    refine jo_lt ?_
    refine ⟨_, rfl, ?_⟩
    rw [d1]
    refine ⟨fun hk => ?_, fun hk => ?_⟩
    · have e : lowI (c, st) = (c, st) := by unfold lowI; rw [if_pos (of_decide_eq_true hk)]
      rw [e] at p
      refine je_var 0 rfl (by first | exact Or.inl rfl | exact Or.inr (Or.inl rfl) | exact Or.inr (Or.inr rfl)) rfl (by intro z; cases z) ?_
      refine ⟨_, rfl, ?_⟩
      exact p
    · have hg : ¬ gcdL c < 2 := of_decide_eq_false hk
      have e : lowI (c, st) = (c.map (· / (gcdL c : Int)), st) := by unfold lowI; rw [if_neg hg]
      rw [e] at p
      have hgl : gcdL c < 2 ^ 1000 := gcdL_lt hs
      refine je_bin ?_
      refine je_callTy B.tuple_ rfl rfl ?_
      refine ja_cons ?_
      refine je_lc1 2 (by decide +kernel) (by decide +kernel) rfl rfl ?_
      refine ji_tup ?_
      refine je_slHi ?_
      refine je_var 0 rfl (by first | exact Or.inl rfl | exact Or.inr (Or.inl rfl) | exact Or.inr (Or.inr rfl)) rfl (by intro z; cases z) ?_
      refine je_neg ?_
      refine je_int ?_
      refine ⟨_, rfl, ?_⟩
      refine ⟨(-1 : Int), .tuple (c.map .int), rfl, by show some (PyData.tuple (cutG ((c ++ [st]).map PyData.int) none (some (-1)))) = _; rw [List.map_append]; rw [show (List.map PyData.int [st]) = [PyData.int st] from rfl, cut_init], ?_⟩
      refine ⟨_, rfl, lcMap c .int (fun y => .int (y / (gcdL c : Int))) (by omega) (fun y hy => ?_) ?_⟩
      · refine je_bin ?_
        refine je_var 2 rfl (by first | exact Or.inl rfl | exact Or.inr (Or.inl rfl) | exact Or.inr (Or.inr rfl)) rfl (by intro z; cases z) ?_
        refine je_var 1 rfl (by first | exact Or.inl rfl | exact Or.inr (Or.inl rfl) | exact Or.inr (Or.inr rfl)) rfl (by intro z; cases z) ?_
        refine jo_div ⟨by omega, Nat.lt_trans (sz_log (n := 1000) (by rw [Int.natAbs_natCast]; exact hgl) (by decide)) (by decide)⟩ ?_
        rfl
      · have e2 : c.map (fun y => PyData.int (y / (gcdL c : Int))) = (c.map (· / (gcdL c : Int))).map .int := by rw [List.map_map]; rfl
        rw [e2]
        refine ja_nil ?_
        refine jc_tuple rfl ?_
        refine je_slLo ?_
        refine je_var 0 rfl (by first | exact Or.inl rfl | exact Or.inr (Or.inl rfl) | exact Or.inr (Or.inr rfl)) rfl (by intro z; cases z) ?_
        refine je_neg ?_
        refine je_int ?_
        refine ⟨_, rfl, ?_⟩
        refine ⟨(-1 : Int), .tuple [.int st], rfl, by show some (PyData.tuple (cutG ((c ++ [st]).map PyData.int) (some (-1)) none)) = _; rw [List.map_append]; rw [show (List.map PyData.int [st]) = [PyData.int st] from rfl, cut_last], ?_⟩
        refine jo_catT ?_ ?_
        · rw [List.length_map, List.length_map]; show c.length + 1 ≤ _; omega
        refine ⟨_, rfl, ?_⟩
        have e3 : iwD (c.map (· / (gcdL c : Int)), st) = .tuple ((c.map (· / (gcdL c : Int))).map .int ++ [.int st]) := by
          show PyData.tuple (List.map _ (_ ++ _)) = _
          rw [List.map_append]
          rfl
        rw [e3] at p
        exact p
abbrev C__law_joined_wish : List Sl → (PyData → Prop) → Prop := fun ss P => ∃ (a b : IW) (i n : Nat), ss = [.dat (iwD a), .dat (iwD b), .dat (int i)] ∧ a.1.length = b.1.length ∧ i < a.1.length ∧ a.1.length ≤ 100 ∧ n ≤ 400 ∧ (∀ y ∈ a.1, y.natAbs < 2 ^ n) ∧ (∀ y ∈ b.1, y.natAbs < 2 ^ n) ∧ P (iwD (lowI (joinI a b i)))
theorem D__law_joined_wish (B : BC E) (A : At E "_law_joined_wish" s__law_joined_wish ["_law_one", "_law_two", "_law_spot"]) (D__law_lowered : Def E 2 "_law_lowered" ["_law_wish"] [] C__law_lowered) : Def E 3 "_law_joined_wish" ["_law_one", "_law_two", "_law_spot"] [] C__law_joined_wish := by
  refine def_at A c__law_joined_wish (fun ss P h => by obtain ⟨a, b, i, n, rfl, _⟩ := h; rfl) fun ss P h => ?_
  obtain ⟨a, b, i, n, rfl, hab, hi, hl, hn, ha, hb, p⟩ := h
  obtain ⟨c, s⟩ := a
  obtain ⟨d, t⟩ := b
  have hab : c.length = d.length := hab
  have hi : i < c.length := hi
  have hl : c.length ≤ 100 := hl
  have hc : ∀ y ∈ c, y.natAbs < 2 ^ n := ha
  have hd : ∀ y ∈ d, y.natAbs < 2 ^ n := hb
  have cutc : slD (.dat (iwD (c, s))) none (some (-1)) = some (.tuple (c.map .int)) := by show some (PyData.tuple (cutG ((c ++ [s]).map PyData.int) none (some (-1)))) = _; rw [List.map_append]; rw [show (List.map PyData.int [s]) = [PyData.int s] from rfl, cut_init]
  have cutd : slD (.dat (iwD (d, t))) none (some (-1)) = some (.tuple (d.map .int)) := by show some (PyData.tuple (cutG ((d ++ [t]).map PyData.int) none (some (-1)))) = _; rw [List.map_append]; rw [show (List.map PyData.int [t]) = [PyData.int t] from rfl, cut_init]
  refine js_cons (j1_asg ?_)
  refine je_tup ?_
  refine ja_cons ?_
  refine je_ix ?_
  refine je_var 0 rfl (by first | exact Or.inl rfl | exact Or.inr (Or.inl rfl) | exact Or.inr (Or.inr rfl)) rfl (by intro z; cases z) ?_
  refine je_var 2 rfl (by first | exact Or.inl rfl | exact Or.inr (Or.inl rfl) | exact Or.inr (Or.inr rfl)) rfl (by intro z; cases z) ?_
  refine ⟨_, _, _, rfl, rfl, atI_int s hi, ?_⟩
  refine ja_cons ?_
  refine je_bin ?_
  refine je_int ?_
  refine je_ix ?_
  refine je_var 1 rfl (by first | exact Or.inl rfl | exact Or.inr (Or.inl rfl) | exact Or.inr (Or.inr rfl)) rfl (by intro z; cases z) ?_
  refine je_var 2 rfl (by first | exact Or.inl rfl | exact Or.inr (Or.inl rfl) | exact Or.inr (Or.inr rfl)) rfl (by intro z; cases z) ?_
  refine ⟨_, _, _, rfl, rfl, atI_int t (hab ▸ hi), ?_⟩
  refine jo_sub ?_
  refine ja_nil ?_
  refine ⟨_, rfl, Nat.le_of_ble_eq_true rfl, ?_⟩
  refine ⟨_, rfl, ?_⟩
  refine jg_tup ⟨_, rfl, rfl, ?_⟩
  refine jgs_cons ?_
  refine jg_name 3 (by decide +kernel) rfl (by first | exact Or.inl rfl | exact Or.inr rfl) ?_
  refine jgs_cons ?_
  refine jg_name 4 (by decide +kernel) rfl (by first | exact Or.inl rfl | exact Or.inr rfl) ?_
  refine jgs_nil ?_
  refine js_cons (j1_setLc2 5 6 7 (by decide +kernel) rfl rfl (by decide +kernel) rfl rfl rfl rfl (by intro env h; cases env; cases h; first | rfl | with_unfolding_all rfl) ?_)
  refine ji_zip B.zip_ rfl ?_
  refine je_slHi ?_
  refine je_var 0 rfl (by first | exact Or.inl rfl | exact Or.inr (Or.inl rfl) | exact Or.inr (Or.inr rfl)) rfl (by intro z; cases z) ?_
  refine je_neg ?_
  refine je_int ?_
  refine ⟨_, rfl, ?_⟩
  refine ⟨(-1 : Int), _, rfl, cutc, ?_⟩
  refine je_slHi ?_
  refine je_var 1 rfl (by first | exact Or.inl rfl | exact Or.inr (Or.inl rfl) | exact Or.inr (Or.inr rfl)) rfl (by intro z; cases z) ?_
  refine je_neg ?_
  refine je_int ?_
  refine ⟨_, rfl, ?_⟩
  refine ⟨(-1 : Int), _, rfl, cutd, ?_⟩
  refine ⟨_, _, _, _, _, _, rfl, rfl, rfl, rfl, ?_⟩
  rw [zipD_map]
  have hu := hc _ (getI_mem hi)
  have hv := hd _ (getI_mem (hab ▸ hi))
  refine lc2Map (c.zip d) _ _ (fun p => .int ((0 - getI d i) * p.1 + getI c i * p.2)) (by rw [List.length_zip]; omega) (fun p hp => ?_) ?_
  · refine je_bin ?_
    refine je_bin ?_
    refine je_var 4 rfl (by first | exact Or.inl rfl | exact Or.inr (Or.inl rfl) | exact Or.inr (Or.inr rfl)) rfl (by intro z; cases z) ?_
    refine je_var 6 rfl (by first | exact Or.inl rfl | exact Or.inr (Or.inl rfl) | exact Or.inr (Or.inr rfl)) rfl (by intro z; cases z) ?_
    refine jo_mul (cmul_sz (n := n) (m := n) (by rw [Int.zero_sub, Int.natAbs_neg]; exact hv) (hc _ (List.of_mem_zip hp).1) (by omega)) ?_
    refine je_bin ?_
    refine je_var 3 rfl (by first | exact Or.inl rfl | exact Or.inr (Or.inl rfl) | exact Or.inr (Or.inr rfl)) rfl (by intro z; cases z) ?_
    refine je_var 7 rfl (by first | exact Or.inl rfl | exact Or.inr (Or.inl rfl) | exact Or.inr (Or.inr rfl)) rfl (by intro z; cases z) ?_
    refine jo_mul (cmul_sz (n := n) (m := n) hu (hd _ (List.of_mem_zip hp).2) (by omega)) ?_
    refine jo_add ?_
    rfl
  · have e : (c.zip d).map (fun p => PyData.int ((0 - getI d i) * p.1 + getI c i * p.2)) = (joinI (c, s) (d, t) i).1.map .int := by
      unfold joinI
      rw [List.zip_eq_zipWith, List.map_zipWith, List.map_zipWith]
    rw [e]
    have hjs := join_szs (n := n) (i := i) (a := (c, s)) (b := (d, t)) hc hd hi hab
    have hjl : (joinI (c, s) (d, t) i).1.length = c.length := join_len hab
    refine js_cons (j1_ret ?_)
    refine je_call D__law_lowered (Nat.le_of_ble_eq_true rfl) rfl ?_
    refine ja_cons ?_
    refine je_bin ?_
    refine je_callTy B.tuple_ rfl rfl ?_
    refine ja_cons ?_
    refine je_var 5 rfl (by first | exact Or.inl rfl | exact Or.inr (Or.inl rfl) | exact Or.inr (Or.inr rfl)) rfl (by intro z; cases z) ?_
    refine ja_nil ?_
    refine jc_tuple rfl ?_
    refine je_tup ?_
    refine ja_cons ?_
    refine je_callB B.max rfl rfl ?_
    refine ja_cons ?_
    refine je_ix ?_
    refine je_var 0 rfl (by first | exact Or.inl rfl | exact Or.inr (Or.inl rfl) | exact Or.inr (Or.inr rfl)) rfl (by intro z; cases z) ?_
    refine je_neg ?_
    refine je_int ?_
    refine ⟨_, rfl, ?_⟩
    refine ⟨_, _, _, rfl, rfl, atI_neg1 c s, ?_⟩
    refine ja_cons ?_
    refine je_ix ?_
    refine je_var 1 rfl (by first | exact Or.inl rfl | exact Or.inr (Or.inl rfl) | exact Or.inr (Or.inr rfl)) rfl (by intro z; cases z) ?_
    refine je_neg ?_
    refine je_int ?_
    refine ⟨_, rfl, ?_⟩
    refine ⟨_, _, _, rfl, rfl, atI_neg1 d t, ?_⟩
    refine ja_nil ?_
    refine jc_max ?_
    refine ja_nil ?_
    refine ⟨_, rfl, Nat.le_of_ble_eq_true rfl, ?_⟩
    refine jo_catT ?_ ?_
    · rw [List.length_map, hjl]; show c.length + 1 ≤ _; omega
    refine ja_nil ?_
    refine ⟨joinI (c, s) (d, t) i, ?_, fun y hy => Nat.lt_of_lt_of_le (hjs y hy) (pow_le (by omega)), by rw [hjl]; exact hl, _, rfl, p⟩
    have e3 : iwD (joinI (c, s) (d, t) i) = .tuple ((joinI (c, s) (d, t) i).1.map .int ++ [.int (max s t)]) := by
      show PyData.tuple (List.map _ (_ ++ _)) = _
      rw [List.map_append]
      rfl
    rw [e3]
    rfl
end
end W6
end
section
set_option Elab.async false
set_option linter.all false
set_option maxRecDepth 100000
set_option maxHeartbeats 4000000
set_option exponentiation.threshold 10000
/-! The walk: the law's own way to say what is bounded, the rounds. -/
namespace W6
open PySem PySem.Spec PyProof.Rows L2
def encI (w : IW) : List Int := w.1 ++ [w.2]
theorem encI_inj {a b : IW} (h : encI a = encI b) : a = b := by
  unfold encI at h
  have h1 := List.append_inj' h rfl
  exact Prod.ext h1.1 (by simpa using h1.2)
theorem map_inj {α β : Type} {f : α → β} (hf : ∀ a b, f a = f b → a = b) {xs ys : List α} (h : xs.map f = ys.map f) : xs = ys := (List.map_inj_right (fun a b e => hf a b e)).mp h
theorem set_iw {ws : List IW} : ∀ {ys : List (List Int)}, (∀ y ∈ ys, y ∈ ws.map encI) → ∃ vs : List IW, ys = vs.map encI ∧ ∀ v ∈ vs, v ∈ ws
  | [], _ => ⟨[], rfl, fun v hv => nomatch hv⟩
  | y :: ys, h => by
    obtain ⟨w, hw, rfl⟩ := List.mem_map.mp (h y List.mem_cons_self)
    obtain ⟨vs, rfl, hv⟩ := set_iw (ys := ys) fun z hz => h z (List.mem_cons_of_mem _ hz)
    exact ⟨w :: vs, rfl, fun v hv' => (List.mem_cons.mp hv').elim (fun e => e ▸ hw) (hv v)⟩
theorem set_iws {ws : List IW} {ys : List (List Int)} (nd : ys.Nodup) (e : ∀ y, y ∈ ys ↔ y ∈ ws.map encI) : ∃ vs : List IW, ys = vs.map encI ∧ (∀ v, v ∈ vs ↔ v ∈ ws) ∧ vs.length ≤ ws.length := by
  obtain ⟨vs, rfl, hv⟩ := set_iw (ws := ws) (ys := ys) fun y hy => (e y).mp hy
  refine ⟨vs, rfl, fun v => ⟨hv v, fun h => ?_⟩, ?_⟩
  · obtain ⟨u, hu, eu⟩ := List.mem_map.mp ((e (encI v)).mpr (List.mem_map_of_mem h))
    rw [← encI_inj eu]
    exact hu
  · have := nodup_len _ (ws.map encI) nd fun y hy => (e y).mp hy
    rw [List.length_map, List.length_map] at this
    exact this
theorem fold_flat {α β : Type} (g : α → List β) : ∀ (l : List α) (z : List β), l.foldl (fun F a => F ++ g a) z = z ++ l.flatMap g
  | [], z => by rw [List.flatMap_nil, List.append_nil]; rfl
  | a :: l, z => by rw [List.foldl_cons, fold_flat g l, List.flatMap_cons, List.append_assoc]
theorem enc_map (ws : List IW) : ws.map iwD = (ws.map encI).map tupI := by rw [List.map_map]; rfl
def nbI (i : Nat) : Nat := 31 * 2 ^ i - 1
def cntI : Nat → Nat
  | 0 => 7
  | 1 => 12
  | _ => 36
section
variable {E : En}
abbrev C__law_is_void : List Sl → (PyData → Prop) → Prop := fun ss P => ∃ (k : Nat) (ws : List IW), ss = [.dat (.list (ws.map iwD)), .dat (int k)] ∧ k ≤ 3 ∧ ws.length ≤ 7 ∧ (∀ w ∈ ws, w.1.length = k + 1 ∧ (w.2 = 0 ∨ w.2 = 1) ∧ ∀ y ∈ w.1, y.natAbs < 2 ^ 30) ∧ ∀ r : Bool, (r = true ↔ ¬ SatI k ws) → P (.bool r)
theorem D__law_is_void (B : BC E) (A : At E "_law_is_void" s__law_is_void ["_law_wishes", "_law_size"]) (D__law_lowered : Def E 2 "_law_lowered" ["_law_wish"] [] C__law_lowered) (D__law_joined_wish : Def E 3 "_law_joined_wish" ["_law_one", "_law_two", "_law_spot"] [] C__law_joined_wish) : Def E 4 "_law_is_void" ["_law_wishes", "_law_size"] [] C__law_is_void := by
  refine def_at A c__law_is_void (fun ss P h => by obtain ⟨k, ws, rfl, _⟩ := h; rfl) fun ss P h => ?_
  obtain ⟨k, ws, rfl, hk3, hl, hw, p⟩ := h
  refine js_cons (j1_set 2 (by decide +kernel) rfl (by first | exact Or.inl rfl | exact Or.inr rfl) ?_)
  refine je_sortedSet B.sorted rfl B.set_ rfl ?_
  refine je_lc1 7 (by decide +kernel) (by decide +kernel) rfl rfl ?_
  refine ji_list ?_
  refine je_var 0 rfl (by first | exact Or.inl rfl | exact Or.inr (Or.inl rfl) | exact Or.inr (Or.inr rfl)) rfl (by intro z; cases z) ?_
  refine ⟨_, rfl, lcMap ws iwD (fun w => iwD (lowI w)) (by omega) (fun w h => ?_) ?_⟩
  · refine je_call D__law_lowered (Nat.le_of_ble_eq_true rfl) rfl ?_
    refine ja_cons ?_
    refine je_var 7 rfl (by first | exact Or.inl rfl | exact Or.inr (Or.inl rfl) | exact Or.inr (Or.inr rfl)) rfl (by intro z; cases z) ?_
    refine ja_nil ?_
    exact ⟨w, rfl, fun y hy => Nat.lt_of_lt_of_le ((hw w h).2.2 y hy) (pow_le (by decide)), by rw [(hw w h).1]; omega, rfl⟩
  have e1 : ws.map (fun w => iwD (lowI w)) = ((ws.map lowI).map encI).map tupI := by rw [List.map_map, List.map_map]; rfl
  rw [e1]
  refine ⟨(ws.map lowI).map encI, (ws.map lowI).map encI, rfl, fun x hx => ⟨?_, hx⟩, by rw [List.length_map, List.length_map]; omega, fun ys nd hm => ?_⟩
  · obtain ⟨v, _, rfl⟩ := List.mem_map.mp hx
    unfold encI
    exact fun z => by simpa using z
  obtain ⟨vs, rfl, hv, hvl⟩ := set_iws nd hm
  rw [List.length_map] at hvl
  rw [← enc_map]
  have lv0 : Lv k 0 (nbI 0) vs := fun v hvv => by
    obtain ⟨w, h, rfl⟩ := List.mem_map.mp ((hv v).mp hvv)
    exact low_lv (hw w h).1 (hw w h).2.1 (hw w h).2.2
  have sat0 : SatI k vs ↔ SatI k ws := (sat_same hv).trans sat_low
  clear hm nd hv e1
  refine js_cons (j1_for ?_)
  refine ji_range1 B.range_ rfl ?_
  refine je_var 1 rfl (by first | exact Or.inl rfl | exact Or.inr (Or.inl rfl) | exact Or.inr (Or.inr rfl)) rfl (by intro z; cases z) ?_
  refine ⟨k, rfl, by omega, ?_⟩
  refine for_inv [3, 4, 5, 6] (List.range k) int (fun (q : List IW) => [.dat (.list (ws.map iwD)), .dat (int k), .dat (.list (q.map iwD)), .no, .no, .no, .no, .no, .no]) (fun i q => Lv k i (nbI i) q ∧ (i < k → q.length ≤ cntI i) ∧ q.length ≤ 2000 ∧ (SatI k q ↔ SatI k ws)) vs rfl rfl ⟨lv0, fun _ => by show vs.length ≤ 7; omega, by omega, sat0⟩ (fun i a q ha hq => ?_) (fun ρ' q hq e => js_forget [3, 4, 5, 6] e ?_)
  · have hi : i < k := by
      have := (List.getElem?_eq_some_iff.mp ha).1
      rw [List.length_range] at this
      exact this
    have ea : a = i := by
      rw [List.getElem?_range hi] at ha
      exact (Option.some.inj ha).symm
    subst ea
    obtain ⟨lv, hc, _, sat⟩ := hq
    have hc := hc hi
    have hc36 : q.length ≤ 36 := Nat.le_trans hc (by match a with | 0 => decide | 1 => decide | _ + 2 => exact Nat.le_refl _)
    have hnb : nbI a ≤ 400 := by
      have : a = 0 ∨ a = 1 ∨ a = 2 := by omega
      rcases this with h | h | h <;> rw [h] <;> decide
    have at_w : ∀ w ∈ q, atI ((w.1 ++ [w.2]).map PyData.int) (a : Int) = some (.int (getI w.1 a)) := fun w h => atI_int _ (by rw [(lv w h).len]; omega)
    refine jg_name 3 (by decide +kernel) rfl (by first | exact Or.inl rfl | exact Or.inr rfl) ?_
    refine js_cons (j1_setLc1 4 7 (by decide +kernel) rfl rfl (by decide +kernel) rfl rfl (by intro env h; cases env; cases h; first | rfl | with_unfolding_all rfl) ?_)
    refine ji_list ?_
    refine je_var 2 rfl (by first | exact Or.inl rfl | exact Or.inr (Or.inl rfl) | exact Or.inr (Or.inr rfl)) rfl (by intro z; cases z) ?_
    refine ⟨_, rfl, lcKeep q iwD iwD (fun w => decide (getI w.1 a = 0)) (by omega) (fun w h => ?_) (fun w h _ => ?_) ?_⟩
    · refine jt_cmp ?_
      refine je_ix ?_
      refine je_var 7 rfl (by first | exact Or.inl rfl | exact Or.inr (Or.inl rfl) | exact Or.inr (Or.inr rfl)) rfl (by intro z; cases z) ?_
      refine je_var 3 rfl (by first | exact Or.inl rfl | exact Or.inr (Or.inl rfl) | exact Or.inr (Or.inr rfl)) rfl (by intro z; cases z) ?_
      refine ⟨_, _, _, rfl, rfl, at_w w h, ?_⟩
      refine je_int ?_
      refine jo_eqI ?_
      refine ⟨_, rfl, ?_⟩
      rfl
    · refine je_var 7 rfl (by first | exact Or.inl rfl | exact Or.inr (Or.inl rfl) | exact Or.inr (Or.inr rfl)) rfl (by intro z; cases z) ?_
      rfl
    refine js_cons (j1_setLc1 5 7 (by decide +kernel) rfl rfl (by decide +kernel) rfl rfl (by intro env h; cases env; cases h; first | rfl | with_unfolding_all rfl) ?_)
    refine ji_list ?_
    refine je_var 2 rfl (by first | exact Or.inl rfl | exact Or.inr (Or.inl rfl) | exact Or.inr (Or.inr rfl)) rfl (by intro z; cases z) ?_
    refine ⟨_, rfl, lcKeep q iwD iwD (fun w => decide (getI w.1 a < 0)) (by omega) (fun w h => ?_) (fun w h _ => ?_) ?_⟩
    · refine jt_cmp ?_
      refine je_ix ?_
      refine je_var 7 rfl (by first | exact Or.inl rfl | exact Or.inr (Or.inl rfl) | exact Or.inr (Or.inr rfl)) rfl (by intro z; cases z) ?_
      refine je_var 3 rfl (by first | exact Or.inl rfl | exact Or.inr (Or.inl rfl) | exact Or.inr (Or.inr rfl)) rfl (by intro z; cases z) ?_
      refine ⟨_, _, _, rfl, rfl, at_w w h, ?_⟩
      refine je_int ?_
      refine jo_lt ?_
      refine ⟨_, rfl, ?_⟩
      rfl
    · refine je_var 7 rfl (by first | exact Or.inl rfl | exact Or.inr (Or.inl rfl) | exact Or.inr (Or.inr rfl)) rfl (by intro z; cases z) ?_
      rfl
    refine js_cons (j1_for ?_)
    refine ji_list ?_
    refine je_lc1 7 (by decide +kernel) (by decide +kernel) rfl rfl ?_
    refine ji_list ?_
    refine je_var 2 rfl (by first | exact Or.inl rfl | exact Or.inr (Or.inl rfl) | exact Or.inr (Or.inr rfl)) rfl (by intro z; cases z) ?_
    refine ⟨_, rfl, lcKeep q iwD iwD (fun w => decide (0 < getI w.1 a)) (by omega) (fun w h => ?_) (fun w h _ => ?_) ?_⟩
    · refine jt_cmp ?_
      refine je_ix ?_
      refine je_var 7 rfl (by first | exact Or.inl rfl | exact Or.inr (Or.inl rfl) | exact Or.inr (Or.inr rfl)) rfl (by intro z; cases z) ?_
      refine je_var 3 rfl (by first | exact Or.inl rfl | exact Or.inr (Or.inl rfl) | exact Or.inr (Or.inr rfl)) rfl (by intro z; cases z) ?_
      refine ⟨_, _, _, rfl, rfl, at_w w h, ?_⟩
      refine je_int ?_
      refine jo_gt ?_
      refine ⟨_, rfl, ?_⟩
      rfl
    · refine je_var 7 rfl (by first | exact Or.inl rfl | exact Or.inr (Or.inl rfl) | exact Or.inr (Or.inr rfl)) rfl (by intro z; cases z) ?_
      rfl
    refine ⟨_, rfl, ?_⟩
    have eR : roundI q a = (q.filter fun w => decide (getI w.1 a = 0)) ++ ((q.filter fun w => decide (0 < getI w.1 a)).flatMap fun u => (q.filter fun w => decide (getI w.1 a < 0)).map fun v => lowI (joinI u v a)) := rfl
    have hmU : ∀ u ∈ q.filter (fun w => decide (0 < getI w.1 a)), u ∈ q := fun u h => (List.mem_filter.mp h).1
    have hmD : ∀ u ∈ q.filter (fun w => decide (getI w.1 a < 0)), u ∈ q := fun u h => (List.mem_filter.mp h).1
    have lZ : (q.filter fun w => decide (getI w.1 a = 0)).length ≤ 36 := Nat.le_trans (List.length_filter_le _ _) hc36
    have lU : (q.filter fun w => decide (0 < getI w.1 a)).length ≤ 36 := Nat.le_trans (List.length_filter_le _ _) hc36
    have lD : (q.filter fun w => decide (getI w.1 a < 0)).length ≤ 36 := Nat.le_trans (List.length_filter_le _ _) hc36
    have rlv := round_lv lv hi
    have rsat := (round_sat (fun w h => ⟨(lv w h).len, (lv w h).st⟩) hi).trans sat
    have r7 : a = 0 → (roundI q a).length ≤ 12 := fun h => round7 a (by rw [h] at hc; exact hc)
    have r12 : a = 1 → (roundI q a).length ≤ 36 := fun h => round12 a (by rw [h] at hc; exact hc)
    have rlen := round_len q a
    rw [eR] at rlv rsat r7 r12 rlen
    generalize q.filter (fun w => decide (getI w.1 a = 0)) = Z at rlv rsat r7 r12 rlen lZ ⊢
    generalize q.filter (fun w => decide (0 < getI w.1 a)) = U at rlv rsat r7 r12 rlen lU hmU ⊢
    generalize q.filter (fun w => decide (getI w.1 a < 0)) = D at rlv rsat r7 r12 rlen lD hmD ⊢
    have rlen2 : (Z ++ U.flatMap fun u => D.map fun v => lowI (joinI u v a)).length ≤ 36 + 36 * 36 := by
      rw [rlen]
      exact Nat.add_le_add lZ (Nat.mul_le_mul lU lD)
    refine for_fold [6] U iwD (fun (F : List IW) => [.dat (.list (ws.map iwD)), .dat (int k), .dat (.list (q.map iwD)), .dat (int a), .dat (.list (F.map iwD)), .dat (.list (D.map iwD)), .no, .no, .no]) (fun F u => F ++ D.map fun v => lowI (joinI u v a)) Z rfl rfl (fun j u hu => ?_) (fun ρ' e => js_forget [6] e ?_)
    · rw [fold_flat]
      have hlen : (Z ++ (U.take j).flatMap fun u => D.map fun v => lowI (joinI u v a)).length ≤ 36 + 36 * 36 := by
        rw [List.length_append, List.flatMap_def, flat_len (fun (x : IW) => x) D.length _ fun x hx => ?_, List.length_map, List.length_take]
        · exact Nat.add_le_add lZ (Nat.mul_le_mul (by omega) lD)
        · obtain ⟨w, _, rfl⟩ := List.mem_map.mp hx
          exact List.length_map ..
      generalize Z ++ (U.take j).flatMap (fun u => D.map fun v => lowI (joinI u v a)) = F at hlen
      have qu := lv u (hmU u (List.mem_of_getElem? hu))
      refine jg_name 6 (by decide +kernel) rfl (by first | exact Or.inl rfl | exact Or.inr rfl) ?_
      refine js_cons (j1_set 4 (by decide +kernel) rfl (by first | exact Or.inl rfl | exact Or.inr rfl) ?_)
      refine je_bin ?_
      refine je_var 4 rfl (by first | exact Or.inl rfl | exact Or.inr (Or.inl rfl) | exact Or.inr (Or.inr rfl)) rfl (by intro z; cases z) ?_
      refine je_lc1 8 (by decide +kernel) (by decide +kernel) rfl rfl ?_
      refine ji_list ?_
      refine je_var 5 rfl (by first | exact Or.inl rfl | exact Or.inr (Or.inl rfl) | exact Or.inr (Or.inr rfl)) rfl (by intro z; cases z) ?_
      refine ⟨_, rfl, lcMap D iwD (fun v => iwD (lowI (joinI u v a))) (by omega) (fun v hvv => ?_) ?_⟩
      · have qv := lv v (hmD v hvv)
        refine je_call D__law_joined_wish (Nat.le_of_ble_eq_true rfl) rfl ?_
        refine ja_cons ?_
        refine je_var 6 rfl (by first | exact Or.inl rfl | exact Or.inr (Or.inl rfl) | exact Or.inr (Or.inr rfl)) rfl (by intro z; cases z) ?_
        refine ja_cons ?_
        refine je_var 8 rfl (by first | exact Or.inl rfl | exact Or.inr (Or.inl rfl) | exact Or.inr (Or.inr rfl)) rfl (by intro z; cases z) ?_
        refine ja_cons ?_
        refine je_var 3 rfl (by first | exact Or.inl rfl | exact Or.inr (Or.inl rfl) | exact Or.inr (Or.inr rfl)) rfl (by intro z; cases z) ?_
        refine ja_nil ?_
        exact ⟨u, v, a, nbI a, rfl, qu.len.trans qv.len.symm, by rw [qu.len]; omega, by rw [qu.len]; omega, hnb, qu.sz, qv.sz, rfl⟩
      · refine jo_catL ?_ ?_
        · rw [List.length_map, List.length_map]; omega
        refine js_nil ?_
        have e : F.map iwD ++ D.map (fun v => iwD (lowI (joinI u v a))) = (F ++ D.map fun v => lowI (joinI u v a)).map iwD := by rw [List.map_append, List.map_map]; rfl
        rw [e]
        rfl
    · rw [fold_flat]
      generalize hF : Z ++ U.flatMap (fun u => D.map fun v => lowI (joinI u v a)) = F at rlv rsat r7 r12 rlen2
      refine js_cons (j1_set 2 (by decide +kernel) rfl (by first | exact Or.inl rfl | exact Or.inr rfl) ?_)
      refine je_sortedSet B.sorted rfl B.set_ rfl ?_
      refine je_var 4 rfl (by first | exact Or.inl rfl | exact Or.inr (Or.inl rfl) | exact Or.inr (Or.inr rfl)) rfl (by intro z; cases z) ?_
      have few : ∃ zs : List (List Int), (∀ x ∈ F.map encI, x ∈ zs) ∧ zs.length < 63 := by
        have : a = 0 ∨ a = 1 ∨ a = 2 := by omega
        rcases this with h | h | h
        · exact ⟨F.map encI, fun x hx => hx, by rw [List.length_map]; have := r7 h; omega⟩
        · exact ⟨F.map encI, fun x hx => hx, by rw [List.length_map]; have := r12 h; omega⟩
        · have hka : k = a + 1 := by omega
          refine ⟨six k, fun x hx => ?_, by rw [six_len]; decide⟩
          obtain ⟨w, hww, rfl⟩ := List.mem_map.mp hx
          rw [← hka] at rlv
          exact final_few rlv w hww
      obtain ⟨zs, hzs, hzl⟩ := few
      refine ⟨F.map encI, zs, by rw [enc_map], fun x hx => ⟨?_, hzs x hx⟩, hzl, fun ys nd hm => ?_⟩
      · obtain ⟨v, _, rfl⟩ := List.mem_map.mp hx
        unfold encI
        exact fun z => by simpa using z
      obtain ⟨us, rfl, hu, hul⟩ := set_iws nd hm
      rw [← enc_map us]
      refine js_nil ?_
      refine ⟨us, ⟨?_, fun h => ?_, by omega, (sat_same hu).trans rsat⟩, rfl⟩
      · have := lv_same rlv hu
        have en : 2 * nbI a + 1 = nbI (a + 1) := by unfold nbI; rw [Nat.pow_succ]; have := Nat.two_pow_pos a; omega
        rw [en] at this
        exact this
      · have : a = 0 ∨ a = 1 := by omega
        rcases this with h | h
        · have := r7 h
          rw [h]
          show us.length ≤ 12
          omega
        · have := r12 h
          rw [h]
          show us.length ≤ 36
          omega
  · rw [List.length_range] at hq
    obtain ⟨lv, _, hl2000, sat⟩ := hq
    refine js_cons (j1_ret ?_)
    refine je_callB B.any rfl rfl ?_
    refine ja_cons ?_
    refine je_lc1 7 (by decide +kernel) (by decide +kernel) rfl rfl ?_
    refine ji_list ?_
    refine je_var 2 rfl (by first | exact Or.inl rfl | exact Or.inr (Or.inl rfl) | exact Or.inr (Or.inr rfl)) rfl (by intro z; cases z) ?_
    refine ⟨_, rfl, lcMap q iwD (fun w => .bool (decide (getI w.1 k < w.2))) (by omega) (fun w h => ?_) ?_⟩
    · refine je_cmp ?_
      refine je_ix ?_
      refine je_var 7 rfl (by first | exact Or.inl rfl | exact Or.inr (Or.inl rfl) | exact Or.inr (Or.inr rfl)) rfl (by intro z; cases z) ?_
      refine je_var 1 rfl (by first | exact Or.inl rfl | exact Or.inr (Or.inl rfl) | exact Or.inr (Or.inr rfl)) rfl (by intro z; cases z) ?_
      refine ⟨_, _, _, rfl, rfl, atI_int _ (by rw [(lv w h).len]; omega), ?_⟩
      refine je_ix ?_
      refine je_var 7 rfl (by first | exact Or.inl rfl | exact Or.inr (Or.inl rfl) | exact Or.inr (Or.inr rfl)) rfl (by intro z; cases z) ?_
      refine je_bin ?_
      refine je_var 1 rfl (by first | exact Or.inl rfl | exact Or.inr (Or.inl rfl) | exact Or.inr (Or.inr rfl)) rfl (by intro z; cases z) ?_
      refine je_int ?_
      refine jo_add ?_
      refine ⟨_, ((k + 1 : Nat) : Int), _, rfl, rfl, atI_st _ (by rw [(lv w h).len]), ?_⟩
      refine jo_lt ?_
      rfl
    · have e : q.map (fun w => PyData.bool (decide (getI w.1 k < w.2))) = (q.map fun w => decide (getI w.1 k < w.2)).map .bool := by rw [List.map_map]; rfl
      rw [e]
      refine ja_nil ?_
      refine jc_any ?_
      refine ⟨_, rfl, p _ ?_⟩
      rw [← sat, final_sat lv, List.any_eq_true]
      constructor
      · rintro ⟨b, hb, h⟩ hn
        obtain ⟨w, hww, rfl⟩ := List.mem_map.mp hb
        exact hn w hww (of_decide_eq_true h)
      · intro hn
        obtain ⟨w, hn⟩ := Classical.not_forall.mp hn
        obtain ⟨hww, hn⟩ := Classical.not_imp.mp hn
        exact ⟨true, List.mem_map.mpr ⟨w, hww, decide_eq_true (Classical.not_not.mp hn)⟩, rfl⟩
end
end W6
end
section
set_option Elab.async false
set_option linter.all false
set_option maxRecDepth 100000
set_option maxHeartbeats 4000000
/-! Rules of the layer: defs that ask that nothing is under way (repr), a call by keywords alone, a new well. -/
namespace W6
open PySem PySem.Spec PyProof.Rows L2
/-- nothing is under way -/
abbrev Calm0 (A : Around) : Prop := A.guards = some []
/-- a def that keeps its promise where nothing is under way -/
structure FnG (P : Program) (w : World) (K : PySem.W.Frag) (mg : Str → Option Value) (base : Heap) (k : Nat) (f : Addr) (fd : FuncData) (ps : List Str) (sp : Sp) : Prop where
  len : ∀ vs H Q Ex, sp vs H Q Ex → vs.length = ps.length
  run : ∀ (A : Around) (outer : List Env) (s : Shared) (H : Hp) (args : Args) (us : List Value) (vs : List V) (Q : VK) (Ex : XK), Calm0 A → Room k A → Env0 P w K mg base A outer s H → BindsTo s fd args (ps.zip us) → Vals vs us → sp vs H Q Ex →
    codeAny (model P w) A (.call (.ref f) args) (CR CX0 outer P w H s Q Ex) s
theorem fnG_of {P : Program} {w : World} {K : PySem.W.Frag} {mg : Str → Option Value} {base : Heap} {k : Nat} {f : Addr} {fd : FuncData} {x : Str} {stm : Stmt} {N ps : List Str} {sp : Sp} (F : Fun K x x stm f fd) (S : FnScope N ps (defScope stm)) (len : ∀ vs H Q Ex, sp vs H Q Ex → vs.length = ps.length)
    (hbody : ∀ (cdv : Value) (A : Around) (outer : List Env) (s : Shared) (H : Hp) (vs : List V) (Q : VK) (Ex : XK), Calm0 A → Room k (A.deeper (envOfC x (defScope stm) s.heap.objs.size f cdv)) → sp vs H Q Ex →
      ∃ t, PSs (cxOf CX0 P w K mg base N x (defScope stm) f cdv A outer s H Ex).nox (defBody stm) t ∧ t { nx := fun _ H' => Q .non H', rt := Q } (start N vs) H) : FnG P w K mg base (k + 1) f fd ps sp := by
  obtain ⟨oc, od, kV, doc, pm, an, cdv, ct, osl, rfl, lk, hcd⟩ := F.ex
  refine ⟨len, fun A outer s H args us vs Q Ex cA hr e0 hb r hsp => ?_⟩
  have keep : ∀ b o, base.get? b = some o → s.heap.get? b = some o := fun b o e => (e0.bs b o e).1
  have kin : K.In s.heap := e0.mod.kin.keeps keep
  have lim : s.heap.NoLimit := e0.mod.nolimit.keeps keep
  have hkind : ∀ y ∈ ps.zip us, (defScope stm).names.lookup y.1 = some .local ∨ ((defScope stm).names.lookup y.1 = some .cell ∧ ((cellsFrom (s.heap.objs.size + 1) (defScope stm).names []).lookup y.1).isSome = true) := fun y hy =>
    (S.par y.1 (List.of_mem_zip (a := y.1) (b := y.2) hy).1).imp id fun q => ⟨q, PySem.W.cellsFrom_some _ _ _ (.inl q)⟩
  refine codeAny_call_function hr.depth (kin _ _ lk) rfl S.co S.gen rfl (PySem.W.codeRec_of kin hcd) (hb _ _ _ _ (wpAny_newFunctionEnv_cells S.kind hkind fun env he s1 xc => ?_))
  subst he
  refine ⟨lim.keeps xc.toInCall.keep, codeAny_func ?_⟩
  obtain ⟨t, ht, hq⟩ := hbody cdv A outer s H vs Q Ex cA (hr.deeper _) hsp
  have I := inv_start (CX := CX0) (P := P) (qual := x) (cd := cdv) (f := f) (E := Ex) S hr.hd e0 (len _ _ _ _ hsp) r xc
  refine wpAny_mono (ht.nox.run [] s1 (start N vs) H _ I hq) (fun fl s' hs => ?_) fun e s' hs => hs
  have done : ∀ {σ' : L2.St} {H' : Hp} {v : V} {u : Value}, Inv (cxOf CX0 P w K mg base N x (defScope stm) f cdv A outer s H Ex) [] σ' H' s' → RelV v u → Q v H' → CE outer P w H s Q u s' := fun {σ' H' v u} J rv q => ⟨v, H', J.os, J.bare, J.base, J.hok, rv, q⟩
  match fl, hs with
  | .ret u, ⟨v, σ', H', J, rv, q⟩ => exact done J rv q
  | .next, ⟨σ', H', J, q⟩ => exact done (v := V.non) (u := Value.none) J rfl q
  | .brk, ⟨_, _, _, q⟩ => exact False.elim q
  | .cont, ⟨_, _, _, q⟩ => exact False.elim q
section
variable {X : Cx} {k n : Nat} {f : Addr} {fd : FuncData} {ps ks : List Str} {sp : Sp} {ds : List Value} {dvs : List V} {x : Str} {p pos : Pos} {e : Expr} {es : List Expr} {kws : List Keyword} {t tk : TA} {g : List Value → List Value → List Value} {gV : List V → List V → List V}
theorem pe_callG (F : FnG X.prog X.w X.K X.mg X.base k f fd ps sp) (cA : Calm0 X.A) (hr : Room k X.A) (hg : Gl X x) (hm : X.mg x = some (.ref f)) (hk : PySem.W.keepIn X.K (.ref f) = true) (hb : Binds X.K fd ps [])
    (ha : PA X (e :: es) t) (hdb : (x == ("__debug__" : Str)) = false := by decide) (he : starEach (e :: es) X.env = (false, eval e X.env) :: starEach es X.env := by rfl) (hpl : (backTo pos (starEach es X.env)).any (·.1) = false := by rfl) :
    PE X (.Call (.Name x p) (e :: es) [] pos) (fun σ H Q => t σ H fun vs H1 => sp vs H1 Q fun _ _ _ => False) := by
  refine ⟨fun pins s σ H Q I h => wpAny_Call_Name_kw (ld_glob I hg hm ?_ hdb)⟩
  refine PySem.W.callWith_K (h₀ := X.base) I.ok.mod.kin hk (thn (ha.run pos pins s σ H _ I h) fun us s1 ⟨vs, H1, I1, r, q⟩ => ⟨I1.kIn, ?_⟩) he hpl
  have hl : us.length = ps.length := r.length.symm.trans (F.len _ _ _ _ q)
  have hbt := hb s1 us I1.kIn (by rw [List.append_nil]; exact hl)
  rw [List.append_nil] at hbt
  refine wpAny_call (codeAny_mono (F.run X.A X.stack s1 H1 ⟨us, []⟩ us vs Q _ cA hr I1.env0 hbt r q) fun rr s' hq => ?_)
  match rr, hq with
  | .error e, hq => exact (pass0 pins σ H1 s1 e s' I1 hq)
  | .ok (.ret u), hq => exact I1.after hq
  | .ok .next, hq => exact False.elim hq
  | .ok .brk, hq => exact False.elim hq
  | .ok .cont, hq => exact False.elim hq
/-- f(k = v, ..) -/
theorem pe_callN0 (F : FnOk X.prog X.w X.K X.mg X.base CX0 k f fd ps sp) (hr : Room k X.A) (hg : Gl X x) (hm : X.mg x = some (.ref f)) (hk : PySem.W.keepIn X.K (.ref f) = true) (hb : KBn X.K fd ps 0 ks g gV)
    (hkw : PK X kws tk) (hall : (backToKw pos (keywordEach kws X.env)).all (·.1.isSome) = true) (hks : (backToKw pos (keywordEach kws X.env)).filterMap (·.1) = ks) (hpl : ((backTo pos (starEach [] X.env)).any (·.1) || (backToKw pos (keywordEach kws X.env)).any (·.1.isNone)) = false) (hdb : (x == ("__debug__" : Str)) = false := by decide) :
    PE X (.Call (.Name x p) [] kws pos) (fun σ H Q => tk σ H fun zs H1 => zs.length = ks.length ∧ sp (gV [] zs) H1 Q fun _ _ _ => False) := by
  refine ⟨fun pins s σ H Q I h => wpAny_Call_Name_kw (ld_glob I hg hm ?_ hdb)⟩
  refine PySem.W.callWith_KW0 (h₀ := X.base) I.ok.mod.kin hk hall (thn (hkw.run pos pins s σ H _ I h) fun ws s2 ⟨zs, H2, I2, rz, l2, q2⟩ => ⟨I2.kIn, ?_⟩) hpl
  rw [hks]
  exact run_fnN (us := []) (vs := []) F hr hb pass0 I2 .nil rz rfl l2 q2
end
structure DefG (E : En) (k : Nat) (x : Str) (ps : List Str) (C : List Sl → (PyData → Prop) → Prop) : Prop where
  ex : ∃ f fd, FnG E.P E.w E.K E.mg E.base k f fd ps (spC E.K C) ∧ E.mg x = some (.ref f) ∧ PySem.W.keepIn E.K (.ref f) = true ∧ Binds E.K fd ps []
theorem def_body2 {E : En} {N : List Str} {qual : Str} {sc : Scope} {k : Nat} {f : Addr} {C : List Sl → (PyData → Prop) → Prop} {body : List Stmt} {q0 : Around → Prop} (h : ∀ ss P, C ss P → JS E ⟨N, sc, true, k, q0⟩ false (ss ++ List.replicate (N.length - ss.length) .no) body ⟨fun _ => P .none, P, fun _ => False, fun _ => False⟩)
    (cdv : Value) (A : Around) (outer : List Env) (s : Shared) (H : Hp) (vs : List V) (Q : VK) (Ex : XK) (hq0 : q0 (A.deeper (envOfC qual sc s.heap.objs.size f cdv))) (hr : Room k (A.deeper (envOfC qual sc s.heap.objs.size f cdv))) (hsp : spC E.K C vs H Q Ex) :
    ∃ t, PSs (cxOf CX0 E.P E.w E.K E.mg E.base N qual sc f cdv A outer s H Ex).nox body t ∧ t { nx := fun _ H' => Q .non H', rt := Q } (L2.start N vs) H := by
  obtain ⟨W, M, ss, P, st, ok, hC, q⟩ := hsp
  refine ⟨_, pss_se, ?_⟩
  exact h ss P hC _ ⟨rfl, rfl, rfl, rfl, rfl, rfl, rfl, rfl, hr, rfl, fun _ _ => rfl, hq0⟩ W M none (L2.start N vs) H rfl st (start_ok N ok) _ ⟨fun σ' H' ρ' e s en p => q .non .none H' e.none s .non p, fun v d H' e s dv p => q v d H' e.none s dv p, fun _ _ _ _ _ _ z => z.elim, fun _ _ _ _ _ _ z => z.elim⟩
theorem def_atG {E : En} {x : Str} {stm : Stmt} {N ps : List Str} {k : Nat} {C : List Sl → (PyData → Prop) → Prop} (A : At E x stm ps) (S : FnScope N ps (defScope stm)) (hl : ∀ ss P, C ss P → ss.length = ps.length)
    (h : ∀ ss P, C ss P → JS E ⟨N, defScope stm, true, k, Calm0⟩ false (ss ++ List.replicate (N.length - ss.length) .no) (defBody stm) ⟨fun _ => P .none, P, fun _ => False, fun _ => False⟩) : DefG E (k + 1) x ps C := by
  obtain ⟨f, fd, F, hm, hb⟩ := A.ex
  refine ⟨f, fd, fnG_of F S (fun vs H Q Ex hsp => ?_) (fun cdv A outer s H vs Q Ex cA hr hsp => def_body2 h cdv A outer s H vs Q Ex cA hr hsp), hm, F.kp, hb⟩
  obtain ⟨W, M, ss, P, st, ok, hC, q⟩ := hsp
  rw [← hl ss P hC]
  exact Paired.length ok
/-- the def that makes a new well -/
def spW (K : PySem.W.Frag) : Sp := fun vs H Q _ => ∃ (sa : Addr) (ns : List Int) (i : Nat), vs = [.ref sa, .int (i : Int)] ∧ SqL K H sa (ns.map V.int) ∧ ns.length ≤ 100000 ∧ ∀ p x y z H1, Same H H1 → H1 p = none → Q (.ref p) (upd H1 p (.lst [.int x, .int y, .int z]))
structure DefW (E : En) (k : Nat) (x : Str) (ps : List Str) : Prop where
  ex : ∃ f fd, FnOk E.P E.w E.K E.mg E.base CX0 k f fd ps (spW E.K) ∧ E.mg x = some (.ref f) ∧ PySem.W.keepIn E.K (.ref f) = true ∧ Binds E.K fd ps []
section
variable {E : En} {Γ : Ctx} {ρ : List Sl} {pos : Pos} {P : Sl → Prop}
/-- f(g(a, b)), g making a new well -/
theorem je_callWell {x y : Str} {j1 j2 : Nat} {ps1 ps2 : List Str} {C : List Sl → (PyData → Prop) → Prop} {p1 p2 pp : Pos} {a b : Expr} (D1 : DefG E j1 x ps1 C) (D2 : DefW E j2 y ps2) (hk1 : j1 ≤ Γ.k) (hk2 : j2 ≤ Γ.k) (hg1 : Glo Γ x) (hg2 : Glo Γ y) (hq : ∀ A, Γ.q A → Calm0 A) (hC : C [.well] fun d => d = .bool true) (p : P (.dat (.bool true)))
    (h : JE E Γ ρ a fun s => JE E Γ ρ b fun t => ∃ (ns : List Int) (i : Nat), s = .scr ns ∧ t = .dat (.int (i : Int)) ∧ ns.length ≤ 100000)
    (hd1 : (x == ("__debug__" : Str)) = false := by decide) (hd2 : (y == ("__debug__" : Str)) = false := by decide)
    (na : ∀ env, starEach [a, b] env = (false, eval a env) :: starEach [b] env := by intro _; rfl) (nb : ∀ env, starEach [b] env = (false, eval b env) :: starEach [] env := by intro _; rfl) (np : ∀ env, (backTo pp (starEach [b] env)).any (·.1) = false := by intro _; rfl)
    (ne : ∀ env, starEach [.Call (.Name y p2) [a, b] [] pp] env = (false, eval (.Call (.Name y p2) [a, b] [] pp) env) :: starEach [] env := by intro _; rfl) (nq : ∀ env, (backTo pos (starEach [] env)).any (·.1) = false := by intro _; rfl) :
    JE E Γ ρ (.Call (.Name x p1) [.Call (.Name y p2) [a, b] [] pp] [] pos) P := je_of fun X g W M O σ H st en => by
  obtain ⟨f1, fd1, F1, m1, k1, b1⟩ := D1.ex
  obtain ⟨f2, fd2, F2, m2, k2, b2⟩ := D2.ex
  have F1 : FnG X.prog X.w X.K X.mg X.base j1 f1 fd1 ps1 (spC X.K C) := by rw [g.prog, g.w, g.K, g.mg, g.base]; exact F1
  have F2 : FnOk X.prog X.w X.K X.mg X.base CX0 j2 f2 fd2 ps2 (spW X.K) := by
    have := g.fnok F2
    rw [← g.K] at this
    exact this
  refine ⟨_, pe_callG F1 (hq _ g.q) (g.room.mono hk1) (g.gl hg1) (by rw [g.mg]; exact m1) (by rw [g.K]; exact k1) (by rw [g.K]; exact b1)
    (pa_cons (pe_call F2 (g.room.mono hk2) (g.gl hg2) (by rw [g.mg]; exact m2) (by rw [g.K]; exact k2) (by rw [g.K]; exact b2) .nil pass0 (pa_cons (pe_se (e := a)) (pa_cons (pe_se (e := b)) pa_nil (nb _)) (na _)) hd2 (na _) (np _)) pa_nil (ne _)) hd1 (ne _) (nq _), fun Q q => ?_⟩
  refine h X g W M O σ H st en _ fun v1 s1 H1 e1 st1 o1 p1 => p1 X g W M O σ H1 st1 (en.mono st e1) _ fun v2 s2 H2 e2 st2 o2 p2 => ?_
  obtain ⟨ns, i, rfl, rfl, hl⟩ := p2
  obtain ⟨sa, rfl, hs⟩ := o1.mono st1 e2
  cases o2
  refine ⟨sa, ns, i, rfl, (wo_sub _ _).seq hs, hl, fun r cx cy cz H3 sm hr => ?_⟩
  have st3 := st2.same sm
  have nr := st3.off hr
  have hr2 : H2 r = none := by
    match hh : H2 r with
    | none => rfl
    | some o => rw [sm r o hh] at hr; cases hr
  have st4 : Stt [r] (r :: mt O M) none (upd H3 r (.lst [.int cx, .int cy, .int cz])) := by
    refine ⟨fun c hc => by rw [List.mem_singleton.mp hc]; exact List.mem_cons_self, fun c hc => ⟨cx, cy, cz, by rw [List.mem_singleton.mp hc]; exact upd_same⟩, fun c hc => ?_, fun c z => nomatch z⟩
    by_cases e : c = r
    · rw [e, upd_same]; exact fun z => nomatch z
    · rw [upd_ne e]
      exact st3.call.dom c ((List.mem_cons.mp hc).resolve_left e)
  refine ⟨[r], r :: mt O M, [.well], fun d => d = .bool true, st4, .cons ⟨r, List.mem_cons_self, rfl⟩ .nil, hC, fun v d H4 e4 st5 dv hd => ?_⟩
  subst hd
  cases dv
  refine q (.bl true) (.dat (.bool true)) H4 (fun c o n hc => ?_) ?_ (.bl true) p
  · have h3 := sm c o (e2 c o n (e1 c o n hc))
    have ne := ne_of_none h3 hr
    exact e4 c o (fun z => ne (List.mem_singleton.mp z)) (by rw [upd_ne ne]; exact h3)
  · have up : ∀ c o, H3 c = some o → H4 c = some o := fun c o hc => by
      have ne := ne_of_none hc hr
      exact e4 c o (fun z => ne (List.mem_singleton.mp z)) (by rw [upd_ne ne]; exact hc)
    exact st3.same up
end
/-! the head -/
theorem law_callG {P : Program} {w : World} {K : PySem.W.Frag} {mg mb : Str → Option Value} {k : Nat} {fa a : Addr} {fd : FuncData} {x : Str} {sp : Sp} {s₁ : Shared} {vs : List Value} {ns : List Int} (KX : K.In s₁.heap) (hns : s₁.heap.Ns mainGlobals mg) (hb : s₁.heap.Ns builtinsNs mb) (hbb : ∀ x : Str, x ≠ "__name__" → mb x = bootBuiltins x) (hlim : s₁.heap.NoLimit) (hg : s₁.gens = #[])
    (ha : s₁.heap.get? a = some { cls := .type "list", data := .seq vs.toArray }) (hi : IntsAre vs ns) (hl : ns.length ≤ sizeLine) (hr : Room k callerA) (F : ∀ base : Heap, K.In base → base.Ns mainGlobals mg → FnG P w K mg base k fa fd [x] sp) (hbind : ∀ (s : Shared) (u : Value), BindsTo s fd ⟨[u], []⟩ [(x, u)])
    (hsp : ∀ H : Hp, Only H → SqL K H a (ns.map V.int) → sp [.ref a] H (fun v _ => v = .bl true) fun _ _ _ => False) : codeAny (model P w) callerA (.call (.ref fa) ⟨[.ref a], []⟩) (fun r s' => r = .ok (.ret (.bool true)) ∧ OldK s₁.heap s'.heap ∧ s'.os = s₁.os ∧ AllBare s'.gens) s₁ := by
  have rv := vals_ints hi
  have core : ∀ H : Hp, Only H → SqL K H a (ns.map V.int) → HOk P w H s₁.heap → (∀ b, H b ≠ none → b = a) → (H a ≠ none → K.lookup a = none) → codeAny (model P w) callerA (.call (.ref fa) ⟨[.ref a], []⟩) (fun r s' => r = .ok (.ret (.bool true)) ∧ OldK s₁.heap s'.heap ∧ s'.os = s₁.os ∧ AllBare s'.gens) s₁ := by
    intro H hO hS hok hA hK
    have bare : ∀ {b : Addr} {o : Obj}, s₁.heap.get? b = some o → H b = none → (hidT s₁.heap H).get? b = some o := fun e n => hidT_get e n
    have nodict : ∀ {b : Addr} {o : Obj} {es : Array DictEntry} {ep : Nat}, s₁.heap.get? b = some o → o.data = .dict es ep → H b = none := fun {b o es ep} e d => Classical.byContradiction fun q => by
      obtain rfl := hA b q
      rw [ha] at e
      cases e
      have d' : Data.seq vs.toArray _ = Data.dict es ep := d
      cases d'
    have names : ∀ {b : Addr} {m : Str → Option Value}, s₁.heap.Ns b m → (hidT s₁.heap H).Ns b m := fun ⟨o, es, ep, e, d, r⟩ => ⟨o, es, ep, bare e (nodict e d), d, r⟩
    have hKb : K.In (hidT s₁.heap H) := fun b o e => bare (KX b o e) (Classical.byContradiction fun q => by
      obtain rfl := hA b q
      rw [hK q] at e
      cases e)
    have e0 : Env0 P w K mg (hidT s₁.heap H) callerA [] s₁ H := ⟨rfl, ⟨hKb, names hns, ⟨mb, names hb, hbb⟩, let ⟨mc, h1, h2⟩ := hlim; ⟨mc, names h1, h2⟩⟩, fun b o e => of_hidT e, Nat.le_of_eq (hidT_size _ _), trivial, fun b hb => absurd (show b ∈ ([] : List Addr) from hb) (by simp), hok, .of_eq hg⟩
    refine codeAny_mono ((F _ hKb (names hns)).run callerA [] s₁ H ⟨[.ref a], []⟩ [.ref a] [.ref a] _ _ rfl hr e0 (hbind s₁ (.ref a)) (.cons rfl .nil) (hsp H hO hS)) fun r s' h => ?_
    match r, h with
    | .error e, h => exact False.elim h
    | .ok .next, h => exact False.elim h
    | .ok .brk, h => exact False.elim h
    | .ok .cont, h => exact False.elim h
    | .ok (.ret u), ⟨v, H', os, bg, un, hok', r', q⟩ =>
      obtain rfl : v = .bl true := q
      obtain rfl : u = Value.bool true := r'
      refine ⟨rfl, OldK.of_keep fun b o e => ?_, os, bg⟩
      match q : H b with
      | none => exact un.keep b o e q (by intro z; exact absurd (show b ∈ ([] : List Addr) from z) (by simp)) (by simp)
      | some u =>
        obtain ⟨ob, xs, z⟩ := (hO b).resolve_left (by rw [q]; exact fun z => nomatch z)
        obtain ⟨e1, _⟩ := hok b _ z
        obtain ⟨e2, _⟩ := hok' b _ (un.frzs b ob _ z)
        rw [e] at e1
        cases e1
        exact e2
  match hk : K.lookup a with
  | some o =>
    have e := KX a o hk
    rw [ha] at e
    cases e
    exact core (fun _ => none) (fun _ => .inl rfl) (.inr ⟨_, vs.toArray, _, hk, rfl, rfl, rfl, by rw [List.size_toArray, hi.length]; exact hl, by simpa using rv⟩) (fun b u z => nomatch (show (none : Option HO) = some u from z)) (fun b z => absurd rfl z) fun z => absurd rfl z
  | none =>
    have at0 : ∀ {b : Addr}, b ≠ a → (if b = a then some (HO.frz { cls := .type "list", data := .seq vs.toArray } (.lst (ns.map V.int))) else none) = none := fun h => if_neg h
    refine core (fun b => if b = a then some (.frz { cls := .type "list", data := .seq vs.toArray } (.lst (ns.map V.int))) else none) (fun b => ?_) (.inl (.inr ⟨{ cls := .type "list", data := .seq vs.toArray }, if_pos rfl⟩)) (fun b u z => ?_) (fun b z => Classical.byContradiction fun hb => z (if_neg hb)) fun _ => hk
    · by_cases hb : b = a
      · exact .inr ⟨_, _, if_pos hb⟩
      · exact .inl (if_neg hb)
    · by_cases hb : b = a
      · cases (if_pos hb).symm.trans z
        subst hb
        exact ⟨ha, by rw [List.length_map]; exact hl, vs, _, rv, ha⟩
      · cases (if_neg hb).symm.trans z
theorem walk_ofG {l : PySem.W.OpenLaw} {n k : Nat} {q : Program} {loose : List Str} {XP : (Str → Option Value) → Heap → Prop} {YP : World → Heap → Prop} {d : DefRec} {K : Params → PySem.W.Frag} {sp : World → Sp} {x : Str} (hn : l.most = some n) (hn2 : n ≤ sizeLine) (hdf : d.params.defaults = []) (hr : Room k callerA) (hY : ∀ (w : World) (h : Heap), YP w h → (K w.params).In h)
    (F : ∀ (w : World) (mg : Str → Option Value) (fa : Addr) (h : Heap), (K w.params).In h → h.Ns mainGlobals mg → mg d.name = some (.ref fa) → ∃ fd : FuncData, (∀ (s : Shared) (u : Value), BindsTo s fd ⟨[u], []⟩ [(x, u)]) ∧ ∀ base : Heap, (K w.params).In base → base.Ns mainGlobals mg → FnG l.prog w (K w.params) mg base k fa fd [x] (sp w))
    (hsp : ∀ (w : World) (H : Hp) (a : Addr) (ns : List Int), ns.length ≤ n → Only H → SqL (K w.params) H a (ns.map V.int) → sp w [.ref a] H (fun v _ => v = .bl true) fun _ _ _ => False) : PySem.W.WalkO q loose XP YP l.row.toRowW d [] (fun f vs => PySem.call f vs) := by
  refine Att.attach_call hn hdf fun w s₀ s₁ mg mb fa o pm cd doc a vs ns G Y ho hd hcd hmg hobj hints hlen hg => ?_
  obtain ⟨fd, hb, hF⟩ := F w mg fa _ (hY w _ Y) G.T.g hmg
  exact law_callG (hY w _ Y) G.T.g G.T.b G.T.builtins G.T.nolimit hg hobj hints (Nat.le_trans hlen hn2) hr hF hb fun H hO hS => hsp w H a ns hlen hO hS
end W6
end
section
set_option Elab.async false
set_option linter.all false
set_option maxRecDepth 100000
set_option maxHeartbeats 4000000
set_option exponentiation.threshold 10000
/-! The walk: what the law says of a bound. -/
namespace W6
open PySem PySem.Spec PyProof.Rows L2
/-- row . x -/
def dotX : List Rat → (Nat → Rat) → Rat
  | [], _ => 0
  | c :: cs, x => c * x 0 + dotX cs fun i => x (i + 1)
theorem dotX_app (q : Rat) : ∀ (cs : List Rat) (x : Nat → Rat), dotX (cs ++ [q]) x = dotX cs x + q * x cs.length
  | [], x => by show q * x 0 + 0 = 0 + q * x 0; grind
  | c :: cs, x => by
    show c * x 0 + dotX (cs ++ [q]) (fun i => x (i + 1)) = c * x 0 + dotX cs (fun i => x (i + 1)) + q * x (cs.length + 1)
    rw [dotX_app q cs]
    grind
theorem dotX_neg : ∀ (cs : List Rat) (x : Nat → Rat), dotX (negR cs) x = - dotX cs x
  | [], x => by show (0 : Rat) = -0; grind
  | c :: cs, x => by
    show -c * x 0 + dotX (negR cs) (fun i => x (i + 1)) = -(c * x 0 + dotX cs fun i => x (i + 1))
    rw [dotX_neg cs]
    grind
/-- a point in the lot with more than the bound -/
def Beyond (k : Nat) (ws : List Wish) (row : List Rat) (b : Rat) : Prop := ∃ x : Nat → Rat, x k = -1 ∧ (∀ p ∈ ws, dotX p.1 x ≤ p.2) ∧ b < dotX row x
theorem dotI_of {L : Nat} : ∀ (Q : List Rat) (x : Nat → Rat), (∀ q ∈ Q, q.den ∣ L) → dotI (Q.map fun q => q.num * ((L / q.den : Nat) : Int)) x = (L : Rat) * dotX Q x
  | [], x, _ => by show (0 : Rat) = L * 0; grind
  | q :: Q, x, h => by
    show ((q.num * ((L / q.den : Nat) : Int) : Int) : Rat) * x 0 + dotI (Q.map fun q => q.num * ((L / q.den : Nat) : Int)) (fun i => x (i + 1)) = (L : Rat) * (q * x 0 + dotX Q fun i => x (i + 1))
    rw [dotI_of Q _ fun p hp => h p (List.mem_cons_of_mem _ hp)]
    have e : ((q.num * ((L / q.den : Nat) : Int) : Int) : Rat) = (L : Rat) * q := by
      obtain ⟨c, hc⟩ := h q List.mem_cons_self
      rw [hc, Nat.mul_div_cancel_left _ q.den_pos, Rat.intCast_mul, Rat.intCast_natCast, Rat.natCast_mul]
      have hq : q * (q.den : Rat) = (q.num : Rat) := by
        have h : q = (q.num : Rat) / (q.den : Rat) := by
          rw [← Rat.intCast_natCast, ← Rat.divInt_eq_div, Rat.num_divInt_den]
        have hne : (q.den : Rat) ≠ 0 := by
          intro z
          exact q.den_nz (Rat.natCast_inj.mp (z.trans (by rfl : (0 : Rat) = ((0 : Nat) : Rat))))
        calc q * (q.den : Rat) = (q.num : Rat) / (q.den : Rat) * (q.den : Rat) := by rw [← h]
          _ = (q.num : Rat) := Rat.div_mul_cancel hne
      rw [← hq]
      grind
    rw [e]
    grind
theorem whole_hold {Q : List Rat} {st : Int} {x : Nat → Rat} (h : ∀ q ∈ Q, q.den ∣ 288) : Hold (wholeW Q st) x ↔ if st = 0 then dotX Q x ≤ 0 else dotX Q x < 0 := by
  obtain ⟨L0, _, L2⟩ := lcmD_ok h
  have e : dotI (wholeW Q st).1 x = (lcmD Q : Rat) * dotX Q x := dotI_of Q x L2
  have lp : (0 : Rat) < (lcmD Q : Rat) := by
    rw [← Rat.intCast_natCast]
    exact Rat.intCast_pos.mpr (by omega)
  unfold Hold
  rw [e]
  show (if st = 0 then _ else _) ↔ _
  generalize (lcmD Q : Rat) = L at lp
  generalize dotX Q x = d
  split
  · constructor
    · intro h
      rcases Rat.le_total (a := d) (b := 0) with hd | hd
      · exact hd
      · by_cases hz : d = 0
        · rw [hz]; exact Rat.le_refl
        · have := Rat.mul_pos lp (Rat.lt_iff_le_and_ne.mpr ⟨hd, fun z => hz z.symm⟩)
          grind
    · exact fun h => neg_mul_le lp h
  · constructor
    · intro h
      rcases Rat.le_total (a := 0) (b := d) with hd | hd
      · have := Rat.mul_nonneg (Rat.le_of_lt lp) hd
        grind
      · by_cases hz : d = 0
        · rw [hz] at h; grind
        · exact Rat.lt_iff_le_and_ne.mpr ⟨hd, hz⟩
    · exact fun h => neg_mul_lt lp h
theorem whole_sz {Q : List Rat} {st : Int} (h : ∀ q ∈ Q, Dz 288 349 q) : ∀ y ∈ (wholeW Q st).1, y.natAbs < 2 ^ 30 := fun y hy => by
  obtain ⟨q, hq, rfl⟩ := List.mem_map.mp hy
  obtain ⟨L0, L1, L2⟩ := lcmD_ok (Q := Q) fun q hq => (h q hq).den (by decide)
  have s := (h q hq).sz (n := 17) (by decide) (by decide) (by decide) (by decide)
  have l : lcmD Q / q.den ≤ 288 := Nat.le_trans (Nat.div_le_self _ _) (Nat.le_of_dvd (by decide) L1)
  rw [Int.natAbs_mul, Int.natAbs_natCast]
  exact Nat.lt_of_lt_of_le (mul_lt s.1 (show lcmD Q / q.den < 2 ^ 9 by omega)) (pow_le (by decide))
theorem dz288 {k : Nat} {ws : List Wish} (h : LotDz k ws) {p : Wish} (hp : p ∈ ws) : ∀ q ∈ p.1 ++ [p.2], Dz 288 349 q := fun q hq => by
  obtain ⟨_, h1, h2⟩ := h.sz p hp
  rcases List.mem_append.mp hq with hq | hq
  · exact (h1 q hq).mono (by decide) (by decide)
  · rw [List.mem_singleton.mp hq]; exact h2.mono (by decide) (by decide)
def wishW (p : Wish) : IW := wholeW (p.1 ++ [p.2]) 0
def againstW (row : List Rat) (b : Rat) : IW := wholeW (negR row ++ [-b]) 1
theorem ask288 {k : Nat} {row : List Rat} {b : Rat} (h : AskDz k row b) : ∀ q ∈ negR row ++ [-b], Dz 288 349 q := fun q hq => by
  rcases List.mem_append.mp hq with hq | hq
  · obtain ⟨x, hx, rfl⟩ := List.mem_map.mp hq
    exact ((h.row x hx).mono (by decide) (by decide)).neg
  · rw [List.mem_singleton.mp hq]; exact h.bnd.neg
theorem sat_beyond {k : Nat} {ws : List Wish} {row : List Rat} {b : Rat} (hO : LotDz k ws) (hA : AskDz k row b) : SatI k (ws.map wishW ++ [againstW row b]) ↔ Beyond k ws row b := by
  have w1 : ∀ p ∈ ws, ∀ x : Nat → Rat, x k = -1 → (Hold (wishW p) x ↔ dotX p.1 x ≤ p.2) := fun p hp x hx => by
    unfold wishW
    rw [whole_hold fun q hq => (dz288 hO hp q hq).den (by decide), if_pos rfl, dotX_app, (hO.sz p hp).1, hx]
    constructor
    · intro h; grind
    · intro h; grind
  have w2 : ∀ x : Nat → Rat, x k = -1 → (Hold (againstW row b) x ↔ b < dotX row x) := fun x hx => by
    unfold againstW
    have hl : (negR row).length = k := by unfold negR; rw [List.length_map, hA.len]
    rw [whole_hold fun q hq => (ask288 hA q hq).den (by decide), if_neg (by decide), dotX_app, dotX_neg, hl, hx]
    constructor
    · intro h; grind
    · intro h; grind
  constructor
  · rintro ⟨x, hx, h⟩
    exact ⟨x, hx, fun p hp => (w1 p hp x hx).mp (h _ (List.mem_append_left _ (List.mem_map_of_mem hp))), (w2 x hx).mp (h _ (List.mem_append_right _ List.mem_cons_self))⟩
  · rintro ⟨x, hx, h1, h2⟩
    refine ⟨x, hx, fun w hw => ?_⟩
    rcases List.mem_append.mp hw with hw | hw
    · obtain ⟨p, hp, rfl⟩ := List.mem_map.mp hw
      exact (w1 p hp x hx).mpr (h1 p hp)
    · rw [List.mem_singleton.mp hw]; exact (w2 x hx).mpr h2
section
variable {E : En}
abbrev C__law_lot_wishes : List Sl → (PyData → Prop) → Prop := fun ss P => ∃ (k : Nat) (ws : List Wish), ss = [.dat (lotD k ws)] ∧ LotDz k ws ∧ P (.list ((ws.map wishW).map iwD))
theorem D__law_lot_wishes (B : BC E) (A : At E "_law_lot_wishes" s__law_lot_wishes ["_law_lot_here"]) (D__law_whole_wish : Def E 2 "_law_whole_wish" ["_law_row_here", "_law_bound", "_law_strict"] [] C__law_whole_wish) : Def E 3 "_law_lot_wishes" ["_law_lot_here"] [] C__law_lot_wishes := by
  refine def_at A c__law_lot_wishes (fun ss P h => by obtain ⟨k, ws, rfl, _⟩ := h; rfl) fun ss P h => ?_
  obtain ⟨k, ws, rfl, hO, p⟩ := h
  have h1 := hO.len
  have h2 := hO.k1
  refine js_cons (j1_ret ?_)
  refine je_lc2 1 2 (by decide +kernel) (by decide +kernel) rfl rfl rfl rfl ?_
  refine ji_tup ?_
  refine je_ix ?_
  refine je_var 0 rfl (by first | exact Or.inl rfl | exact Or.inr (Or.inl rfl) | exact Or.inr (Or.inr rfl)) rfl (by intro z; cases z) ?_
  refine je_int ?_
  refine ⟨_, _, _, rfl, rfl, rfl, ?_⟩
  refine ⟨_, rfl, lc2Map ws (fun p => rw_ p.1) (fun p => fr p.2) (fun p => iwD (wishW p)) (by omega) (fun a ha => ?_) ?_⟩
  · refine je_call D__law_whole_wish (Nat.le_of_ble_eq_true rfl) rfl ?_
    refine ja_cons ?_
    refine je_var 1 rfl (by first | exact Or.inl rfl | exact Or.inr (Or.inl rfl) | exact Or.inr (Or.inr rfl)) rfl (by intro z; cases z) ?_
    refine ja_cons ?_
    refine je_var 2 rfl (by first | exact Or.inl rfl | exact Or.inr (Or.inl rfl) | exact Or.inr (Or.inr rfl)) rfl (by intro z; cases z) ?_
    refine ja_cons ?_
    refine je_int ?_
    refine ja_nil ?_
    exact ⟨a.1, a.2, 0, rfl, by rw [(hO.sz a ha).1]; omega, dz288 hO ha, rfl⟩
  · have e : ws.map (fun p => iwD (wishW p)) = (ws.map wishW).map iwD := by rw [List.map_map]; rfl
    rw [e]
    exact ⟨_, rfl, p⟩
abbrev C__law_bounds : List Sl → (PyData → Prop) → Prop := fun ss P => ∃ (k : Nat) (ws : List Wish) (row : List Rat) (b : Rat), ss = [.dat (lotD k ws), .dat (rw_ row), .dat (fr b)] ∧ LotDz k ws ∧ AskDz k row b ∧ ∀ r : Bool, (r = true ↔ ¬ Beyond k ws row b) → P (.bool r)
theorem D__law_bounds (B : BC E) (A : At E "_law_bounds" s__law_bounds ["_law_lot_here", "_law_row_here", "_law_bound"]) (D__law_whole_wish : Def E 2 "_law_whole_wish" ["_law_row_here", "_law_bound", "_law_strict"] [] C__law_whole_wish) (D__law_lot_wishes : Def E 3 "_law_lot_wishes" ["_law_lot_here"] [] C__law_lot_wishes) (D__law_is_void : Def E 4 "_law_is_void" ["_law_wishes", "_law_size"] [] C__law_is_void) : Def E 5 "_law_bounds" ["_law_lot_here", "_law_row_here", "_law_bound"] [] C__law_bounds := by
  refine def_at A c__law_bounds (fun ss P h => by obtain ⟨k, ws, row, b, rfl, _⟩ := h; rfl) fun ss P h => ?_
  obtain ⟨k, ws, row, b, rfl, hO, hA, p⟩ := h
  have h1 := hO.len
  have h2 := hO.k1
  have hrl := hA.len
  refine js_cons (j1_set 3 (by decide +kernel) rfl (by first | exact Or.inl rfl | exact Or.inr rfl) ?_)
  refine je_call D__law_whole_wish (Nat.le_of_ble_eq_true rfl) rfl ?_
  refine ja_cons ?_
  refine je_callTy B.tuple_ rfl rfl ?_
  refine ja_cons ?_
  refine je_lc1 4 (by decide +kernel) (by decide +kernel) rfl rfl ?_
  refine ji_tup ?_
  refine je_var 1 rfl (by first | exact Or.inl rfl | exact Or.inr (Or.inl rfl) | exact Or.inr (Or.inr rfl)) rfl (by intro z; cases z) ?_
  refine ⟨_, rfl, lcMap row fr (fun x => fr (-x)) (by omega) (fun a ha => ?_) ?_⟩
  · refine je_tup ?_
    refine ja_cons ?_
    refine je_bin ?_
    refine je_int ?_
    refine je_ix ?_
    refine je_var 4 rfl (by first | exact Or.inl rfl | exact Or.inr (Or.inl rfl) | exact Or.inr (Or.inr rfl)) rfl (by intro z; cases z) ?_
    refine je_int ?_
    refine ⟨_, _, _, rfl, rfl, rfl, ?_⟩
    refine jo_sub ?_
    refine ja_cons ?_
    refine je_ix ?_
    refine je_var 4 rfl (by first | exact Or.inl rfl | exact Or.inr (Or.inl rfl) | exact Or.inr (Or.inr rfl)) rfl (by intro z; cases z) ?_
    refine je_int ?_
    refine ⟨_, _, _, rfl, rfl, rfl, ?_⟩
    refine ja_nil ?_
    refine ⟨_, rfl, Nat.le_of_ble_eq_true rfl, ?_⟩
    show _ = Sl.dat (.tuple [.int (-a).num, .int ((-a).den : Int)])
    rw [Rat.neg_num, Rat.neg_den, Int.zero_sub]
  have e1 : row.map (fun x => fr (-x)) = (negR row).map fr := by unfold negR; rw [List.map_map]; rfl
  rw [e1]
  refine ja_nil ?_
  refine jc_tuple rfl ?_
  refine ja_cons ?_
  refine je_tup ?_
  refine ja_cons ?_
  refine je_bin ?_
  refine je_int ?_
  refine je_ix ?_
  refine je_var 2 rfl (by first | exact Or.inl rfl | exact Or.inr (Or.inl rfl) | exact Or.inr (Or.inr rfl)) rfl (by intro z; cases z) ?_
  refine je_int ?_
  refine ⟨_, _, _, rfl, rfl, rfl, ?_⟩
  refine jo_sub ?_
  refine ja_cons ?_
  refine je_ix ?_
  refine je_var 2 rfl (by first | exact Or.inl rfl | exact Or.inr (Or.inl rfl) | exact Or.inr (Or.inr rfl)) rfl (by intro z; cases z) ?_
  refine je_int ?_
  refine ⟨_, _, _, rfl, rfl, rfl, ?_⟩
  refine ja_nil ?_
  refine ⟨_, rfl, Nat.le_of_ble_eq_true rfl, ?_⟩
  have e2 : PyData.tuple [.int (0 - b.num), .int (b.den : Int)] = fr (-b) := by
    show _ = PyData.tuple [.int (-b).num, .int ((-b).den : Int)]
    rw [Rat.neg_num, Rat.neg_den, Int.zero_sub]
  rw [e2]
  refine ja_cons ?_
  refine je_int ?_
  refine ja_nil ?_
  refine ⟨negR row, -b, 1, rfl, by unfold negR; rw [List.length_map]; omega, ask288 hA, ?_⟩
  refine js_cons (j1_ret ?_)
  refine je_call D__law_is_void (Nat.le_of_ble_eq_true rfl) rfl ?_
  refine ja_cons ?_
  refine je_bin ?_
  refine je_call D__law_lot_wishes (Nat.le_of_ble_eq_true rfl) rfl ?_
  refine ja_cons ?_
  refine je_var 0 rfl (by first | exact Or.inl rfl | exact Or.inr (Or.inl rfl) | exact Or.inr (Or.inr rfl)) rfl (by intro z; cases z) ?_
  refine ja_nil ?_
  refine ⟨k, ws, rfl, hO, ?_⟩
  refine je_lst ?_
  refine ja_cons ?_
  refine je_var 3 rfl (by first | exact Or.inl rfl | exact Or.inr (Or.inl rfl) | exact Or.inr (Or.inr rfl)) rfl (by intro z; cases z) ?_
  refine ja_nil ?_
  refine ⟨_, rfl, Nat.le_of_ble_eq_true rfl, ?_⟩
  refine jo_catL ?_ ?_
  · rw [List.length_map, List.length_map]; show ws.length + 1 ≤ _; omega
  refine ja_cons ?_
  refine je_ix ?_
  refine je_var 0 rfl (by first | exact Or.inl rfl | exact Or.inr (Or.inl rfl) | exact Or.inr (Or.inr rfl)) rfl (by intro z; cases z) ?_
  refine je_int ?_
  refine ⟨_, _, _, rfl, rfl, rfl, ?_⟩
  refine ja_nil ?_
  have e3 : (ws.map wishW).map iwD ++ [iwD (againstW row b)] = (ws.map wishW ++ [againstW row b]).map iwD := by rw [List.map_append (l₂ := [againstW row b])]; rfl
  refine ⟨k, ws.map wishW ++ [againstW row b], ?_, h2, by rw [List.length_append, List.length_map]; show ws.length + 1 ≤ 7; omega, fun w hw => ?_, fun r hr => ?_⟩
  · rw [← e3]
    rfl
  · rcases List.mem_append.mp hw with hw | hw
    · obtain ⟨q, hq, rfl⟩ := List.mem_map.mp hw
      refine ⟨?_, .inl rfl, whole_sz (dz288 hO hq)⟩
      show (List.map _ (q.1 ++ [q.2])).length = _
      rw [List.length_map, List.length_append, (hO.sz q hq).1]
      rfl
    · rw [List.mem_singleton.mp hw]
      refine ⟨?_, .inr rfl, whole_sz (ask288 hA)⟩
      show (List.map _ (negR row ++ [-b])).length = _
      rw [List.length_map, List.length_append]
      unfold negR
      rw [List.length_map, hrl]
      rfl
  · rw [sat_beyond hO hA] at hr
    exact ⟨_, rfl, p r hr⟩
end
end W6
end
section
set_option Elab.async false
set_option linter.all false
set_option maxRecDepth 100000
set_option maxHeartbeats 4000000
set_option exponentiation.threshold 10000
/-! The walk: the law's three asks. -/
namespace W6
open PySem PySem.Spec PyProof.Rows L2
/-- the program's answer is there, and it is right -/
def SolveT : Prop := ∀ (k : Nat) (ws : List Wish) (row : List Rat) (b : Rat), LotDz k ws → AskDz k row b → ∃ r : Pap, PaperIs k ws row b r ∧ (r.isSome = true ↔ ¬ Beyond k ws row b) ∧ ∀ q, r = some q → GoodP k ws row b q
theorem tupleText_le (ts : List Str) : (tupleText ts).length ≤ piled ts + 3 := by
  unfold tupleText
  rw [strLen_append, strLen_append]
  have e1 : ((("(" : String) : Str)).length = 1 := rfl
  have e3 : (((if ts.length == 1 then ",)" else ")" : String) : Str)).length ≤ 2 := by split <;> decide
  rw [e1]
  by_cases h : ts = []
  · subst h
    have : (Str.join ", " []).length = 0 := rfl
    omega
  · have := join_length_add ts h
    omega
theorem shown_fr {q : Rat} (h : Sz 800 q) : (fr q).showable = true ∧ (fr q).shown.length ≤ 4000 := by
  have l1 : q.num.natAbs.log2 < 1920 := Nat.lt_trans (sz_log h.1 (by decide)) (by decide)
  have l2 : (q.den : Int).natAbs.log2 < 1920 := Nat.lt_trans (sz_log (n := 800) (by rw [Int.natAbs_natCast]; exact h.2) (by decide)) (by decide)
  constructor
  · show (decide _ && (decide _ && true)) = true
    rw [decide_eq_true l1, decide_eq_true l2]
    rfl
  · refine Nat.le_trans (tupleText_le [toString q.num, toString (q.den : Int)]) ?_
    rw [piled_cons, piled_cons, piled_nil]
    have a1 := int_text_len_1921 l1
    have a2 := int_text_len_1921 l2
    have b1 : ((toString q.num : String) : Str).length = (PySem.Str.ofString (toString q.num)).length := rfl
    have b2 : ((toString (q.den : Int) : String) : Str).length = (PySem.Str.ofString (toString (q.den : Int))).length := rfl
    omega
theorem shown_frs : ∀ {w : List Rat}, Szs 800 w → PyData.showableAll (w.map fr) = true ∧ piled (PyData.shownAll (w.map fr)) ≤ w.length * 4002 ∧ PyData.hasDictAll (w.map fr) = false
  | [], _ => ⟨rfl, Nat.zero_le _, rfl⟩
  | q :: w, h => by
    obtain ⟨h1, h2, h3⟩ := shown_frs (w := w) fun x hx => h x (List.mem_cons_of_mem _ hx)
    obtain ⟨g1, g2⟩ := shown_fr (h q List.mem_cons_self)
    refine ⟨?_, ?_, ?_⟩
    · show ((fr q).showable && PyData.showableAll (w.map fr)) = true
      rw [g1, h1]; rfl
    · show piled ((fr q).shown :: PyData.shownAll (w.map fr)) ≤ _
      rw [piled_cons, List.length_cons, Nat.succ_mul]
      omega
    · show ((fr q).hasDict || PyData.hasDictAll (w.map fr)) = false
      rw [h3]; rfl
theorem shown_pap (q : Bool × List Rat) (h : Szs 800 q.2) (hl : q.2.length ≤ 6) : (papT q).showable = true ∧ (papT q).hasDict = false ∧ (papT q).shown.length ≤ sizeLine ∧ (papT q).depth ≤ 60 := by
  obtain ⟨b, w⟩ := q
  have hl : w.length ≤ 6 := hl
  obtain ⟨h1, h2, h3⟩ := shown_frs (w := w) h
  have h4 := tupleText_le (PyData.shownAll (w.map fr))
  have h5 := dep_frs w
  have key : ∀ x : Str, (reprText x).length ≤ 100 → (tupleText [reprText x, tupleText (PyData.shownAll (w.map fr))]).length ≤ sizeLine := fun x hx => by
    refine Nat.le_trans (tupleText_le _) ?_
    rw [piled_cons, piled_cons, piled_nil]
    have : sizeLine = 16777216 := by decide
    omega
  cases b
  · refine ⟨?_, ?_, key "void" (by decide +kernel), ?_⟩
    · show (true && (PyData.showableAll (w.map fr) && true)) = true
      rw [h1]; rfl
    · show (false || (PyData.hasDictAll (w.map fr) || false)) = false
      rw [h3]; rfl
    · show max 0 (max (PyData.depthAll (w.map fr) + 1) 0) + 1 ≤ 60
      omega
  · refine ⟨?_, ?_, key "bound" (by decide +kernel), ?_⟩
    · show (true && (PyData.showableAll (w.map fr) && true)) = true
      rw [h1]; rfl
    · show (false || (PyData.hasDictAll (w.map fr) || false)) = false
      rw [h3]; rfl
    · show max 0 (max (PyData.depthAll (w.map fr) + 1) 0) + 1 ≤ 60
      omega
theorem shown_opt {k : Nat} {ws : List Wish} {row : List Rat} {b : Rat} {r : Pap} (hl : ws.length ≤ 6) (h : ∀ q, r = some q → GoodP k ws row b q) : (optD r).showable = true ∧ (optD r).hasDict = false ∧ (optD r).shown.length ≤ sizeLine ∧ (optD r).depth ≤ 60 := by
  cases r with
  | none => exact ⟨rfl, rfl, by decide +kernel, by decide⟩
  | some q => exact shown_pap q (h q rfl).sz (by rw [(h q rfl).len]; exact hl)
/-- a call by keywords alone binds so -/
def gKw (_ : List Value) (ws : List Value) : List Value := [ws.getD 2 .none, ws.getD 1 .none, ws.getD 0 .none]
def gKwV (_ : List V) (ws : List V) : List V := [ws.getD 2 .non, ws.getD 1 .non, ws.getD 0 .non]
theorem getD_rel : ∀ {zs : List V} {ws : List Value} (i : Nat), Vals zs ws → RelV (zs.getD i .non) (ws.getD i .none)
  | _, _, 0, .nil => rfl
  | _, _, _ + 1, .nil => rfl
  | _, _, 0, .cons h _ => h
  | _, _, i + 1, .cons _ t => getD_rel i t
/-- the def and its call by keywords -/
structure DefK (E : En) (k : Nat) (C : List Sl → (PyData → Prop) → Prop) : Prop where
  ex : ∃ f fd, FnOk E.P E.w E.K E.mg E.base CX0 k f fd ["lot", "row", "bound"] (spC E.K C) ∧ E.mg "paper_of" = some (.ref f) ∧ PySem.W.keepIn E.K (.ref f) = true ∧ KBn E.K fd ["lot", "row", "bound"] 0 ["bound", "row", "lot"] gKw gKwV
theorem kbn_paper {K : PySem.W.Frag} {f : Addr} {fd : FuncData} (F : Fun K "paper_of" "paper_of" s_paper_of f fd) : KBn K fd ["lot", "row", "bound"] 0 ["bound", "row", "lot"] gKw gKwV := by
  obtain ⟨oc, od, kV, doc, pm, an, cdv, ct, osl, rfl, lk, hcd⟩ := F.ex
  refine ⟨fun s us ws X h1 h2 => ?_, fun r1 r2 => .cons (getD_rel 2 r2) (.cons (getD_rel 1 r2) (.cons (getD_rel 0 r2) .nil))⟩
  match us, ws, h1, h2 with
  | [], [a, b, c], _, _ => exact .of_eq rfl
section
variable {E : En} {Γ : Ctx} {ρ : List Sl} {pos : Pos} {P : Sl → Prop}
theorem defK_of {k : Nat} {C : List Sl → (PyData → Prop) → Prop} (A : At E "paper_of" s_paper_of ["lot", "row", "bound"]) (hl : ∀ ss P, C ss P → ss.length = 3)
    (h : ∀ ss P, C ss P → JS E ⟨N_paper_of, defScope s_paper_of, true, k, fun _ => True⟩ false (ss ++ List.replicate (N_paper_of.length - ss.length) .no) (defBody s_paper_of) ⟨fun _ => P .none, P, fun _ => False, fun _ => False⟩) : DefK E (k + 1) C := by
  obtain ⟨f, fd, F, hm, hb⟩ := A.ex
  exact ⟨f, fd, F.ok c_paper_of (fun vs H Q Ex hsp => by
    obtain ⟨W, M, ss, P, st, ok, hC, q⟩ := hsp
    show vs.length = 3
    rw [← hl ss P hC]
    exact Paired.length ok) (def_body h), hm, F.kp, kbn_paper F⟩
theorem je_callK {j : Nat} {C : List Sl → (PyData → Prop) → Prop} {p q1 q2 q3 : Pos} {a b c : Expr} (D : DefK E j C) (hk : j ≤ Γ.k) (hg : Glo Γ "paper_of") (h : JE E Γ ρ a fun s => JE E Γ ρ b fun t => JE E Γ ρ c fun u => C [toRd u, toRd t, toRd s] fun d => P (.dat d))
    (hall : ∀ env, (backToKw pos (keywordEach [⟨some "bound", a, q1⟩, ⟨some "row", b, q2⟩, ⟨some "lot", c, q3⟩] env)).all (·.1.isSome) = true := by intro _; rfl) (hks : ∀ env, (backToKw pos (keywordEach [⟨some "bound", a, q1⟩, ⟨some "row", b, q2⟩, ⟨some "lot", c, q3⟩] env)).filterMap (·.1) = (["bound", "row", "lot"] : List Str) := by intro _; rfl)
    (hpl : ∀ env, ((backTo pos (starEach [] env)).any (·.1) || (backToKw pos (keywordEach [⟨some "bound", a, q1⟩, ⟨some "row", b, q2⟩, ⟨some "lot", c, q3⟩] env)).any (·.1.isNone)) = false := by intro _; rfl) :
    JE E Γ ρ (.Call (.Name "paper_of" p) [] [⟨some "bound", a, q1⟩, ⟨some "row", b, q2⟩, ⟨some "lot", c, q3⟩] pos) P := je_of fun X g W M O σ H st en => by
  obtain ⟨f, fd, F, m, kp, kb⟩ := D.ex
  have F : FnOk X.prog X.w X.K X.mg X.base CX0 j f fd ["lot", "row", "bound"] (spC X.K C) := by
    have := g.fnok F
    rw [← g.K] at this
    exact this
  refine ⟨_, pe_callN0 F (g.room.mono hk) (g.gl hg) (by rw [g.mg]; exact m) (by rw [g.K]; exact kp) (by rw [g.K]; exact kb) (pk_cons (pe_se (e := a)) (pk_cons (pe_se (e := b)) (pk_cons (pe_se (e := c)) pk_nil))) (hall _) (hks _) (hpl _), fun Q q => ?_⟩
  refine h X g W M O σ H st en _ fun v1 s1 H1 e1 st1 o1 p1 => p1 X g W M O σ H1 st1 (en.mono st e1) _ fun v2 s2 H2 e2 st2 o2 p2 => p2 X g W M O σ H2 st2 ((en.mono st e1).mono st1 e2) _ fun v3 s3 H3 e3 st3 o3 p3 => ?_
  refine ⟨rfl, W, mt O M, _, _, st3.call, ?_, p3, fun v d H4 e4 st4 dv pd => ?_⟩
  · exact .cons (rd_ok st3 o3) (.cons (rd_ok st3 (o2.mono st2 e3)) (.cons (rd_ok st3 (o1.mono st1 (e2.trans e3))) .nil))
  · exact q v (.dat d) H4 (((e1.trans e2).trans e3).trans e4) (st3.back st4) dv pd
abbrev C__law_right : List Sl → (PyData → Prop) → Prop := fun ss P => ss = [.well] ∧ P (.bool true)
set_option maxHeartbeats 8000000 in
theorem D__law_right (B : BC E) (hS : SolveT) (A : At E "_law_right" s__law_right ["_law_well_here"]) (D__law_draw : Def E 1 "_law_draw" ["_law_well_here", "_law_many"] [] C__law_draw) (D__law_lot : Def E 4 "_law_lot" ["_law_well_here", "_law_size", "_law_most"] [] C__law_lot) (D__law_inside : Def E 5 "_law_inside" ["_law_well_here", "_law_size", "_law_most"] [] C__law_inside)
    (D__law_ask : Def E 4 "_law_ask" ["_law_well_here", "_law_lot_here"] [] C__law_ask) (D__law_bounds : Def E 5 "_law_bounds" ["_law_lot_here", "_law_row_here", "_law_bound"] [] C__law_bounds) (D_paper_of : Def E 12 "paper_of" ["lot", "row", "bound"] [] C_paper_of) (D_bounds : Def E 13 "bounds" ["lot", "row", "bound"] [] C_bounds) (DK : DefK E 12 C_paper_of)
    (D__law_is_paper : Def E 5 "_law_is_paper" ["_law_lot_here", "_law_row_here", "_law_bound", "_law_thing"] [] C__law_is_paper) (D_is_paper : Def E 9 "is_paper" ["lot", "row", "bound", "paper"] [] C_is_paper) : DefG E 14 "_law_right" ["_law_well_here"] C__law_right := by
  refine def_atG A c__law_right (fun ss P h => by obtain ⟨rfl, _⟩ := h; rfl) fun ss P h => ?_
  obtain ⟨rfl, p⟩ := h
  refine js_cons (j1_set 1 (by decide +kernel) rfl (by first | exact Or.inl rfl | exact Or.inr rfl) ?_)
  refine je_bin ?_
  refine je_int ?_
  refine je_call D__law_draw (Nat.le_of_ble_eq_true rfl) rfl ?_
  refine ja_cons ?_
  refine je_var 0 rfl (by first | exact Or.inl rfl | exact Or.inr (Or.inl rfl) | exact Or.inr (Or.inr rfl)) rfl (by intro z; cases z) ?_
  refine ja_cons ?_
  refine je_int ?_
  refine ja_nil ?_
  refine ⟨3, rfl, by decide, by decide, fun d hd => ?_⟩
  refine jo_add ?_
  obtain ⟨k, ek, hk0, hk1⟩ : ∃ k : Nat, (1 : Int) + (d : Int) = (k : Int) ∧ 1 ≤ k ∧ k ≤ 3 := ⟨1 + d, by omega, by omega, by omega⟩
  rw [ek]
  have go : ∀ ws : List Wish, LotDz k ws → JS E ⟨N__law_right, defScope s__law_right, true, 13, Calm0⟩ false [.well, .dat (int k), .dat (lotD k ws), .no, .no, .no, .no, .no] ((defBody s__law_right).drop 2) ⟨fun _ => P .none, P, fun _ => False, fun _ => False⟩ := fun ws hO => by
    refine js_cons (j1_for ?_)
    refine ji_range1 B.range_ rfl ?_
    refine je_int ?_
    refine ⟨3, rfl, by decide, ?_⟩
    refine for_inv [3, 4, 5, 6, 7] (List.range 3) int (fun (_ : Unit) => [.well, .dat (int k), .dat (lotD k ws), .no, .no, .no, .no, .no]) (fun _ _ => True) () rfl rfl trivial (fun i a u ha _ => ?_) (fun ρ' u _ e => js_forget [3, 4, 5, 6, 7] e ?_)
    · refine jg_name 3 (by decide +kernel) rfl (by first | exact Or.inl rfl | exact Or.inr rfl) ?_
      refine js_cons (j1_asg ?_)
      refine je_call D__law_ask (Nat.le_of_ble_eq_true rfl) rfl ?_
      refine ja_cons ?_
      refine je_var 0 rfl (by first | exact Or.inl rfl | exact Or.inr (Or.inl rfl) | exact Or.inr (Or.inr rfl)) rfl (by intro z; cases z) ?_
      refine ja_cons ?_
      refine je_var 2 rfl (by first | exact Or.inl rfl | exact Or.inr (Or.inl rfl) | exact Or.inr (Or.inr rfl)) rfl (by intro z; cases z) ?_
      refine ja_nil ?_
      refine ⟨k, ws, rfl, hO, fun row b hA => ?_⟩
      obtain ⟨r, hP, hr, hG⟩ := hS k ws row b hO hA
      have hOk := hO.ok
      have hrs : Szs 20 row := fun x hx => (hA.row x hx).sz (by decide) (by decide) (by decide) (by decide)
      have hbs : Sz 20 b := hA.bnd.sz (by decide) (by decide) (by decide) (by decide)
      refine ⟨_, rfl, ?_⟩
      refine jg_tup ⟨_, rfl, rfl, ?_⟩
      refine jgs_cons ?_
      refine jg_name 4 (by decide +kernel) rfl (by first | exact Or.inl rfl | exact Or.inr rfl) ?_
      refine jgs_cons ?_
      refine jg_name 5 (by decide +kernel) rfl (by first | exact Or.inl rfl | exact Or.inr rfl) ?_
      refine jgs_nil ?_
      refine js_cons (j1_par 6 7 (by decide +kernel) rfl rfl (by decide) rfl rfl ?_)
      refine je_call D__law_bounds (Nat.le_of_ble_eq_true rfl) rfl ?_
      refine ja_cons ?_
      refine je_var 2 rfl (by first | exact Or.inl rfl | exact Or.inr (Or.inl rfl) | exact Or.inr (Or.inr rfl)) rfl (by intro z; cases z) ?_
      refine ja_cons ?_
      refine je_var 4 rfl (by first | exact Or.inl rfl | exact Or.inr (Or.inl rfl) | exact Or.inr (Or.inr rfl)) rfl (by intro z; cases z) ?_
      refine ja_cons ?_
      refine je_var 5 rfl (by first | exact Or.inl rfl | exact Or.inr (Or.inl rfl) | exact Or.inr (Or.inr rfl)) rfl (by intro z; cases z) ?_
      refine ja_nil ?_
      refine ⟨k, ws, row, b, rfl, hO, hA, fun rb hrb => ?_⟩
      obtain rfl : rb = r.isSome := Bool.eq_iff_iff.mpr (hrb.trans hr.symm)
      refine je_call D_paper_of (Nat.le_of_ble_eq_true rfl) rfl ?_
      refine ja_cons ?_
      refine je_var 2 rfl (by first | exact Or.inl rfl | exact Or.inr (Or.inl rfl) | exact Or.inr (Or.inr rfl)) rfl (by intro z; cases z) ?_
      refine ja_cons ?_
      refine je_var 4 rfl (by first | exact Or.inl rfl | exact Or.inr (Or.inl rfl) | exact Or.inr (Or.inr rfl)) rfl (by intro z; cases z) ?_
      refine ja_cons ?_
      refine je_var 5 rfl (by first | exact Or.inl rfl | exact Or.inr (Or.inl rfl) | exact Or.inr (Or.inr rfl)) rfl (by intro z; cases z) ?_
      refine ja_nil ?_
      refine ⟨k, ws, row, b, r, rfl, hOk, hA.len, hrs, hbs, hP, ?_⟩
      refine js_forget [] (ρ0 := [.well, .dat (int k), .dat (lotD k ws), .dat (int a), .dat (rw_ row), .dat (fr b), .dat (.bool r.isSome), .dat (optD r)]) rfl ?_
      refine js_cons (j1_if ?_)
      refine jt_cmp ?_
      refine je_callB B.repr rfl rfl ?_
      refine ja_cons ?_
      refine je_call D_bounds (Nat.le_of_ble_eq_true rfl) rfl ?_
      refine ja_cons ?_
      refine je_var 2 rfl (by first | exact Or.inl rfl | exact Or.inr (Or.inl rfl) | exact Or.inr (Or.inr rfl)) rfl (by intro z; cases z) ?_
      refine ja_cons ?_
      refine je_var 4 rfl (by first | exact Or.inl rfl | exact Or.inr (Or.inl rfl) | exact Or.inr (Or.inr rfl)) rfl (by intro z; cases z) ?_
      refine ja_cons ?_
      refine je_var 5 rfl (by first | exact Or.inl rfl | exact Or.inr (Or.inl rfl) | exact Or.inr (Or.inr rfl)) rfl (by intro z; cases z) ?_
      refine ja_nil ?_
      refine ⟨k, ws, row, b, r, rfl, hOk, hA.len, hrs, hbs, hP, ?_⟩
      refine ja_nil ?_
      refine jc_repr (fun _ h => h) rfl rfl (by cases r.isSome <;> decide +kernel) (Nat.zero_le _) ?_
      refine je_callB B.repr rfl rfl ?_
      refine ja_cons ?_
      refine je_var 6 rfl (by first | exact Or.inl rfl | exact Or.inr (Or.inl rfl) | exact Or.inr (Or.inr rfl)) rfl (by intro z; cases z) ?_
      refine ja_nil ?_
      refine jc_repr (fun _ h => h) rfl rfl (by cases r.isSome <;> decide +kernel) (Nat.zero_le _) ?_
      refine jo_neS ?_
      rw [decide_eq_true rfl]
      refine ⟨_, rfl, ?_⟩
      refine ⟨fun z => (nomatch z), fun _ => ?_⟩
      refine js_nil ?_
      obtain ⟨s1, s2, s3, s4⟩ := shown_opt hO.len hG
      refine js_cons (j1_if ?_)
      refine jt_cmp ?_
      refine je_callB B.repr rfl rfl ?_
      refine ja_cons ?_
      refine je_callK DK (Nat.le_of_ble_eq_true rfl) rfl ?_
      refine je_var 5 rfl (by first | exact Or.inl rfl | exact Or.inr (Or.inl rfl) | exact Or.inr (Or.inr rfl)) rfl (by intro z; cases z) ?_
      refine je_var 4 rfl (by first | exact Or.inl rfl | exact Or.inr (Or.inl rfl) | exact Or.inr (Or.inr rfl)) rfl (by intro z; cases z) ?_
      refine je_var 2 rfl (by first | exact Or.inl rfl | exact Or.inr (Or.inl rfl) | exact Or.inr (Or.inr rfl)) rfl (by intro z; cases z) ?_
      refine ⟨k, ws, row, b, r, rfl, hOk, hA.len, hrs, hbs, hP, ?_⟩
      refine ja_nil ?_
      refine jc_repr (fun _ h => h) s1 s2 s3 s4 ?_
      refine je_callB B.repr rfl rfl ?_
      refine ja_cons ?_
      refine je_var 7 rfl (by first | exact Or.inl rfl | exact Or.inr (Or.inl rfl) | exact Or.inr (Or.inr rfl)) rfl (by intro z; cases z) ?_
      refine ja_nil ?_
      refine jc_repr (fun _ h => h) s1 s2 s3 s4 ?_
      refine jo_neS ?_
      rw [decide_eq_true rfl]
      refine ⟨_, rfl, ?_⟩
      refine ⟨fun z => (nomatch z), fun _ => ?_⟩
      refine js_nil ?_
      cases r with
      | none =>
        refine js_cons (j1_if ?_)
        refine jt_bool ?_
        refine jw_and ?_
        refine jt_not ?_
        refine jt_val ?_
        refine je_var 6 rfl (by first | exact Or.inl rfl | exact Or.inr (Or.inl rfl) | exact Or.inr (Or.inr rfl)) rfl (by intro z; cases z) ?_
        refine ⟨_, rfl, ?_⟩
        refine ⟨fun _ => ?_, fun z => nomatch z⟩
        refine jw_and1 ?_
        refine jt_cmp ?_
        refine je_var 7 rfl (by first | exact Or.inl rfl | exact Or.inr (Or.inl rfl) | exact Or.inr (Or.inr rfl)) rfl (by intro z; cases z) ?_
        refine je_non ?_
        refine jo_notN ?_
        refine ⟨_, rfl, ?_⟩
        refine ⟨fun z => (nomatch z), fun _ => ?_⟩
        refine js_nil ?_
        refine js_cons (j1_if ?_)
        refine jt_bool ?_
        refine jw_and ?_
        refine jt_val ?_
        refine je_var 6 rfl (by first | exact Or.inl rfl | exact Or.inr (Or.inl rfl) | exact Or.inr (Or.inr rfl)) rfl (by intro z; cases z) ?_
        refine ⟨_, rfl, ?_⟩
        refine ⟨fun z => (nomatch z), fun _ => ?_⟩
        refine ⟨fun z => (nomatch z), fun _ => ?_⟩
        refine js_nil ?_
        refine js_nil ?_
        exact ⟨(), trivial, rfl⟩
      | some q =>
        have hq := hG q rfl
        refine js_cons (j1_if ?_)
        refine jt_bool ?_
        refine jw_and ?_
        refine jt_not ?_
        refine jt_val ?_
        refine je_var 6 rfl (by first | exact Or.inl rfl | exact Or.inr (Or.inl rfl) | exact Or.inr (Or.inr rfl)) rfl (by intro z; cases z) ?_
        refine ⟨_, rfl, ?_⟩
        refine ⟨fun z => (nomatch z), fun _ => ?_⟩
        refine ⟨fun z => (nomatch z), fun _ => ?_⟩
        refine js_nil ?_
        refine js_cons (j1_if ?_)
        refine jt_bool ?_
        refine jw_and ?_
        refine jt_val ?_
        refine je_var 6 rfl (by first | exact Or.inl rfl | exact Or.inr (Or.inl rfl) | exact Or.inr (Or.inr rfl)) rfl (by intro z; cases z) ?_
        refine ⟨_, rfl, ?_⟩
        refine ⟨fun _ => ?_, fun z => nomatch z⟩
        refine jw_and1 ?_
        refine jt_bool ?_
        refine jw_or ?_
        refine jt_not ?_
        refine jt_val ?_
        refine je_call D__law_is_paper (Nat.le_of_ble_eq_true rfl) rfl ?_
        refine ja_cons ?_
        refine je_var 2 rfl (by first | exact Or.inl rfl | exact Or.inr (Or.inl rfl) | exact Or.inr (Or.inr rfl)) rfl (by intro z; cases z) ?_
        refine ja_cons ?_
        refine je_var 4 rfl (by first | exact Or.inl rfl | exact Or.inr (Or.inl rfl) | exact Or.inr (Or.inr rfl)) rfl (by intro z; cases z) ?_
        refine ja_cons ?_
        refine je_var 5 rfl (by first | exact Or.inl rfl | exact Or.inr (Or.inl rfl) | exact Or.inr (Or.inr rfl)) rfl (by intro z; cases z) ?_
        refine ja_cons ?_
        refine je_var 7 rfl (by first | exact Or.inl rfl | exact Or.inr (Or.inl rfl) | exact Or.inr (Or.inr rfl)) rfl (by intro z; cases z) ?_
        refine ja_nil ?_
        refine ⟨k, ws, row, b, q, rfl, hOk, hbs, hq, ?_⟩
        refine ⟨_, rfl, ?_⟩
        refine ⟨fun _ => ?_, fun z => nomatch z⟩
        refine jw_or1 ?_
        refine jt_cmp ?_
        refine je_call D_is_paper (Nat.le_of_ble_eq_true rfl) rfl ?_
        refine ja_cons ?_
        refine je_var 2 rfl (by first | exact Or.inl rfl | exact Or.inr (Or.inl rfl) | exact Or.inr (Or.inr rfl)) rfl (by intro z; cases z) ?_
        refine ja_cons ?_
        refine je_var 4 rfl (by first | exact Or.inl rfl | exact Or.inr (Or.inl rfl) | exact Or.inr (Or.inr rfl)) rfl (by intro z; cases z) ?_
        refine ja_cons ?_
        refine je_var 5 rfl (by first | exact Or.inl rfl | exact Or.inr (Or.inl rfl) | exact Or.inr (Or.inr rfl)) rfl (by intro z; cases z) ?_
        refine ja_cons ?_
        refine je_var 7 rfl (by first | exact Or.inl rfl | exact Or.inr (Or.inl rfl) | exact Or.inr (Or.inr rfl)) rfl (by intro z; cases z) ?_
        refine ja_nil ?_
        refine ⟨k, ws, row, b, q, rfl, hOk, hA.len, hbs, hq, ?_⟩
        refine je_bl ?_
        refine jo_notBl ?_
        refine ⟨_, rfl, ?_⟩
        refine ⟨fun z => (nomatch z), fun _ => ?_⟩
        refine js_nil ?_
        refine js_nil ?_
        exact ⟨(), trivial, rfl⟩
    · refine js_cons (j1_ret ?_)
      refine je_bl ?_
      refine ⟨_, rfl, ?_⟩
      exact p
  refine js_cons (j1_set 2 (by decide +kernel) rfl (by first | exact Or.inl rfl | exact Or.inr rfl) ?_)
  refine je_if ?_
  refine jt_cmp ?_
  refine je_call D__law_draw (Nat.le_of_ble_eq_true rfl) rfl ?_
  refine ja_cons ?_
  refine je_var 0 rfl (by first | exact Or.inl rfl | exact Or.inr (Or.inl rfl) | exact Or.inr (Or.inr rfl)) rfl (by intro z; cases z) ?_
  refine ja_cons ?_
  refine je_int ?_
  refine ja_nil ?_
  refine ⟨3, rfl, by decide, by decide, fun c hc => ?_⟩
  refine je_int ?_
  refine jo_gt ⟨_, rfl, ?_⟩
  refine ⟨fun hk => ?_, fun hk => ?_⟩
  · refine je_ix ?_
    refine je_call D__law_inside (Nat.le_of_ble_eq_true rfl) rfl ?_
    refine ja_cons ?_
    refine je_var 0 rfl (by first | exact Or.inl rfl | exact Or.inr (Or.inl rfl) | exact Or.inr (Or.inr rfl)) rfl (by intro z; cases z) ?_
    refine ja_cons ?_
    refine je_var 1 rfl (by first | exact Or.inl rfl | exact Or.inr (Or.inl rfl) | exact Or.inr (Or.inr rfl)) rfl (by intro z; cases z) ?_
    refine ja_cons ?_
    refine je_int ?_
    refine ja_nil ?_
    refine ⟨k, 6, rfl, hk0, hk1, by decide, fun pt ws hO => ?_⟩
    refine je_int ?_
    refine ⟨_, _, _, rfl, rfl, rfl, ?_⟩
    exact go ws hO
  · refine je_call D__law_lot (Nat.le_of_ble_eq_true rfl) rfl ?_
    refine ja_cons ?_
    refine je_var 0 rfl (by first | exact Or.inl rfl | exact Or.inr (Or.inl rfl) | exact Or.inr (Or.inr rfl)) rfl (by intro z; cases z) ?_
    refine ja_cons ?_
    refine je_var 1 rfl (by first | exact Or.inl rfl | exact Or.inr (Or.inl rfl) | exact Or.inr (Or.inr rfl)) rfl (by intro z; cases z) ?_
    refine ja_cons ?_
    refine je_int ?_
    refine ja_nil ?_
    refine ⟨k, 6, rfl, hk0, hk1, by decide, fun ws hl hw => ?_⟩
    exact go ws ⟨hk0, hk1, hl, fun q hq => ⟨(hw q hq).1, (hw q hq).2.1, (hw q hq).2.2.mono (by decide) (by decide)⟩⟩
end
end W6
end
section
set_option Elab.async false
set_option linter.all false
set_option maxRecDepth 100000
set_option maxHeartbeats 4000000
set_option exponentiation.threshold 10000
/-! The walk: the law's wells, and the law. -/
namespace W6
open PySem PySem.Spec PyProof.Rows L2
section
variable {E : En} {Γ : Ctx} {ρ : List Sl} {pos : Pos} {P : Sl → Prop}
theorem je_ixS {a b : Expr} (h : JE E Γ ρ a fun s1 => ∃ ns : List Int, s1 = .scr ns ∧ JE E Γ ρ b fun s2 => ∃ i : Nat, s2 = .dat (.int (i : Int)) ∧ i < ns.length ∧ P (.dat (.int (ns.getD i 0)))) (hs : PlainIx b := by intro _ _; rfl) : JE E Γ ρ (.Subscript a b pos) P := je_of fun X g W M O σ H st en =>
  ⟨_, pe_ix (ix_list.or ix_tup) (pe_se (e := a)) (pe_se (e := b)) hs, fun Q q => h X g W M O σ H st en _ fun v1 s1 H1 e1 st1 o1 p1 => by
    obtain ⟨ns, rfl, p1⟩ := p1
    refine p1 X g W M O σ H1 st1 (en.mono st e1) _ fun v2 s2 H2 e2 st2 o2 p2 => ?_
    obtain ⟨i, rfl, hi, p⟩ := p2
    obtain ⟨sa, rfl, hs⟩ := o1.mono st1 e2
    cases o2
    refine .inl ⟨sa, ns.map V.int, (i : Int), .int (ns.getD i 0), rfl, rfl, (wo_sub _ _).seq hs, ?_, q (.int (ns.getD i 0)) (.dat (.int (ns.getD i 0))) H2 (e1.trans e2) st2 (.int _) p⟩
    refine L2.atI_nat ?_
    rw [List.getElem?_map, getD_lt (d := 0) hi]
    rfl⟩
theorem je_slHiS {a hi : Expr} {p2 : Pos} (h : JE E Γ ρ a fun s1 => ∃ ns : List Int, s1 = .scr ns ∧ ns.length ≤ 100000 ∧ JE E Γ ρ hi fun s2 => ∃ i : Nat, s2 = .dat (.int (i : Int)) ∧ P (.dat (.list ((ns.take i).map .int)))) : JE E Γ ρ (.Subscript a (.Slice none (some hi) none p2) pos) P := je_of fun X g W M O σ H st en =>
  ⟨_, pe_slice sl2 (pe_se (e := a)) po_none (po_some (pe_se (e := hi))), fun Q q => h X g W M O σ H st en _ fun v1 s1 H1 e1 st1 o1 p1 => by
    obtain ⟨ns, rfl, hl, p1⟩ := p1
    refine p1 X g W M O σ H1 st1 (en.mono st e1) _ fun v2 s2 H2 e2 st2 o2 p2 => ?_
    obtain ⟨i, rfl, p⟩ := p2
    obtain ⟨sa, rfl, hs⟩ := o1.mono st1 e2
    cases o2
    refine ⟨(i : Int), rfl, .inl ⟨sa, ns.map V.int, rfl, (wo_sub _ _).seq hs, fun r hr => (q.ext (e1.trans e2)).new st2 hr (.lst upd_same ?_) p⟩⟩
    have e : cutV (ns.map V.int) none (some (i : Int)) = (ns.take i).map V.int := by
      have := cut_hi (ns.map V.int) i
      rw [← List.map_take] at this
      exact this
    rw [e]
    exact ints_dqs _⟩
theorem jo_pow {i j : Int} (hc : CPow i j) (p : P (.dat (.int (i ^ j.toNat)))) : JO E Γ (binaryOp .Pow) (.dat (.int i)) (.dat (.int j)) P := jo_I (fun _ => op_pow) hc (fun _ _ => .int _) p
end
theorem execs_app (env : Env) (b : List Stmt) : ∀ a : List Stmt, execs (a ++ b) env = (execs a env >>= fun f => match f with
    | .next => execs b env
    | f => pure f)
  | [] => by
    show execs b env = _
    rw [execs_nil, pure_bind]
  | s :: a => by
    show execs (s :: (a ++ b)) env = _
    rw [execs_cons, execs_cons, bind_assoc]
    congr
    funext f
    cases f
    · show execs (a ++ b) env = _
      rw [execs_app env b a]
    all_goals (rw [pure_bind])
theorem pss_app {X : Cx} {a b : List Stmt} {ta tb : TS} (h1 : PSs X a ta) (h2 : PSs X b tb) : PSs X (a ++ b) (fun D σ H => ta { D with nx := fun σ' H' => tb D σ' H' } σ H) := by
  refine ⟨fun pins s σ H D I h => ?_⟩
  rw [execs_app]
  refine wpAny_bind (thn (h1.run pins s σ H _ I h) fun f s1 q => ?_)
  match f, q with
  | .next, ⟨σ', H', I', q⟩ => exact h2.run pins s1 σ' H' D I' q
  | .ret v, q => exact wpAny_pure q
  | .brk, q => exact wpAny_pure q
  | .cont, q => exact wpAny_pure q
section
variable {E : En}
theorem D__law_well (B : BC E) (A : At E "_law_well" s__law_well ["_law_script", "_law_turn"]) : DefW E 1 "_law_well" ["_law_script", "_law_turn"] := by
  obtain ⟨f, fd, F, hm, hb⟩ := A.ex
  refine ⟨f, fd, F.ok (k := 0) c__law_well (fun vs H Q Ex hsp => by obtain ⟨_, _, _, rfl, _⟩ := hsp; rfl) (fun cdv A outer s H vs Q Ex hr hsp => ?_), hm, F.kp, hb⟩
  obtain ⟨sa, ns, i, rfl, hS, hl, q⟩ := hsp
  have g : Good E ⟨N__law_well, defScope s__law_well, true, 0, fun _ => True⟩ (cxOf CX0 E.P E.w E.K E.mg E.base N__law_well "_law_well" (defScope s__law_well) f cdv A outer s H Ex).nox := ⟨rfl, rfl, rfl, rfl, rfl, rfl, rfl, rfl, hr, rfl, fun _ _ => rfl, trivial⟩
  have st0 : Stt [] [] none H := ⟨fun _ z => (nomatch z), fun _ z => (nomatch z), fun _ z => (nomatch z), fun _ z => (nomatch z)⟩
  have en0 : EnvOk E.K [] [] none H (L2.start N__law_well [.ref sa, .int (i : Int)]) [.scr ns, .dat (.int (i : Int)), .no, .no, .no] := by
    refine start_ok (ss := [.scr ns, .dat (.int (i : Int))]) N__law_well (.cons ⟨sa, rfl, ?_⟩ (.cons (.int _) .nil))
    have e : wo (mt none []) H = H := by funext a; exact if_neg (fun z => nomatch z)
    rw [e]
    exact hS
  have pre : ∀ (D : Po), (∀ own seed : Int, D.nx [.scr ns, .dat (.int (i : Int)), .dat (.int own), .dat (.int seed), .no]) → JS E ⟨N__law_well, defScope s__law_well, true, 0, fun _ => True⟩ false [.scr ns, .dat (.int (i : Int)), .no, .no, .no] ((defBody s__law_well).take 4) D := fun D hD => by
    have rest : ∀ own : Int, JS E ⟨N__law_well, defScope s__law_well, true, 0, fun _ => True⟩ false [.scr ns, .dat (.int (i : Int)), .dat (.int own), .no, .no] (((defBody s__law_well).take 4).drop 1) D := fun own => by
      refine js_cons (j1_set 3 (by decide +kernel) rfl (by first | exact Or.inl rfl | exact Or.inr rfl) ?_)
      refine je_bin ?_
      refine je_int ?_
      refine je_bin ?_
      refine je_int ?_
      refine je_var 1 rfl (by first | exact Or.inl rfl | exact Or.inr (Or.inl rfl) | exact Or.inr (Or.inr rfl)) rfl (by intro z; cases z) ?_
      refine jo_mul64 (.inl ⟨by decide, by decide⟩) ?_
      refine jo_add ?_
      generalize (707422 : Int) + 131 * (i : Int) = seed0
      refine js_cons (j1_for ?_)
      refine ji_list ?_
      refine je_slHiS ?_
      refine je_var 0 rfl (by first | exact Or.inl rfl | exact Or.inr (Or.inl rfl) | exact Or.inr (Or.inr rfl)) rfl (by intro z; cases z) ?_
      refine ⟨ns, rfl, hl, ?_⟩
      refine je_int ?_
      refine ⟨10, rfl, _, rfl, ?_⟩
      refine for_inv [4] (ns.take 10) .int (fun (x : Int) => [.scr ns, .dat (.int (i : Int)), .dat (.int own), .dat (.int x), .no]) (fun _ _ => True) seed0 rfl rfl trivial (fun j c x hc _ => ?_) (fun ρ' x _ e => js_forget [4] e ?_)
      · refine jg_name 4 (by decide +kernel) rfl (by first | exact Or.inl rfl | exact Or.inr rfl) ?_
        refine js_cons (j1_set 3 (by decide +kernel) rfl (by first | exact Or.inl rfl | exact Or.inr rfl) ?_)
        refine je_bin ?_
        refine je_callTy B.int_ rfl rfl ?_
        refine ja_cons ?_
        refine je_bin ?_
        refine je_bin ?_
        refine je_bin ?_
        refine je_var 3 rfl (by first | exact Or.inl rfl | exact Or.inr (Or.inl rfl) | exact Or.inr (Or.inr rfl)) rfl (by intro z; cases z) ?_
        refine je_int ?_
        refine jo_mul64 (.inr ⟨by decide, by decide⟩) ?_
        refine je_bin ?_
        refine je_callTy B.int_ rfl rfl ?_
        refine ja_cons ?_
        refine je_var 4 rfl (by first | exact Or.inl rfl | exact Or.inr (Or.inl rfl) | exact Or.inr (Or.inr rfl)) rfl (by intro z; cases z) ?_
        refine ja_nil ?_
        refine jc_int ?_
        refine je_int ?_
        refine jo_mod (by decide) ?_
        refine jo_add ?_
        refine je_int ?_
        refine jo_add ?_
        refine ja_nil ?_
        refine jc_int ?_
        refine je_int ?_
        refine jo_mod (by decide) ?_
        refine js_nil ?_
        exact ⟨_, trivial, rfl⟩
      · refine js_cons (j1_set 3 (by decide +kernel) rfl (by first | exact Or.inl rfl | exact Or.inr rfl) ?_)
        refine je_bin ?_
        refine je_callTy B.int_ rfl rfl ?_
        refine ja_cons ?_
        refine je_bin ?_
        refine je_bin ?_
        refine je_bin ?_
        refine je_var 3 rfl (by first | exact Or.inl rfl | exact Or.inr (Or.inl rfl) | exact Or.inr (Or.inr rfl)) rfl (by intro z; cases z) ?_
        refine je_int ?_
        refine jo_mul64 (.inr ⟨by decide, by decide⟩) ?_
        refine je_bin ?_
        refine je_bin ?_
        refine je_callTy B.int_ rfl rfl ?_
        refine ja_cons ?_
        refine je_var 2 rfl (by first | exact Or.inl rfl | exact Or.inr (Or.inl rfl) | exact Or.inr (Or.inr rfl)) rfl (by intro z; cases z) ?_
        refine ja_nil ?_
        refine jc_int ?_
        refine je_int ?_
        refine jo_mod (by decide) ?_
        refine je_int ?_
        refine jo_mul64 (.inr ⟨by decide, by decide⟩) ?_
        refine jo_add ?_
        refine je_int ?_
        refine jo_add ?_
        refine ja_nil ?_
        refine jc_int ?_
        refine je_int ?_
        refine jo_mod (by decide) ?_
        refine js_nil ?_
        exact hD own _
    refine js_cons (j1_set 2 (by decide +kernel) rfl (by first | exact Or.inl rfl | exact Or.inr rfl) ?_)
    refine je_if ?_
    refine jt_cmp ?_
    refine je_var 1 rfl (by first | exact Or.inl rfl | exact Or.inr (Or.inl rfl) | exact Or.inr (Or.inr rfl)) rfl (by intro z; cases z) ?_
    refine je_callB B.len rfl rfl ?_
    refine ja_cons ?_
    refine je_var 0 rfl (by first | exact Or.inl rfl | exact Or.inr (Or.inl rfl) | exact Or.inr (Or.inr rfl)) rfl (by intro z; cases z) ?_
    refine ja_nil ?_
    refine jc_lenS ?_
    refine jo_lt ?_
    refine ⟨_, rfl, ?_⟩
    refine ⟨fun hk => ?_, fun hk => ?_⟩
    · refine je_callTy B.int_ rfl rfl ?_
      refine ja_cons ?_
      refine je_ixS ?_
      refine je_var 0 rfl (by first | exact Or.inl rfl | exact Or.inr (Or.inl rfl) | exact Or.inr (Or.inr rfl)) rfl (by intro z; cases z) ?_
      refine ⟨ns, rfl, ?_⟩
      refine je_var 1 rfl (by first | exact Or.inl rfl | exact Or.inr (Or.inl rfl) | exact Or.inr (Or.inr rfl)) rfl (by intro z; cases z) ?_
      refine ⟨i, rfl, by have := of_decide_eq_true hk; omega, ?_⟩
      refine ja_nil ?_
      refine jc_int ?_
      exact rest _
    · refine je_int ?_
      exact rest _
  have last : ∀ own seed : Int, JA E ⟨N__law_well, defScope s__law_well, true, 0, fun _ => True⟩ [.scr ns, .dat (.int (i : Int)), .dat (.int own), .dat (.int seed), .no] (match (defBody s__law_well).drop 4 with | [.Return (some (.List es _)) _] => es | _ => []) fun ss => ∃ x y z : Int, ss = [.dat (.int x), .dat (.int y), .dat (.int z)] := fun own seed => by
    refine ja_cons ?_
    refine je_if ?_
    refine jt_bool ?_
    refine jw_or ?_
    refine jt_cmp ?_
    refine je_var 2 rfl (by first | exact Or.inl rfl | exact Or.inr (Or.inl rfl) | exact Or.inr (Or.inr rfl)) rfl (by intro z; cases z) ?_
    refine je_int ?_
    refine jo_lt ?_
    refine ⟨_, rfl, ?_⟩
    refine ⟨fun hk => ?_, fun hk => ?_⟩
    · refine jw_or1 ?_
      refine jt_cmp ?_
      refine je_var 2 rfl (by first | exact Or.inl rfl | exact Or.inr (Or.inl rfl) | exact Or.inr (Or.inr rfl)) rfl (by intro z; cases z) ?_
      refine je_bin ?_
      refine je_int ?_
      refine je_int ?_
      refine jo_pow ⟨by decide, by decide, by decide⟩ ?_
      refine jo_ge ?_
      refine ⟨_, rfl, ?_⟩
      refine ⟨fun hk' => ?_, fun hk' => ?_⟩
      · refine je_callB B.abs rfl rfl ?_
        refine ja_cons ?_
        refine je_var 2 rfl (by first | exact Or.inl rfl | exact Or.inr (Or.inl rfl) | exact Or.inr (Or.inr rfl)) rfl (by intro z; cases z) ?_
        refine ja_nil ?_
        refine jc_abs ?_
        refine ja_cons ?_
        refine je_var 3 rfl (by first | exact Or.inl rfl | exact Or.inr (Or.inl rfl) | exact Or.inr (Or.inr rfl)) rfl (by intro z; cases z) ?_
        refine ja_cons ?_
        refine je_int ?_
        refine ja_nil ?_
        exact ⟨_, _, _, rfl⟩
      · refine je_int ?_
        refine ja_cons ?_
        refine je_var 3 rfl (by first | exact Or.inl rfl | exact Or.inr (Or.inl rfl) | exact Or.inr (Or.inr rfl)) rfl (by intro z; cases z) ?_
        refine ja_cons ?_
        refine je_int ?_
        refine ja_nil ?_
        exact ⟨_, _, _, rfl⟩
    · refine ⟨fun _ => ?_, fun z => nomatch z⟩
      refine je_callB B.abs rfl rfl ?_
      refine ja_cons ?_
      refine je_var 2 rfl (by first | exact Or.inl rfl | exact Or.inr (Or.inl rfl) | exact Or.inr (Or.inr rfl)) rfl (by intro z; cases z) ?_
      refine ja_nil ?_
      refine jc_abs ?_
      refine ja_cons ?_
      refine je_var 3 rfl (by first | exact Or.inl rfl | exact Or.inr (Or.inl rfl) | exact Or.inr (Or.inr rfl)) rfl (by intro z; cases z) ?_
      refine ja_cons ?_
      refine je_int ?_
      refine ja_nil ?_
      exact ⟨_, _, _, rfl⟩
  refine ⟨_, pss_app (a := (defBody s__law_well).take 4) pss_se (pss_cons (ps_ret (pe_lst pa_se)) pss_nil), ?_⟩
  refine pre ⟨fun ρ' => ∃ own seed : Int, ρ' = [.scr ns, .dat (.int (i : Int)), .dat (.int own), .dat (.int seed), .no], fun _ => False, fun _ => False, fun _ => False⟩ (fun own seed => ⟨own, seed, rfl⟩) _ g [] [] none _ H rfl st0 en0 _ ⟨fun σ' H' ρ' e1 st1 en1 h => ?_, fun _ _ _ _ _ _ z => z.elim, fun _ _ _ _ _ _ z => z.elim, fun _ _ _ _ _ _ z => z.elim⟩
  obtain ⟨own, seed, rfl⟩ := h
  refine last own seed _ g [] [] none σ' H' st1 en1 _ fun vs ss H2 e2 st2 ok h => ?_
  obtain ⟨x, y, z, rfl⟩ := h
  match vs, ok with
  | [v1, v2, v3], .cons o1 (.cons o2 (.cons o3 .nil)) =>
    cases o1
    cases o2
    cases o3
    exact ⟨Nat.le_of_ble_eq_true rfl, fun p hp => q p x y z H2 (fun c o hc => e2 c o (fun z => nomatch z) (e1 c o (fun z => nomatch z) (fun z => nomatch z) hc)) hp⟩
theorem DK_paper_of (B : BC E) (A : At E "paper_of" s_paper_of ["lot", "row", "bound"]) (D_check_wish : Def E 8 "check_wish" ["lot", "row", "bound"] [] C_check_wish) (D_paper_by : Def E 11 "paper_by" ["lot", "row", "bound"] [] C_paper_by) : DefK E 12 C_paper_of := by
  refine defK_of A (fun ss P h => by obtain ⟨k, ws, row, b, r, rfl, _⟩ := h; rfl) fun ss P h => ?_
  obtain ⟨k, ws, row, b, r, rfl, hO, hrl, hrs, hb, hP, p⟩ := h
  refine js_cons (j1_expr ?_)
  refine je_call D_check_wish (Nat.le_of_ble_eq_true rfl) rfl ?_
  refine ja_cons ?_
  refine je_var 0 rfl (by first | exact Or.inl rfl | exact Or.inr (Or.inl rfl) | exact Or.inr (Or.inr rfl)) rfl (by intro z; cases z) ?_
  refine ja_cons ?_
  refine je_var 1 rfl (by first | exact Or.inl rfl | exact Or.inr (Or.inl rfl) | exact Or.inr (Or.inr rfl)) rfl (by intro z; cases z) ?_
  refine ja_cons ?_
  refine je_var 2 rfl (by first | exact Or.inl rfl | exact Or.inr (Or.inl rfl) | exact Or.inr (Or.inr rfl)) rfl (by intro z; cases z) ?_
  refine ja_nil ?_
  refine ⟨k, ws, row, b, rfl, hO, hrl, ?_⟩
  refine js_cons (j1_set 3 (by decide +kernel) rfl (by first | exact Or.inl rfl | exact Or.inr rfl) ?_)
  refine je_call D_paper_by (Nat.le_of_ble_eq_true rfl) rfl ?_
  refine ja_cons ?_
  refine je_var 0 rfl (by first | exact Or.inl rfl | exact Or.inr (Or.inl rfl) | exact Or.inr (Or.inr rfl)) rfl (by intro z; cases z) ?_
  refine ja_cons ?_
  refine je_var 1 rfl (by first | exact Or.inl rfl | exact Or.inr (Or.inl rfl) | exact Or.inr (Or.inr rfl)) rfl (by intro z; cases z) ?_
  refine ja_cons ?_
  refine je_var 2 rfl (by first | exact Or.inl rfl | exact Or.inr (Or.inl rfl) | exact Or.inr (Or.inr rfl)) rfl (by intro z; cases z) ?_
  refine ja_nil ?_
  refine ⟨k, ws, row, b, r, rfl, hO, hrl, hrs, hb, hP, ?_⟩
  refine js_cons (j1_ret ?_)
  refine je_if ?_
  refine jt_cmp ?_
  refine je_var 3 rfl (by first | exact Or.inl rfl | exact Or.inr (Or.inl rfl) | exact Or.inr (Or.inr rfl)) rfl (by intro z; cases z) ?_
  refine je_tup ?_
  refine ja_nil ?_
  refine ⟨_, rfl, Nat.le_of_ble_eq_true rfl, ?_⟩
  refine jo_neD rfl rfl ?_ ?_ ?_
  exact shPap _
  rfl
  rw [eqv_pap]
  cases r with
  | none =>
    refine ⟨_, rfl, ?_⟩
    refine ⟨fun z => (nomatch z), fun _ => ?_⟩
    refine je_non ?_
    exact ⟨_, rfl, p⟩
  | some q =>
    refine ⟨_, rfl, ?_⟩
    refine ⟨fun _ => ?_, fun z => nomatch z⟩
    refine je_var 3 rfl (by first | exact Or.inl rfl | exact Or.inr (Or.inl rfl) | exact Or.inr (Or.inr rfl)) rfl (by intro z; cases z) ?_
    exact ⟨_, rfl, p⟩
end
end W6
end
section
set_option Elab.async false
set_option linter.all false
set_option maxRecDepth 100000
set_option maxHeartbeats 4000000
/-! The walk: the law. -/
namespace W6
open PySem PySem.Spec PyProof.Rows L2
section
variable {E : En}
abbrev C_law : List Sl → (PyData → Prop) → Prop := fun ss P => ∃ ns : List Int, ss = [.scr ns] ∧ ns.length ≤ 100000 ∧ P (.bool true)
theorem law_fnG {f : Addr} {fd : FuncData} (B : BC E) (F : Fun E.K "law" "law" s_law f fd) (DW : DefW E 1 "_law_well" ["_law_script", "_law_turn"]) (DR : DefG E 14 "_law_right" ["_law_well_here"] C__law_right) : FnG E.P E.w E.K E.mg E.base 15 f fd ["_law_script"] (spC E.K C_law) := by
  refine fnG_of F c_law (fun vs H Q Ex hsp => ?_) (fun cdv A outer s H vs Q Ex cA hr hsp => def_body2 (q0 := Calm0) (fun ss P h => ?_) cdv A outer s H vs Q Ex cA hr hsp)
  · obtain ⟨W, M, ss, P, st, ok, ⟨ns, rfl, _⟩, q⟩ := hsp
    have := Paired.length ok
    exact this
  obtain ⟨ns, rfl, hl, p⟩ := h
  refine js_cons (j1_ret ?_)
  refine je_callB B.all rfl rfl ?_
  refine ja_cons ?_
  refine je_lc1 1 (by decide +kernel) (by decide +kernel) rfl rfl ?_
  refine ji_range1 B.range_ rfl ?_
  refine je_callB B.max rfl rfl ?_
  refine ja_cons ?_
  refine je_int ?_
  refine ja_cons ?_
  refine je_callB B.min rfl rfl ?_
  refine ja_cons ?_
  refine je_callB B.len rfl rfl ?_
  refine ja_cons ?_
  refine je_var 0 rfl (by first | exact Or.inl rfl | exact Or.inr (Or.inl rfl) | exact Or.inr (Or.inr rfl)) rfl (by intro z; cases z) ?_
  refine ja_nil ?_
  refine jc_lenS ?_
  refine ja_cons ?_
  refine je_int ?_
  refine ja_nil ?_
  refine jc_min ?_
  refine ja_nil ?_
  refine jc_max ?_
  obtain ⟨n, en, hn⟩ : ∃ n : Nat, max (1 : Int) (min (ns.length : Int) 2) = (n : Int) ∧ n ≤ 2 := ⟨(max (1 : Int) (min (ns.length : Int) 2)).toNat, by omega, by omega⟩
  rw [en]
  refine ⟨n, rfl, by omega, lcMap (List.range n) int (fun _ => .bool true) (by rw [List.length_range]; omega) (fun i hi => ?_) ?_⟩
  · refine je_callWell DR DW (Nat.le_of_ble_eq_true rfl) (Nat.le_of_ble_eq_true rfl) rfl rfl (fun _ h => h) ⟨rfl, rfl⟩ rfl ?_
    refine je_var 0 rfl (by first | exact Or.inl rfl | exact Or.inr (Or.inl rfl) | exact Or.inr (Or.inr rfl)) rfl (by intro z; cases z) ?_
    refine je_var 1 rfl (by first | exact Or.inl rfl | exact Or.inr (Or.inl rfl) | exact Or.inr (Or.inr rfl)) rfl (by intro z; cases z) ?_
    exact ⟨ns, i, rfl, rfl, hl⟩
  · have e : (List.range n).map (fun _ => PyData.bool true) = ((List.range n).map fun _ => true).map PyData.bool := by rw [List.map_map]; rfl
    rw [e]
    refine ja_nil ?_
    refine jc_all ?_
    rw [all_true]
    exact ⟨_, rfl, p⟩
theorem law_sp {K : PySem.W.Frag} {H : Hp} {a : Addr} {ns : List Int} (hl : ns.length ≤ 100000) (h : SqL K H a (ns.map V.int)) : spC K C_law [.ref a] H (fun v _ => v = .bl true) fun _ _ _ => False := by
  refine ⟨[], [], [.scr ns], fun d => d = .bool true, ⟨fun _ z => (nomatch z), fun _ z => (nomatch z), fun _ z => (nomatch z), fun _ z => (nomatch z)⟩, .cons ⟨a, rfl, ?_⟩ .nil, ⟨ns, rfl, hl, rfl⟩, fun v d H' _ _ dv hd => ?_⟩
  · have e : wo (mt none []) H = H := by funext b; exact if_neg (fun z => nomatch z)
    rw [e]
    exact h
  · subst hd
    cases dv
    rfl
end
end W6
end
section
set_option linter.all false
set_option maxHeartbeats 1000000
/-! The board as functions: what each turn keeps. -/
namespace W6
/-- sum of f i, i < n -/
def S : Nat → (Nat → Rat) → Rat
  | 0, _ => 0
  | n + 1, f => S n f + f n
theorem S_congr {n : Nat} {f g : Nat → Rat} (h : ∀ i, i < n → f i = g i) : S n f = S n g := by
  induction n with
  | zero => rfl
  | succ n ih => show S n f + f n = S n g + g n; rw [ih fun i hi => h i (by omega), h n (by omega)]
theorem S_zero {n : Nat} {f : Nat → Rat} (h : ∀ i, i < n → f i = 0) : S n f = 0 := by
  induction n with
  | zero => rfl
  | succ n ih => show S n f + f n = 0; rw [ih fun i hi => h i (by omega), h n (by omega)]; grind
theorem S_add (n : Nat) (f g : Nat → Rat) : S n (fun i => f i + g i) = S n f + S n g := by
  induction n with
  | zero => show (0 : Rat) = 0 + 0; grind
  | succ n ih => show S n _ + (f n + g n) = S n f + f n + (S n g + g n); rw [ih]; grind
theorem S_mul (n : Nat) (c : Rat) (f : Nat → Rat) : S n (fun i => c * f i) = c * S n f := by
  induction n with
  | zero => show (0 : Rat) = c * 0; grind
  | succ n ih => show S n _ + c * f n = c * (S n f + f n); rw [ih]; grind
theorem S_mulr (n : Nat) (c : Rat) (f : Nat → Rat) : S n (fun i => f i * c) = S n f * c := by
  rw [Rat.mul_comm, ← S_mul]
  exact S_congr fun i _ => Rat.mul_comm ..
theorem S_sub (n : Nat) (f g : Nat → Rat) : S n (fun i => f i - g i) = S n f - S n g := by
  induction n with
  | zero => show (0 : Rat) = 0 - 0; grind
  | succ n ih => show S n _ + (f n - g n) = S n f + f n - (S n g + g n); rw [ih]; grind
theorem S_swap (m : Nat) : ∀ (n : Nat) (f : Nat → Nat → Rat), S n (fun i => S m fun j => f i j) = S m fun j => S n fun i => f i j
  | 0, f => (S_zero (n := m) (f := fun j => S 0 fun i => f i j) fun j _ => rfl).symm
  | n + 1, f => by
    show S n (fun i => S m fun j => f i j) + S m (fun j => f n j) = S m fun j => (S n fun i => f i j) + f n j
    rw [S_swap m n f, ← S_add]
theorem S_one {n p : Nat} {f : Nat → Rat} (hp : p < n) (h : ∀ i, i < n → i ≠ p → f i = 0) : S n f = f p := by
  induction n with
  | zero => omega
  | succ n ih =>
    show S n f + f n = f p
    by_cases e : p = n
    · rw [S_zero fun i hi => h i (by omega) (by omega), e]; grind
    · rw [ih (by omega) fun i hi hne => h i (by omega) hne, h n (by omega) (fun z => e z.symm)]; grind
theorem S_nonneg {n : Nat} {f : Nat → Rat} (h : ∀ i, i < n → 0 ≤ f i) : 0 ≤ S n f := by
  induction n with
  | zero => exact Rat.le_refl
  | succ n ih =>
    have h1 := ih fun i hi => h i (by omega)
    have h2 := h n (by omega)
    show 0 ≤ S n f + f n
    grind
theorem S_le_one {n p : Nat} {f : Nat → Rat} (hp : p < n) (h : ∀ i, i < n → 0 ≤ f i) : f p ≤ S n f := by
  induction n with
  | zero => omega
  | succ n ih =>
    have h1 := h n (by omega)
    show f p ≤ S n f + f n
    by_cases e : p = n
    · have := S_nonneg (n := n) fun i hi => h i (by omega)
      rw [e]; grind
    · have := ih (by omega) fun i hi => h i (by omega)
      grind
theorem S_neg_ex {n : Nat} {f : Nat → Rat} (h : S n f < 0) : ∃ i, i < n ∧ f i < 0 := by
  refine Classical.byContradiction fun hn => ?_
  have := S_nonneg (n := n) (f := f) fun i hi => Rat.not_lt.mp fun z => hn ⟨i, hi, z⟩
  grind
/-- with one term put apart -/
theorem S_split {n p : Nat} {f : Nat → Rat} (hp : p < n) : S n f = f p + S n fun i => if i = p then 0 else f i := by
  have : S n f = S n (fun i => (if i = p then f i else 0) + (if i = p then 0 else f i)) := S_congr fun i _ => by split <;> grind
  rw [this, S_add, S_one (p := p) hp fun i _ hne => if_neg hne, if_pos rfl]
abbrev Mat := Nat → Nat → Rat
/-- m rows; columns 0 .. W - 1 and the right side W; the columns n + r (r < m) are the units of the start A -/
structure IV (A : Mat) (m n W : Nat) (T : Mat) (B : Nat → Nat) : Prop where
  bl : ∀ i, i < m → B i < W
  id : ∀ i, i < m → ∀ k, k < m → T i (B k) = if i = k then 1 else 0
  sp : ∀ r, r < m → ∀ j, j ≤ W → A r j = S m fun k => A r (B k) * T k j
  nm : ∀ i, i < m → ∀ j, j ≤ W → T i j = S m fun r => T i (n + r) * A r j
theorem IV.inj {A : Mat} {m n W : Nat} {T : Mat} {B : Nat → Nat} (h : IV A m n W T B) {i k : Nat} (hi : i < m) (hk : k < m) (e : B i = B k) : i = k := by
  refine Classical.byContradiction fun hne => ?_
  have h1 := h.id i hi k hk
  have h2 := h.id i hi i hi
  rw [if_neg hne] at h1
  rw [if_pos rfl, e, h1] at h2
  exact absurd h2 (by decide)
theorem IV.start {A : Mat} {m n W : Nat} (hW : n + m ≤ W) (h : ∀ i, i < m → ∀ k, k < m → A i (n + k) = if i = k then 1 else 0) : IV A m n W A fun k => n + k := by
  have key : ∀ i, i < m → ∀ j, S m (fun k => A i (n + k) * A k j) = A i j := fun i hi j => by
    rw [S_one (p := i) hi fun k hk hne => by rw [h i hi k hk, if_neg (fun z => hne z.symm)]; grind]
    rw [h i hi i hi, if_pos rfl]; grind
  exact ⟨fun i hi => by omega, h, fun r hr j _ => (key r hr j).symm, fun i hi j _ => (key i hi j).symm⟩
/-- the turn at row p, column s -/
structure Piv (m W : Nat) (T : Mat) (B : Nat → Nat) (p s : Nat) (T' : Mat) (B' : Nat → Nat) : Prop where
  row : ∀ j, j ≤ W → T' p j = T p j / T p s
  oth : ∀ i, i < m → i ≠ p → ∀ j, j ≤ W → T' i j = T i j - T i s * (T p j / T p s)
  bp : B' p = s
  bo : ∀ i, i < m → i ≠ p → B' i = B i
theorem IV.step {A : Mat} {m n W p s : Nat} {T T' : Mat} {B B' : Nat → Nat} (h : IV A m n W T B) (hp : p < m) (hs : s < W) (hW : n + m ≤ W) (hne : T p s ≠ 0) (P : Piv m W T B p s T' B') : IV A m n W T' B' := by
  refine ⟨fun i hi => ?_, fun i hi k hk => ?_, fun r hr j hj => ?_, fun i hi j hj => ?_⟩
  · by_cases e : i = p
    · rw [e, P.bp]; exact hs
    · rw [P.bo i hi e]; exact h.bl i hi
  · by_cases ek : k = p
    · subst ek
      rw [P.bp]
      by_cases ei : i = k
      · subst ei
        rw [P.row _ (by omega), if_pos rfl]; grind
      · rw [P.oth i hi ei _ (by omega), if_neg ei]; grind
    · rw [P.bo k hk ek]
      have hb := h.bl k hk
      have hpk := h.id p hp k hk
      rw [if_neg (fun z => ek z.symm)] at hpk
      by_cases ei : i = p
      · subst ei
        rw [P.row _ (by omega), hpk, if_neg (fun z => ek z.symm)]; grind
      · rw [P.oth i hi ei _ (by omega), hpk, h.id i hi k hk]; grind
  · have h1 := h.sp r hr j hj
    have h2 := h.sp r hr s (by omega)
    rw [S_split hp] at h1 h2 ⊢
    rw [P.bp, P.row j hj]
    have e : S m (fun k => if k = p then 0 else A r (B' k) * T' k j) = S m (fun k => if k = p then 0 else A r (B k) * T k j) - (S m fun k => if k = p then 0 else A r (B k) * T k s) * (T p j / T p s) := by
      rw [← S_mulr, ← S_sub]
      refine S_congr fun k hk => ?_
      by_cases ek : k = p
      · rw [if_pos ek, if_pos ek, if_pos ek]; grind
      · rw [if_neg ek, if_neg ek, if_neg ek, P.bo k hk ek, P.oth k hk ek j hj]; grind
    rw [e]
    have e2 : T p s * (T p j / T p s) = T p j := by grind
    generalize S m (fun k => if k = p then 0 else A r (B k) * T k j) = U at h1 ⊢
    generalize (S m fun k => if k = p then 0 else A r (B k) * T k s) = V at h2 ⊢
    rw [h1, h2]
    generalize hq : T p j / T p s = q at e2
    rw [← e2]
    grind
  · by_cases ei : i = p
    · subst ei
      rw [P.row j hj, h.nm i hi j hj]
      have : S m (fun r => T' i (n + r) * A r j) = S m (fun r => T i (n + r) * A r j * (1 / T i s)) := S_congr fun r hr => by rw [P.row _ (by omega)]; grind
      rw [this, S_mulr]; grind
    · rw [P.oth i hi ei j hj]
      have : S m (fun r => T' i (n + r) * A r j) = S m (fun r => T i (n + r) * A r j) - S m (fun r => T p (n + r) * A r j) * (T i s / T p s) := by
        rw [← S_mulr, ← S_sub]
        refine S_congr fun r hr => ?_
        rw [P.oth i hi ei _ (by omega)]; grind
      rw [this, ← h.nm i hi j hj, ← h.nm p hp j hj]; grind
/-- the basis tells the board -/
theorem IV.uniq {A : Mat} {m n W : Nat} {T T' : Mat} {B B' : Nat → Nat} (h : IV A m n W T B) (h' : IV A m n W T' B') (e : ∀ i, i < m → B i = B' i) {i j : Nat} (hi : i < m) (hj : j ≤ W) : T' i j = T i j := by
  rw [h'.nm i hi j hj]
  have e1 : S m (fun r => T' i (n + r) * A r j) = S m (fun r => S m fun k => T' i (n + r) * A r (B k) * T k j) := S_congr fun r hr => by
    rw [h.sp r hr j hj, ← S_mul]
    exact S_congr fun k _ => by grind
  rw [e1, S_swap]
  have e2 : S m (fun k => S m fun r => T' i (n + r) * A r (B k) * T k j) = S m (fun k => T' i (B k) * T k j) := S_congr fun k hk => by
    rw [S_mulr, ← h'.nm i hi (B k) (Nat.le_of_lt (h.bl k hk))]
  rw [e2, S_one (p := i) hi fun k hk hne => by rw [e k hk, h'.id i hi k hk, if_neg (fun z => hne z.symm)]; grind]
  rw [e i hi, h'.id i hi i hi, if_pos rfl]; grind
/-! ### how big the numbers are -/
def gB : Nat → Nat → Nat
  | 0, _ => 1
  | m + 1, b => gB m (2 * b + 1) + b + (m + 1)
def SZ : Nat → (Nat → Int) → Int
  | 0, _ => 0
  | n + 1, f => SZ n f + f n
theorem SZ_cast : ∀ (n : Nat) (f : Nat → Int), ((SZ n f : Int) : Rat) = S n fun i => (f i : Rat)
  | 0, _ => rfl
  | n + 1, f => by show ((SZ n f + f n : Int) : Rat) = _; rw [Rat.intCast_add, SZ_cast n f]; rfl
theorem SZ_lt : ∀ (n : Nat) (f : Nat → Int) (g : Nat), (∀ i, i < n → (f i).natAbs < 2 ^ g) → (SZ n f).natAbs < 2 ^ (g + n)
  | 0, f, g, _ => Nat.two_pow_pos _
  | n + 1, f, g, h => by
    have h1 := SZ_lt n f g fun i hi => h i (by omega)
    have h2 := h n (by omega)
    have h3 := Int.natAbs_add_le (SZ n f) (f n)
    have h4 : 2 ^ g ≤ 2 ^ (g + n) := pow_le (by omega)
    show (SZ n f + f n).natAbs < 2 ^ (g + (n + 1))
    rw [← Nat.add_assoc, Nat.pow_succ]
    omega
theorem rat_ne {z : Int} (h : z ≠ 0) : (z : Rat) ≠ 0 := fun e => h (Rat.intCast_inj.mp (e.trans Rat.intCast_zero.symm))
theorem frac_lem2 {z w U d q : Rat} (hd : d ≠ 0) (hq : q ≠ 0) (h : U * (1 / d) + q * z = w) : z = (w * d - U) / (q * d) := by grind
theorem frac_lem3 {x q d : Rat} (hd : d ≠ 0) (hq : q ≠ 0) : x / d = x * q / (q * d) := by grind
/-- a system with one solution: its numbers are small -/
theorem solve_small (R : Nat) : ∀ (m b : Nat) (M : Nat → Nat → Int) (v : Nat → Int) (x : Nat → Rat), (∀ r, r < R → S m (fun k => (M r k : Rat) * x k) = (v r : Rat)) → (∀ r, r < R → ∀ k, k < m → (M r k).natAbs < 2 ^ b) → (∀ r, r < R → (v r).natAbs < 2 ^ b) →
    (∀ y : Nat → Rat, (∀ r, r < R → S m (fun k => (M r k : Rat) * y k) = 0) → ∀ k, k < m → y k = 0) → ∃ (D : Int) (X : Nat → Int), D ≠ 0 ∧ D.natAbs < 2 ^ gB m b ∧ ∀ k, k < m → x k = (X k : Rat) / (D : Rat) ∧ (X k).natAbs < 2 ^ gB m b
  | 0, b, M, v, x, _, _, _, _ => ⟨1, fun _ => 0, by decide, by show 1 < 2 ^ 1; decide, fun k hk => absurd hk (Nat.not_lt_zero k)⟩
  | m + 1, b, M, v, x, hx, hM, hv, hker => by
    obtain ⟨p, hp, hne⟩ : ∃ p, p < R ∧ M p m ≠ 0 := by
      refine Classical.byContradiction fun hn => ?_
      have := hker (fun k => if k = m then 1 else 0) (fun r hr => ?_) m (by omega)
      · rw [if_pos rfl] at this; exact absurd this (by decide)
      · refine S_zero fun k hk => ?_
        by_cases e : k = m
        · rw [e, Classical.not_not.mp fun z => hn ⟨r, hr, z⟩, Rat.intCast_zero]; grind
        · rw [if_neg e]; grind
    have hq := rat_ne hne
    have xe : ∀ y : Nat → Rat, ∀ w : Nat → Rat, (∀ r, r < R → S (m + 1) (fun k => (M r k : Rat) * y k) = w r) → ∀ r, r < R → S m (fun k => ((M p m * M r k - M r m * M p k : Int) : Rat) * y k) = (M p m : Rat) * w r - (M r m : Rat) * w p := fun y w hw r hr => by
      have h1 : S m (fun k => (M r k : Rat) * y k) + (M r m : Rat) * y m = w r := hw r hr
      have h2 : S m (fun k => (M p k : Rat) * y k) + (M p m : Rat) * y m = w p := hw p hp
      have e : S m (fun k => ((M p m * M r k - M r m * M p k : Int) : Rat) * y k) = (M p m : Rat) * S m (fun k => (M r k : Rat) * y k) - (M r m : Rat) * S m (fun k => (M p k : Rat) * y k) := by
        rw [← S_mul, ← S_mul, ← S_sub]
        refine S_congr fun k _ => ?_
        rw [Rat.intCast_sub, Rat.intCast_mul, Rat.intCast_mul]; grind
      rw [e, ← h1, ← h2]; grind
    have sz2 : ∀ a c d e : Int, a.natAbs < 2 ^ b → c.natAbs < 2 ^ b → d.natAbs < 2 ^ b → e.natAbs < 2 ^ b → (a * c - d * e).natAbs < 2 ^ (2 * b + 1) := fun a c d e ha hc hd he => by
      have h1 : (a * c).natAbs < 2 ^ (b + b) := by rw [Int.natAbs_mul]; exact mul_lt ha hc
      have h2 : (d * e).natAbs < 2 ^ (b + b) := by rw [Int.natAbs_mul]; exact mul_lt hd he
      have h3 := Int.natAbs_sub_le (a * c) (d * e)
      have h4 : 2 ^ (2 * b + 1) = 2 ^ (b + b) + 2 ^ (b + b) := by rw [show 2 * b + 1 = (b + b) + 1 by omega, Nat.pow_succ]; omega
      omega
    obtain ⟨D, X, hD, hDs, hX⟩ := solve_small R m (2 * b + 1) (fun r k => M p m * M r k - M r m * M p k) (fun r => M p m * v r - M r m * v p) x
      (fun r hr => by rw [xe x (fun r => (v r : Rat)) hx r hr, Rat.intCast_sub, Rat.intCast_mul, Rat.intCast_mul])
      (fun r hr k hk => sz2 _ _ _ _ (hM p hp m (by omega)) (hM r hr k (by omega)) (hM r hr m (by omega)) (hM p hp k (by omega)))
      (fun r hr => sz2 _ _ _ _ (hM p hp m (by omega)) (hv r hr) (hM r hr m (by omega)) (hv p hp))
      (fun y hy k hk => by
        have := hker (fun j => if j = m then -(S m fun k => (M p k : Rat) * y k) / (M p m : Rat) else y j) (fun r hr => ?_) k (by omega)
        · rw [if_neg (by omega)] at this; exact this
        · have e1 : S m (fun j => (M r j : Rat) * (if j = m then -(S m fun k => (M p k : Rat) * y k) / (M p m : Rat) else y j)) = S m (fun j => (M r j : Rat) * y j) := S_congr fun j hj => by rw [if_neg (by omega)]
          show S m (fun j => (M r j : Rat) * (if j = m then -(S m fun k => (M p k : Rat) * y k) / (M p m : Rat) else y j)) + (M r m : Rat) * (if m = m then _ else y m) = 0
          rw [e1, if_pos rfl]
          have e2 : (M p m : Rat) * S m (fun k => (M r k : Rat) * y k) - (M r m : Rat) * S m (fun k => (M p k : Rat) * y k) = 0 := by
            rw [← hy r hr, ← S_mul, ← S_mul, ← S_sub]
            refine S_congr fun k _ => ?_
            rw [Rat.intCast_sub, Rat.intCast_mul, Rat.intCast_mul]; grind
          generalize S m (fun k => (M r k : Rat) * y k) = U at e2 ⊢
          generalize (S m fun k => (M p k : Rat) * y k) = V at e2 ⊢
          generalize (M p m : Rat) = q at hq e2 ⊢
          generalize (M r m : Rat) = t at e2 ⊢
          have : q * (U + t * (-V / q)) = 0 := by grind
          rcases Rat.mul_eq_zero.mp this with h | h
          · exact absurd h hq
          · exact h)
    have hDr := rat_ne hD
    have eG : gB (m + 1) b = gB m (2 * b + 1) + b + (m + 1) := rfl
    rw [eG]
    generalize gB m (2 * b + 1) = G at hDs hX
    have xm : x m = ((v p * D - SZ m (fun j => M p j * X j) : Int) : Rat) / ((M p m * D : Int) : Rat) := by
      have h1 : S m (fun j => (M p j : Rat) * x j) + (M p m : Rat) * x m = (v p : Rat) := hx p hp
      have h2 : S m (fun j => (M p j : Rat) * x j) = S m (fun j => ((M p j * X j : Int) : Rat)) * (1 / (D : Rat)) := by
        rw [← S_mulr]
        refine S_congr fun j hj => ?_
        rw [(hX j hj).1, Rat.intCast_mul]; grind
      rw [h2] at h1
      rw [Rat.intCast_sub, Rat.intCast_mul, Rat.intCast_mul, SZ_cast]
      generalize S m (fun j => ((M p j * X j : Int) : Rat)) = U at h1 ⊢
      generalize (M p m : Rat) = q at hq h1 ⊢
      generalize (D : Rat) = d at hDr h1 ⊢
      generalize (v p : Rat) = w at h1 ⊢
      generalize x m = z at h1 ⊢
      exact frac_lem2 hDr hq h1
    have bm : (v p * D - SZ m (fun j => M p j * X j)).natAbs < 2 ^ (G + b + (m + 1)) := by
      have a1 : (v p * D).natAbs < 2 ^ (b + G) := by rw [Int.natAbs_mul]; exact mul_lt (hv p hp) hDs
      have a2 := SZ_lt m (fun j => M p j * X j) (b + G) fun j hj => by rw [Int.natAbs_mul]; exact mul_lt (hM p hp j (by omega)) (hX j hj).2
      have a3 := Int.natAbs_sub_le (v p * D) (SZ m fun j => M p j * X j)
      have a4 : 2 ^ (b + G) ≤ 2 ^ (b + G + m) := pow_le (by omega)
      rw [show G + b + (m + 1) = (b + G + m) + 1 by omega, Nat.pow_succ]
      omega
    refine ⟨M p m * D, fun k => if k = m then v p * D - SZ m (fun j => M p j * X j) else X k * M p m, Int.mul_ne_zero hne hD, ?_, fun k hk => ?_⟩
    · rw [Int.natAbs_mul]
      exact Nat.lt_of_lt_of_le (mul_lt (hM p hp m (by omega)) hDs) (pow_le (by omega))
    · by_cases e : k = m
      · have ef : (if k = m then v p * D - SZ m (fun j => M p j * X j) else X k * M p m) = v p * D - SZ m (fun j => M p j * X j) := if_pos e
        dsimp only
        rw [ef, e]
        exact ⟨xm, bm⟩
      · have ef : (if k = m then v p * D - SZ m (fun j => M p j * X j) else X k * M p m) = X k * M p m := if_neg e
        dsimp only
        rw [ef]
        have hk : k < m := by omega
        constructor
        · rw [(hX k hk).1, Rat.intCast_mul, Rat.intCast_mul]
          exact frac_lem3 hDr hq
        · rw [Int.natAbs_mul]
          exact Nat.lt_of_lt_of_le (mul_lt (hX k hk).2 (hM p hp m (by omega))) (pow_le (by omega))
theorem IV.small {A : Mat} {m n W d b : Nat} {T : Mat} {B : Nat → Nat} (h : IV A m n W T B) (hd : 0 < d) (hA : ∀ r, r < m → ∀ j, j ≤ W → Dz d b (A r j)) {c : Nat} (hb : b * d < 2 ^ c) {i j : Nat} (hi : i < m) (hj : j ≤ W) : Sz (gB m c) (T i j) := by
  have hz : ∀ r j, ∃ z : Int, (r < m → j ≤ W → A r j * (d : Rat) = (z : Rat) ∧ z.natAbs < 2 ^ c) := fun r j => by
    by_cases hr : r < m ∧ j ≤ W
    · obtain ⟨z, h1, h2⟩ := hA r hr.1 j hr.2
      exact ⟨z, fun _ _ => ⟨h1, Nat.lt_of_le_of_lt h2 hb⟩⟩
    · exact ⟨0, fun h1 h2 => absurd ⟨h1, h2⟩ hr⟩
  have ⟨Z, hZ⟩ : ∃ Z : Nat → Nat → Int, ∀ r, r < m → ∀ j, j ≤ W → A r j * (d : Rat) = (Z r j : Rat) ∧ (Z r j).natAbs < 2 ^ c := ⟨fun r j => Classical.choose (hz r j), fun r hr j hj => Classical.choose_spec (hz r j) hr hj⟩
  have hdr : (d : Rat) ≠ 0 := by
    rw [← Rat.intCast_natCast]
    exact rat_ne (by omega)
  obtain ⟨D, X, hD, hDs, hX⟩ := solve_small m m c (fun r k => Z r (B k)) (fun r => Z r j) (fun k => T k j)
    (fun r hr => by
      rw [← (hZ r hr j hj).1, h.sp r hr j hj, ← S_mulr]
      refine S_congr fun k hk => ?_
      rw [← (hZ r hr _ (Nat.le_of_lt (h.bl k hk))).1]; grind)
    (fun r hr k hk => (hZ r hr _ (Nat.le_of_lt (h.bl k hk))).2) (fun r hr => (hZ r hr j hj).2)
    (fun y hy k hk => by
      have e : ∀ r, r < m → S m (fun k => A r (B k) * y k) = 0 := fun r hr => by
        have : S m (fun k => A r (B k) * y k) * (d : Rat) = 0 := by
          rw [← hy r hr, ← S_mulr]
          refine S_congr fun k hk => ?_
          rw [← (hZ r hr _ (Nat.le_of_lt (h.bl k hk))).1]; grind
        rcases Rat.mul_eq_zero.mp this with h | h
        · exact h
        · exact absurd h hdr
      have e2 : S m (fun q => T k (B q) * y q) = 0 := by
        have : S m (fun q => T k (B q) * y q) = S m (fun r => T k (n + r) * S m fun q => A r (B q) * y q) := by
          have e3 : S m (fun q => T k (B q) * y q) = S m (fun q => S m fun r => T k (n + r) * A r (B q) * y q) := S_congr fun q hq => by rw [h.nm k hk _ (Nat.le_of_lt (h.bl q hq)), ← S_mulr]
          rw [e3, S_swap]
          refine S_congr fun r _ => ?_
          rw [← S_mul]
          exact S_congr fun q _ => by grind
        rw [this]
        exact S_zero fun r hr => by rw [e r hr]; grind
      rw [S_one (p := k) hk fun q hq hne => by rw [h.id k hk q hq, if_neg (fun z => hne z.symm)]; grind] at e2
      rw [h.id k hk k hk, if_pos rfl] at e2
      grind)
  rw [(hX i hi).1, ← Rat.divInt_eq_div]
  have g0 : 0 < gB m c := by cases m <;> (unfold gB; omega)
  exact sz_divInt (hX i hi).2 hDs g0
end W6
end
section
set_option linter.all false
set_option maxHeartbeats 1000000
/-! No basis comes again (the least index is taken). -/
namespace W6
def dd (c : Nat → Rat) (m : Nat) (T : Mat) (B : Nat → Nat) (j : Nat) : Rat := c j - S m fun i => c (B i) * T i j
def zz (c : Nat → Rat) (m W : Nat) (T : Mat) (B : Nat → Nat) : Rat := S m fun i => c (B i) * T i W
structure Stp (c : Nat → Rat) (m many W : Nat) (T : Mat) (B : Nat → Nat) (e l : Nat) (T' : Mat) (B' : Nat → Nat) : Prop where
  he : e < many
  hd : dd c m T B e < 0
  hl : ∀ j, j < e → 0 ≤ dd c m T B j
  hm : l < m
  hpos : 0 < T l e
  hrat : ∀ i, i < m → 0 < T i e → T l W / T l e < T i W / T i e ∨ (T l W / T l e = T i W / T i e ∧ B l ≤ B i)
  piv : Piv m W T B l e T' B'
theorem rat_zero_div (a : Rat) : 0 / a = 0 := by rw [Rat.div_def, Rat.zero_mul]
theorem div_nn {a b : Rat} (ha : 0 ≤ a) (hb : 0 < b) : 0 ≤ a / b := by
  rw [Rat.div_def]
  exact Rat.mul_nonneg ha (Rat.le_of_lt (Rat.inv_pos.mpr hb))
theorem le_of_div {a b t : Rat} (hb : 0 < b) (h : t ≤ a / b) : b * t ≤ a := by
  have h1 := Rat.mul_nonneg (Rat.le_of_lt hb) (show 0 ≤ a / b - t by grind)
  have hb' : b ≠ 0 := fun z => by rw [z] at hb; exact absurd hb (by decide)
  have h2 : b * (a / b - t) = a - b * t := by grind
  grind
theorem nn_lem {x y t : Rat} (hx : 0 ≤ x) (hy : y ≤ 0) (ht : 0 ≤ t) : 0 ≤ x - y * t := by
  have := Rat.mul_nonneg (show 0 ≤ -y by grind) ht
  grind
theorem Stp.nn {c : Nat → Rat} {m many W e l : Nat} {T T' : Mat} {B B' : Nat → Nat} (s : Stp c m many W T B e l T' B') (h : ∀ i, i < m → 0 ≤ T i W) : ∀ i, i < m → 0 ≤ T' i W := fun i hi => by
  have ht := div_nn (h l s.hm) s.hpos
  by_cases ei : i = l
  · rw [ei, s.piv.row W (Nat.le_refl _)]; exact ht
  · rw [s.piv.oth i hi ei W (Nat.le_refl _)]
    by_cases hp : 0 < T i e
    · have hle : T l W / T l e ≤ T i W / T i e := (s.hrat i hi hp).elim Rat.le_of_lt fun q => by rw [q.1]; exact Rat.le_refl
      have := le_of_div hp hle
      grind
    · exact nn_lem (h i hi) (Rat.not_lt.mp hp) ht
theorem z_lem {a r cl t ql ce u : Rat} (h : cl * (ql * t) + a = u) : ce * t + (a - r * t) = u + t * (ce - (cl * ql + r)) := by grind
theorem Stp.z {c : Nat → Rat} {m many W e l : Nat} {T T' : Mat} {B B' : Nat → Nat} (s : Stp c m many W T B e l T' B') : zz c m W T' B' = zz c m W T B + T l W / T l e * dd c m T B e := by
  have hne : T l e ≠ 0 := fun z => by have := s.hpos; rw [z] at this; exact absurd this (by decide)
  have h1 : zz c m W T B = c (B l) * T l W + S m fun i => if i = l then 0 else c (B i) * T i W := S_split s.hm
  have h2 : (S m fun i => c (B i) * T i e) = c (B l) * T l e + S m fun i => if i = l then 0 else c (B i) * T i e := S_split s.hm
  have h3 : zz c m W T' B' = c (B' l) * T' l W + S m fun i => if i = l then 0 else c (B' i) * T' i W := S_split s.hm
  have h4 : (S m fun i => if i = l then 0 else c (B' i) * T' i W) = (S m fun i => if i = l then 0 else c (B i) * T i W) - (S m fun i => if i = l then 0 else c (B i) * T i e) * (T l W / T l e) := by
    rw [← S_mulr, ← S_sub]
    refine S_congr fun i hi => ?_
    by_cases ei : i = l
    · rw [if_pos ei, if_pos ei, if_pos ei]; grind
    · rw [if_neg ei, if_neg ei, if_neg ei, s.piv.bo i hi ei, s.piv.oth i hi ei W (Nat.le_refl _)]; grind
  have h5 : T l W = T l e * (T l W / T l e) := by grind
  unfold dd
  rw [h3, h4, h2, s.piv.bp, s.piv.row W (Nat.le_refl _)]
  refine z_lem ?_
  rw [← h5, ← h1]
theorem dd_basic {A : Mat} {c : Nat → Rat} {m n W : Nat} {T : Mat} {B : Nat → Nat} (h : IV A m n W T B) {k : Nat} (hk : k < m) : dd c m T B (B k) = 0 := by
  unfold dd
  rw [S_one (p := k) hk fun i hi hne => by rw [h.id i hi k hk, if_neg hne]; grind, h.id k hk k hk, if_pos rfl]
  grind
/-- the direction of a column -/
def yy (m : Nat) (T : Mat) (B : Nat → Nat) (s j : Nat) : Rat := (if j = s then 1 else 0) - S m fun i => if B i = j then T i s else 0
theorem yy_sum {m W : Nat} {T : Mat} {B : Nat → Nat} {s : Nat} (hs : s < W) (hB : ∀ i, i < m → B i < W) (f : Nat → Rat) : S W (fun j => f j * yy m T B s j) = f s - S m fun i => f (B i) * T i s := by
  have e : S W (fun j => f j * yy m T B s j) = S W (fun j => f j * (if j = s then 1 else 0)) - S W (fun j => S m fun i => f j * (if B i = j then T i s else 0)) := by
    rw [← S_sub]
    refine S_congr fun j _ => ?_
    rw [S_mul]
    unfold yy
    grind
  rw [e, S_one (p := s) hs fun j _ hne => by rw [if_neg hne]; grind, if_pos rfl, S_swap]
  have e2 : (S m fun i => S W fun j => f j * (if B i = j then T i s else 0)) = S m fun i => f (B i) * T i s := S_congr fun i hi => by
    rw [S_one (p := B i) (hB i hi) fun j _ hne => by rw [if_neg (fun z => hne z.symm)]; grind, if_pos rfl]
  rw [e2]
  grind
theorem yy_at {A : Mat} {m n W : Nat} {T : Mat} {B : Nat → Nat} (h : IV A m n W T B) {s k : Nat} (hk : k < m) (hne : B k ≠ s) : yy m T B s (B k) = - T k s := by
  unfold yy
  rw [if_neg hne, S_one (p := k) hk fun i hi hn => if_neg fun z => hn (h.inj hi hk z), if_pos rfl]
  grind
/-- reduced costs along the direction of a column of another board -/
theorem dir_sum {A : Mat} {c : Nat → Rat} {m n W : Nat} {T Tq : Mat} {B Bq : Nat → Nat} (h : IV A m n W T B) (hq : IV A m n W Tq Bq) {s : Nat} (hs : s < W) : S W (fun j => dd c m Tq Bq j * yy m T B s j) = dd c m T B s := by
  rw [yy_sum hs h.bl]
  have key : (S m fun i => Tq i s * c (Bq i)) = S m fun k => (S m fun i => Tq i (B k) * c (Bq i)) * T k s := by
    have e1 : (S m fun i => Tq i s * c (Bq i)) = S m fun i => S m fun k => Tq i (B k) * T k s * c (Bq i) := S_congr fun i hi => by
      have h1 : Tq i s = S m fun k => Tq i (B k) * T k s := by
        rw [hq.nm i hi s (by omega)]
        have : (S m fun r => Tq i (n + r) * A r s) = S m fun r => S m fun k => Tq i (n + r) * A r (B k) * T k s := S_congr fun r hr => by
          rw [h.sp r hr s (by omega), ← S_mul]
          exact S_congr fun k _ => by grind
        rw [this, S_swap]
        refine S_congr fun k hk => ?_
        rw [S_mulr, ← hq.nm i hi (B k) (Nat.le_of_lt (h.bl k hk))]
      rw [h1, ← S_mulr]
    rw [e1, S_swap]
    refine S_congr fun k _ => ?_
    rw [← S_mulr]
    exact S_congr fun i _ => by grind
  unfold dd
  have e2 : (S m fun i => (c (B i) - S m fun q => c (Bq q) * Tq q (B i)) * T i s) = (S m fun i => c (B i) * T i s) - S m fun k => (S m fun i => Tq i (B k) * c (Bq i)) * T k s := by
    rw [← S_sub]
    refine S_congr fun i _ => ?_
    rw [show (S m fun q => c (Bq q) * Tq q (B i)) = S m fun q => Tq q (B i) * c (Bq q) from S_congr fun q _ => Rat.mul_comm ..]
    grind
  rw [e2, ← key, show (S m fun i => c (Bq i) * Tq i s) = S m fun i => Tq i s * c (Bq i) from S_congr fun q _ => Rat.mul_comm ..]
  grind
theorem crossing {f : Nat → Prop} {a b : Nat} (hab : a ≤ b) (ha : f a) (hb : ¬ f b) : ∃ t, a ≤ t ∧ t < b ∧ f t ∧ ¬ f (t + 1) := by
  induction b with
  | zero => obtain rfl : a = 0 := by omega
            exact absurd ha hb
  | succ b ih =>
    by_cases hfb : f b
    · by_cases e : a = b + 1
      · rw [e] at ha; exact absurd ha hb
      · exact ⟨b, by omega, by omega, hfb, hb⟩
    · by_cases e : a = b + 1
      · rw [e] at ha; exact absurd ha hb
      · obtain ⟨t, h1, h2, h3⟩ := ih (by omega) hfb
        exact ⟨t, h1, by omega, h3⟩
theorem greatest {f : Nat → Prop} : ∀ (W j : Nat), f j → (∀ j, f j → j < W) → ∃ t, f t ∧ ∀ j, f j → j ≤ t
  | 0, j, h, hb => absurd (hb j h) (Nat.not_lt_zero j)
  | W + 1, j, h, hb => by
    by_cases hf : f W
    · exact ⟨W, hf, fun i hi => by have := hb i hi; omega⟩
    · exact greatest W j h fun i hi => by
        have := hb i hi
        by_cases e : i = W
        · rw [e] at hi; exact absurd hi hf
        · omega
theorem sgn_lem {a b : Rat} (h : a * b < 0) (ha : 0 ≤ a) : 0 < a ∧ b < 0 := by
  have ha' : a ≠ 0 := fun z => by rw [z, Rat.zero_mul] at h; exact absurd h (by decide)
  have hp : 0 < a := Rat.lt_iff_le_and_ne.mpr ⟨ha, fun z => ha' z.symm⟩
  refine ⟨hp, Rat.not_le.mp fun hb => ?_⟩
  have := Rat.mul_nonneg ha hb
  grind
theorem neg_neg_lem {a b : Rat} (ha : a < 0) (hb : b < 0) : ¬ a * b < 0 := by
  have := Rat.mul_pos (show 0 < -a by grind) (show 0 < -b by grind)
  grind
theorem deg_lem {t d : Rat} (ht : 0 ≤ t) (hd : d < 0) (h : 0 ≤ t * d) : t = 0 := by
  refine Classical.byContradiction fun hne => ?_
  have hp : 0 < t := Rat.lt_iff_le_and_ne.mpr ⟨ht, fun z => hne z.symm⟩
  have := Rat.mul_pos hp (show 0 < -d by grind)
  grind
theorem drop_lem {t d : Rat} (ht : 0 ≤ t) (hd : d < 0) : t * d ≤ 0 := by
  have := Rat.mul_nonneg ht (show 0 ≤ -d by grind)
  grind
theorem no_cycle {A : Mat} {c : Nat → Rat} {m n many W N : Nat} (T : Nat → Mat) (B : Nat → Nat → Nat) (e l : Nat → Nat) (hN : 0 < N) (hmany : many ≤ W) (iv : ∀ t, t ≤ N → IV A m n W (T t) (B t)) (n0 : ∀ i, i < m → 0 ≤ T 0 i W) (st : ∀ t, t < N → Stp c m many W (T t) (B t) (e t) (l t) (T (t + 1)) (B (t + 1))) : ¬ ∀ i, i < m → B 0 i = B N i := by
  intro cyc
  have nn : ∀ t, t ≤ N → ∀ i, i < m → 0 ≤ T t i W := fun t => by
    induction t with
    | zero => exact fun _ => n0
    | succ t ih => exact fun ht => (st t (by omega)).nn (ih (by omega))
  -- the objective falls, and comes back
  have th : ∀ t, t < N → 0 ≤ T t (l t) W / T t (l t) (e t) := fun t ht => div_nn (nn t (by omega) _ (st t ht).hm) (st t ht).hpos
  have fall : ∀ k t, t + k ≤ N → zz c m W (T (t + k)) (B (t + k)) ≤ zz c m W (T t) (B t) := fun k => by
    induction k with
    | zero => exact fun t _ => Rat.le_refl
    | succ k ih =>
      intro t h
      have h1 := ih t (by omega)
      have h2 := (st (t + k) (by omega)).z
      have h3 := drop_lem (th (t + k) (by omega)) (st (t + k) (by omega)).hd
      show zz c m W (T (t + k + 1)) (B (t + k + 1)) ≤ _
      rw [h2]
      grind
  have same : zz c m W (T N) (B N) = zz c m W (T 0) (B 0) := S_congr fun i hi => by
    rw [← cyc i hi, (iv 0 (by omega)).uniq (iv N (Nat.le_refl _)) cyc hi (Nat.le_refl W)]
  have deg : ∀ t, t < N → T t (l t) W = 0 := fun t ht => by
    have h1 := fall t 0 (by omega)
    have h2 := fall (N - (t + 1)) (t + 1) (by omega)
    rw [show t + 1 + (N - (t + 1)) = N by omega, same, (st t ht).z] at h2
    rw [Nat.zero_add] at h1
    have h3 := deg_lem (th t ht) (st t ht).hd (by grind)
    have hne : T t (l t) (e t) ≠ 0 := fun z => by have := (st t ht).hpos; rw [z] at this; exact absurd this (by decide)
    have h4 : T t (l t) W = T t (l t) (e t) * (T t (l t) W / T t (l t) (e t)) := by grind
    rw [h4, h3, Rat.mul_zero]
  -- the numbers on the right stay
  have val : ∀ t, t ≤ N → ∀ j, (S m fun i => if B t i = j then T t i W else 0) = S m fun i => if B 0 i = j then T 0 i W else 0 := fun t => by
    induction t with
    | zero => exact fun _ _ => rfl
    | succ t ih =>
      intro ht j
      rw [← ih (by omega) j]
      have s := st t (by omega)
      have hz := deg t (by omega)
      refine S_congr fun i hi => ?_
      by_cases ei : i = l t
      · rw [ei, s.piv.row W (Nat.le_refl _), hz, rat_zero_div]
        split <;> split <;> rfl
      · rw [s.piv.bo i hi ei, s.piv.oth i hi ei W (Nat.le_refl _), hz, rat_zero_div, Rat.mul_zero]
        split
        · grind
        · rfl
  -- the greatest name that comes and goes
  let In : Nat → Nat → Prop := fun t j => ∃ i, i < m ∧ B t i = j
  have enter : ∀ t, t < N → ¬ In t (e t) := fun t ht ⟨i, hi, hb⟩ => by
    have := (st t ht).hd
    rw [← hb, dd_basic (iv t (by omega)) hi] at this
    exact absurd this (by decide)
  have entered : ∀ t, t < N → In (t + 1) (e t) := fun t ht => ⟨l t, (st t ht).hm, (st t ht).piv.bp⟩
  have only : ∀ t, t < N → ∀ j, ¬ In t j → In (t + 1) j → j = e t := fun t ht j hn ⟨i, hi, hb⟩ => by
    by_cases ei : i = l t
    · rw [ei, (st t ht).piv.bp] at hb; exact hb.symm
    · rw [(st t ht).piv.bo i hi ei] at hb; exact absurd ⟨i, hi, hb⟩ hn
  have left : ∀ t, t < N → ∀ j, In t j → ¬ In (t + 1) j → j = B t (l t) := fun t ht j ⟨i, hi, hb⟩ hn => by
    by_cases ei : i = l t
    · rw [← hb, ei]
    · exact absurd ⟨i, hi, by rw [(st t ht).piv.bo i hi ei]; exact hb⟩ hn
  have back : ∀ j, In 0 j ↔ In N j := fun j => ⟨fun ⟨i, hi, hb⟩ => ⟨i, hi, by rw [← cyc i hi]; exact hb⟩, fun ⟨i, hi, hb⟩ => ⟨i, hi, by rw [cyc i hi]; exact hb⟩⟩
  obtain ⟨g, ⟨⟨u, hu, gu⟩, v, hv, gv⟩, hg⟩ := greatest (f := fun j => (∃ u, u ≤ N ∧ In u j) ∧ ∃ v, v ≤ N ∧ ¬ In v j) W (e 0) ⟨⟨1, by omega, entered 0 hN⟩, 0, by omega, enter 0 hN⟩ fun j ⟨⟨u, hu, i, hi, hb⟩, _⟩ => by rw [← hb]; exact (iv u hu).bl i hi
  obtain ⟨p, hp, p1, p2⟩ : ∃ p, p < N ∧ In p g ∧ ¬ In (p + 1) g := by
    rcases Nat.le_total u v with h | h
    · obtain ⟨t, _, h2, h3⟩ := crossing (f := fun t => In t g) h gu gv
      exact ⟨t, by omega, h3⟩
    · by_cases h0 : In 0 g
      · obtain ⟨t, _, h2, h3⟩ := crossing (f := fun t => In t g) (Nat.zero_le v) h0 gv
        exact ⟨t, by omega, h3⟩
      · obtain ⟨t, _, h2, h3⟩ := crossing (f := fun t => In t g) hu gu fun z => h0 ((back g).mpr z)
        exact ⟨t, by omega, h3⟩
  obtain ⟨q, hq, q1, q2⟩ : ∃ q, q < N ∧ ¬ In q g ∧ In (q + 1) g := by
    rcases Nat.le_total v u with h | h
    · obtain ⟨t, _, h2, h3, h4⟩ := crossing (f := fun t => ¬ In t g) h gv (Classical.not_not.mpr gu)
      exact ⟨t, by omega, h3, Classical.not_not.mp h4⟩
    · by_cases h0 : In 0 g
      · obtain ⟨t, _, h2, h3, h4⟩ := crossing (f := fun t => ¬ In t g) hv gv (Classical.not_not.mpr ((back g).mp h0))
        exact ⟨t, by omega, h3, Classical.not_not.mp h4⟩
      · obtain ⟨t, _, h2, h3, h4⟩ := crossing (f := fun t => ¬ In t g) (Nat.zero_le u) h0 (Classical.not_not.mpr gu)
        exact ⟨t, by omega, h3, Classical.not_not.mp h4⟩
  have gp := left p hp g p1 p2
  have gq := only q hq g q1 q2
  have sp := st p hp
  have sq := st q hq
  have ivp := iv p (by omega)
  have ivq := iv q (by omega)
  have hs : e p < W := Nat.lt_of_lt_of_le sp.he hmany
  have sum := dir_sum (c := c) ivp ivq hs
  have neg : S W (fun j => dd c m (T q) (B q) j * yy m (T p) (B p) (e p) j) < 0 := by rw [sum]; exact sp.hd
  obtain ⟨j, hj, hneg⟩ := S_neg_ex neg
  have notq : ¬ In q j := fun ⟨i, hi, hb⟩ => by
    rw [← hb, dd_basic ivq hi, Rat.zero_mul] at hneg
    exact absurd hneg (by decide)
  have fick : (∃ u, u ≤ N ∧ In u j) → j ≤ g := fun h => hg j ⟨h, q, by omega, notq⟩
  by_cases js : j = e p
  · -- it is what comes in
    have y1 : yy m (T p) (B p) (e p) j = 1 := by
      unfold yy
      rw [if_pos js, S_zero fun i hi => if_neg fun hb => enter p hp ⟨i, hi, by rw [hb, js]⟩]
      grind
    rw [y1, Rat.mul_one] at hneg
    have hle := fick ⟨p + 1, by omega, by rw [js]; exact entered p hp⟩
    have hgj : j ≠ g := fun z => enter p hp (by rw [← js, z]; exact p1)
    have := sq.hl j (by rw [← gq]; omega)
    grind
  · by_cases hin : In p j
    · obtain ⟨i, hi, hb⟩ := hin
      have hle := fick ⟨p, by omega, i, hi, hb⟩
      have y1 : yy m (T p) (B p) (e p) j = - T p i (e p) := by rw [← hb]; exact yy_at ivp hi (by rw [hb]; exact js)
      rw [y1] at hneg
      by_cases hgj : j = g
      · have hil : i = l p := ivp.inj hi sp.hm (by rw [hb, hgj]; exact gp)
        have h1 := sq.hd
        rw [← gq, ← hgj] at h1
        refine neg_neg_lem h1 ?_ hneg
        rw [hil]
        have := sp.hpos
        grind
      · have h1 := sq.hl j (by rw [← gq]; omega)
        have h2 := (sgn_lem hneg h1).2
        have hpos : 0 < T p i (e p) := by grind
        have hz : T p i W = 0 := by
          have v1 := val p (by omega) j
          have v2 := val q (by omega) j
          rw [← v2, S_zero fun k hk => if_neg fun hbk => notq ⟨k, hk, hbk⟩] at v1
          have h3 := S_le_one (n := m) (p := i) (f := fun i => if B p i = j then T p i W else 0) hi fun k hk => by
            split
            · exact nn p (by omega) k hk
            · exact Rat.le_refl
          rw [v1] at h3
          have h3 : (if B p i = j then T p i W else 0) ≤ 0 := h3
          rw [if_pos hb] at h3
          have h4 := nn p (by omega) i hi
          grind
        have hr := sp.hrat i hi hpos
        rw [deg p hp, hz, rat_zero_div, rat_zero_div] at hr
        rcases hr with h | ⟨_, h⟩
        · exact absurd h (by decide)
        · rw [← gp, hb] at h
          omega
    · have y0 : yy m (T p) (B p) (e p) j = 0 := by
        unfold yy
        rw [if_neg js, S_zero fun i hi => if_neg fun hb => hin ⟨i, hi, hb⟩]
        grind
      rw [y0, Rat.mul_zero] at hneg
      exact absurd hneg (by decide)
end W6
end
section
set_option linter.all false
set_option maxHeartbeats 1000000
/-! The program's board as functions: its turns are the turns, and they end. -/
namespace W6
def tb (s : Bd) : Mat := fun i j => at_ (s.1.getD i []) j
def bb (s : Bd) : Nat → Nat := fun i => s.2.getD i 0
structure Shp (m W : Nat) (s : Bd) : Prop where
  bl : s.1.length = m
  sl : s.2.length = m
  rl : ∀ r ∈ s.1, r.length = W + 1
theorem Shp.row {m W : Nat} {s : Bd} (h : Shp m W s) {i : Nat} (hi : i < m) : (s.1.getD i []).length = W + 1 := h.rl _ (List.mem_of_getElem? (getD_lt (d := []) (by rw [h.bl]; exact hi)))
theorem at_zip {f : Rat → Rat → Rat} {a b : List Rat} {j : Nat} (ha : j < a.length) (hb : j < b.length) : at_ (List.zipWith f a b) j = f (at_ a j) (at_ b j) := by
  unfold at_
  rw [List.getD_eq_getElem?_getD, List.getD_eq_getElem?_getD, List.getD_eq_getElem?_getD, List.getElem?_zipWith, List.getElem?_eq_getElem ha, List.getElem?_eq_getElem hb]
  rfl
theorem at_sca {a : List Rat} {q : Rat} {j : Nat} (ha : j < a.length) : at_ (scaR a q) j = at_ a j * q := by
  unfold at_ scaR
  rw [List.getD_eq_getElem?_getD, List.getD_eq_getElem?_getD, List.getElem?_map, List.getElem?_eq_getElem ha]
  rfl
theorem getD_idx {α β : Type} {f : Nat × α → β} {l : List α} {i : Nat} {d : α} {d' : β} (hi : i < l.length) : ((idx l).map f).getD i d' = f (i, l.getD i d) := by
  unfold idx
  rw [List.getD_eq_getElem?_getD, List.getD_eq_getElem?_getD, List.getElem?_map, List.getElem?_mapIdx, List.getElem?_eq_getElem hi]
  rfl
theorem getD_set {l : List Nat} {p c i : Nat} (hp : p < l.length) : (l.set p c).getD i 0 = if i = p then c else l.getD i 0 := by
  rw [List.getD_eq_getElem?_getD, List.getD_eq_getElem?_getD, List.getElem?_set]
  by_cases e : p = i
  · subst e
    rw [if_pos rfl, if_pos hp, if_pos rfl]; rfl
  · rw [if_neg e, if_neg (fun z => e z.symm)]
theorem turn_piv {m W p c : Nat} {s : Bd} (h : Shp m W s) (hp : p < m) (hc : c < W) : Piv m W (tb s) (bb s) p c (tb (turnR s.1 p c, s.2.set p c)) (bb (turnR s.1 p c, s.2.set p c)) ∧ Shp m W (turnR s.1 p c, s.2.set p c) := by
  have hP := h.row hp
  have lead : ∀ j, j ≤ W → at_ (scaR (s.1.getD p []) (1 / at_ (s.1.getD p []) c)) j = tb s p j / tb s p c := fun j hj => by
    rw [at_sca (by omega)]
    show tb s p j * (1 / tb s p c) = _
    rw [Rat.div_def, Rat.div_def, Rat.one_mul]
  have ll : (scaR (s.1.getD p []) (1 / at_ (s.1.getD p []) c)).length = W + 1 := by unfold scaR; rw [List.length_map, hP]
  have row : ∀ i, i < m → (turnR s.1 p c).getD i [] = turnRow s.1 p c (i, s.1.getD i []) := fun i hi => by
    rw [turnR_eq]
    exact getD_idx (d := []) (by rw [h.bl]; exact hi)
  refine ⟨⟨fun j hj => ?_, fun i hi hne j hj => ?_, ?_, fun i hi hne => ?_⟩, ?_, ?_, fun r hr => ?_⟩
  · show at_ ((turnR s.1 p c).getD p []) j = _
    rw [row p hp]
    unfold turnRow
    rw [if_pos rfl, lead j hj]
  · show at_ ((turnR s.1 p c).getD i []) j = _
    rw [row i hi]
    unfold turnRow
    dsimp only
    rw [if_neg hne]
    have hi2 := h.row hi
    split
    · rename_i hz
      have hz : tb s i c = 0 := hz
      rw [hz, Rat.zero_mul]
      show tb s i j = _
      grind
    · rw [at_zip (by omega) (by omega), lead j hj]
      rfl
  · show (s.2.set p c).getD p 0 = c
    rw [getD_set (by rw [h.sl]; exact hp), if_pos rfl]
  · show (s.2.set p c).getD i 0 = s.2.getD i 0
    rw [getD_set (by rw [h.sl]; exact hp), if_neg hne]
  · show (turnR s.1 p c).length = m
    rw [turnR_eq, List.length_map, idx_len, h.bl]
  · show (s.2.set p c).length = m
    rw [List.length_set, h.sl]
  · have hr : r ∈ turnR s.1 p c := hr
    rw [turnR_eq] at hr
    obtain ⟨q, hq, rfl⟩ := List.mem_map.mp hr
    have hq2 := h.rl _ (List.mem_of_getElem? (idx_mem hq).2)
    unfold turnRow
    split
    · exact ll
    · split
      · exact hq2
      · rw [List.length_zipWith, hq2, ll, Nat.min_self]
/-! sums -/
theorem sumR_S : ∀ l : List Rat, sumR l = S l.length fun i => at_ l i := by
  intro l
  have key : ∀ n, n ≤ l.length → sumR (l.take n) = S n fun i => at_ l i := fun n => by
    induction n with
    | zero => exact fun _ => rfl
    | succ n ih =>
      intro hn
      rw [sumR_take (at_lt (by omega)), ih (by omega)]
      rfl
  have := key l.length (Nat.le_refl _)
  rw [List.take_length] at this
  exact this
theorem gap_at {costs : List Rat} {j : Nat} : ∀ (l : List (List Rat × Nat)) (f : List Rat), j < f.length → (∀ p ∈ l, f.length ≤ p.1.length) → at_ (l.foldl (gapStep costs) f) j = at_ f j - sumR (l.map fun p => at_ costs p.2 * at_ p.1 j)
  | [], f, _, _ => by show at_ f j = at_ f j - 0; grind
  | p :: l, f, hj, h => by
    have hp := h p List.mem_cons_self
    have hl : (gapStep costs f p).length = f.length := by
      unfold gapStep
      split
      · rfl
      · rw [List.length_zipWith]; omega
    rw [List.foldl_cons, gap_at l _ (by rw [hl]; exact hj) (fun q hq => by rw [hl]; exact h q (List.mem_cons_of_mem _ hq))]
    show _ = at_ f j - (at_ costs p.2 * at_ p.1 j + sumR _)
    have e : at_ (gapStep costs f p) j = at_ f j - at_ costs p.2 * at_ p.1 j := by
      unfold gapStep
      split
      · rename_i hz
        rw [hz, Rat.zero_mul]; grind
      · rw [at_zip hj (by omega)]
    rw [e]
    grind
theorem gaps_dd {costs : List Rat} {m W : Nat} {s : Bd} (h : Shp m W s) (hc : costs.length = W) {j : Nat} (hj : j < W) : at_ (gapsR s.1 s.2 costs) j = dd (at_ costs) m (tb s) (bb s) j := by
  unfold gapsR
  rw [gap_at _ _ (by omega) fun p hp => by rw [h.rl _ (List.of_mem_zip hp).1]; omega, sumR_S, List.length_map, List.length_zip, h.bl, h.sl, Nat.min_self]
  unfold dd
  congr 1
  refine S_congr fun i hi => ?_
  unfold at_
  rw [List.getD_eq_getElem?_getD, List.getElem?_map]
  have e1 : (s.1.zip s.2)[i]? = some (s.1.getD i [], s.2.getD i 0) := List.getElem?_zip_eq_some.mpr ⟨getD_lt (by rw [h.bl]; exact hi), getD_lt (by rw [h.sl]; exact hi)⟩
  rw [e1]
  rfl
/-! the choices -/
theorem helps_nil {left : List Rat} {many : Nat} (h : helps left many = []) : ∀ j, j < many → 0 ≤ at_ left j := fun j hj => by
  have : j ∉ helps left many := by rw [h]; exact List.not_mem_nil
  refine Rat.not_lt.mp fun z => this (List.mem_filter.mpr ⟨List.mem_range.mpr hj, decide_eq_true z⟩)
theorem helps_cons {left : List Rat} {many c : Nat} {r : List Nat} (h : helps left many = c :: r) : c < many ∧ at_ left c < 0 ∧ ∀ j, j < c → 0 ≤ at_ left j := by
  have hm : c ∈ helps left many := by rw [h]; exact List.mem_cons_self
  obtain ⟨h1, h2⟩ := List.mem_filter.mp hm
  refine ⟨List.mem_range.mp h1, of_decide_eq_true h2, fun j hj => Rat.not_lt.mp fun z => ?_⟩
  have hjm : j ∈ helps left many := List.mem_filter.mpr ⟨List.mem_range.mpr (by have := List.mem_range.mp h1; omega), decide_eq_true z⟩
  have hs : (helps left many).Pairwise (· < ·) := List.Pairwise.filter _ List.pairwise_lt_range
  rw [h] at hjm hs
  rcases List.mem_cons.mp hjm with e | e
  · omega
  · have := (List.pairwise_cons.mp hs).1 j e
    omega
def Best (m W c t : Nat) (T : Mat) (B : Nat → Nat) : Option (Rat × Nat) → Prop
  | none => ∀ i, i < t → T i c ≤ 0
  | some (k, r) => r < t ∧ 0 < T r c ∧ k = T r W / T r c ∧ ∀ i, i < t → 0 < T i c → k < T i W / T i c ∨ (k = T i W / T i c ∧ B r ≤ B i)
theorem best_step {m W c t : Nat} {s : Bd} (h : Shp m W s) (ht : t < m) {q : Option (Rat × Nat)} (hq : Best m W c t (tb s) (bb s) q) : Best m W c (t + 1) (tb s) (bb s) (leavStep s.2 c q (t, s.1.getD t [])) := by
  have hr := h.row ht
  unfold leavStep
  have e0 : at_ (s.1.getD t []) c = tb s t c := rfl
  have e1 : at_ (s.1.getD t []) ((s.1.getD t []).length - 1) = tb s t W := by rw [hr]; rfl
  dsimp only
  rw [e0, e1]
  by_cases hp : 0 < tb s t c
  · rw [if_pos hp]
    cases q with
    | none =>
      refine ⟨Nat.lt_succ_self t, hp, rfl, fun i hi hpi => ?_⟩
      by_cases e : i = t
      · subst e; exact .inr ⟨rfl, Nat.le_refl _⟩
      · have := hq i (by omega)
        grind
    | some kr =>
      obtain ⟨k, r⟩ := kr
      obtain ⟨q1, q2, q3, q4⟩ := hq
      dsimp only
      split
      · rename_i hc
        refine ⟨Nat.lt_succ_self t, hp, rfl, fun i hi hpi => ?_⟩
        by_cases e : i = t
        · subst e; exact .inr ⟨rfl, Nat.le_refl _⟩
        · rcases hc with hc | ⟨hc, hb⟩
          · rcases q4 i (by omega) hpi with h1 | ⟨h1, _⟩
            · left; grind
            · left; grind
          · have hb : bb s t < bb s r := hb
            rcases q4 i (by omega) hpi with h1 | ⟨h1, h2⟩
            · left; grind
            · right; exact ⟨hc.trans h1, by omega⟩
      · rename_i hc
        refine ⟨by omega, q2, q3, fun i hi hpi => ?_⟩
        by_cases e : i = t
        · subst e
          by_cases hk : k = tb s i W / tb s i c
          · right
            refine ⟨hk, Nat.not_lt.mp fun z => hc (.inr ⟨hk.symm, z⟩)⟩
          · left
            have := Rat.not_lt.mp fun z => hc (.inl z)
            exact Rat.lt_iff_le_and_ne.mpr ⟨this, hk⟩
        · exact q4 i (by omega) hpi
  · rw [if_neg hp]
    cases q with
    | none =>
      intro i hi
      by_cases e : i = t
      · rw [e]; exact Rat.not_lt.mp hp
      · exact hq i (by omega)
    | some kr =>
      obtain ⟨k, r⟩ := kr
      obtain ⟨q1, q2, q3, q4⟩ := hq
      refine ⟨by omega, q2, q3, fun i hi hpi => ?_⟩
      by_cases e : i = t
      · rw [e] at hpi; exact absurd hpi hp
      · exact q4 i (by omega) hpi
theorem best_leav {m W c : Nat} {s : Bd} (h : Shp m W s) : Best m W c m (tb s) (bb s) (leavR s.1 s.2 c) := by
  have key : ∀ t, t ≤ m → Best m W c t (tb s) (bb s) (((idx s.1).take t).foldl (leavStep s.2 c) none) := fun t => by
    induction t with
    | zero => exact fun _ i hi => absurd hi (Nat.not_lt_zero i)
    | succ t ih =>
      intro ht
      have hg : (idx s.1)[t]? = some (t, s.1.getD t []) := by
        unfold idx
        rw [List.getElem?_mapIdx, getD_lt (d := []) (by rw [h.bl]; omega)]
        rfl
      rw [fold_take _ _ hg]
      exact best_step h (by omega) (ih (by omega))
  have := key m (Nat.le_refl _)
  rw [List.take_of_length_le (by rw [idx_len, h.bl]; exact Nat.le_refl _)] at this
  exact this
theorem step_some {costs : List Rat} {m W many : Nat} {s s' : Bd} (h : Shp m W s) (hc : costs.length = W) (hmany : many ≤ W) (e : stepR costs many s = some s') : Shp m W s' ∧ ∃ c l, Stp (at_ costs) m many W (tb s) (bb s) c l (tb s') (bb s') := by
  unfold stepR at e
  split at e
  · cases e
  · rename_i c r hh
    split at e
    · cases e
    · rename_i k l hl
      cases e
      obtain ⟨h1, h2, h3⟩ := helps_cons hh
      have hb := best_leav (c := c) h
      rw [hl] at hb
      obtain ⟨b1, b2, b3, b4⟩ := hb
      obtain ⟨p1, p2⟩ := turn_piv h b1 (show c < W by omega)
      refine ⟨p2, c, l, h1, ?_, fun j hj => ?_, b1, b2, fun i hi hp => ?_, p1⟩
      · rw [← gaps_dd h hc (by omega)]; exact h2
      · rw [← gaps_dd h hc (by omega)]; exact h3 j hj
      · rw [← b3]; exact b4 i hi hp
theorem step_none {costs : List Rat} {m W many : Nat} {s : Bd} (h : Shp m W s) (hc : costs.length = W) (hmany : many ≤ W) (e : stepR costs many s = none) : (∀ j, j < many → 0 ≤ dd (at_ costs) m (tb s) (bb s) j) ∨ ∃ c, c < many ∧ dd (at_ costs) m (tb s) (bb s) c < 0 ∧ ∀ i, i < m → tb s i c ≤ 0 := by
  unfold stepR at e
  split at e
  · rename_i hh
    left
    intro j hj
    rw [← gaps_dd h hc (by omega)]
    exact helps_nil hh j hj
  · rename_i c r hh
    split at e
    · rename_i hl
      obtain ⟨h1, h2, h3⟩ := helps_cons hh
      right
      refine ⟨c, h1, by rw [← gaps_dd h hc (by omega)]; exact h2, ?_⟩
      have hb := best_leav (c := c) h
      rw [hl] at hb
      exact hb
    · cases e
/-! it ends -/
def allL (W : Nat) : Nat → List (List Nat)
  | 0 => [[]]
  | m + 1 => (List.range W).flatMap fun a => (allL W m).map (a :: ·)
theorem mem_allL {W : Nat} : ∀ {m : Nat} {l : List Nat}, l.length = m → (∀ x ∈ l, x < W) → l ∈ allL W m
  | 0, [], _, _ => List.mem_cons_self
  | m + 1, a :: l, h, hx => List.mem_flatMap.mpr ⟨a, List.mem_range.mpr (hx a List.mem_cons_self), List.mem_map.mpr ⟨l, mem_allL (Nat.succ.inj h) fun x hxl => hx x (List.mem_cons_of_mem _ hxl), rfl⟩⟩
theorem nodup_len2 {α : Type} : ∀ (l D : List α), l.Nodup → (∀ x ∈ l, x ∈ D) → l.length ≤ D.length := nodup_len
theorem first_none {P : Nat → Prop} {N : Nat} (h : P N) : ∃ t, P t ∧ ∀ j, j < t → ¬ P j := by
  induction N using Nat.strongRecOn with
  | ind N ih =>
    by_cases hx : ∃ j, j < N ∧ P j
    · obtain ⟨j, hj, hp⟩ := hx
      exact ih j hj hp
    · exact ⟨N, h, fun j hj hp => hx ⟨j, hj, hp⟩⟩
def nxt (costs : List Rat) (many : Nat) (s : Bd) : Bd := (stepR costs many s).getD s
def xs (costs : List Rat) (many : Nat) (s : Bd) : Nat → Bd
  | 0 => s
  | t + 1 => nxt costs many (xs costs many s t)
theorem nxt_of {costs : List Rat} {many : Nat} {s : Bd} (h : stepR costs many s ≠ none) : stepR costs many s = some (nxt costs many s) := by
  unfold nxt
  match e : stepR costs many s with
  | none => exact absurd e h
  | some s' => rfl
/-- what holds at every turn -/
structure At1 (A : Mat) (m n W : Nat) (P : Bd → Prop) (s : Bd) : Prop where
  sh : Shp m W s
  iv : IV A m n W (tb s) (bb s)
  nn : ∀ i, i < m → 0 ≤ tb s i W
  pr : P s
theorem At1.step {A : Mat} {m n W many : Nat} {P : Bd → Prop} {costs : List Rat} {s s' : Bd} (h : At1 A m n W P s) (hc : costs.length = W) (hmany : many ≤ W) (hW : n + m ≤ W) (hP : ∀ s s' c l, At1 A m n W P s → Stp (at_ costs) m many W (tb s) (bb s) c l (tb s') (bb s') → P s') (e : stepR costs many s = some s') : At1 A m n W P s' := by
  obtain ⟨sh, c, l, st⟩ := step_some h.sh hc hmany e
  exact ⟨sh, h.iv.step st.hm (Nat.lt_of_lt_of_le st.he hmany) hW (fun z => by have := st.hpos; rw [z] at this; exact absurd this (by decide)) st.piv, st.nn h.nn, hP s s' c l h st⟩
theorem go_ex {A : Mat} {m n W many : Nat} {P : Bd → Prop} {costs : List Rat} {s : Bd} (h : At1 A m n W P s) (hc : costs.length = W) (hmany : many ≤ W) (hW : n + m ≤ W) (hP : ∀ s s' c l, At1 A m n W P s → Stp (at_ costs) m many W (tb s) (bb s) c l (tb s') (bb s') → P s')
    (hN : ∀ s, At1 A m n W P s → Nice m W s) : ∃ k f, Go costs many m W k s f ∧ At1 A m n W P f ∧ stepR costs many f = none := by
  have ex : ∃ N, stepR costs many (xs costs many s N) = none := by
    refine Classical.byContradiction fun hn => ?_
    have some : ∀ t, stepR costs many (xs costs many s t) = some (xs costs many s (t + 1)) := fun t => nxt_of fun z => hn ⟨t, z⟩
    have all : ∀ t, At1 A m n W P (xs costs many s t) := fun t => by
      induction t with
      | zero => exact h
      | succ t ih => exact ih.step hc hmany hW hP (some t)
    have stp : ∀ t, ∃ cl : Nat × Nat, Stp (at_ costs) m many W (tb (xs costs many s t)) (bb (xs costs many s t)) cl.1 cl.2 (tb (xs costs many s (t + 1))) (bb (xs costs many s (t + 1))) := fun t => by
      obtain ⟨_, c, l, st⟩ := step_some (all t).sh hc hmany (some t)
      exact ⟨(c, l), st⟩
    have dis : ∀ a b, a < b → (xs costs many s a).2 ≠ (xs costs many s b).2 := fun a b hab heq => by
      refine no_cycle (A := A) (c := at_ costs) (m := m) (n := n) (many := many) (W := W) (N := b - a) (fun t => tb (xs costs many s (a + t))) (fun t => bb (xs costs many s (a + t))) (fun t => (Classical.choose (stp (a + t))).1) (fun t => (Classical.choose (stp (a + t))).2) (by omega) hmany (fun t _ => (all (a + t)).iv) (all a).nn (fun t _ => Classical.choose_spec (stp (a + t))) fun i hi => ?_
      show (xs costs many s (a + 0)).2.getD i 0 = (xs costs many s (a + (b - a))).2.getD i 0
      rw [show a + (b - a) = b by omega, Nat.add_zero, heq]
    have nd : ((List.range ((allL W m).length + 1)).map fun t => (xs costs many s t).2).Nodup := by
      refine List.pairwise_map.mpr (List.Pairwise.imp (fun {a b} hab => dis a b hab) List.pairwise_lt_range)
    have := nodup_len _ (allL W m) nd fun l hl => by
      obtain ⟨t, _, rfl⟩ := List.mem_map.mp hl
      refine mem_allL (all t).sh.sl fun x hx => ?_
      obtain ⟨i, hi⟩ := List.mem_iff_getElem?.mp hx
      have hil := (List.getElem?_eq_some_iff.mp hi).1
      have := (all t).iv.bl i (by rw [← (all t).sh.sl]; exact hil)
      unfold bb at this
      rw [List.getD_eq_getElem?_getD, hi] at this
      exact this
    rw [List.length_map, List.length_range] at this
    omega
  obtain ⟨N, hN0⟩ := ex
  obtain ⟨t, ht, hmin⟩ := first_none (P := fun t => stepR costs many (xs costs many s t) = none) hN0
  have some : ∀ j, j < t → stepR costs many (xs costs many s j) = some (xs costs many s (j + 1)) := fun j hj => nxt_of fun z => hmin j hj z
  have all : ∀ j, j ≤ t → At1 A m n W P (xs costs many s j) := fun j => by
    induction j with
    | zero => exact fun _ => h
    | succ j ih => exact fun hj => (ih (by omega)).step hc hmany hW hP (some j (by omega))
  have go : ∀ k, k ≤ t → Go costs many m W k (xs costs many s (t - k)) (xs costs many s t) := fun k => by
    induction k with
    | zero => exact fun _ => .done (hN _ (all t (Nat.le_refl _))) ht
    | succ k ih =>
      intro hk
      have e := some (t - (k + 1)) (by omega)
      rw [show t - (k + 1) + 1 = t - k by omega] at e
      exact .step (hN _ (all _ (by omega))) e (ih (by omega))
  have g := go t (Nat.le_refl _)
  rw [Nat.sub_self] at g
  exact ⟨t, _, g, all t (Nat.le_refl _), ht⟩
end W6
end
section
set_option linter.all false
set_option maxHeartbeats 1000000
/-! What least_by answers. -/
namespace W6
theorem IV.congr {A : Mat} {m n W : Nat} {T : Mat} {B B' : Nat → Nat} (h : IV A m n W T B) (e : ∀ i, i < m → B i = B' i) : IV A m n W T B' :=
  ⟨fun i hi => by rw [← e i hi]; exact h.bl i hi, fun i hi k hk => by rw [← e k hk]; exact h.id i hi k hk, fun r hr j hj => by rw [h.sp r hr j hj]; exact S_congr fun k hk => by rw [e k hk], h.nm⟩
theorem S_append (n m : Nat) (f : Nat → Rat) : S (n + m) f = S n f + S m fun r => f (n + r) := by
  induction m with
  | zero => show S n f = S n f + 0; grind
  | succ m ih => show S (n + m) f + f (n + m) = S n f + (S m (fun r => f (n + r)) + f (n + m)); rw [ih]; grind
theorem at_app (a b : List Rat) (j : Nat) : at_ (a ++ b) j = if j < a.length then at_ a j else at_ b (j - a.length) := by
  unfold at_
  rw [List.getD_eq_getElem?_getD, List.getD_eq_getElem?_getD, List.getD_eq_getElem?_getD]
  split
  · rename_i h; rw [List.getElem?_append_left h]
  · rename_i h; rw [List.getElem?_append_right (by omega)]
theorem at_rep (k : Nat) (q : Rat) (j : Nat) (h : j < k) : at_ (List.replicate k q) j = q := by
  unfold at_
  rw [List.getD_eq_getElem?_getD, List.getElem?_replicate, if_pos h]
  rfl
theorem nts_len (k : Nat) : (nts k).length = k := List.length_replicate
theorem at_unit {m i k : Nat} (hi : i < m) (hk : k < m) : at_ (unitR m i) k = if i = k then 1 else 0 := by
  unfold unitR
  rw [at_app, at_app, List.length_append, nts_len]
  by_cases h1 : k < i
  · rw [if_pos (by show k < i + 1; omega), if_pos h1, if_neg (by omega)]
    exact at_rep i 0 k h1
  · by_cases h2 : k = i
    · subst h2
      rw [if_pos (by show k < k + 1; omega), if_neg h1, Nat.sub_self, if_pos rfl]; rfl
    · rw [if_neg (by show ¬ k < i + 1; omega), if_neg (fun z => h2 z.symm)]
      exact at_rep _ 0 _ (by show k - (i + 1) < _; omega)
theorem unit_len {m i : Nat} (hi : i < m) : (unitR m i).length = m := by
  unfold unitR
  rw [List.length_append, List.length_append, nts_len, nts_len]
  show i + 1 + (m - 1 - i) = m
  omega
theorem sgn_sq (q : Rat) : sgn q * sgn q = 1 := by unfold sgn; split <;> grind
theorem sgn_nn (q : Rat) : 0 ≤ q * sgn q := by
  unfold sgn
  split
  · grind
  · grind
def CC (cols : List (List Rat)) : Mat := fun r j => at_ (cols.getD j []) r
theorem start_row {cols : List (List Rat)} {right : List Rat} {i : Nat} (hi : i < right.length) : (startB cols right).1.getD i [] = (cols.map fun c => at_ c i * sgn (at_ right i)) ++ unitR right.length i ++ [at_ right i * sgn (at_ right i)] := by
  show (firstB cols right).getD i [] = _
  unfold firstB
  rw [getD_idx (d := 0) (by rw [List.length_map]; exact hi)]
  have e : (right.map sgn).getD i 0 = sgn (at_ right i) := by
    unfold at_
    rw [List.getD_eq_getElem?_getD, List.getD_eq_getElem?_getD, List.getElem?_map, List.getElem?_eq_getElem hi]
    rfl
  dsimp only
  rw [e]
theorem start_at {cols : List (List Rat)} {right : List Rat} {i j : Nat} (hi : i < right.length) : tb (startB cols right) i j = if j < cols.length then CC cols i j * sgn (at_ right i) else if j < cols.length + right.length then (if cols.length + i = j then 1 else 0) else if j = cols.length + right.length then at_ right i * sgn (at_ right i) else 0 := by
  unfold tb
  rw [start_row hi, at_app, at_app, List.length_append, List.length_map, unit_len hi]
  by_cases h1 : j < cols.length
  · rw [if_pos (by omega), if_pos h1, if_pos h1]
    unfold at_ CC
    rw [List.getD_eq_getElem?_getD, List.getElem?_map, List.getElem?_eq_getElem h1]
    unfold at_
    rw [List.getD_eq_getElem?_getD (l := cols), List.getElem?_eq_getElem h1]
    rfl
  · rw [if_neg h1]
    by_cases h2 : j < cols.length + right.length
    · rw [if_pos h2, if_neg h1, if_pos h2, at_unit hi (by omega)]
      by_cases h3 : cols.length + i = j
      · rw [if_pos h3, if_pos (by omega)]
      · rw [if_neg h3, if_neg (by omega)]
    · rw [if_neg h2, if_neg h1, if_neg h2]
      by_cases h3 : j = cols.length + right.length
      · rw [if_pos h3, h3, Nat.sub_self]; rfl
      · rw [if_neg h3]
        unfold at_
        rw [List.getD_eq_getElem?_getD, List.getElem?_eq_none (by show 1 ≤ _; omega)]
        rfl
theorem start_bb {cols : List (List Rat)} {right : List Rat} {i : Nat} (hi : i < right.length) : bb (startB cols right) i = cols.length + i := by
  show ((List.range right.length).map (cols.length + ·)).getD i 0 = _
  rw [List.getD_eq_getElem?_getD, List.getElem?_map, List.getElem?_range hi]
  rfl
theorem start_shp (cols : List (List Rat)) (right : List Rat) : Shp right.length (cols.length + right.length) (startB cols right) := by
  refine ⟨?_, ?_, fun r hr => ?_⟩
  · show (firstB cols right).length = _
    unfold firstB
    rw [List.length_map, idx_len, List.length_map]
  · show ((List.range right.length).map (cols.length + ·)).length = _
    rw [List.length_map, List.length_range]
  · obtain ⟨p, hp, rfl⟩ := List.mem_map.mp hr
    have := (idx_mem hp).1
    rw [List.length_map] at this
    rw [List.length_append, List.length_append, List.length_map, unit_len this]
    rfl
/-! what the numbers say, over any board -/
section
variable {A : Mat} {c : Nat → Rat} {m n W : Nat} {T : Mat} {B : Nat → Nat}
/-- the prices -/
def pii (c : Nat → Rat) (m n : Nat) (T : Mat) (B : Nat → Nat) (r : Nat) : Rat := S m fun i => c (B i) * T i (n + r)
theorem pii_A (h : IV A m n W T B) {j : Nat} (hj : j ≤ W) : (S m fun r => pii c m n T B r * A r j) = S m fun i => c (B i) * T i j := by
  have e : (S m fun r => pii c m n T B r * A r j) = S m fun r => S m fun i => c (B i) * T i (n + r) * A r j := S_congr fun r _ => by
    unfold pii
    rw [← S_mulr]
  rw [e, S_swap]
  refine S_congr fun i hi => ?_
  rw [h.nm i hi j hj, ← S_mul]
  exact S_congr fun r _ => by grind
theorem yy_nn {s : Nat} (h : ∀ i, i < m → T i s ≤ 0) (j : Nat) : 0 ≤ yy m T B s j := by
  unfold yy
  have h1 : 0 ≤ S m fun i => -(if B i = j then T i s else 0) := S_nonneg fun i hi => by
    split
    · have := h i hi; grind
    · grind
  have h2 : (S m fun i => -(if B i = j then T i s else 0)) = -(S m fun i => if B i = j then T i s else 0) := by
    have := S_mul m (-1) fun i => if B i = j then T i s else 0
    rw [show (S m fun i => -(if B i = j then T i s else 0)) = S m fun i => -1 * (if B i = j then T i s else 0) from S_congr fun i _ => by grind, this]
    grind
  rw [h2] at h1
  split
  · grind
  · grind
theorem yy_A (h : IV A m n W T B) {s : Nat} (hs : s < W) {r : Nat} (hr : r < m) : (S W fun j => A r j * yy m T B s j) = 0 := by
  rw [yy_sum hs h.bl, ← h.sp r hr s (by omega)]
  grind
theorem yy_c (h : IV A m n W T B) {s : Nat} (hs : s < W) : (S W fun j => c j * yy m T B s j) = dd c m T B s := yy_sum hs h.bl c
end
/-- sizes -/
theorem nice_of {A : Mat} {m n W : Nat} {P : Bd → Prop} {s : Bd} (h : At1 A m n W P s) (hm : m ≤ 4) (hA : ∀ r, r < m → ∀ j, j ≤ W → Dz 144 36 (A r j)) : Nice m W s := by
  have hg : gB m 13 ≤ 800 := by
    have : m = 0 ∨ m = 1 ∨ m = 2 ∨ m = 3 ∨ m = 4 := by omega
    rcases this with h | h | h | h | h <;> rw [h] <;> decide
  refine ⟨h.sh.bl, h.sh.sl, fun r hr => ⟨h.sh.rl r hr, fun x hx => ?_⟩, fun c hc => ?_⟩
  · obtain ⟨i, hi⟩ := List.mem_iff_getElem?.mp hr
    obtain ⟨j, hj⟩ := List.mem_iff_getElem?.mp hx
    have hil := (List.getElem?_eq_some_iff.mp hi).1
    have hjl := (List.getElem?_eq_some_iff.mp hj).1
    rw [h.sh.bl] at hil
    rw [h.sh.rl r hr] at hjl
    have e : tb s i j = x := by
      unfold tb at_
      rw [List.getD_eq_getElem?_getD (l := s.1), hi]
      show r.getD j 0 = x
      rw [List.getD_eq_getElem?_getD, hj]
      rfl
    rw [← e]
    exact (h.iv.small (d := 144) (b := 36) (c := 13) (by decide) hA (by decide) hil (by omega)).mono hg
  · obtain ⟨i, hi⟩ := List.mem_iff_getElem?.mp hc
    have hil := (List.getElem?_eq_some_iff.mp hi).1
    have := h.iv.bl i (by rw [← h.sh.sl]; exact hil)
    unfold bb at this
    rw [List.getD_eq_getElem?_getD, hi] at this
    exact this
theorem weights_at {A : Mat} {m n W many : Nat} {s : Bd} (h : Shp m W s) (iv : IV A m n W (tb s) (bb s)) {j : Nat} (hj : j < many) : at_ (weightsR s many) j = S m fun i => if bb s i = j then tb s i W else 0 := by
  have key : ∀ t, t ≤ m → at_ (((s.1.zip s.2).take t).foldl (weightStep many) (nts many)) j = S t fun i => if bb s i = j then tb s i W else 0 := fun t => by
    induction t with
    | zero => exact fun _ => at_rep many 0 j hj
    | succ t ih =>
      intro ht
      have hg : (s.1.zip s.2)[t]? = some (s.1.getD t [], s.2.getD t 0) := List.getElem?_zip_eq_some.mpr ⟨getD_lt (by rw [h.bl]; omega), getD_lt (by rw [h.sl]; omega)⟩
      rw [fold_take _ _ hg]
      have ih := ih (by omega)
      have hl := weight_len (many := many) ((s.1.zip s.2).take t) (nts many)
      rw [nts_len] at hl
      generalize ((s.1.zip s.2).take t).foldl (weightStep many) (nts many) = f at ih hl
      have eW : at_ (s.1.getD t []) ((s.1.getD t []).length - 1) = tb s t W := by rw [h.row (by omega)]; rfl
      show at_ (weightStep many f (s.1.getD t [], s.2.getD t 0)) j = S t (fun i => if bb s i = j then tb s i W else 0) + (if bb s t = j then tb s t W else 0)
      unfold weightStep
      dsimp only
      rw [eW]
      have eb : s.2.getD t 0 = bb s t := rfl
      rw [eb]
      by_cases hb : bb s t = j
      · rw [if_pos (by omega), if_pos hb, S_zero fun i hi => if_neg fun z => by
          have := iv.inj (i := i) (k := t) (by omega) (by omega) (z.trans hb.symm)
          omega]
        unfold at_
        rw [List.getD_eq_getElem?_getD, hb, List.getElem?_set_self (by omega)]
        show tb s t W = 0 + tb s t W
        grind
      · rw [if_neg hb, ← ih]
        have : ∀ x : Rat, x + 0 = x := fun x => by grind
        rw [this]
        split
        · unfold at_
          rw [List.getD_eq_getElem?_getD, List.getD_eq_getElem?_getD, List.getElem?_set_ne hb]
        · rfl
  have := key m (Nat.le_refl _)
  rw [List.take_of_length_le (by rw [List.length_zip, h.bl, h.sl, Nat.min_self]; exact Nat.le_refl _)] at this
  exact this
theorem prices_at {left signs costs : List Rat} {many i : Nat} (hi : i < signs.length) : at_ (pricesR left signs costs many) i = at_ signs i * (at_ costs (many + i) - at_ left (many + i)) := by
  show ((idx signs).map _).getD i 0 = _
  rw [getD_idx (d := 0) hi]
  rfl
end W6
end
section
set_option linter.all false
set_option maxHeartbeats 1000000
/-! What least_by answers: it is there, and what it says. -/
namespace W6
/-- a point that shows how the end of phase one stands -/
structure LeastOk (cols : List (List Rat)) (right costs w pr : List Rat) : Prop where
  is : LeastIs cols right costs w pr
  ok : (w = [] ∧ (∀ j, j < cols.length → (S right.length fun r => at_ pr r * CC cols r j) ≤ 0) ∧ 0 < S right.length fun r => at_ pr r * at_ right r) ∨
    (w.length = cols.length ∧ (∀ j, j < cols.length → 0 ≤ at_ w j) ∧ (∀ r, r < right.length → (S cols.length fun j => CC cols r j * at_ w j) = at_ right r) ∧ (∀ j, j < cols.length → (S right.length fun r => at_ pr r * CC cols r j) ≤ at_ costs j) ∧ (S cols.length fun j => at_ costs j * at_ w j) = S right.length fun r => at_ pr r * at_ right r)
theorem price_dual {cols : List (List Rat)} {right cs : List Rat} {f : Bd} {pr : List Rat} (sh : Shp right.length (cols.length + right.length) f) (iv : IV (tb (startB cols right)) right.length cols.length (cols.length + right.length) (tb f) (bb f)) (hc : cs.length = cols.length + right.length) (hpr : pr = pricesR (gapsR f.1 f.2 cs) (right.map sgn) cs cols.length) :
    (∀ j, j < cols.length → (S right.length fun r => at_ pr r * CC cols r j) = S right.length fun i => at_ cs (bb f i) * tb f i j) ∧ (S right.length fun r => at_ pr r * at_ right r) = zz (at_ cs) right.length (cols.length + right.length) (tb f) (bb f) := by
  have pa : ∀ r, r < right.length → at_ pr r = pii (at_ cs) right.length cols.length (tb f) (bb f) r * sgn (at_ right r) := fun r hr => by
    rw [hpr, prices_at (by rw [List.length_map]; exact hr), gaps_dd sh hc (by omega)]
    have e : at_ (right.map sgn) r = sgn (at_ right r) := by
      unfold at_
      rw [List.getD_eq_getElem?_getD, List.getD_eq_getElem?_getD, List.getElem?_map, List.getElem?_eq_getElem hr]
      rfl
    rw [e]
    unfold dd pii
    grind
  constructor
  · intro j hj
    rw [← pii_A iv (j := j) (by omega)]
    refine S_congr fun r hr => ?_
    rw [pa r hr, start_at hr, if_pos hj]
    grind
  · unfold zz
    rw [← pii_A iv (j := cols.length + right.length) (Nat.le_refl _)]
    refine S_congr fun r hr => ?_
    rw [pa r hr, start_at hr, if_neg (by omega), if_neg (by omega), if_pos rfl]
    grind
/-- while the spare rows are driven out: after t rows -/
structure Drv (A : Mat) (m n W t : Nat) (s : Bd) : Prop where
  at1 : At1 A m n W (fun s => ∀ i, i < m → n ≤ bb s i → tb s i W = 0) s
  done : ∀ i, i < t → i < m → n ≤ bb s i → ∀ j, j < n → tb s i j = 0
theorem drv_step {A : Mat} {m n W t : Nat} {s : Bd} (h : Drv A m n W t s) (ht : t < m) (hW : n + m ≤ W) : Drv A m n W (t + 1) (driveStep n s t) := by
  have eS : driveStep n s t = if n ≤ bb s t then (match (List.range n).filter fun c => decide (tb s t c ≠ 0) with
      | [] => s
      | c :: _ => (turnR s.1 t c, s.2.set t c)) else s := rfl
  rw [eS]
  by_cases hb : n ≤ bb s t
  · rw [if_pos hb]
    have hz := h.at1.pr t ht hb
    cases ho : (List.range n).filter fun c => decide (tb s t c ≠ 0) with
    | nil =>
      refine ⟨h.at1, fun i hi him hbi j hj => ?_⟩
      by_cases e : i = t
      · subst e
        refine Classical.byContradiction fun hne => ?_
        have : j ∈ (List.range n).filter fun c => decide (tb s i c ≠ 0) := List.mem_filter.mpr ⟨List.mem_range.mpr hj, decide_eq_true hne⟩
        rw [ho] at this
        cases this
      · exact h.done i (by omega) him hbi j hj
    | cons c rest =>
      have hc : c ∈ (List.range n).filter fun c => decide (tb s t c ≠ 0) := by rw [ho]; exact List.mem_cons_self
      obtain ⟨hc1, hc2⟩ := List.mem_filter.mp hc
      have hc1 := List.mem_range.mp hc1
      have hc2 := of_decide_eq_true hc2
      obtain ⟨P, sh⟩ := turn_piv (c := c) h.at1.sh ht (by omega)
      have iv := h.at1.iv.step ht (by omega) hW hc2 P
      dsimp only
      generalize hs : (turnR s.1 t c, s.2.set t c) = s' at P sh iv
      have rhs : ∀ i, i < m → tb s' i W = tb s i W := fun i hi => by
        by_cases e : i = t
        · rw [e, P.row W (Nat.le_refl _), hz, rat_zero_div]
        · rw [P.oth i hi e W (Nat.le_refl _), hz, rat_zero_div, Rat.mul_zero]; grind
      have bas : ∀ i, i < m → n ≤ bb s' i → i ≠ t ∧ n ≤ bb s i := fun i hi hbi => by
        have hne : i ≠ t := fun e => by rw [e, P.bp] at hbi; omega
        rw [P.bo i hi hne] at hbi
        exact ⟨hne, hbi⟩
      refine ⟨⟨sh, iv, fun i hi => by rw [rhs i hi]; exact h.at1.nn i hi, fun i hi hbi => by rw [rhs i hi]; exact h.at1.pr i hi (bas i hi hbi).2⟩, fun i hi him hbi j hj => ?_⟩
      obtain ⟨hne, hbi⟩ := bas i him hbi
      rw [P.oth i him hne j (by omega), h.done i (by omega) him hbi j hj, h.done i (by omega) him hbi c hc1, Rat.zero_mul]
      grind
  · rw [if_neg hb]
    refine ⟨h.at1, fun i hi him hbi j hj => ?_⟩
    by_cases e : i = t
    · rw [e] at hbi; exact absurd hbi hb
    · exact h.done i (by omega) him hbi j hj
theorem drv_all {A : Mat} {m n W : Nat} {s : Bd} (h : At1 A m n W (fun s => ∀ i, i < m → n ≤ bb s i → tb s i W = 0) s) (hW : n + m ≤ W) : ∀ t, t ≤ m → Drv A m n W t (drv n t s)
  | 0, _ => ⟨h, fun i hi => absurd hi (Nat.not_lt_zero i)⟩
  | t + 1, ht => by
    have ih := drv_all h hW t (by omega)
    have e : drv n (t + 1) s = driveStep n (drv n t s) t := by
      unfold drv
      rw [List.range_succ, List.foldl_append]
      rfl
    rw [e]
    exact drv_step ih (by omega) hW
def Spare (m n W : Nat) (s : Bd) : Prop := ∀ i, i < m → n ≤ bb s i → (∀ j, j < n → tb s i j = 0) ∧ tb s i W = 0
theorem art_iff {m n W : Nat} {s : Bd} (h : Shp m W s) : artLeft n s = true ↔ ∃ i, i < m ∧ n ≤ bb s i ∧ 0 < tb s i W := by
  unfold artLeft
  rw [List.any_eq_true]
  constructor
  · rintro ⟨b, hb, ht⟩
    obtain ⟨p, hp, rfl⟩ := List.mem_map.mp hb
    obtain ⟨i, hi⟩ := List.mem_iff_getElem?.mp hp
    obtain ⟨e1, e2⟩ := List.getElem?_zip_eq_some.mp hi
    have him := (List.getElem?_eq_some_iff.mp e1).1
    rw [h.bl] at him
    have ht : art n p = true := ht
    unfold art at ht
    rw [Bool.and_eq_true] at ht
    refine ⟨i, him, ?_, ?_⟩
    · unfold bb
      rw [List.getD_eq_getElem?_getD, e2]
      exact of_decide_eq_true ht.1
    · have := of_decide_eq_true ht.2
      unfold tb
      rw [List.getD_eq_getElem?_getD, e1]
      rw [h.rl _ (List.mem_of_getElem? e1)] at this
      exact this
  · rintro ⟨i, hi, h1, h2⟩
    have hg : (s.1.zip s.2)[i]? = some (s.1.getD i [], s.2.getD i 0) := List.getElem?_zip_eq_some.mpr ⟨getD_lt (by rw [h.bl]; exact hi), getD_lt (by rw [h.sl]; exact hi)⟩
    refine ⟨true, List.mem_map.mpr ⟨_, List.mem_of_getElem? hg, ?_⟩, rfl⟩
    unfold art
    rw [Bool.and_eq_true]
    refine ⟨decide_eq_true h1, decide_eq_true ?_⟩
    rw [h.row hi]
    exact h2
theorem cost1_at {n m j : Nat} : at_ (cost1 n m) j = if j < n then 0 else if j < n + m then 1 else 0 := by
  unfold cost1
  rw [at_app, nts_len]
  split
  · rename_i h; exact at_rep n 0 j h
  · rename_i h
    split
    · exact at_rep m 1 _ (by omega)
    · unfold at_
      rw [List.getD_eq_getElem?_getD, List.getElem?_eq_none (by rw [List.length_replicate]; omega)]
      rfl
theorem cost2_at {cs : List Rat} {m j : Nat} : at_ (cost2 cs m) j = if j < cs.length then at_ cs j else 0 := by
  unfold cost2
  rw [at_app]
  split
  · rfl
  · unfold at_
    rw [List.getD_eq_getElem?_getD]
    by_cases h : j - cs.length < m
    · unfold nts
      rw [List.getElem?_replicate, if_pos h]; rfl
    · rw [List.getElem?_eq_none (by rw [nts_len]; omega)]; rfl
theorem sum_nn2 {n : Nat} {f g : Nat → Rat} (hf : ∀ i, i < n → 0 ≤ f i) (hg : ∀ i, i < n → 0 ≤ g i) : 0 ≤ S n fun i => f i * g i := S_nonneg fun i hi => Rat.mul_nonneg (hf i hi) (hg i hi)
theorem least_ex {cols : List (List Rat)} {right costs : List Rat} (hm : right.length ≤ 4) (hcl : ∀ c ∈ cols, c.length = right.length ∧ ∀ x ∈ c, Dz 144 36 x) (hr : ∀ x ∈ right, Dz 144 36 x) (hcs : costs.length = cols.length)
    (hB : ∀ y : Nat → Rat, (∀ j, j < cols.length → 0 ≤ y j) → (∀ r, r < right.length → (S cols.length fun j => CC cols r j * y j) = 0) → 0 ≤ S cols.length fun j => at_ costs j * y j) : ∃ w pr, LeastOk cols right costs w pr := by
  generalize hmm : right.length = m at *
  generalize hnn : cols.length = n at *
  have hdzs : ∀ r, r < m → ∀ j, j ≤ n + m → Dz 144 36 (tb (startB cols right) r j) := fun r hrm j hj => by
    have hsg : ∀ q : Rat, Dz 144 36 q → Dz 144 36 (q * sgn (at_ right r)) := fun q hq => by
      unfold sgn
      split
      · rw [show q * -1 = -q by grind]; exact hq.neg
      · rw [Rat.mul_one]; exact hq
    rw [start_at (by omega)]
    split
    · rename_i h
      refine hsg _ ?_
      have hc := hcl _ (List.mem_of_getElem? (getD_lt (d := []) h))
      exact hc.2 _ (List.mem_of_getElem? (at_lt (by omega)))
    · split
      · split
        · exact ⟨144, by decide +kernel, by decide⟩
        · exact Dz.zero _ _
      · split
        · exact hsg _ (hr _ (List.mem_of_getElem? (at_lt (by omega))))
        · exact Dz.zero _ _
  have sh0 : Shp m (n + m) (startB cols right) := by
    have := start_shp cols right
    rw [hmm, hnn] at this
    exact this
  have iv0 : IV (tb (startB cols right)) m n (n + m) (tb (startB cols right)) (bb (startB cols right)) := by
    refine (IV.start (Nat.le_refl _) fun i hi k hk => ?_).congr fun i hi => ?_
    · rw [start_at (by omega), if_neg (by omega), if_pos (by omega), hnn]
      by_cases e : i = k
      · rw [if_pos e, if_pos (by omega)]
      · rw [if_neg e, if_neg (by omega)]
    · rw [start_bb (by omega), hnn]
  have nn0 : ∀ i, i < m → 0 ≤ tb (startB cols right) i (n + m) := fun i hi => by
    rw [start_at (by omega), if_neg (by omega), if_neg (by omega), if_pos (by omega)]
    exact sgn_nn _
  -- phase one
  obtain ⟨k1, f1, g1, a1, e1⟩ := go_ex (A := tb (startB cols right)) (m := m) (n := n) (W := n + m) (many := n) (P := fun _ => True) (costs := cost1 n m) ⟨sh0, iv0, nn0, trivial⟩ (cost1_len n m) (by omega) (Nat.le_refl _) (fun _ _ _ _ _ _ => trivial) (fun s h => nice_of h hm hdzs)
  have c1nn : ∀ j, 0 ≤ at_ (cost1 n m) j := fun j => by
    rw [cost1_at]
    split
    · exact Rat.le_refl
    · split
      · decide
      · exact Rat.le_refl
  have opt1 : ∀ j, j < n → 0 ≤ dd (at_ (cost1 n m)) m (tb f1) (bb f1) j := by
    rcases step_none a1.sh (cost1_len n m) (by omega) e1 with h | ⟨c, hc, hd, hle⟩
    · exact h
    · have h1 := yy_c (c := at_ (cost1 n m)) a1.iv (show c < n + m by omega)
      have h2 := sum_nn2 (n := n + m) (f := at_ (cost1 n m)) (g := yy m (tb f1) (bb f1) c) (fun j _ => c1nn j) fun j _ => yy_nn hle j
      rw [h1] at h2
      grind
  have hpd1 := price_dual (cols := cols) (right := right) (cs := cost1 n m) (f := f1) (pr := _) (by rw [hmm, hnn]; exact a1.sh) (by rw [hmm, hnn]; exact a1.iv) (by rw [hmm, hnn]; exact cost1_len n m) rfl
  rw [hmm, hnn] at hpd1
  by_cases hart : artLeft n f1 = true
  · -- not to be had
    obtain ⟨i, hi, hbi, hpos⟩ := (art_iff a1.sh).mp hart
    refine ⟨[], _, ⟨⟨k1, f1, by rw [hmm, hnn]; exact g1, .inl ⟨by rw [hnn]; exact hart, rfl, rfl⟩⟩⟩, .inl ⟨rfl, fun j hj => ?_, ?_⟩⟩
    · rw [hmm, hnn] at *
      rw [hpd1.1 j hj]
      have := opt1 j hj
      unfold dd at this
      rw [cost1_at, if_pos hj] at this
      grind
    · rw [hmm, hnn] at *
      rw [hpd1.2]
      unfold zz
      have h1 := S_le_one (n := m) (p := i) (f := fun i => at_ (cost1 n m) (bb f1 i) * tb f1 i (n + m)) hi fun k hk => Rat.mul_nonneg (c1nn _) (a1.nn k hk)
      have h2 : at_ (cost1 n m) (bb f1 i) = 1 := by
        rw [cost1_at, if_neg (by omega), if_pos (a1.iv.bl i hi)]
      have h1 : at_ (cost1 n m) (bb f1 i) * tb f1 i (n + m) ≤ _ := h1
      rw [h2, Rat.one_mul] at h1
      grind
  · -- to be had
    have hart : artLeft n f1 = false := by simpa using hart
    have z1 : ∀ i, i < m → n ≤ bb f1 i → tb f1 i (n + m) = 0 := fun i hi hbi => by
      refine Classical.byContradiction fun hne => ?_
      have hp : 0 < tb f1 i (n + m) := Rat.lt_iff_le_and_ne.mpr ⟨a1.nn i hi, fun z => hne z.symm⟩
      have := (art_iff a1.sh).mpr ⟨i, hi, hbi, hp⟩
      rw [hart] at this
      cases this
    have D := drv_all (A := tb (startB cols right)) (m := m) (n := n) (W := n + m) (s := f1) ⟨a1.sh, a1.iv, a1.nn, z1⟩ (Nat.le_refl _)
    have Dm := D m (Nat.le_refl _)
    have sp0 : Spare m n (n + m) (drv n m f1) := fun i hi hbi => ⟨Dm.done i hi hi hbi, Dm.at1.pr i hi hbi⟩
    obtain ⟨k2, f2, g2, a2, e2⟩ := go_ex (A := tb (startB cols right)) (m := m) (n := n) (W := n + m) (many := n) (P := Spare m n (n + m)) (costs := cost2 costs m) ⟨Dm.at1.sh, Dm.at1.iv, Dm.at1.nn, sp0⟩ (by rw [cost2_len, hcs]) (by omega) (Nat.le_refl _) (fun s s' c l h st i hi hbi => by
      have hil : i ≠ l := fun e => by
        rw [e, st.piv.bp] at hbi
        have := st.he
        omega
      rw [st.piv.bo i hi hil] at hbi
      obtain ⟨q1, q2⟩ := h.pr i hi hbi
      have hc0 := q1 c st.he
      refine ⟨fun j hj => ?_, ?_⟩
      · rw [st.piv.oth i hi hil j (by omega), q1 j hj, hc0, Rat.zero_mul]; grind
      · rw [st.piv.oth i hi hil _ (Nat.le_refl _), q2, hc0, Rat.zero_mul]; grind) (fun s h => nice_of h hm hdzs)
    have c2a : ∀ j, j < n → at_ (cost2 costs m) j = at_ costs j := fun j hj => by rw [cost2_at, if_pos (by omega)]
    have c2b : ∀ j, n ≤ j → at_ (cost2 costs m) j = 0 := fun j hj => by rw [cost2_at, if_neg (by omega)]
    have Acol : ∀ r, r < m → ∀ j, j < n → tb (startB cols right) r j = CC cols r j * sgn (at_ right r) := fun r hrm j hj => by rw [start_at (by omega), if_pos (by omega)]
    have unsgn : ∀ r, ∀ x : Rat, sgn (at_ right r) * x = 0 → x = 0 := fun r x h => by
      have := sgn_sq (at_ right r)
      have h2 : sgn (at_ right r) * (sgn (at_ right r) * x) = x := by rw [← Rat.mul_assoc, this, Rat.one_mul]
      rw [h, Rat.mul_zero] at h2
      exact h2.symm
    have opt2 : ∀ j, j < n → 0 ≤ dd (at_ (cost2 costs m)) m (tb f2) (bb f2) j := by
      rcases step_none a2.sh (by rw [cost2_len, hcs]) (by omega) e2 with h | ⟨c, hc, hd, hle⟩
      · exact h
      · have hcW : c < n + m := by omega
        have yart : ∀ r, r < m → yy m (tb f2) (bb f2) c (n + r) = 0 := fun r hrm => by
          unfold yy
          rw [if_neg (by omega), S_zero fun i hi => ?_]
          · grind
          · split
            · rename_i hb
              exact (a2.pr i hi (by omega)).1 c hc
            · rfl
        have h1 := yy_c (c := at_ (cost2 costs m)) a2.iv hcW
        rw [S_append, S_zero (n := m) fun r hrm => by rw [yart r hrm, Rat.mul_zero]] at h1
        have h3 := hB (yy m (tb f2) (bb f2) c) (fun j _ => yy_nn hle j) fun r hrm => by
          have h2 := yy_A a2.iv hcW hrm
          rw [S_append, S_zero (n := m) fun q hqm => by rw [yart q hqm, Rat.mul_zero]] at h2
          refine unsgn r _ ?_
          rw [← S_mul]
          have : (S n fun j => tb (startB cols right) r j * yy m (tb f2) (bb f2) c j) = S n fun j => sgn (at_ right r) * (CC cols r j * yy m (tb f2) (bb f2) c j) := S_congr fun j hj => by rw [Acol r hrm j hj]; grind
          rw [← this]
          grind
        have h4 : (S n fun j => at_ (cost2 costs m) j * yy m (tb f2) (bb f2) c j) = S n fun j => at_ costs j * yy m (tb f2) (bb f2) c j := S_congr fun j hj => by rw [c2a j hj]
        rw [h4] at h1
        grind
    have hpd2 := price_dual (cols := cols) (right := right) (cs := cost2 costs m) (f := f2) (pr := _) (by rw [hmm, hnn]; exact a2.sh) (by rw [hmm, hnn]; exact a2.iv) (by rw [hmm, hnn, cost2_len, hcs]) rfl
    rw [hmm, hnn] at hpd2
    have wl : (weightsR f2 n).length = n := by unfold weightsR; rw [weight_len, nts_len]
    have wa : ∀ j, j < n → at_ (weightsR f2 n) j = S m fun i => if bb f2 i = j then tb f2 i (n + m) else 0 := fun j hj => weights_at a2.sh a2.iv hj
    have wsum : ∀ g : Nat → Rat, (S n fun j => g j * at_ (weightsR f2 n) j) = S m fun i => (if bb f2 i < n then g (bb f2 i) else 0) * tb f2 i (n + m) := fun g => by
      have h1 : (S n fun j => g j * at_ (weightsR f2 n) j) = S n fun j => S m fun i => g j * (if bb f2 i = j then tb f2 i (n + m) else 0) := S_congr fun j hj => by rw [wa j hj, S_mul]
      rw [h1, S_swap]
      refine S_congr fun i hi => ?_
      by_cases hb : bb f2 i < n
      · rw [if_pos hb, S_one (p := bb f2 i) hb fun j _ hne => by rw [if_neg (fun z => hne z.symm), Rat.mul_zero], if_pos rfl]
      · rw [if_neg hb, Rat.zero_mul, S_zero fun j hj => by rw [if_neg (by omega), Rat.mul_zero]]
    refine ⟨weightsR f2 n, _, ⟨⟨k1, f1, by rw [hmm, hnn]; exact g1, .inr ⟨by rw [hnn]; exact hart, fun i hi => by rw [hmm, hnn] at *; exact nice_of (D i hi).at1 hm hdzs, k2, f2, by rw [hmm, hnn]; exact g2, by rw [hnn], rfl⟩⟩⟩, .inr ⟨by rw [hnn]; exact wl, fun j hj => ?_, fun r hrm => ?_, fun j hj => ?_, ?_⟩⟩
    · rw [hnn] at hj
      rw [wa j hj]
      refine S_nonneg fun i hi => ?_
      split
      · exact a2.nn i hi
      · exact Rat.le_refl
    · rw [hmm] at hrm
      rw [hnn, wsum]
      have h1 := a2.iv.sp r hrm (n + m) (Nat.le_refl _)
      rw [start_at (by omega), if_neg (by omega), if_neg (by omega), if_pos (by omega)] at h1
      have h2 : (S m fun i => (if bb f2 i < n then CC cols r (bb f2 i) else 0) * tb f2 i (n + m)) = S m fun i => tb (startB cols right) r (bb f2 i) * tb f2 i (n + m) * sgn (at_ right r) := S_congr fun i hi => by
        by_cases hb : bb f2 i < n
        · rw [if_pos hb, Acol r hrm _ hb]
          have := sgn_sq (at_ right r)
          generalize sgn (at_ right r) = g at this
          grind
        · rw [if_neg hb, (a2.pr i hi (by omega)).2]; grind
      rw [h2, S_mulr, ← h1, Rat.mul_assoc, sgn_sq, Rat.mul_one]
    · rw [hnn] at hj
      rw [hmm, hnn, hpd2.1 j hj]
      have := opt2 j hj
      unfold dd at this
      rw [c2a j hj] at this
      grind
    · rw [hmm, hnn, hpd2.2, wsum]
      unfold zz
      refine S_congr fun i hi => ?_
      by_cases hb : bb f2 i < n
      · rw [if_pos hb, c2a _ hb]
      · rw [if_neg hb, c2b _ (by omega)]
end W6
end
section
set_option linter.all false
set_option maxHeartbeats 1000000
/-! The program's answer is right. -/
namespace W6
theorem dotX_S : ∀ (row : List Rat) (x : Nat → Rat), dotX row x = S row.length fun r => at_ row r * x r := by
  intro row
  induction row with
  | nil => exact fun _ => rfl
  | cons c cs ih =>
    intro x
    have h := S_append 1 cs.length (fun r => at_ (c :: cs) r * x r)
    have e : (c :: cs).length = 1 + cs.length := by rw [List.length_cons]; omega
    rw [e, h]
    show c * x 0 + dotX cs (fun i => x (i + 1)) = (0 + at_ (c :: cs) 0 * x 0) + _
    rw [ih]
    have e2 : (S cs.length fun r => at_ cs r * x (r + 1)) = S cs.length fun r => at_ (c :: cs) (1 + r) * x (1 + r) := S_congr fun r _ => by
      rw [Nat.add_comm 1 r]; rfl
    rw [e2]
    have e3 : at_ (c :: cs) 0 = c := rfl
    rw [e3]
    grind
theorem dotX_k {k : Nat} {row : List Rat} (h : row.length = k) (x : Nat → Rat) : dotX row x = S k fun r => at_ row r * x r := by rw [dotX_S, h]
def fixk (k : Nat) (x : Nat → Rat) : Nat → Rat := fun j => if j = k then -1 else x j
theorem dotX_fix {k : Nat} {row : List Rat} (h : row.length = k) (x : Nat → Rat) : dotX row (fixk k x) = S k fun r => at_ row r * x r := by
  rw [dotX_k h]
  exact S_congr fun r hr => by unfold fixk; rw [if_neg (by omega)]
theorem fixk_k (k : Nat) (x : Nat → Rat) : fixk k x k = -1 := if_pos rfl
theorem dotR_S (xs ys : List Rat) (h : xs.length = ys.length) : dotR xs ys = S xs.length fun j => at_ xs j * at_ ys j := by
  unfold dotR
  rw [sumR_S, List.length_zipWith, ← h, Nat.min_self]
  exact S_congr fun j hj => at_zip hj (by omega)
theorem mix_fold_at {k r : Nat} (hr : r < k) : ∀ (l : List (List Rat × Rat)) (b : List Rat), b.length = k → (∀ p ∈ l, p.1.length = k) → at_ (l.foldl mixStep b) r = at_ b r + sumR (l.map fun p => at_ p.1 r * p.2)
  | [], b, _, _ => by show at_ b r = at_ b r + 0; grind
  | p :: l, b, hb, h => by
    have hp := h p List.mem_cons_self
    have hl : (mixStep b p).length = k := by
      unfold mixStep
      split
      · exact hb
      · unfold addR scaR
        rw [List.length_zipWith, List.length_map, hb, hp, Nat.min_self]
    rw [List.foldl_cons, mix_fold_at hr l _ hl fun q hq => h q (List.mem_cons_of_mem _ hq)]
    show at_ (mixStep b p) r + _ = at_ b r + (at_ p.1 r * p.2 + _)
    have e : at_ (mixStep b p) r = at_ b r + at_ p.1 r * p.2 := by
      unfold mixStep
      split
      · rename_i hz
        rw [hz, Rat.mul_zero]; grind
      · unfold addR
        rw [at_zip (by omega) (by unfold scaR; rw [List.length_map]; omega), at_sca (by omega)]
    rw [e]
    grind
theorem mix_at {k r : Nat} {rows : List (List Rat)} {w : List Rat} (hr : r < k) (h : ∀ q ∈ rows, q.length = k) (hl : w.length = rows.length) : at_ (mixR rows w k) r = S rows.length fun j => CC rows r j * at_ w j := by
  unfold mixR
  rw [mix_fold_at hr _ _ (nts_len k) fun p hp => h _ (List.of_mem_zip hp).1, sumR_S, List.length_map, List.length_zip, hl, Nat.min_self]
  have e : at_ (nts k) r = 0 := at_rep k 0 r hr
  rw [e, Rat.zero_add]
  refine S_congr fun j hj => ?_
  have hz : (rows.zip w)[j]? = some (rows.getD j [], w.getD j 0) := List.getElem?_zip_eq_some.mpr ⟨getD_lt (xs := rows) (d := []) hj, getD_lt (xs := w) (d := (0 : Rat)) (by omega)⟩
  unfold at_
  rw [List.getD_eq_getElem?_getD, List.getElem?_map, hz]
  rfl
theorem mix_lenk {k : Nat} {rows : List (List Rat)} {w : List Rat} (h : ∀ q ∈ rows, q.length = k) : (mixR rows w k).length = k := mix_leng _ _ (nts_len k) fun p hp => h _ (List.of_mem_zip hp).1
theorem ext_at {k : Nat} {a b : List Rat} (ha : a.length = k) (hb : b.length = k) (h : ∀ r, r < k → at_ a r = at_ b r) : a = b := by
  refine List.ext_getElem? fun i => ?_
  by_cases hi : i < k
  · rw [at_lt (by omega), at_lt (by omega), h i hi]
  · rw [List.getElem?_eq_none (by omega), List.getElem?_eq_none (by omega)]
/-- the weighted sum of the wishes at a point -/
theorem wsum_dot {k n : Nat} {rows : List (List Rat)} (w : Nat → Rat) (x : Nat → Rat) : (S n fun j => w j * S k fun r => CC rows r j * x r) = S k fun r => (S n fun j => CC rows r j * w j) * x r := by
  have e : (S n fun j => w j * S k fun r => CC rows r j * x r) = S n fun j => S k fun r => CC rows r j * w j * x r := S_congr fun j _ => by
    rw [← S_mul]
    exact S_congr fun r _ => by grind
  rw [e, S_swap]
  exact S_congr fun r _ => S_mulr ..
theorem S_mono {n : Nat} {f g : Nat → Rat} (h : ∀ i, i < n → f i ≤ g i) : S n f ≤ S n g := by
  have := S_nonneg (n := n) (f := fun i => g i - f i) fun i hi => by have := h i hi; grind
  rw [S_sub] at this
  grind
theorem mul_mono {a b c : Rat} (ha : 0 ≤ a) (h : b ≤ c) : a * b ≤ a * c := Rat.mul_le_mul_of_nonneg_left h ha
section
variable {k : Nat} {ws : List Wish}
theorem rows_at (ws : List Wish) {j : Nat} (hj : j < ws.length) : (rowsOf ws).getD j [] = (ws.getD j ([], 0)).1 := by
  unfold rowsOf
  rw [List.getD_eq_getElem?_getD, List.getElem?_map, List.getElem?_eq_getElem hj, List.getD_eq_getElem?_getD, List.getElem?_eq_getElem hj]
  rfl
theorem bnds_at (ws : List Wish) {j : Nat} (hj : j < ws.length) : at_ (bndsOf ws) j = (ws.getD j ([], 0)).2 := by
  unfold at_ bndsOf
  rw [List.getD_eq_getElem?_getD, List.getElem?_map, List.getElem?_eq_getElem hj, List.getD_eq_getElem?_getD, List.getElem?_eq_getElem hj]
  rfl
theorem colsV_at (ws : List Wish) {j : Nat} (hj : j < ws.length) : (colsV ws).getD j [] = (ws.getD j ([], 0)).1 ++ [(ws.getD j ([], 0)).2] := by
  unfold colsV
  rw [List.getD_eq_getElem?_getD, List.getElem?_map, List.getElem?_eq_getElem hj, List.getD_eq_getElem?_getD, List.getElem?_eq_getElem hj]
  rfl
theorem wish_mem (ws : List Wish) {j : Nat} (hj : j < ws.length) : ws.getD j ([], 0) ∈ ws := List.mem_of_getElem? (getD_lt hj)
theorem CCv {k : Nat} {ws : List Wish} (hO : LotDz k ws) {j r : Nat} (hj : j < ws.length) (hr : r < k) : CC (colsV ws) r j = CC (rowsOf ws) r j := by
  unfold CC
  rw [colsV_at ws hj, rows_at ws hj, at_app, if_pos (by rw [(hO.sz _ (wish_mem ws hj)).1]; exact hr)]
theorem CCvk {k : Nat} {ws : List Wish} (hO : LotDz k ws) {j : Nat} (hj : j < ws.length) : CC (colsV ws) k j = at_ (bndsOf ws) j := by
  unfold CC
  rw [colsV_at ws hj, bnds_at ws hj, at_app, if_neg (by rw [(hO.sz _ (wish_mem ws hj)).1]; omega), (hO.sz _ (wish_mem ws hj)).1, Nat.sub_self]
  rfl
/-- a point in the lot, by sums -/
theorem in_lot {x : Nat → Rat} (hO : LotDz k ws) : (∀ p ∈ ws, dotX p.1 (fixk k x) ≤ p.2) ↔ ∀ j, j < ws.length → (S k fun r => CC (rowsOf ws) r j * x r) ≤ at_ (bndsOf ws) j := by
  constructor
  · intro h j hj
    have := h _ (wish_mem ws hj)
    rw [dotX_fix (hO.sz _ (wish_mem ws hj)).1] at this
    rw [bnds_at ws hj]
    unfold CC
    rw [rows_at ws hj]
    exact this
  · intro h p hp
    obtain ⟨j, hj⟩ := List.mem_iff_getElem?.mp hp
    have hjl := (List.getElem?_eq_some_iff.mp hj).1
    have e : ws.getD j ([], 0) = p := by rw [List.getD_eq_getElem?_getD, hj]; rfl
    have := h j hjl
    rw [bnds_at ws hjl] at this
    unfold CC at this
    rw [rows_at ws hjl, e] at this
    rw [dotX_fix (hO.sz p hp).1]
    exact this
theorem beyond_iff {row : List Rat} {b : Rat} (hO : LotDz k ws) (hl : row.length = k) : Beyond k ws row b ↔ ∃ x : Nat → Rat, (∀ j, j < ws.length → (S k fun r => CC (rowsOf ws) r j * x r) ≤ at_ (bndsOf ws) j) ∧ b < S k fun r => at_ row r * x r := by
  constructor
  · rintro ⟨x, hx, h1, h2⟩
    have e : fixk k x = x := by
      funext j
      unfold fixk
      split
      · rename_i h; rw [h, hx]
      · rfl
    refine ⟨x, (in_lot hO).mp (by rw [e]; exact h1), ?_⟩
    rw [← dotX_k hl]
    exact h2
  · rintro ⟨x, h1, h2⟩
    exact ⟨fixk k x, fixk_k k x, (in_lot hO).mpr h1, by rw [dotX_fix hl]; exact h2⟩
theorem div_le_lem {a t b : Rat} (ht : 0 < t) (h : a ≤ t * b) : a / t ≤ b := by
  have hne : t ≠ 0 := fun z => by rw [z] at ht; exact absurd ht (by decide)
  have h2 := Rat.mul_nonneg (show 0 ≤ t * b - a by grind) (Rat.le_of_lt (Rat.inv_pos.mpr ht))
  have h3 : (t * b - a) * t⁻¹ = b - a / t := by rw [Rat.div_def]; grind
  grind
theorem reach_lem {a d b : Rat} (hd : 0 < d) : ∃ t : Rat, 0 ≤ t ∧ b < a + t * d := by
  have hne : d ≠ 0 := fun z => by rw [z] at hd; exact absurd hd (by decide)
  by_cases h : b < a
  · exact ⟨0, Rat.le_refl, by grind⟩
  · refine ⟨(b - a + 1) / d, div_nn (by grind) hd, ?_⟩
    have : (b - a + 1) / d * d = b - a + 1 := Rat.div_mul_cancel hne
    grind
theorem good_len {w : List Rat} : w = [] ↔ w.length = 0 := List.length_eq_zero_iff.symm
theorem all_nn {w : List Rat} {n : Nat} (hl : w.length = n) (h : ∀ j, j < n → 0 ≤ at_ w j) : ∀ x ∈ w, 0 ≤ x := fun x hx => by
  obtain ⟨j, hj⟩ := List.mem_iff_getElem?.mp hx
  have hjl := (List.getElem?_eq_some_iff.mp hj).1
  have := h j (by omega)
  rw [at_lt hjl] at hj
  cases hj
  exact this
theorem solve : SolveT := fun k ws row b hO hA => by
  have hrl : ∀ q ∈ rowsOf ws, q.length = k := fun q hq => by
    obtain ⟨p, hp, rfl⟩ := List.mem_map.mp hq
    exact (hO.sz p hp).1
  have hcv : (colsV ws).length = ws.length := by unfold colsV; rw [List.length_map]
  have hrv : (rightV k).length = k + 1 := by unfold rightV; rw [List.length_append, nts_len]; rfl
  have rv0 : ∀ r, r < k → at_ (rightV k) r = 0 := fun r hr => by unfold rightV; rw [at_app, if_pos (by rw [nts_len]; exact hr)]; exact at_rep k 0 r hr
  have rvk : at_ (rightV k) k = -1 := by unfold rightV; rw [at_app, if_neg (by rw [nts_len]; omega), nts_len, Nat.sub_self]; rfl
  obtain ⟨w1, p1, L1⟩ := least_ex (cols := colsV ws) (right := rightV k) (costs := nts ws.length) (by rw [hrv]; have := hO.k1; omega) (fun c hc => by
      obtain ⟨q, hq, rfl⟩ := List.mem_map.mp hc
      obtain ⟨h1, h2, h3⟩ := hO.sz q hq
      refine ⟨by rw [List.length_append, h1, hrv]; rfl, fun x hx => ?_⟩
      rcases List.mem_append.mp hx with h | h
      · exact (h2 x h).mono (by decide) (by decide)
      · rw [List.mem_singleton.mp h]; exact h3.mono (by decide) (by decide)) (fun x hx => by
      rcases List.mem_append.mp hx with h | h
      · rw [(List.mem_replicate.mp h).2]; exact Dz.zero _ _
      · rw [List.mem_singleton.mp h]; exact (show Dz 144 36 1 from ⟨144, by decide +kernel, by decide⟩).neg) (by rw [nts_len, hcv]) (fun y _ _ => by
      rw [S_zero fun j hj => by rw [show at_ (nts ws.length) j = 0 from at_rep _ 0 j (by rw [hcv] at hj; exact hj), Rat.zero_mul]]; exact Rat.le_refl)
  have ok1 := L1.ok
  rw [hcv, hrv] at ok1
  rcases ok1 with ⟨hw1, hle, hpos⟩ | ⟨hlen, hnn, hsum, _, _⟩
  · -- the lot holds a point
    have hpk : 0 < -at_ p1 k := by
      have e : (S (k + 1) fun r => at_ p1 r * at_ (rightV k) r) = -at_ p1 k := by
        show S k (fun r => at_ p1 r * at_ (rightV k) r) + at_ p1 k * at_ (rightV k) k = _
        rw [S_zero fun r hr => by rw [rv0 r hr, Rat.mul_zero], rvk]
        grind
      rw [← e]; exact hpos
    have hV : VoidIs k ws w1 p1 := ⟨L1.is, fun _ z => by rw [z] at hpk; exact absurd hpk (by decide)⟩
    have hx0 : ∀ j, j < ws.length → (S k fun r => CC (rowsOf ws) r j * (at_ p1 r / -at_ p1 k)) ≤ at_ (bndsOf ws) j := fun j hj => by
      have h1 : S k (fun r => at_ p1 r * CC (colsV ws) r j) + at_ p1 k * CC (colsV ws) k j ≤ 0 := hle j hj
      rw [CCvk hO hj, S_congr fun r hr => by rw [CCv hO hj hr]] at h1
      have e : (S k fun r => CC (rowsOf ws) r j * (at_ p1 r / -at_ p1 k)) = (S k fun r => at_ p1 r * CC (rowsOf ws) r j) / -at_ p1 k := by
        rw [Rat.div_def, ← S_mulr]
        refine S_congr fun r _ => ?_
        rw [Rat.div_def]; grind
      rw [e]
      refine div_le_lem hpk ?_
      grind
    generalize hx : (fun r => at_ p1 r / -at_ p1 k) = x0 at hx0
    have hx0 : ∀ j, j < ws.length → (S k fun r => CC (rowsOf ws) r j * x0 r) ≤ at_ (bndsOf ws) j := by rw [← hx]; exact hx0
    by_cases hws : ws = []
    · subst hws
      by_cases hrow : row = nts k
      · refine ⟨papOf b (.great 0 (pointV k p1) []), ⟨_, ⟨w1, p1, hV, .inr (.inl ⟨hw1, rfl, hrow, rfl⟩)⟩, rfl⟩, ?_, fun q hq => ?_⟩
        · rw [beyond_iff hO hA.len]
          have e : ∀ x : Nat → Rat, (S k fun r => at_ row r * x r) = 0 := fun x => S_zero fun r hr => by rw [hrow, show at_ (nts k) r = 0 from at_rep k 0 r hr, Rat.zero_mul]
          show (if (0 : Rat) ≤ b then some (true, ([] : List Rat)) else none).isSome = true ↔ _
          split
          · rename_i hb
            refine ⟨fun _ ⟨x, _, h⟩ => ?_, fun _ => rfl⟩
            rw [e x] at h; grind
          · rename_i hb
            refine ⟨fun h => (nomatch h), fun h => absurd ⟨fun _ => 0, fun j hj => absurd hj (Nat.not_lt_zero j), ?_⟩ h⟩
            rw [e]; exact Rat.not_le.mp hb
        · have hq : (if (0 : Rat) ≤ b then some (true, ([] : List Rat)) else none) = some q := hq
          split at hq
          · rename_i hb
            cases hq
            exact ⟨rfl, fun x hx => absurd hx List.not_mem_nil, fun x hx => absurd hx List.not_mem_nil, fun _ => ⟨hrow.symm, hb⟩, fun z => (nomatch z)⟩
          · cases hq
      · refine ⟨none, ⟨_, ⟨w1, p1, hV, .inr (.inr (.inl ⟨hw1, rfl, hrow, rfl⟩))⟩, rfl⟩, ?_, fun q hq => (nomatch hq)⟩
        rw [beyond_iff hO hA.len]
        refine ⟨fun h => (nomatch h), fun h => absurd ?_ h⟩
        obtain ⟨r0, hr0, hne⟩ : ∃ r, r < k ∧ at_ row r ≠ 0 := by
          refine Classical.byContradiction fun hn => hrow (ext_at hA.len (nts_len k) fun r hr => ?_)
          rw [show at_ (nts k) r = 0 from at_rep k 0 r hr]
          exact Classical.byContradiction fun z => hn ⟨r, hr, z⟩
        refine ⟨fun r => if r = r0 then (b + 1) / at_ row r0 else 0, fun j hj => absurd hj (Nat.not_lt_zero j), ?_⟩
        rw [S_one (p := r0) hr0 fun i hi hne => by
          show at_ row i * (if i = r0 then (b + 1) / at_ row r0 else 0) = 0
          rw [if_neg hne, Rat.mul_zero]]
        show b < at_ row r0 * (if r0 = r0 then (b + 1) / at_ row r0 else 0)
        rw [if_pos rfl]
        have : at_ row r0 * ((b + 1) / at_ row r0) = b + 1 := by rw [Rat.mul_comm]; exact Rat.div_mul_cancel hne
        rw [this]; grind
    · have hn0 : 0 < ws.length := List.length_pos_iff.mpr hws
      obtain ⟨w2, p2, L2⟩ := least_ex (cols := rowsOf ws) (right := row) (costs := bndsOf ws) (by rw [hA.len]; have := hO.k1; omega) (fun c hc => by
          obtain ⟨q, hq, rfl⟩ := List.mem_map.mp hc
          obtain ⟨h1, h2, h3⟩ := hO.sz q hq
          exact ⟨h1.trans hA.len.symm, fun x hx => (h2 x hx).mono (by decide) (by decide)⟩) (fun x hx => (hA.row x hx).mono (by decide) (by decide)) (by rw [rows_len, bnds_len]) (fun y hy h0 => by
          rw [rows_len] at *
          rw [hA.len] at h0
          have h1 : (S ws.length fun j => y j * S k fun r => CC (rowsOf ws) r j * x0 r) ≤ S ws.length fun j => y j * at_ (bndsOf ws) j := S_mono fun j hj => mul_mono (hy j hj) (hx0 j hj)
          rw [wsum_dot, S_zero fun r hr => by rw [h0 r hr, Rat.zero_mul]] at h1
          have e : (S ws.length fun j => at_ (bndsOf ws) j * y j) = S ws.length fun j => y j * at_ (bndsOf ws) j := S_congr fun j _ => Rat.mul_comm ..
          rw [e]; exact h1)
      have ok2 := L2.ok
      rw [rows_len, hA.len] at ok2
      rcases ok2 with ⟨hw2, hle2, hpos2⟩ | ⟨hlen2, hnn2, hsum2, hdual, hobj⟩
      · refine ⟨none, ⟨_, ⟨w1, p1, hV, .inr (.inr (.inr ⟨hw1, hws, w2, p2, L2.is, .inl ⟨hw2, rfl⟩⟩))⟩, rfl⟩, ?_, fun q hq => (nomatch hq)⟩
        rw [beyond_iff hO hA.len]
        refine ⟨fun h => (nomatch h), fun h => absurd ?_ h⟩
        obtain ⟨t, ht, hb⟩ := reach_lem (a := S k fun r => at_ row r * x0 r) (b := b) hpos2
        refine ⟨fun r => x0 r + t * at_ p2 r, fun j hj => ?_, ?_⟩
        · have e : (S k fun r => CC (rowsOf ws) r j * (x0 r + t * at_ p2 r)) = (S k fun r => CC (rowsOf ws) r j * x0 r) + t * S k fun r => at_ p2 r * CC (rowsOf ws) r j := by
            rw [← S_mul, ← S_add]
            exact S_congr fun r _ => by grind
          rw [e]
          have h1 := hx0 j hj
          have h2 := Rat.mul_nonneg ht (show 0 ≤ -(S k fun r => at_ p2 r * CC (rowsOf ws) r j) by have := hle2 j hj; grind)
          grind
        · have e : (S k fun r => at_ row r * (x0 r + t * at_ p2 r)) = (S k fun r => at_ row r * x0 r) + t * S k fun r => at_ p2 r * at_ row r := by
            rw [← S_mul, ← S_add]
            exact S_congr fun r _ => by grind
          rw [e]; exact hb
      · have hw2 : w2 ≠ [] := fun z => by rw [z] at hlen2; simp at hlen2; omega
        have ev : dotR w2 (bndsOf ws) = S ws.length fun j => at_ (bndsOf ws) j * at_ w2 j := by
          rw [dotR_S _ _ (by rw [hlen2, bnds_len]), hlen2]
          exact S_congr fun j _ => Rat.mul_comm ..
        refine ⟨papOf b (.great (dotR w2 (bndsOf ws)) p2 w2), ⟨_, ⟨w1, p1, hV, .inr (.inr (.inr ⟨hw1, hws, w2, p2, L2.is, .inr ⟨hw2, rfl⟩⟩))⟩, rfl⟩, ?_, fun q hq => ?_⟩
        · rw [beyond_iff hO hA.len]
          show (if dotR w2 (bndsOf ws) ≤ b then some (true, w2) else none).isSome = true ↔ _
          split
          · rename_i hb
            refine ⟨fun _ ⟨x, h1, h2⟩ => ?_, fun _ => rfl⟩
            have h3 : (S ws.length fun j => at_ w2 j * S k fun r => CC (rowsOf ws) r j * x r) ≤ S ws.length fun j => at_ w2 j * at_ (bndsOf ws) j := S_mono fun j hj => mul_mono (hnn2 j hj) (h1 j hj)
            rw [wsum_dot, S_congr fun r hr => by rw [hsum2 r hr]] at h3
            have e : (S ws.length fun j => at_ w2 j * at_ (bndsOf ws) j) = dotR w2 (bndsOf ws) := by rw [ev]; exact S_congr fun j _ => Rat.mul_comm ..
            rw [e] at h3
            grind
          · rename_i hb
            refine ⟨fun h => (nomatch h), fun h => absurd ⟨fun r => at_ p2 r, fun j hj => ?_, ?_⟩ h⟩
            · have := hdual j hj
              rw [S_congr fun r _ => Rat.mul_comm (CC (rowsOf ws) r j) (at_ p2 r)]
              exact this
            · rw [S_congr fun r _ => Rat.mul_comm (at_ row r) (at_ p2 r), ← hobj, ← ev]
              exact Rat.not_le.mp hb
        · have hq : (if dotR w2 (bndsOf ws) ≤ b then some (true, w2) else none) = some q := hq
          split at hq
          · rename_i hb
            cases hq
            refine ⟨hlen2, L2.is.wsz, all_nn hlen2 hnn2, fun _ => ⟨ext_at (mix_lenk hrl) hA.len fun r hr => ?_, hb⟩, fun z => (nomatch z)⟩
            rw [mix_at hr hrl (by rw [rows_len]; exact hlen2), rows_len]
            exact hsum2 r hr
          · cases hq
  · -- the lot holds no point
    have hne : ws.length ≠ 0 := fun z => by
      have := hsum k (by omega)
      rw [z, rvk] at this
      exact absurd (show (0 : Rat) = -1 from this) (by decide)
    have hw1 : w1 ≠ [] := fun z => by rw [z] at hlen; simp at hlen; omega
    have hV : VoidIs k ws w1 p1 := ⟨L1.is, fun z => absurd z hw1⟩
    have s0 : ∀ r, r < k → (S ws.length fun j => CC (rowsOf ws) r j * at_ w1 j) = 0 := fun r hr => by
      have := hsum r (by omega)
      rw [rv0 r hr] at this
      rw [← this]
      exact S_congr fun j hj => by rw [CCv hO hj hr]
    have sb : dotR w1 (bndsOf ws) = -1 := by
      have := hsum k (by omega)
      rw [rvk] at this
      rw [dotR_S _ _ (by rw [hlen, bnds_len]), hlen, ← this]
      exact S_congr fun j hj => by rw [CCvk hO hj, Rat.mul_comm]
    refine ⟨some (false, w1), ⟨.void w1, ⟨w1, p1, hV, .inl ⟨hw1, rfl⟩⟩, rfl⟩, ?_, fun q hq => ?_⟩
    · rw [beyond_iff hO hA.len]
      refine ⟨fun _ ⟨x, h1, _⟩ => ?_, fun _ => rfl⟩
      have h3 : (S ws.length fun j => at_ w1 j * S k fun r => CC (rowsOf ws) r j * x r) ≤ S ws.length fun j => at_ w1 j * at_ (bndsOf ws) j := S_mono fun j hj => mul_mono (hnn j hj) (h1 j hj)
      rw [wsum_dot, S_zero fun r hr => by rw [s0 r hr, Rat.zero_mul]] at h3
      have e : (S ws.length fun j => at_ w1 j * at_ (bndsOf ws) j) = dotR w1 (bndsOf ws) := by rw [dotR_S _ _ (by rw [hlen, bnds_len]), hlen]
      rw [e, sb] at h3
      exact absurd h3 (by decide)
    · cases hq
      refine ⟨hlen, L1.is.wsz, all_nn hlen hnn, fun z => (nomatch z), fun _ => ⟨ext_at (mix_lenk hrl) (nts_len k) fun r hr => ?_, by rw [sb]; decide⟩⟩
      rw [mix_at hr hrl (by rw [rows_len]; exact hlen), rows_len, show at_ (nts k) r = 0 from at_rep k 0 r hr]
      exact s0 r hr
end
end W6
end
section
set_option Elab.async false
set_option linter.all false
set_option maxRecDepth 100000
set_option maxHeartbeats 0
/-! The head: facts by names. -/
namespace W6
open PySem PySem.Spec PyProof.Rows L2
def dD_is_whole : He.DefD := ⟨("is_whole", none), "is_whole", "is_whole", defArgs s_is_whole, defBody s_is_whole, defScope s_is_whole, [], []⟩
def dD_is_between : He.DefD := ⟨("is_between", none), "is_between", "is_between", defArgs s_is_between, defBody s_is_between, defScope s_is_between, [], []⟩
def dD_are_wholes : He.DefD := ⟨("are_wholes", none), "are_wholes", "are_wholes", defArgs s_are_wholes, defBody s_are_wholes, defScope s_are_wholes, [], []⟩
def dD_divisor_of : He.DefD := ⟨("divisor_of", none), "divisor_of", "divisor_of", defArgs s_divisor_of, defBody s_divisor_of, defScope s_divisor_of, [], []⟩
def dD_is_ratio : He.DefD := ⟨("is_ratio", none), "is_ratio", "is_ratio", defArgs s_is_ratio, defBody s_is_ratio, defScope s_is_ratio, [], []⟩
def dD_ratio : He.DefD := ⟨("ratio", none), "ratio", "ratio", defArgs s_ratio, defBody s_ratio, defScope s_ratio, [], []⟩
def dD_plus : He.DefD := ⟨("plus", none), "plus", "plus", defArgs s_plus, defBody s_plus, defScope s_plus, [], []⟩
def dD_minus : He.DefD := ⟨("minus", none), "minus", "minus", defArgs s_minus, defBody s_minus, defScope s_minus, [], []⟩
def dD_times : He.DefD := ⟨("times", none), "times", "times", defArgs s_times, defBody s_times, defScope s_times, [], []⟩
def dD_over : He.DefD := ⟨("over", none), "over", "over", defArgs s_over, defBody s_over, defScope s_over, [], []⟩
def dD_opposite : He.DefD := ⟨("opposite", none), "opposite", "opposite", defArgs s_opposite, defBody s_opposite, defScope s_opposite, [], []⟩
def dD_is_up_to : He.DefD := ⟨("is_up_to", none), "is_up_to", "is_up_to", defArgs s_is_up_to, defBody s_is_up_to, defScope s_is_up_to, [], []⟩
def dD_is_below : He.DefD := ⟨("is_below", none), "is_below", "is_below", defArgs s_is_below, defBody s_is_below, defScope s_is_below, [], []⟩
def dD_dot : He.DefD := ⟨("dot", none), "dot", "dot", defArgs s_dot, defBody s_dot, defScope s_dot, [], []⟩
def dD_noughts : He.DefD := ⟨("noughts", none), "noughts", "noughts", defArgs s_noughts, defBody s_noughts, defScope s_noughts, [], []⟩
def dD_unit : He.DefD := ⟨("unit", none), "unit", "unit", defArgs s_unit, defBody s_unit, defScope s_unit, [], []⟩
def dD_row_plus : He.DefD := ⟨("row_plus", none), "row_plus", "row_plus", defArgs s_row_plus, defBody s_row_plus, defScope s_row_plus, [], []⟩
def dD_scaled : He.DefD := ⟨("scaled", none), "scaled", "scaled", defArgs s_scaled, defBody s_scaled, defScope s_scaled, [], []⟩
def dD_turned : He.DefD := ⟨("turned", none), "turned", "turned", defArgs s_turned, defBody s_turned, defScope s_turned, [], []⟩
def dD_mixed : He.DefD := ⟨("mixed", none), "mixed", "mixed", defArgs s_mixed, defBody s_mixed, defScope s_mixed, [], []⟩
def dD_is_row_by : He.DefD := ⟨("is_row_by", none), "is_row_by", "is_row_by", defArgs s_is_row_by, defBody s_is_row_by, defScope s_is_row_by, [], []⟩
def dD_check_row : He.DefD := ⟨("check_row", none), "check_row", "check_row", defArgs s_check_row, defBody s_check_row, defScope s_check_row, [], []⟩
def dD_first_board : He.DefD := ⟨("first_board", none), "first_board", "first_board", defArgs s_first_board, defBody s_first_board, defScope s_first_board, [], []⟩
def dD_gaps : He.DefD := ⟨("gaps", none), "gaps", "gaps", defArgs s_gaps, defBody s_gaps, defScope s_gaps, [], []⟩
def dD_leaving : He.DefD := ⟨("leaving", none), "leaving", "leaving", defArgs s_leaving, defBody s_leaving, defScope s_leaving, [], []⟩
def dD_turned_about : He.DefD := ⟨("turned_about", none), "turned_about", "turned_about", defArgs s_turned_about, defBody s_turned_about, defScope s_turned_about, [], []⟩
def dD_descended : He.DefD := ⟨("descended", none), "descended", "descended", defArgs s_descended, defBody s_descended, defScope s_descended, [], []⟩
def dD_prices : He.DefD := ⟨("prices", none), "prices", "prices", defArgs s_prices, defBody s_prices, defScope s_prices, [], []⟩
def dD_driven_out : He.DefD := ⟨("driven_out", none), "driven_out", "driven_out", defArgs s_driven_out, defBody s_driven_out, defScope s_driven_out, [], []⟩
def dD_weights_by : He.DefD := ⟨("weights_by", none), "weights_by", "weights_by", defArgs s_weights_by, defBody s_weights_by, defScope s_weights_by, [], []⟩
def dD_least_by : He.DefD := ⟨("least_by", none), "least_by", "least_by", defArgs s_least_by, defBody s_least_by, defScope s_least_by, [], []⟩
def dD_void_by : He.DefD := ⟨("void_by", none), "void_by", "void_by", defArgs s_void_by, defBody s_void_by, defScope s_void_by, [], []⟩
def dD_greatest_by : He.DefD := ⟨("greatest_by", none), "greatest_by", "greatest_by", defArgs s_greatest_by, defBody s_greatest_by, defScope s_greatest_by, [], []⟩
def dD_is_wish : He.DefD := ⟨("is_wish", none), "is_wish", "is_wish", defArgs s_is_wish, defBody s_is_wish, defScope s_is_wish, [], []⟩
def dD_is_lot_by : He.DefD := ⟨("is_lot_by", none), "is_lot_by", "is_lot_by", defArgs s_is_lot_by, defBody s_is_lot_by, defScope s_is_lot_by, [.int 100], []⟩
def dD_rows_in : He.DefD := ⟨("rows_in", none), "rows_in", "rows_in", defArgs s_rows_in, defBody s_rows_in, defScope s_rows_in, [], []⟩
def dD_bounds_in : He.DefD := ⟨("bounds_in", none), "bounds_in", "bounds_in", defArgs s_bounds_in, defBody s_bounds_in, defScope s_bounds_in, [], []⟩
def dD_void_weights : He.DefD := ⟨("void_weights", none), "void_weights", "void_weights", defArgs s_void_weights, defBody s_void_weights, defScope s_void_weights, [], []⟩
def dD_greatest_in : He.DefD := ⟨("greatest_in", none), "greatest_in", "greatest_in", defArgs s_greatest_in, defBody s_greatest_in, defScope s_greatest_in, [], []⟩
def dD_paper_by : He.DefD := ⟨("paper_by", none), "paper_by", "paper_by", defArgs s_paper_by, defBody s_paper_by, defScope s_paper_by, [], []⟩
def dD_is_bounded : He.DefD := ⟨("is_bounded", none), "is_bounded", "is_bounded", defArgs s_is_bounded, defBody s_is_bounded, defScope s_is_bounded, [], []⟩
def dD_are_weights : He.DefD := ⟨("are_weights", none), "are_weights", "are_weights", defArgs s_are_weights, defBody s_are_weights, defScope s_are_weights, [], []⟩
def dD_is_paper_by : He.DefD := ⟨("is_paper_by", none), "is_paper_by", "is_paper_by", defArgs s_is_paper_by, defBody s_is_paper_by, defScope s_is_paper_by, [], []⟩
def dD_check_lot : He.DefD := ⟨("check_lot", none), "check_lot", "check_lot", defArgs s_check_lot, defBody s_check_lot, defScope s_check_lot, [], []⟩
def dD_check_wish : He.DefD := ⟨("check_wish", none), "check_wish", "check_wish", defArgs s_check_wish, defBody s_check_wish, defScope s_check_wish, [], []⟩
def dD_bounds : He.DefD := ⟨("bounds", none), "bounds", "bounds", defArgs s_bounds, defBody s_bounds, defScope s_bounds, [], []⟩
def dD_paper_of : He.DefD := ⟨("paper_of", none), "paper_of", "paper_of", defArgs s_paper_of, defBody s_paper_of, defScope s_paper_of, [], []⟩
def dD_is_paper : He.DefD := ⟨("is_paper", none), "is_paper", "is_paper", defArgs s_is_paper, defBody s_is_paper, defScope s_is_paper, [], []⟩
def dD__law_well : He.DefD := ⟨("_law_well", none), "_law_well", "_law_well", defArgs s__law_well, defBody s__law_well, defScope s__law_well, [], []⟩
def dD__law_draw : He.DefD := ⟨("_law_draw", none), "_law_draw", "_law_draw", defArgs s__law_draw, defBody s__law_draw, defScope s__law_draw, [], []⟩
def dD__law_of : He.DefD := ⟨("_law_of", none), "_law_of", "_law_of", defArgs s__law_of, defBody s__law_of, defScope s__law_of, [], []⟩
def dD__law_frac : He.DefD := ⟨("_law_frac", none), "_law_frac", "_law_frac", defArgs s__law_frac, defBody s__law_frac, defScope s__law_frac, [], []⟩
def dD__law_plus : He.DefD := ⟨("_law_plus", none), "_law_plus", "_law_plus", defArgs s__law_plus, defBody s__law_plus, defScope s__law_plus, [], []⟩
def dD__law_times : He.DefD := ⟨("_law_times", none), "_law_times", "_law_times", defArgs s__law_times, defBody s__law_times, defScope s__law_times, [], []⟩
def dD__law_up_to : He.DefD := ⟨("_law_up_to", none), "_law_up_to", "_law_up_to", defArgs s__law_up_to, defBody s__law_up_to, defScope s__law_up_to, [], []⟩
def dD__law_dot : He.DefD := ⟨("_law_dot", none), "_law_dot", "_law_dot", defArgs s__law_dot, defBody s__law_dot, defScope s__law_dot, [], []⟩
def dD__law_number : He.DefD := ⟨("_law_number", none), "_law_number", "_law_number", defArgs s__law_number, defBody s__law_number, defScope s__law_number, [], []⟩
def dD__law_row : He.DefD := ⟨("_law_row", none), "_law_row", "_law_row", defArgs s__law_row, defBody s__law_row, defScope s__law_row, [], []⟩
def dD__law_is_whole : He.DefD := ⟨("_law_is_whole", none), "_law_is_whole", "_law_is_whole", defArgs s__law_is_whole, defBody s__law_is_whole, defScope s__law_is_whole, [], []⟩
def dD__law_is_frac : He.DefD := ⟨("_law_is_frac", none), "_law_is_frac", "_law_is_frac", defArgs s__law_is_frac, defBody s__law_is_frac, defScope s__law_is_frac, [], []⟩
def dD__law_is_row : He.DefD := ⟨("_law_is_row", none), "_law_is_row", "_law_is_row", defArgs s__law_is_row, defBody s__law_is_row, defScope s__law_is_row, [], []⟩
def dD__law_mixed : He.DefD := ⟨("_law_mixed", none), "_law_mixed", "_law_mixed", defArgs s__law_mixed, defBody s__law_mixed, defScope s__law_mixed, [], []⟩
def dD__law_are_weights : He.DefD := ⟨("_law_are_weights", none), "_law_are_weights", "_law_are_weights", defArgs s__law_are_weights, defBody s__law_are_weights, defScope s__law_are_weights, [], []⟩
def dD__law_is_paper : He.DefD := ⟨("_law_is_paper", none), "_law_is_paper", "_law_is_paper", defArgs s__law_is_paper, defBody s__law_is_paper, defScope s__law_is_paper, [], []⟩
def dD__law_lot : He.DefD := ⟨("_law_lot", none), "_law_lot", "_law_lot", defArgs s__law_lot, defBody s__law_lot, defScope s__law_lot, [], []⟩
def dD__law_inside : He.DefD := ⟨("_law_inside", none), "_law_inside", "_law_inside", defArgs s__law_inside, defBody s__law_inside, defScope s__law_inside, [], []⟩
def dD__law_whole_wish : He.DefD := ⟨("_law_whole_wish", none), "_law_whole_wish", "_law_whole_wish", defArgs s__law_whole_wish, defBody s__law_whole_wish, defScope s__law_whole_wish, [], []⟩
def dD__law_common : He.DefD := ⟨("_law_common", none), "_law_common", "_law_common", defArgs s__law_common, defBody s__law_common, defScope s__law_common, [], []⟩
def dD__law_lowered : He.DefD := ⟨("_law_lowered", none), "_law_lowered", "_law_lowered", defArgs s__law_lowered, defBody s__law_lowered, defScope s__law_lowered, [], []⟩
def dD__law_joined_wish : He.DefD := ⟨("_law_joined_wish", none), "_law_joined_wish", "_law_joined_wish", defArgs s__law_joined_wish, defBody s__law_joined_wish, defScope s__law_joined_wish, [], []⟩
def dD__law_is_void : He.DefD := ⟨("_law_is_void", none), "_law_is_void", "_law_is_void", defArgs s__law_is_void, defBody s__law_is_void, defScope s__law_is_void, [], []⟩
def dD__law_lot_wishes : He.DefD := ⟨("_law_lot_wishes", none), "_law_lot_wishes", "_law_lot_wishes", defArgs s__law_lot_wishes, defBody s__law_lot_wishes, defScope s__law_lot_wishes, [], []⟩
def dD__law_bounds : He.DefD := ⟨("_law_bounds", none), "_law_bounds", "_law_bounds", defArgs s__law_bounds, defBody s__law_bounds, defScope s__law_bounds, [], []⟩
def dD__law_ask : He.DefD := ⟨("_law_ask", none), "_law_ask", "_law_ask", defArgs s__law_ask, defBody s__law_ask, defScope s__law_ask, [], []⟩
def dD__law_right : He.DefD := ⟨("_law_right", none), "_law_right", "_law_right", defArgs s__law_right, defBody s__law_right, defScope s__law_right, [], []⟩
def dD_law : He.DefD := ⟨("law", none), "law", "law", defArgs s_law, defBody s_law, defScope s_law, [], []⟩
def fnP0 : List He.DefD := [dD_is_whole, dD_is_between, dD_are_wholes, dD_divisor_of, dD_is_ratio, dD_ratio, dD_plus, dD_minus, dD_times, dD_over, dD_opposite, dD_is_up_to, dD_is_below, dD_dot, dD_noughts, dD_unit, dD_row_plus, dD_scaled, dD_turned, dD_mixed, dD_is_row_by, dD_check_row, dD_first_board, dD_gaps, dD_leaving, dD_turned_about]
def fnP1 : List He.DefD := [dD_descended, dD_prices, dD_driven_out, dD_weights_by, dD_least_by, dD_void_by, dD_greatest_by, dD_is_wish, dD_is_lot_by, dD_rows_in, dD_bounds_in, dD_void_weights, dD_greatest_in, dD_paper_by, dD_is_bounded, dD_are_weights, dD_is_paper_by, dD_check_lot, dD_check_wish, dD_bounds, dD_paper_of, dD_is_paper, dD__law_well, dD__law_draw, dD__law_of, dD__law_frac]
def fnP2 : List He.DefD := [dD__law_plus, dD__law_times, dD__law_up_to, dD__law_dot, dD__law_number, dD__law_row, dD__law_is_whole, dD__law_is_frac, dD__law_is_row, dD__law_mixed, dD__law_are_weights, dD__law_is_paper, dD__law_lot, dD__law_inside, dD__law_whole_wish, dD__law_common, dD__law_lowered, dD__law_joined_wish, dD__law_is_void, dD__law_lot_wishes, dD__law_bounds, dD__law_ask, dD__law_right, dD_law]
def fnA : List He.DefD := fnP0 ++ (fnP1 ++ (fnP2))
def faP0 : List He.Fa := [.glo "is_whole", .glo "is_between", .glo "are_wholes", .glo "divisor_of", .glo "is_ratio", .glo "ratio", .glo "plus", .glo "minus", .glo "times", .glo "over", .glo "opposite", .glo "is_up_to", .glo "is_below", .glo "dot", .glo "noughts", .glo "unit", .glo "row_plus", .glo "scaled", .glo "turned", .glo "mixed", .glo "is_row_by", .glo "check_row", .glo "first_board", .glo "gaps", .glo "leaving", .glo "turned_about", .glo "descended", .glo "prices", .glo "driven_out", .glo "weights_by", .glo "least_by", .glo "void_by", .glo "greatest_by", .glo "is_wish"]
def faP1 : List He.Fa := [.glo "is_lot_by", .glo "rows_in", .glo "bounds_in", .glo "void_weights", .glo "greatest_in", .glo "paper_by", .glo "is_bounded", .glo "are_weights", .glo "is_paper_by", .glo "check_lot", .glo "check_wish", .glo "bounds", .glo "paper_of", .glo "is_paper", .glo "_law_well", .glo "_law_draw", .glo "_law_of", .glo "_law_frac", .glo "_law_plus", .glo "_law_times", .glo "_law_up_to", .glo "_law_dot", .glo "_law_number", .glo "_law_row", .glo "_law_is_whole", .glo "_law_is_frac", .glo "_law_is_row", .glo "_law_mixed", .glo "_law_are_weights", .glo "_law_is_paper", .glo "_law_lot", .glo "_law_inside", .glo "_law_whole_wish", .glo "_law_common"]
def faP2 : List He.Fa := [.glo "_law_lowered", .glo "_law_joined_wish", .glo "_law_is_void", .glo "_law_lot_wishes", .glo "_law_bounds", .glo "_law_ask", .glo "_law_right", .glo "law", .free "isinstance", .free "len", .free "all", .free "any", .free "abs", .free "max", .free "min", .free "sorted", .free "divmod", .free "repr", .free "int", .free "bool", .free "str", .free "tuple", .free "list", .free "set", .free "range", .free "zip", .free "enumerate", .glo "ZERO", .glo "ONE", .glo "LESS", .int "MOST_SIZE" 12, .int "MOST_WISHES" 100]
def faA : List He.Fa := faP0 ++ (faP1 ++ (faP2))
def looP0 : List PySem.Str := ["gcd", "__name__", "HelmError", "InvalidFraction", "InvalidLot", "InvalidRow", "is_whole", "is_between", "are_wholes", "divisor_of", "ZERO", "ONE", "LESS", "is_ratio", "ratio", "plus", "minus", "times", "over", "opposite", "is_up_to", "is_below", "dot", "noughts", "unit", "row_plus", "scaled", "turned", "mixed", "is_row_by"]
def looP1 : List PySem.Str := ["check_row", "first_board", "gaps", "leaving", "turned_about", "descended", "prices", "driven_out", "weights_by", "least_by", "void_by", "greatest_by", "MOST_SIZE", "MOST_WISHES", "is_wish", "is_lot_by", "rows_in", "bounds_in", "void_weights", "greatest_in", "paper_by", "is_bounded", "are_weights", "is_paper_by", "check_lot", "check_wish", "bounds", "paper_of", "is_paper", "_law_well"]
def looP2 : List PySem.Str := ["_law_draw", "_law_of", "_law_frac", "_law_plus", "_law_times", "_law_up_to", "_law_dot", "_law_number", "_law_row", "_law_is_whole", "_law_is_frac", "_law_is_row", "_law_mixed", "_law_are_weights", "_law_is_paper", "_law_lot", "_law_inside", "_law_whole_wish", "_law_common", "_law_lowered", "_law_joined_wish", "_law_is_void", "_law_lot_wishes", "_law_bounds", "_law_ask", "_law_right"]
def looA : List PySem.Str := looP0 ++ (looP1 ++ (looP2))
def exA (K : PySem.W.Frag) : Bool := He.tupB K "ZERO" [.int 0, .int 1] && (He.tupB K "ONE" [.int 1, .int 1] && (He.tupB K "LESS" [.int (-1), .int 1] && He.eqO (PySem.W.nsIn K mainGlobals "gcd") (some (some (.builtin "math.gcd")))))
abbrev AlE : Type := He.AlD × Bool
def obsF (n : Nat) (g : Addr → Option Obj) : AlE := (He.obsD faA fnA (He.frG g (He.asD g n)), exA (He.frG g (He.asD g n)))
def valE : AlE := (He.valD fnA, true)
def hookE (n : Nat) : PySem.W.Hook where
  α := AlE
  obs := fun s => obsF n s.heap.get?
  val := fun _ => valE
  says := fun _ h => ∃ K : PySem.W.Frag, K.In h ∧ He.SaysD faA fnA K ∧ exA K = true
  of := fun _ _ e => ⟨_, He.frG_in, congrArg Prod.fst e, congrArg Prod.snd e⟩
  keeps := fun _ _ _ ⟨K, hK, c, x⟩ k => ⟨K, PySem.W.Frag.In.keeps hK k, c, x⟩
theorem obsF_eq {n : Nat} {g : Addr → Option Obj} {s : Shared} (h : ∀ a, g a = s.heap.get? a) : obsF n g = (hookE n).obs s := by
  have e : g = s.heap.get? := funext h
  rw [e] <;> rfl
theorem fun_of_d {K : PySem.W.Frag} {x : Str} {stm : Stmt} {f : Addr} {fd : FuncData} (F : FunD K x x (defArgs stm) (defBody stm) (defScope stm) [] [] f fd) : Fun K x x stm f fd := by
  obtain ⟨oc, od, dV, kV, doc, pm, an, cdv, ct, osl, e, lk, hcd, hD, _⟩ := F.ex
  rcases hD with ⟨_, rfl⟩ | ⟨h, _⟩
  · exact ⟨⟨oc, od, kV, doc, pm, an, cdv, ct, osl, e, lk, hcd⟩, F.kp⟩
  · exact absurd rfl h
end W6
end
section
set_option Elab.async false
set_option linter.all false
set_option maxRecDepth 100000
set_option maxHeartbeats 4000000
/-! The chain of all defs. -/
namespace W6
open PySem PySem.Spec PyProof.Rows L2
theorem cst_tup {E : En} {x : Str} {vs : List He.Dv} {q : Rat} (hg : E.mg x = some (.ref (He.ga E.K x))) (ht : He.tupB E.K x vs = true) (e : vs.map (He.Dv.v E.K) = [.int q.num, .int (q.den : Int)]) : Cst E x (fr q) :=
  ⟨.ref (He.ga E.K x), .ref (He.ga E.K x), hg, rfl, fun H => .tup (e ▸ He.tupB_ok ht H) (.cons (.int _) (.cons (.int _) .nil))⟩
section
variable {E : En} {h : Heap}
theorem at_of {x : Str} {stm : Stmt} {ps : List Str} {d : He.DefD} (X : E.K.In h) (G : h.Ns mainGlobals E.mg) (c : He.SaysD faA fnA E.K) (i j : Nat) (hi : fnA[i]? = some ⟨(x, none), x, x, defArgs stm, defBody stm, defScope stm, [], []⟩) (hj : faA[j]? = some (.glo x))
    (hb : ∀ (kV doc pm : Value) (an : Option Addr) (cdv ct : Value) (us : List Value), us.length = ps.length → bindArgs (PySem.W.fnOf x x (defArgs stm) (defBody stm) (defScope stm) .none kV doc pm an cdv ct) ⟨us, []⟩ = pure (ps.zip us)) : At E x stm ps := by
  obtain ⟨fd, F⟩ := c.def_ i hi
  have F := fun_of_d F
  exact ⟨_, fd, F, He.glo_ok X G (c.fact j hj), F.binds hb⟩
end

theorem chain {l : PySem.W.OpenLaw} {w : World} {K : PySem.W.Frag} {mg : Str → Option Value} {fa : Addr} {h : Heap} (X : K.In h) (G : h.Ns mainGlobals mg) (hfa : mg "law" = some (.ref fa)) (c : He.SaysD faA fnA K) (x : exA K = true) :
    ∃ fd : FuncData, (∀ (s : Shared) (u : Value), BindsTo s fd ⟨[u], []⟩ [("_law_script", u)]) ∧ ∀ base : Heap, K.In base → base.Ns mainGlobals mg → FnG l.prog w K mg base 15 fa fd ["_law_script"] (spC K C_law) := by
  obtain ⟨x1, x2⟩ := Bool.and_eq_true_iff.mp x
  obtain ⟨x2, x3⟩ := Bool.and_eq_true_iff.mp x2
  obtain ⟨x3, x4⟩ := Bool.and_eq_true_iff.mp x3
  obtain ⟨fdL, FL⟩ := c.def_ 75 (d := dD_law) rfl
  have FL : Fun K "law" "law" s_law _ fdL := fun_of_d FL
  have eL := hfa.symm.trans (He.glo_ok X G (c.fact 75 (f := .glo "law") rfl))
  cases eL
  refine ⟨fdL, fun s u => ?_, fun base XB GB => ?_⟩
  · obtain ⟨oc, od, kV, doc, pm, an, cdv, ct, osl, rfl, lk, hcd⟩ := FL.ex
    exact .of_eq rfl
  let E : En := ⟨l.prog, w, K, mg, base⟩
  have B : BC E := {
    isinstance := He.free_ok X G (c.fact 76 (f := .free "isinstance") rfl)
    len := He.free_ok X G (c.fact 77 (f := .free "len") rfl)
    all := He.free_ok X G (c.fact 78 (f := .free "all") rfl)
    any := He.free_ok X G (c.fact 79 (f := .free "any") rfl)
    abs := He.free_ok X G (c.fact 80 (f := .free "abs") rfl)
    max := He.free_ok X G (c.fact 81 (f := .free "max") rfl)
    min := He.free_ok X G (c.fact 82 (f := .free "min") rfl)
    sorted := He.free_ok X G (c.fact 83 (f := .free "sorted") rfl)
    divmod := He.free_ok X G (c.fact 84 (f := .free "divmod") rfl)
    repr := He.free_ok X G (c.fact 85 (f := .free "repr") rfl)
    int_ := He.free_ok X G (c.fact 86 (f := .free "int") rfl)
    bool_ := He.free_ok X G (c.fact 87 (f := .free "bool") rfl)
    str_ := He.free_ok X G (c.fact 88 (f := .free "str") rfl)
    tuple_ := He.free_ok X G (c.fact 89 (f := .free "tuple") rfl)
    list_ := He.free_ok X G (c.fact 90 (f := .free "list") rfl)
    set_ := He.free_ok X G (c.fact 91 (f := .free "set") rfl)
    range_ := He.free_ok X G (c.fact 92 (f := .free "range") rfl)
    zip_ := He.free_ok X G (c.fact 93 (f := .free "zip") rfl)
    enumerate_ := He.free_ok X G (c.fact 94 (f := .free "enumerate") rfl)
    gcd := PySem.W.mg_of X G (He.eqO_ok x4)
    zero := cst_tup (E := E) (q := 0) (He.glo_ok X G (c.fact 95 (f := .glo "ZERO") rfl)) x1 rfl
    one := cst_tup (E := E) (q := 1) (He.glo_ok X G (c.fact 96 (f := .glo "ONE") rfl)) x2 rfl
    less := cst_tup (E := E) (q := -1) (He.glo_ok X G (c.fact 97 (f := .glo "LESS") rfl)) x3 rfl
    size := by
      obtain ⟨t, ht⟩ := He.int_ok X G (c.fact 98 (f := .int "MOST_SIZE" 12) rfl)
      exact ⟨.int 12, .int 12 t, ht, ⟨t, rfl⟩, fun H => .int 12⟩
    wishes := by
      obtain ⟨t, ht⟩ := He.int_ok X G (c.fact 99 (f := .int "MOST_WISHES" 100) rfl)
      exact ⟨.int 100, .int 100 t, ht, ⟨t, rfl⟩, fun H => .int 100⟩ }
  have A_is_whole := at_of (E := E) (x := "is_whole") (stm := s_is_whole) (ps := ["value"]) (d := dD_is_whole) X G c 0 0 rfl rfl fun _ _ _ _ _ _ us hl => match us, hl with | [_], _ => rfl
  have D_is_whole := W6.D_is_whole B A_is_whole 
  have A_is_between := at_of (E := E) (x := "is_between") (stm := s_is_between) (ps := ["value", "low", "high"]) (d := dD_is_between) X G c 1 1 rfl rfl fun _ _ _ _ _ _ us hl => match us, hl with | [_, _, _], _ => rfl
  have D_is_between := W6.D_is_between B A_is_between D_is_whole
  have A_are_wholes := at_of (E := E) (x := "are_wholes") (stm := s_are_wholes) (ps := ["value", "many"]) (d := dD_are_wholes) X G c 2 2 rfl rfl fun _ _ _ _ _ _ us hl => match us, hl with | [_, _], _ => rfl
  have D_are_wholes := W6.D_are_wholes B A_are_wholes D_is_whole
  have A_divisor_of := at_of (E := E) (x := "divisor_of") (stm := s_divisor_of) (ps := ["one", "two"]) (d := dD_divisor_of) X G c 3 3 rfl rfl fun _ _ _ _ _ _ us hl => match us, hl with | [_, _], _ => rfl
  have D_divisor_of := W6.D_divisor_of B A_divisor_of 
  have A_is_ratio := at_of (E := E) (x := "is_ratio") (stm := s_is_ratio) (ps := ["value"]) (d := dD_is_ratio) X G c 4 4 rfl rfl fun _ _ _ _ _ _ us hl => match us, hl with | [_], _ => rfl
  have D_is_ratio := W6.D_is_ratio B A_is_ratio D_are_wholes D_divisor_of
  have A_ratio := at_of (E := E) (x := "ratio") (stm := s_ratio) (ps := ["top", "low"]) (d := dD_ratio) X G c 5 5 rfl rfl fun _ _ _ _ _ _ us hl => match us, hl with | [_, _], _ => rfl
  have D_ratio := W6.D_ratio B A_ratio D_divisor_of
  have A_plus := at_of (E := E) (x := "plus") (stm := s_plus) (ps := ["one", "two"]) (d := dD_plus) X G c 6 6 rfl rfl fun _ _ _ _ _ _ us hl => match us, hl with | [_, _], _ => rfl
  have D_plus := W6.D_plus B A_plus D_ratio
  have A_minus := at_of (E := E) (x := "minus") (stm := s_minus) (ps := ["one", "two"]) (d := dD_minus) X G c 7 7 rfl rfl fun _ _ _ _ _ _ us hl => match us, hl with | [_, _], _ => rfl
  have D_minus := W6.D_minus B A_minus D_ratio
  have A_times := at_of (E := E) (x := "times") (stm := s_times) (ps := ["one", "two"]) (d := dD_times) X G c 8 8 rfl rfl fun _ _ _ _ _ _ us hl => match us, hl with | [_, _], _ => rfl
  have D_times := W6.D_times B A_times D_ratio
  have A_over := at_of (E := E) (x := "over") (stm := s_over) (ps := ["one", "two"]) (d := dD_over) X G c 9 9 rfl rfl fun _ _ _ _ _ _ us hl => match us, hl with | [_, _], _ => rfl
  have D_over := W6.D_over B A_over D_ratio
  have A_opposite := at_of (E := E) (x := "opposite") (stm := s_opposite) (ps := ["one"]) (d := dD_opposite) X G c 10 10 rfl rfl fun _ _ _ _ _ _ us hl => match us, hl with | [_], _ => rfl
  have D_opposite := W6.D_opposite B A_opposite 
  have A_is_up_to := at_of (E := E) (x := "is_up_to") (stm := s_is_up_to) (ps := ["one", "two"]) (d := dD_is_up_to) X G c 11 11 rfl rfl fun _ _ _ _ _ _ us hl => match us, hl with | [_, _], _ => rfl
  have D_is_up_to := W6.D_is_up_to B A_is_up_to 
  have A_is_below := at_of (E := E) (x := "is_below") (stm := s_is_below) (ps := ["one", "two"]) (d := dD_is_below) X G c 12 12 rfl rfl fun _ _ _ _ _ _ us hl => match us, hl with | [_, _], _ => rfl
  have D_is_below := W6.D_is_below B A_is_below 
  have A_dot := at_of (E := E) (x := "dot") (stm := s_dot) (ps := ["one", "two"]) (d := dD_dot) X G c 13 13 rfl rfl fun _ _ _ _ _ _ us hl => match us, hl with | [_, _], _ => rfl
  have D_dot := W6.D_dot B A_dot D_plus D_times
  have A_noughts := at_of (E := E) (x := "noughts") (stm := s_noughts) (ps := ["many"]) (d := dD_noughts) X G c 14 14 rfl rfl fun _ _ _ _ _ _ us hl => match us, hl with | [_], _ => rfl
  have D_noughts := W6.D_noughts B A_noughts 
  have A_unit := at_of (E := E) (x := "unit") (stm := s_unit) (ps := ["many", "at"]) (d := dD_unit) X G c 15 15 rfl rfl fun _ _ _ _ _ _ us hl => match us, hl with | [_, _], _ => rfl
  have D_unit := W6.D_unit B A_unit D_noughts
  have A_row_plus := at_of (E := E) (x := "row_plus") (stm := s_row_plus) (ps := ["one", "two"]) (d := dD_row_plus) X G c 16 16 rfl rfl fun _ _ _ _ _ _ us hl => match us, hl with | [_, _], _ => rfl
  have D_row_plus := W6.D_row_plus B A_row_plus D_plus
  have A_scaled := at_of (E := E) (x := "scaled") (stm := s_scaled) (ps := ["row", "number"]) (d := dD_scaled) X G c 17 17 rfl rfl fun _ _ _ _ _ _ us hl => match us, hl with | [_, _], _ => rfl
  have D_scaled := W6.D_scaled B A_scaled D_times
  have A_turned := at_of (E := E) (x := "turned") (stm := s_turned) (ps := ["row"]) (d := dD_turned) X G c 18 18 rfl rfl fun _ _ _ _ _ _ us hl => match us, hl with | [_], _ => rfl
  have D_turned := W6.D_turned B A_turned D_opposite
  have A_mixed := at_of (E := E) (x := "mixed") (stm := s_mixed) (ps := ["rows", "numbers", "many"]) (d := dD_mixed) X G c 19 19 rfl rfl fun _ _ _ _ _ _ us hl => match us, hl with | [_, _, _], _ => rfl
  have D_mixed := W6.D_mixed B A_mixed D_noughts D_row_plus D_scaled
  have A_is_row_by := at_of (E := E) (x := "is_row_by") (stm := s_is_row_by) (ps := ["value", "many"]) (d := dD_is_row_by) X G c 20 20 rfl rfl fun _ _ _ _ _ _ us hl => match us, hl with | [_, _], _ => rfl
  have D_is_row_by := W6.D_is_row_by B A_is_row_by D_is_ratio
  have A_check_row := at_of (E := E) (x := "check_row") (stm := s_check_row) (ps := ["many", "value"]) (d := dD_check_row) X G c 21 21 rfl rfl fun _ _ _ _ _ _ us hl => match us, hl with | [_, _], _ => rfl
  have D_check_row := W6.D_check_row B A_check_row D_is_ratio
  have A_first_board := at_of (E := E) (x := "first_board") (stm := s_first_board) (ps := ["columns", "right"]) (d := dD_first_board) X G c 22 22 rfl rfl fun _ _ _ _ _ _ us hl => match us, hl with | [_, _], _ => rfl
  have D_first_board := W6.D_first_board B A_first_board D_times D_unit
  have A_gaps := at_of (E := E) (x := "gaps") (stm := s_gaps) (ps := ["board", "basis", "costs"]) (d := dD_gaps) X G c 23 23 rfl rfl fun _ _ _ _ _ _ us hl => match us, hl with | [_, _, _], _ => rfl
  have D_gaps := W6.D_gaps B A_gaps D_minus D_times
  have A_leaving := at_of (E := E) (x := "leaving") (stm := s_leaving) (ps := ["board", "basis", "column"]) (d := dD_leaving) X G c 24 24 rfl rfl fun _ _ _ _ _ _ us hl => match us, hl with | [_, _, _], _ => rfl
  have D_leaving := W6.D_leaving B A_leaving D_over D_is_below
  have A_turned_about := at_of (E := E) (x := "turned_about") (stm := s_turned_about) (ps := ["board", "at", "column"]) (d := dD_turned_about) X G c 25 25 rfl rfl fun _ _ _ _ _ _ us hl => match us, hl with | [_, _, _], _ => rfl
  have D_turned_about := W6.D_turned_about B A_turned_about D_minus D_times D_over D_scaled
  have A_prices := at_of (E := E) (x := "prices") (stm := s_prices) (ps := ["left", "signs", "costs", "many"]) (d := dD_prices) X G c 27 27 rfl rfl fun _ _ _ _ _ _ us hl => match us, hl with | [_, _, _, _], _ => rfl
  have D_prices := W6.D_prices B A_prices D_minus D_times
  have A_weights_by := at_of (E := E) (x := "weights_by") (stm := s_weights_by) (ps := ["board", "basis", "many"]) (d := dD_weights_by) X G c 29 29 rfl rfl fun _ _ _ _ _ _ us hl => match us, hl with | [_, _, _], _ => rfl
  have D_weights_by := W6.D_weights_by B A_weights_by D_noughts
  have A_descended := at_of (E := E) (x := "descended") (stm := s_descended) (ps := ["board", "basis", "costs", "many"]) (d := dD_descended) X G c 26 26 rfl rfl fun _ _ _ _ _ _ us hl => match us, hl with | [_, _, _, _], _ => rfl
  have D_descended := W6.D_descended B A_descended D_gaps D_leaving D_turned_about
  have A_driven_out := at_of (E := E) (x := "driven_out") (stm := s_driven_out) (ps := ["board", "basis", "many"]) (d := dD_driven_out) X G c 28 28 rfl rfl fun _ _ _ _ _ _ us hl => match us, hl with | [_, _, _], _ => rfl
  have D_driven_out := W6.D_driven_out B A_driven_out D_turned_about
  have A_least_by := at_of (E := E) (x := "least_by") (stm := s_least_by) (ps := ["columns", "right", "costs"]) (d := dD_least_by) X G c 30 30 rfl rfl fun _ _ _ _ _ _ us hl => match us, hl with | [_, _, _], _ => rfl
  have D_least_by := W6.D_least_by B A_least_by D_noughts D_first_board D_descended D_prices D_driven_out D_weights_by
  have A_void_by := at_of (E := E) (x := "void_by") (stm := s_void_by) (ps := ["rows", "bounds", "size"]) (d := dD_void_by) X G c 31 31 rfl rfl fun _ _ _ _ _ _ us hl => match us, hl with | [_, _, _], _ => rfl
  have D_void_by := W6.D_void_by B A_void_by D_least_by D_noughts D_over D_turned
  have A_greatest_by := at_of (E := E) (x := "greatest_by") (stm := s_greatest_by) (ps := ["rows", "bounds", "row"]) (d := dD_greatest_by) X G c 32 32 rfl rfl fun _ _ _ _ _ _ us hl => match us, hl with | [_, _, _], _ => rfl
  have D_greatest_by := W6.D_greatest_by B A_greatest_by D_least_by
  have A_rows_in := at_of (E := E) (x := "rows_in") (stm := s_rows_in) (ps := ["lot"]) (d := dD_rows_in) X G c 35 35 rfl rfl fun _ _ _ _ _ _ us hl => match us, hl with | [_], _ => rfl
  have D_rows_in := W6.D_rows_in B A_rows_in 
  have A_bounds_in := at_of (E := E) (x := "bounds_in") (stm := s_bounds_in) (ps := ["lot"]) (d := dD_bounds_in) X G c 36 36 rfl rfl fun _ _ _ _ _ _ us hl => match us, hl with | [_], _ => rfl
  have D_bounds_in := W6.D_bounds_in B A_bounds_in 
  have A_void_weights := at_of (E := E) (x := "void_weights") (stm := s_void_weights) (ps := ["lot"]) (d := dD_void_weights) X G c 37 37 rfl rfl fun _ _ _ _ _ _ us hl => match us, hl with | [_], _ => rfl
  have D_void_weights := W6.D_void_weights B A_void_weights D_void_by D_rows_in D_bounds_in
  have A_greatest_in := at_of (E := E) (x := "greatest_in") (stm := s_greatest_in) (ps := ["lot", "row"]) (d := dD_greatest_in) X G c 38 38 rfl rfl fun _ _ _ _ _ _ us hl => match us, hl with | [_, _], _ => rfl
  have D_greatest_in := W6.D_greatest_in B A_greatest_in D_void_weights D_noughts D_greatest_by D_rows_in D_bounds_in D_dot
  have A_paper_by := at_of (E := E) (x := "paper_by") (stm := s_paper_by) (ps := ["lot", "row", "bound"]) (d := dD_paper_by) X G c 39 39 rfl rfl fun _ _ _ _ _ _ us hl => match us, hl with | [_, _, _], _ => rfl
  have D_paper_by := W6.D_paper_by B A_paper_by D_greatest_in D_is_up_to
  have A_is_bounded := at_of (E := E) (x := "is_bounded") (stm := s_is_bounded) (ps := ["lot", "row", "bound"]) (d := dD_is_bounded) X G c 40 40 rfl rfl fun _ _ _ _ _ _ us hl => match us, hl with | [_, _, _], _ => rfl
  have D_is_bounded := W6.D_is_bounded B A_is_bounded D_paper_by
  have A_is_wish := at_of (E := E) (x := "is_wish") (stm := s_is_wish) (ps := ["value", "size"]) (d := dD_is_wish) X G c 33 33 rfl rfl fun _ _ _ _ _ _ us hl => match us, hl with | [_, _], _ => rfl
  have D_is_wish := W6.D_is_wish B A_is_wish D_is_row_by D_is_ratio
  have AL : AtD E "is_lot_by" s_is_lot_by ["value", "most"] [.int 100] := by
    obtain ⟨fd, F⟩ := c.def_ 34 (d := dD_is_lot_by) rfl
    obtain ⟨ds, hv, hb⟩ := FunD.binds1 (ps := ["value", "most"]) F 1 0 (fun z => nomatch z) rfl fun T kV doc pm an cdv ct us its h1 h2 => match us, its, h1, h2 with
      | [_], [_], _, _ => ⟨_, rfl, rfl⟩
    exact ⟨_, fd, _, _, _, ds, F, He.glo_ok X G (c.fact 34 (f := .glo "is_lot_by") rfl), hb, hv, fun H => .cons (.int 100) .nil⟩
  have D_is_lot_by := W6.D_is_lot_by B AL D_is_between D_is_wish
  have A_are_weights := at_of (E := E) (x := "are_weights") (stm := s_are_weights) (ps := ["value", "many"]) (d := dD_are_weights) X G c 41 41 rfl rfl fun _ _ _ _ _ _ us hl => match us, hl with | [_, _], _ => rfl
  have D_are_weights := W6.D_are_weights B A_are_weights D_is_row_by
  have A_is_paper_by := at_of (E := E) (x := "is_paper_by") (stm := s_is_paper_by) (ps := ["lot", "row", "bound", "paper"]) (d := dD_is_paper_by) X G c 42 42 rfl rfl fun _ _ _ _ _ _ us hl => match us, hl with | [_, _, _, _], _ => rfl
  have D_is_paper_by := W6.D_is_paper_by B A_is_paper_by D_are_weights D_mixed D_rows_in D_dot D_bounds_in D_is_up_to D_noughts
  have A_check_lot := at_of (E := E) (x := "check_lot") (stm := s_check_lot) (ps := ["value"]) (d := dD_check_lot) X G c 43 43 rfl rfl fun _ _ _ _ _ _ us hl => match us, hl with | [_], _ => rfl
  have D_check_lot := W6.D_check_lot B A_check_lot D_is_lot_by
  have A_check_wish := at_of (E := E) (x := "check_wish") (stm := s_check_wish) (ps := ["lot", "row", "bound"]) (d := dD_check_wish) X G c 44 44 rfl rfl fun _ _ _ _ _ _ us hl => match us, hl with | [_, _, _], _ => rfl
  have D_check_wish := W6.D_check_wish B A_check_wish D_check_lot D_check_row D_is_ratio
  have A_bounds := at_of (E := E) (x := "bounds") (stm := s_bounds) (ps := ["lot", "row", "bound"]) (d := dD_bounds) X G c 45 45 rfl rfl fun _ _ _ _ _ _ us hl => match us, hl with | [_, _, _], _ => rfl
  have D_bounds := W6.D_bounds B A_bounds D_check_wish D_is_bounded
  have A_paper_of := at_of (E := E) (x := "paper_of") (stm := s_paper_of) (ps := ["lot", "row", "bound"]) (d := dD_paper_of) X G c 46 46 rfl rfl fun _ _ _ _ _ _ us hl => match us, hl with | [_, _, _], _ => rfl
  have D_paper_of := W6.D_paper_of B A_paper_of D_check_wish D_paper_by
  have A_is_paper := at_of (E := E) (x := "is_paper") (stm := s_is_paper) (ps := ["lot", "row", "bound", "paper"]) (d := dD_is_paper) X G c 47 47 rfl rfl fun _ _ _ _ _ _ us hl => match us, hl with | [_, _, _, _], _ => rfl
  have D_is_paper := W6.D_is_paper B A_is_paper D_check_wish D_is_paper_by
  have A__law_draw := at_of (E := E) (x := "_law_draw") (stm := s__law_draw) (ps := ["_law_well_here", "_law_many"]) (d := dD__law_draw) X G c 49 49 rfl rfl fun _ _ _ _ _ _ us hl => match us, hl with | [_, _], _ => rfl
  have D__law_draw := W6.D__law_draw B A__law_draw 
  have A__law_of := at_of (E := E) (x := "_law_of") (stm := s__law_of) (ps := ["_law_well_here", "_law_some"]) (d := dD__law_of) X G c 50 50 rfl rfl fun _ _ _ _ _ _ us hl => match us, hl with | [_, _], _ => rfl
  have D__law_of := W6.D__law_of B A__law_of D__law_draw
  have A__law_frac := at_of (E := E) (x := "_law_frac") (stm := s__law_frac) (ps := ["_law_top", "_law_low"]) (d := dD__law_frac) X G c 51 51 rfl rfl fun _ _ _ _ _ _ us hl => match us, hl with | [_, _], _ => rfl
  have D__law_frac := W6.D__law_frac B A__law_frac 
  have A__law_plus := at_of (E := E) (x := "_law_plus") (stm := s__law_plus) (ps := ["_law_one", "_law_two"]) (d := dD__law_plus) X G c 52 52 rfl rfl fun _ _ _ _ _ _ us hl => match us, hl with | [_, _], _ => rfl
  have D__law_plus := W6.D__law_plus B A__law_plus D__law_frac
  have A__law_times := at_of (E := E) (x := "_law_times") (stm := s__law_times) (ps := ["_law_one", "_law_two"]) (d := dD__law_times) X G c 53 53 rfl rfl fun _ _ _ _ _ _ us hl => match us, hl with | [_, _], _ => rfl
  have D__law_times := W6.D__law_times B A__law_times D__law_frac
  have A__law_up_to := at_of (E := E) (x := "_law_up_to") (stm := s__law_up_to) (ps := ["_law_one", "_law_two"]) (d := dD__law_up_to) X G c 54 54 rfl rfl fun _ _ _ _ _ _ us hl => match us, hl with | [_, _], _ => rfl
  have D__law_up_to := W6.D__law_up_to B A__law_up_to 
  have A__law_dot := at_of (E := E) (x := "_law_dot") (stm := s__law_dot) (ps := ["_law_one", "_law_two"]) (d := dD__law_dot) X G c 55 55 rfl rfl fun _ _ _ _ _ _ us hl => match us, hl with | [_, _], _ => rfl
  have D__law_dot := W6.D__law_dot B A__law_dot D__law_plus D__law_times
  have A__law_number := at_of (E := E) (x := "_law_number") (stm := s__law_number) (ps := ["_law_well_here"]) (d := dD__law_number) X G c 56 56 rfl rfl fun _ _ _ _ _ _ us hl => match us, hl with | [_], _ => rfl
  have D__law_number := W6.D__law_number B A__law_number D__law_draw D__law_frac
  have A__law_row := at_of (E := E) (x := "_law_row") (stm := s__law_row) (ps := ["_law_well_here", "_law_size"]) (d := dD__law_row) X G c 57 57 rfl rfl fun _ _ _ _ _ _ us hl => match us, hl with | [_, _], _ => rfl
  have D__law_row := W6.D__law_row B A__law_row D__law_number
  have A__law_is_whole := at_of (E := E) (x := "_law_is_whole") (stm := s__law_is_whole) (ps := ["_law_thing"]) (d := dD__law_is_whole) X G c 58 58 rfl rfl fun _ _ _ _ _ _ us hl => match us, hl with | [_], _ => rfl
  have D__law_is_whole := W6.D__law_is_whole B A__law_is_whole 
  have A__law_is_frac := at_of (E := E) (x := "_law_is_frac") (stm := s__law_is_frac) (ps := ["_law_thing"]) (d := dD__law_is_frac) X G c 59 59 rfl rfl fun _ _ _ _ _ _ us hl => match us, hl with | [_], _ => rfl
  have D__law_is_frac := W6.D__law_is_frac B A__law_is_frac D__law_is_whole D__law_frac
  have A__law_is_row := at_of (E := E) (x := "_law_is_row") (stm := s__law_is_row) (ps := ["_law_thing", "_law_size"]) (d := dD__law_is_row) X G c 60 60 rfl rfl fun _ _ _ _ _ _ us hl => match us, hl with | [_, _], _ => rfl
  have D__law_is_row := W6.D__law_is_row B A__law_is_row D__law_is_frac
  have A__law_mixed := at_of (E := E) (x := "_law_mixed") (stm := s__law_mixed) (ps := ["_law_lot_here", "_law_weights"]) (d := dD__law_mixed) X G c 61 61 rfl rfl fun _ _ _ _ _ _ us hl => match us, hl with | [_, _], _ => rfl
  have D__law_mixed := W6.D__law_mixed B A__law_mixed D__law_plus D__law_times
  have A__law_are_weights := at_of (E := E) (x := "_law_are_weights") (stm := s__law_are_weights) (ps := ["_law_lot_here", "_law_thing"]) (d := dD__law_are_weights) X G c 62 62 rfl rfl fun _ _ _ _ _ _ us hl => match us, hl with | [_, _], _ => rfl
  have D__law_are_weights := W6.D__law_are_weights B A__law_are_weights D__law_is_row
  have A__law_is_paper := at_of (E := E) (x := "_law_is_paper") (stm := s__law_is_paper) (ps := ["_law_lot_here", "_law_row_here", "_law_bound", "_law_thing"]) (d := dD__law_is_paper) X G c 63 63 rfl rfl fun _ _ _ _ _ _ us hl => match us, hl with | [_, _, _, _], _ => rfl
  have D__law_is_paper := W6.D__law_is_paper B A__law_is_paper D__law_are_weights D__law_mixed D__law_up_to
  have A__law_lot := at_of (E := E) (x := "_law_lot") (stm := s__law_lot) (ps := ["_law_well_here", "_law_size", "_law_most"]) (d := dD__law_lot) X G c 64 64 rfl rfl fun _ _ _ _ _ _ us hl => match us, hl with | [_, _, _], _ => rfl
  have D__law_lot := W6.D__law_lot B A__law_lot D__law_draw D__law_row D__law_of D__law_number
  have A__law_inside := at_of (E := E) (x := "_law_inside") (stm := s__law_inside) (ps := ["_law_well_here", "_law_size", "_law_most"]) (d := dD__law_inside) X G c 65 65 rfl rfl fun _ _ _ _ _ _ us hl => match us, hl with | [_, _, _], _ => rfl
  have D__law_inside := W6.D__law_inside B A__law_inside D__law_row D__law_lot D__law_dot D__law_up_to D__law_plus D__law_of
  have A__law_ask := at_of (E := E) (x := "_law_ask") (stm := s__law_ask) (ps := ["_law_well_here", "_law_lot_here"]) (d := dD__law_ask) X G c 73 73 rfl rfl fun _ _ _ _ _ _ us hl => match us, hl with | [_, _], _ => rfl
  have D__law_ask := W6.D__law_ask B A__law_ask D__law_row D__law_number D__law_draw D__law_of D__law_mixed D__law_plus
  have A__law_common := at_of (E := E) (x := "_law_common") (stm := s__law_common) (ps := ["_law_one", "_law_two"]) (d := dD__law_common) X G c 67 67 rfl rfl fun _ _ _ _ _ _ us hl => match us, hl with | [_, _], _ => rfl
  have D__law_common := W6.D__law_common B A__law_common 
  have A__law_whole_wish := at_of (E := E) (x := "_law_whole_wish") (stm := s__law_whole_wish) (ps := ["_law_row_here", "_law_bound", "_law_strict"]) (d := dD__law_whole_wish) X G c 66 66 rfl rfl fun _ _ _ _ _ _ us hl => match us, hl with | [_, _, _], _ => rfl
  have D__law_whole_wish := W6.D__law_whole_wish B A__law_whole_wish D__law_common
  have A__law_lowered := at_of (E := E) (x := "_law_lowered") (stm := s__law_lowered) (ps := ["_law_wish"]) (d := dD__law_lowered) X G c 68 68 rfl rfl fun _ _ _ _ _ _ us hl => match us, hl with | [_], _ => rfl
  have D__law_lowered := W6.D__law_lowered B A__law_lowered D__law_common
  have A__law_joined_wish := at_of (E := E) (x := "_law_joined_wish") (stm := s__law_joined_wish) (ps := ["_law_one", "_law_two", "_law_spot"]) (d := dD__law_joined_wish) X G c 69 69 rfl rfl fun _ _ _ _ _ _ us hl => match us, hl with | [_, _, _], _ => rfl
  have D__law_joined_wish := W6.D__law_joined_wish B A__law_joined_wish D__law_lowered
  have A__law_is_void := at_of (E := E) (x := "_law_is_void") (stm := s__law_is_void) (ps := ["_law_wishes", "_law_size"]) (d := dD__law_is_void) X G c 70 70 rfl rfl fun _ _ _ _ _ _ us hl => match us, hl with | [_, _], _ => rfl
  have D__law_is_void := W6.D__law_is_void B A__law_is_void D__law_lowered D__law_joined_wish
  have A__law_lot_wishes := at_of (E := E) (x := "_law_lot_wishes") (stm := s__law_lot_wishes) (ps := ["_law_lot_here"]) (d := dD__law_lot_wishes) X G c 71 71 rfl rfl fun _ _ _ _ _ _ us hl => match us, hl with | [_], _ => rfl
  have D__law_lot_wishes := W6.D__law_lot_wishes B A__law_lot_wishes D__law_whole_wish
  have A__law_bounds := at_of (E := E) (x := "_law_bounds") (stm := s__law_bounds) (ps := ["_law_lot_here", "_law_row_here", "_law_bound"]) (d := dD__law_bounds) X G c 72 72 rfl rfl fun _ _ _ _ _ _ us hl => match us, hl with | [_, _, _], _ => rfl
  have D__law_bounds := W6.D__law_bounds B A__law_bounds D__law_whole_wish D__law_lot_wishes D__law_is_void
  have A__law_well := at_of (E := E) (x := "_law_well") (stm := s__law_well) (ps := ["_law_script", "_law_turn"]) (d := dD__law_well) X G c 48 48 rfl rfl fun _ _ _ _ _ _ us hl => match us, hl with | [_, _], _ => rfl
  have D__law_well := W6.D__law_well B A__law_well
  have A__law_right := at_of (E := E) (x := "_law_right") (stm := s__law_right) (ps := ["_law_well_here"]) (d := dD__law_right) X G c 74 74 rfl rfl fun _ _ _ _ _ _ us hl => match us, hl with | [_], _ => rfl
  have DK := DK_paper_of B A_paper_of D_check_wish D_paper_by
  have D__law_right := W6.D__law_right B solve A__law_right D__law_draw D__law_lot D__law_inside D__law_ask D__law_bounds D_paper_of D_bounds DK D__law_is_paper D_is_paper
  exact law_fnG B FL D__law_well D__law_right
end W6
end
section
set_option Elab.async false
set_option linter.all false
set_option maxRecDepth 100000
set_option maxHeartbeats 0
/-! The head's run, its import run with it; the looks and the facts in runs of their own. -/
namespace W6
open PySem PySem.Spec PyProof.Rows L2
theorem map_join {X A B C : Type} {o : Option X} {f : X → A} {g : X → B} {h : X → C} {a : A} {b : B} {c : C} (e1 : o.map (fun x => (f x, g x)) = some (a, b)) (e2 : o.map h = some c) : o.map (fun x => (f x, g x, h x)) = some (a, b, c) := by
  obtain ⟨x, rfl, e⟩ := Option.map_eq_some_iff.mp e1
  obtain ⟨y, e3, e4⟩ := Option.map_eq_some_iff.mp e2
  obtain rfl := Option.some.inj e3
  obtain ⟨l1, l2⟩ := Prod.mk.inj e
  exact congrArg some (Prod.ext l1 (Prod.ext l2 e4))
abbrev looB : List PySem.Str := looA.erase "gcd"
abbrev hkA : PySem.W.Hook := hookE 2
abbrev RA : PySem.W.OpenRow := PySem.W.OpenLaw.row PySem.Challenge.rw_safehelms_k06_whole_bounds_by_own_taking
abbrev qA : Program := PySem.W.view RA.prog [0, 93]
def obB (s : PySem.W.SharedT) : AlE := obsF 2 (HeadRun.getT s)
theorem obB_eq (s : PySem.W.SharedT) : obB s = hkA.obs s.abs := obsF_eq (HeadRun.getT_eq s)
theorem runB0 (w : World) : (HeadRun.wholeF (fun p => HeadRun.stepQ (HeadRun.denQ HeadRun.tabQ) p w) HeadRun.fenceQ 4800 RA.prog).map (fun x => (HeadRun.looksF RA.prog x.1.heap x.2.abs, HeadRun.seenQ qA looB (importedModules RA.prog.main.body) (fun s => PySem.W.xlAt qA [] s && PySem.W.recOk RA.toRowW.records s) x.2.abs)) = some (true, PySem.W.openGood qA looB) := by
  kernel_rfl
theorem runB1 (w : World) : (HeadRun.wholeF (fun p => HeadRun.stepQ (HeadRun.denQ HeadRun.tabQ) p w) HeadRun.fenceQ 4800 RA.prog).map (fun x => obB x.2) = some (hkA.val w) := by
  kernel_rfl
theorem runB (w : World) : HeadRun.RunEqI RA qA hkA obB 4800 looB w := by
  unfold HeadRun.RunEqI
  exact map_join (runB0 w) (runB1 w)
end W6
end
set_option Elab.async false
set_option linter.all false
set_option maxRecDepth 100000
namespace W6
open PySem PySem.Spec PyProof.Rows L2
/-- a law over a head by facts -/
theorem walk_ofGE {l : PySem.W.OpenLaw} {n k : Nat} {q : Program} {loose : List Str} {XP : (Str → Option Value) → Heap → Prop} {YP : World → Heap → Prop} {d : DefRec} {x : Str} (hn : l.most = some n) (hn2 : n ≤ sizeLine) (hdf : d.params.defaults = []) (hr : Room k callerA)
    (F : ∀ (w : World) (mg : Str → Option Value) (fa : Addr) (h : Heap), YP w h → h.Ns mainGlobals mg → mg d.name = some (.ref fa) → ∃ (K : PySem.W.Frag) (fd : FuncData) (sp : Sp), K.In h ∧ (∀ (s : Shared) (u : Value), BindsTo s fd ⟨[u], []⟩ [(x, u)]) ∧
      (∀ (H : Hp) (a : Addr) (ns : List Int), ns.length ≤ n → Only H → SqL K H a (ns.map V.int) → sp [.ref a] H (fun v _ => v = .bl true) fun _ _ _ => False) ∧
      ∀ base : Heap, K.In base → base.Ns mainGlobals mg → FnG l.prog w K mg base k fa fd [x] sp) : PySem.W.WalkO q loose XP YP l.row.toRowW d [] (fun f vs => PySem.call f vs) := by
  refine Att.attach_call hn hdf fun w s₀ s₁ mg mb fa o pm cd doc a vs ns G Y ho hd hcd hmg hobj hints hlen hg => ?_
  obtain ⟨K, fd, sp, KX, hb, hsp, hF⟩ := F w mg fa _ Y G.T.g hmg
  exact law_callG KX G.T.g G.T.b G.T.builtins G.T.nolimit hg hobj hints (Nat.le_trans hlen hn2) hr hF hb fun H hO hS => hsp H a ns hlen hO hS
end W6
open PySem PySem.W PyProof.Rows
set_option maxHeartbeats 0 in
theorem PySem.Challenge.cw_safehelms_k06_whole_bounds_by_own_taking_holds : PySem.Challenge.rw_safehelms_k06_whole_bounds_by_own_taking.Holds := by
  w_on; o_law
  refine HeadRun.head_imp (r := W6.RA) (q := W6.qA) (H := W6.hkA) (ob := W6.obB) (M := 4800) (loose := W6.looB) (d := HandSHeadRun.topDef W6.RA.prog 93) (kwd := []) W6.obB_eq
    W6.runB (by kernel_rfl) (by kernel_rfl) (by kernel_rfl) (by rfl) (by first | assumption | decide +kernel) (by decide +kernel) ⟨rfl, rfl, rfl, rfl, rfl, by decide +kernel⟩ ?hw ?hc
  case hw => w_witness2
  case hc =>
    refine W6.walk_ofGE (l := PySem.Challenge.rw_safehelms_k06_whole_bounds_by_own_taking) (n := 63) (k := 15) (x := "_law_script") rfl (by decide) (by kernel_rfl) ⟨rfl, by decide, by decide⟩ ?F
    intro w mg fa h Y G hmg0
    obtain ⟨K, KX, c, x⟩ := Y
    have hmg : mg ("law" : PySem.Str) = some (.ref fa) := by
      have e : (HandSHeadRun.topDef W6.RA.prog 93).name = ("law" : PySem.Str) := by kernel_rfl
      rw [← e]
      exact hmg0
    obtain ⟨fd, hb, hF⟩ := W6.chain (l := PySem.Challenge.rw_safehelms_k06_whole_bounds_by_own_taking) (w := w) KX G hmg c x
    exact ⟨K, fd, _, KX, hb, fun H a ns hl _ hS => W6.law_sp (by omega) hS, hF⟩

