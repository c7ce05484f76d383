import PyProof.Rows.All
import Wide.All
import OpenK.AllK
import Wide.FinOn
import HandS.ForMost
import HandS.Exc
import HandS.TryOnly
import HandS.ExcOwn
import HandS.WordsExc
import HandS.ExcIs
import HandS.StrMore
import HandS.TupAny
import HandS.Conv
import HandS.Deep
import HandS.IsInst
import HandS.SortInts
import HandS.Walk
import HandS.Style
import HandS.Flow
import HandS.Codes
import HandS.FromBytesMap
import HandS.SortKw
import KE.SortData
import KE.DataMinKey
import PySem.Challenge.RW_cayleywalk_k75_whole_free_conjugators
set_option Elab.async false
set_option linter.all false
set_option maxRecDepth 100000
set_option maxHeartbeats 4000000
namespace DL
open PySem PySem.Spec PyProof.Rows L2

abbrev Sg := L2.St
/-! ### data: what a value is worth, deep -/
inductive D where
  | non | bl (b : Bool) | int (i : Int) | str (x : List Nat) | lst (ds : List D) | tup (ds : List D)
  | scr (ns : List Int)

mutual
def D.py : D → PyData
  | .non => .none
  | .bl b => .bool b
  | .int i => .int i
  | .str x => .str ⟨x.toArray⟩
  | .lst ds => .list (D.pyA ds)
  | .tup ds => .tuple (D.pyA ds)
  | .scr ns => .list (ns.map .int)
def D.pyA : List D → List PyData
  | [] => []
  | d :: ds => D.py d :: D.pyA ds
end
theorem pyA_map : ∀ ds : List D, D.pyA ds = ds.map D.py
  | [] => rfl
  | d :: ds => by rw [D.pyA, pyA_map ds, List.map_cons]

mutual
inductive Dd (K : PySem.W.Frag) (H : Hp) : V → D → Prop
  | non : Dd K H .non .non
  | bl (b : Bool) : Dd K H (.bl b) (.bl b)
  | int (i : Int) : Dd K H (.int i) (.int i)
  | str (x : List Nat) : Dd K H (.str ⟨x.toArray⟩) (.str x)
  | lst {a : Addr} {xs : List V} {ds : List D} : H a = some (.lst xs) → DdA K H xs ds → Dd K H (.ref a) (.lst ds)
  | tup {a : Addr} {xs : List V} {ds : List D} : SqT K H a xs → DdA K H xs ds → Dd K H (.ref a) (.tup ds)
  | scr {a : Addr} {ns : List Int} : SqL K H a (ns.map V.int) → Dd K H (.ref a) (.scr ns)
inductive DdA (K : PySem.W.Frag) (H : Hp) : List V → List D → Prop
  | nil : DdA K H [] []
  | cons {v : V} {vs : List V} {d : D} {ds : List D} : Dd K H v d → DdA K H vs ds → DdA K H (v :: vs) (d :: ds)
end

theorem Dd.of_str {K : PySem.W.Frag} {H : Hp} (x : Str) : Dd K H (.str x) (.str x.cps.toList) := by
  obtain ⟨⟨l⟩⟩ := x
  exact Dd.str l

section
variable {K : PySem.W.Frag} {H H' : Hp}
theorem sqT_mono (e : Same H H') {a : Addr} {xs : List V} (h : SqT K H a xs) : SqT K H' a xs := by
  rcases h with (h | ⟨o, h⟩) | h
  · exact .inl (.inl (e _ _ h))
  · exact .inl (.inr ⟨o, e _ _ h⟩)
  · exact .inr h
mutual
theorem Dd.mono (e : Same H H') : ∀ {v : V} {d : D}, Dd K H v d → Dd K H' v d
  | _, _, .non => .non
  | _, _, .bl b => .bl b
  | _, _, .int i => .int i
  | _, _, .str x => .str x
  | _, _, .lst h hs => .lst (e _ _ h) (DdA.mono e hs)
  | _, _, .tup h hs => .tup (sqT_mono e h) (DdA.mono e hs)
  | _, _, .scr h => .scr (e.seq h)
theorem DdA.mono (e : Same H H') : ∀ {vs : List V} {ds : List D}, DdA K H vs ds → DdA K H' vs ds
  | _, _, .nil => .nil
  | _, _, .cons h hs => .cons (Dd.mono e h) (DdA.mono e hs)
end
theorem dp_ints : ∀ ns : List Int, DpAll K H (ns.map V.int) (ns.map PyData.int)
  | [] => .nil
  | n :: ns => .cons (.int n) (dp_ints ns)
mutual
theorem Dd.dp : ∀ {v : V} {d : D}, Dd K H v d → Dp K H v d.py
  | _, _, .non => .non
  | _, _, .bl b => .bl b
  | _, _, .int i => .int i
  | _, _, .str x => .str _
  | _, _, .lst h hs => .lst (SqL.of h) (DdA.dp hs)
  | _, _, .tup h hs => .tup h (DdA.dp hs)
  | _, _, .scr h => .lst h (dp_ints _)
theorem DdA.dp : ∀ {vs : List V} {ds : List D}, DdA K H vs ds → DpAll K H vs (D.pyA ds)
  | _, _, .nil => .nil
  | _, _, .cons h hs => .cons (Dd.dp h) (DdA.dp hs)
end
theorem DdA.length : ∀ {vs : List V} {ds : List D}, DdA K H vs ds → vs.length = ds.length
  | _, _, .nil => rfl
  | _, _, .cons _ hs => by rw [List.length_cons, List.length_cons, DdA.length hs]
theorem DdA.get : ∀ {vs : List V} {ds : List D} {i : Nat} {d : D}, DdA K H vs ds → ds[i]? = some d → ∃ v, vs[i]? = some v ∧ Dd K H v d
  | _, _, _, _, .nil, e => by simp at e
  | _, _, 0, _, .cons h _, e => by simp at e; subst e; exact ⟨_, rfl, h⟩
  | _, _, i + 1, d, .cons _ hs, e => by
    obtain ⟨v, h1, h2⟩ := DdA.get (i := i) (d := d) hs (by simpa using e)
    exact ⟨v, by simpa using h1, h2⟩
theorem DdA.at_ : ∀ {vs : List V} {ds : List D} {i : Nat} {v : V}, DdA K H vs ds → vs[i]? = some v → ∃ d, ds[i]? = some d ∧ Dd K H v d
  | _, _, _, _, .nil, e => by simp at e
  | _, _, 0, _, .cons h _, e => by simp at e; subst e; exact ⟨_, rfl, h⟩
  | _, _, i + 1, d, .cons _ hs, e => by
    obtain ⟨v, h1, h2⟩ := DdA.at_ (i := i) (v := d) hs (by simpa using e)
    exact ⟨v, by simpa using h1, h2⟩
theorem DdA.append : ∀ {vs ws : List V} {ds es : List D}, DdA K H vs ds → DdA K H ws es → DdA K H (vs ++ ws) (ds ++ es)
  | _, _, _, _, .nil, s => s
  | _, _, _, _, .cons r t, s => .cons r (DdA.append t s)
theorem DdA.take : ∀ {vs : List V} {ds : List D} (n : Nat), DdA K H vs ds → DdA K H (vs.take n) (ds.take n)
  | _, _, 0, _ => .nil
  | _, _, _ + 1, .nil => .nil
  | _, _, n + 1, .cons r t => .cons r (DdA.take n t)
theorem DdA.drop : ∀ {vs : List V} {ds : List D} (n : Nat), DdA K H vs ds → DdA K H (vs.drop n) (ds.drop n)
  | _, _, 0, r => r
  | _, _, _ + 1, .nil => .nil
  | _, _, n + 1, .cons _ t => DdA.drop n t
theorem DdA.reverse : ∀ {vs : List V} {ds : List D}, DdA K H vs ds → DdA K H vs.reverse ds.reverse
  | _, _, .nil => .nil
  | _, _, .cons r t => by
    rw [List.reverse_cons, List.reverse_cons]
    exact (DdA.reverse t).append (.cons r .nil)
theorem DdA.set : ∀ {vs : List V} {ds : List D} {v : V} {d : D} (n : Nat), DdA K H vs ds → Dd K H v d → DdA K H (vs.set n v) (ds.set n d)
  | _, _, _, _, _, .nil, _ => .nil
  | _, _, _, _, 0, .cons _ t, h => .cons h t
  | _, _, _, _, n + 1, .cons r t, h => .cons r (DdA.set n t h)
theorem DdA.eraseIdx : ∀ {vs : List V} {ds : List D} (n : Nat), DdA K H vs ds → DdA K H (vs.eraseIdx n) (ds.eraseIdx n)
  | _, _, _, .nil => .nil
  | _, _, 0, .cons _ t => t
  | _, _, n + 1, .cons r t => .cons r (DdA.eraseIdx n t)
theorem DdA.dropLast : ∀ {vs : List V} {ds : List D}, DdA K H vs ds → DdA K H vs.dropLast ds.dropLast := fun {vs ds} h => by
  rw [List.dropLast_eq_take, List.dropLast_eq_take, h.length]
  exact h.take _
theorem DdA.int_of : ∀ {vs : List V} {ns : List Int}, DdA K H vs (ns.map D.int) → vs = ns.map V.int
  | [], [], .nil => rfl
  | _ :: _, _ :: _, .cons h hs => by
    cases h
    rw [List.map_cons, DdA.int_of hs]
theorem DdA.of_int : ∀ (ns : List Int), DdA K H (ns.map V.int) (ns.map D.int)
  | [] => .nil
  | n :: ns => .cons (.int n) (DdA.of_int ns)
theorem DdA.bl_of : ∀ {vs : List V} {ns : List Bool}, DdA K H vs (ns.map D.bl) → vs = ns.map V.bl
  | [], [], .nil => rfl
  | _ :: _, _ :: _, .cons h hs => by
    cases h
    rw [List.map_cons, DdA.bl_of hs]
theorem DdA.str_of : ∀ {vs : List V} {ns : List (List Nat)}, DdA K H vs (ns.map D.str) → vs = (ns.map fun l => (⟨l.toArray⟩ : Str)).map V.str
  | [], [], .nil => rfl
  | _ :: _, _ :: _, .cons h hs => by
    cases h
    rw [DdA.str_of hs] <;> rfl
theorem DdA.of_str : ∀ (ns : List Str), DdA K H (ns.map V.str) (ns.map fun z => D.str z.cps.toList)
  | [] => .nil
  | n :: ns => .cons (.of_str n) (DdA.of_str ns)
end

/-! ### the state by data -/
/-- a slot: unknown, a datum that never changes, the k-th owned object, a raw value -/
inductive Sl where
  | un | im (d : D) | ow (k : Nat) | rw (v : V)
/-- an owned object: a list; a list of ints of which no more is known (the draws); a dict -/
inductive Oc where
  | dead | li (ds : List D) | dr | di (kvs : List (Key × D))
structure Gm where
  sl : List Sl
  om : List Oc
  tn : Nat
/-- a value by data -/
inductive Vl where
  | im (d : D) | ow (k : Nat) | rw (v : V)

open Classical in
noncomputable def cut (S : Addr → Prop) (H : Hp) : Hp := fun b => if S b then none else H b
theorem cut_some {S : Addr → Prop} {H : Hp} {b : Addr} {o : HO} : cut S H b = some o ↔ ¬ S b ∧ H b = some o := by
  unfold cut
  by_cases h : S b
  · rw [if_pos h]
    exact ⟨fun e => (by cases e), fun e => absurd h e.1⟩
  · rw [if_neg h]
    exact ⟨fun e => ⟨h, e⟩, fun e => e.2⟩
theorem cut_sub {S : Addr → Prop} {H : Hp} : Same (cut S H) H := fun _ _ e => (cut_some.mp e).2
theorem cut_mono {S S' : Addr → Prop} {H H' : Hp} (h : ∀ b o, ¬ S b → H b = some o → ¬ S' b ∧ H' b = some o) : Same (cut S H) (cut S' H') := fun b o e => by
  obtain ⟨e1, e2⟩ := cut_some.mp e
  exact cut_some.mpr (h b o e1 e2)

/-- what is out of reach of the data: the callers' owned objects, one's own -/
def ex (own : List Addr) (as : List (Option Addr)) : Addr → Prop := fun b => b ∈ own ∨ some b ∈ as

def KD {K : PySem.W.Frag} {C : Hp} : List (Key × V) → List (Key × D) → Prop := Paired fun p q => p.1 = q.1 ∧ Dd K C p.2 q.2
def OcOk (K : PySem.W.Frag) (C H : Hp) : Option Addr → Oc → Prop
  | none, .dead => True
  | some a, .li ds => ∃ vs, H a = some (.lst vs) ∧ DdA K C vs ds
  | some a, .dr => ∃ ns : List Int, H a = some (.lst (ns.map V.int))
  | some a, .di kvs => ∃ vs, H a = some (.dK vs) ∧ @KD K C vs kvs
  | _, _ => False
def SlOk (K : PySem.W.Frag) (C : Hp) (as : List (Option Addr)) (v : Option (Option V)) : Sl → Prop
  | .un => True
  | .im d => ∃ x, v = some (some x) ∧ Dd K C x d
  | .ow k => ∃ a, v = some (some (.ref a)) ∧ as.getD k none = some a
  | .rw x => v = some (some x)
def VlOk (K : PySem.W.Frag) (C : Hp) (as : List (Option Addr)) (v : V) : Vl → Prop
  | .im d => Dd K C v d
  | .ow k => ∃ a, v = .ref a ∧ as.getD k none = some a
  | .rw x => v = x

/-- own: owned by the callers (T: those that this def may change); H0: the heap at the entry; gs: temporaries; as: the owned objects' places -/
structure Hd (K : PySem.W.Frag) (own T : List Addr) (H0 : Hp) (gs : List (V × D)) (as : List (Option Addr)) (G : Gm) (σ : Sg) (H : Hp) : Prop where
  tt : ∀ b ∈ T, b ∈ own
  tl : T.length = G.tn
  tp : ∀ j a, T[j]? = some a → as.getD j none = some a
  fr : ∀ b o, b ∉ T → H0 b = some o → H b = some o
  al : ∀ b ∈ own, ∃ o, H b = some o
  ol : as.length = G.om.length
  oc : ∀ k, OcOk K (cut (ex own as) H) H (as.getD k none) (G.om.getD k .dead)
  nd : ∀ j k a, as.getD j none = some a → as.getD k none = some a → j = k
  nw : ∀ k a, as.getD k none = some a → a ∈ T ∨ (H0 a = none ∧ a ∉ own)
  sl : ∀ i, SlOk K (cut (ex own as) H) as σ[i]? (G.sl.getD i .un)
  gh : ∀ p ∈ gs, Dd K (cut (ex own as) H) p.1 p.2

theorem mem_as {as : List (Option Addr)} {a : Addr} : some a ∈ as ↔ ∃ k, as.getD k none = some a := by
  constructor
  · intro h
    obtain ⟨k, hk, e⟩ := List.getElem_of_mem h
    exact ⟨k, by rw [List.getD_eq_getElem?_getD, List.getElem?_eq_getElem hk, e]; rfl⟩
  · rintro ⟨k, e⟩
    rw [List.getD_eq_getElem?_getD] at e
    cases h : as[k]? with
    | none => rw [h] at e; cases e
    | some x =>
      rw [h] at e
      have e' : x = some a := e
      subst e'
      exact List.mem_of_getElem? h
theorem OcOk.some_of {K : PySem.W.Frag} {C H : Hp} {a : Addr} {c : Oc} (h : OcOk K C H (some a) c) : ∃ o, H a = some o := by
  cases c with
  | dead => exact h.elim
  | li ds => obtain ⟨vs, e, _⟩ := h; exact ⟨_, e⟩
  | dr => obtain ⟨ns, e⟩ := h; exact ⟨_, e⟩
  | di kvs => obtain ⟨vs, e, _⟩ := h; exact ⟨_, e⟩
theorem KD.mono {K : PySem.W.Frag} {C C' : Hp} (e : Same C C') : ∀ {vs : List (Key × V)} {kvs : List (Key × D)}, @KD K C vs kvs → @KD K C' vs kvs
  | _, _, .nil => .nil
  | _, _, .cons h t => .cons ⟨h.1, h.2.mono e⟩ (KD.mono e t)
theorem OcOk.mono {K : PySem.W.Frag} {C C' H H' : Hp} {oa : Option Addr} {c : Oc} (e : Same C C') (e2 : ∀ a o, oa = some a → H a = some o → H' a = some o) (h : OcOk K C H oa c) : OcOk K C' H' oa c := by
  cases oa with
  | none => cases c <;> exact h
  | some a =>
    cases c with
    | dead => exact h
    | li ds => obtain ⟨vs, h1, h2⟩ := h; exact ⟨vs, e2 a _ rfl h1, h2.mono e⟩
    | dr => obtain ⟨ns, h1⟩ := h; exact ⟨ns, e2 a _ rfl h1⟩
    | di kvs => obtain ⟨vs, h1, h2⟩ := h; exact ⟨vs, e2 a _ rfl h1, KD.mono e h2⟩
theorem SlOk.mono {K : PySem.W.Frag} {C C' : Hp} {as : List (Option Addr)} {v : Option (Option V)} {s : Sl} (e : Same C C') (h : SlOk K C as v s) : SlOk K C' as v s := by
  cases s with
  | un => exact h
  | im d => obtain ⟨x, h1, h2⟩ := h; exact ⟨x, h1, h2.mono e⟩
  | ow k => exact h
  | rw x => exact h
theorem VlOk.mono {K : PySem.W.Frag} {C C' : Hp} {as : List (Option Addr)} {v : V} {s : Vl} (e : Same C C') (h : VlOk K C as v s) : VlOk K C' as v s := by
  cases s with
  | im d => exact Dd.mono e h
  | ow k => exact h
  | rw x => exact h

section
variable {K : PySem.W.Frag} {own T : List Addr} {H0 H H' : Hp} {gs : List (V × D)} {as : List (Option Addr)} {G : Gm} {σ : Sg}
/-- a place that the heap does not know is out of ours -/
theorem Hd.fresh (h : Hd K own T H0 gs as G σ H) {p : Addr} (hp : H p = none) : ¬ ex own as p := by
  rintro (hm | hm)
  · obtain ⟨o, e⟩ := h.al p hm
    rw [hp] at e; cases e
  · obtain ⟨k, e⟩ := mem_as.mp hm
    have q := h.oc k
    rw [e] at q
    obtain ⟨o, e2⟩ := q.some_of
    rw [hp] at e2; cases e2
theorem Hd.fresh0 (h : Hd K own T H0 gs as G σ H) {p : Addr} (hp : H p = none) : H0 p = none := by
  cases e : H0 p with
  | none => rfl
  | some o =>
    by_cases hm : p ∈ T
    · obtain ⟨o', e'⟩ := h.al p (h.tt p hm)
      rw [hp] at e'; cases e'
    · have := h.fr p o hm e
      rw [hp] at this; cases this
/-- the heap grows -/
theorem Hd.grow (h : Hd K own T H0 gs as G σ H) (e : Same H H') : Hd K own T H0 gs as G σ H' := by
  have c : Same (cut (ex own as) H) (cut (ex own as) H') := cut_mono fun b o n q => ⟨n, e b o q⟩
  exact ⟨h.tt, h.tl, h.tp, fun b o n q => e b o (h.fr b o n q), fun b hb => let ⟨o, q⟩ := h.al b hb; ⟨o, e b o q⟩, h.ol, fun k => (h.oc k).mono c fun a o _ q => e a o q, h.nd, h.nw, fun i => (h.sl i).mono c, fun p hp => (h.gh p hp).mono c⟩
theorem Hd.ghost (h : Hd K own T H0 gs as G σ H) {v : V} {d : D} (q : Dd K (cut (ex own as) H) v d) : Hd K own T H0 ((v, d) :: gs) as G σ H :=
  ⟨h.tt, h.tl, h.tp, h.fr, h.al, h.ol, h.oc, h.nd, h.nw, h.sl, fun p hp => (List.mem_cons.mp hp).elim (fun e => by rw [e]; exact q) (h.gh p)⟩
theorem Hd.less {gs' : List (V × D)} (h : Hd K own T H0 gs as G σ H) (q : ∀ p ∈ gs', p ∈ gs) : Hd K own T H0 gs' as G σ H :=
  ⟨h.tt, h.tl, h.tp, h.fr, h.al, h.ol, h.oc, h.nd, h.nw, h.sl, fun p hp => h.gh p (q p hp)⟩
end

/-- a temporary, as a ghost -/
def ghs (v : V) : Vl → List (V × D)
  | .im d => [(v, d)]
  | _ => []
theorem Hd.tmp {K : PySem.W.Frag} {own T : List Addr} {H0 H : Hp} {gs : List (V × D)} {as : List (Option Addr)} {G : Gm} {σ : Sg} {v : V} {x : Vl}
    (h : Hd K own T H0 gs as G σ H) (q : VlOk K (cut (ex own as) H) as v x) : Hd K own T H0 (ghs v x ++ gs) as G σ H := by
  cases x with
  | im d => exact h.ghost q
  | ow k => exact h
  | rw y => exact h
theorem Hd.back {K : PySem.W.Frag} {own T : List Addr} {H0 H H1 : Hp} {gs : List (V × D)} {as : List (Option Addr)} {G : Gm} {σ : Sg} {v : V} {x : Vl}
    (q : VlOk K (cut (ex own as) H1) as v x) (h : Hd K own T H0 (ghs v x ++ gs) as G σ H) : Hd K own T H0 gs as G σ H ∧ VlOk K (cut (ex own as) H) as v x := by
  refine ⟨h.less fun p hp => List.mem_append_right _ hp, ?_⟩
  cases x with
  | im d => exact h.gh (v, d) (List.mem_append_left _ (List.mem_singleton.mpr rfl))
  | ow k => exact q
  | rw y => exact q

/-! ### the judgements -/
/-- an exception: its class, its own attributes -/
abbrev Xz := Value → List (Str × D) → Gm → Prop
def nz : Xz := fun _ _ _ => False
def XdOk (K : PySem.W.Frag) (C H : Hp) : Option Addr → List (Str × D) → Prop
  | none, fs => fs = []
  | some a, fs => fs ≠ [] ∧ ∃ vs : List (Str × V), H a = some (.xd vs) ∧ Paired (fun p q => p.1 = q.1 ∧ Dd K C p.2 q.2) vs fs
def wD (K : PySem.W.Frag) (Z : Xz) (own T : List Addr) (H0 : Hp) (gs : List (V × D)) : WX := fun cls d σ H =>
  ∃ as G fs, Hd K own T H0 gs as G σ H ∧ XdOk K (cut (ex own as) H) H d fs ∧ Z cls fs G
def EQ (K : PySem.W.Frag) (own T : List Addr) (H0 : Hp) (gs : List (V × D)) (as : List (Option Addr)) (σ : Sg) (Q : Vl → Gm → Prop) : VK := fun v H' =>
  ∃ x G', Hd K own T H0 gs as G' σ H' ∧ VlOk K (cut (ex own as) H') as v x ∧ Q x G'
def WE (X : Cx) (Z : Xz) (e : Expr) (G : Gm) (Q : Vl → Gm → Prop) : Prop :=
  ∀ (own T : List Addr) (H0 : Hp) (gs : List (V × D)) (as : List (Option Addr)) (pins : List (Addr × Obj)) (s : Shared) (σ : Sg) (H : Hp),
    Takes X (wD X.K Z own T H0 gs) → Inv X pins σ H s → Hd X.K own T H0 gs as G σ H →
      wpAny (model X.prog X.w) X.A (eval e X.env) (EP X pins σ (EQ X.K own T H0 gs as σ Q)) X.xe s
def TQ (K : PySem.W.Frag) (own T : List Addr) (H0 : Hp) (gs : List (V × D)) (as : List (Option Addr)) (σ : Sg) (Q : Bool → Gm → Prop) : Bool → Hp → Prop := fun b H' =>
  ∃ G', Hd K own T H0 gs as G' σ H' ∧ Q b G'
def WT (X : Cx) (Z : Xz) (e : Expr) (G : Gm) (Q : Bool → Gm → Prop) : Prop :=
  ∀ (own T : List Addr) (H0 : Hp) (gs : List (V × D)) (as : List (Option Addr)) (pins : List (Addr × Obj)) (s : Shared) (σ : Sg) (H : Hp),
    Takes X (wD X.K Z own T H0 gs) → Inv X pins σ H s → Hd X.K own T H0 gs as G σ H →
      wpAny (model X.prog X.w) X.A (isTrue e X.env (eval e X.env)) (TP X pins σ (TQ X.K own T H0 gs as σ Q)) X.xe s
def AQ (K : PySem.W.Frag) (own T : List Addr) (H0 : Hp) (gs : List (V × D)) (as : List (Option Addr)) (σ : Sg) (Q : List Vl → Gm → Prop) : List V → Hp → Prop := fun vs H' =>
  ∃ xs G', Hd K own T H0 gs as G' σ H' ∧ Paired (VlOk K (cut (ex own as) H') as) vs xs ∧ Q xs G'
def WA (X : Cx) (Z : Xz) (es : List Expr) (G : Gm) (Q : List Vl → Gm → Prop) : Prop :=
  ∀ (own T : List Addr) (H0 : Hp) (gs : List (V × D)) (as : List (Option Addr)) (σ : Sg) (H : Hp),
    Takes X (wD X.K Z own T H0 gs) → Hd X.K own T H0 gs as G σ H →
      ∃ t : TA, PA X es t ∧ t σ H (AQ X.K own T H0 gs as σ Q)
/-- what is wanted behind a statement -/
structure En where
  nx : Gm → Prop
  rt : Vl → Gm → Prop
  bk : Gm → Prop := fun _ => False
  ct : Gm → Prop := fun _ => False
def den (K : PySem.W.Frag) (own T : List Addr) (H0 : Hp) (gs : List (V × D)) (E : En) : Ends where
  nx := fun σ' H' => ∃ as' G', Hd K own T H0 gs as' G' σ' H' ∧ E.nx G'
  rt := fun v H' => ∃ as' G' σ' x, Hd K own T H0 gs as' G' σ' H' ∧ VlOk K (cut (ex own as') H') as' v x ∧ E.rt x G'
  bk := fun σ' H' => ∃ as' G', Hd K own T H0 gs as' G' σ' H' ∧ E.bk G'
  ct := fun σ' H' => ∃ as' G', Hd K own T H0 gs as' G' σ' H' ∧ E.ct G'
def WS (X : Cx) (Z : Xz) (st : Stmt) (G : Gm) (E : En) : Prop :=
  ∀ (own T : List Addr) (H0 : Hp) (gs : List (V × D)) (as : List (Option Addr)) (pins : List (Addr × Obj)) (s : Shared) (σ : Sg) (H : Hp),
    Takes X (wD X.K Z own T H0 gs) → PassesOwn (model X.prog X.w) X.A X.env X.xe → Inv X pins σ H s → Hd X.K own T H0 gs as G σ H →
      wpAny (model X.prog X.w) X.A (exec st X.env) (SP X pins (den X.K own T H0 gs E)) X.xe s
def WB (X : Cx) (Z : Xz) (sts : List Stmt) (G : Gm) (E : En) : Prop :=
  ∀ (own T : List Addr) (H0 : Hp) (gs : List (V × D)) (as : List (Option Addr)) (pins : List (Addr × Obj)) (s : Shared) (σ : Sg) (H : Hp),
    Takes X (wD X.K Z own T H0 gs) → PassesOwn (model X.prog X.w) X.A X.env X.xe → Inv X pins σ H s → Hd X.K own T H0 gs as G σ H →
      wpAny (model X.prog X.w) X.A (execs sts X.env) (SP X pins (den X.K own T H0 gs E)) X.xe s

section
variable {X : Cx} {Z : Xz} {e a b : Expr} {G : Gm} {pos : Pos}
/-! ### the readings of what is shown -/
def seE (X : Cx) (e : Expr) : TE := fun σ H Q => ∀ (pins : List (Addr × Obj)) (s : Shared), Inv X pins σ H s → wpAny (model X.prog X.w) X.A (eval e X.env) (EP X pins σ Q) X.xe s
theorem pe_se : PE X e (seE X e) := ⟨fun pins s σ H Q I h => h pins s I⟩
def seT (X : Cx) (e : Expr) : TT := fun σ H Q => ∀ (pins : List (Addr × Obj)) (s : Shared), Inv X pins σ H s → wpAny (model X.prog X.w) X.A (isTrue e X.env (eval e X.env)) (TP X pins σ Q) X.xe s
theorem pt_se : PT X e (seT X e) := ⟨fun pins s σ H Q I h => h pins s I⟩
def seB (X : Cx) (sts : List Stmt) : TS := fun D σ H => ∀ (pins : List (Addr × Obj)) (s : Shared), Inv X pins σ H s → wpAny (model X.prog X.w) X.A (execs sts X.env) (SP X pins D) X.xe s
theorem ps_se {sts : List Stmt} : PSs X sts (seB X sts) := ⟨fun pins s σ H D I h => h pins s I⟩
theorem seE_mono {σ : Sg} {H : Hp} {Q Q' : VK} (h : seE X e σ H Q) (q : ∀ v H', Q v H' → Q' v H') : seE X e σ H Q' := fun pins s I =>
  thn (h pins s I) fun u s' ⟨v, H', I', r, z⟩ => ⟨v, H', I', r, q v H' z⟩
theorem seT_mono {σ : Sg} {H : Hp} {Q Q' : Bool → Hp → Prop} (h : seT X e σ H Q) (q : ∀ v H', Q v H' → Q' v H') : seT X e σ H Q' := fun pins s I =>
  thn (h pins s I) fun u s' ⟨H', I', z⟩ => ⟨H', I', q u H' z⟩
theorem takes_more {own T : List Addr} {H0 : Hp} {gs gs' : List (V × D)} (tk : Takes X (wD X.K Z own T H0 gs)) (h : ∀ p ∈ gs, p ∈ gs') : Takes X (wD X.K Z own T H0 gs') :=
  tk.imp fun cls d σ H ⟨as, G, fs, h1, h2, h3⟩ => ⟨as, G, fs, h1.less h, h2, h3⟩
theorem takes_tmp {own T : List Addr} {H0 : Hp} {gs : List (V × D)} {v : V} {x : Vl} (tk : Takes X (wD X.K Z own T H0 gs)) : Takes X (wD X.K Z own T H0 (ghs v x ++ gs)) :=
  takes_more tk fun _ hp => List.mem_append_right _ hp

/-- from a rule of the layer -/
theorem WE.of {t : TE} {Q : Vl → Gm → Prop} (h : PE X e t) (q : ∀ (own T : List Addr) (H0 : Hp) (gs : List (V × D)) (as : List (Option Addr)) (σ : Sg) (H : Hp),
    Takes X (wD X.K Z own T H0 gs) → Hd X.K own T H0 gs as G σ H → t σ H (EQ X.K own T H0 gs as σ Q)) : WE X Z e G Q :=
  fun own T H0 gs as pins s σ H tk I hd => h.run pins s σ H _ I (q own T H0 gs as σ H tk hd)
theorem WE.se {Q : Vl → Gm → Prop} {own T : List Addr} {H0 : Hp} {gs : List (V × D)} {as : List (Option Addr)} {σ : Sg} {H : Hp} (h : WE X Z e G Q) (tk : Takes X (wD X.K Z own T H0 gs)) (hd : Hd X.K own T H0 gs as G σ H) :
    seE X e σ H (EQ X.K own T H0 gs as σ Q) := fun pins s I => h own T H0 gs as pins s σ H tk I hd
theorem WT.of {t : TT} {Q : Bool → Gm → Prop} (h : PT X e t) (q : ∀ (own T : List Addr) (H0 : Hp) (gs : List (V × D)) (as : List (Option Addr)) (σ : Sg) (H : Hp),
    Takes X (wD X.K Z own T H0 gs) → Hd X.K own T H0 gs as G σ H → t σ H (TQ X.K own T H0 gs as σ Q)) : WT X Z e G Q :=
  fun own T H0 gs as pins s σ H tk I hd => h.run pins s σ H _ I (q own T H0 gs as σ H tk hd)
theorem WT.se {Q : Bool → Gm → Prop} {own T : List Addr} {H0 : Hp} {gs : List (V × D)} {as : List (Option Addr)} {σ : Sg} {H : Hp} (h : WT X Z e G Q) (tk : Takes X (wD X.K Z own T H0 gs)) (hd : Hd X.K own T H0 gs as G σ H) :
    seT X e σ H (TQ X.K own T H0 gs as σ Q) := fun pins s I => h own T H0 gs as pins s σ H tk I hd
theorem WE.mono {Q Q' : Vl → Gm → Prop} (h : WE X Z e G Q) (q : ∀ x G', Q x G' → Q' x G') : WE X Z e G Q' := fun own T H0 gs as pins s σ H tk I hd =>
  thn (h own T H0 gs as pins s σ H tk I hd) fun u s' ⟨v, H', I', r, x, G', h1, h2, h3⟩ => ⟨v, H', I', r, x, G', h1, h2, q x G' h3⟩
theorem WT.mono {Q Q' : Bool → Gm → Prop} (h : WT X Z e G Q) (q : ∀ x G', Q x G' → Q' x G') : WT X Z e G Q' := fun own T H0 gs as pins s σ H tk I hd =>
  thn (h own T H0 gs as pins s σ H tk I hd) fun u s' ⟨H', I', G', h1, h3⟩ => ⟨H', I', G', h1, q u G' h3⟩
/-- two expressions, one behind the other -/
theorem se2 {Q : Vl → Vl → Gm → Prop} {own T : List Addr} {H0 : Hp} {gs : List (V × D)} {as : List (Option Addr)} {σ : Sg} {H : Hp} {R : V → V → Hp → Prop}
    (tk : Takes X (wD X.K Z own T H0 gs)) (hd : Hd X.K own T H0 gs as G σ H) (h : WE X Z a G fun x G1 => WE X Z b G1 fun y G2 => Q x y G2)
    (q : ∀ v w x y G2 H2, Hd X.K own T H0 gs as G2 σ H2 → VlOk X.K (cut (ex own as) H2) as v x → VlOk X.K (cut (ex own as) H2) as w y → Q x y G2 → R v w H2) :
    seE X a σ H fun v H1 => seE X b σ H1 fun w H2 => R v w H2 := by
  refine seE_mono (h.se tk hd) fun v H1 ⟨x, G1, h1, h2, h3⟩ => ?_
  refine seE_mono (h3.se (takes_tmp tk) (h1.tmp h2)) fun w H2 ⟨y, G2, k1, k2, k3⟩ => ?_
  obtain ⟨k1', k4⟩ := Hd.back h2 k1
  exact q v w x y G2 H2 k1' k4 k2 k3
end

/-! ### contents -/
def Oc.data : Oc → D
  | .li ds => .lst ds
  | _ => .non
/-- what a value is worth as it stands -/
def con (G : Gm) : Vl → D
  | .im d => d
  | .ow k => (G.om.getD k .dead).data
  | .rw _ => .non
/-- a value whose datum is known -/
def Kn (G : Gm) : Vl → Prop
  | .im _ => True
  | .ow k => ∃ ds, G.om.getD k .dead = .li ds
  | .rw _ => False
section
variable {K : PySem.W.Frag} {own T : List Addr} {H0 H H' : Hp} {gs : List (V × D)} {as : List (Option Addr)} {G : Gm} {σ : Sg} {v w : V} {x y : Vl}
theorem Hd.li (h : Hd K own T H0 gs as G σ H) {k : Nat} {a : Addr} {ds : List D} (e : as.getD k none = some a) (o : G.om.getD k .dead = .li ds) : ∃ vs, H a = some (.lst vs) ∧ DdA K (cut (ex own as) H) vs ds := by
  have q := h.oc k
  rw [e, o] at q
  exact q
theorem Hd.con (h : Hd K own T H0 gs as G σ H) (q : VlOk K (cut (ex own as) H) as v x) {d : D} (e : con G x = d) (hk : Kn G x) : Dd K H v d := by
  cases x with
  | im d' =>
    have e' : d' = d := e
    rw [← e']
    exact Dd.mono cut_sub q
  | ow k =>
    obtain ⟨a, rfl, e2⟩ := q
    obtain ⟨ds, e3⟩ := hk
    obtain ⟨vs, h1, h2⟩ := h.li e2 e3
    have e' : (G.om.getD k .dead).data = d := e
    rw [e3] at e'
    rw [← e']
    exact .lst h1 (h2.mono cut_sub)
  | rw y => exact hk.elim
end
end DL

namespace DL
open PySem PySem.Spec L2

/-! ### views: a value as it stands, its items among what never changes -/
def Dv (K : PySem.W.Frag) (C H : Hp) (v : V) : D → Prop
  | .lst ds => ∃ a xs, v = .ref a ∧ H a = some (.lst xs) ∧ DdA K C xs ds
  | d => Dd K C v d
/-- the datum of a value -/
def Con (G : Gm) : Vl → D → Prop
  | .im d', d => d' = d
  | .ow k, d => ∃ ds, G.om.getD k .dead = .li ds ∧ D.lst ds = d
  | .rw _, _ => False
section
variable {K : PySem.W.Frag} {own T : List Addr} {H0 H H' C : Hp} {gs : List (V × D)} {as : List (Option Addr)} {G : Gm} {σ : Sg} {v w : V} {x y : Vl} {d : D}
theorem Dd.dv (h : Dd K C v d) (e : Same C H) : Dv K C H v d := by
  cases h with
  | non => exact .non
  | bl b => exact .bl b
  | int i => exact .int i
  | str z => exact .str z
  | lst h hs => exact ⟨_, _, rfl, e _ _ h, hs⟩
  | tup h hs => exact .tup h hs
  | scr h => exact .scr h
theorem Dv.dd (h : Dv K C H v d) (e : Same C H) : Dd K H v d := by
  cases d with
  | lst ds => obtain ⟨a, xs, rfl, h1, h2⟩ := h; exact .lst h1 (h2.mono e)
  | tup ds => exact Dd.mono e h
  | non => exact Dd.mono e h
  | bl b => exact Dd.mono e h
  | int b => exact Dd.mono e h
  | str b => exact Dd.mono e h
  | scr b => exact Dd.mono e h
theorem Hd.dv (h : Hd K own T H0 gs as G σ H) (q : VlOk K (cut (ex own as) H) as v x) (c : Con G x d) : Dv K (cut (ex own as) H) H v d := by
  cases x with
  | im d' =>
    have e' : d' = d := c
    subst e'
    exact Dd.dv q cut_sub
  | ow k =>
    obtain ⟨a, rfl, e2⟩ := q
    obtain ⟨ds, e3, rfl⟩ := c
    obtain ⟨vs, h1, h2⟩ := h.li e2 e3
    exact ⟨a, vs, rfl, h1, h2⟩
  | rw y => exact c.elim
theorem Dv.int {i : Int} (h : Dv K C H v (.int i)) : v = .int i := by cases (show Dd K C v (.int i) from h); rfl
theorem Dv.bl {i : Bool} (h : Dv K C H v (.bl i)) : v = .bl i := by cases (show Dd K C v (.bl i) from h); rfl
theorem Dv.str {i : List Nat} (h : Dv K C H v (.str i)) : v = .str ⟨i.toArray⟩ := by cases (show Dd K C v (.str i) from h); rfl
theorem Dv.tup {ds : List D} (h : Dv K C H v (.tup ds)) : ∃ a xs, v = .ref a ∧ SqT K C a xs ∧ DdA K C xs ds := by
  cases (show Dd K C v (.tup ds) from h) with
  | tup h1 hs => exact ⟨_, _, rfl, h1, hs⟩
theorem DdA.nil_of {xs : List V} {ds : List D} (h : DdA K H xs ds) (e : xs = []) : ds = [] := by
  subst e
  cases h
  rfl
theorem str_app (x y : List Nat) : (⟨x.toArray⟩ : Str) ++ (⟨y.toArray⟩ : Str) = ⟨(x ++ y).toArray⟩ := by
  show (⟨x.toArray ++ y.toArray⟩ : Str) = _
  rw [List.append_toArray]
theorem Dv.non (h : Dv K C H v .non) : v = .non := by cases (show Dd K C v .non from h); rfl

/-! ### ends of a reading -/
variable {Q : Vl → Gm → Prop}
theorem EQ.keep (h : Hd K own T H0 gs as G σ H) (q : Dd K (cut (ex own as) H) v d) (z : Q (.im d) G) : EQ K own T H0 gs as σ Q v H := ⟨.im d, G, h, q, z⟩
theorem EQ.int {i : Int} (h : Hd K own T H0 gs as G σ H) (z : Q (.im (.int i)) G) : EQ K own T H0 gs as σ Q (.int i) H := EQ.keep h (.int i) z
theorem EQ.bl {i : Bool} (h : Hd K own T H0 gs as G σ H) (z : Q (.im (.bl i)) G) : EQ K own T H0 gs as σ Q (.bl i) H := EQ.keep h (.bl i) z
theorem EQ.non (h : Hd K own T H0 gs as G σ H) (z : Q (.im .non) G) : EQ K own T H0 gs as σ Q .non H := EQ.keep h .non z
theorem EQ.str {i : List Nat} (h : Hd K own T H0 gs as G σ H) (z : Q (.im (.str i)) G) : EQ K own T H0 gs as σ Q (.str ⟨i.toArray⟩) H := EQ.keep h (.str i) z
theorem EQ.strS {i : Str} {l : List Nat} (h : Hd K own T H0 gs as G σ H) (e : i = ⟨l.toArray⟩) (z : Q (.im (.str l)) G) : EQ K own T H0 gs as σ Q (.str i) H := by
  rw [e]
  exact EQ.str h z
theorem same_upd {p : Addr} {o : HO} (h : H p = none) : Same H (upd H p o) := fun b x e => by
  rw [upd_ne (ne_of_none e h)]
  exact e
theorem Hd.cutSame (e : Same H H') : Same (cut (ex own as) H) (cut (ex own as) H') := cut_mono fun b o n q => ⟨n, e b o q⟩
theorem Hd.cut_new (h : Hd K own T H0 gs as G σ H) {p : Addr} (hp : H p = none) {o : HO} : cut (ex own as) (upd H p o) p = some o := cut_some.mpr ⟨h.fresh hp, upd_same⟩
theorem EQ.lst {p : Addr} {xs : List V} {ds : List D} (h : Hd K own T H0 gs as G σ H) (hp : H p = none) (q : DdA K (cut (ex own as) H) xs ds) (z : Q (.im (.lst ds)) G) : EQ K own T H0 gs as σ Q (.ref p) (upd H p (.lst xs)) :=
  EQ.keep (h.grow (same_upd hp)) (.lst (h.cut_new hp) (q.mono (Hd.cutSame (same_upd hp)))) z
theorem EQ.tup {p : Addr} {xs : List V} {ds : List D} (h : Hd K own T H0 gs as G σ H) (hp : H p = none) (q : DdA K (cut (ex own as) H) xs ds) (z : Q (.im (.tup ds)) G) : EQ K own T H0 gs as σ Q (.ref p) (upd H p (.tup xs)) :=
  EQ.keep (h.grow (same_upd hp)) (.tup (SqT.of (h.cut_new hp)) (q.mono (Hd.cutSame (same_upd hp)))) z
end

section
variable {X : Cx} {Z : Xz} {e a b : Expr} {G : Gm} {pos : Pos} {Q : Vl → Gm → Prop}
/-! ### names and constants -/
/-- what a slot gives -/
def VlSl (s : Sl) (Q : Vl → Prop) : Prop := match s with
  | .un => False
  | .im d => Q (.im d)
  | .ow k => Q (.ow k)
  | .rw v => Q (.rw v)
theorem we_var (i : Nat) {x : Str} (h : VlSl (G.sl.getD i .un) fun z => Q z G) (hN : X.N[i]? = some x := by rfl) (hv : Vis X.env.scope x := by first | exact Or.inl rfl | exact Or.inr (Or.inl rfl) | exact Or.inr (Or.inr rfl)) (hd : (x == ("__debug__" : Str)) = false := by decide)
    (hcd : (x == ("__classdict__" : Str)) = false := by decide) : WE X Z (.Name x pos) G Q :=
  WE.of (pe_var (i := i) hN hv hd hcd) fun own T H0 gs as σ H tk hh => by
    have q := hh.sl i
    cases e : G.sl.getD i .un with
    | un => rw [e] at h; exact h.elim
    | im d =>
      rw [e] at h q
      obtain ⟨v, e1, e2⟩ := q
      exact ⟨v, e1, .im d, G, hh, e2, h⟩
    | ow k =>
      rw [e] at h q
      obtain ⟨v, e1, e2⟩ := q
      exact ⟨.ref v, e1, .ow k, G, hh, ⟨v, rfl, e2⟩, h⟩
    | rw v =>
      rw [e] at h q
      exact ⟨v, q, .rw v, G, hh, rfl, h⟩
theorem we_int {i j} (h : Q (.im (.int i)) G) : WE X Z (.Constant (.int i) j pos) G Q := WE.of pe_int fun _ _ _ _ _ _ _ _ hh => EQ.int hh h
theorem we_bl {i j} (h : Q (.im (.bl i)) G) : WE X Z (.Constant (.bool i) j pos) G Q := WE.of pe_bl fun _ _ _ _ _ _ _ _ hh => EQ.bl hh h
theorem we_non {j} (h : Q (.im .non) G) : WE X Z (.Constant .none j pos) G Q := WE.of pe_non fun _ _ _ _ _ _ _ _ hh => EQ.non hh h
theorem we_str (l : List Nat) {x j} (h : Q (.im (.str l)) G) (e : x = ⟨l.toArray⟩ := by first | rfl | decide +kernel) : WE X Z (.Constant (.str x) j pos) G Q := WE.of pe_str fun _ _ _ _ _ _ _ _ hh => EQ.strS hh e h
/-- a module's text, its int -/
theorem we_gstr (l : List Nat) {x y : Str} (hm : ∃ t, X.mg x = some (.str y t)) (h : Q (.im (.str l)) G) (e : y = ⟨l.toArray⟩ := by first | rfl | decide +kernel) (hg : Gl X x := by rfl) (hd : (x == ("__debug__" : Str)) = false := by decide) : WE X Z (.Name x pos) G Q := by
  obtain ⟨t, hm⟩ := hm
  exact WE.of (pe_glob (v := .str y) hg hm ⟨_, rfl⟩ hd) fun _ _ _ _ _ _ _ _ hh => EQ.strS hh e h
theorem we_gint {x : Str} {i : Int} (hm : ∃ t, X.mg x = some (.int i t)) (h : Q (.im (.int i)) G) (hg : Gl X x := by rfl) (hd : (x == ("__debug__" : Str)) = false := by decide) : WE X Z (.Name x pos) G Q := by
  obtain ⟨t, hm⟩ := hm
  exact WE.of (pe_glob (v := .int i) hg hm ⟨_, rfl⟩ hd) fun _ _ _ _ _ _ _ _ hh => EQ.int hh h

/-! ### operators -/
theorem dv2 {K : PySem.W.Frag} {own T : List Addr} {H0 H : Hp} {gs : List (V × D)} {as : List (Option Addr)} {σ : Sg} : True := trivial
/-- a op b -/
theorem we_opW {op : Operator} {r : R2} (ho : OpR X (binaryOp op) r) {R : D → D → (D → Prop) → Prop}
    (q : ∀ (own T : List Addr) (H0 : Hp) (gs : List (V × D)) (as : List (Option Addr)) (σ : Sg) (G2 : Gm) (H : Hp) (v w : V) (d f : D), Hd X.K own T H0 gs as G2 σ H → Dv X.K (cut (ex own as) H) H v d → Dv X.K (cut (ex own as) H) H w f →
      R d f (fun z => Q (.im z) G2) → r v w H (EQ X.K own T H0 gs as σ Q))
    (h : WE X Z a G fun x G1 => WE X Z b G1 fun y G2 => ∃ d f, Con G2 x d ∧ Con G2 y f ∧ R d f fun z => Q (.im z) G2) : WE X Z (.BinOp a op b pos) G Q :=
  WE.of (pe_op ho pe_se pe_se) fun own T H0 gs as σ H tk hh => se2 tk hh h fun v w x y G2 H2 h1 h2 h3 ⟨d, f, c1, c2, z⟩ =>
    q own T H0 gs as σ G2 H2 v w d f h1 (h1.dv h2 c1) (h1.dv h3 c2) z
/-- d + e = f -/
inductive AddD : D → D → D → Prop
  | int (i j : Int) : AddD (.int i) (.int j) (.int (i + j))
  | str {x y : List Nat} : x.length + y.length ≤ 100000 → AddD (.str x) (.str y) (.str (x ++ y))
  | lst {x y : List D} : x.length + y.length ≤ 100000 → AddD (.lst x) (.lst y) (.lst (x ++ y))
  | tup {x y : List D} : x.length + y.length ≤ 100000 → AddD (.tup x) (.tup y) (.tup (x ++ y))
theorem sz_le {n : Nat} (h : n ≤ 100000) : n ≤ sizeLine := Nat.le_trans h (by decide)
theorem sz_lt {n : Nat} (h : n ≤ 100000) : n < sizeLine := Nat.lt_of_le_of_lt h (by decide)
theorem we_add (h : WE X Z a G fun x G1 => WE X Z b G1 fun y G2 => ∃ d f, Con G2 x d ∧ Con G2 y f ∧ ∃ z, AddD d f z ∧ Q (.im z) G2) : WE X Z (.BinOp a .Add b pos) G Q :=
  we_opW (R := fun d f k => ∃ z, AddD d f z ∧ k z) (OpR.or op_add (OpR.or op_add_str (OpR.or op_cat op_catA))) (fun own T H0 gs as σ G2 H v w d f hh dv dw ⟨z, ad, q⟩ => by
    cases ad with
    | int i j =>
      refine Or.inl ⟨i, j, dv.int, dw.int, EQ.int hh q⟩
    | str hz =>
      refine Or.inr (Or.inl ⟨_, _, dv.str, dw.str, ?_, ?_⟩)
      · exact sz_le (by simpa [Str.length] using hz)
      · exact EQ.strS hh (str_app _ _) q
    | lst hz =>
      obtain ⟨p, xs, rfl, h1, h2⟩ := dv
      obtain ⟨p', ys, rfl, k1, k2⟩ := dw
      refine Or.inr (Or.inr (Or.inl ⟨p, p', xs, ys, rfl, rfl, h1, k1, sz_le (by rw [h2.length, k2.length]; exact hz), fun t ht => ?_⟩))
      exact EQ.lst hh ht (h2.append k2) q
    | tup hz =>
      obtain ⟨p, xs, rfl, h1, h2⟩ := dv.tup
      obtain ⟨p', ys, rfl, k1, k2⟩ := dw.tup
      refine Or.inr (Or.inr (Or.inr ⟨p, p', xs, ys, rfl, rfl, sqT_mono cut_sub h1, sqT_mono cut_sub k1, sz_le (by rw [h2.length, k2.length]; exact hz), fun e => ?_, fun _ e => ?_, fun _ _ t ht => EQ.tup hh ht (h2.append k2) q⟩))
      · have e' := h2.nil_of e
        subst e'
        exact EQ.keep hh dw q
      · have e' := k2.nil_of e
        subst e'
        refine EQ.keep hh (d := .tup _) dv ?_
        rw [List.append_nil] at q
        exact q) h
/-- d - e -/
theorem we_sub (h : WE X Z a G fun x G1 => WE X Z b G1 fun y G2 => ∃ d f, Con G2 x d ∧ Con G2 y f ∧ ∃ i j, d = .int i ∧ f = .int j ∧ Q (.im (.int (i - j))) G2) : WE X Z (.BinOp a .Sub b pos) G Q :=
  we_opW (R := fun d f k => ∃ i j, d = .int i ∧ f = .int j ∧ k (.int (i - j))) op_sub (fun own T H0 gs as σ G2 H v w d f hh dv dw ⟨i, j, e1, e2, q⟩ => by
    subst e1 e2
    exact ⟨i, j, dv.int, dw.int, EQ.int hh q⟩) h
/-- i % j, i // j, j positive -/
theorem we_mod (h : WE X Z a G fun x G1 => WE X Z b G1 fun y G2 => ∃ d f, Con G2 x d ∧ Con G2 y f ∧ ∃ i j, d = .int i ∧ f = .int j ∧ 0 < j ∧ Q (.im (.int (i % j))) G2) : WE X Z (.BinOp a .Mod b pos) G Q :=
  we_opW (R := fun d f k => ∃ i j, d = .int i ∧ f = .int j ∧ 0 < j ∧ k (.int (i % j))) op_mod (fun own T H0 gs as σ G2 H v w d f hh dv dw ⟨i, j, e1, e2, hj, q⟩ => by
    subst e1 e2
    exact ⟨i, j, dv.int, dw.int, hj, EQ.int hh q⟩) h
theorem we_fdiv (h : WE X Z a G fun x G1 => WE X Z b G1 fun y G2 => ∃ d f, Con G2 x d ∧ Con G2 y f ∧ ∃ i j, d = .int i ∧ f = .int j ∧ (0 < j ∧ j < 1073741824) ∧ Q (.im (.int (i / j))) G2) : WE X Z (.BinOp a .FloorDiv b pos) G Q :=
  we_opW (R := fun d f k => ∃ i j, d = .int i ∧ f = .int j ∧ (0 < j ∧ j < 1073741824) ∧ k (.int (i / j))) op_fdiv (fun own T H0 gs as σ G2 H v w d f hh dv dw ⟨i, j, e1, e2, hj, q⟩ => by
    subst e1 e2
    exact ⟨i, j, dv.int, dw.int, hj, EQ.int hh q⟩) h
theorem we_and (h : WE X Z a G fun x G1 => WE X Z b G1 fun y G2 => ∃ d f, Con G2 x d ∧ Con G2 y f ∧ ∃ i j, d = .int i ∧ f = .int j ∧ Q (.im (.int (Builtin.bitAnd i j))) G2) : WE X Z (.BinOp a .BitAnd b pos) G Q :=
  we_opW (R := fun d f k => ∃ i j, d = .int i ∧ f = .int j ∧ k (.int (Builtin.bitAnd i j))) op_and (fun own T H0 gs as σ G2 H v w d f hh dv dw ⟨i, j, e1, e2, q⟩ => by
    subst e1 e2
    exact ⟨i, j, dv.int, dw.int, EQ.int hh q⟩) h
/-- d * e -/
theorem we_mul (h : WE X Z a G fun x G1 => WE X Z b G1 fun y G2 => ∃ d f, Con G2 x d ∧ Con G2 y f ∧ ∃ i j, d = .int i ∧ f = .int j ∧ CMul i j ∧ Q (.im (.int (i * j))) G2) : WE X Z (.BinOp a .Mult b pos) G Q :=
  we_opW (R := fun d f k => ∃ i j, d = .int i ∧ f = .int j ∧ CMul i j ∧ k (.int (i * j))) op_mul (fun own T H0 gs as σ G2 H v w d f hh dv dw ⟨i, j, e1, e2, hj, q⟩ => by
    subst e1 e2
    exact ⟨i, j, dv.int, dw.int, hj, EQ.int hh q⟩) h
theorem we_neg (h : WE X Z a G fun x G1 => ∃ i, Con G1 x (.int i) ∧ Q (.im (.int (-i))) G1) : WE X Z (.UnaryOp .USub a pos) G Q :=
  WE.of (pe_un un_neg pe_se) fun own T H0 gs as σ H tk hh => seE_mono (h.se tk hh) fun v H1 ⟨x, G1, h1, h2, i, c, q⟩ => ⟨i, (h1.dv h2 c).int, EQ.int h1 q⟩

/-! ### comparisons -/
def D.isN : D → Bool
  | .non => true
  | _ => false
theorem dv_isN {K : PySem.W.Frag} {C H : Hp} {v : V} {d : D} (h : Dv K C H v d) : decide (v = .non) = d.isN := by
  cases d with
  | non => rw [h.non] <;> rfl
  | bl b => rw [h.bl] <;> rfl
  | int b => rw [h.int] <;> rfl
  | str b => rw [h.str] <;> rfl
  | lst b => obtain ⟨a, xs, rfl, _⟩ := h; rfl
  | tup b => obtain ⟨a, xs, rfl, _⟩ := h.tup; rfl
  | scr b => cases (show Dd K C v (.scr b) from h); rfl
/-- what a comparison of data tells -/
inductive CmpD : CmpOp → D → D → Bool → Prop
  | eq {d e : D} : SeqAt.shaped d.py = true → SeqAt.shaped e.py = true → CmpD .Eq d e (PyData.eqv d.py e.py)
  | ne {d e : D} : SeqAt.shaped d.py = true → SeqAt.shaped e.py = true → CmpD .NotEq d e (!PyData.eqv d.py e.py)
  | eqS (a b : List Nat) : CmpD .Eq (.str a) (.str b) (decide (a = b))
  | eqI (a b : Int) : CmpD .Eq (.int a) (.int b) (decide (a = b))
  | eqSN (a : List Nat) : CmpD .Eq (.str a) .non false
  | eqNS (a : List Nat) : CmpD .Eq .non (.str a) false
  | eqNN : CmpD .Eq .non .non true
  | eqB (a b : Bool) : CmpD .Eq (.bl a) (.bl b) (decide (a = b))
  | neB (a b : Bool) : CmpD .NotEq (.bl a) (.bl b) (!decide (a = b))
  | neS (a b : List Nat) : CmpD .NotEq (.str a) (.str b) (!decide (a = b))
  | neI (a b : Int) : CmpD .NotEq (.int a) (.int b) (!decide (a = b))
  | neSN (a : List Nat) : CmpD .NotEq (.str a) .non true
  | neNS (a : List Nat) : CmpD .NotEq .non (.str a) true
  | neNN : CmpD .NotEq .non .non false
  | inS (a : List Nat) (ls : List (List Nat)) : CmpD .In (.str a) (.lst (ls.map .str)) (decide (a ∈ ls))
  | ninS (a : List Nat) (ls : List (List Nat)) : CmpD .NotIn (.str a) (.lst (ls.map .str)) (!decide (a ∈ ls))
  | inST (a : List Nat) (ls : List (List Nat)) : CmpD .In (.str a) (.tup (ls.map .str)) (decide (a ∈ ls))
  | inI (a : Int) (ls : List Int) : CmpD .In (.int a) (.lst (ls.map .int)) (decide (a ∈ ls))
  | ninI (a : Int) (ls : List Int) : CmpD .NotIn (.int a) (.lst (ls.map .int)) (!decide (a ∈ ls))
  | inIT (a : Int) (ls : List Int) : CmpD .In (.int a) (.tup (ls.map .int)) (decide (a ∈ ls))
  | lt (i j : Int) : CmpD .Lt (.int i) (.int j) (decide (i < j))
  | le (i j : Int) : CmpD .LtE (.int i) (.int j) (decide (i ≤ j))
  | gt (i j : Int) : CmpD .Gt (.int i) (.int j) (decide (j < i))
  | ge (i j : Int) : CmpD .GtE (.int i) (.int j) (decide (j ≤ i))
  | inSign (c : Nat) (z : List Nat) : CmpD .In (.str [c]) (.str z) (decide (c ∈ z))
  | ninSign (c : Nat) (z : List Nat) : CmpD .NotIn (.str [c]) (.str z) (!decide (c ∈ z))
  | inL {d : D} {ds : List D} : SeqAt.shaped d.py = true → SeqAt.shaped (D.lst ds).py = true → CmpD .In d (.lst ds) (ds.any fun z => PyData.eqv z.py d.py)
  | ninL {d : D} {ds : List D} : SeqAt.shaped d.py = true → SeqAt.shaped (D.lst ds).py = true → CmpD .NotIn d (.lst ds) (!ds.any fun z => PyData.eqv z.py d.py)
  | isN (d : D) : CmpD .Is d .non d.isN
  | notN (d : D) : CmpD .IsNot d .non (!d.isN)
  | isB (b c : Bool) : CmpD .Is (.bl b) (.bl c) (decide (b = c))
  | notB (b c : Bool) : CmpD .IsNot (.bl b) (.bl c) (!decide (b = c))
theorem str_inj {a b : List Nat} : (V.str ⟨a.toArray⟩ = V.str ⟨b.toArray⟩) ↔ a = b := by
  constructor
  · intro h
    injection h with h
    injection h with h
    simpa using h
  · intro h
    rw [h]
theorem dec_congr {p q : Prop} [Decidable p] [Decidable q] (h : p ↔ q) : decide p = decide q := by
  by_cases z : p
  · rw [decide_eq_true z, decide_eq_true (h.mp z)]
  · rw [decide_eq_false z, decide_eq_false fun w => z (h.mpr w)]
theorem eqV_str {a b : List Nat} : eqV (.str ⟨a.toArray⟩) (.str ⟨b.toArray⟩) = decide (a = b) := by
  show ((⟨a.toArray⟩ : Str) == ⟨b.toArray⟩) = _
  by_cases h : a = b
  · subst h
    simp
  · rw [decide_eq_false h]
    refine beq_eq_false_iff_ne.mpr fun z => h ?_
    injection z with z
    simpa using z
theorem inV_strs (a : List Nat) : ∀ ls : List (List Nat), inV (.str ⟨a.toArray⟩) ((ls.map fun l => (⟨l.toArray⟩ : Str)).map V.str) = decide (a ∈ ls)
  | [] => rfl
  | l :: ls => by
    have ih := inV_strs a ls
    unfold inV at ih ⊢
    rw [List.map_cons, List.map_cons, List.any_cons, ih, eqV_str, Bool.eq_iff_iff]
    simp only [Bool.or_eq_true, decide_eq_true_eq, List.mem_cons]
    constructor
    · rintro (h | h)
      · exact .inl h.symm
      · exact .inr h
    · rintro (h | h)
      · exact .inl h.symm
      · exact .inr h
theorem inV_ints (a : Int) : ∀ ls : List Int, inV (.int a) (ls.map V.int) = decide (a ∈ ls)
  | [] => rfl
  | l :: ls => by
    have ih := inV_ints a ls
    unfold inV at ih ⊢
    rw [List.map_cons, List.any_cons, ih, Bool.eq_iff_iff]
    show ((l == a) || _) = true ↔ _
    simp only [Bool.or_eq_true, beq_iff_eq, decide_eq_true_eq, List.mem_cons]
    constructor
    · rintro (h | h)
      · exact .inl h.symm
      · exact .inr h
    · rintro (h | h)
      · exact .inl h.symm
      · exact .inr h
theorem flat_strs (ls : List Str) : (ls.map V.str).all flatV = true := by
  induction ls with
  | nil => rfl
  | cons a r ih => rw [List.map_cons, List.all_cons, ih] <;> rfl
theorem flat_ints (ls : List Int) : (ls.map V.int).all flatV = true := by
  induction ls with
  | nil => rfl
  | cons a r ih => rw [List.map_cons, List.all_cons, ih] <;> rfl
theorem cmp_rule {op : CmpOp} {k : Nat} (hr : Room k X.A) : ∃ r, OpR X (compareOp op) r ∧ ∀ (H C : Hp) (v w : V) (d f : D) (c : Bool) (Q : VK), Same C H → Dv X.K C H v d → Dv X.K C H w f → CmpD op d f c → Q (.bl c) H → r v w H Q := by
  have hu : X.A.units + 200 < cLine := by have := hr.un; omega
  cases op with
  | Eq => exact ⟨_, OpR.or (op_eqD (by omega)) op_eq, fun H C v w d f c Q e dv dw h q => by
      cases h with
      | eq h1 h2 => exact Or.inl ⟨_, _, (dv.dd e).dp, (dw.dd e).dp, h1, h2, q⟩
      | eqS a b => rw [dv.str, dw.str]; exact Or.inr ⟨rfl, by rw [dec_congr str_inj]; exact q⟩
      | eqI a b => rw [dv.int, dw.int]; exact Or.inr ⟨rfl, by rw [dec_congr (show (V.int a = V.int b) ↔ a = b from ⟨fun z => by injection z, fun z => by rw [z]⟩)]; exact q⟩
      | eqB a b => rw [dv.bl, dw.bl]; exact Or.inr ⟨rfl, by rw [dec_congr (show (V.bl a = V.bl b) ↔ a = b from ⟨fun z => by injection z, fun z => by rw [z]⟩)]; exact q⟩
      | eqSN a => rw [dv.str, dw.non]; exact Or.inr ⟨rfl, q⟩
      | eqNS a => rw [dv.non, dw.str]; exact Or.inr ⟨rfl, q⟩
      | eqNN => rw [dv.non, dw.non]; exact Or.inr ⟨rfl, q⟩⟩
  | NotEq => exact ⟨_, OpR.or (op_neD (by omega)) op_ne, fun H C v w d f c Q e dv dw h q => by
      cases h with
      | ne h1 h2 => exact Or.inl ⟨_, _, (dv.dd e).dp, (dw.dd e).dp, h1, h2, q⟩
      | neS a b => rw [dv.str, dw.str]; exact Or.inr ⟨rfl, by rw [dec_congr str_inj]; exact q⟩
      | neI a b => rw [dv.int, dw.int]; exact Or.inr ⟨rfl, by rw [dec_congr (show (V.int a = V.int b) ↔ a = b from ⟨fun z => by injection z, fun z => by rw [z]⟩)]; exact q⟩
      | neB a b => rw [dv.bl, dw.bl]; exact Or.inr ⟨rfl, by rw [dec_congr (show (V.bl a = V.bl b) ↔ a = b from ⟨fun z => by injection z, fun z => by rw [z]⟩)]; exact q⟩
      | neSN a => rw [dv.str, dw.non]; exact Or.inr ⟨rfl, q⟩
      | neNS a => rw [dv.non, dw.str]; exact Or.inr ⟨rfl, q⟩
      | neNN => rw [dv.non, dw.non]; exact Or.inr ⟨rfl, q⟩⟩
  | Lt => exact ⟨_, op_lt, fun H C v w d f c Q e dv dw h q => by cases h with | lt i j => exact ⟨i, j, dv.int, dw.int, q⟩⟩
  | LtE => exact ⟨_, op_le, fun H C v w d f c Q e dv dw h q => by cases h with | le i j => exact ⟨i, j, dv.int, dw.int, q⟩⟩
  | Gt => exact ⟨_, op_gt, fun H C v w d f c Q e dv dw h q => by cases h with | gt i j => exact ⟨i, j, dv.int, dw.int, q⟩⟩
  | GtE => exact ⟨_, op_ge, fun H C v w d f c Q e dv dw h q => by cases h with | ge i j => exact ⟨i, j, dv.int, dw.int, q⟩⟩
  | In => exact ⟨_, OpR.or op_in_sign (OpR.or (op_inD (by omega)) op_in_seq), fun H C v w d f c Q e dv dw h q => by
      cases h with
      | inSign c z => exact Or.inl ⟨c, _, dv.str, dw.str, by simpa using q⟩
      | inL h1 h2 =>
        refine Or.inr (Or.inl ⟨_, _, (dv.dd e).dp, (dw.dd e).dp, h1, h2, ?_⟩)
        rw [pyA_map, List.any_map]
        exact q
      | inS a ls =>
        obtain ⟨p, xs, rfl, k1, k2⟩ := dw
        rw [k2.str_of] at k1
        rw [dv.str]
        exact Or.inr (Or.inr ⟨p, _, rfl, .inl (SqL.of k1), rfl, flat_strs _, by rw [inV_strs]; exact q⟩)
      | inST a ls =>
        obtain ⟨p, xs, rfl, k1, k2⟩ := dw.tup
        rw [k2.str_of] at k1
        rw [dv.str]
        exact Or.inr (Or.inr ⟨p, _, rfl, .inr (sqT_mono e k1), rfl, flat_strs _, by rw [inV_strs]; exact q⟩)
      | inI a ls =>
        obtain ⟨p, xs, rfl, k1, k2⟩ := dw
        rw [k2.int_of] at k1
        rw [dv.int]
        exact Or.inr (Or.inr ⟨p, _, rfl, .inl (SqL.of k1), rfl, flat_ints _, by rw [inV_ints]; exact q⟩)
      | inIT a ls =>
        obtain ⟨p, xs, rfl, k1, k2⟩ := dw.tup
        rw [k2.int_of] at k1
        rw [dv.int]
        exact Or.inr (Or.inr ⟨p, _, rfl, .inr (sqT_mono e k1), rfl, flat_ints _, by rw [inV_ints]; exact q⟩)⟩
  | NotIn => exact ⟨_, OpR.or op_notIn_sign (OpR.or (op_notInD (by omega)) op_notIn_seq), fun H C v w d f c Q e dv dw h q => by
      cases h with
      | ninSign c z => exact Or.inl ⟨c, _, dv.str, dw.str, by simpa using q⟩
      | ninL h1 h2 =>
        refine Or.inr (Or.inl ⟨_, _, (dv.dd e).dp, (dw.dd e).dp, h1, h2, ?_⟩)
        rw [pyA_map, List.any_map]
        exact q
      | ninS a ls =>
        obtain ⟨p, xs, rfl, k1, k2⟩ := dw
        rw [k2.str_of] at k1
        rw [dv.str]
        exact Or.inr (Or.inr ⟨p, _, rfl, .inl (SqL.of k1), rfl, flat_strs _, by rw [inV_strs]; exact q⟩)
      | ninI a ls =>
        obtain ⟨p, xs, rfl, k1, k2⟩ := dw
        rw [k2.int_of] at k1
        rw [dv.int]
        exact Or.inr (Or.inr ⟨p, _, rfl, .inl (SqL.of k1), rfl, flat_ints _, by rw [inV_ints]; exact q⟩)⟩
  | Is => exact ⟨_, OpR.or op_isN op_isBl, fun H C v w d f c Q e dv dw h q => by
      cases h with
      | isN d =>
        refine Or.inl ⟨dw.non, ?_⟩
        rw [dv_isN dv]
        exact q
      | isB b c => exact Or.inr ⟨b, c, dv.bl, dw.bl, q⟩⟩
  | IsNot => exact ⟨_, OpR.or op_notN op_notBl, fun H C v w d f c Q e dv dw h q => by
      cases h with
      | notN d =>
        refine Or.inl ⟨dw.non, ?_⟩
        rw [dv_isN dv]
        exact q
      | notB b c => exact Or.inr ⟨b, c, dv.bl, dw.bl, q⟩⟩
theorem we_cmp {op : CmpOp} {k : Nat} (hr : Room k X.A) (h : WE X Z a G fun x G1 => WE X Z b G1 fun y G2 => ∃ d f, Con G2 x d ∧ Con G2 y f ∧ ∃ c, CmpD op d f c ∧ Q (.im (.bl c)) G2) (hm : behindInMarks op b = false := by first | rfl | exact nomark _) : WE X Z (.Compare a [op] [b] pos) G Q := by
  obtain ⟨r, ho, hq⟩ := cmp_rule (op := op) hr
  exact WE.of (pe_cmpR ho pe_se pe_se hm) fun own T H0 gs as σ H tk hh => se2 tk hh h fun v w x y G2 H2 h1 h2 h3 ⟨d, f, c1, c2, c, hc, q⟩ =>
    hq H2 _ v w d f c _ cut_sub (h1.dv h2 c1) (h1.dv h3 c2) hc (EQ.bl h1 q)
theorem wt_cmp {op : CmpOp} {k : Nat} {Q : Bool → Gm → Prop} (hr : Room k X.A) (h : WE X Z a G fun x G1 => WE X Z b G1 fun y G2 => ∃ d f, Con G2 x d ∧ Con G2 y f ∧ ∃ c, CmpD op d f c ∧ Q c G2) (hm : behindInMarks op b = false := by first | rfl | exact nomark _) : WT X Z (.Compare a [op] [b] pos) G Q := by
  obtain ⟨r, ho, hq⟩ := cmp_rule (op := op) hr
  exact WT.of (pt_cmpR ho pe_se pe_se hm) fun own T H0 gs as σ H tk hh => se2 tk hh h fun v w x y G2 H2 h1 h2 h3 ⟨d, f, c1, c2, c, hc, q⟩ =>
    hq H2 _ v w d f c _ cut_sub (h1.dv h2 c1) (h1.dv h3 c2) hc ⟨c, rfl, G2, h1, q⟩
/-- a op b op' c, ints -/
theorem wt_chain {op op' : CmpOp} {c : Expr} {k : Nat} {Q : Bool → Gm → Prop} (hr : Room k X.A) (h : WE X Z a G fun x G1 => WE X Z b G1 fun y G2 => ∃ d f, Con G2 x d ∧ Con G2 y f ∧ ∃ t, CmpD op d f t ∧
      (t = true → WE X Z c G2 fun z G3 => ∃ f' g, Con G3 y f' ∧ Con G3 z g ∧ ∃ t', CmpD op' f' g t' ∧ Q t' G3) ∧ (t = false → Q false G2)) (hm : lastMarks [op, op'] [b, c] = false := by with_unfolding_all rfl) : WT X Z (.Compare a [op, op'] [b, c] pos) G Q := by
  obtain ⟨r, ho, hq⟩ := cmp_rule (op := op) hr
  obtain ⟨r', ho', hq'⟩ := cmp_rule (op := op') hr
  refine WT.of (pt_chain ho ho' pe_se pe_se pe_se hm) fun own T H0 gs as σ H tk hh => se2 tk hh h fun v w x y G2 H2 h1 h2 h3 ⟨d, f, c1, c2, t, hc, q1, q2⟩ => ?_
  refine hq H2 _ v w d f t _ cut_sub (h1.dv h2 c1) (h1.dv h3 c2) hc ⟨t, rfl, ?_⟩
  cases t with
  | true =>
    rw [if_pos rfl]
    refine seE_mono ((q1 rfl).se (takes_tmp tk) (h1.tmp h3)) fun u H3 ⟨z, G3, k1, k2, f', g, e1, e2, t', hc', q⟩ => ?_
    obtain ⟨k1', k4⟩ := Hd.back h3 k1
    exact hq' H3 _ w u f' g t' _ cut_sub (k1'.dv k4 e1) (k1'.dv k2 e2) hc' ⟨t', rfl, G3, k1', q⟩
  | false =>
    rw [if_neg Bool.false_ne_true]
    exact ⟨false, rfl, G2, h1, q2 rfl⟩
theorem we_chain {op op' : CmpOp} {c : Expr} {k : Nat} (hr : Room k X.A) (h : WE X Z a G fun x G1 => WE X Z b G1 fun y G2 => ∃ d f, Con G2 x d ∧ Con G2 y f ∧ ∃ t, CmpD op d f t ∧
      (t = true → WE X Z c G2 fun z G3 => ∃ f' g, Con G3 y f' ∧ Con G3 z g ∧ ∃ t', CmpD op' f' g t' ∧ Q (.im (.bl t')) G3) ∧ (t = false → Q (.im (.bl false)) G2)) (hm : lastMarks [op, op'] [b, c] = false := by with_unfolding_all rfl) : WE X Z (.Compare a [op, op'] [b, c] pos) G Q := by
  obtain ⟨r, ho, hq⟩ := cmp_rule (op := op) hr
  obtain ⟨r', ho', hq'⟩ := cmp_rule (op := op') hr
  refine WE.of (pe_chain ho ho' pe_se pe_se pe_se hm) fun own T H0 gs as σ H tk hh => se2 tk hh h fun v w x y G2 H2 h1 h2 h3 ⟨d, f, c1, c2, t, hc, q1, q2⟩ => ?_
  refine hq H2 _ v w d f t _ cut_sub (h1.dv h2 c1) (h1.dv h3 c2) hc ⟨t, rfl, ?_⟩
  cases t with
  | true =>
    rw [if_pos rfl]
    refine seE_mono ((q1 rfl).se (takes_tmp tk) (h1.tmp h3)) fun u H3 ⟨z, G3, k1, k2, f', g, e1, e2, t', hc', q⟩ => ?_
    obtain ⟨k1', k4⟩ := Hd.back h3 k1
    exact hq' H3 _ w u f' g t' _ cut_sub (k1'.dv k4 e1) (k1'.dv k2 e2) hc' (EQ.bl k1' q)
  | false =>
    rw [if_neg Bool.false_ne_true]
    exact EQ.bl h1 (q2 rfl)

/-! ### truth, not, and, or -/
/-- the truth of a datum -/
def D.tru : D → Bool
  | .non => false
  | .bl b => b
  | .int i => i != 0
  | .str x => !x.isEmpty
  | .lst ds => !ds.isEmpty
  | .tup ds => !ds.isEmpty
  | .scr ns => !ns.isEmpty
/-- texts that are not too long for the machine -/
def D.few : D → Prop
  | .str x => x.length ≤ 100000
  | _ => True
theorem emp_iff {vs : List V} {ds : List D} {K : PySem.W.Frag} {C : Hp} (h : DdA K C vs ds) : (!vs.isEmpty) = !ds.isEmpty := by
  cases h <;> rfl
theorem tru_dv {K : PySem.W.Frag} {C H : Hp} {v : V} {d : D} (h : Dv K C H v d) (e : Same C H) (hf : d.few) : TruV K v H d.tru := by
  cases d with
  | non => rw [h.non] <;> rfl
  | bl b => rw [h.bl] <;> rfl
  | int b => rw [h.int] <;> rfl
  | str b =>
    rw [h.str]
    have hf' : b.length ≤ 100000 := hf
    refine ⟨sz_le (by simpa [Str.length] using hf'), ?_⟩
    cases b <;> simp [D.tru, Str.length] <;> omega
  | lst b =>
    obtain ⟨a, xs, rfl, h1, h2⟩ := h
    exact Or.inl ⟨xs, SqL.of h1, (emp_iff h2).symm⟩
  | tup b =>
    obtain ⟨a, xs, rfl, h1, h2⟩ := h.tup
    exact Or.inr (Or.inl ⟨xs, sqT_mono e h1, (emp_iff h2).symm⟩)
  | scr b =>
    cases (show Dd K C v (.scr b) from h) with
    | scr h1 => exact Or.inl ⟨_, e.seq h1, by cases b <;> rfl⟩
/-- an expression's value as a test -/
theorem wt_tru {Q : Bool → Gm → Prop} (h : WE X Z a G fun x G1 => ∃ d, Con G1 x d ∧ d.few ∧ Q d.tru G1) (he : ∀ whole, isTrue a X.env whole = (do let v ← whole; standAt a.pos; holding [v] (truthy v)) := by intro _; rfl) : WT X Z a G Q :=
  WT.of (pt_truth pe_se he) fun own T H0 gs as σ H tk hh => seE_mono (h.se tk hh) fun v H1 ⟨x, G1, h1, h2, d, c, hf, q⟩ =>
    ⟨d.tru, tru_dv (h1.dv h2 c) cut_sub hf, G1, h1, q⟩
theorem wt_not {Q : Bool → Gm → Prop} (h : WT X Z a G fun c G1 => Q (!c) G1) : WT X Z (.UnaryOp .Not a pos) G Q :=
  WT.of (pt_not pt_se) fun own T H0 gs as σ H tk hh => seT_mono (h.se tk hh) fun c H1 ⟨G1, h1, q⟩ => ⟨G1, h1, q⟩
theorem wt_and {Q : Bool → Gm → Prop} (h : WT X Z a G fun c G1 => (c = true → WT X Z b G1 Q) ∧ (c = false → Q false G1)) : WT X Z (.BoolOp .And [a, b] pos) G Q :=
  WT.of (PW.pt (pw_and pt_se (pw_and1 pt_se))) fun own T H0 gs as σ H tk hh => seT_mono (h.se tk hh) fun c H1 ⟨G1, h1, q1, q2⟩ => by
    cases c with
    | true => rw [if_pos rfl]; exact (q1 rfl).se tk h1
    | false => rw [if_neg Bool.false_ne_true]; exact ⟨G1, h1, q2 rfl⟩
theorem wt_or {Q : Bool → Gm → Prop} (h : WT X Z a G fun c G1 => (c = true → Q true G1) ∧ (c = false → WT X Z b G1 Q)) : WT X Z (.BoolOp .Or [a, b] pos) G Q :=
  WT.of (PW.pt (pw_or pt_se (pw_or1 pt_se))) fun own T H0 gs as σ H tk hh => seT_mono (h.se tk hh) fun c H1 ⟨G1, h1, q1, q2⟩ => by
    cases c with
    | true => rw [if_pos rfl]; exact ⟨G1, h1, q1 rfl⟩
    | false => rw [if_neg Bool.false_ne_true]; exact (q2 rfl).se tk h1
end
end DL

namespace DL
open PySem PySem.Spec L2

section
variable {X : Cx} {Z : Xz} {e a b : Expr} {es : List Expr} {G : Gm} {pos : Pos} {Q : Vl → Gm → Prop}
/-! ### argument lists -/
def seA (X : Cx) (es : List Expr) : TA := fun σ H Q => ∀ (pos : Pos) (pins : List (Addr × Obj)) (s : Shared), Inv X pins σ H s → wpAny (model X.prog X.w) X.A (spliced (backTo pos (starEach es X.env))) (AP X pins σ Q) X.xe s
theorem pa_se : PA X es (seA X es) := ⟨fun pos pins s σ H Q I h => h pos pins s I⟩
theorem seA_mono {σ : Sg} {H : Hp} {Q Q' : List V → Hp → Prop} (h : seA X es σ H Q) (q : ∀ v H', Q v H' → Q' v H') : seA X es σ H Q' := fun pos pins s I =>
  thn (h pos pins s I) fun u s' ⟨v, H', I', r, z⟩ => ⟨v, H', I', r, q v H' z⟩
/-- the arguments, from the left; what is known of them at the end -/
def WL (X : Cx) (Z : Xz) (es : List Expr) (G : Gm) (Q : List Vl → Gm → Prop) : Prop :=
  ∀ (own T : List Addr) (H0 : Hp) (gs : List (V × D)) (as : List (Option Addr)) (σ : Sg) (H : Hp),
    Takes X (wD X.K Z own T H0 gs) → Hd X.K own T H0 gs as G σ H → seA X es σ H (AQ X.K own T H0 gs as σ Q)
theorem wl_nil {Q : List Vl → Gm → Prop} (h : Q [] G) : WL X Z [] G Q := fun own T H0 gs as σ H tk hh pos pins s I =>
  pa_nil.run pos pins s σ H _ I ⟨[], G, hh, .nil, h⟩
theorem wl_cons {Q : List Vl → Gm → Prop} (h : WE X Z e G fun x G1 => WL X Z es G1 fun xs G2 => Q (x :: xs) G2) (hs : starEach (e :: es) X.env = (false, eval e X.env) :: starEach es X.env := by rfl) : WL X Z (e :: es) G Q :=
  fun own T H0 gs as σ H tk hh pos pins s I => by
    refine (pa_cons pe_se pa_se hs).run pos pins s σ H _ I ?_
    refine seE_mono (h.se tk hh) fun v H1 ⟨x, G1, h1, h2, h3⟩ => ?_
    refine seA_mono (h3 own T H0 _ as σ H1 (takes_tmp (v := v) (x := x) tk) (h1.tmp h2)) fun vs H2 ⟨xs, G2, k1, k2, k3⟩ => ?_
    obtain ⟨k1', k4⟩ := Hd.back h2 k1
    exact ⟨x :: xs, G2, k1', .cons k4 k2, k3⟩
/-- several values, their data -/
def ConA (G : Gm) : List Vl → List D → Prop
  | [], ds => ds = []
  | x :: xs, ds => ∃ d r, Con G x d ∧ ConA G xs r ∧ ds = d :: r
def DvA (K : PySem.W.Frag) (C H : Hp) : List V → List D → Prop
  | [], ds => ds = []
  | v :: vs, ds => ∃ d r, ds = d :: r ∧ Dv K C H v d ∧ DvA K C H vs r
theorem Hd.dvA {K : PySem.W.Frag} {own T : List Addr} {H0 H : Hp} {gs : List (V × D)} {as : List (Option Addr)} {σ : Sg} (h : Hd K own T H0 gs as G σ H) :
    ∀ {vs : List V} {xs : List Vl} {ds : List D}, Paired (VlOk K (cut (ex own as) H) as) vs xs → ConA G xs ds → DvA K (cut (ex own as) H) H vs ds
  | _, _, _, .nil, c => c
  | _, _, _, .cons q t, ⟨d, r, c1, c2, e⟩ => ⟨d, r, e, h.dv q c1, Hd.dvA h t c2⟩
/-- values that never change -/
def ImA : List Vl → List D → Prop
  | [], ds => ds = []
  | x :: xs, ds => ∃ d r, x = .im d ∧ ImA xs r ∧ ds = d :: r
theorem im_dd {K : PySem.W.Frag} {C : Hp} {as : List (Option Addr)} : ∀ {vs : List V} {xs : List Vl} {ds : List D}, Paired (VlOk K C as) vs xs → ImA xs ds → DdA K C vs ds
  | _, _, _, .nil, c => by rw [show _ = [] from c]; exact .nil
  | _, _, _, .cons q t, ⟨d, r, e1, c2, e⟩ => by
    subst e1 e
    exact .cons q (im_dd t c2)

/-! ### displays -/
theorem we_tup {x1} (h : WL X Z es G fun xs G1 => ∃ ds, ImA xs ds ∧ ds.length ≤ 100000 ∧ Q (.im (.tup ds)) G1) : WE X Z (.Tuple es x1 pos) G Q :=
  WE.of (pe_tup pa_se) fun own T H0 gs as σ H tk hh => seA_mono (h own T H0 gs as σ H tk hh) fun vs H1 ⟨xs, G1, h1, h2, ds, c, hz, q⟩ => by
    have hd := im_dd h2 c
    exact ⟨sz_le (by rw [hd.length]; exact hz), fun p hp => EQ.tup h1 hp hd q⟩
theorem we_lst (h : WL X Z es G fun xs G1 => ∃ ds, ImA xs ds ∧ ds.length ≤ 100000 ∧ Q (.im (.lst ds)) G1) : WE X Z (.List es pos) G Q :=
  WE.of (pe_lst pa_se) fun own T H0 gs as σ H tk hh => seA_mono (h own T H0 gs as σ H tk hh) fun vs H1 ⟨xs, G1, h1, h2, ds, c, hz, q⟩ => by
    have hd := im_dd h2 c
    exact ⟨sz_le (by rw [hd.length]; exact hz), fun p hp => EQ.lst h1 hp hd q⟩

/-! ### subscripts, slices -/
/-- d[i] = f -/
inductive IxD : D → D → D → Prop
  | lst {ds : List D} {i : Int} {f : D} : atI ds i = some f → IxD (.lst ds) (.int i) f
  | tup {ds : List D} {i : Int} {f : D} : atI ds i = some f → IxD (.tup ds) (.int i) f
  | str {x : List Nat} {i : Int} {c : Nat} : x.length ≤ 100000 → atI x i = some c → IxD (.str x) (.int i) (.str [c])
theorem atI_dd {K : PySem.W.Frag} {C : Hp} {vs : List V} {ds : List D} {i : Int} {f : D} (h : DdA K C vs ds) (e : atI ds i = some f) : ∃ v, atI vs i = some v ∧ Dd K C v f := by
  unfold atI at e ⊢
  rw [h.length]
  cases q : ixN ds.length i with
  | none => rw [q] at e; cases e
  | some j =>
    rw [q] at e
    exact h.get e
theorem we_ix (h : WE X Z a G fun x G1 => WE X Z b G1 fun y G2 => ∃ d f, Con G2 x d ∧ Con G2 y f ∧ ∃ z, IxD d f z ∧ Q (.im z) G2) (hs : PlainIx b := by intro _ _; rfl) : WE X Z (.Subscript a b pos) G Q :=
  WE.of (pe_ix ix_seq pe_se pe_se hs) fun own T H0 gs as σ H tk hh => se2 tk hh h fun v w x y G2 H2 h1 h2 h3 ⟨d, f, c1, c2, z, hz, q⟩ => by
    have dv := h1.dv h2 c1
    have dw := h1.dv h3 c2
    cases hz with
    | lst e =>
      obtain ⟨p, xs, rfl, k1, k2⟩ := dv
      obtain ⟨u, e1, e2⟩ := atI_dd k2 e
      exact Or.inl ⟨p, xs, _, u, rfl, dw.int, SqL.of k1, e1, EQ.keep h1 e2 q⟩
    | tup e =>
      obtain ⟨p, xs, rfl, k1, k2⟩ := dv.tup
      obtain ⟨u, e1, e2⟩ := atI_dd k2 e
      exact Or.inr (Or.inl ⟨p, xs, _, u, rfl, dw.int, sqT_mono cut_sub k1, e1, EQ.keep h1 e2 q⟩)
    | str hz e =>
      refine Or.inr (Or.inr ⟨_, _, _, dv.str, dw.int, sz_le (by simpa [Str.length] using hz), by simpa using e, ?_⟩)
      exact EQ.strS h1 rfl q
/-- part of a slice -/
def WP (X : Cx) (Z : Xz) (o : Option Expr) (G : Gm) (Q : Option Int → Gm → Prop) : Prop := match o with
  | none => Q none G
  | some e => WE X Z e G fun x G1 => ∃ i, Con G1 x (.int i) ∧ Q (some i) G1
theorem wp_none {Q : Option Int → Gm → Prop} (h : Q none G) : WP X Z none G Q := h
theorem wp_some {Q : Option Int → Gm → Prop} (h : WE X Z e G fun x G1 => ∃ i, Con G1 x (.int i) ∧ Q (some i) G1) : WP X Z (some e) G Q := h
def toP (X : Cx) (o : Option Expr) : TO := match o with
  | none => tNoPart
  | some e => tPart (seE X e)
theorem po_se : ∀ o : Option Expr, PO X o (toP X o)
  | none => po_none
  | some e => po_some pe_se
theorem toP_of {o : Option Expr} {Q : Option Int → Gm → Prop} {own T : List Addr} {H0 : Hp} {gs : List (V × D)} {as : List (Option Addr)} {σ : Sg} {H : Hp} {R : Option Int → Hp → Prop} (h : WP X Z o G Q) (tk : Takes X (wD X.K Z own T H0 gs)) (hd : Hd X.K own T H0 gs as G σ H)
    (q : ∀ i G1 H1, Hd X.K own T H0 gs as G1 σ H1 → Q i G1 → R i H1) : toP X o σ H R := by
  cases o with
  | none => exact q none G H hd h
  | some e => exact seE_mono (WE.se h tk hd) fun v H1 ⟨x, G1, h1, h2, i, c, z⟩ => ⟨i, (h1.dv h2 c).int, q _ G1 H1 h1 z⟩
/-- xs[lo:hi] -/
def cutL {α : Type} (xs : List α) (lo hi : Option Int) : List α := (xs.drop (HT.sIx xs.length 0 lo)).take (HT.sIx xs.length xs.length hi - HT.sIx xs.length 0 lo)
theorem cutL_dd {K : PySem.W.Frag} {C : Hp} {vs : List V} {ds : List D} (h : DdA K C vs ds) (lo hi : Option Int) : DdA K C (cutV vs lo hi) (cutL ds lo hi) := by
  unfold cutV cutL
  rw [h.length]
  exact (h.drop _).take _
theorem cutL_whole {α : Type} (xs : List α) {lo hi : Option Int} (h : HT.sIx xs.length 0 lo = 0 ∧ HT.sIx xs.length xs.length hi = xs.length) : cutL xs lo hi = xs := by
  unfold cutL
  rw [h.1, h.2, Nat.sub_zero, List.drop_zero, List.take_length]
inductive SlD : D → Option Int → Option Int → D → Prop
  | str {x : List Nat} {lo hi : Option Int} : x.length ≤ 100000 → SlD (.str x) lo hi (.str (cutL x lo hi))
  | lst {x : List D} {lo hi : Option Int} : SlD (.lst x) lo hi (.lst (cutL x lo hi))
  | tup {x : List D} {lo hi : Option Int} : SlD (.tup x) lo hi (.tup (cutL x lo hi))
theorem we_slice {lo hi : Option Expr} {p2 : Pos} (h : WE X Z a G fun x G1 => WP X Z lo G1 fun i G2 => WP X Z hi G2 fun j G3 => ∃ d f, Con G3 x d ∧ SlD d i j f ∧ Q (.im f) G3) : WE X Z (.Subscript a (.Slice lo hi none p2) pos) G Q :=
  WE.of (pe_slice (SlR.or sl_str (SlR.or sl_list sl_tupA)) pe_se (po_se lo) (po_se hi)) fun own T H0 gs as σ H tk hh => seE_mono (h.se tk hh) fun v H1 ⟨x, G1, h1, h2, h3⟩ => by
    refine toP_of h3 (takes_tmp (v := v) (x := x) tk) (h1.tmp h2) fun i G2 H2 k1 k3 => ?_
    refine toP_of k3 (takes_tmp (v := v) (x := x) tk) k1 fun j G3 H3 m1 ⟨d, f, c, sd, q⟩ => ?_
    obtain ⟨m1', m4⟩ := Hd.back h2 m1
    have dv := m1'.dv m4 c
    cases sd with
    | str hz =>
      refine Or.inl ⟨_, dv.str, sz_le (by simpa [Str.length] using hz), EQ.strS m1' ?_ q⟩
      unfold cutS cutL
      simp [Str.length]
    | lst =>
      obtain ⟨p, xs, rfl, e1, e2⟩ := dv
      exact Or.inr (Or.inl ⟨p, xs, rfl, SqL.of e1, fun t ht => EQ.lst m1' ht (cutL_dd e2 i j) q⟩)
    | tup =>
      obtain ⟨p, xs, e0, e1, e2⟩ := dv.tup
      subst e0
      refine Or.inr (Or.inr ⟨p, xs, rfl, sqT_mono cut_sub e1, fun hw => ?_, fun hw t ht => EQ.tup m1' ht (cutL_dd e2 i j) q⟩)
      rw [e2.length] at hw
      rw [cutL_whole _ hw] at q
      exact EQ.keep m1' (d := .tup _) dv q

/-! ### calls of what is built in, by data -/
/-- f(..) of a built-in function -/
theorem we_bfn {id : String} {x : Str} {p : Pos} {r : List V → Hp → VK → Prop} (hc : CallR X (.builtin id) r) (hm : X.mg x = none) {R : List D → (D → Prop) → Prop}
    (q : ∀ (own T : List Addr) (H0 : Hp) (gs : List (V × D)) (as : List (Option Addr)) (σ : Sg) (G2 : Gm) (H : Hp) (vs : List V) (ds : List D), Hd X.K own T H0 gs as G2 σ H → DvA X.K (cut (ex own as) H) H vs ds →
      R ds (fun z => Q (.im z) G2) → r vs H (EQ X.K own T H0 gs as σ Q))
    (h : WL X Z (e :: es) G fun xs G1 => ∃ ds, ConA G1 xs ds ∧ R ds fun z => Q (.im z) G1) (hg : Gl X x := by rfl) (hv : bootBuiltins x = some (.builtin id) := by decide +kernel) (hn : x ≠ "__name__" := by decide) (hdb : (x == ("__debug__" : Str)) = false := by decide)
    (he : starEach (e :: es) X.env = (false, eval e X.env) :: starEach es X.env := by rfl) (hpl : (backTo pos (starEach es X.env)).any (·.1) = false := by rfl) : WE X Z (.Call (.Name x p) (e :: es) [] pos) G Q :=
  WE.of (pe_callB hc hg hm hv pa_se hn hdb he hpl) fun own T H0 gs as σ H tk hh => seA_mono (h own T H0 gs as σ H tk hh) fun vs H1 ⟨xs, G1, h1, h2, ds, c, z⟩ =>
    q own T H0 gs as σ G1 H1 vs ds h1 (h1.dvA h2 c) z
theorem we_bty {id : String} {x : Str} {p : Pos} {r : List V → Hp → VK → Prop} (hc : CallR X (.type id) r) (hm : X.mg x = none) {R : List D → (D → Prop) → Prop}
    (q : ∀ (own T : List Addr) (H0 : Hp) (gs : List (V × D)) (as : List (Option Addr)) (σ : Sg) (G2 : Gm) (H : Hp) (vs : List V) (ds : List D), Hd X.K own T H0 gs as G2 σ H → DvA X.K (cut (ex own as) H) H vs ds →
      R ds (fun z => Q (.im z) G2) → r vs H (EQ X.K own T H0 gs as σ Q))
    (h : WL X Z (e :: es) G fun xs G1 => ∃ ds, ConA G1 xs ds ∧ R ds fun z => Q (.im z) G1) (hg : Gl X x := by rfl) (hv : bootBuiltins x = some (.type id) := by decide +kernel) (hn : x ≠ "__name__" := by decide) (hdb : (x == ("__debug__" : Str)) = false := by decide)
    (he : starEach (e :: es) X.env = (false, eval e X.env) :: starEach es X.env := by rfl) (hpl : (backTo pos (starEach es X.env)).any (·.1) = false := by rfl) : WE X Z (.Call (.Name x p) (e :: es) [] pos) G Q :=
  WE.of (pe_callTy hc hg hm hv pa_se hn hdb he hpl) fun own T H0 gs as σ H tk hh => seA_mono (h own T H0 gs as σ H tk hh) fun vs H1 ⟨xs, G1, h1, h2, ds, c, z⟩ =>
    q own T H0 gs as σ G1 H1 vs ds h1 (h1.dvA h2 c) z
theorem DvA.one {K : PySem.W.Frag} {C H : Hp} {vs : List V} {d : D} (h : DvA K C H vs [d]) : ∃ v, vs = [v] ∧ Dv K C H v d := by
  cases vs with
  | nil => cases (show [d] = [] from h)
  | cons v r =>
    obtain ⟨d', r', e, h1, h2⟩ := h
    cases e
    cases r with
    | nil => exact ⟨v, rfl, h1⟩
    | cons w t => obtain ⟨_, _, e, _⟩ := h2; cases e
theorem DvA.two {K : PySem.W.Frag} {C H : Hp} {vs : List V} {d f : D} (h : DvA K C H vs [d, f]) : ∃ v w, vs = [v, w] ∧ Dv K C H v d ∧ Dv K C H w f := by
  cases vs with
  | nil => cases (show [d, f] = [] from h)
  | cons v r =>
    obtain ⟨d', r', e, h1, h2⟩ := h
    cases e
    obtain ⟨w, rfl, h3⟩ := h2.one
    exact ⟨v, w, rfl, h1, h3⟩
/-- how long -/
inductive LenD : D → Nat → Prop
  | str {x : List Nat} : x.length ≤ 100000 → LenD (.str x) x.length
  | lst (ds : List D) : LenD (.lst ds) ds.length
  | tup (ds : List D) : LenD (.tup ds) ds.length
theorem we_len {p : Pos} (hm : X.mg "len" = none) (h : WE X Z e G fun x G1 => ∃ d, Con G1 x d ∧ ∃ n, LenD d n ∧ Q (.im (.int (n : Int))) G1) (hg : Gl X "len" := by rfl)
    (he : starEach (e :: []) X.env = (false, eval e X.env) :: starEach [] X.env := by rfl) (hpl : (backTo pos (starEach [] X.env)).any (·.1) = false := by rfl) : WE X Z (.Call (.Name "len" p) [e] [] pos) G Q :=
  we_bfn (CallR.or call_len_str call_len_seq) hm (R := fun ds k => ∃ d, ds = [d] ∧ ∃ n : Nat, LenD d n ∧ k (.int (n : Int))) (fun own T H0 gs as σ G2 H vs ds hh dv ⟨d, e1, n, hl, q⟩ => by
    subst e1
    obtain ⟨v, ev, dw⟩ := dv.one
    subst ev
    have dv := dw
    cases hl with
    | str hz =>
      rw [dv.str]
      exact Or.inl ⟨_, rfl, sz_le (by simpa [Str.length] using hz), EQ.int hh (by simpa [Str.length] using q)⟩
    | lst ds =>
      obtain ⟨a, xs, rfl, h1, h2⟩ := dv
      refine Or.inr ⟨a, xs, rfl, Or.inl (SqL.of h1), ?_⟩
      rw [h2.length]
      exact EQ.int hh q
    | tup ds =>
      obtain ⟨a, xs, rfl, h1, h2⟩ := dv.tup
      refine Or.inr ⟨a, xs, rfl, Or.inr (sqT_mono cut_sub h1), ?_⟩
      rw [h2.length]
      exact EQ.int hh q) (wl_cons (h.mono fun x G1 ⟨d, c, n, hl, q⟩ => wl_nil ⟨[d], ⟨d, [], c, rfl, rfl⟩, d, rfl, n, hl, q⟩) he) hg (by decide +kernel) (by decide) (by decide) he hpl
/-- int(n), n an int -/
theorem we_toint {p : Pos} (hm : X.mg "int" = none) (h : WE X Z e G fun x G1 => ∃ n, Con G1 x (.int n) ∧ Q (.im (.int n)) G1) (hg : Gl X "int" := by rfl)
    (he : starEach (e :: []) X.env = (false, eval e X.env) :: starEach [] X.env := by rfl) (hpl : (backTo pos (starEach [] X.env)).any (·.1) = false := by rfl) : WE X Z (.Call (.Name "int" p) [e] [] pos) G Q :=
  we_bty call_int1 hm (R := fun ds k => ∃ n, ds = [.int n] ∧ k (.int n)) (fun own T H0 gs as σ G2 H vs ds hh dv ⟨n, e1, q⟩ => by
    subst e1
    obtain ⟨v, ev, dw⟩ := dv.one
    subst ev
    have dv := dw
    rw [dv.int]
    exact Or.inl ⟨n, rfl, EQ.int hh q⟩) (wl_cons (h.mono fun x G1 ⟨n, c, q⟩ => wl_nil ⟨[.int n], ⟨_, [], c, rfl, rfl⟩, n, rfl, q⟩) he) hg (by decide +kernel) (by decide) (by decide) he hpl
/-- max(i, j), min(i, j) -/
theorem we_max2 {p : Pos} {a b : Expr} (hm : X.mg "max" = none) (h : WE X Z a G fun x G1 => WE X Z b G1 fun y G2 => ∃ i j, Con G2 x (.int i) ∧ Con G2 y (.int j) ∧ Q (.im (.int (if j > i then j else i))) G2) (hc : X.calm = true := by rfl) (hg : Gl X "max" := by rfl)
    (he : starEach (a :: [b]) X.env = (false, eval a X.env) :: starEach [b] X.env := by rfl) (he2 : starEach (b :: []) X.env = (false, eval b X.env) :: starEach [] X.env := by rfl) (hpl : (backTo pos (starEach [b] X.env)).any (·.1) = false := by rfl) : WE X Z (.Call (.Name "max" p) [a, b] [] pos) G Q :=
  we_bfn (call_max2 hc) hm (R := fun ds k => ∃ i j, ds = [.int i, .int j] ∧ k (.int (if j > i then j else i))) (fun own T H0 gs as σ G2 H vs ds hh dv ⟨i, j, e1, q⟩ => by
    subst e1
    obtain ⟨v, w, ev, dx, dw⟩ := dv.two
    subst ev
    have dv := dx
    rw [dv.int, dw.int]
    exact ⟨i, j, rfl, EQ.int hh q⟩) (wl_cons (h.mono fun x G1 q => wl_cons (q.mono fun y G2 ⟨i, j, c1, c2, q⟩ => wl_nil ⟨[.int i, .int j], ⟨_, _, c1, ⟨_, _, c2, rfl, rfl⟩, rfl⟩, i, j, rfl, q⟩) he2) he) hg (by decide +kernel) (by decide) (by decide) he hpl
end
end DL

namespace DL
open PySem PySem.Spec L2

/-! ### owned objects: made, moved, let go -/
section
variable {K : PySem.W.Frag} {own T : List Addr} {H0 H H' : Hp} {gs : List (V × D)} {as : List (Option Addr)} {sl : List Sl} {om : List Oc} {tn : Nat} {σ : Sg}
theorem getD_app_lt {α : Type} {l r : List α} {d : α} {k : Nat} (h : k < l.length) : (l ++ r).getD k d = l.getD k d := by
  rw [List.getD_eq_getElem?_getD, List.getD_eq_getElem?_getD, List.getElem?_append_left h]
theorem getD_app_len {α : Type} {l : List α} {x d : α} : (l ++ [x]).getD l.length d = x := by
  rw [List.getD_eq_getElem?_getD, List.getElem?_append_right (Nat.le_refl _), Nat.sub_self]
  rfl
theorem getD_ge {α : Type} {l : List α} {d : α} {k : Nat} (h : l.length ≤ k) : l.getD k d = d := by
  rw [List.getD_eq_getElem?_getD, List.getElem?_eq_none h]
  rfl
theorem getD_set_eq {α : Type} {l : List α} {x d : α} {k : Nat} (h : k < l.length) : (l.set k x).getD k d = x := by
  rw [List.getD_eq_getElem?_getD, List.getElem?_set_self h]
  rfl
theorem getD_set_ne {α : Type} {l : List α} {x d : α} {k j : Nat} (h : k ≠ j) : (l.set k x).getD j d = l.getD j d := by
  rw [List.getD_eq_getElem?_getD, List.getD_eq_getElem?_getD, List.getElem?_set_ne h]
theorem lt_of_getD {as : List (Option Addr)} {k : Nat} {a : Addr} (h : as.getD k none = some a) : k < as.length := by
  by_cases hk : k < as.length
  · exact hk
  · rw [getD_ge (by omega)] at h
    cases h
/-- a new object is owned: it stands behind the others -/
theorem Hd.push2 {p : Addr} {c : Oc} (h : Hd K own T H0 gs as ⟨sl, om, tn⟩ σ H) (hp : H p = none) (sm : Same H H')
    (q : OcOk K (cut (ex own (as ++ [some p])) H') H' (some p) c) : Hd K own T H0 gs (as ++ [some p]) ⟨sl, om ++ [c], tn⟩ σ H' := by
  have nf := h.fresh hp
  have cs : Same (cut (ex own as) H) (cut (ex own (as ++ [some p])) (H')) := cut_mono fun b u n e => by
    refine ⟨fun hx => ?_, sm b u e⟩
    rcases hx with hx | hx
    · exact n (.inl hx)
    · rcases List.mem_append.mp hx with hx | hx
      · exact n (.inr hx)
      · have e' : b = p := by simpa using hx
        rw [e', hp] at e; cases e
  have alive : ∀ k a, as.getD k none = some a → a ≠ p := fun k a e z => by
    have q := h.oc k
    rw [e] at q
    obtain ⟨o', e'⟩ := q.some_of
    rw [z, hp] at e'; cases e'
  have hol : as.length = om.length := h.ol
  have cases_ : ∀ k a, (as ++ [some p]).getD k none = some a → (k < as.length ∧ as.getD k none = some a) ∨ (k = as.length ∧ a = p) := fun k a e => by
    by_cases hk : k < as.length
    · rw [getD_app_lt hk] at e
      exact .inl ⟨hk, e⟩
    · by_cases hk2 : k = as.length
      · subst hk2
        rw [getD_app_len] at e
        exact .inr ⟨rfl, (Option.some.inj e).symm⟩
      · rw [getD_ge (by rw [List.length_append]; show as.length + 1 ≤ k; omega)] at e
        cases e
  refine ⟨h.tt, h.tl, fun j a ej => by
    have z := h.tp j a ej
    rw [getD_app_lt (lt_of_getD z)]
    exact z, fun b u n e => sm b u (h.fr b u n e), fun b hb => let ⟨u, e⟩ := h.al b hb; ⟨u, sm b u e⟩, ?_, fun k => ?_, fun j k a e1 e2 => ?_, fun k a e => ?_, fun i => ?_, fun g hg => (h.gh g hg).mono cs⟩
  · show (as ++ [some p]).length = (om ++ [c]).length
    rw [List.length_append, List.length_append, hol] <;> rfl
  · show OcOk K _ _ ((as ++ [some p]).getD k none) ((om ++ [c]).getD k .dead)
    by_cases hk : k < as.length
    · rw [getD_app_lt hk, getD_app_lt (by omega)]
      exact (h.oc k).mono cs fun a u _ e => sm a u e
    · by_cases hk2 : k = as.length
      · subst hk2
        rw [getD_app_len, hol, getD_app_len]
        exact q
      · rw [getD_ge (by rw [List.length_append]; show as.length + 1 ≤ k; omega), getD_ge (by rw [List.length_append, ← hol]; show as.length + 1 ≤ k; omega)]
        trivial
  · rcases cases_ j a e1 with ⟨_, e1⟩ | ⟨e1, z1⟩
    · rcases cases_ k a e2 with ⟨_, e2⟩ | ⟨e2, z2⟩
      · exact h.nd j k a e1 e2
      · exact absurd z2 (alive j a e1)
    · rcases cases_ k a e2 with ⟨_, e2⟩ | ⟨e2, z2⟩
      · exact absurd z1 (alive k a e2)
      · rw [e1, e2]
  · rcases cases_ k a e with ⟨_, e⟩ | ⟨_, e⟩
    · exact h.nw k a e
    · subst e
      exact .inr ⟨h.fresh0 hp, fun z => nf (.inl z)⟩
  · have q := (h.sl i).mono cs
    show SlOk K _ (as ++ [some p]) σ[i]? (sl.getD i .un)
    have q' : SlOk K (cut (ex own (as ++ [some p])) (H')) as σ[i]? (sl.getD i .un) := q
    cases e : sl.getD i .un with
    | un => trivial
    | im d => rw [e] at q'; exact q'
    | rw v => rw [e] at q'; exact q'
    | ow k =>
      rw [e] at q'
      obtain ⟨a, e1, e2⟩ := q'
      exact ⟨a, e1, by rw [getD_app_lt (lt_of_getD e2)]; exact e2⟩
theorem Hd.push {p : Addr} {o : HO} {c : Oc} (h : Hd K own T H0 gs as ⟨sl, om, tn⟩ σ H) (hp : H p = none)
    (q : OcOk K (cut (ex own as) H) (upd H p o) (some p) c) : Hd K own T H0 gs (as ++ [some p]) ⟨sl, om ++ [c], tn⟩ σ (upd H p o) :=
  h.push2 hp (same_upd hp) (q.mono (cut_mono fun b u n e => by
    refine ⟨fun hx => ?_, same_upd hp b u e⟩
    rcases hx with hx | hx
    · exact n (.inl hx)
    · rcases List.mem_append.mp hx with hx | hx
      · exact n (.inr hx)
      · have e' : b = p := by simpa using hx
        rw [e', hp] at e; cases e) fun _ _ _ e => e)
/-- what is known changes by an owned object's new content -/
theorem Hd.put {G : Gm} {k : Nat} {a : Addr} {o : HO} {c : Oc} (h : Hd K own T H0 gs as G σ H) (e : as.getD k none = some a) (q : OcOk K (cut (ex own as) H) (upd H a o) (some a) c) :
    Hd K own T H0 gs as ⟨G.sl, G.om.set k c, G.tn⟩ σ (upd H a o) := by
  have hin : ex own as a := .inr (mem_as.mpr ⟨k, e⟩)
  have cs : Same (cut (ex own as) H) (cut (ex own as) (upd H a o)) := cut_mono fun b u n e' => ⟨n, by rw [upd_ne (fun z => n (by rw [z]; exact hin))]; exact e'⟩
  have hk : k < as.length := lt_of_getD e
  refine ⟨h.tt, h.tl, h.tp, fun b u n e' => ?_, fun b hb => ?_, by show as.length = (G.om.set k c).length; rw [List.length_set]; exact h.ol, fun j => ?_, h.nd, h.nw, fun i => (h.sl i).mono cs, fun g hg => (h.gh g hg).mono cs⟩
  · have ne : b ≠ a := fun z => by
      subst z
      rcases h.nw k _ e with hT | ⟨h0, _⟩
      · exact n hT
      · rw [h0] at e'; cases e'
    rw [upd_ne ne]
    exact h.fr b u n e'
  · by_cases z : b = a
    · exact ⟨o, by rw [z, upd_same]⟩
    · obtain ⟨u, e'⟩ := h.al b hb
      exact ⟨u, by rw [upd_ne z]; exact e'⟩
  · show OcOk K _ _ (as.getD j none) ((G.om.set k c).getD j .dead)
    by_cases hj : k = j
    · subst hj
      rw [e, getD_set_eq (by rw [← h.ol]; exact hk)]
      exact q.mono cs fun _ _ _ e => e
    · rw [getD_set_ne hj]
      refine (h.oc j).mono cs fun b u eb e' => ?_
      rw [upd_ne (fun z => hj (h.nd k j a e (by rw [← z]; exact eb)))]
      exact e'
/-- no slot but the i-th bears the k-th owned object -/
def noOw (k i : Nat) : List Sl → Nat → Bool
  | [], _ => true
  | s :: r, j => (match s with | .ow k' => k' != k || j == i | _ => true) && noOw k i r (j + 1)
theorem noOw_at {k i : Nat} : ∀ {sl : List Sl} {n : Nat}, noOw k i sl n = true → ∀ j, sl.getD j .un = .ow k → n + j = i
  | [], n, _, j, e => by rw [getD_ge (Nat.zero_le _)] at e; cases e
  | s :: r, n, h, 0, e => by
    have e' : s = .ow k := e
    subst e'
    simp only [noOw, Bool.and_eq_true, Bool.or_eq_true, bne_self_eq_false, Bool.false_eq_true, false_or, beq_iff_eq] at h
    exact h.1
  | s :: r, n, h, j + 1, e => by
    simp only [noOw, Bool.and_eq_true] at h
    have := noOw_at (n := n + 1) h.2 j (by simpa using e)
    omega
/-- the newest owned object takes the k-th place, slot i bears it -/
theorem Hd.move {k i : Nat} {p : Addr} {c : Oc} (hb0 : Hd K own T H0 gs as ⟨sl, om, tn⟩ σ H) (h : Hd K own T H0 gs (as ++ [some p]) ⟨sl, om ++ [c], tn⟩ σ H) (hk : k < om.length) (hkT : tn ≤ k) (hn : noOw k i sl 0 = true) (hi : i < σ.length) :
    Hd K own T H0 gs (as.set k (some p)) ⟨sl.set i (.ow k), om.set k c, tn⟩ (σ.set i (some (.ref p))) H := by
  have hl : as.length = om.length := hb0.ol
  have sub : ∀ b, ex own (as.set k (some p)) b → ex own (as ++ [some p]) b := fun b hb => by
    rcases hb with hb | hb
    · exact .inl hb
    · refine .inr ?_
      rcases List.mem_or_eq_of_mem_set hb with hb | hb
      · exact List.mem_append_left _ hb
      · rw [hb]; exact List.mem_append_right _ (List.mem_singleton.mpr rfl)
  have cs : Same (cut (ex own (as ++ [some p])) H) (cut (ex own (as.set k (some p))) H) := cut_mono fun b u n e => ⟨fun z => n (sub b z), e⟩
  have hka : k < as.length := by omega
  have lst : (as ++ [some p]).getD as.length none = some p := getD_app_len
  have at_ : ∀ j a, (as.set k (some p)).getD j none = some a → (j = k ∧ a = p) ∨ (j ≠ k ∧ j < as.length ∧ (as ++ [some p]).getD j none = some a) := fun j a e => by
    by_cases hj : k = j
    · subst hj
      rw [getD_set_eq hka] at e
      exact .inl ⟨rfl, (Option.some.inj e).symm⟩
    · rw [getD_set_ne hj] at e
      exact .inr ⟨fun z => hj z.symm, lt_of_getD e, by rw [getD_app_lt (lt_of_getD e)]; exact e⟩
  refine ⟨h.tt, h.tl, fun j a ej => by
    have hT : T.length = tn := h.tl
    have hj : j < T.length := (List.getElem?_eq_some_iff.mp ej).1
    rw [getD_set_ne (by omega)]
    exact hb0.tp j a ej, h.fr, h.al, by show (as.set k (some p)).length = (om.set k c).length; rw [List.length_set, List.length_set]; exact hl, fun j => ?_, fun j j' a e1 e2 => ?_, fun j a e => ?_, fun j => ?_, fun g hg => (h.gh g hg).mono cs⟩
  · show OcOk K _ _ ((as.set k (some p)).getD j none) ((om.set k c).getD j .dead)
    by_cases hj : k = j
    · subst hj
      rw [getD_set_eq hka, getD_set_eq hk]
      have q := h.oc as.length
      rw [lst] at q
      have e : (om ++ [c]).getD as.length .dead = c := by rw [hl]; exact getD_app_len
      have q' : OcOk K (cut (ex own (as ++ [some p])) H) H (some p) ((om ++ [c]).getD as.length .dead) := q
      rw [e] at q'
      exact q'.mono cs fun _ _ _ e => e
    · rw [getD_set_ne hj, getD_set_ne hj]
      by_cases hjl : j < as.length
      · have q := h.oc j
        have q' : OcOk K (cut (ex own (as ++ [some p])) H) H ((as ++ [some p]).getD j none) ((om ++ [c]).getD j .dead) := q
        rw [getD_app_lt hjl, getD_app_lt (by omega)] at q'
        exact q'.mono cs fun _ _ _ e => e
      · rw [getD_ge (by omega), getD_ge (by omega)]
        trivial
  · rcases at_ j a e1 with ⟨j1, a1⟩ | ⟨j1, jl, a1⟩
    · rcases at_ j' a e2 with ⟨j2, a2⟩ | ⟨j2, jl', a2⟩
      · rw [j1, j2]
      · subst a1
        exact absurd (h.nd _ _ _ a2 lst) (by omega)
    · rcases at_ j' a e2 with ⟨j2, a2⟩ | ⟨j2, jl', a2⟩
      · subst a2
        exact absurd (h.nd _ _ _ a1 lst) (by omega)
      · exact h.nd _ _ _ a1 a2
  · rcases at_ j a e with ⟨_, a1⟩ | ⟨_, _, a1⟩
    · subst a1
      exact h.nw _ _ lst
    · exact h.nw _ _ a1
  · show SlOk K _ _ (σ.set i (some (.ref p)))[j]? ((sl.set i (.ow k)).getD j .un)
    by_cases hj : i = j
    · subst hj
      rw [List.getElem?_set_self hi]
      by_cases hs : i < sl.length
      · rw [getD_set_eq hs]
        exact ⟨p, rfl, getD_set_eq hka⟩
      · rw [getD_ge (by rw [List.length_set]; omega)]
        trivial
    · rw [List.getElem?_set_ne hj, getD_set_ne hj]
      have q := (h.sl j).mono cs
      have q' : SlOk K (cut (ex own (as.set k (some p))) H) (as ++ [some p]) σ[j]? (sl.getD j .un) := q
      cases e : sl.getD j .un with
      | un => trivial
      | im d => rw [e] at q'; exact q'
      | rw v => rw [e] at q'; exact q'
      | ow k' =>
        rw [e] at q'
        obtain ⟨a, e1, e2⟩ := q'
        by_cases hk' : k' = k
        · subst hk'
          have := noOw_at hn j e
          omega
        · have hlt := lt_of_getD e2
          rw [List.length_append] at hlt
          have hlt' : k' < as.length + 1 := hlt
          by_cases hq : k' < as.length
          · rw [getD_app_lt hq] at e2
            exact ⟨a, e1, by rw [getD_set_ne (Ne.symm hk')]; exact e2⟩
          · have q3 : SlOk K (cut (ex own as) H) as σ[j]? (sl.getD j .un) := hb0.sl j
            rw [e] at q3
            obtain ⟨a', _, e4⟩ := q3
            exact absurd (lt_of_getD e4) hq
/-- the newest owned object is a datum -/
theorem Hd.frz {p : Addr} {ds : List D} {G : Gm} (h0 : Hd K own T H0 gs as G σ H) (h : Hd K own T H0 gs (as ++ [some p]) ⟨G.sl, G.om ++ [Oc.li ds], G.tn⟩ σ H) (np : ¬ ex own as p) : Dd K (cut (ex own as) H) (.ref p) (.lst ds) := by
  have q := h.oc as.length
  have e : (G.om ++ [Oc.li ds]).getD as.length .dead = .li ds := by rw [h0.ol]; exact getD_app_len
  have q' : OcOk K (cut (ex own (as ++ [some p])) H) H ((as ++ [some p]).getD as.length none) ((G.om ++ [Oc.li ds]).getD as.length .dead) := q
  rw [e, getD_app_len] at q'
  obtain ⟨vs, h1, h2⟩ := q'
  refine .lst (cut_some.mpr ⟨np, h1⟩) (h2.mono (cut_mono fun b u n e => ⟨fun z => n ?_, e⟩))
  rcases z with z | z
  · exact .inl z
  · exact .inr (List.mem_append_left _ z)
/-- the k-th owned object becomes a datum that never changes; slot i bears it -/
theorem Hd.freeze {G : Gm} {k i : Nat} {ds : List D} (h : Hd K own T H0 gs as G σ H) (e : G.om.getD k .dead = .li ds) (hs : G.sl.getD i .un = .ow k) (hn : noOw k i G.sl 0 = true) (hT : G.tn ≤ k) :
    Hd K own T H0 gs (as.set k none) ⟨G.sl.set i (.im (.lst ds)), G.om.set k .dead, G.tn⟩ σ H := by
  have q := h.sl i
  rw [hs] at q
  obtain ⟨a, e1, e2⟩ := q
  obtain ⟨vs, h1, h2⟩ := h.li e2 e
  have hka := lt_of_getD e2
  have hnT : a ∉ T := fun z => by
    obtain ⟨j, hj, ej⟩ := List.getElem_of_mem z
    have q := h.tp j a (by rw [List.getElem?_eq_getElem hj, ej])
    have := h.nd k j a e2 q
    have := h.tl
    omega
  have hno : a ∉ own := by
    rcases h.nw k a e2 with z | z
    · exact absurd z hnT
    · exact z.2
  have sub : ∀ b, ex own (as.set k none) b → ex own as b := fun b hb => by
    rcases hb with hb | hb
    · exact .inl hb
    · refine .inr ?_
      rcases List.mem_or_eq_of_mem_set hb with hb | hb
      · exact hb
      · cases hb
  have cs : Same (cut (ex own as) H) (cut (ex own (as.set k none)) H) := cut_mono fun b u n e => ⟨fun z => n (sub b z), e⟩
  have out : ¬ ex own (as.set k none) a := by
    rintro (z | z)
    · exact hno z
    · obtain ⟨j, ej⟩ := mem_as.mp z
      by_cases hj : k = j
      · subst hj
        rw [getD_set_eq hka] at ej; cases ej
      · rw [getD_set_ne hj] at ej
        exact hj (h.nd k j a e2 ej)
  have at_ : ∀ j b, (as.set k none).getD j none = some b → j ≠ k ∧ as.getD j none = some b := fun j b ej => by
    by_cases hj : k = j
    · subst hj
      rw [getD_set_eq hka] at ej; cases ej
    · rw [getD_set_ne hj] at ej
      exact ⟨fun z => hj z.symm, ej⟩
  refine ⟨h.tt, h.tl, fun j a ej => by
    have hT2 : T.length = G.tn := h.tl
    have hj : j < T.length := (List.getElem?_eq_some_iff.mp ej).1
    rw [getD_set_ne (by omega)]
    exact h.tp j a ej, h.fr, h.al, by show (as.set k none).length = (G.om.set k .dead).length; rw [List.length_set, List.length_set]; exact h.ol, fun j => ?_, fun j j' b e1 e2 => h.nd _ _ _ (at_ j b e1).2 (at_ j' b e2).2, fun j b e => h.nw _ _ (at_ j b e).2, fun j => ?_, fun g hg => (h.gh g hg).mono cs⟩
  · show OcOk K _ _ ((as.set k none).getD j none) ((G.om.set k .dead).getD j .dead)
    by_cases hj : k = j
    · subst hj
      rw [getD_set_eq hka, getD_set_eq (by rw [← h.ol]; exact hka)]
      trivial
    · rw [getD_set_ne hj, getD_set_ne hj]
      exact (h.oc j).mono cs fun _ _ _ e => e
  · show SlOk K _ _ σ[j]? ((G.sl.set i (.im (.lst ds))).getD j .un)
    by_cases hj : i = j
    · subst hj
      by_cases hs2 : i < G.sl.length
      · rw [getD_set_eq hs2]
        exact ⟨.ref a, e1, .lst (cut_some.mpr ⟨out, h1⟩) (h2.mono cs)⟩
      · rw [getD_ge (by omega)] at hs; cases hs
    · rw [getD_set_ne hj]
      have q := (h.sl j).mono cs
      cases e' : G.sl.getD j .un with
      | un => trivial
      | im d => rw [e'] at q; exact q
      | rw v => rw [e'] at q; exact q
      | ow k' =>
        rw [e'] at q
        obtain ⟨b, b1, b2⟩ := q
        have hk' : k ≠ k' := fun z => by
          subst z
          have := noOw_at hn j e'
          omega
        exact ⟨b, b1, by rw [getD_set_ne hk']; exact b2⟩
end
end DL

namespace DL
open PySem PySem.Spec L2

/-! ### fresh objects -/
def FQ (K : PySem.W.Frag) (own T : List Addr) (H0 : Hp) (gs : List (V × D)) (as : List (Option Addr)) (σ : Sg) (Q : Oc → Gm → Prop) : VK := fun v H' =>
  ∃ p G' c, v = .ref p ∧ ¬ ex own as p ∧ Hd K own T H0 gs as G' σ H' ∧ Hd K own T H0 gs (as ++ [some p]) ⟨G'.sl, G'.om ++ [c], G'.tn⟩ σ H' ∧ Q c G'
def WEF (X : Cx) (Z : Xz) (e : Expr) (G : Gm) (Q : Oc → Gm → Prop) : Prop :=
  ∀ (own T : List Addr) (H0 : Hp) (gs : List (V × D)) (as : List (Option Addr)) (pins : List (Addr × Obj)) (s : Shared) (σ : Sg) (H : Hp),
    Takes X (wD X.K Z own T H0 gs) → Inv X pins σ H s → Hd X.K own T H0 gs as G σ H →
      wpAny (model X.prog X.w) X.A (eval e X.env) (EP X pins σ (FQ X.K own T H0 gs as σ Q)) X.xe s
section
variable {K : PySem.W.Frag} {own T : List Addr} {H0 H H' : Hp} {gs : List (V × D)} {as : List (Option Addr)} {G : Gm} {σ : Sg}
theorem FQ.mk {Q : Oc → Gm → Prop} {p : Addr} {o : HO} {c : Oc} (h : Hd K own T H0 gs as G σ H) (hp : H p = none) (q : OcOk K (cut (ex own as) H) (upd H p o) (some p) c) (z : Q c G) : FQ K own T H0 gs as σ Q (.ref p) (upd H p o) :=
  ⟨p, G, c, rfl, h.fresh hp, h.grow (same_upd hp), Hd.push (sl := G.sl) (om := G.om) (tn := G.tn) h hp q, z⟩
theorem FQ.lst {Q : Oc → Gm → Prop} {p : Addr} {xs : List V} {ds : List D} (h : Hd K own T H0 gs as G σ H) (hp : H p = none) (q : DdA K (cut (ex own as) H) xs ds) (z : Q (.li ds) G) : FQ K own T H0 gs as σ Q (.ref p) (upd H p (.lst xs)) :=
  FQ.mk (c := .li ds) h hp ⟨xs, upd_same, q⟩ z
end
section
variable {X : Cx} {Z : Xz} {e a b : Expr} {es : List Expr} {G : Gm} {pos : Pos}
theorem WEF.of {t : TE} {Q : Oc → Gm → Prop} (h : PE X e t) (q : ∀ (own T : List Addr) (H0 : Hp) (gs : List (V × D)) (as : List (Option Addr)) (σ : Sg) (H : Hp),
    Takes X (wD X.K Z own T H0 gs) → Hd X.K own T H0 gs as G σ H → t σ H (FQ X.K own T H0 gs as σ Q)) : WEF X Z e G Q :=
  fun own T H0 gs as pins s σ H tk I hd => h.run pins s σ H _ I (q own T H0 gs as σ H tk hd)
theorem we_fr {Q : Vl → Gm → Prop} (h : WEF X Z e G fun c G1 => ∃ ds, c = .li ds ∧ Q (.im (.lst ds)) G1) : WE X Z e G Q := fun own T H0 gs as pins s σ H tk I hd =>
  thn (h own T H0 gs as pins s σ H tk I hd) fun u s' ⟨v, H', I', r, p, G', c, ev, np, h0, h1, ds, ec, q⟩ => by
    subst ec ev
    exact ⟨.ref p, H', I', r, .im (.lst ds), G', h0, h0.frz h1 np, q⟩
variable {Q : Oc → Gm → Prop}
theorem wef_lst0 (h : Q (.li []) G) : WEF X Z (.List [] pos) G Q :=
  WEF.of (pe_lst pa_nil) fun own T H0 gs as σ H tk hh => ⟨Nat.zero_le _, fun p hp => FQ.lst hh hp .nil h⟩
theorem wef_lst (h : WL X Z es G fun xs G1 => ∃ ds, ImA xs ds ∧ ds.length ≤ 100000 ∧ Q (.li ds) G1) : WEF X Z (.List es pos) G Q :=
  WEF.of (pe_lst pa_se) fun own T H0 gs as σ H tk hh => seA_mono (h own T H0 gs as σ H tk hh) fun vs H1 ⟨xs, G1, h1, h2, ds, c, hz, q⟩ => by
    have hd := im_dd h2 c
    exact ⟨sz_le (by rw [hd.length]; exact hz), fun p hp => FQ.lst h1 hp hd q⟩
theorem wef_dic0 (h : Q (.di []) G) : WEF X Z (.Dict [] [] pos) G Q :=
  WEF.of pe_dnewK fun own T H0 gs as σ H tk hh => fun p hp => FQ.mk (c := .di []) hh hp ⟨[], upd_same, .nil⟩ h
/-- list(range(n)) -/
theorem wef_listRg {p p2 pos2 : Pos} (hm : X.mg "list" = none) (hm2 : X.mg "range" = none) (h : WE X Z e G fun x G1 => ∃ n : Nat, Con G1 x (.int (n : Int)) ∧ n ≤ 100000 ∧ Q (.li ((List.range n).map fun (i : Nat) => D.int (i : Int))) G1) (hc : X.calm = true := by rfl) (hg : Gl X "list" := by rfl) (hg2 : Gl X "range" := by rfl)
    (na : starEach [e] X.env = (false, eval e X.env) :: starEach [] X.env := by rfl) (nb : starEach [(.Call (.Name "range" p2) [e] [] pos2 : Expr)] X.env = (false, eval (.Call (.Name "range" p2) [e] [] pos2) X.env) :: starEach [] X.env := by rfl) : WEF X Z (.Call (.Name "list" p) [.Call (.Name "range" p2) [e] [] pos2] [] pos) G Q :=
  WEF.of (pe_listRg hc hg hm (prg_1 hg2 hm2 pe_se na) nb) fun own T H0 gs as σ H tk hh => seE_mono (h.se tk hh) fun v H1 ⟨x, G1, h1, h2, n, c, hn, q⟩ => by
    refine ⟨n, (h1.dv h2 c).int, RgOk.of_le (by omega) (by omega) (by omega) (by omega), fun p hp => ?_⟩
    have e : rgV 0 (n : Int) = ((List.range n).map fun (i : Nat) => (i : Int)).map V.int := by
      unfold rgV
      rw [List.map_map]
      simp
    rw [e]
    refine FQ.lst h1 hp (DdA.of_int _) ?_
    rw [List.map_map]
    exact q
/-- xs + ys of lists -/
theorem wef_add (h : WE X Z a G fun x G1 => WE X Z b G1 fun y G2 => ∃ d f, Con G2 x (.lst d) ∧ Con G2 y (.lst f) ∧ d.length + f.length ≤ 100000 ∧ Q (.li (d ++ f)) G2) : WEF X Z (.BinOp a .Add b pos) G Q :=
  WEF.of (pe_op op_cat pe_se pe_se) fun own T H0 gs as σ H tk hh => se2 tk hh h fun v w x y G2 H2 h1 h2 h3 ⟨d, f, c1, c2, hz, q⟩ => by
    obtain ⟨p, xs, rfl, k1, k2⟩ := h1.dv h2 c1
    obtain ⟨p', ys, rfl, m1, m2⟩ := h1.dv h3 c2
    exact ⟨p, p', xs, ys, rfl, rfl, k1, m1, sz_le (by rw [k2.length, m2.length]; exact hz), fun t ht => FQ.lst h1 ht (k2.append m2) q⟩
/-- list(xs) of a list or a tuple -/
inductive SeqD : D → List D → Prop
  | lst (ds : List D) : SeqD (.lst ds) ds
  | tup (ds : List D) : SeqD (.tup ds) ds
theorem wef_list {p : Pos} (hm : X.mg "list" = none) (h : WE X Z e G fun x G1 => ∃ d ds, Con G1 x d ∧ SeqD d ds ∧ Q (.li ds) G1) (hg : Gl X "list" := by rfl) (hv : bootBuiltins "list" = some (.type "list") := by decide +kernel)
    (he : starEach (e :: []) X.env = (false, eval e X.env) :: starEach [] X.env := by rfl) (hpl : (backTo pos (starEach [] X.env)).any (·.1) = false := by rfl) : WEF X Z (.Call (.Name "list" p) [e] [] pos) G Q :=
  WEF.of (pe_callTy call_list_of hg hm hv (pa_cons pe_se pa_nil he) (by decide) (by decide) he hpl) fun own T H0 gs as σ H tk hh => seE_mono (h.se tk hh) fun v H1 ⟨x, G1, h1, h2, d, ds, c, sd, q⟩ => by
    have dv := h1.dv h2 c
    cases sd with
    | lst _ =>
      obtain ⟨p, xs, rfl, k1, k2⟩ := dv
      exact ⟨p, xs, rfl, .inl (SqL.of k1), fun l hl => FQ.lst h1 hl k2 q⟩
    | tup _ =>
      obtain ⟨p, xs, rfl, k1, k2⟩ := dv.tup
      exact ⟨p, xs, rfl, .inr (sqT_mono cut_sub k1), fun l hl => FQ.lst h1 hl k2 q⟩
/-- tuple(xs) -/
theorem we_tuple {Q : Vl → Gm → Prop} {p : Pos} (hm : X.mg "tuple" = none) (h : WE X Z e G fun x G1 => ∃ d ds, Con G1 x d ∧ SeqD d ds ∧ Q (.im (.tup ds)) G1) (hg : Gl X "tuple" := by rfl)
    (he : starEach (e :: []) X.env = (false, eval e X.env) :: starEach [] X.env := by rfl) : WE X Z (.Call (.Name "tuple" p) [e] [] pos) G Q :=
  WE.of (pe_tupleOf hg hm pe_se he) fun own T H0 gs as σ H tk hh => seE_mono (h.se tk hh) fun v H1 ⟨x, G1, h1, h2, d, ds, c, sd, q⟩ => by
    have dv := h1.dv h2 c
    cases sd with
    | lst _ =>
      obtain ⟨p, xs, rfl, k1, k2⟩ := dv
      exact .inl ⟨p, xs, rfl, SqL.of k1, fun l hl => EQ.tup h1 hl k2 q⟩
    | tup _ =>
      obtain ⟨p, xs, rfl, k1, k2⟩ := dv.tup
      exact .inr ⟨p, xs, rfl, sqT_mono cut_sub k1, EQ.keep h1 (d := .tup ds) (.tup k1 k2) q⟩
end

/-! ### weaker knowledge -/
def LeS : List Sl → List Sl → Prop
  | _, [] => True
  | [], b :: r => b = .un ∧ LeS [] r
  | a :: q, b :: r => (b = .un ∨ a = b) ∧ LeS q r
def LeC (a b : Oc) : Prop := a = b ∨ (b = .dr ∧ ∃ ns : List Int, a = .li (ns.map D.int))
def LeO : List Oc → List Oc → Prop
  | [], [] => True
  | a :: q, b :: r => LeC a b ∧ LeO q r
  | _, _ => False
def Le (G G' : Gm) : Prop := G.tn = G'.tn ∧ LeS G.sl G'.sl ∧ LeO G.om G'.om
theorem LeS.refl : ∀ s : List Sl, LeS s s
  | [] => trivial
  | _ :: r => ⟨.inr rfl, LeS.refl r⟩
theorem LeO.refl : ∀ s : List Oc, LeO s s
  | [] => trivial
  | _ :: r => ⟨.inl rfl, LeO.refl r⟩
theorem Le.refl (G : Gm) : Le G G := ⟨rfl, LeS.refl _, LeO.refl _⟩
theorem LeS.at_ : ∀ {a b : List Sl}, LeS a b → ∀ i, b.getD i .un = .un ∨ a.getD i .un = b.getD i .un
  | _, [], _, i => .inl (getD_ge (Nat.zero_le _))
  | [], b :: r, h, 0 => .inl h.1
  | [], b :: r, h, i + 1 => by
    have := LeS.at_ h.2 i
    left
    rcases this with e | e
    · simpa using e
    · rw [getD_ge (l := ([] : List Sl)) (Nat.zero_le _)] at e
      simpa using e.symm
  | a :: q, b :: r, h, 0 => h.1
  | a :: q, b :: r, h, i + 1 => by simpa using LeS.at_ h.2 i
theorem LeO.at_ : ∀ {a b : List Oc}, LeO a b → a.length = b.length ∧ ∀ i, LeC (a.getD i .dead) (b.getD i .dead)
  | [], [], _ => ⟨rfl, fun i => .inl rfl⟩
  | a :: q, b :: r, h => by
    obtain ⟨h1, h2⟩ := LeO.at_ h.2
    refine ⟨by rw [List.length_cons, List.length_cons, h1], fun i => ?_⟩
    cases i with
    | zero => exact h.1
    | succ i => simpa using h2 i
theorem Hd.le {K : PySem.W.Frag} {own T : List Addr} {H0 H : Hp} {gs : List (V × D)} {as : List (Option Addr)} {G G' : Gm} {σ : Sg} (l : Le G G') (h : Hd K own T H0 gs as G σ H) : Hd K own T H0 gs as G' σ H := by
  obtain ⟨l1, l2, l3⟩ := l
  obtain ⟨o1, o2⟩ := l3.at_
  refine ⟨h.tt, by rw [← l1]; exact h.tl, h.tp, h.fr, h.al, by rw [← o1]; exact h.ol, fun k => ?_, h.nd, h.nw, fun i => ?_, h.gh⟩
  · have q := h.oc k
    rcases o2 k with e | ⟨e, ns, e2⟩
    · rw [← e]; exact q
    · rw [e2] at q
      rw [e]
      cases ha : as.getD k none with
      | none => rw [ha] at q; exact q.elim
      | some a =>
        rw [ha] at q
        obtain ⟨vs, q1, q2⟩ := q
        rw [q2.int_of] at q1
        exact ⟨ns, q1⟩
  · rcases l2.at_ i with e | e
    · rw [e]; trivial
    · rw [← e]; exact h.sl i
section
variable {X : Cx} {Z : Xz} {G G' : Gm}
theorem wb_le {sts : List Stmt} {E : En} (l : Le G G') (h : WB X Z sts G' E) : WB X Z sts G E := fun own T H0 gs as pins s σ H tk ps I hh => h own T H0 gs as pins s σ H tk ps I (hh.le l)
theorem we_le {e : Expr} {Q : Vl → Gm → Prop} (l : Le G G') (h : WE X Z e G' Q) : WE X Z e G Q := fun own T H0 gs as pins s σ H tk I hh => h own T H0 gs as pins s σ H tk I (hh.le l)
/-- the draws, as a list of ints -/
theorem wb_dr {sts : List Stmt} {E : En} {k : Nat} (hk : G.om.getD k .dead = .dr) (h : ∀ ns : List Int, WB X Z sts ⟨G.sl, G.om.set k (.li (ns.map D.int)), G.tn⟩ E) : WB X Z sts G E := fun own T H0 gs as pins s σ H tk ps I hh => by
  have q := hh.oc k
  rw [hk] at q
  cases ha : as.getD k none with
  | none => rw [ha] at q; exact q.elim
  | some a =>
    rw [ha] at q
    obtain ⟨ns, q⟩ := q
    refine h ns own T H0 gs as pins s σ H tk ps I ?_
    refine ⟨hh.tt, hh.tl, hh.tp, hh.fr, hh.al, by show as.length = (G.om.set k _).length; rw [List.length_set]; exact hh.ol, fun j => ?_, hh.nd, hh.nw, hh.sl, hh.gh⟩
    show OcOk X.K _ _ (as.getD j none) ((G.om.set k (.li (ns.map D.int))).getD j .dead)
    by_cases hj : k = j
    · subst hj
      rw [ha, getD_set_eq (by rw [← hh.ol]; exact lt_of_getD ha)]
      exact ⟨_, q, DdA.of_int ns⟩
    · rw [getD_set_ne hj]
      exact hh.oc j
theorem wb_freeze {sts : List Stmt} {E : En} {ds : List D} (k i : Nat) (e : G.om.getD k .dead = .li ds) (hs : G.sl.getD i .un = .ow k) (hn : noOw k i G.sl 0 = true) (hT : G.tn ≤ k)
    (h : WB X Z sts ⟨G.sl.set i (.im (.lst ds)), G.om.set k .dead, G.tn⟩ E) : WB X Z sts G E := fun own T H0 gs as pins s σ H tk ps I hh =>
  h own T H0 gs _ pins s σ H tk ps I (hh.freeze e hs hn hT)
end

/-! ### statements -/
section
variable {X : Cx} {Z : Xz} {e : Expr} {G : Gm} {pos pos' : Pos} {E : En} {st : Stmt} {sts : List Stmt}
theorem sp_mono {pins : List (Addr × Obj)} {D D' : Ends} {f : Flow} {s : Shared} (h : SP X pins D f s) (h1 : ∀ σ H, D.nx σ H → D'.nx σ H) (h2 : ∀ v H, D.rt v H → D'.rt v H) (h3 : ∀ σ H, D.bk σ H → D'.bk σ H) (h4 : ∀ σ H, D.ct σ H → D'.ct σ H) : SP X pins D' f s := by
  cases f with
  | next => obtain ⟨σ, H, I, q⟩ := h; exact ⟨σ, H, I, h1 _ _ q⟩
  | brk => obtain ⟨σ, H, I, q⟩ := h; exact ⟨σ, H, I, h3 _ _ q⟩
  | cont => obtain ⟨σ, H, I, q⟩ := h; exact ⟨σ, H, I, h4 _ _ q⟩
  | ret v => obtain ⟨x, σ, H, I, r, q⟩ := h; exact ⟨x, σ, H, I, r, h2 _ _ q⟩
theorem wb_nil (h : E.nx G) : WB X Z [] G E := fun own T H0 gs as pins s σ H tk ps I hh => pss_nil.run pins s σ H _ I ⟨as, G, hh, h⟩
theorem wb_cons (h : WS X Z st G { E with nx := fun G1 => WB X Z sts G1 E }) : WB X Z (st :: sts) G E := fun own T H0 gs as pins s σ H tk ps I hh => by
  refine wpAny_execs_cons (thn (h own T H0 gs as pins s σ H tk ps I hh) fun f s1 q => ?_)
  cases f with
  | next =>
    obtain ⟨σ', H', I', as', G', h1, h2⟩ := q
    exact h2 own T H0 gs as' pins s1 σ' H' tk ps I' h1
  | ret v => exact q
  | brk => exact q
  | cont => exact q
theorem WS.of {t : TS} (h : PS X st t) (q : ∀ (own T : List Addr) (H0 : Hp) (gs : List (V × D)) (as : List (Option Addr)) (σ : Sg) (H : Hp), σ.length = X.N.length →
    Takes X (wD X.K Z own T H0 gs) → Hd X.K own T H0 gs as G σ H → t (den X.K own T H0 gs E) σ H) : WS X Z st G E :=
  fun own T H0 gs as pins s σ H tk ps I hd => h.run pins s σ H _ I (q own T H0 gs as σ H I.len tk hd)
/-- a value's slot -/
def toSl : Vl → Sl
  | .im d => .im d
  | .ow k => .ow k
  | .rw v => .rw v
theorem Hd.setS {K : PySem.W.Frag} {own T : List Addr} {H0 H : Hp} {gs : List (V × D)} {as : List (Option Addr)} {σ : Sg} {i : Nat} {v : V} {x : Vl} (h : Hd K own T H0 gs as G σ H) (q : VlOk K (cut (ex own as) H) as v x) (hi : i < σ.length) :
    Hd K own T H0 gs as ⟨G.sl.set i (toSl x), G.om, G.tn⟩ (σ.set i (some v)) H := by
  refine ⟨h.tt, h.tl, h.tp, h.fr, h.al, h.ol, h.oc, h.nd, h.nw, fun j => ?_, h.gh⟩
  show SlOk K _ _ (σ.set i (some v))[j]? ((G.sl.set i (toSl x)).getD j .un)
  by_cases hj : i = j
  · subst hj
    rw [List.getElem?_set_self hi]
    by_cases hs : i < G.sl.length
    · rw [getD_set_eq hs]
      cases x with
      | im d => exact ⟨v, rfl, q⟩
      | ow k =>
        obtain ⟨a, rfl, e⟩ := q
        exact ⟨a, rfl, e⟩
      | rw y => exact congrArg (fun z => some (some z)) q
    · rw [getD_ge (by rw [List.length_set]; omega)]
      trivial
  · rw [List.getElem?_set_ne hj, getD_set_ne hj]
    exact h.sl j
theorem ws_set (i : Nat) {x : Str} (h : WE X Z e G fun y G1 => E.nx ⟨G1.sl.set i (toSl y), G1.om, G1.tn⟩) (hN : X.N.Nodup) (hi : X.N[i]? = some x := by rfl) (hx : Loc X.env.scope x := by first | exact .inl rfl | exact .inr rfl) (hs : swapsWith e (some (.Name x pos')) pos.line X.env = pure false := by rfl)
    (hf : X.fn x = true ∨ X.env.scope.names.lookup x = some .local := by first | exact .inl rfl | exact .inr rfl) : WS X Z (.Assign [.Name x pos'] e pos) G E :=
  WS.of (ps_set hN hi hx pe_se hs hf) fun own T H0 gs as σ H hl tk hh => seE_mono (h.se tk hh) fun v H1 ⟨y, G1, h1, h2, q⟩ =>
    ⟨as, _, h1.setS h2 (by rw [hl]; exact (List.getElem?_eq_some_iff.mp hi).1), q⟩
/-- x = a fresh object, owned from now on as the k-th -/
theorem ws_own (i k : Nat) {x : Str} (h : WEF X Z e G fun c G1 => k < G1.om.length ∧ G1.tn ≤ k ∧ noOw k i G1.sl 0 = true ∧ E.nx ⟨G1.sl.set i (.ow k), G1.om.set k c, G1.tn⟩) (hN : X.N.Nodup) (hi : X.N[i]? = some x := by rfl) (hx : Loc X.env.scope x := by first | exact .inl rfl | exact .inr rfl) (hs : swapsWith e (some (.Name x pos')) pos.line X.env = pure false := by rfl)
    (hf : X.fn x = true ∨ X.env.scope.names.lookup x = some .local := by first | exact .inl rfl | exact .inr rfl) : WS X Z (.Assign [.Name x pos'] e pos) G E := fun own T H0 gs as pins s σ H tk ps I hh => by
  have hlt : i < σ.length := by rw [I.len]; exact (List.getElem?_eq_some_iff.mp hi).1
  refine wpAny_Assign_Name (thn (h own T H0 gs as pins s σ H tk I hh) fun v s1 ⟨y, H1, I1, r1, p, G1, c, ey, np, h0, h1, q1, q2, q3, q4⟩ => ?_) hs
  subst ey
  exact store_ok I1 hN hi hx r1 (fun s2 I2 => ⟨_, H1, I2, _, _, Hd.move (sl := G1.sl) (om := G1.om) (tn := G1.tn) h0 h1 q1 q2 q3 hlt, q4⟩) hf
theorem ws_expr (h : WE X Z e G fun _ G1 => E.nx G1) (hs : swapsWith e none pos.line X.env = pure false := by rfl) : WS X Z (.Expr e pos) G E :=
  WS.of (ps_expr pe_se hs) fun own T H0 gs as σ H hl tk hh => seE_mono (h.se tk hh) fun v H1 ⟨y, G1, h1, h2, q⟩ => ⟨as, G1, h1, q⟩
theorem ws_ret (h : WE X Z e G E.rt) : WS X Z (.Return (some e) pos) G E :=
  WS.of (ps_ret pe_se) fun own T H0 gs as σ H hl tk hh => seE_mono (h.se tk hh) fun v H1 ⟨y, G1, h1, h2, q⟩ => ⟨as, G1, σ, y, h1, h2, q⟩
theorem ws_pass (h : E.nx G) : WS X Z (.Pass pos) G E := WS.of ps_pass fun own T H0 gs as σ H hl tk hh => ⟨as, G, hh, h⟩
theorem ws_break (h : E.bk G) : WS X Z (.Break pos) G E := WS.of ps_break fun own T H0 gs as σ H hl tk hh => ⟨as, G, hh, h⟩
theorem ws_continue (h : E.ct G) : WS X Z (.Continue pos) G E := WS.of ps_continue fun own T H0 gs as σ H hl tk hh => ⟨as, G, hh, h⟩
theorem ws_if {c : Expr} {a b : List Stmt} (h : WT X Z c G fun k G1 => (k = true → WB X Z a G1 E) ∧ (k = false → WB X Z b G1 E)) : WS X Z (.If c a b pos) G E := fun own T H0 gs as pins s σ H tk ps I hh => by
  refine wpAny_If (thn (h own T H0 gs as pins s σ H tk I hh) fun d s1 ⟨H1, I1, G1, h1, q1, q2⟩ => ?_)
  cases d with
  | true => exact q1 rfl own T H0 gs as pins s1 σ H1 tk ps I1 h1
  | false => exact q2 rfl own T H0 gs as pins s1 σ H1 tk ps I1 h1
/-- x op= e, of ints -/
theorem ws_augI (i : Nat) {x : Str} {op : Operator} {f : Int → Int → Int} (hop : PIp X op (ipI f)) {n : Int} (hv : G.sl.getD i .un = .im (.int n)) (h : WE X Z e G fun y G1 => ∃ m, Con G1 y (.int m) ∧ E.nx ⟨G1.sl.set i (.im (.int (f n m))), G1.om, G1.tn⟩) (hN : X.N.Nodup) (hi : X.N[i]? = some x := by rfl) (hx : Loc X.env.scope x := by first | exact .inl rfl | exact .inr rfl)
    (hf : X.fn x = true ∨ X.env.scope.names.lookup x = some .local := by first | exact .inl rfl | exact .inr rfl) : WS X Z (.AugAssign (.Name x pos') op e pos) G E :=
  WS.of (ps_aug hN hi hx pe_se hop hf) fun own T H0 gs as σ H hl tk hh => by
    have q := hh.sl i
    rw [hv] at q
    obtain ⟨v, e1, e2⟩ := q
    cases e2
    refine ⟨_, e1, seE_mono (h.se tk hh) fun w H1 ⟨y, G1, h1, h2, m, c, q⟩ => ⟨n, m, rfl, (h1.dv h2 c).int, as, ⟨G1.sl.set i (.im (.int (f n m))), G1.om, G1.tn⟩, h1.setS (x := .im (.int (f n m))) (.int _) (by rw [hl]; exact (List.getElem?_eq_some_iff.mp hi).1), q⟩⟩
/-- an if whose ways meet: what holds behind it is said once -/
theorem wb_if {c : Expr} {a b : List Stmt} (Mid : Gm → Prop) (h : WT X Z c G fun k G1 => (k = true → WB X Z a G1 { E with nx := Mid }) ∧ (k = false → WB X Z b G1 { E with nx := Mid })) (h2 : ∀ G1, Mid G1 → WB X Z sts G1 E) : WB X Z (.If c a b pos :: sts) G E :=
  wb_cons (fun own T H0 gs as pins s σ H tk ps I hh => thn (ws_if (E := { E with nx := Mid }) h own T H0 gs as pins s σ H tk ps I hh) fun f s1 q =>
    sp_mono q (fun σ H ⟨as, G, h1, q⟩ => ⟨as, G, h1, h2 G q⟩) (fun _ _ q => q) (fun _ _ q => q) (fun _ _ q => q))
theorem wb_mono {E' : En} (h : WB X Z sts G E) (h1 : ∀ G, E.nx G → E'.nx G) (h2 : ∀ x G, E.rt x G → E'.rt x G) (h3 : ∀ G, E.bk G → E'.bk G) (h4 : ∀ G, E.ct G → E'.ct G) : WB X Z sts G E' := fun own T H0 gs as pins s σ H tk ps I hh =>
  thn (h own T H0 gs as pins s σ H tk ps I hh) fun f s1 q => sp_mono q (fun σ H ⟨as, G, k, q⟩ => ⟨as, G, k, h1 _ q⟩) (fun v H ⟨as, G, σ, x, k, k2, q⟩ => ⟨as, G, σ, x, k, k2, h2 _ _ q⟩) (fun σ H ⟨as, G, k, q⟩ => ⟨as, G, k, h3 _ q⟩) (fun σ H ⟨as, G, k, q⟩ => ⟨as, G, k, h4 _ q⟩)
/-- while: Iv by a number that falls -/
theorem ws_while {c : Expr} {body : List Stmt} (Iv : Nat → Gm → Prop) (m : Nat) (h0 : Iv m G)
    (hs : ∀ m G1, Iv m G1 → WT X Z c G1 fun k G2 => (k = true → WB X Z body G2 { E with nx := fun G3 => ∃ m', m' < m ∧ Iv m' G3, ct := fun G3 => ∃ m', m' < m ∧ Iv m' G3, bk := E.nx }) ∧ (k = false → E.nx G2)) : WS X Z (.While c body [] pos) G E :=
  fun own T H0 gs as pins s σ H tk ps I hh => by
    refine (ps_while (tc := seT X c) (tb := seB X body) ps pt_se ps_se).run pins s σ H _ I ?_
    refine ⟨fun m σ' H' => ∃ as' G', Hd X.K own T H0 gs as' G' σ' H' ∧ Iv m G', ⟨m, as, G, hh, h0⟩, fun m σ' H' ⟨as', G', h1, iv⟩ => ?_⟩
    refine seT_mono ((hs m G' iv).se tk h1) fun b H1 ⟨G2, h2, q1, q2⟩ => ?_
    cases b with
    | false =>
      rw [if_neg Bool.false_ne_true]
      exact ⟨as', G2, h2, q2 rfl⟩
    | true =>
      rw [if_pos rfl]
      refine ⟨fun σ3 H3 => ∃ as3 G3, Hd X.K own T H0 gs as3 G3 σ3 H3 ∧ ∃ m', m' < m ∧ Iv m' G3, fun σ3 H3 ⟨as3, G3, h3, m', hm, iv3⟩ => ⟨m', hm, as3, G3, h3, iv3⟩, fun pins' s' I' => ?_⟩
      exact q1 rfl own T H0 gs as' pins' s' σ' H1 tk ps I' h2
end
end DL

namespace DL
open PySem PySem.Spec L2

/-! ### targets -/
def seG (X : Cx) (tg : Expr) : TG := fun v σ H Q => ∀ (pins : List (Addr × Obj)) (s : Shared) (u : Value), Inv X pins σ H s → RelV v u → wpAny (model X.prog X.w) X.A (assign tg X.env u) (fun _ s' => ∃ σ' H', Inv X pins σ' H' s' ∧ Q σ' H') X.xe s
theorem pg_se {X : Cx} {tg : Expr} : PG X tg (seG X tg) := ⟨fun pins s σ H v u Q I r h => h pins s u I r⟩
def GQ (K : PySem.W.Frag) (own T : List Addr) (H0 : Hp) (gs : List (V × D)) (as : List (Option Addr)) (n : Nat) (tv : Nat → Prop) (σ : Sg) (Q : Gm → Prop) : Sg → Hp → Prop := fun σ' H' => ∃ G', Hd K own T H0 gs as G' σ' H' ∧ σ'.length = n ∧ (∀ j, ¬ tv j → σ'[j]? = σ[j]?) ∧ Q G'
def WG (X : Cx) (Z : Xz) (tg : Expr) (tv : Nat → Prop) (d : D) (G : Gm) (Q : Gm → Prop) : Prop :=
  ∀ (own T : List Addr) (H0 : Hp) (gs : List (V × D)) (as : List (Option Addr)) (σ : Sg) (H : Hp) (v : V), σ.length = X.N.length → Takes X (wD X.K Z own T H0 gs) → Hd X.K own T H0 gs as G σ H → Dd X.K (cut (ex own as) H) v d →
    seG X tg v σ H (GQ X.K own T H0 gs as X.N.length tv σ Q)
section
variable {X : Cx} {Z : Xz} {e a b : Expr} {es : List Expr} {G : Gm} {pos : Pos} {E : En} {d : D} {tv : Nat → Prop}
theorem seG_mono {tg : Expr} {v : V} {σ : Sg} {H : Hp} {Q Q' : Sg → Hp → Prop} (h : seG X tg v σ H Q) (q : ∀ σ H, Q σ H → Q' σ H) : seG X tg v σ H Q' := fun pins s u I r =>
  thn (h pins s u I r) fun _ s' ⟨σ', H', I', z⟩ => ⟨σ', H', I', q _ _ z⟩
theorem wg_name (i : Nat) {x : Str} {Q : Gm → Prop} (h : Q ⟨G.sl.set i (.im d), G.om, G.tn⟩) (hN : X.N.Nodup) (htv : tv i := by first | trivial | decide) (hi : X.N[i]? = some x := by rfl) (hx : Loc X.env.scope x := by first | exact .inl rfl | exact .inr rfl)
    (hf : X.fn x = true ∨ X.env.scope.names.lookup x = some .local := by first | exact .inl rfl | exact .inr rfl) : WG X Z (.Name x pos) tv d G Q := fun own T H0 gs as σ H v hl tk hh hd pins s u I r =>
  (pg_name (pos := pos) hN hi hx hf).run pins s σ H v u _ I r ⟨_, hh.setS (x := .im d) hd (by rw [hl]; exact (List.getElem?_eq_some_iff.mp hi).1), by rw [List.length_set]; exact hl, fun j hj => List.getElem?_set_ne (fun z => hj (by rw [← z]; exact htv)), h⟩
/-- a, b = a pair -/
theorem wg_pair {t1 t2 : Expr} {k : Nat} {d1 d2 : D} {Q : Gm → Prop} (h : WG X Z t1 tv d1 G fun G1 => WG X Z t2 tv d2 G1 Q) (hc : X.calm = true := by rfl)
    (hs : (assignEach [t1, t2] X.env).map (·.2) = assign t1 X.env :: (assignEach [t2] X.env).map (·.2) := by rfl) (hs2 : (assignEach [t2] X.env).map (·.2) = assign t2 X.env :: (assignEach [] X.env).map (·.2) := by rfl)
    (hn : (assignEach [t1, t2] X.env).length = 2 := by rfl) (hst : (assignEach [t1, t2] X.env).findIdx? (·.1) = none := by rfl) : WG X Z (.Tuple [t1, t2] k pos) tv (.tup [d1, d2]) G Q := fun own T H0 gs as σ H v hl tk hh hd pins s u I r => by
  refine (pg_tup (n := 2) hc (pgs_cons (pg_se (tg := t1)) (pgs_cons (pg_se (tg := t2)) pgs_nil hs2) hs) hn hst).run pins s σ H v u _ I r ?_
  obtain ⟨p, xs, rfl, h1, h2⟩ := Dv.tup (K := X.K) (H := H) (v := v) hd
  cases h2 with
  | cons q1 t =>
    cases t with
    | cons q2 t =>
      cases t
      refine ⟨p, _, rfl, sqT_mono cut_sub h1, rfl, _, _, rfl, ?_⟩
      refine seG_mono (h own T H0 ((_, d2) :: gs) as σ H _ hl (takes_more tk fun _ hp => List.mem_cons_of_mem _ hp) (hh.ghost q2) q1) fun σ1 H1 ⟨G1, k1, k2, kt, k3⟩ => ?_
      refine ⟨_, _, rfl, ?_⟩
      have z := k1.gh (_, d2) List.mem_cons_self
      refine seG_mono (k3 own T H0 gs as σ1 H1 _ k2 tk (k1.less fun _ hp => List.mem_cons_of_mem _ hp) z) fun σ2 H2 ⟨G2, n1, n2, nt, n3⟩ => ⟨rfl, G2, n1, n2, fun j hj => (nt j hj).trans (kt j hj), n3⟩
theorem ws_asg {tg : Expr} (h : WE X Z e G fun x G1 => ∃ d, x = .im d ∧ WG X Z tg (fun _ => True) d G1 E.nx) (hs : swapsWithSole [tg] e pos.line X.env = pure false := by rfl) (hw : swappedStores [tg] e X.env = pure none := by rfl)
    (h1 : (assignEach [tg] X.env).map (·.2) = [assign tg X.env] := by rfl) : WS X Z (.Assign [tg] e pos) G E :=
  WS.of (ps_asg pe_se pg_se hs hw h1) fun own T H0 gs as σ H hl tk hh => seE_mono (h.se tk hh) fun v H1 ⟨x, G1, k1, k2, d, ex, q⟩ => by
    subst ex
    exact seG_mono (q own T H0 gs as σ H1 v hl tk k1 k2) fun σ2 H2 ⟨G2, m1, m2, _, m3⟩ => ⟨as, G2, m1, m3⟩

/-! ### what a for or a comprehension walks -/
def seI (X : Cx) (tg iter : Expr) : TI := fun σ H R => ∀ (pins : List (Addr × Obj)) (s : Shared), Inv X pins σ H s →
  wpAny (model X.prog X.w) X.A (eval iter X.env) (fun v s1 => wpAny (model X.prog X.w) X.A (pyIter v) (PIE X pins σ tg R) X.xe s1) X.xe s
theorem pi_se {X : Cx} {tg iter : Expr} : PI X tg iter (seI X tg iter) := ⟨fun pins s σ H R I h => h pins s I⟩
theorem seI_mono {X : Cx} {tg iter : Expr} {σ : Sg} {H : Hp} {R R' : It → Hp → Prop} (h : seI X tg iter σ H R) (q : ∀ J H, R J H → R' J H) : seI X tg iter σ H R' := fun pins s I =>
  thn (h pins s I) fun v s1 h1 => thn h1 fun itv s2 ⟨it, fp, tn, J, H', e, I', T, st, f, r⟩ => ⟨it, fp, tn, J, H', e, I', T, st, f, q _ _ r⟩
def IQ (K : PySem.W.Frag) (own T : List Addr) (H0 : Hp) (gs : List (V × D)) (as : List (Option Addr)) (σ : Sg) (R : List D → Gm → Prop) : It → Hp → Prop := fun J H1 =>
  ∃ (gs' : List (V × D)) (G1 : Gm) (ds : List D) (Gd : Hp → Prop) (Y : Nat → Hp → V → Hp → Prop), (∀ p ∈ gs, p ∈ gs') ∧ Hd K own T H0 gs' as G1 σ H1 ∧ Walk J ds.length Gd Y ∧
    (∀ (own T : List Addr) (H0 : Hp) (gs2 : List (V × D)) as' G' σ' H', (∀ p ∈ gs', p ∈ gs2) → Hd K own T H0 gs2 as' G' σ' H' → Gd H') ∧
    (∀ i H x H' (own T : List Addr) (H0 : Hp) (gs2 : List (V × D)) as' G' σ', (∀ p ∈ gs', p ∈ gs2) → i < ds.length → Hd K own T H0 gs2 as' G' σ' H → Y i H x H' → Hd K own T H0 gs2 as' G' σ' H' ∧ ∃ d, ds[i]? = some d ∧ Dd K (cut (ex own as') H') x d) ∧ R ds G1
def WI (X : Cx) (Z : Xz) (tg iter : Expr) (G : Gm) (R : List D → Gm → Prop) : Prop :=
  ∀ (own T : List Addr) (H0 : Hp) (gs : List (V × D)) (as : List (Option Addr)) (σ : Sg) (H : Hp), Takes X (wD X.K Z own T H0 gs) → Hd X.K own T H0 gs as G σ H → seI X tg iter σ H (IQ X.K own T H0 gs as σ R)
theorem WI.of {tg iter : Expr} {R : List D → Gm → Prop} {wi : TI} (h : PI X tg iter wi) (q : ∀ (own T : List Addr) (H0 : Hp) (gs : List (V × D)) (as : List (Option Addr)) (σ : Sg) (H : Hp), Takes X (wD X.K Z own T H0 gs) → Hd X.K own T H0 gs as G σ H → wi σ H (IQ X.K own T H0 gs as σ R)) : WI X Z tg iter G R :=
  fun own T H0 gs as σ H tk hh pins s I => h.run pins s σ H _ I (q own T H0 gs as σ H tk hh)
variable {tg iter : Expr} {R : List D → Gm → Prop}
def LenL (H : Hp) (a : Addr) (n : Nat) : Prop := ∃ xs, H a = some (.lst xs) ∧ xs.length = n
theorem walk_listD {K : PySem.W.Frag} {a : Addr} {n : Nat} : Walk (Itl K a) n (fun H => LenL H a n) (Itl K a).yld :=
  ⟨fun i H hi ⟨xs, e, hl⟩ => ⟨xs, xs[i]'(by omega), SqL.of e, by simp [show i < xs.length by omega]⟩, fun H ⟨xs, e, hl⟩ => ⟨xs, SqL.of e, by omega⟩, fun _ _ _ _ _ _ y => y⟩
theorem walk_enumD {K : PySem.W.Frag} {a : Addr} {n : Nat} : Walk (Ite K a) n (fun H => LenL H a n) (Ite K a).yld :=
  ⟨fun i H hi ⟨xs, e, hl⟩ => ⟨xs, xs[i]'(by omega), SqL.of e, by simp [show i < xs.length by omega]⟩, fun H ⟨xs, e, hl⟩ => ⟨xs, SqL.of e, by omega⟩, fun _ _ _ _ _ _ y => y⟩
def LenT (K : PySem.W.Frag) (H : Hp) (a : Addr) (n : Nat) : Prop := ∃ xs, SqT K H a xs ∧ xs.length = n
theorem walk_tupD {K : PySem.W.Frag} {a : Addr} {n : Nat} : Walk (Itt K a) n (fun H => LenT K H a n) (Itt K a).yld :=
  ⟨fun i H hi ⟨xs, e, hl⟩ => ⟨xs, xs[i]'(by omega), e, by simp [show i < xs.length by omega]⟩, fun H ⟨xs, e, hl⟩ => ⟨xs, e, by omega⟩, fun _ _ _ _ _ _ y => y⟩
theorem lst_of {K : PySem.W.Frag} {C : Hp} {a : Addr} {ds : List D} (h : Dd K C (.ref a) (.lst ds)) : ∃ xs, C a = some (.lst xs) ∧ DdA K C xs ds := by
  cases h with
  | lst h1 h2 => exact ⟨_, h1, h2⟩
theorem tup_of {K : PySem.W.Frag} {C : Hp} {a : Addr} {ds : List D} (h : Dd K C (.ref a) (.tup ds)) : ∃ xs, SqT K C a xs ∧ DdA K C xs ds := by
  cases h with
  | tup h1 h2 => exact ⟨_, h1, h2⟩
theorem wi_list (h : WE X Z iter G fun x G1 => ∃ ds, x = .im (.lst ds) ∧ R ds G1) : WI X Z tg iter G R :=
  WI.of (pi_list pe_se) fun own T H0 gs as σ H tk hh => seE_mono (h.se tk hh) fun v H1 ⟨x, G1, h1, h2, ds, ex, q⟩ => by
    subst ex
    obtain ⟨a, xs, rfl, e1, e2⟩ := Dd.dv (H := H1) h2 cut_sub
    refine ⟨a, rfl, ⟨xs, SqL.of e1⟩, (V.ref a, .lst ds) :: gs, G1, ds, _, _, fun _ hp => List.mem_cons_of_mem _ hp, h1.ghost h2, walk_listD, ?_, ?_, q⟩
    · intro own T H0 gs2 as' G' σ' H' hg2 h'
      obtain ⟨xs', z1, z2⟩ := lst_of (h'.gh (V.ref a, .lst ds) (hg2 _ List.mem_cons_self))
      exact ⟨xs', (cut_some.mp z1).2, z2.length⟩
    · intro i H x H' own T H0 gs2 as' G' σ' hg2 hi h' y
      obtain ⟨rfl, y⟩ := y
      obtain ⟨xs', z1, z2⟩ := lst_of (h'.gh (V.ref a, .lst ds) (hg2 _ List.mem_cons_self))
      refine ⟨h', ?_⟩
      exact z2.at_ (y xs' (SqL.of (cut_some.mp z1).2))
theorem scr_of {K : PySem.W.Frag} {C : Hp} {a : Addr} {ns : List Int} (h : Dd K C (.ref a) (.scr ns)) : SqL K C a (ns.map V.int) := by
  cases h with
  | scr h1 => exact h1
def LenS (K : PySem.W.Frag) (H : Hp) (a : Addr) (n : Nat) : Prop := ∃ xs, SqL K H a xs ∧ xs.length = n
theorem walk_scrD {K : PySem.W.Frag} {a : Addr} {n : Nat} : Walk (Itl K a) n (fun H => LenS K H a n) (Itl K a).yld :=
  ⟨fun i H hi ⟨xs, e, hl⟩ => ⟨xs, xs[i]'(by omega), e, by simp [show i < xs.length by omega]⟩, fun H ⟨xs, e, hl⟩ => ⟨xs, e, by omega⟩, fun _ _ _ _ _ _ y => y⟩
/-- the script -/
theorem wi_scr (h : WE X Z iter G fun x G1 => ∃ ns : List Int, x = .im (.scr ns) ∧ R (ns.map D.int) G1) : WI X Z tg iter G R :=
  WI.of (pi_list pe_se) fun own T H0 gs as σ H tk hh => seE_mono (h.se tk hh) fun v H1 ⟨x, G1, h1, h2, ns, ex, q⟩ => by
    subst ex
    have ev : ∃ a, v = .ref a := by
      cases (show Dd X.K (cut (DL.ex own as) H1) v (.scr ns) from h2)
      exact ⟨_, rfl⟩
    obtain ⟨a, rfl⟩ := ev
    have e1 := scr_of h2
    have sq : ∀ {H' : Hp} {S : Addr → Prop}, SqL X.K (cut S H') a (ns.map V.int) → SqL X.K H' a (ns.map V.int) := fun e => cut_sub.seq e
    refine ⟨a, rfl, ⟨_, sq e1⟩, (V.ref a, .scr ns) :: gs, G1, _, _, _, fun _ hp => List.mem_cons_of_mem _ hp, h1.ghost h2, walk_scrD, ?_, ?_, q⟩
    · intro own T H0 gs2 as' G' σ' H' hg2 h'
      have z1 := scr_of (h'.gh (V.ref a, .scr ns) (hg2 _ List.mem_cons_self))
      exact ⟨_, sq z1, by rw [List.length_map, List.length_map]⟩
    · intro i H x H' own T H0 gs2 as' G' σ' hg2 hi h' y
      obtain ⟨rfl, y⟩ := y
      have z1 := scr_of (h'.gh (V.ref a, .scr ns) (hg2 _ List.mem_cons_self))
      have z := y _ (sq z1)
      rw [List.getElem?_map] at z
      refine ⟨h', ?_⟩
      cases hn : ns[i]? with
      | none => rw [hn] at z; cases z
      | some n =>
        rw [hn] at z
        have e : x = .int n := (Option.some.inj z).symm
        exact ⟨.int n, by rw [List.getElem?_map, hn] <;> rfl, by rw [e]; exact .int n⟩
theorem wi_tup (h : WE X Z iter G fun x G1 => ∃ ds, x = .im (.tup ds) ∧ R ds G1) : WI X Z tg iter G R :=
  WI.of (pi_tup pe_se) fun own T H0 gs as σ H tk hh => seE_mono (h.se tk hh) fun v H1 ⟨x, G1, h1, h2, ds, ex, q⟩ => by
    subst ex
    obtain ⟨a, xs, rfl, e1, e2⟩ := Dv.tup (K := X.K) (H := H1) (v := v) (C := cut (ex own as) H1) h2
    refine ⟨a, rfl, ⟨xs, sqT_mono cut_sub e1⟩, (V.ref a, .tup ds) :: gs, G1, ds, _, _, fun _ hp => List.mem_cons_of_mem _ hp, h1.ghost h2, walk_tupD, ?_, ?_, q⟩
    · intro own T H0 gs2 as' G' σ' H' hg2 h'
      obtain ⟨xs', z1, z2⟩ := tup_of (h'.gh (V.ref a, .tup ds) (hg2 _ List.mem_cons_self))
      exact ⟨xs', sqT_mono cut_sub z1, z2.length⟩
    · intro i H x H' own T H0 gs2 as' G' σ' hg2 hi h' y
      obtain ⟨rfl, y⟩ := y
      obtain ⟨xs', z1, z2⟩ := tup_of (h'.gh (V.ref a, .tup ds) (hg2 _ List.mem_cons_self))
      exact ⟨h', z2.at_ (y xs' (sqT_mono cut_sub z1))⟩
theorem wi_str (h : WE X Z iter G fun x G1 => ∃ l, x = .im (.str l) ∧ R (l.map fun c => .str [c]) G1) : WI X Z tg iter G R :=
  WI.of (pi_str pe_se) fun own T H0 gs as σ H tk hh => seE_mono (h.se tk hh) fun v H1 ⟨x, G1, h1, h2, l, ex, q⟩ => by
    subst ex
    have e : v = .str ⟨l.toArray⟩ := Dv.str (K := X.K) (H := H1) (C := cut (ex own as) H1) h2
    refine ⟨_, e, gs, G1, _, _, _, fun _ hp => hp, h1, (by simpa using walk_str (z := ⟨l.toArray⟩)), fun _ _ _ _ _ _ _ _ _ _ => trivial, ?_, q⟩
    intro i H x H' own T H0 gs2 as' G' σ' hg2 hi h' y
    obtain ⟨rfl, c, ec, rfl⟩ := y
    refine ⟨h', .str [c], ?_, .str [c]⟩
    have ec' : l[i]? = some c := by simpa using ec
    rw [List.getElem?_map, ec'] <;> rfl
theorem wi_rng1 {p : Pos} (hm : X.mg "range" = none) (h : WE X Z e G fun x G1 => ∃ n : Int, Con G1 x (.int n) ∧ n ≤ 100000 ∧ -100000 ≤ n ∧ R ((List.range n.toNat).map fun (i : Nat) => .int (i : Int)) G1) (hg : Gl X "range" := by rfl)
    (hs : starEach [e] X.env = [(false, eval e X.env)] := by rfl) : WI X Z tg (.Call (.Name "range" p) [e] [] pos) G R :=
  WI.of (pi_range1 hg hm (pa_cons pe_se pa_nil (by rw [hs] <;> rfl)) hs) fun own T H0 gs as σ H tk hh => seE_mono (h.se tk hh) fun v H1 ⟨x, G1, h1, h2, n, c, hn, hn2, q⟩ => by
    refine ⟨n, by rw [(h1.dv h2 c).int], by omega, by omega, gs, G1, _, _, _, fun _ hp => hp, h1, (by simpa using walk_range (lo := 0) (n := n.toNat)), fun _ _ _ _ _ _ _ _ _ _ => trivial, ?_, q⟩
    intro i H x H' own T H0 gs2 as' G' σ' hg2 hi h' y
    obtain ⟨rfl, rfl⟩ := y
    refine ⟨h', .int (i : Int), ?_, ?_⟩
    rotate_left
    · exact Dd.int _
    have hi' : i < n.toNat := by simpa using hi
    simp [hi']
theorem wi_rng2 {p : Pos} (hm : X.mg "range" = none) (h : WE X Z a G fun x G1 => WE X Z b G1 fun y G2 => ∃ lo n : Int, Con G2 x (.int lo) ∧ Con G2 y (.int n) ∧ (n ≤ 100000 ∧ -100000 ≤ n ∧ lo ≤ 100000 ∧ -100000 ≤ lo) ∧ R ((List.range (n - lo).toNat).map fun (i : Nat) => .int (lo + (i : Int))) G2) (hg : Gl X "range" := by rfl)
    (hs : starEach [a, b] X.env = [(false, eval a X.env), (false, eval b X.env)] := by rfl) (hs2 : starEach [b] X.env = [(false, eval b X.env)] := by rfl) : WI X Z tg (.Call (.Name "range" p) [a, b] [] pos) G R :=
  WI.of (pi_range2 hg hm (pa_cons pe_se (pa_cons pe_se pa_nil (by rw [hs2] <;> rfl)) (by rw [hs, hs2] <;> rfl)) hs hs2) fun own T H0 gs as σ H tk hh => se2 tk hh h fun v w x y G2 H2 h1 h2 h3 ⟨lo, n, c1, c2, hn, q⟩ => by
    refine ⟨lo, n, by rw [(h1.dv h2 c1).int, (h1.dv h3 c2).int], by omega, gs, G2, _, _, _, fun _ hp => hp, h1, (by simpa using walk_range (lo := lo) (n := (n - lo).toNat)), fun _ _ _ _ _ _ _ _ _ _ => trivial, ?_, q⟩
    intro i H x H' own T H0 gs2 as' G' σ' hg2 hi h' y
    obtain ⟨rfl, rfl⟩ := y
    refine ⟨h', .int (lo + (i : Int)), ?_, .int _⟩
    have hi' : i < (n - lo).toNat := by simpa using hi
    simp only [List.getElem?_map, List.getElem?_range hi', Option.map_some]
theorem wi_enum {p tpos : Pos} {elts : List Expr} {kk : Nat} (hm : X.mg "enumerate" = none) (h : WE X Z e G fun x G1 => ∃ ds, x = .im (.lst ds) ∧ R (ds.zipIdx.map fun (p : D × Nat) => .tup [.int (p.2 : Int), p.1]) G1) (hg : Gl X "enumerate" := by rfl)
    (hs : starEach [e] X.env = [(false, eval e X.env)] := by rfl) : WI X Z (.Tuple elts kk tpos) (.Call (.Name "enumerate" p) [e] [] pos) G R :=
  WI.of (pi_enum hg hm (pa_cons pe_se pa_nil (by rw [hs] <;> rfl)) hs) fun own T H0 gs as σ H tk hh => seE_mono (h.se tk hh) fun v H1 ⟨x, G1, h1, h2, ds, ex, q⟩ => by
    subst ex
    obtain ⟨a, xs, rfl, e1, e2⟩ := Dd.dv (H := H1) h2 cut_sub
    refine ⟨a, xs, rfl, SqL.of e1, (V.ref a, .lst ds) :: gs, G1, _, _, _, fun _ hp => List.mem_cons_of_mem _ hp, h1.ghost h2, walk_enumD, ?_, ?_, q⟩
    · intro own T H0 gs2 as' G' σ' H' hg2 h'
      obtain ⟨xs', z1, z2⟩ := lst_of (h'.gh (V.ref a, .lst ds) (hg2 _ List.mem_cons_self))
      exact ⟨xs', (cut_some.mp z1).2, by rw [z2.length, List.length_map, List.length_zipIdx]⟩
    · intro i H x H' own T H0 gs2 as' G' σ' hg2 hi h' y
      obtain ⟨t, x0, rfl, nt, rfl, y⟩ := y
      obtain ⟨xs', z1, z2⟩ := lst_of (h'.gh (V.ref a, .lst ds) (hg2 _ List.mem_cons_self))
      obtain ⟨d, ed, dd⟩ := z2.at_ (y xs' (SqL.of (cut_some.mp z1).2))
      refine ⟨h'.grow (same_upd nt), .tup [.int (i : Int), d], ?_, ?_⟩
      · rw [List.getElem?_map, List.getElem?_zipIdx, ed]
        simp
      · exact .tup (SqT.of (h'.cut_new nt)) (.cons (.int _) (.cons (dd.mono (Hd.cutSame (same_upd nt))) .nil))

/-- for target in iter: body -/
theorem ws_for {body : List Stmt} (h : WI X Z tg iter G fun ds G1 => ∃ Iv : Nat → Gm → Prop, Iv 0 G1 ∧ (∀ i d G2, ds[i]? = some d → Iv i G2 → WG X Z tg (fun _ => True) d G2 fun G3 => WB X Z body G3 { E with nx := Iv (i + 1), ct := Iv (i + 1), bk := E.nx }) ∧ ∀ G2, Iv ds.length G2 → E.nx G2) (hc : X.calm = true := by rfl)
    (hs : ∀ x, foldedSetIterable iter X.env x = pure x := by intro _; rfl) : WS X Z (.For tg iter body [] pos) G E := fun own T H0 gs as pins s σ H tk ps I hh => by
  refine (ps_for (tb := seB X body) ps hc pi_se pg_se ps_se hs).run pins s σ H _ I ?_
  have hlen := I.len
  refine seI_mono (h own T H0 gs as σ H tk hh) fun J H1 ⟨gs', G1, ds, Gd, Y, hg, h1, wk, hG, hY, Iv, i0, hstep, hdone⟩ => ?_
  refine for_it wk (fun i σ' H' => ∃ as' G', Hd X.K own T H0 gs' as' G' σ' H' ∧ σ'.length = X.N.length ∧ Iv i G') ⟨as, G1, h1, hlen, i0⟩ (fun i σ' H' _ ⟨as', G', k1, _⟩ => hG own T H0 gs' as' G' σ' H' (fun _ z => z) k1) (fun i x σ' H' H2 hi ⟨as', G', k1, kl, iv⟩ y => ?_) (fun σ' H' ⟨as', G', k1, _, iv⟩ => ⟨as', G', k1.less hg, hdone G' iv⟩)
  obtain ⟨k2, d, ed, dd⟩ := hY i H' x H2 own T H0 gs' as' G' σ' (fun _ z => z) hi k1 y
  refine seG_mono (hstep i d G' ed iv own T H0 gs' as' σ' H2 x kl (takes_more tk hg) k2 dd) fun σ3 H3 ⟨G3, m1, ml, _, m3⟩ => ?_
  intro pins' s' I'
  refine thn (m3 own T H0 gs' as' pins' s' σ3 H3 (takes_more tk hg) ps I' m1) fun f s2 q => ?_
  have le2 : ∀ {σ4 : Sg} {H4 : Hp} {s2 : Shared}, Inv X pins' σ4 H4 s2 → σ4.length = X.N.length := fun I4 => I4.len
  cases f with
  | next =>
    obtain ⟨σ4, H4, I4, as4, G4, n1, n2⟩ := q
    exact ⟨σ4, H4, I4, as4, G4, n1, I4.len, n2⟩
  | cont =>
    obtain ⟨σ4, H4, I4, as4, G4, n1, n2⟩ := q
    exact ⟨σ4, H4, I4, as4, G4, n1, I4.len, n2⟩
  | brk =>
    obtain ⟨σ4, H4, I4, as4, G4, n1, n2⟩ := q
    exact ⟨σ4, H4, I4, as4, G4, n1.less hg, n2⟩
  | ret v =>
    obtain ⟨x4, σ4, H4, I4, r4, as4, G4, σ5, x5, n1, n3, n2⟩ := q
    exact ⟨x4, σ4, H4, I4, r4, as4, G4, σ5, x5, n1.less hg, n3, n2⟩

/-! ### list comprehensions -/
def wipeS (s : List Sl) : List Nat → List Sl
  | [] => s
  | v :: vs => (wipeS s vs).set v .un
theorem wipeS_at {s : List Sl} {j : Nat} : ∀ {vs : List Nat}, (j ∈ vs → (wipeS s vs).getD j .un = .un) ∧ (j ∉ vs → (wipeS s vs).getD j .un = s.getD j .un)
  | [] => ⟨(fun h => by cases h), (fun _ => rfl)⟩
  | v :: vs => by
    obtain ⟨h1, h2⟩ := wipeS_at (s := s) (j := j) (vs := vs)
    by_cases e : v = j
    · subst e
      refine ⟨fun _ => ?_, fun h => absurd List.mem_cons_self h⟩
      show ((wipeS s vs).set v .un).getD v .un = .un
      by_cases hl : v < (wipeS s vs).length
      · exact getD_set_eq hl
      · exact getD_ge (by rw [List.length_set]; omega)
    · have q : ((wipeS s vs).set v .un).getD j .un = (wipeS s vs).getD j .un := getD_set_ne e
      exact ⟨fun h => q.trans (h1 ((List.mem_cons.mp h).resolve_left fun z => e z.symm)), fun h => q.trans (h2 fun z => h (List.mem_cons_of_mem _ z))⟩
theorem wipe_at {σ : Sg} {j : Nat} : ∀ {vs : List Nat}, j ∉ vs → (wipe σ vs)[j]? = σ[j]?
  | [], _ => rfl
  | v :: vs, h => by
    show ((wipe σ vs).set v none)[j]? = _
    rw [List.getElem?_set_ne (fun z => h (by rw [z]; exact List.mem_cons_self))]
    exact wipe_at fun z => h (List.mem_cons_of_mem _ z)
/-- the slots of some names forgotten, in the slots and in what is known -/
theorem Hd.wipe {K : PySem.W.Frag} {own T : List Addr} {H0 H : Hp} {gs : List (V × D)} {as : List (Option Addr)} {σ σ' : Sg} {vs : List Nat} (h : Hd K own T H0 gs as G σ H) (e : ∀ j, j ∉ vs → σ'[j]? = σ[j]?) :
    Hd K own T H0 gs as ⟨wipeS G.sl vs, G.om, G.tn⟩ σ' H := by
  refine ⟨h.tt, h.tl, h.tp, h.fr, h.al, h.ol, h.oc, h.nd, h.nw, fun j => ?_, h.gh⟩
  obtain ⟨h1, h2⟩ := wipeS_at (s := G.sl) (j := j) (vs := vs)
  show SlOk K _ _ σ'[j]? ((wipeS G.sl vs).getD j .un)
  by_cases hj : j ∈ vs
  · rw [h1 hj]; trivial
  · rw [h2 hj, e j hj]
    exact h.sl j
theorem takes_blk {X' : Cx} {own T : List Addr} {H0 : Hp} {gs : List (V × D)} : Takes X' (wD X'.K nz own T H0 gs) := fun u s' x => by
  obtain ⟨_, _, _, _, _, _, _, _, _, _, _, _, _, _, _, _, z⟩ := x
  obtain ⟨_, _, _, _, _, z⟩ := z
  exact z.elim
/-- the new list of a comprehension lies among the callers' objects while it is made -/
theorem Hd.inD {K : PySem.W.Frag} {own T : List Addr} {H0 H : Hp} {gs : List (V × D)} {as : List (Option Addr)} {σ : Sg} {p : Addr} {o : HO} (h : Hd K own T H0 gs as G σ H) (hp : H p = none) : Hd K (p :: own) T (upd H0 p o) gs as G σ (upd H p o) := by
  have nf := h.fresh hp
  have sm := same_upd (o := o) hp
  have nT : p ∉ T := fun z => nf (.inl (h.tt p z))
  have cs : Same (cut (ex own as) H) (cut (ex (p :: own) as) (upd H p o)) := cut_mono fun b u n e => by
    refine ⟨fun hx => ?_, sm b u e⟩
    rcases hx with hx | hx
    · rcases List.mem_cons.mp hx with z | z
      · rw [z, hp] at e; cases e
      · exact n (.inl z)
    · exact n (.inr hx)
  have nas : ∀ k a, as.getD k none = some a → a ≠ p := fun k a e z => nf (.inr (mem_as.mpr ⟨k, by rw [← z]; exact e⟩))
  refine ⟨fun b hb => List.mem_cons_of_mem _ (h.tt b hb), h.tl, h.tp, fun b u n e => ?_, fun b hb => ?_, h.ol, fun k => (h.oc k).mono cs fun a u _ e => sm a u e, h.nd, fun k a e => ?_, fun i => (h.sl i).mono cs, fun g hg => (h.gh g hg).mono cs⟩
  · by_cases z : b = p
    · subst z; rw [upd_same] at e ⊢; exact e
    · rw [upd_ne z] at e ⊢
      exact h.fr b u n e
  · rcases List.mem_cons.mp hb with z | z
    · exact ⟨o, by rw [z, upd_same]⟩
    · obtain ⟨u, e⟩ := h.al b z
      exact ⟨u, sm b u e⟩
  · rcases h.nw k a e with z | ⟨z1, z2⟩
    · exact .inl z
    · exact .inr ⟨by rw [upd_ne (nas k a e)]; exact z1, fun z => (List.mem_cons.mp z).elim (nas k a e) z2⟩
theorem takes_blkz {X' : Cx} {K : PySem.W.Frag} {own T : List Addr} {H0 : Hp} {gs : List (V × D)} : Takes X' (wD K nz own T H0 gs) := fun u s' x => by
  obtain ⟨_, _, _, _, _, _, _, _, _, _, _, _, _, _, _, _, z⟩ := x
  obtain ⟨_, _, _, _, _, z⟩ := z
  exact z.elim
/-- its content changes -/
theorem Hd.reD {K : PySem.W.Frag} {own T : List Addr} {H0 H : Hp} {gs : List (V × D)} {as : List (Option Addr)} {σ : Sg} {p : Addr} {o o' : HO} (h : Hd K (p :: own) T (upd H0 p o) gs as G σ H) (nT : p ∉ T) : Hd K (p :: own) T (upd H0 p o') gs as G σ (upd H p o') := by
  have nas : ∀ k a, as.getD k none = some a → a ≠ p := fun k a e z => by
    subst z
    rcases h.nw k a e with z | ⟨_, z⟩
    · exact nT z
    · exact z List.mem_cons_self
  have cs : Same (cut (ex (p :: own) as) H) (cut (ex (p :: own) as) (upd H p o')) := cut_mono fun b u n e => ⟨n, by rw [upd_ne (fun z => n (.inl (by rw [z]; exact List.mem_cons_self)))]; exact e⟩
  refine ⟨h.tt, h.tl, h.tp, fun b u n e => ?_, fun b hb => ?_, h.ol, fun k => (h.oc k).mono cs fun a u ea e => by rw [upd_ne (nas k a ea)]; exact e, h.nd, fun k a e => ?_, fun i => (h.sl i).mono cs, fun g hg => (h.gh g hg).mono cs⟩
  · by_cases z : b = p
    · subst z; rw [upd_same] at e ⊢; exact e
    · rw [upd_ne z] at e ⊢
      exact h.fr b u n (by rw [upd_ne z]; exact e)
  · by_cases z : b = p
    · exact ⟨o', by rw [z, upd_same]⟩
    · obtain ⟨u, e⟩ := h.al b hb
      exact ⟨u, by rw [upd_ne z]; exact e⟩
  · rcases h.nw k a e with z | ⟨z1, z2⟩
    · exact .inl z
    · exact .inr ⟨by rw [upd_ne (nas k a e)] at z1 ⊢; exact z1, z2⟩
/-- it is made: it is the newest owned object -/
theorem Hd.outD {K : PySem.W.Frag} {own T : List Addr} {H0 H : Hp} {gs : List (V × D)} {as : List (Option Addr)} {σ : Sg} {p : Addr} {xs : List V} {ds : List D} (h : Hd K (p :: own) T (upd H0 p (.lst xs)) gs as G σ H) (hT : ∀ b ∈ T, b ∈ own) (nf : ¬ ex own as p) (h0 : H0 p = none) (hd : DdA K (cut (ex (p :: own) as) H) xs ds) :
    Hd K own T H0 gs as G σ H ∧ Hd K own T H0 gs (as ++ [some p]) ⟨G.sl, G.om ++ [Oc.li ds], G.tn⟩ σ H := by
  have nT : p ∉ T := fun z => nf (.inl (hT p z))
  have hpv : H p = some (.lst xs) := h.fr p _ nT upd_same
  have nas : ∀ k a, as.getD k none = some a → a ≠ p := fun k a e z => nf (.inr (mem_as.mpr ⟨k, by rw [← z]; exact e⟩))
  have cs : Same (cut (ex (p :: own) as) H) (cut (ex own as) H) := cut_mono fun b u n e => ⟨fun z => n (z.elim (fun z => .inl (List.mem_cons_of_mem _ z)) .inr), e⟩
  have ce : cut (ex (p :: own) as) H = cut (ex own (as ++ [some p])) H := by
    funext b
    have q : ex (p :: own) as b ↔ ex own (as ++ [some p]) b := by
      unfold ex
      rw [List.mem_cons, List.mem_append, List.mem_singleton, Option.some.injEq]
      constructor
      · rintro ((z | z) | z)
        · exact .inr (.inr z)
        · exact .inl z
        · exact .inr (.inl z)
      · rintro (z | z | z)
        · exact .inl (.inr z)
        · exact .inr z
        · exact .inl (.inl z)
    unfold cut
    by_cases z : ex (p :: own) as b
    · rw [if_pos z, if_pos (q.mp z)]
    · rw [if_neg z, if_neg fun w => z (q.mpr w)]
  have A : Hd K own T H0 gs as G σ H := by
    refine ⟨hT, h.tl, h.tp, fun b u n e => h.fr b u n (by rw [upd_ne (ne_of_none e h0)]; exact e), fun b hb => h.al b (List.mem_cons_of_mem _ hb), h.ol, fun k => (h.oc k).mono cs fun _ _ _ e => e, h.nd, fun k a e => ?_, fun i => (h.sl i).mono cs, fun g hg => (h.gh g hg).mono cs⟩
    rcases h.nw k a e with z | ⟨z1, z2⟩
    · exact .inl z
    · exact .inr ⟨by rw [upd_ne (nas k a e)] at z1; exact z1, fun z => z2 (List.mem_cons_of_mem _ z)⟩
  refine ⟨A, ?_⟩
  have hol : as.length = G.om.length := h.ol
  have cases_ : ∀ k a, (as ++ [some p]).getD k none = some a → (k < as.length ∧ as.getD k none = some a) ∨ (k = as.length ∧ a = p) := fun k a e => by
    by_cases hk : k < as.length
    · rw [getD_app_lt hk] at e
      exact .inl ⟨hk, e⟩
    · by_cases hk2 : k = as.length
      · subst hk2
        rw [getD_app_len] at e
        exact .inr ⟨rfl, (Option.some.inj e).symm⟩
      · rw [getD_ge (by rw [List.length_append]; show as.length + 1 ≤ k; omega)] at e
        cases e
  refine ⟨hT, h.tl, fun j a ej => ?_, A.fr, A.al, ?_, fun k => ?_, fun j k a e1 e2 => ?_, fun k a e => ?_, fun i => ?_, fun g hg => ?_⟩
  · have z := h.tp j a ej
    rw [getD_app_lt (lt_of_getD z)]
    exact z
  · show (as ++ [some p]).length = (G.om ++ [Oc.li ds]).length
    rw [List.length_append, List.length_append, hol] <;> rfl
  · show OcOk K _ _ ((as ++ [some p]).getD k none) ((G.om ++ [Oc.li ds]).getD k .dead)
    rw [← ce]
    by_cases hk : k < as.length
    · rw [getD_app_lt hk, getD_app_lt (by omega)]
      exact h.oc k
    · by_cases hk2 : k = as.length
      · subst hk2
        rw [getD_app_len, hol, getD_app_len]
        exact ⟨xs, hpv, hd⟩
      · rw [getD_ge (by rw [List.length_append]; show as.length + 1 ≤ k; omega), getD_ge (by rw [List.length_append, ← hol]; show as.length + 1 ≤ k; omega)]
        trivial
  · rcases cases_ j a e1 with ⟨_, e1⟩ | ⟨e1, z1⟩
    · rcases cases_ k a e2 with ⟨_, e2⟩ | ⟨e2, z2⟩
      · exact h.nd j k a e1 e2
      · exact absurd z2 (nas j a e1)
    · rcases cases_ k a e2 with ⟨_, e2⟩ | ⟨e2, z2⟩
      · exact absurd z1 (nas k a e2)
      · rw [e1, e2]
  · rcases cases_ k a e with ⟨_, e⟩ | ⟨_, e⟩
    · exact A.nw k a e
    · subst e
      exact .inr ⟨h0, fun z => nf (.inl z)⟩
  · show SlOk K _ (as ++ [some p]) σ[i]? (G.sl.getD i .un)
    rw [← ce]
    have q := h.sl i
    cases e : G.sl.getD i .un with
    | un => trivial
    | im d => rw [e] at q; exact q
    | rw v => rw [e] at q; exact q
    | ow k =>
      rw [e] at q
      obtain ⟨a, e1, e2⟩ := q
      exact ⟨a, e1, by rw [getD_app_lt (lt_of_getD e2)]; exact e2⟩
  · rw [← ce]
    exact h.gh g hg
theorem dda_of_zip {K : PySem.W.Frag} {C : Hp} : ∀ {vs : List V} {ds : List D}, vs.length = ds.length → (∀ p ∈ vs.zip ds, Dd K C p.1 p.2) → DdA K C vs ds
  | [], [], _, _ => .nil
  | v :: vs, d :: ds, h, q => .cons (q (v, d) List.mem_cons_self) (dda_of_zip (by simpa using h) fun p hp => q p (List.mem_cons_of_mem _ hp))
  | [], _ :: _, h, _ => by simp at h
  | _ :: _, [], h, _ => by simp at h
theorem zip_of_dda {K : PySem.W.Frag} {C : Hp} : ∀ {vs : List V} {ds : List D}, DdA K C vs ds → ∀ p ∈ vs.zip ds, Dd K C p.1 p.2
  | _, _, .nil, p, hp => by simp at hp
  | _, _, .cons h t, p, hp => by
    rw [List.zip_cons_cons] at hp
    rcases List.mem_cons.mp hp with z | z
    · rw [z]; exact h
    · exact zip_of_dda t p z
theorem wipe_eq {σ σ2 : Sg} {vs : List Nat} (hl : σ2.length = σ.length) (h : ∀ j, j ∉ vs → σ2[j]? = (wipe σ vs)[j]?) : wipe σ2 vs = wipe σ vs := by
  have wn : ∀ (τ : Sg) (ws : List Nat) (j : Nat), j ∈ ws → j < τ.length → (wipe τ ws)[j]? = some none := by
    intro τ ws
    induction ws with
    | nil => intro j h; cases h
    | cons v ws ih =>
      intro j hj hlt
      show ((wipe τ ws).set v none)[j]? = some none
      by_cases e : v = j
      · subst e
        exact List.getElem?_set_self (by rw [wipe_length]; exact hlt)
      · rw [List.getElem?_set_ne e]
        exact ih j ((List.mem_cons.mp hj).resolve_left fun z => e z.symm) hlt
  refine List.ext_getElem? fun j => ?_
  by_cases hj : j ∈ vs
  · by_cases hlt : j < σ.length
    · rw [wn σ2 vs j hj (by omega), wn σ vs j hj hlt]
    · rw [List.getElem?_eq_none (by rw [wipe_length]; omega), List.getElem?_eq_none (by rw [wipe_length]; omega)]
  · rw [wipe_at hj, h j hj]
def gBlk (X : Cx) (scope : Scope) (tg : Expr) : TG := fun v σ H Q => ∀ (s : Shared) (H' : Hp) (C : Addr) (cl : List (Str × Addr)) (fp : List Addr), seG (X.blk s H' scope (compEnvC scope cl C X.env) fp) tg v σ H Q
def eBlk (X : Cx) (scope : Scope) (elt : Expr) : TE := fun σ H Q => ∀ (s : Shared) (H' : Hp) (C : Addr) (cl : List (Str × Addr)) (fp : List Addr), seE (X.blk s H' scope (compEnvC scope cl C X.env) fp) elt σ H Q
def tBlk (X : Cx) (scope : Scope) (c : Expr) : TT := fun σ H Q => ∀ (s : Shared) (H' : Hp) (C : Addr) (cl : List (Str × Addr)) (fp : List Addr), seT (X.blk s H' scope (compEnvC scope cl C X.env) fp) c σ H Q
theorem WI.mono {R R' : List D → Gm → Prop} (h : WI X Z tg iter G R) (q : ∀ ds G1, R ds G1 → R' ds G1) : WI X Z tg iter G R' := fun own T H0 gs as σ H tk hh =>
  seI_mono (h own T H0 gs as σ H tk hh) fun J H1 ⟨gs', G1, ds, Gd, Y, hg, h1, wk, hG, hY, r⟩ => ⟨gs', G1, ds, Gd, Y, hg, h1, wk, hG, hY, q ds G1 r⟩
/-- [elt for tg in iter if ..]: Iv by the turn, the items made, the owned objects; wt: the test -/
theorem wef_lcG {elt : Expr} {ifs : List Expr} {scope : Scope} {own' : List (Str × Nat)} {Q : Oc → Gm → Prop} (hN : X.N.Nodup)
    (wt : Gm → (Bool → Gm → Prop) → Prop) (tt : TT)
    (htt : ∀ (s : Shared) (H : Hp) (C : Addr) (cl : List (Str × Addr)) (fp : List Addr), PTs (X.blk s H scope (compEnvC scope cl C X.env) fp) ifs tt)
    (hwt : ∀ (G3 : Gm) (R : Bool → Gm → Prop) (own T : List Addr) (H0 : Hp) (gs : List (V × D)) (as : List (Option Addr)) (σ : Sg) (H : Hp), wt G3 R → Hd X.K own T H0 gs as G3 σ H → tt σ H (TQ X.K own T H0 gs as σ R))
    (hmt : ∀ (σ : Sg) (H : Hp) (R R' : Bool → Hp → Prop), tt σ H R → (∀ b H, R b H → R' b H) → tt σ H R')
    (h : WI X Z tg iter G fun ds G1 => ds.length ≤ 100000 ∧ ∃ Iv : Nat → List D → List Oc → Prop, Iv 0 [] G1.om ∧
      (∀ i d acc om, ds[i]? = some d → Iv i acc om → ∃ R3 : Gm → Prop, (∀ (s : Shared) (H : Hp) (C : Addr) (cl : List (Str × Addr)) (fp : List Addr),
        WG (X.blk s H scope (compEnvC scope cl C X.env) fp) nz tg (fun j => j ∈ own'.map (·.2)) d ⟨wipeS G1.sl (own'.map (·.2)), om, G1.tn⟩ R3) ∧
        ∀ G3, R3 G3 → wt G3 fun b G4 => (b = true → ∀ (s : Shared) (H : Hp) (C : Addr) (cl : List (Str × Addr)) (fp : List Addr), WE (X.blk s H scope (compEnvC scope cl C X.env) fp) nz elt G4 fun y G5 => ∃ e, y = .im e ∧ wipeS G5.sl (own'.map (·.2)) = wipeS G1.sl (own'.map (·.2)) ∧ G5.tn = G1.tn ∧ Iv (i + 1) (acc ++ [e]) G5.om) ∧
          (b = false → wipeS G4.sl (own'.map (·.2)) = wipeS G1.sl (own'.map (·.2)) ∧ G4.tn = G1.tn ∧ Iv (i + 1) acc G4.om)) ∧
      ∀ acc om, Iv ds.length acc om → Q (.li acc) ⟨wipeS G1.sl (own'.map (·.2)), om, G1.tn⟩)
    (hc : X.calm = true) (ok : blkC X.N X.env.scope scope own' = true) (hs : ∀ x, foldedSetIterable iter X.env x = pure x) : WEF X Z (.ListComp elt [⟨tg, iter, ifs, 0⟩] scope pos) G Q := by
  intro own T H0 gs as pins s σ H tk I hh
  have hl := I.len
  refine (pe_lc (wi := seI X tg iter) (g := gBlk X scope tg) (tt := tt) (te := eBlk X scope elt) hc hN pi_se (blkOk_by ok)
    (fun s H C cl fp => ⟨fun pins s' σ H' v u Q I r h => h s H C cl fp pins s' u I r⟩) htt (fun s H C cl fp => ⟨fun pins s' σ H' Q I h => h s H C cl fp pins s' I⟩) hs).run pins s σ H _ I ?_
  refine seI_mono (h own T H0 gs as σ H tk hh) fun J H1 ⟨gs', G1, ds, Gd, Y, hg, h1, wk, hG, hY, hz, Iv, i0, hstep, hdone⟩ => ?_
  intro p hp
  have nf := h1.fresh hp
  have nT : p ∉ T := fun z => nf (.inl (h1.tt p z))
  have h00 := h1.fresh0 hp
  generalize hvs : own'.map (·.2) = vs at *
  refine lc_it (g := gBlk X scope tg) (tt := tt) (te := eBlk X scope elt) (vs := vs) (σ := σ) (H1 := H1) (D := p) (Qd := FQ X.K own T H0 gs as σ Q (V.ref p)) wk (fun i H2 => ∃ (om : List Oc) (acc : List D) (av : List V), Hd X.K (p :: own) T (upd H0 p (.lst av)) (av.zip acc ++ gs') as ⟨wipeS G1.sl vs, om, G1.tn⟩ (wipe σ vs) H2 ∧ av.length = acc.length ∧ acc.length ≤ i ∧ Iv i acc om) ?_ ?_ ?_ ?_
  · exact ⟨G1.om, [], [], (h1.inD hp).wipe fun j hj => wipe_at hj, rfl, Nat.le_refl _, i0⟩
  · rintro i H2 _ ⟨om, acc, av, k1, _⟩
    exact hG _ _ _ _ _ _ _ _ (fun z hz => List.mem_append_right _ hz) k1
  · rintro i x H2 H3 hi ⟨om, acc, av, k1, kl, kz, iv⟩ y
    obtain ⟨k2, d, ed, dd⟩ := hY i H2 x H3 _ _ _ _ _ _ _ (fun z hz => List.mem_append_right _ hz) hi k1 y
    obtain ⟨R3, w1, w2⟩ := hstep i d acc om ed iv
    intro s' H' C cl fp
    refine seG_mono (w1 s' H' C cl fp _ _ _ _ _ _ _ x (by rw [wipe_length]; exact hl) takes_blk k2 dd) fun σ4 H4 ⟨G3, m1, ml, mt, m3⟩ => ?_
    have we : wipe σ4 vs = wipe σ vs := wipe_eq (by rw [ml]; exact hl.symm) fun j hj => mt j hj
    refine ⟨we, hmt _ _ _ _ (hwt G3 _ _ _ _ _ _ _ _ (w2 G3 m3) m1) fun b H5 ⟨G4, n1, n2, n3⟩ => ?_⟩
    cases b with
    | false =>
      rw [if_neg Bool.false_ne_true]
      obtain ⟨e1, e2, iv'⟩ := n3 rfl
      refine ⟨G4.om, acc, av, ?_, kl, by omega, iv'⟩
      have q := n1.wipe (σ' := wipe σ vs) (vs := vs) fun j hj => by rw [← we]; exact wipe_at hj
      rw [e1, e2] at q
      exact q
    | true =>
      rw [if_pos rfl]
      intro s2 H2' C2 cl2 fp2
      refine seE_mono ((n2 rfl s2 H2' C2 cl2 fp2).se takes_blk n1) fun yv H6 ⟨yx, G5, o1, o2, e, ey, e1, e2, iv'⟩ => ?_
      subst ey
      refine ⟨av, o1.fr p _ nT upd_same, sz_lt (by have : i < ds.length := hi; omega), G5.om, acc ++ [e], av ++ [yv], ?_, by rw [List.length_append, List.length_append, kl] <;> rfl, by rw [List.length_append]; show acc.length + 1 ≤ i + 1; omega, iv'⟩
      have q := (o1.reD (o' := .lst (av ++ [yv])) nT).wipe (σ' := wipe σ vs) (vs := vs) fun j hj => by rw [← we]; exact wipe_at hj
      rw [e1, e2] at q
      have cs : Same (cut (ex (p :: own) as) H6) (cut (ex (p :: own) as) (upd H6 p (.lst (av ++ [yv])))) := cut_mono fun b u n e => ⟨n, by rw [upd_ne (fun z => n (.inl (by rw [z]; exact List.mem_cons_self)))]; exact e⟩
      refine ⟨q.tt, q.tl, q.tp, q.fr, q.al, q.ol, q.oc, q.nd, q.nw, q.sl, fun g hg => ?_⟩
      rw [List.zip_append kl] at hg
      rcases List.mem_append.mp hg with hg | hg
      · rcases List.mem_append.mp hg with hg | hg
        · exact q.gh g (List.mem_append_left _ hg)
        · have e0 : g = (yv, e) := by simpa using hg
          rw [e0]
          exact Dd.mono cs o2
      · exact q.gh g (List.mem_append_right _ hg)
  · rintro H2 ⟨om, acc, av, k1, kl, _, iv⟩
    have hd : DdA X.K (cut (ex (p :: own) as) H2) av acc := dda_of_zip kl fun g hg => k1.gh g (List.mem_append_left _ hg)
    have k1' := (k1.less (gs' := gs) fun g hg' => List.mem_append_right _ (hg g hg'))
    have k2 : Hd X.K (p :: own) T (upd H0 p (.lst av)) gs as ⟨wipeS G1.sl vs, om, G1.tn⟩ σ H2 := by
      refine ⟨k1'.tt, k1'.tl, k1'.tp, k1'.fr, k1'.al, k1'.ol, k1'.oc, k1'.nd, k1'.nw, fun j => ?_, k1'.gh⟩
      have q := k1'.sl j
      obtain ⟨z1, z2⟩ := wipeS_at (s := G1.sl) (j := j) (vs := vs)
      show SlOk X.K _ _ σ[j]? ((wipeS G1.sl vs).getD j .un)
      by_cases hj : j ∈ vs
      · rw [z1 hj]; trivial
      · have q' : SlOk X.K (cut (ex (p :: own) as) H2) as (wipe σ vs)[j]? ((wipeS G1.sl vs).getD j .un) := q
        rw [wipe_at hj] at q'
        exact q'
    obtain ⟨o1, o2⟩ := k2.outD h1.tt nf h00 hd
    exact ⟨p, ⟨wipeS G1.sl vs, om, G1.tn⟩, .li acc, rfl, nf, o1, o2, hdone acc om iv⟩
/-- without a test -/
theorem wef_lc {elt : Expr} {scope : Scope} (own' : List (Str × Nat)) {Q : Oc → Gm → Prop} (hN : X.N.Nodup)
    (h : WI X Z tg iter G fun ds G1 => ds.length ≤ 100000 ∧ ∃ Iv : Nat → List D → List Oc → Prop, Iv 0 [] G1.om ∧
      (∀ i d acc om, ds[i]? = some d → Iv i acc om → ∀ (s : Shared) (H : Hp) (C : Addr) (cl : List (Str × Addr)) (fp : List Addr),
        WG (X.blk s H scope (compEnvC scope cl C X.env) fp) nz tg (fun j => j ∈ own'.map (·.2)) d ⟨wipeS G1.sl (own'.map (·.2)), om, G1.tn⟩ fun G3 =>
          ∀ (s : Shared) (H : Hp) (C : Addr) (cl : List (Str × Addr)) (fp : List Addr), WE (X.blk s H scope (compEnvC scope cl C X.env) fp) nz elt G3 fun y G5 => ∃ e, y = .im e ∧ wipeS G5.sl (own'.map (·.2)) = wipeS G1.sl (own'.map (·.2)) ∧ G5.tn = G1.tn ∧ Iv (i + 1) (acc ++ [e]) G5.om) ∧
      ∀ acc om, Iv ds.length acc om → Q (.li acc) ⟨wipeS G1.sl (own'.map (·.2)), om, G1.tn⟩)
    (hc : X.calm = true := by rfl) (ok : blkC X.N X.env.scope scope own' = true := by rfl) (hs : ∀ x, foldedSetIterable iter X.env x = pure x := by intro _; rfl) : WEF X Z (.ListComp elt [⟨tg, iter, [], 0⟩] scope pos) G Q := by
  refine wef_lcG hN (fun G3 R => R true G3) tYes (fun _ _ _ _ _ => pts_nil) (fun G3 R own T H0 gs as σ H h hh => ⟨G3, hh, h⟩) (fun σ H R R' h q => q _ _ h) ?_ hc ok hs
  exact h.mono fun ds G1 ⟨hz, Iv, i0, hstep, hdone⟩ => ⟨hz, Iv, i0, fun i d acc om ed iv => ⟨_, fun s H C cl fp => hstep i d acc om ed iv s H C cl fp, fun G3 q => ⟨fun _ => q, fun z => nomatch z⟩⟩, hdone⟩
/-- with one test -/
theorem wef_lcIf {elt c : Expr} {scope : Scope} (own' : List (Str × Nat)) {Q : Oc → Gm → Prop} (hN : X.N.Nodup)
    (h : WI X Z tg iter G fun ds G1 => ds.length ≤ 100000 ∧ ∃ Iv : Nat → List D → List Oc → Prop, Iv 0 [] G1.om ∧
      (∀ i d acc om, ds[i]? = some d → Iv i acc om → ∀ (s : Shared) (H : Hp) (C : Addr) (cl : List (Str × Addr)) (fp : List Addr),
        WG (X.blk s H scope (compEnvC scope cl C X.env) fp) nz tg (fun j => j ∈ own'.map (·.2)) d ⟨wipeS G1.sl (own'.map (·.2)), om, G1.tn⟩ fun G3 =>
          ∀ (s : Shared) (H : Hp) (C : Addr) (cl : List (Str × Addr)) (fp : List Addr), WT (X.blk s H scope (compEnvC scope cl C X.env) fp) nz c G3 fun b G4 =>
            (b = true → ∀ (s : Shared) (H : Hp) (C : Addr) (cl : List (Str × Addr)) (fp : List Addr), WE (X.blk s H scope (compEnvC scope cl C X.env) fp) nz elt G4 fun y G5 => ∃ e, y = .im e ∧ wipeS G5.sl (own'.map (·.2)) = wipeS G1.sl (own'.map (·.2)) ∧ G5.tn = G1.tn ∧ Iv (i + 1) (acc ++ [e]) G5.om) ∧
            (b = false → wipeS G4.sl (own'.map (·.2)) = wipeS G1.sl (own'.map (·.2)) ∧ G4.tn = G1.tn ∧ Iv (i + 1) acc G4.om)) ∧
      ∀ acc om, Iv ds.length acc om → Q (.li acc) ⟨wipeS G1.sl (own'.map (·.2)), om, G1.tn⟩)
    (hc : X.calm = true := by rfl) (ok : blkC X.N X.env.scope scope own' = true := by rfl) (hs : ∀ x, foldedSetIterable iter X.env x = pure x := by intro _; rfl) : WEF X Z (.ListComp elt [⟨tg, iter, [c], 0⟩] scope pos) G Q := by
  refine wef_lcG hN (fun G3 R => ∀ (s : Shared) (H : Hp) (C : Addr) (cl : List (Str × Addr)) (fp : List Addr), WT (X.blk s H scope (compEnvC scope cl C X.env) fp) nz c G3 R) (tBlk X scope c)
    (fun s H C cl fp => pts_one ⟨fun pins s' σ H' Q I h => h s H C cl fp pins s' I⟩) (fun G3 R own T H0 gs as σ H h hh => fun s H' C cl fp => (h s H' C cl fp).se takes_blk hh) (fun σ H R R' h q => fun s H' C cl fp => seT_mono (h s H' C cl fp) q) ?_ hc ok hs
  exact h.mono fun ds G1 ⟨hz, Iv, i0, hstep, hdone⟩ => ⟨hz, Iv, i0, fun i d acc om ed iv => ⟨_, fun s H C cl fp => hstep i d acc om ed iv s H C cl fp, fun G3 q => q⟩, hdone⟩
end
end DL

namespace DL
open PySem PySem.Spec L2

section
variable {X : Cx} {Z : Xz} {e a b o : Expr} {es : List Expr} {G : Gm} {pos apos cpos : Pos} {E : En} {Q : Vl → Gm → Prop}
/-! ### methods of owned lists -/
theorem ty_ow {K : PySem.W.Frag} {own T : List Addr} {H0 H : Hp} {gs : List (V × D)} {as : List (Option Addr)} {σ : Sg} {k : Nat} {a : Addr} {ds : List D} (h : Hd K own T H0 gs as G σ H) (e : as.getD k none = some a) (o : G.om.getD k .dead = .li ds) : tyV K "list" (.ref a) H := by
  obtain ⟨vs, h1, _⟩ := h.li e o
  exact Or.inl ⟨rfl, vs, SqL.of h1⟩
/-- o.append(e) -/
theorem we_append (h : WE X Z o G fun x G1 => ∃ k, x = .ow k ∧ (∃ ds0, G1.om.getD k .dead = .li ds0) ∧ WE X Z e G1 fun y G2 => ∃ d ds, y = .im d ∧ G2.om.getD k .dead = .li ds ∧ ds.length < 100000 ∧ Q (.im .non) ⟨G2.sl, G2.om.set k (.li (ds ++ [d])), G2.tn⟩)
    (hbase : attributeBase o "append" X.env (eval o X.env) = eval o X.env := by rfl)
    (hfew : ((backTo cpos (starEach (e :: []) X.env)).all (fun x => !x.1) && (backToKw cpos (keywordEach [] X.env)).all (fun x => x.1.isSome)
      && decide ((e :: ([] : List Expr)).length + ([] : List Keyword).length + (if ([] : List Keyword).isEmpty then 0 else 1) < 30)) = true := by rfl)
    (hline : (apos.endLine == cpos.line) = true := by rfl) (hs : starEach (e :: []) X.env = (false, eval e X.env) :: starEach [] X.env := by rfl) (hplain : (backTo cpos (starEach [] X.env)).any (·.1) = false := by rfl) : WE X Z (.Call (.Attribute o "append" apos) [e] [] cpos) G Q :=
  WE.of (pe_bm PySem.F.plainAttrs_list PySem.F.slot_list_append PySem.F.type_list_append mt_append pe_se (pa_cons pe_se pa_nil hs) hbase hfew hline hs hplain) fun own T H0 gs as σ H tk hh => seE_mono (h.se tk hh) fun v H1 ⟨x, G1, h1, h2, k, ex, ⟨ds0, e0⟩, h3⟩ => by
    subst ex
    obtain ⟨a, rfl, ea⟩ := h2
    refine ⟨ty_ow h1 ea e0, seE_mono (h3.se tk h1) fun w H2 ⟨y, G2, k1, k2, d, ds, ey, ed, hz, q⟩ => ?_⟩
    subst ey
    obtain ⟨vs, m1, m2⟩ := k1.li ea ed
    refine ⟨a, vs, w, rfl, rfl, m1, sz_lt (by rw [m2.length]; omega), .im .non, _, k1.put (c := .li (ds ++ [d])) ea ⟨_, upd_same, m2.append (.cons k2 .nil)⟩, .non, q⟩
/-- o.pop() -/
theorem we_pop (h : WE X Z o G fun x G1 => ∃ k ds d, x = .ow k ∧ G1.om.getD k .dead = .li (ds ++ [d]) ∧ Q (.im d) ⟨G1.sl, G1.om.set k (.li ds), G1.tn⟩)
    (hbase : attributeBase o "pop" X.env (eval o X.env) = eval o X.env := by rfl) (hline : (apos.endLine == cpos.line) = true := by rfl) : WE X Z (.Call (.Attribute o "pop" apos) [] [] cpos) G Q :=
  WE.of (pe_bm0 PySem.F.plainAttrs_list PySem.F.slot_list_pop PySem.F.type_list_pop mt_pop pe_se hbase hline) fun own T H0 gs as σ H tk hh => seE_mono (h.se tk hh) fun v H1 ⟨x, G1, h1, h2, k, ds, d, ex, ed, q⟩ => by
    subst ex
    obtain ⟨a, rfl, ea⟩ := h2
    obtain ⟨vs, m1, m2⟩ := h1.li ea ed
    have hlen := m2.length
    rw [List.length_append] at hlen
    have hl1 : vs.length = ds.length + 1 := hlen
    obtain ⟨y, y1, y2⟩ := m2.get (i := ds.length) (d := d) (by rw [List.getElem?_append_right (Nat.le_refl _), Nat.sub_self] <;> rfl)
    have m3 := m2.dropLast
    rw [List.dropLast_concat] at m3
    have hin : DL.ex own as a := .inr (mem_as.mpr ⟨k, ea⟩)
    refine ⟨ty_ow h1 ea ed, a, vs, y, rfl, rfl, m1, by rw [show vs.length - 1 = ds.length by omega]; exact y1, .im d, _, h1.put (c := .li ds) ea ⟨_, upd_same, m3⟩, ?_, q⟩
    exact Dd.mono (cut_mono fun b u n e' => ⟨n, by rw [upd_ne (fun z => n (by rw [z]; exact hin))]; exact e'⟩) y2
/-- o.reverse() -/
theorem we_reverse (h : WE X Z o G fun x G1 => ∃ k ds, x = .ow k ∧ G1.om.getD k .dead = .li ds ∧ Q (.im .non) ⟨G1.sl, G1.om.set k (.li ds.reverse), G1.tn⟩)
    (hbase : attributeBase o "reverse" X.env (eval o X.env) = eval o X.env := by rfl) (hline : (apos.endLine == cpos.line) = true := by rfl) : WE X Z (.Call (.Attribute o "reverse" apos) [] [] cpos) G Q :=
  WE.of (pe_bm0 PySem.F.plainAttrs_list PySem.F.slot_list_reverse PySem.F.type_list_reverse mt_reverse pe_se hbase hline) fun own T H0 gs as σ H tk hh => seE_mono (h.se tk hh) fun v H1 ⟨x, G1, h1, h2, k, ds, ex, ed, q⟩ => by
    subst ex
    obtain ⟨a, rfl, ea⟩ := h2
    obtain ⟨vs, m1, m2⟩ := h1.li ea ed
    exact ⟨ty_ow h1 ea ed, a, vs, rfl, rfl, m1, .im .non, _, h1.put (c := .li ds.reverse) ea ⟨_, upd_same, m2.reverse⟩, .non, q⟩
/-- o.extend(ys), ys a list -/
theorem we_extend (h : WE X Z o G fun x G1 => ∃ k, x = .ow k ∧ (∃ ds0, G1.om.getD k .dead = .li ds0) ∧ WE X Z e G1 fun y G2 => ∃ fs ds, y = .im (.lst fs) ∧ G2.om.getD k .dead = .li ds ∧ ds.length + fs.length ≤ 100000 ∧ Q (.im .non) ⟨G2.sl, G2.om.set k (.li (ds ++ fs)), G2.tn⟩)
    (hbase : attributeBase o "extend" X.env (eval o X.env) = eval o X.env := by rfl)
    (hfew : ((backTo cpos (starEach (e :: []) X.env)).all (fun x => !x.1) && (backToKw cpos (keywordEach [] X.env)).all (fun x => x.1.isSome)
      && decide ((e :: ([] : List Expr)).length + ([] : List Keyword).length + (if ([] : List Keyword).isEmpty then 0 else 1) < 30)) = true := by rfl)
    (hline : (apos.endLine == cpos.line) = true := by rfl) (hs : starEach (e :: []) X.env = (false, eval e X.env) :: starEach [] X.env := by rfl) (hplain : (backTo cpos (starEach [] X.env)).any (·.1) = false := by rfl) : WE X Z (.Call (.Attribute o "extend" apos) [e] [] cpos) G Q :=
  WE.of (pe_bm PySem.F.plainAttrs_list PySem.F.slot_list_extend PySem.F.type_list_extend mt_extend pe_se (pa_cons pe_se pa_nil hs) hbase hfew hline hs hplain) fun own T H0 gs as σ H tk hh => seE_mono (h.se tk hh) fun v H1 ⟨x, G1, h1, h2, k, ex, ⟨ds0, e0⟩, h3⟩ => by
    subst ex
    obtain ⟨a, rfl, ea⟩ := h2
    refine ⟨ty_ow h1 ea e0, seE_mono (h3.se tk h1) fun w H2 ⟨y, G2, k1, k2, fs, ds, ey, ed, hz, q⟩ => ?_⟩
    subst ey
    obtain ⟨vs, m1, m2⟩ := k1.li ea ed
    obtain ⟨p, ws, rfl, n1, n2⟩ := Dd.dv (H := H2) k2 cut_sub
    refine ⟨a, p, vs, ws, rfl, rfl, m1, n1, sz_le (by rw [m2.length, n2.length]; exact hz), .im .non, _, k1.put (c := .li (ds ++ fs)) ea ⟨_, upd_same, m2.append n2⟩, .non, q⟩

/-! ### methods of texts -/
theorem joinL_nil : ∀ ls : List (List Nat), TL.joinL [] ls = ls.flatten
  | [] => rfl
  | [p] => by simp [TL.joinL]
  | p :: q :: r => by
    have := joinL_nil (q :: r)
    show p ++ ([] ++ TL.joinL [] (q :: r)) = _
    rw [this]
    simp
theorem map_len : ∀ ls : List (List Nat), ((ls.map fun l => (⟨l.toArray⟩ : Str)).map (·.length)).sum = (ls.map List.length).sum
  | [] => rfl
  | p :: r => by
    rw [List.map_cons, List.map_cons, List.map_cons, List.sum_cons, List.sum_cons, map_len r]
    simp [Str.length]
theorem sum_flat : ∀ ls : List (List Nat), (ls.map List.length).sum = ls.flatten.length
  | [] => rfl
  | p :: r => by
    rw [List.map_cons, List.sum_cons, sum_flat r, List.flatten_cons, List.length_append]
/-- sep.join(xs) -/
theorem we_join (h : WE X Z o G fun x G1 => ∃ sep, x = .im (.str sep) ∧ WE X Z e G1 fun y G2 => ∃ d ls, Con G2 y d ∧ SeqD d (ls.map D.str) ∧ ls.flatten.length + ls.length * sep.length ≤ 100000 ∧ Q (.im (.str (TL.joinL sep ls))) G2)
    (hs : starEach [e] X.env = [(false, eval e X.env)] := by rfl) (hbase : attributeBase o "join" X.env (eval o X.env) = eval o X.env := by rfl) (hline : (apos.endLine == cpos.line) = true := by rfl) : WE X Z (.Call (.Attribute o "join" apos) [e] [] cpos) G Q :=
  WE.of (pe_join pe_se pe_se hs hbase hline) fun own T H0 gs as σ H tk hh => seE_mono (h.se tk hh) fun v H1 ⟨x, G1, h1, h2, sep, ex, h3⟩ => by
    subst ex
    have ev : v = .str ⟨sep.toArray⟩ := Dv.str (K := X.K) (H := H1) (C := cut (DL.ex own as) H1) h2
    refine ⟨⟨_, ev⟩, seE_mono (h3.se tk h1) fun w H2 ⟨y, G2, k1, k2, d, ls, c, sd, hz, q⟩ => ?_⟩
    have fin : ∀ p, w = .ref p → (SqL X.K H2 p ((ls.map fun l => (⟨l.toArray⟩ : Str)).map V.str) ∨ SqT X.K H2 p ((ls.map fun l => (⟨l.toArray⟩ : Str)).map V.str)) → _ := fun p ew hsq =>
      (⟨⟨sep.toArray⟩, p, ls.map fun l => (⟨l.toArray⟩ : Str), ev, by rw [ew], hsq, by
        rw [map_len, sum_flat, List.length_map]
        have e : (⟨sep.toArray⟩ : Str).length = sep.length := by simp [Str.length]
        rw [e]
        omega, EQ.strS k1 (SX.join_S sep ls) q⟩ : ∃ a p, ∃ ys : List Str, v = .str a ∧ [w] = [V.ref p] ∧ (SqL X.K H2 p (ys.map V.str) ∨ SqT X.K H2 p (ys.map V.str)) ∧ (ys.map (·.length)).sum + ys.length * a.length ≤ 16777216 ∧ EQ X.K own T H0 gs as σ Q (.str (Txt.join a ys)) H2)
    have dv := k1.dv k2 c
    cases d with
    | lst ds =>
      have e : ds = ls.map D.str := by cases sd; rfl
      subst e
      obtain ⟨p, xs, rfl, n1, n2⟩ := dv
      rw [n2.str_of] at n1
      exact fin p rfl (.inl (SqL.of n1))
    | tup ds =>
      have e : ds = ls.map D.str := by cases sd; rfl
      subst e
      obtain ⟨p, xs, rfl, n1, n2⟩ := dv.tup
      rw [n2.str_of] at n1
      exact fin p rfl (.inr (sqT_mono cut_sub n1))
    | _ => cases sd
/-- s.index(sub), it is there -/
theorem we_sindex (h : WE X Z o G fun x G1 => ∃ s, Con G1 x (.str s) ∧ WE X Z e G1 fun y G2 => ∃ t k, Con G2 y (.str t) ∧ Con G2 x (.str s) ∧ Txt.index0 ⟨s.toArray⟩ ⟨t.toArray⟩ = some k ∧ Q (.im (.int (k : Int))) G2) (hc : X.calm = true := by rfl)
    (hbase : attributeBase o "index" X.env (eval o X.env) = eval o X.env := by rfl)
    (hfew : ((backTo cpos (starEach (e :: []) X.env)).all (fun x => !x.1) && (backToKw cpos (keywordEach [] X.env)).all (fun x => x.1.isSome)
      && decide ((e :: ([] : List Expr)).length + ([] : List Keyword).length + (if ([] : List Keyword).isEmpty then 0 else 1) < 30)) = true := by rfl)
    (hline : (apos.endLine == cpos.line) = true := by rfl) (hs : starEach (e :: []) X.env = (false, eval e X.env) :: starEach [] X.env := by rfl) (hplain : (backTo cpos (starEach [] X.env)).any (·.1) = false := by rfl) : WE X Z (.Call (.Attribute o "index" apos) [e] [] cpos) G Q := fun own T H0 gs as pins s σ H tk I hh => by
  refine (pe_bmS PySem.F.plainAttrs_str PySem.F.slot_str_index PySem.F.type_str_index (mt_indexX hc tk) pe_se (pa_cons pe_se pa_nil hs) hbase hfew hline hs hplain).run pins s σ H _ I ?_
  refine seE_mono (h.se tk hh) fun v H1 ⟨x, G1, h1, h2, s, c, h3⟩ => ?_
  have ev := (h1.dv h2 c).str
  refine ⟨by rw [ev] <;> rfl, seE_mono (h3.se (takes_tmp (v := v) (x := x) tk) (h1.tmp h2)) fun w H2 ⟨y, G2, k1, k2, t, k, c2, c3, hk, q⟩ => ?_⟩
  obtain ⟨k1', k4⟩ := Hd.back h2 k1
  exact ⟨_, _, ev, by rw [(k1'.dv k2 c2).str], fun k' e' => by rw [hk] at e'; cases e'; exact EQ.int k1' q, fun e' => by rw [hk] at e'; cases e'⟩
end
end DL

namespace DL
open PySem PySem.Spec L2

/-! ### what a def promises, by data -/
def inn (own : List Addr) : Addr → Prop := fun b => b ∈ own
abbrev Pz := Value → List (Str × D) → Prop
/-- a def that changes nothing: P tells, of the arguments' data, what is to hold of the answer, and of an exception -/
def spF (K : PySem.W.Frag) (n : Nat) (P : List D → (D → Prop) → Pz → Prop) : Sp := fun vs H Q E =>
  ∃ (own : List Addr) (ds : List D) (R : D → Prop) (Xe : Pz), vs.length = n ∧ (∀ b ∈ own, ∃ o, H b = some o) ∧ DdA K (cut (inn own) H) vs ds ∧ P ds R Xe ∧
    (∀ v d H', R d → Same H H' → Dd K (cut (inn own) H') v d → Q v H') ∧ (∀ cls fs dd H', Xe cls fs → Same H H' → XdOk K (cut (inn own) H') H' dd fs → E cls dd H')
/-- a def whose first argument is an object that it may change -/
def spO (K : PySem.W.Frag) (n : Nat) (P : Oc → List D → (D → Oc → Prop) → Prop) : Sp := fun vs H Q _ =>
  ∃ (own : List Addr) (a : Addr) (vs' : List V) (ds : List D) (c : Oc) (R : D → Oc → Prop), vs.length = n ∧ vs = .ref a :: vs' ∧ a ∈ own ∧ (∀ b ∈ own, ∃ o, H b = some o) ∧ OcOk K (cut (inn own) H) H (some a) c ∧ DdA K (cut (inn own) H) vs' ds ∧ P c ds R ∧
    (∀ v d c' H', R d c' → (∀ b o, b ≠ a → H b = some o → H' b = some o) → OcOk K (cut (inn own) H') H' (some a) c' → Dd K (cut (inn own) H') v d → Q v H')
/-- a def that hands back a new object that is to be changed -/
def spN (K : PySem.W.Frag) (n : Nat) (P : List D → (Oc → Prop) → Prop) : Sp := fun vs H Q _ =>
  ∃ (own : List Addr) (ds : List D) (R : Oc → Prop), vs.length = n ∧ (∀ b ∈ own, ∃ o, H b = some o) ∧ DdA K (cut (inn own) H) vs ds ∧ P ds R ∧
    (∀ p c H', R c → Same H H' → H p = none → OcOk K (cut (inn (p :: own)) H') H' (some p) c → Q (.ref p) H')

def exl (own : List Addr) (as : List (Option Addr)) : List Addr := own ++ as.filterMap id
theorem exl_iff {own : List Addr} {as : List (Option Addr)} {b : Addr} : inn (exl own as) b ↔ ex own as b := by
  unfold inn exl ex
  rw [List.mem_append, List.mem_filterMap]
  constructor
  · rintro (h | ⟨x, h1, h2⟩)
    · exact .inl h
    · exact .inr (by rw [show x = some b from h2] at h1; exact h1)
  · rintro (h | h)
    · exact .inl h
    · exact .inr ⟨some b, h, rfl⟩
theorem cut_congr {S S' : Addr → Prop} (h : ∀ b, S b ↔ S' b) (H : Hp) : cut S H = cut S' H := by
  funext b
  unfold cut
  by_cases z : S b
  · rw [if_pos z, if_pos ((h b).mp z)]
  · rw [if_neg z, if_neg fun w => z ((h b).mpr w)]
theorem cut_exl (own : List Addr) (as : List (Option Addr)) (H : Hp) : cut (inn (exl own as)) H = cut (ex own as) H := cut_congr (fun b => exl_iff) H
theorem Hd.alive {K : PySem.W.Frag} {own T : List Addr} {H0 H : Hp} {gs : List (V × D)} {as : List (Option Addr)} {G : Gm} {σ : Sg} (h : Hd K own T H0 gs as G σ H) : ∀ b ∈ exl own as, ∃ o, H b = some o := fun b hb => by
  rcases exl_iff.mp hb with z | z
  · exact h.al b z
  · obtain ⟨k, e⟩ := mem_as.mp z
    have q := h.oc k
    rw [e] at q
    exact q.some_of

section
variable {X : Cx} {Z : Xz} {e : Expr} {es : List Expr} {G : Gm} {pos p : Pos} {E : En} {k : Nat} {f : Addr} {fd : FuncData} {ps : List Str} {x : Str}
/-- f(..) of a def that changes nothing -/
theorem we_call {n : Nat} {P : List D → (D → Prop) → Pz → Prop} {Q : Vl → Gm → Prop} (F : FnOk X.prog X.w X.K X.mg X.base (L2.CX X.prog X.w) k f fd ps (spF X.K n P)) (hr : Room k X.A) (hm : X.mg x = some (.ref f)) (hk : PySem.W.keepIn X.K (.ref f) = true) (hb : Binds X.K fd ps [])
    (h : WL X Z (e :: es) G fun xs G1 => ∃ ds, ImA xs ds ∧ ds.length = n ∧ P ds (fun d => Q (.im d) G1) (fun cls fs => Z cls fs G1)) (hg : Gl X x := by rfl) (hdb : (x == ("__debug__" : Str)) = false := by decide)
    (he : starEach (e :: es) X.env = (false, eval e X.env) :: starEach es X.env := by rfl) (hpl : (backTo pos (starEach es X.env)).any (·.1) = false := by rfl) : WE X Z (.Call (.Name x p) (e :: es) [] pos) G Q := fun own T H0 gs as pins s σ H tk I hh => by
  refine (pe_callS F hr hg hm hk hb (fun σ => passAt tk σ) pa_se hdb he hpl).run pins s σ H _ I ?_
  refine seA_mono (h own T H0 gs as σ H tk hh) fun vs H1 ⟨xs, G1, h1, h2, ds, c, hn, q⟩ => ?_
  have hd := im_dd h2 c
  refine ⟨exl own as, ds, _, _, by rw [hd.length]; exact hn, h1.alive, by rw [cut_exl]; exact hd, q, fun v d H' r sm dd => ?_, fun cls fs dd H' z sm xd => ?_⟩
  · exact ⟨.im d, G1, h1.grow sm, by rw [cut_exl] at dd; exact dd, r⟩
  · exact ⟨as, G1, fs, h1.grow sm, by rw [cut_exl] at xd; exact xd, z⟩
/-- f() -/
theorem we_call0 {n : Nat} {P : List D → (D → Prop) → Pz → Prop} {Q : Vl → Gm → Prop} (F : FnOk X.prog X.w X.K X.mg X.base (L2.CX X.prog X.w) k f fd ps (spF X.K n P)) (hr : Room k X.A) (hm : X.mg x = some (.ref f)) (hk : PySem.W.keepIn X.K (.ref f) = true) (hb : Binds X.K fd ps [])
    (h : n = 0 ∧ P [] (fun d => Q (.im d) G) (fun _ _ => False)) (hg : Gl X x := by rfl) (hdb : (x == ("__debug__" : Str)) = false := by decide) : WE X Z (.Call (.Name x p) [] [] pos) G Q := fun own T H0 gs as pins s σ H tk I hh => by
  refine (pe_call0 F hr hg hm hk hb .nil passL hdb).run pins s σ H _ I ?_
  exact ⟨exl own as, [], _, _, h.1.symm, hh.alive, .nil, h.2, fun v d H' r sm dd => ⟨.im d, G, hh.grow sm, by rw [cut_exl] at dd; exact dd, r⟩, fun cls fs dd H' z sm xd => z.elim⟩
/-- behind a change of one owned object by another def -/
theorem Hd.chg {K : PySem.W.Frag} {own T : List Addr} {H0 H H' : Hp} {gs : List (V × D)} {as : List (Option Addr)} {σ : Sg} {j : Nat} {a : Addr} {c : Oc} (h : Hd K own T H0 gs as G σ H) (e : as.getD j none = some a) (fr : ∀ b o, b ≠ a → H b = some o → H' b = some o) (q : OcOk K (cut (DL.ex own as) H') H' (some a) c) :
    Hd K own T H0 gs as ⟨G.sl, G.om.set j c, G.tn⟩ σ H' := by
  have hin : DL.ex own as a := .inr (mem_as.mpr ⟨j, e⟩)
  have cs : Same (cut (DL.ex own as) H) (cut (DL.ex own as) H') := cut_mono fun b u n e' => ⟨n, fr b u (fun z => n (by rw [z]; exact hin)) e'⟩
  have hk : j < as.length := lt_of_getD e
  refine ⟨h.tt, h.tl, h.tp, fun b u n e' => ?_, fun b hb => ?_, by show as.length = (G.om.set j c).length; rw [List.length_set]; exact h.ol, fun i => ?_, h.nd, h.nw, fun i => (h.sl i).mono cs, fun g hg => (h.gh g hg).mono cs⟩
  · refine fr b u (fun z => ?_) (h.fr b u n e')
    subst z
    rcases h.nw j _ e with hT | ⟨h0, _⟩
    · exact n hT
    · rw [h0] at e'; cases e'
  · by_cases z : b = a
    · rw [z]; exact q.some_of
    · obtain ⟨u, e'⟩ := h.al b hb
      exact ⟨u, fr b u z e'⟩
  · show OcOk K _ _ (as.getD i none) ((G.om.set j c).getD i .dead)
    by_cases hj : j = i
    · subst hj
      rw [e, getD_set_eq (by rw [← h.ol]; exact hk)]
      exact q
    · rw [getD_set_ne hj]
      exact (h.oc i).mono cs fun b u eb e' => fr b u (fun z => hj (h.nd j i a e (by rw [← z]; exact eb))) e'
/-- f(o, ..) of a def that may change o -/
theorem we_callO {n : Nat} {P : Oc → List D → (D → Oc → Prop) → Prop} {Q : Vl → Gm → Prop} (F : FnOk X.prog X.w X.K X.mg X.base (L2.CX X.prog X.w) k f fd ps (spO X.K n P)) (hr : Room k X.A) (hm : X.mg x = some (.ref f)) (hk : PySem.W.keepIn X.K (.ref f) = true) (hb : Binds X.K fd ps [])
    (h : WL X Z (e :: es) G fun xs G1 => ∃ j r ds, xs = .ow j :: r ∧ ImA r ds ∧ ds.length + 1 = n ∧ P (G1.om.getD j .dead) ds (fun d c => Q (.im d) ⟨G1.sl, G1.om.set j c, G1.tn⟩)) (hg : Gl X x := by rfl) (hdb : (x == ("__debug__" : Str)) = false := by decide)
    (he : starEach (e :: es) X.env = (false, eval e X.env) :: starEach es X.env := by rfl) (hpl : (backTo pos (starEach es X.env)).any (·.1) = false := by rfl) : WE X Z (.Call (.Name x p) (e :: es) [] pos) G Q := fun own T H0 gs as pins s σ H tk I hh => by
  refine (pe_callS F hr hg hm hk hb (fun σ => passAt tk σ) pa_se hdb he hpl).run pins s σ H _ I ?_
  refine seA_mono (h own T H0 gs as σ H tk hh) fun vs H1 ⟨xs, G1, h1, h2, j, r, ds, ex, c, hn, q⟩ => ?_
  subst ex
  cases h2 with
  | cons q1 q2 =>
    obtain ⟨a, rfl, ea⟩ := q1
    have hd := im_dd q2 c
    have oc := h1.oc j
    rw [ea] at oc
    refine ⟨exl own as, a, _, ds, _, _, by rw [List.length_cons, hd.length]; exact hn, rfl, exl_iff.mpr (.inr (mem_as.mpr ⟨j, ea⟩)), h1.alive, by rw [cut_exl]; exact oc, by rw [cut_exl]; exact hd, q, fun v d c' H' r fr oc' dd => ?_⟩
    rw [cut_exl] at oc' dd
    exact ⟨.im d, _, h1.chg ea fr oc', dd, r⟩
/-- f(..) that hands back a new object -/
theorem wef_call {n : Nat} {P : List D → (Oc → Prop) → Prop} {Q : Oc → Gm → Prop} (F : FnOk X.prog X.w X.K X.mg X.base (L2.CX X.prog X.w) k f fd ps (spN X.K n P)) (hr : Room k X.A) (hm : X.mg x = some (.ref f)) (hk : PySem.W.keepIn X.K (.ref f) = true) (hb : Binds X.K fd ps [])
    (h : WL X Z (e :: es) G fun xs G1 => ∃ ds, ImA xs ds ∧ ds.length = n ∧ P ds (fun c => Q c G1)) (hg : Gl X x := by rfl) (hdb : (x == ("__debug__" : Str)) = false := by decide)
    (he : starEach (e :: es) X.env = (false, eval e X.env) :: starEach es X.env := by rfl) (hpl : (backTo pos (starEach es X.env)).any (·.1) = false := by rfl) : WEF X Z (.Call (.Name x p) (e :: es) [] pos) G Q := fun own T H0 gs as pins s σ H tk I hh => by
  refine (pe_callS F hr hg hm hk hb (fun σ => passAt tk σ) pa_se hdb he hpl).run pins s σ H _ I ?_
  refine seA_mono (h own T H0 gs as σ H tk hh) fun vs H1 ⟨xs, G1, h1, h2, ds, c, hn, q⟩ => ?_
  have hd := im_dd h2 c
  refine ⟨exl own as, ds, _, by rw [hd.length]; exact hn, h1.alive, by rw [cut_exl]; exact hd, q, fun p c H' r sm hp oc => ?_⟩
  refine ⟨p, G1, c, rfl, h1.fresh hp, h1.grow sm, Hd.push2 (sl := G1.sl) (om := G1.om) (tn := G1.tn) h1 hp sm ?_, r⟩
  have e : cut (inn (p :: exl own as)) H' = cut (ex own (as ++ [some p])) H' := cut_congr (fun b => by
    rw [← exl_iff]
    unfold inn exl
    rw [List.filterMap_append, List.mem_cons, List.mem_append, List.mem_append, List.mem_append]
    show _ ↔ _ ∨ _ ∨ b ∈ [p]
    rw [List.mem_singleton]
    constructor
    · rintro (z | z | z)
      · exact .inr (.inr z)
      · exact .inl z
      · exact .inr (.inl z)
    · rintro (z | z | z)
      · exact .inr (.inl z)
      · exact .inr (.inr z)
      · exact .inl z) H'
  rw [← e]
  exact oc
end

/-! ### a def keeps its promise -/
/-- what a value hands back, of a def that changes nothing -/
def RetD (G : Gm) : Vl → D → Prop
  | .im d', d => d' = d
  | .ow k, d => G.tn ≤ k ∧ ∃ ds, G.om.getD k .dead = .li ds ∧ D.lst ds = d
  | .rw _, _ => False
def entI (ds : List D) (n r : Nat) : Gm := ⟨ds.map .im ++ List.replicate (n - ds.length) .un, List.replicate r .dead, 0⟩
section
variable {K : PySem.W.Frag} {H H' : Hp} {own : List Addr}
theorem getD_rep {α : Type} {r k : Nat} {d : α} : (List.replicate r d).getD k d = d := by
  rw [List.getD_eq_getElem?_getD]
  by_cases h : k < r
  · rw [List.getElem?_replicate]
    simp [h]
  · rw [List.getElem?_eq_none (by rw [List.length_replicate]; omega)] <;> rfl
theorem ex_rep {r : Nat} {b : Addr} : ex own (List.replicate r none) b ↔ inn own b := by
  unfold ex inn
  constructor
  · rintro (h | h)
    · exact h
    · have := (List.mem_replicate.mp h).2
      cases this
  · exact .inl
theorem start_at {N : List Str} {vs : List V} {i : Nat} {v : V} (h : vs[i]? = some v) : (L2.start N vs)[i]? = some (some v) := by
  unfold L2.start
  have hi : i < vs.length := (List.getElem?_eq_some_iff.mp h).1
  rw [List.getElem?_append_left (by rw [List.length_map]; exact hi), List.getElem?_map, h] <;> rfl
theorem hd_ent {N : List Str} {vs : List V} {ds : List D} {n r : Nat} (hal : ∀ b ∈ own, ∃ o, H b = some o) (h : DdA K (cut (inn own) H) vs ds) : Hd K own [] H [] (List.replicate r none) (entI ds n r) (L2.start N vs) H := by
  have e : cut (ex own (List.replicate r none)) H = cut (inn own) H := cut_congr (fun b => ex_rep) H
  refine ⟨fun b hb => (by cases hb), rfl, fun j a h => (by cases h), fun b o _ e => e, hal, (by show (List.replicate r (none : Option Addr)).length = (List.replicate r Oc.dead).length; rw [List.length_replicate, List.length_replicate]), fun k => ?_, fun j k a e1 => (by rw [getD_rep] at e1; cases e1), fun k a e1 => (by rw [getD_rep] at e1; cases e1), fun i => ?_, fun g hg => (by cases hg)⟩
  · show OcOk K _ _ ((List.replicate r none).getD k none) ((List.replicate r Oc.dead).getD k .dead)
    rw [getD_rep, getD_rep]
    trivial
  · show SlOk K _ _ _ ((ds.map Sl.im ++ List.replicate (n - ds.length) Sl.un).getD i .un)
    rw [e]
    by_cases hi : i < ds.length
    · rw [getD_app_lt (by rw [List.length_map]; exact hi), List.getD_eq_getElem?_getD, List.getElem?_map, List.getElem?_eq_getElem hi]
      obtain ⟨v, h1, h2⟩ := h.get (List.getElem?_eq_getElem hi)
      exact ⟨v, start_at h1, h2⟩
    · have : (ds.map Sl.im ++ List.replicate (n - ds.length) Sl.un).getD i .un = .un := by
        rw [List.getD_eq_getElem?_getD, List.getElem?_append_right (by rw [List.length_map]; omega), List.length_map]
        by_cases h2 : i - ds.length < n - ds.length
        · rw [List.getElem?_replicate]
          simp [h2]
        · rw [List.getElem?_eq_none (by rw [List.length_replicate]; omega)] <;> rfl
      rw [this]
      trivial
theorem inn_sub {as : List (Option Addr)} : Same (cut (ex own as) H) (cut (inn own) H) := cut_mono fun b u n e => ⟨fun z => n (.inl z), e⟩
theorem ret_dd {H0 : Hp} {as : List (Option Addr)} {G : Gm} {σ : Sg} {v : V} {x : Vl} {d : D} (h : Hd K own [] H0 [] as G σ H) (q : VlOk K (cut (ex own as) H) as v x) (r : RetD G x d) : Dd K (cut (inn own) H) v d := by
  cases x with
  | im d' =>
    have e : d' = d := r
    subst e
    exact Dd.mono inn_sub q
  | ow k =>
    obtain ⟨a, rfl, ea⟩ := q
    obtain ⟨_, ds, eo, rfl⟩ := r
    obtain ⟨vs, h1, h2⟩ := h.li ea eo
    refine .lst (cut_some.mpr ⟨fun z => ?_, h1⟩) (h2.mono inn_sub)
    rcases h.nw k a ea with z' | ⟨_, z'⟩
    · cases z'
    · exact z' z
  | rw y => exact r.elim
end
section
variable {P : Program} {w : World} {K : PySem.W.Frag} {mg : Str → Option Value} {base : Heap} {x qual : Str} {st : Stmt} {f : Addr} {fd : FuncData} {N ps : List Str} {k : Nat}
/-- what the body of a def that changes nothing is to reach -/
def enF (R : D → Prop) : En where
  nx := fun _ => R .non
  rt := fun x G => ∃ d, RetD G x d ∧ R d
def zF (Xe : Pz) : Xz := fun cls fs _ => Xe cls fs
/-- a def's body, in its context -/
def BodyOk (P : Program) (w : World) (K : PySem.W.Frag) (mg : Str → Option Value) (base : Heap) (N : List Str) (qual : Str) (st : Stmt) (f : Addr) (k : Nat) (B : Cx → Prop) : Prop :=
  ∀ (cdv : Value) (A : Around) (outer : List Env) (s : Shared) (H : Hp) (E : XK), Room k (A.deeper (PyProof.Rows.envOfC qual (defScope st) s.heap.objs.size f cdv)) → B (cxOf (L2.CX P w) P w K mg base N qual (defScope st) f cdv A outer s H E)
theorem fn_F (F : Fun K x qual st f fd) (S : FnScope N ps (defScope st)) (r : Nat) {Pm : List D → (D → Prop) → Pz → Prop}
    (hb : BodyOk P w K mg base N qual st f k fun X => ∀ ds R Xe, ds.length = ps.length → Pm ds R Xe → WB X (zF Xe) (defBody st) (entI ds N.length r) (enF R)) : FnOk P w K mg base (L2.CX P w) (k + 1) f fd ps (spF K ps.length Pm) := by
  refine F.okX S (fun vs H Q E ⟨_, _, _, _, h, _⟩ => h) (fun cdv A outer s H vs Q E hr h => ?_)
  obtain ⟨own, ds, R, Xe, hl, hal, hd, hP, hQ, hE⟩ := h
  refine ⟨seB _ (defBody st), ps_se, fun pins s' I => ?_⟩
  have hh := hd_ent (N := N) (n := N.length) (r := r) hal hd
  have tk : Takes (cxOf (L2.CX P w) P w K mg base N qual (defScope st) f cdv A outer s H E) (wD K (zF Xe) own [] H []) :=
    (takes_of (X := cxOf (L2.CX P w) P w K mg base N qual (defScope st) f cdv A outer s H E) (E := E) rfl rfl rfl rfl).imp fun cls d σ H' ⟨as, G, fs, h1, h2, h3⟩ => by
      refine hE cls fs d H' h3 (fun b o e => h1.fr b o (by intro z; cases z) e) ?_
      cases d with
      | none => exact h2
      | some a =>
        obtain ⟨e0, vs, e1, e2⟩ := h2
        refine ⟨e0, vs, e1, ?_⟩
        exact Paired.mapP e2 fun _ _ z => ⟨z.1, z.2.mono inn_sub⟩
  refine thn (hb cdv A outer s H E hr ds R Xe (by rw [← hd.length]; exact hl) hP own [] H [] _ pins s' _ H tk (passes_of rfl) I hh) fun fl s2 q => ?_
  refine sp_mono q (fun σ' H' ⟨as, G, h1, h2⟩ => ?_) (fun v H' ⟨as, G, σ', x, h1, h2, d, h3, h4⟩ => ?_) (fun _ _ ⟨_, _, _, z⟩ => z) (fun _ _ ⟨_, _, _, z⟩ => z)
  · exact hQ .non .non H' h2 (fun b o e => h1.fr b o (by intro z; cases z) e) .non
  · exact hQ v d H' h4 (fun b o e => h1.fr b o (by intro z; cases z) e) (ret_dd h1 h2 h3)
/-- what the body of a def with an owned first argument is to reach -/
def enO (R : D → Oc → Prop) : En where
  nx := fun G => R .non (G.om.getD 0 .dead)
  rt := fun x G => ∃ d, RetD G x d ∧ R d (G.om.getD 0 .dead)
def entO (c : Oc) (ds : List D) (n r : Nat) : Gm := ⟨.ow 0 :: (ds.map .im ++ List.replicate (n - ds.length - 1) .un), c :: List.replicate r .dead, 1⟩
theorem fn_O (F : Fun K x qual st f fd) (S : FnScope N ps (defScope st)) (r : Nat) {Pm : Oc → List D → (D → Oc → Prop) → Prop}
    (hb : BodyOk P w K mg base N qual st f k fun X => ∀ c ds R, ds.length + 1 = ps.length → Pm c ds R → WB X nz (defBody st) (entO c ds N.length r) (enO R)) : FnOk P w K mg base (L2.CX P w) (k + 1) f fd ps (spO K ps.length Pm) := by
  refine F.okX S (fun vs H Q E ⟨_, _, _, _, _, _, h, _⟩ => h) (fun cdv A outer s H vs Q E hr h => ?_)
  obtain ⟨own, a, vs', ds, c, R, hl, ev, ha, hal, hoc, hd, hP, hQ⟩ := h
  subst ev
  refine ⟨seB _ (defBody st), ps_se, fun pins s' I => ?_⟩
  have e0 : cut (ex own (some a :: List.replicate r none)) H = cut (inn own) H := cut_congr (fun b => by
    unfold ex inn
    constructor
    · rintro (h | h)
      · exact h
      · rcases List.mem_cons.mp h with z | z
        · rw [Option.some.inj z]; exact ha
        · have := (List.mem_replicate.mp z).2
          cases this
    · exact .inl) H
  have hh0 := hd_ent (N := N) (n := N.length) (r := r) hal hd
  have gD : ∀ k a', (some a :: List.replicate r none).getD k none = some a' → k = 0 ∧ a' = a := fun k a' e => by
    cases k with
    | zero => exact ⟨rfl, (Option.some.inj e).symm⟩
    | succ k =>
      have e' : (List.replicate r (none : Option Addr)).getD k none = some a' := by simpa using e
      rw [getD_rep] at e'; cases e'
  have hh : Hd K own [a] H [] (some a :: List.replicate r none) (entO c ds N.length r) (L2.start N (.ref a :: vs')) H := by
    refine ⟨fun b hb => by rw [List.mem_singleton.mp hb]; exact ha, rfl, fun j a' e => ?_, fun b o _ e => e, hal, (by show (some a :: List.replicate r none).length = (c :: List.replicate r Oc.dead).length; rw [List.length_cons, List.length_cons, List.length_replicate, List.length_replicate]), fun k => ?_, fun j k a' e1 e2 => (by rw [(gD j a' e1).1, (gD k a' e2).1]), fun k a' e1 => .inl (by rw [(gD k a' e1).2]; exact List.mem_singleton.mpr rfl), fun i => ?_, fun g hg => (by cases hg)⟩
    · cases j with
      | zero => exact e
      | succ j => cases e
    · show OcOk K _ _ ((some a :: List.replicate r none).getD k none) ((c :: List.replicate r Oc.dead).getD k .dead)
      rw [e0]
      cases k with
      | zero => exact hoc
      | succ k =>
        show OcOk K _ _ ((List.replicate r none).getD k none) ((List.replicate r Oc.dead).getD k .dead)
        rw [getD_rep, getD_rep]
        trivial
    · show SlOk K _ _ _ ((Sl.ow 0 :: (ds.map Sl.im ++ List.replicate (N.length - ds.length - 1) Sl.un)).getD i .un)
      rw [e0]
      cases i with
      | zero => exact ⟨a, start_at rfl, rfl⟩
      | succ i =>
        show SlOk K _ _ _ ((ds.map Sl.im ++ List.replicate (N.length - ds.length - 1) Sl.un).getD i .un)
        by_cases hi : i < ds.length
        · rw [getD_app_lt (by rw [List.length_map]; exact hi), List.getD_eq_getElem?_getD, List.getElem?_map, List.getElem?_eq_getElem hi]
          obtain ⟨v, h1, h2⟩ := hd.get (List.getElem?_eq_getElem hi)
          exact ⟨v, start_at (by simpa using h1), h2⟩
        · have : (ds.map Sl.im ++ List.replicate (N.length - ds.length - 1) Sl.un).getD i .un = .un := by
            rw [List.getD_eq_getElem?_getD, List.getElem?_append_right (by rw [List.length_map]; omega), List.length_map]
            by_cases h2 : i - ds.length < N.length - ds.length - 1
            · rw [List.getElem?_replicate]
              simp [h2]
            · rw [List.getElem?_eq_none (by rw [List.length_replicate]; omega)] <;> rfl
          rw [this]
          trivial
  refine thn (hb cdv A outer s H E hr c ds R (by rw [← hd.length]; exact hl) hP own [a] H [] _ pins s' _ H takes_blkz (passes_of rfl) I hh) fun fl s2 q => ?_
  have fin : ∀ {as : List (Option Addr)} {G : Gm} {σ : Sg} {H' : Hp}, Hd K own [a] H [] as G σ H' → (∀ b o, b ≠ a → H b = some o → H' b = some o) ∧ OcOk K (cut (inn own) H') H' (some a) (G.om.getD 0 .dead) := fun {as G σ H'} h1 => by
    refine ⟨fun b o n e => h1.fr b o (fun z => n (List.mem_singleton.mp z)) e, ?_⟩
    have q := h1.oc 0
    rw [h1.tp 0 a rfl] at q
    exact q.mono inn_sub fun _ _ _ e => e
  refine sp_mono q (fun σ' H' ⟨as, G, h1, h2⟩ => ?_) (fun v H' ⟨as, G, σ', x, h1, h2, d, h3, h4⟩ => ?_) (fun _ _ ⟨_, _, _, z⟩ => z) (fun _ _ ⟨_, _, _, z⟩ => z)
  · obtain ⟨f1, f2⟩ := fin h1
    exact hQ .non .non _ H' h2 f1 f2 .non
  · obtain ⟨f1, f2⟩ := fin h1
    refine hQ v d _ H' h4 f1 f2 ?_
    cases x with
    | im d' =>
      have e : d' = d := h3
      subst e
      exact Dd.mono inn_sub h2
    | ow k' =>
      obtain ⟨b, rfl, eb⟩ := h2
      obtain ⟨hk, ds', eo, rfl⟩ := h3
      obtain ⟨vs, h5, h6⟩ := h1.li eb eo
      refine .lst (cut_some.mpr ⟨fun z => ?_, h5⟩) (h6.mono inn_sub)
      rcases h1.nw k' b eb with z' | ⟨_, z'⟩
      · have e1 := List.mem_singleton.mp z'
        subst e1
        have := h1.nd k' 0 b eb (h1.tp 0 b rfl)
        have := h1.tl
        rw [show G.tn = 1 from h1.tl.symm] at hk
        omega
      · exact z' z
    | rw y => exact h3.elim
end
end DL

namespace DL
open PySem PySem.Spec L2
section
variable {P : Program} {w : World} {K : PySem.W.Frag} {mg : Str → Option Value} {base : Heap} {x qual : Str} {st : Stmt} {f : Addr} {fd : FuncData} {N ps : List Str} {k : Nat}
/-- what the body of a def that hands back a new object is to reach -/
def enN (R : Oc → Prop) : En where
  nx := fun _ => False
  rt := fun x G => ∃ k, x = .ow k ∧ R (G.om.getD k .dead)
theorem fn_N (F : Fun K x qual st f fd) (S : FnScope N ps (defScope st)) (r : Nat) {Pm : List D → (Oc → Prop) → Prop}
    (hb : BodyOk P w K mg base N qual st f k fun X => ∀ ds R, ds.length = ps.length → Pm ds R → WB X nz (defBody st) (entI ds N.length r) (enN R)) : FnOk P w K mg base (L2.CX P w) (k + 1) f fd ps (spN K ps.length Pm) := by
  refine F.okX S (fun vs H Q E ⟨_, _, _, h, _⟩ => h) (fun cdv A outer s H vs Q E hr h => ?_)
  obtain ⟨own, ds, R, hl, hal, hd, hP, hQ⟩ := h
  refine ⟨seB _ (defBody st), ps_se, fun pins s' I => ?_⟩
  have hh := hd_ent (N := N) (n := N.length) (r := r) hal hd
  refine thn (hb cdv A outer s H E hr ds R (by rw [← hd.length]; exact hl) hP own [] H [] _ pins s' _ H takes_blkz (passes_of rfl) I hh) fun fl s2 q => ?_
  refine sp_mono q (fun σ' H' ⟨as, G, h1, h2⟩ => h2.elim) (fun v H' ⟨as, G, σ', x, h1, h2, k, ex, h4⟩ => ?_) (fun _ _ ⟨_, _, _, z⟩ => z) (fun _ _ ⟨_, _, _, z⟩ => z)
  subst ex
  obtain ⟨a, rfl, ea⟩ := h2
  have hn : H a = none := by
    rcases h1.nw k a ea with z | ⟨z, _⟩
    · cases z
    · exact z
  have oc := h1.oc k
  rw [ea] at oc
  refine hQ a _ H' h4 (fun b o e => h1.fr b o (by intro z; cases z) e) hn (oc.mono (cut_mono fun b u n e => ⟨fun z => n ?_, e⟩) fun _ _ _ e => e)
  rcases List.mem_cons.mp z with z | z
  · rw [z]; exact .inr (mem_as.mpr ⟨k, ea⟩)
  · exact .inl z
end

/-! ### exceptions -/
/-- a class of exceptions of the program, over ValueError, without a maker of its own -/
structure ExK (K : PySem.W.Frag) (mg : Str → Option Value) (x : Str) (C : Addr) : Prop where
  g : mg x = some (.ref C)
  x : PySem.W.excIn K C [.type "ValueError", .type "Exception", .type "BaseException", .type "object"] "ValueError.__new__" = true
  k : PySem.W.keepIn K (.ref C) = true
  b : PySem.W.subIn K (.ref C) (.type "BaseException") = some true
  t : PySem.W.typeIn K (.ref C) = some (.type "type")
section
variable {X : Cx} {Z : Xz} {e : Expr} {es : List Expr} {G : Gm} {pos p p2 pos2 np pos' : Pos} {E : En} {C : Addr} {x n m : Str} {j : Nat}
theorem ws_raise (T : ExK X.K X.mg x C) (h : Z (.ref C) [] G) (hc : X.calm = true := by rfl) (hg : Gl X x := by rfl) (hdb : (x == ("__debug__" : Str)) = false := by decide) :
    WS X Z (.Raise (some (.Call (.Name x p) [.Constant (.str m) j p2] [] pos)) none pos2) G E := fun own T' H0 gs as pins s σ H tk ps I hh => by
  refine (ps_raise hc tk (pmk_own PySem.F.excBase_ValueError T.x T.g T.k (raises_own T.b T.t) hg hdb)).run pins s σ H _ I ?_
  exact ⟨as, G, [], hh, rfl, h⟩
/-- what a clause 'except c' makes of an exception -/
def zTry (K : PySem.W.Frag) (c : Value) (S : Value → List (Str × D) → Gm → Prop) (Z : Xz) : Xz := fun cls fs G => ∃ b, PySem.W.exmOne K cls c = some b ∧ (b = true → S cls fs G) ∧ (b = false → Z cls fs G)
/-- try: body / except x as n: suite; slot i is n's -/
theorem ws_try (i : Nat) {body suite : List Stmt} {b₀ : Stmt} {c : Value} (hN : X.N.Nodup) (hc : Names X x c)
    (hb : ∀ (pn : List (Addr × Obj)) (xe : Value → Shared → Prop), WB (X.tr pn xe) (zTry X.K c (fun cls fs G1 => fs = [] ∧ ∀ (a : Addr) (oe : Obj) (pn : List (Addr × Obj)), Zc cls none oe → (∃ vs, oe.data = .fields vs) →
      WB (X.suite a ((a, oe) :: pn)) nz (b₀ :: suite) ⟨G1.sl.set i (.rw (.ref a)), G1.om, G1.tn⟩ { nx := fun G2 => E.nx ⟨G2.sl.set i .un, G2.om, G2.tn⟩, rt := E.rt, bk := fun G2 => E.bk ⟨G2.sl.set i .un, G2.om, G2.tn⟩, ct := fun G2 => E.ct ⟨G2.sl.set i .un, G2.om, G2.tn⟩ }) Z) body G E)
    (hs : X.stack = X.env :: X.outer := by rfl) (hf : X.env.frame = some X.env.locals := by rfl) (hi : X.N[i]? = some n := by rfl) (hln : X.env.kindOf n = some .local := by rfl) :
    WS X Z (.Try body [.ExceptHandler (some (.Name x np)) (some n) (b₀ :: suite) pos'] [] [] pos) G E := fun own T H0 gs as pins s σ H tk ps I hh => by
  have hlen := I.len
  refine (ps_try_as (i := i) (tb := fun W D σ H => ∀ (pn : List (Addr × Obj)) (xe : Value → Shared → Prop) (pins : List (Addr × Obj)) (s : Shared), Takes (X.tr pn xe) W → PassesOwn (model X.prog X.w) X.A X.env xe → Inv (X.tr pn xe) pins σ H s →
      wpAny (model X.prog X.w) X.A (execs body X.env) (SP (X.tr pn xe) pins D) xe s)
    (ts := fun a cls d D σ H => ∀ (oe : Obj) (pn pins : List (Addr × Obj)) (s : Shared), Zc cls d oe → (∃ vs, oe.data = .fields vs) → Inv (X.suite a ((a, oe) :: pn)) pins σ H s → wpAny (model X.prog X.w) (X.A.mark (some (.ref a))) (execs (b₀ :: suite) X.env) (SP (X.suite a ((a, oe) :: pn)) pins D) (fun _ _ => False) s)
    hs hf hN hi hln hc tk (fun W pn xe tk' po => ⟨fun pins s σ H D I h => h pn xe pins s tk' po I⟩) (fun a oe cls d pn hz hfd => ⟨fun pins s σ H D I h => h oe pn pins s hz hfd I⟩)).run pins s σ H _ I ?_
  intro pn xe pins' s' tk' po I'
  refine hb pn xe own T H0 gs as pins' s' σ H (tk'.imp fun cls d σ1 H1 ⟨as1, G1, fs, h1, xd, b, hb1, hyes, hno⟩ => ?_) po I' hh
  refine ⟨b, hb1, fun e a ha oe pn2 pins2 s2 hz hfd I2 => ?_, fun e => ⟨as1, G1, fs, h1, xd, hno e⟩⟩
  obtain ⟨efs, hsu⟩ := hyes e
  subst efs
  have ed : d = none := by
    cases d with
    | none => rfl
    | some a =>
      exact absurd rfl xd.1
  subst ed
  have hl2 := I2.len
  have hi' : i < X.N.length := (List.getElem?_eq_some_iff.mp hi).1
  have hl3 : (σ1.set i (some (V.ref a))).length = X.N.length := hl2
  rw [List.length_set] at hl3
  refine thn (hsu a oe pn2 hz hfd own T H0 gs as1 pins2 s2 _ H1 takes_blkz PassesOwn.never I2 (h1.setS (x := .rw (.ref a)) rfl (by rw [hl3]; exact hi'))) fun fl s3 q => ?_
  have drop : ∀ {as : List (Option Addr)} {G2 : Gm} {σ3 : Sg} {H3 : Hp}, Hd X.K own T H0 gs as G2 σ3 H3 → Hd X.K own T H0 gs as ⟨G2.sl.set i .un, G2.om, G2.tn⟩ (σ3.set i none) H3 := fun {as G2 σ3 H3} h => by
    refine ⟨h.tt, h.tl, h.tp, h.fr, h.al, h.ol, h.oc, h.nd, h.nw, fun j => ?_, h.gh⟩
    show SlOk X.K _ _ (σ3.set i none)[j]? ((G2.sl.set i .un).getD j .un)
    by_cases hj : i = j
    · subst hj
      by_cases hs : i < G2.sl.length
      · rw [getD_set_eq hs]; trivial
      · rw [getD_ge (by rw [List.length_set]; omega)]; trivial
    · rw [List.getElem?_set_ne hj, getD_set_ne hj]
      exact h.sl j
  exact sp_mono q (fun σ3 H3 ⟨as3, G3, k1, k2⟩ => ⟨as3, _, drop k1, k2⟩) (fun v H3 q => q) (fun σ3 H3 ⟨as3, G3, k1, k2⟩ => ⟨as3, _, drop k1, k2⟩) (fun σ3 H3 ⟨as3, G3, k1, k2⟩ => ⟨as3, _, drop k1, k2⟩)
/-- a class's name -/
theorem we_gcls {Q : Vl → Gm → Prop} (hm : X.mg x = some (.ref C)) (h : Q (.rw (.ref C)) G) (hg : Gl X x := by rfl) (hd : (x == ("__debug__" : Str)) = false := by decide) : WE X Z (.Name x pos) G Q :=
  WE.of (pe_glob (v := .ref C) hg hm rfl hd) fun own T H0 gs as σ H tk hh => ⟨.rw (.ref C), G, hh, rfl, h⟩
/-- isinstance(n, C) of the exception that a suite holds -/
theorem we_isE {a D' : Addr} {oe : Obj} {pn : List (Addr × Obj)} {Q : Vl → Gm → Prop} {e1 e2 : Expr} (EC : ExcC X.K D') (hz : Zc (.ref D') none oe) (hf : ∃ vs, oe.data = .fields vs) (hm : X.mg "isinstance" = none)
    (h : WE (X.suite a ((a, oe) :: pn)) nz e1 G fun x G1 => x = .rw (.ref a) ∧ WE (X.suite a ((a, oe) :: pn)) nz e2 G1 fun y G2 => ∃ C b, y = .rw (.ref C) ∧ PySem.W.kitOne X.K (.ref D') (.ref C) = some b ∧ Q (.im (.bl b)) G2)
    (hg : Gl (X.suite a ((a, oe) :: pn)) "isinstance" := by rfl)
    (he : starEach (e1 :: [e2]) X.env = (false, eval e1 X.env) :: starEach [e2] X.env := by rfl) (he2 : starEach (e2 :: []) X.env = (false, eval e2 X.env) :: starEach [] X.env := by rfl) (hpl : (backTo pos (starEach [e2] X.env)).any (·.1) = false := by rfl) : WE (X.suite a ((a, oe) :: pn)) nz (.Call (.Name "isinstance" p) [e1, e2] [] pos) G Q :=
  WE.of (pe_callB (call_isE (X := X) EC hz hf) hg hm (by decide +kernel) (pa_cons pe_se (pa_cons pe_se pa_nil he2) he) (by decide) (by decide) he hpl) fun own T H0 gs as σ H tk hh => se2 (Q := fun x y G2 => x = .rw (.ref a) ∧ ∃ C b, y = .rw (.ref C) ∧ PySem.W.kitOne X.K (.ref D') (.ref C) = some b ∧ Q (.im (.bl b)) G2) tk hh (h.mono fun x G1 ⟨ex, q⟩ => q.mono fun y G2 z => ⟨ex, z⟩) fun v w x y G2 H2 h1 h2 h3 ⟨ex, C, b, ey, hk, q⟩ => by
    subst ex ey
    have ev : v = .ref a := h2
    have ew : w = .ref C := h3
    subst ev ew
    exact ⟨.ref C, .ref C, b, rfl, fun u r => r, hk, EQ.bl h1 q⟩
end
end DL

namespace DL
open PySem PySem.Spec L2
section
variable {X : Cx} {Z : Xz} {G G' : Gm} {pos : Pos} {Q : Vl → Gm → Prop} {E : En} {sts : List Stmt} {tg : Expr} {tv : Nat → Prop} {d : D}
/-! ### names by the kind of their slot -/
theorem we_im (i : Nat) {x : Str} {d : D} (hs : G.sl.getD i .un = .im d) (h : Q (.im d) G) (hN : X.N[i]? = some x := by rfl) (hv : Vis X.env.scope x := by first | exact Or.inl rfl | exact Or.inr (Or.inl rfl) | exact Or.inr (Or.inr rfl)) (hd : (x == ("__debug__" : Str)) = false := by decide)
    (hcd : (x == ("__classdict__" : Str)) = false := by decide) : WE X Z (.Name x pos) G Q := we_var i (by rw [hs]; exact h) hN hv hd hcd
theorem we_ow (i : Nat) {x : Str} {k : Nat} (hs : G.sl.getD i .un = .ow k) (h : Q (.ow k) G) (hN : X.N[i]? = some x := by rfl) (hv : Vis X.env.scope x := by first | exact Or.inl rfl | exact Or.inr (Or.inl rfl) | exact Or.inr (Or.inr rfl)) (hd : (x == ("__debug__" : Str)) = false := by decide)
    (hcd : (x == ("__classdict__" : Str)) = false := by decide) : WE X Z (.Name x pos) G Q := we_var i (by rw [hs]; exact h) hN hv hd hcd
theorem we_rw (i : Nat) {x : Str} {v : V} (hs : G.sl.getD i .un = .rw v) (h : Q (.rw v) G) (hN : X.N[i]? = some x := by rfl) (hv : Vis X.env.scope x := by first | exact Or.inl rfl | exact Or.inr (Or.inl rfl) | exact Or.inr (Or.inr rfl)) (hd : (x == ("__debug__" : Str)) = false := by decide)
    (hcd : (x == ("__classdict__" : Str)) = false := by decide) : WE X Z (.Name x pos) G Q := we_var i (by rw [hs]; exact h) hN hv hd hcd
theorem wb_at (G' : Gm) (e : G = G') (h : WB X Z sts G' E) : WB X Z sts G E := by rw [e]; exact h
theorem wg_le {Q : Gm → Prop} (l : Le G G') (h : WG X Z tg tv d G' Q) : WG X Z tg tv d G Q := fun own T H0 gs as σ H v hl tk hh hd => h own T H0 gs as σ H v hl tk (hh.le l) hd
theorem wt_le {e : Expr} {Q : Bool → Gm → Prop} (l : Le G G') (h : WT X Z e G' Q) : WT X Z e G Q := fun own T H0 gs as pins s σ H tk I hh => h own T H0 gs as pins s σ H tk I (hh.le l)
theorem im0 : ImA [] [] := rfl
theorem im1 {a : D} : ImA [.im a] [a] := ⟨_, _, rfl, rfl, rfl⟩
theorem im2 {a b : D} : ImA [.im a, .im b] [a, b] := ⟨_, _, rfl, im1, rfl⟩
theorem im3 {a b c : D} : ImA [.im a, .im b, .im c] [a, b, c] := ⟨_, _, rfl, im2, rfl⟩
theorem im4 {a b c d : D} : ImA [.im a, .im b, .im c, .im d] [a, b, c, d] := ⟨_, _, rfl, im3, rfl⟩
theorem im5 {a b c d e : D} : ImA [.im a, .im b, .im c, .im d, .im e] [a, b, c, d, e] := ⟨_, _, rfl, im4, rfl⟩
theorem im6 {a b c d e f : D} : ImA [.im a, .im b, .im c, .im d, .im e, .im f] [a, b, c, d, e, f] := ⟨_, _, rfl, im5, rfl⟩
/-- a value handed back: a datum -/
theorem ret_im {R : D → Prop} (h : R d) : (enF R).rt (.im d) G := ⟨d, rfl, h⟩
theorem ret_imO {R : D → Oc → Prop} (h : R d (G.om.getD 0 .dead)) : (enO R).rt (.im d) G := ⟨d, rfl, h⟩
/-- xs[-1] -/
theorem atI_neg1 {α : Type} (xs : List α) (v : α) : atI (xs ++ [v]) (-1) = some v := atI_last xs v
open PyProof.Rows in
/-- w[::-1] of a text -/
theorem we_srev {e : Expr} {k : Nat} {p1 p2 p3 : Pos} (h : WE X Z e G fun x G1 => ∃ l, Con G1 x (.str l) ∧ l.length ≤ 100000 ∧ Q (.im (.str l.reverse)) G1) : WE X Z (.Subscript e (.Slice none none (some (.UnaryOp .USub (.Constant (.int 1) k p1) p2)) p3) pos) G Q := fun own T H0 gs as pins s σ H tk I hh => by
  refine Subscript_ (thn (h own T H0 gs as pins s σ H tk I hh) fun v s1 ⟨x, H1, I1, r1, y, G1, h1, h2, l, c, hz, q⟩ => ?_)
  have ev := (h1.dv h2 c).str
  subst ev
  obtain ⟨t, rfl⟩ := r1
  have hst : PO X (some (.UnaryOp .USub (.Constant (.int 1) k p1) p2)) (tPart (tUn (rU fun i => .int (-i)) (tC (.int 1)))) := po_some (pe_un un_neg pe_int)
  refine wpAny_Slice (thn (po_none.run pins s1 σ H1 (fun o H2 => o = none ∧ H2 = H1) I1 ⟨rfl, rfl⟩) fun vl s2 ⟨l2, H2, I2, pl, el, e2⟩ => ?_)
  subst el e2
  refine thn (po_none.run pins s2 σ H2 (fun o H3 => o = none ∧ H3 = H2) I2 ⟨rfl, rfl⟩) fun vu s3 ⟨u, H3, I3, pu, eu, e3⟩ => ?_
  subst eu e3
  refine thn (hst.run pins s3 σ H3 (fun o H4 => o = some (-1) ∧ H4 = H3) I3 ⟨1, rfl, -1, rfl, rfl, rfl⟩) fun vs s4 ⟨o, H4, I4, ps, eo, e4⟩ => ?_
  subst eo e4
  have I5 : Inv X pins σ H4 { s4 with heap := s4.heap.push { cls := .type "slice", data := .fields #[vl, vu, vs] } } := I4.kept (t' := s4.toks) fun b ob q => Heap.get?_push_of_some _ q
  cases pl
  cases pu
  obtain ⟨l3, e31, e32⟩ := IsPart.raw ps
  show wpAny (model X.prog X.w) X.A (subscriptTail e (.Slice none none (some (.UnaryOp .USub (.Constant (.int 1) k p1) p2)) p3) (.str ⟨l.toArray⟩ t) (.ref s4.heap.objs.size)) _ X.xe { s4 with heap := s4.heap.push { cls := .type "slice", data := .fields #[.none, .none, vs] } }
  refine tail_any (ops := [.str ⟨l.toArray⟩ t, .ref s4.heap.objs.size]) (typeIs_str _ _ _) (PySem.F.slot_str_getitem.lookup) ?_ (by with_unfolding_all rfl)
  have fl : (PySem.W.krv_range 0 = PySem.W.krv_range 0) := rfl
  have hlen : (⟨l.toArray⟩ : Str).length = l.length := by simp [Str.length]
  have hidx : Builtin.Str.strSliceIndices none none (-1) l.length = (List.range l.length).reverse := by
    rw [← PySem.W.krv_range, ← PySem.W.krv_sliceRange]
    rfl
  have hpick : ((List.range l.length).reverse).filterMap ((⟨l.toArray⟩ : Str).cps[·]?) = l.reverse := by
    rw [List.filterMap_reverse]
    have := PySem.W.krv_all l.toArray
    rw [List.size_toArray] at this
    rw [this]
  refine wpAny_getItem_str_slice (l := none) (u := none) (st := l3) ⟨_, Heap.get?_push_size _ rfl, rfl, by rw [e31] <;> rfl⟩ (by rw [e32]; decide) ?_
  unfold sliceMade slicePicked
  rw [e32, if_neg (by simp)]
  show Made.post (.str ⟨((Builtin.Str.strSliceIndices none none (-1) (⟨l.toArray⟩ : Str).length).filterMap ((⟨l.toArray⟩ : Str).cps[·]?)).toArray⟩) _ _
  rw [hlen, hidx, hpick]
  refine ⟨sz_le (by simp [Str.length]; exact hz), .str ⟨l.reverse.toArray⟩, H4, I5.tok _, ⟨_, rfl⟩, .im (.str l.reverse), G1, h1, .str _, q⟩
end
end DL

namespace DL
open PySem PySem.Spec L2
/-! ### the law itself -/
def PLaw : List D → (D → Prop) → Pz → Prop := fun ds R _ => ∃ ns : List Int, ds = [.scr ns] ∧ ns.length ≤ 63 ∧ R (.bl true)
theorem law_start {K : PySem.W.Frag} {H : Hp} {a : Addr} {ns : List Int} {E : XK} (hl : ns.length ≤ 63) (hS : SqL K H a (ns.map V.int)) : spF K 1 PLaw [.ref a] H (fun v _ => v = .bl true) E := by
  have e : Same H (cut (inn []) H) := fun b o h => cut_some.mpr ⟨fun z => (by cases z), h⟩
  refine ⟨[], [.scr ns], fun d => d = .bl true, fun _ _ => False, rfl, fun b hb => (by cases hb), .cons (.scr (e.seq hS)) .nil, ⟨ns, rfl, hl, rfl⟩, fun v d H' r sm dd => ?_, fun cls fs dd H' z => z.elim⟩
  subst r
  cases dd
  rfl
theorem law_quiet {P : Program} {w : World} {H : Hp} {s : Shared} {e : Value} {s' : Shared} (h : L2.CX P w [] H s (fun _ _ _ => False) e s') : False := by
  obtain ⟨_, _, _, _, _, _, _, _, _, _, _, _, z⟩ := h
  exact z
theorem exm_own {K : PySem.W.Frag} {T R : Addr} {b : Bool} (h1 : PySem.W.subIn K (.ref T) (.type "BaseException") = some true) (hd : PySem.W.hasDictIn K T = true) (ht : PySem.W.typeIn K (.ref T) = some (.type "type")) (h4 : PySem.W.subIn K (.ref R) (.ref T) = some b) : PySem.W.exmOne K (.ref R) (.ref T) = some b :=
  PySem.W.exm_ref h1 hd ht h4
theorem kit_own {K : PySem.W.Frag} {T R : Addr} {b : Bool} (h1 : PySem.W.subIn K (.ref T) (.type "BaseException") = some true) (hd : PySem.W.hasDictIn K T = true) (ht : PySem.W.typeIn K (.ref T) = some (.type "type")) (hs : PySem.W.subIn K (.ref T) (.ref T) = some true) (h4 : PySem.W.subIn K (.ref R) (.ref T) = some b) : PySem.W.kitOne K (.ref R) (.ref T) = some b := by
  have e := exm_own h1 hd ht h4
  unfold PySem.W.exmOne at e
  rw [if_pos (by rw [h1]; rfl)] at e
  unfold PySem.W.kitOne
  by_cases z : (Value.ref R == Value.ref T) = true
  · have z2 : R = T := Value.ref.inj (beq_iff_eq.mp z)
    subst z2
    rw [if_pos z]
    exact hs.symm.trans h4
  · rw [if_neg z]
    exact e
end DL

namespace DL
open PySem PySem.Spec L2
section
variable {X : Cx} {Z : Xz} {e : Expr} {G : Gm}
theorem wt_mono {Q Q' : Bool → Gm → Prop} (h : WT X Z e G Q) (q : ∀ b G1, Q b G1 → Q' b G1) : WT X Z e G Q' := fun own T H0 gs as pins s σ H tk I hh =>
  thn (h own T H0 gs as pins s σ H tk I hh) fun u s' ⟨H', I', G1, h1, z⟩ => ⟨H', I', G1, h1, q u G1 z⟩
/-- a test of which only the answer is of use -/
theorem wt_val {Q : Bool → Gm → Prop} (c : Bool) (h : WT X Z e G fun k G1 => k = c ∧ G1 = G) (q : Q c G) : WT X Z e G Q := wt_mono h fun b G1 ⟨h1, h2⟩ => by
  subst h1
  subst h2
  exact q
theorem we_mono {Q Q' : Vl → Gm → Prop} (h : WE X Z e G Q) (q : ∀ b G1, Q b G1 → Q' b G1) : WE X Z e G Q' := fun own T H0 gs as pins s σ H tk I hh =>
  thn (h own T H0 gs as pins s σ H tk I hh) fun u s' ⟨v, H', I', r, x, G1, h1, h2, z⟩ => ⟨v, H', I', r, x, G1, h1, h2, q x G1 z⟩
theorem we_val {Q : Vl → Gm → Prop} (d : D) (h : WE X Z e G fun k G1 => k = .im d ∧ G1 = G) (q : Q (.im d) G) : WE X Z e G Q := we_mono h fun b G1 ⟨h1, h2⟩ => by
  subst h1
  subst h2
  exact q
end
end DL

namespace DL
open PySem PySem.Spec L2
section
variable {α : Type}
theorem cutL_to (xs : List α) (n : Nat) : cutL xs none (some (n : Int)) = xs.take n := by
  unfold cutL
  rw [HT.sIx_none, HT.sIx_nat, List.drop_zero, Nat.sub_zero]
  by_cases h : n ≤ xs.length
  · rw [Nat.min_eq_left h]
  · rw [Nat.min_eq_right (by omega), List.take_of_length_le (Nat.le_refl _), List.take_of_length_le (by omega)]
theorem cutL_from (xs : List α) (n : Nat) : cutL xs (some (n : Int)) none = xs.drop n := by
  unfold cutL
  rw [HT.sIx_none, HT.sIx_nat]
  by_cases h : n ≤ xs.length
  · rw [Nat.min_eq_left h, List.take_of_length_le (by rw [List.length_drop]; omega)]
  · rw [Nat.min_eq_right (by omega), List.drop_of_length_le (Nat.le_refl _), List.drop_of_length_le (l := xs) (i := n) (by omega), List.take_nil]
theorem cutL_mid (xs : List α) (a b : Nat) (hb : b ≤ xs.length) (ha : a ≤ b) : cutL xs (some (a : Int)) (some (b : Int)) = (xs.drop a).take (b - a) := by
  unfold cutL
  rw [HT.sIx_nat, HT.sIx_nat, Nat.min_eq_left hb, Nat.min_eq_left (by omega)]
theorem at_ofL {xs : List α} {z : Int} {v : α} (j : Nat) (e : z = (j : Int)) (h : xs[j]? = some v) : atI xs z = some v := by
  rw [e]
  exact atI_nat h
end
end DL

namespace DL
open PySem PySem.Spec PyProof.Rows L2 PySem.W
/-! ### sorted(xs), min(xs, key=f) over data -/
section
variable {X : Cx} {pins : List (Addr × Obj)} {σ : Sg} {H : Hp} {s : Shared}
theorem each_of {K : PySem.W.Frag} {C : Hp} : ∀ {vs : List V} {us : List Value} {ds : List D}, Vals vs us → DdA K C vs ds → EachIs (fun u d => ∃ v, RelV v u ∧ Dd K C v d) us ds
  | _, _, _, .nil, .nil => .nil
  | _, _, _, .cons r t, .cons q z => .cons ⟨_, r, q⟩ (each_of t z)
theorem each_back {K : PySem.W.Frag} {C : Hp} : ∀ {us : List Value} {ds : List D}, EachIs (fun u d => ∃ v, RelV v u ∧ Dd K C v d) us ds → ∃ vs, Vals vs us ∧ DdA K C vs ds
  | _, _, .nil => ⟨[], .nil, .nil⟩
  | _, _, .cons ⟨v, r, q⟩ t => by
    obtain ⟨vs, h1, h2⟩ := each_back t
    exact ⟨v :: vs, .cons r h1, .cons q h2⟩
theorem Dd.reads {C : Hp} (I : Inv X pins σ H s) (e : Same C H) {v : V} {u : Value} {d : D} (h : Dd X.K C v d) (r : RelV v u) : ∃ as, Reads s.heap u d.py as := Dp.reads I d.py v u (h.mono e).dp r
def rSortD (K : PySem.W.Frag) : List V → Hp → VK → Prop := fun vs H Q => ∃ (a : Addr) (xs : List V) (ds : List D) (C : Hp), vs = [V.ref a] ∧ SqL K H a xs ∧ Same C H ∧ DdA K C xs ds ∧ AllAlike (ds.map D.py) ∧ Sortable (ds.map D.py) ∧ (∀ d ∈ ds, d.py.depth ≤ 40) ∧
  ∀ (xs' : List V) (p : Addr), DdA K C xs' (ds.mergeSort (dataLe false D.py)) → H p = none → Q (.ref p) (upd H p (.lst xs'))
theorem cr_sortD {k : Nat} (hr : Room k X.A) : CallR X (.builtin "sorted") (rSortD X.K) := by
  intro pins s σ H vs us Q I r h
  obtain ⟨a, xs, ds, C, rfl, hs, sm, hd, hal, hk, hdep, q⟩ := h
  obtain rfl := Vals.ref1 r
  obtain ⟨its, rv, hl, hz⟩ := I.list hs
  have ee := each_of rv hd
  refine sorted_data (enc := D.py) hl.isList ee (ee.mono fun u d ⟨v, rr, dd⟩ => Dd.reads I sm dd rr) hal hk (by rw [← hd.length]; exact hz) (fun d hm => ?_) fun out ho eo => ?_
  · have := hr.units
    have := hdep d hm
    omega
  · obtain ⟨xs', k1, k2⟩ := each_back eo
    obtain ⟨ep, he'⟩ := PyProof.Rows.sortedAll_at s.heap its out.toArray
    have hlen : xs'.length ≤ sizeLine := by
      rw [k1.length, ho, ← hd.length]
      exact hz
    exact ⟨.ref _, upd H (s.heap.objs.size + 1) (.lst xs'), I.laid (t' := s.toks) (fun _ _ => PyProof.Rows.sortedAll_old) (Nat.le_succ _) ⟨hlen, out, ep, k1, he'⟩, rfl, q xs' _ k2 (I.hok.fresh (Nat.le_succ _))⟩
end
section
variable {X : Cx} {Z : Xz} {e : Expr} {G : Gm} {pos p : Pos} {Q : Oc → Gm → Prop}
theorem wef_sorted {k : Nat} (hr : Room k X.A) (hm : X.mg "sorted" = none) (h : WE X Z e G fun x G1 => ∃ ds, Con G1 x (.lst ds) ∧ AllAlike (ds.map D.py) ∧ Sortable (ds.map D.py) ∧ (∀ d ∈ ds, d.py.depth ≤ 40) ∧ Q (.li (ds.mergeSort (dataLe false D.py))) G1) (hg : Gl X "sorted" := by rfl)
    (he : starEach (e :: []) X.env = (false, eval e X.env) :: starEach [] X.env := by rfl) (hpl : (backTo pos (starEach [] X.env)).any (·.1) = false := by rfl) : WEF X Z (.Call (.Name "sorted" p) [e] [] pos) G Q :=
  WEF.of (pe_callB (cr_sortD hr) hg hm (by decide +kernel) (pa_cons pe_se pa_nil he) (by decide) (by decide) he hpl) fun own T H0 gs as σ H tk hh => seE_mono (h.se tk hh) fun v H1 ⟨x, G1, h1, h2, ds, c, hal, hk, hdp, q⟩ => by
    obtain ⟨p, xs, rfl, k1, k2⟩ := h1.dv h2 c
    exact ⟨p, xs, ds, cut (ex own as) H1, rfl, SqL.of k1, cut_sub, k2, hal, hk, hdp, fun xs' t k3 ht => FQ.lst h1 ht k3 q⟩
end
end DL

namespace DL
open PySem PySem.Spec PyProof.Rows L2 PySem.W
section
variable {X : Cx} {pins : List (Addr × Obj)} {σ : Sg} {H : Hp} {k : Nat} {q l : Addr} {fd : FuncData} {ps : List Str} {sp : Sp} {xs : List V} {key : Nat → D}
def ltK (key : Nat → D) (i j : Nat) : Bool := dataLt (key i).py (key j).py
/-- one call of the key -/
theorem key_run (F : FnOk X.prog X.w X.K X.mg X.base (L2.CX X.prog X.w) k q fd ps sp) (hr : Room k X.A.in1) (hb : Binds X.K fd ps []) {H1 : Hp} {s1 : Shared} {v : V} {u : Value} {Qv : VK} {E : Value → Shared → Prop} (I1 : Inv X pins σ H1 s1) (rv : RelV v u) (hsp : sp [v] H1 Qv (fun _ _ _ => False)) :
    wpAny (model X.prog X.w) X.A.in1 (call (.ref q) [u]) (fun r s' => CE X.stack X.prog X.w H1 s1 Qv r s') E s1 := by
  have hlen := F.len _ _ _ _ hsp
  refine wpAny_call (codeAny_mono (F.run X.A.in1 X.stack s1 H1 ⟨[u], []⟩ [u] [v] Qv _ hr I1.env0.in1 (by simpa using hb s1 [u] I1.kIn (by simpa using hlen)) (.cons rv .nil) hsp) fun rr s2 hq => ?_)
  cases rr with
  | error e =>
    obtain ⟨_, _, _, _, _, _, _, _, _, _, _, _, z⟩ := (show L2.CX X.prog X.w X.stack H1 s1 (fun _ _ _ => False) e s2 from hq)
    exact z.elim
  | ok fl =>
    cases fl with
    | ret u => exact hq
    | next => exact hq.elim
    | brk => exact hq.elim
    | cont => exact hq.elim
/-- what the key gives -/
structure KeyD (X : Cx) (H : Hp) (sp : Sp) (xs : List V) (C : Hp → Hp) (key : Nat → D) : Prop where
  c1 : ∀ H, Same (C H) H
  c2 : ∀ H1 H2, Same H H1 → Same H1 H2 → Same (C H1) (C H2)
  run : ∀ i v H1, xs[i]? = some v → Same H H1 → sp [v] H1 (fun kv H2 => Same H1 H2 ∧ Dd X.K (C H2) kv (key i)) (fun _ _ _ => False)
  al : ∀ i j, i < xs.length → j < xs.length → alike (key i).py (key j).py = true
  nn : ∀ i, (key i).py ≠ .none
  dp : ∀ i, (key i).py.depth ≤ 40
theorem best_lt {n : Nat} (lt : Nat → Nat → Bool) : ∀ j, j < n → argBest lt j < n
  | 0, h => h
  | j + 1, h => by
    unfold argBest
    split
    · exact h
    · exact best_lt lt j (by omega)
theorem minK_loop (F : FnOk X.prog X.w X.K X.mg X.base (L2.CX X.prog X.w) k q fd ps sp) (hr : Room k X.A.in1) (hb : Binds X.K fd ps []) (hl : SqL X.K H l xs) (hc : X.calm = true) {C : Hp → Hp} (KD : KeyD X H sp xs C key)
    {it sl : Addr} (ri : FbM.Rec X pins it) (rs : FbM.Rec X pins sl) (hne : it ≠ sl) {kw : List (Str × Value)} {R : Result → Shared → Prop}
    (hR : ∀ v u s' H1, Inv X pins σ H1 s' → Same H H1 → xs[argBest (ltK key) (xs.length - 1)]? = some v → RelV v u → R (.ok (.ret u)) s') :
    ∀ (r j : Nat) (s : Shared) (H1 : Hp) (vb kb : Value) (kv : V) (c : Nat), xs.length - (j + 1) = r → j + 1 ≤ xs.length → Inv X pins σ H1 s → Same H H1 → H1 it = none → H1 sl = none → (∃ v, xs[argBest (ltK key) j]? = some v ∧ RelV v vb) → RelV kv kb →
      Dd X.K (C H1) kv (key (argBest (ltK key) j)) → s.heap.get? sl = some (seqObj "list" #[vb, kb] c) → s.heap.IsListIter it l (j + 1) → codeAny (model X.prog X.w) X.A (.builtin "min.loop" ⟨[.ref it, .ref q, .ref sl], kw⟩) R s := by
  intro r
  induction r with
  | zero =>
    intro j s H1 vb kb kv c hj hj2 I sm ui us ⟨vv, ev, rvb⟩ rkb hd hs hit
    have hin : j + 1 = xs.length := by omega
    obtain ⟨its, rv, pl, hz⟩ := I.list (sm.seq hl)
    refine codeAny_builtin PySem.F.entry_min_loop (?_ : wpAny _ _ _ _ _ _)
    rw [Around.under_plainId PySem.F.plain_min_loop ⟨_, _⟩]
    show wpAny _ X.A.in1 ((seqItems? (.ref sl)) >>= _) _ _ _
    refine wpAny_bind (wpAny_seqItems hs rfl (?_ : wpAny _ _ _ _ _ _))
    show wpAny _ X.A.in1 ((tryCatch (pyNext (.ref it)) _) >>= _) _ _ _
    refine wpAny_bind (wpAny_tryCatch (wpAny_pyNext_list_end (A := X.A.in1) (I.ok.hd hc) hit pl.isList (by rw [List.getElem?_toArray]; exact List.getElem?_eq_none (by rw [← rv.length]; omega)) fun h1 k1 => ?_))
    have I1 : Inv X pins σ H1 { s with heap := h1 } := ri.turn (t' := s.toks) I ui k1
    have hs1 := k1 sl _ (fun z => hne z.symm) hs
    have s2 := Heap.SameBut.update h1 sl (Obj.mapSeq fun _ => (#[] : Array Value))
    show wpAny _ X.A.in1 ((updateSeq sl (fun _ => #[])) >>= _) _ _ _
    refine wpAny_bind (?_ : wpAny _ _ _ _ _ _)
    refine wpAny_updateSeq hs1 rfl (wpAny_bind (wpAny_letGo (wpAny_pure (?_ : R _ _))))
    have I2 := rs.turn (t' := s.toks) I1 us fun b o hb e => (s2.2 b hb).trans e
    refine hR vv vb _ H1 I2 sm ?_ rvb
    rw [← hin]
    exact ev
  | succ r ih =>
    intro j s H1 vb kb kv c hj hj2 I sm ui us ⟨vv, ev, rvb⟩ rkb hd hs hit
    have hlt : j + 1 < xs.length := by omega
    obtain ⟨its, rv, pl, hz⟩ := I.list (sm.seq hl)
    obtain ⟨v, exv⟩ : ∃ v, xs[j + 1]? = some v := ⟨_, List.getElem?_eq_getElem hlt⟩
    obtain ⟨u, eu, rxu⟩ := rv.get exv
    refine codeAny_builtin PySem.F.entry_min_loop (?_ : wpAny _ _ _ _ _ _)
    rw [Around.under_plainId PySem.F.plain_min_loop ⟨_, _⟩]
    show wpAny _ X.A.in1 ((seqItems? (.ref sl)) >>= _) _ _ _
    refine wpAny_bind (wpAny_seqItems hs rfl (?_ : wpAny _ _ _ _ _ _))
    show wpAny _ X.A.in1 ((tryCatch (pyNext (.ref it)) _) >>= _) _ _ _
    refine wpAny_bind (wpAny_tryCatch (wpAny_pyNext_list_item (A := X.A.in1) (x := u) hit pl.isList (by simpa using eu) fun h1 hit1 k1 => ?_))
    have I1 : Inv X pins σ H1 { s with heap := h1 } := ri.turn (t' := s.toks) I ui fun b o hb e => (k1.2 b hb).trans e
    have hs1 := (k1.2 sl (fun z => hne z.symm)).trans hs
    show wpAny _ X.A.in1 ((tryCatch (holding [u] (call (.ref q) [u])) _) >>= _) _ _ _
    refine wpAny_bind (wpAny_tryCatch (wpAny_holding (wpAny_mono (key_run F hr hb I1 rxu (KD.run (j + 1) v H1 exv sm) (E := fun _ _ => False)) (fun x s2 he => ?_) fun _ _ z => False.elim z)))
    obtain ⟨kn, H2, os, bare, un, hok, rkn, sm2, hdn⟩ := he
    have I2 : Inv X pins σ H2 s2 := I1.call' os un hok bare fun b y => absurd y List.not_mem_nil
    have kp : ∀ {b : Addr} {o : Obj}, FbM.Rec X pins b → H1 b = none → h1.get? b = some o → s2.heap.get? b = some o := fun rb ub eb => un.keep _ _ eb ub rb.fr List.not_mem_nil
    have hs2 := kp rs us hs1
    have hit2 : s2.heap.IsListIter it l (j + 1 + 1) := by
      obtain ⟨o, ho, hcl, hdt⟩ := hit1
      exact ⟨o, kp ri ui ho, hcl, hdt⟩
    have ui2 : H2 it = none := by
      obtain ⟨o, ho, _⟩ := hit1
      exact un.free it o ho ui List.not_mem_nil
    have us2 : H2 sl = none := un.free sl _ hs1 us List.not_mem_nil
    have hd2 : Dd X.K (C H2) kv (key (argBest (ltK key) j)) := hd.mono (KD.c2 H1 H2 sm sm2)
    obtain ⟨as1, rd1⟩ := Dd.reads I2 (KD.c1 H2) hdn rkn
    obtain ⟨as2, rd2⟩ := Dd.reads I2 (KD.c1 H2) hd2 rkb
    have hun : X.A.in1.units + 40 < cLine := by
      have := hr.units
      omega
    show wpAny _ X.A.in1 ((tryCatch (holding [u, x] (richCompare .Lt x kb >>= _)) _) >>= _) _ _ _
    have hcmp := rcLt_alike (key (j + 1)).py (key (argBest (ltK key) j)).py X.A.in1 s2 x kb as1 as2 rd1 rd2 (KD.al _ _ hlt (best_lt _ j (by omega))) (KD.nn _) (by
      have := KD.dp (j + 1)
      omega)
    refine wpAny_bind (wpAny_tryCatch (wpAny_holding (wpAny_bind (hcmp _ _ _ _ (?_ : wpAny _ _ _ _ _ _)))))
    refine wpAny_bind (wpAny_holding (wpAny_truthy_bool (?_ : wpAny _ _ _ _ _ _)))
    refine wpAny_bind (wpAny_letGo (wpAny_pure (?_ : wpAny _ _ _ _ _ _)))
    have eB : argBest (ltK key) (j + 1) = if ltK key (j + 1) (argBest (ltK key) j) then j + 1 else argBest (ltK key) j := rfl
    by_cases hbb : dataLt (key (j + 1)).py (key (argBest (ltK key) j)).py = true
    · rw [if_pos (show ltK key (j + 1) (argBest (ltK key) j) = true from hbb)] at eB
      simp only [hbb, if_true]
      refine wpAny_bind (?_ : wpAny _ _ _ _ _ _)
      refine wpAny_updateSeq hs2 rfl (wpAny_bind (wpAny_letGo (wpAny_pure ⟨plainId_quiet PySem.F.plain_min_loop _, ?_⟩)))
      have s3 := Heap.SameBut.update s2.heap sl (Obj.mapSeq fun _ => #[u, x])
      have I3 : Inv X pins σ H2 { s2 with heap := s2.heap.update sl (Obj.mapSeq fun _ => #[u, x]) } := rs.turn (t' := s2.toks) I2 us2 fun b o hb e => (s3.2 b hb).trans e
      refine ih (j + 1) _ H2 u x kn _ (by omega) (by omega) I3 (fun b o e => sm2 b o (sm b o e)) ui2 us2 ?_ rkn ?_ (Heap.get?_update_self _ hs2 rfl) ?_
      · rw [eB]; exact ⟨v, exv, rxu⟩
      · rw [eB]; exact hdn
      · obtain ⟨o, ho, hcl, hdt⟩ := hit2
        exact ⟨o, (s3.2 it hne).trans ho, hcl, hdt⟩
    · rw [if_neg (show ¬ ltK key (j + 1) (argBest (ltK key) j) = true from hbb)] at eB
      simp only [Bool.not_eq_true] at hbb
      simp only [hbb, Bool.false_eq_true, if_false]
      refine wpAny_bind (wpAny_letGo (wpAny_pure ⟨plainId_quiet PySem.F.plain_min_loop _, ?_⟩))
      refine ih (j + 1) _ H2 vb kb kv _ (by omega) (by omega) I2 (fun b o e => sm2 b o (sm b o e)) ui2 us2 ?_ rkb ?_ hs2 hit2
      · rw [eB]; exact ⟨vv, ev, rvb⟩
      · rw [eB]; exact hd2
theorem minK_first (F : FnOk X.prog X.w X.K X.mg X.base (L2.CX X.prog X.w) k q fd ps sp) (hr : Room k X.A.in1) (hb : Binds X.K fd ps []) (hl : SqL X.K H l xs) (hc : X.calm = true) {C : Hp → Hp} (KD : KeyD X H sp xs C key) (h0 : 0 < xs.length)
    {it sl : Addr} (ri : FbM.Rec X pins it) (rs : FbM.Rec X pins sl) (hne : it ≠ sl) {kw : List (Str × Value)} {R : Result → Shared → Prop} {s : Shared} {c : Nat} (I : Inv X pins σ H s) (ui : H it = none) (us : H sl = none)
    (hR : ∀ v u s' H1, Inv X pins σ H1 s' → Same H H1 → xs[argBest (ltK key) (xs.length - 1)]? = some v → RelV v u → R (.ok (.ret u)) s')
    (hs : s.heap.get? sl = some { cls := .type "list", dict := none, data := .seq #[] c, slots := #[] }) (hit : s.heap.IsListIter it l 0) : codeAny (model X.prog X.w) X.A (.builtin "min.loop" ⟨[.ref it, .ref q, .ref sl], kw⟩) R s := by
  have sm : Same H H := fun _ _ e => e
  obtain ⟨its, rv, pl, hz⟩ := I.list (sm.seq hl)
  obtain ⟨v, exv⟩ : ∃ v, xs[0]? = some v := ⟨_, List.getElem?_eq_getElem h0⟩
  obtain ⟨u, eu, rxu⟩ := rv.get exv
  refine codeAny_builtin PySem.F.entry_min_loop (?_ : wpAny _ _ _ _ _ _)
  rw [Around.under_plainId PySem.F.plain_min_loop ⟨_, _⟩]
  show wpAny _ X.A.in1 ((seqItems? (.ref sl)) >>= _) _ _ _
  refine wpAny_bind (wpAny_seqItems hs rfl (?_ : wpAny _ _ _ _ _ _))
  show wpAny _ X.A.in1 ((tryCatch (pyNext (.ref it)) _) >>= _) _ _ _
  refine wpAny_bind (wpAny_tryCatch (wpAny_pyNext_list_item (A := X.A.in1) (x := u) hit pl.isList (by simpa using eu) fun h1 hit1 k1 => ?_))
  have I1 : Inv X pins σ H { s with heap := h1 } := ri.turn (t' := s.toks) I ui fun b o hb e => (k1.2 b hb).trans e
  have hs1 := (k1.2 sl (fun z => hne z.symm)).trans hs
  show wpAny _ X.A.in1 ((tryCatch (holding [u] (call (.ref q) [u])) _) >>= _) _ _ _
  refine wpAny_bind (wpAny_tryCatch (wpAny_holding (wpAny_mono (key_run F hr hb I1 rxu (KD.run 0 v H exv sm) (E := fun _ _ => False)) (fun x s2 he => ?_) fun _ _ z => False.elim z)))
  obtain ⟨kn, H2, os, bare, un, hok, rkn, sm2, hdn⟩ := he
  have I2 : Inv X pins σ H2 s2 := I1.call' os un hok bare fun b y => absurd y List.not_mem_nil
  have kp : ∀ {b : Addr} {o : Obj}, FbM.Rec X pins b → H b = none → h1.get? b = some o → s2.heap.get? b = some o := fun rb ub eb => un.keep _ _ eb ub rb.fr List.not_mem_nil
  have hs2 := kp rs us hs1
  have hit2 : s2.heap.IsListIter it l 1 := by
    obtain ⟨o, ho, hcl, hdt⟩ := hit1
    exact ⟨o, kp ri ui ho, hcl, hdt⟩
  have ui2 : H2 it = none := by
    obtain ⟨o, ho, _⟩ := hit1
    exact un.free it o ho ui List.not_mem_nil
  have us2 : H2 sl = none := un.free sl _ hs1 us List.not_mem_nil
  show wpAny _ X.A.in1 ((updateSeq sl (fun _ => #[u, x])) >>= _) _ _ _
  refine wpAny_bind (?_ : wpAny _ _ _ _ _ _)
  refine wpAny_updateSeq hs2 rfl (wpAny_pure ⟨plainId_quiet PySem.F.plain_min_loop _, ?_⟩)
  have s3 := Heap.SameBut.update s2.heap sl (Obj.mapSeq fun _ => #[u, x])
  have I3 : Inv X pins σ H2 { s2 with heap := s2.heap.update sl (Obj.mapSeq fun _ => #[u, x]) } := rs.turn (t' := s2.toks) I2 us2 fun b o hb e => (s3.2 b hb).trans e
  refine minK_loop F hr hb hl hc KD ri rs hne hR (xs.length - 1) 0 _ H2 u x kn _ rfl (by omega) I3 sm2 ui2 us2 ⟨v, exv, rxu⟩ rkn hdn (Heap.get?_update_self _ hs2 rfl) ?_
  obtain ⟨o, ho, hcl, hdt⟩ := hit2
  exact ⟨o, (s3.2 it hne).trans ho, hcl, hdt⟩
def rMinK (X : Cx) (q : Addr) (sp : Sp) : List V → List V → Hp → VK → Prop := fun ys zs H Q => ∃ (a : Addr) (xs : List V) (C : Hp → Hp) (key : Nat → D), ys = [.ref a] ∧ zs = [.ref q] ∧ SqL X.K H a xs ∧ 0 < xs.length ∧ KeyD X H sp xs C key ∧
  ∀ v H1, Same H H1 → xs[argBest (ltK key) (xs.length - 1)]? = some v → Q v H1
theorem cr_minKey (F : FnOk X.prog X.w X.K X.mg X.base (L2.CX X.prog X.w) k q fd ps sp) (hr : Room (k + 1) X.A) (hb : Binds X.K fd ps []) (hc : X.calm = true) : CallRK X (.builtin "min") [Str.ofString "key"] (rMinK X q sp) := by
  intro pins s σ H vs zs us ws Q I r rz h
  obtain ⟨a, xs, C, key, rfl, rfl, hl, h0, KD, hQ⟩ := h
  obtain rfl := Vals.ref1 r
  obtain rfl := Vals.ref1 rz
  have nm : (toString "min" ++ toString ".loop" : String) = "min.loop" := by decide
  obtain ⟨its, rv, pl, hz⟩ := I.list hl
  show wpAny _ X.A (call (.builtin "min") [.ref a] [(Str.ofString "key", .ref q)]) _ _ _
  refine kmk_tree PySem.F.kind_min PySem.F.plain_min PySem.F.entry_min (kmk_min_key (.ref a) (.ref q)) (?_ : wpAny _ _ _ _ _ _)
  show wpAny _ X.A.in1 ((Builtin.Builtins.bindParams "min" ["key", "default"] 0 ⟨[], [(Str.ofString "key", .ref q)]⟩) >>= _) _ _ _
  refine wpAny_bind (wpAny_of_eq (show Builtin.Builtins.bindParams "min" ["key", "default"] 0 ⟨[], [(Str.ofString "key", .ref q)]⟩ = (pure [some (.ref q), none] : Sem _) from rfl) (?_ : wpAny _ _ _ _ _ _))
  refine wpAny_bind (wpAny_pure (?_ : wpAny _ _ _ _ _ _))
  refine wpAny_bind (wpAny_pyIter_list pl.isList (?_ : wpAny _ _ _ _ _ _))
  refine wpAny_bind (wpAny_newObj_type (?_ : wpAny _ _ _ _ _ _))
  rw [nm]
  have g1 : (s.heap.push { cls := .type "list_iterator", data := .fields #[.ref a, .int 0 0] }).objs.size = s.heap.objs.size + 1 := size_push' ..
  have kp : ∀ b o, s.heap.get? b = some o → ((s.heap.push { cls := .type "list_iterator", data := .fields #[.ref a, .int 0 0] }).push { cls := .type "list", data := .seq #[] 0 }).get? b = some o := fun b o e => Heap.get?_push_of_some _ (Heap.get?_push_of_some _ e)
  have I2 := I.kept (t' := s.toks) kp
  refine wpAny_pure ⟨plainId_quiet PySem.F.plain_min_loop _, ?_⟩
  refine minK_first F hr.in1 hb hl hc KD h0 (FbM.rec_new I (Nat.le_refl _)) (FbM.rec_new I (by rw [g1]; exact Nat.le_succ _)) (by rw [g1]; exact Nat.ne_of_lt (Nat.lt_succ_self _)) I2 (I.hok.fresh (Nat.le_refl _)) (I.hok.fresh (by rw [g1]; exact Nat.le_succ _)) ?_ (Heap.get?_push_size _ rfl) ⟨_, Heap.get?_push_of_some _ (Heap.get?_push_size _ rfl), rfl, rfl⟩
  intro v u s' H1 I1 sm ev rvu
  exact ⟨v, H1, I1, rvu, hQ v H1 sm ev⟩
end
section
variable {X : Cx} {Z : Xz} {e : Expr} {G : Gm} {pos p p2 p3 : Pos} {Q : Vl → Gm → Prop} {k : Nat} {f : Addr} {fd : FuncData} {ps : List Str} {x : Str}
/-- min(xs, key=f) -/
theorem we_minK {P : List D → (D → Prop) → Pz → Prop} (F : FnOk X.prog X.w X.K X.mg X.base (L2.CX X.prog X.w) k f fd ps (spF X.K 1 P)) (hr : Room (k + 1) X.A) (hmin : X.mg "min" = none) (hm : X.mg x = some (.ref f)) (hb : Binds X.K fd ps [])
    (h : WE X Z e G fun y G1 => ∃ (ds : List D) (kd : D → D), y = .im (.lst ds) ∧ 0 < ds.length ∧ (∀ d ∈ ds, P [d] (fun z => z = kd d) (fun _ _ => False)) ∧ (∀ d ∈ ds, ∀ d' ∈ ds, alike (kd d).py (kd d').py = true) ∧ (∀ d, (kd d).py ≠ .none ∧ (kd d).py.depth ≤ 40) ∧
      ∀ d, ds[argBest (ltK fun i => kd (ds.getD i .non)) (ds.length - 1)]? = some d → Q (.im d) G1) (hc : X.calm = true := by rfl) (hg : Gl X "min" := by rfl) (hg2 : Gl X x := by rfl) (hdb : (x == ("__debug__" : Str)) = false := by decide)
    (he : backTo pos (starEach [e] X.env) = (false, eval e X.env) :: backTo pos (starEach [] X.env) := by rfl) (hpl : (backTo pos (starEach [e] X.env)).any (·.1) = false := by rfl) (he2 : starEach [e] X.env = (false, eval e X.env) :: starEach [] X.env := by rfl) :
    WE X Z (.Call (.Name "min" p) [e] [⟨some "key", .Name x p2, p3⟩] pos) G Q :=
  WE.of (pe_callBK (cr_minKey F hr hb hc) hg hmin (by decide +kernel) (pa_cons pe_se pa_nil he2) (pk_cons (pe_glob (v := .ref f) hg2 hm rfl hdb) pk_nil) (by decide) (by decide) he hpl) fun own T H0 gs as σ H tk hh => seE_mono (h.se tk hh) fun v H1 ⟨y, G1, h1, h2, ds, kd, ey, h0, hP, hal, hnd, q⟩ => by
    subst ey
    obtain ⟨a, xs, rfl, k1, k2⟩ := Dd.dv (H := H1) h2 cut_sub
    have hl := k2.length
    refine ⟨a, xs, fun H => cut (ex own as) H, fun i => kd (ds.getD i .non), rfl, rfl, SqL.of k1, by omega, ⟨fun H => cut_sub, fun H1 H2 _ e => Hd.cutSame e, fun i v H2 ev sm => ?_, fun i j hi hj => ?_, fun i => (hnd _).1, fun i => (hnd _).2⟩, fun v H2 sm ev => ?_⟩
    · obtain ⟨d, ed, dd⟩ := k2.at_ ev
      have hm' : d ∈ ds := List.mem_of_getElem? ed
      have e1 : ds.getD i .non = d := by rw [List.getD_eq_getElem?_getD, ed]; rfl
      refine ⟨exl own as, [d], _, _, rfl, (h1.grow sm).alive, ?_, hP d hm', fun v2 d2 H3 r sm2 dd2 => ?_, fun cls fs dd H3 z => z.elim⟩
      · rw [cut_exl]
        exact .cons (Dd.mono (Hd.cutSame sm) dd) .nil
      · refine ⟨sm2, ?_⟩
        rw [cut_exl] at dd2
        show Dd X.K _ v2 (kd (ds.getD i .non))
        rw [e1, ← (show d2 = kd d from r)]
        exact dd2
    · have g : ∀ i, i < ds.length → ds.getD i .non ∈ ds := fun i hi => by
        rw [List.getD_eq_getElem?_getD, List.getElem?_eq_getElem hi]
        exact List.getElem_mem hi
      exact hal _ (g i (by omega)) _ (g j (by omega))
    · obtain ⟨d, ed, dd⟩ := k2.at_ ev
      rw [hl] at ed
      exact ⟨.im d, G1, h1.grow sm, Dd.mono (Hd.cutSame sm) dd, q d ed⟩
end
end DL

namespace DL
open PySem PySem.Spec L2 PySem.W PyProof.Rows
/-! ### the least by a key -/
abbrev KO := listOrd itemOrd
theorem dlt_iff (x y : PyData) : dataLt x y = KO.blt (keyToks x) (keyToks y) := rfl
theorem best_min (key : Nat → D) : ∀ n, argBest (ltK key) n ≤ n ∧ ∀ j, j ≤ n → dataLt (key j).py (key (argBest (ltK key) n)).py = false
  | 0 => ⟨Nat.le_refl _, fun j hj => by
      have e : j = 0 := by omega
      subst e
      exact KO.irrefl _⟩
  | n + 1 => by
    obtain ⟨h1, h2⟩ := best_min key n
    have e : argBest (ltK key) (n + 1) = if ltK key (n + 1) (argBest (ltK key) n) then n + 1 else argBest (ltK key) n := rfl
    by_cases h : ltK key (n + 1) (argBest (ltK key) n) = true
    · rw [if_pos h] at e
      rw [e]
      refine ⟨Nat.le_refl _, fun j hj => ?_⟩
      by_cases hj2 : j ≤ n
      · by_cases z : dataLt (key j).py (key (n + 1)).py = true
        · have t := KO.trans _ _ _ z h
          rw [← dlt_iff, h2 j hj2] at t
          cases t
        · exact Bool.eq_false_iff.mpr z
      · have e : j = n + 1 := by omega
        subst e
        exact KO.irrefl _
    · rw [if_neg h] at e
      rw [e]
      refine ⟨by omega, fun j hj => ?_⟩
      by_cases hj2 : j ≤ n
      · exact h2 j hj2
      · have e : j = n + 1 := by omega
        subst e
        exact Bool.eq_false_iff.mpr h
/-- m stands among ds, and none has a less key -/
def Least {α : Type} (kd : α → D) (ds : List α) (m : α) : Prop := m ∈ ds ∧ ∀ x ∈ ds, dataLt (kd x).py (kd m).py = false
theorem least_best {α : Type} {kd : D → D} {ka : α → D} {f : α → D} {xs : List α} {d : D} (hk : ∀ x ∈ xs, kd (f x) = ka x) (h : (xs.map f)[argBest (ltK fun i => kd ((xs.map f).getD i .non)) ((xs.map f).length - 1)]? = some d) : ∃ m, Least ka xs m ∧ d = f m := by
  obtain ⟨b1, b2⟩ := best_min (fun i => kd ((xs.map f).getD i .non)) ((xs.map f).length - 1)
  generalize hbe : argBest (ltK fun i => kd ((xs.map f).getD i .non)) ((xs.map f).length - 1) = b at h b1 b2
  rw [List.getElem?_map] at h
  obtain ⟨m, hm, rfl⟩ := Option.map_eq_some_iff.mp h
  have mm := List.mem_of_getElem? hm
  refine ⟨m, ⟨mm, fun x hx => ?_⟩, rfl⟩
  obtain ⟨j, hj, ej⟩ := List.getElem_of_mem hx
  have ex : xs[j]? = some x := by rw [List.getElem?_eq_getElem hj, ej]
  have g : ∀ {j : Nat} {x : α}, xs[j]? = some x → (xs.map f).getD j .non = f x := fun {j x} e => by rw [List.getD_eq_getElem?_getD, List.getElem?_map, e] <;> rfl
  have q := b2 j (by rw [List.length_map]; omega)
  simp only [g ex, g hm] at q
  rw [hk x hx, hk m mm] at q
  exact q
theorem least_toks {α : Type} {kd : α → D} {ds : List α} {m m' : α} (h : Least kd ds m) (h' : Least kd ds m') : keyToks (kd m).py = keyToks (kd m').py := KO.total _ _ (h'.2 m h.1) (h.2 m' h'.1)
theorem toks_ints : ∀ xs ys : List Int, keyToksAll (xs.map PyData.int) = keyToksAll (ys.map PyData.int) → xs = ys
  | [], [], _ => rfl
  | [], y :: ys, h => by simp [keyToksAll] at h
  | x :: xs, [], h => by simp [keyToksAll] at h
  | x :: xs, y :: ys, h => by
    simp only [List.map_cons, keyToksAll, keyToks, List.cons_append, List.nil_append, List.cons.injEq, true_and, Sum.inl.injEq] at h
    rw [h.1, toks_ints xs ys h.2]
/-- the head of the sorted list is a least one -/
theorem least_sorted {α : Type} {ka : α → D} {f : α → D} {xs : List α} (hf : ∀ x ∈ xs, f x = ka x) (d : D) (ds : List D) (h : (xs.map f).mergeSort (dataLe false D.py) = d :: ds) : ∃ m, Least ka xs m ∧ d = ka m := by
  have hp := List.mergeSort_perm (xs.map f) (dataLe false D.py)
  have hm : d ∈ xs.map f := hp.mem_iff.mp (by rw [h]; exact List.mem_cons_self)
  obtain ⟨m, mm, em⟩ := List.mem_map.mp hm
  have hs := sort_pairwise (sortLe_total KO false fun b : D => keyToks b.py) (xs.map f)
  have hs2 : ((xs.map f).mergeSort (dataLe false D.py)).Pairwise (fun a b => dataLe false D.py a b = true) := hs
  rw [h] at hs2
  refine ⟨m, ⟨mm, fun x hx => ?_⟩, by rw [← em, hf m mm]⟩
  have hx2 : f x ∈ d :: ds := by
    rw [← h]
    exact hp.mem_iff.mpr (List.mem_map.mpr ⟨x, hx, rfl⟩)
  rw [← hf x hx, ← hf m mm, em]
  rcases List.mem_cons.mp hx2 with z | z
  · rw [z]
    exact KO.irrefl _
  · have q : (!KO.blt (keyToks (f x).py) (keyToks d.py)) = true := (List.pairwise_cons.mp hs2).1 _ z
    rw [dlt_iff]
    simpa using q
section
variable {X : Cx} {Z : Xz} {st : Stmt} {sts : List Stmt} {G : Gm} {E : En}
theorem wb_mid (Mid : Gm → Prop) (h : WS X Z st G { E with nx := Mid }) (h2 : ∀ G1, Mid G1 → WB X Z sts G1 E) : WB X Z (st :: sts) G E := by
  refine wb_cons fun own T H0 gs as pins s σ H tk ps I hh => ?_
  refine thn (h own T H0 gs as pins s σ H tk ps I hh) fun f s' q => ?_
  exact sp_mono q (fun σ H ⟨a, g, h1, h3⟩ => ⟨a, g, h1, h2 g h3⟩) (fun _ _ z => z) (fun _ _ z => z) (fun _ _ z => z)
end
/-- the draws: ints of which no more is known -/
abbrev drw (ns : List Int) : Oc := .li (ns.map D.int)
end DL

namespace DL
open PySem PySem.Spec L2 PyProof.Rows
theorem fold_rep (l : List Nat) : ∀ (n : Nat) (acc : List Nat), ((List.replicate n l.toArray).foldl (· ++ ·) acc.toArray) = (acc ++ (List.replicate n l).flatten).toArray
  | 0, acc => by simp
  | n + 1, acc => by
    rw [List.replicate_succ, List.foldl_cons, show acc.toArray ++ l.toArray = (acc ++ l).toArray by simp, fold_rep l n (acc ++ l), List.replicate_succ, List.flatten_cons, List.append_assoc]
def srep (l : List Nat) (n : Nat) : List Nat := (List.replicate n l).flatten
theorem srep_len (l : List Nat) : ∀ n : Nat, (srep l n).length = n * l.length
  | 0 => by simp [srep]
  | n + 1 => by
    have := srep_len l n
    unfold srep at this ⊢
    rw [List.replicate_succ, List.flatten_cons, List.length_append, this]
    rw [Nat.add_mul, Nat.one_mul]
    omega
theorem op_smul {X : Cx} : OpR X (binaryOp .Mult) (fun x y H Q => ∃ (l : List Nat) (n : Nat), x = .str ⟨l.toArray⟩ ∧ y = .int (n : Int) ∧ n ≤ 1000 ∧ l.length ≤ 1000 ∧ Q (.str ⟨(srep l n).toArray⟩) H) := by
  intro pins s σ H x y v u Q I rx ry h
  obtain ⟨l, n, rfl, rfl, hn, hl, q⟩ := h
  obtain ⟨t, rfl⟩ := rx
  obtain ⟨t2, rfl⟩ := ry
  have hlen : (⟨l.toArray⟩ : Str).length = l.length := by show l.toArray.size = _; simp
  have hmul : l.length * n ≤ 1000000 := Nat.le_trans (Nat.mul_le_mul hl hn) (by decide)
  have hsz := PySem.sizeLine_eq
  refine PySem.P.mul_str (by rw [decide_eq_false (by omega), decide_eq_false (by omega)]; rfl) (fun h1 h2 => ?_) (fun h1 h2 => ?_) ?_
  · rw [hlen]
    have hp : (0 : Int) < (n : Int) := by omega
    have : (1000 : Int) ≤ (2 ^ 63 - 1) / (n : Int) := (Int.le_ediv_iff_mul_le hp).mpr (by omega)
    omega
  · rw [hlen, Int.toNat_natCast]
    refine decide_eq_false ?_
    rw [hsz]
    omega
  · by_cases h1 : (n : Int) < 1
    · rw [if_pos h1]
      have e : n = 0 := by omega
      subst e
      exact ⟨by rw [hsz]; decide, .str ⟨(srep l 0).toArray⟩, H, I.tok _, ⟨_, rfl⟩, q⟩
    · rw [if_neg h1]
      by_cases h2 : ((n : Int) == 1 || (⟨l.toArray⟩ : Str).length == 0) = true
      · rw [if_pos h2]
        have e : srep l n = l := by
          rw [hlen, Bool.or_eq_true] at h2
          rcases h2 with h2 | h2
          · have e : n = 1 := by
              have := eq_of_beq h2
              omega
            subst e
            simp [srep]
          · have e : l = [] := List.length_eq_zero_iff.mp (eq_of_beq h2)
            subst e
            exact List.length_eq_zero_iff.mp (by rw [srep_len]; simp)
        rw [e] at q
        exact ⟨.str ⟨l.toArray⟩, H, I, ⟨t, rfl⟩, q⟩
      · rw [if_neg h2]
        have e : (List.replicate (n : Int).toNat l.toArray).foldl (· ++ ·) #[] = (srep l n).toArray := by
          have := fold_rep l n []
          simpa [srep] using this
        show Made.post (.str ⟨(List.replicate (n : Int).toNat l.toArray).foldl (· ++ ·) #[]⟩) _ _
        rw [e]
        refine ⟨?_, .str ⟨(srep l n).toArray⟩, H, I.tok _, ⟨_, rfl⟩, q⟩
        show (srep l n).toArray.size ≤ sizeLine
        rw [List.size_toArray, srep_len, hsz, Nat.mul_comm]
        omega
section
variable {X : Cx} {Z : Xz} {e a b : Expr} {es : List Expr} {G : Gm} {pos p p2 : Pos} {Q : Vl → Gm → Prop}
/-- 'x' * n -/
theorem we_smul (h : WE X Z a G fun x G1 => WE X Z b G1 fun y G2 => ∃ (l : List Nat) (n : Nat), Con G2 x (.str l) ∧ Con G2 y (.int (n : Int)) ∧ n ≤ 1000 ∧ l.length ≤ 1000 ∧ Q (.im (.str (srep l n))) G2) : WE X Z (.BinOp a .Mult b pos) G Q :=
  WE.of (pe_op op_smul pe_se pe_se) fun own T H0 gs as σ H tk hh => se2 tk hh h fun v w x y G2 H2 h1 h2 h3 ⟨l, n, c1, c2, hn, hl, q⟩ =>
    ⟨l, n, (h1.dv h2 c1).str, (h1.dv h3 c2).int, hn, hl, EQ.str h1 q⟩
/-- not x, of a bool -/
theorem we_bnot (h : WE X Z a G fun x G1 => ∃ c, Con G1 x (.bl c) ∧ Q (.im (.bl (!c))) G1) : WE X Z (.UnaryOp .Not a pos) G Q :=
  WE.of (pe_not pe_se) fun own T H0 gs as σ H tk hh => seE_mono (h.se tk hh) fun v H1 ⟨x, G1, h1, h2, c, cc, q⟩ => ⟨c, (h1.dv h2 cc).bl, EQ.bl h1 q⟩
/-- x and y, of bools -/
theorem we_band (h : WE X Z a G fun x G1 => ∃ c, Con G1 x (.bl c) ∧ (c = true → WE X Z b G1 fun y G2 => ∃ d, Con G2 y (.bl d) ∧ Q (.im (.bl d)) G2) ∧ (c = false → Q (.im (.bl false)) G1)) : WE X Z (.BoolOp .And [a, b] pos) G Q :=
  WE.of (pe_and pe_se (pe_one pe_se)) fun own T H0 gs as σ H tk hh => seE_mono (h.se tk hh) fun v H1 ⟨x, G1, h1, h2, c, cc, q1, q2⟩ => by
    refine ⟨c, (h1.dv h2 cc).bl, ?_⟩
    cases c with
    | true =>
      rw [if_pos rfl]
      exact seE_mono ((q1 rfl).se tk h1) fun w H2 ⟨y, G2, k1, k2, d, cd, q⟩ => by
        rw [(k1.dv k2 cd).bl]
        exact EQ.bl k1 q
    | false =>
      rw [if_neg Bool.false_ne_true]
      exact EQ.bl h1 (q2 rfl)
theorem we_bor (h : WE X Z a G fun x G1 => ∃ c, Con G1 x (.bl c) ∧ (c = false → WE X Z b G1 fun y G2 => ∃ d, Con G2 y (.bl d) ∧ Q (.im (.bl d)) G2) ∧ (c = true → Q (.im (.bl true)) G1)) : WE X Z (.BoolOp .Or [a, b] pos) G Q :=
  WE.of (pe_or pe_se (pe_one pe_se)) fun own T H0 gs as σ H tk hh => seE_mono (h.se tk hh) fun v H1 ⟨x, G1, h1, h2, c, cc, q1, q2⟩ => by
    refine ⟨c, (h1.dv h2 cc).bl, ?_⟩
    cases c with
    | false =>
      rw [if_neg Bool.false_ne_true]
      exact seE_mono ((q1 rfl).se tk h1) fun w H2 ⟨y, G2, k1, k2, d, cd, q⟩ => by
        rw [(k1.dv k2 cd).bl]
        exact EQ.bl k1 q
    | true =>
      rw [if_pos rfl]
      exact EQ.bl h1 (q2 rfl)
/-- the built-in type of a datum -/
def D.ty : D → String
  | .non => "NoneType"
  | .bl _ => "bool"
  | .int _ => "int"
  | .str _ => "str"
  | .lst _ => "list"
  | .tup _ => "tuple"
  | .scr _ => "list"
/-- the name of a built-in type -/
theorem we_tyn (n : String) {x : Str} (hm : X.mg x = none) (h : Q (.rw (.ty n)) G) (hg : Gl X x := by rfl) (hv : bootBuiltins x = some (.type n) := by decide +kernel) (hn : x ≠ "__name__" := by decide) (hd : (x == ("__debug__" : Str)) = false := by decide) : WE X Z (.Name x pos) G Q :=
  WE.of (pe_bltn (v := .ty n) hg hm hv rfl hn hd) fun own T H0 gs as σ H tk hh => ⟨.rw (.ty n), G, hh, rfl, h⟩
theorem dty_of {K : PySem.W.Frag} {H : Hp} {v : V} {d : D} (h : Dd K H v d) (hs : ∀ ns, d ≠ .scr ns) (ht : ∀ ds, d ≠ .tup ds) : TyX K H v (.type d.ty) := by
  cases h with
  | non => exact .base .non
  | bl b => exact .base (.bl b)
  | int i => exact .base (.int i)
  | str x => exact .base (.str _)
  | lst e _ => exact .base (.lst e)
  | tup e _ => exact (ht _ rfl).elim
  | scr e => exact (hs _ rfl).elim
/-- isinstance(x, T) of a datum and a built-in type -/
theorem we_isi (T : String) (h : WE X Z a G fun x G1 => ∃ d, x = .im d ∧ (∀ ns, d ≠ .scr ns) ∧ (∀ ds, d ≠ .tup ds) ∧ WE X Z b G1 fun y G2 => y = .rw (.ty T) ∧ ∃ r, kitB d.ty T = some r ∧ Q (.im (.bl r)) G2) (hm : X.mg "isinstance" = none) (hg : Gl X "isinstance" := by rfl)
    (he : starEach (a :: [b]) X.env = (false, eval a X.env) :: starEach [b] X.env := by rfl) (he2 : starEach (b :: []) X.env = (false, eval b X.env) :: starEach [] X.env := by rfl) (hpl : (backTo pos (starEach [b] X.env)).any (·.1) = false := by rfl) : WE X Z (.Call (.Name "isinstance" p) [a, b] [] pos) G Q :=
  WE.of (pe_callB call_isi hg hm (by decide +kernel) (pa_cons pe_se (pa_cons pe_se pa_nil he2) he) (by decide) (by decide) he hpl) fun own T' H0 gs as σ H tk hh => seE_mono (h.se tk hh) fun v H1 ⟨x, G1, h1, h2, d, ex, hs, ht, hb⟩ => by
    subst ex
    refine seE_mono (hb.se (takes_tmp (v := v) (x := .im d) tk) (h1.tmp h2)) fun w H2 ⟨y, G2, k1, k2, ey, r, er, q⟩ => ?_
    subst ey
    obtain ⟨k1', k3⟩ := Hd.back (x := .im d) h2 k1
    have ew : w = .ty T := k2
    subst ew
    exact ⟨v, .ty T, .type d.ty, .type T, r, rfl, .ty T, dty_of (Dd.mono cut_sub k3) hs ht, kit_ty er, EQ.bl k1' q⟩
end
end DL

namespace DL
open PySem PySem.Spec L2 PyProof.Rows
section
variable {X : Cx} {Z : Xz} {e o : Expr} {G : Gm} {cpos apos : Pos} {Q : Vl → Gm → Prop}
/-- ls.index(a) of texts; it is there -/
theorem we_lindexS (h : WE X Z o G fun x G1 => ∃ ls : List (List Nat), Con G1 x (.lst (ls.map D.str)) ∧ WE X Z e G1 fun y G2 => ∃ (a : List Nat) (j : Nat), Con G2 y (.str a) ∧ Con G2 x (.lst (ls.map D.str)) ∧ ls[j]? = some a ∧ (∀ m, m < j → ls[m]? ≠ some a) ∧ Q (.im (.int (j : Nat))) G2)
    (hbase : attributeBase o "index" X.env (eval o X.env) = eval o X.env := by rfl)
    (hfew : ((backTo cpos (starEach (e :: []) X.env)).all (fun x => !x.1) && (backToKw cpos (keywordEach [] X.env)).all (fun x => x.1.isSome)
      && decide ((e :: ([] : List Expr)).length + ([] : List Keyword).length + (if ([] : List Keyword).isEmpty then 0 else 1) < 30)) = true := by rfl)
    (hline : (apos.endLine == cpos.line) = true := by rfl) (hs : starEach (e :: []) X.env = (false, eval e X.env) :: starEach [] X.env := by rfl) (hplain : (backTo cpos (starEach [] X.env)).any (·.1) = false := by rfl) : WE X Z (.Call (.Attribute o "index" apos) [e] [] cpos) G Q :=
  WE.of (pe_bm PySem.F.plainAttrs_list PySem.F.slot_list_index PySem.F.type_list_index mt_index pe_se (pa_cons pe_se pa_nil hs) hbase hfew hline hs hplain) fun own T H0 gs as σ H tk hh => seE_mono (h.se tk hh) fun v H1 ⟨x, G1, h1, h2, ls, c, h3⟩ => by
    obtain ⟨a0, xs0, ev, e1, e2⟩ := h1.dv h2 c
    refine ⟨?_, seE_mono (h3.se (takes_tmp (v := v) (x := x) tk) (h1.tmp h2)) fun w H2 ⟨y, G2, k1, k2, a, j, c2, c3, hj, hno, q⟩ => ?_⟩
    · rw [ev]
      exact Or.inl ⟨rfl, xs0, SqL.of e1⟩
    obtain ⟨k1', k4⟩ := Hd.back h2 k1
    obtain ⟨p, xs, rfl, m1, m2⟩ := k1'.dv k4 c3
    have ew := (k1'.dv k2 c2).str
    have exs := m2.str_of
    have get : ∀ i, xs[i]? = (ls[i]?).map (fun l : List Nat => V.str ⟨l.toArray⟩) := fun i => by
      rw [exs, List.getElem?_map, List.getElem?_map, Option.map_map] <;> rfl
    refine ⟨p, xs, w, j, .str ⟨a.toArray⟩, rfl, rfl, SqL.of m1, by rw [ew]; rfl, by rw [exs]; exact flat_strs _, by rw [get, hj]; rfl, by rw [ew, eqV_str]; simp, fun m z' hm ez => ?_, EQ.int k1' q⟩
    rw [get] at ez
    obtain ⟨l, el, rfl⟩ := Option.map_eq_some_iff.mp ez
    rw [ew, eqV_str]
    refine decide_eq_false fun z => ?_
    subst z
    exact hno m hm el
end
end DL

namespace Tx
open PySem PySem.Spec PyProof.Rows L2 DL
def topS (i : Nat) : Stmt := PySem.Challenge.pw_cayleywalk_k75_whole_free_conjugators.main.body.getD i (.Pass ⟨0, 0, 0, 0⟩)
abbrev s_check_generators : Stmt := topS 9
abbrev s_letters_of : Stmt := topS 10
abbrev s_rank_of : Stmt := topS 11
abbrev s_inverse_letter : Stmt := topS 12
abbrev s_shortlex_key : Stmt := topS 13
abbrev s__is_over : Stmt := topS 14
abbrev s_is_word : Stmt := topS 15
abbrev s_check_word : Stmt := topS 16
abbrev s__check : Stmt := topS 19
abbrev s_turned : Stmt := topS 20
abbrev s_cut_down : Stmt := topS 21
abbrev s_reduced : Stmt := topS 22
abbrev s_product : Stmt := topS 23
abbrev s_power : Stmt := topS 24
abbrev s__parted : Stmt := topS 25
abbrev s_core_of : Stmt := topS 26
abbrev s_rotations : Stmt := topS 27
abbrev s_least_rotation : Stmt := topS 28
abbrev s_root_of : Stmt := topS 29
abbrev s_commute : Stmt := topS 30
abbrev s_conjugated : Stmt := topS 33
abbrev s_class_word : Stmt := topS 34
abbrev s_free_conjugate : Stmt := topS 35
abbrev s_free_conjugator : Stmt := topS 36
abbrev s__law_number : Stmt := topS 38
abbrev s__law_draws : Stmt := topS 39
abbrev s__law_draw : Stmt := topS 40
abbrev s__law_pick : Stmt := topS 41
abbrev s__law_back : Stmt := topS 42
abbrev s__law_turned : Stmt := topS 43
abbrev s__law_cut : Stmt := topS 44
abbrev s__law_word : Stmt := topS 45
abbrev s__law_parted : Stmt := topS 46
abbrev s__law_turns : Stmt := topS 48
abbrev s__law_other : Stmt := topS 49
abbrev s__law_due : Stmt := topS 50
abbrev s__law_is_one : Stmt := topS 51
abbrev s_law : Stmt := topS 52
theorem sc_check_generators : FnScope ["g"] ["g"] (defScope s_check_generators) := ⟨rfl, rfl, rfl, by decide +kernel, rfl, by decide +kernel, by decide +kernel⟩
theorem sc_letters_of : FnScope ["g"] ["g"] (defScope s_letters_of) := ⟨rfl, rfl, rfl, by decide +kernel, rfl, by decide +kernel, by decide +kernel⟩
theorem sc_rank_of : FnScope ["letter"] ["letter"] (defScope s_rank_of) := ⟨rfl, rfl, rfl, by decide +kernel, rfl, by decide +kernel, by decide +kernel⟩
theorem sc_inverse_letter : FnScope ["letter", "rank"] ["letter"] (defScope s_inverse_letter) := ⟨rfl, rfl, rfl, by decide +kernel, rfl, by decide +kernel, by decide +kernel⟩
theorem sc_shortlex_key : FnScope ["word", "letter"] ["word"] (defScope s_shortlex_key) := ⟨rfl, rfl, rfl, by decide +kernel, rfl, by decide +kernel, by decide +kernel⟩
theorem sc__is_over : FnScope ["letters", "text", "char"] ["letters", "text"] (defScope s__is_over) := ⟨rfl, rfl, rfl, by decide +kernel, rfl, by decide +kernel, by decide +kernel⟩
theorem sc_is_word : FnScope ["g", "text"] ["g", "text"] (defScope s_is_word) := ⟨rfl, rfl, rfl, by decide +kernel, rfl, by decide +kernel, by decide +kernel⟩
theorem sc_check_word : FnScope ["g", "text"] ["g", "text"] (defScope s_check_word) := ⟨rfl, rfl, rfl, by decide +kernel, rfl, by decide +kernel, by decide +kernel⟩
theorem sc__check : FnScope ["word"] ["word"] (defScope s__check) := ⟨rfl, rfl, rfl, by decide +kernel, rfl, by decide +kernel, by decide +kernel⟩
theorem sc_turned : FnScope ["word", "letter"] ["word"] (defScope s_turned) := ⟨rfl, rfl, rfl, by decide +kernel, rfl, by decide +kernel, by decide +kernel⟩
theorem sc_cut_down : FnScope ["word", "letters", "letter"] ["word"] (defScope s_cut_down) := ⟨rfl, rfl, rfl, by decide +kernel, rfl, by decide +kernel, by decide +kernel⟩
theorem sc_reduced : FnScope ["word"] ["word"] (defScope s_reduced) := ⟨rfl, rfl, rfl, by decide +kernel, rfl, by decide +kernel, by decide +kernel⟩
theorem sc_product : FnScope ["one", "other"] ["one", "other"] (defScope s_product) := ⟨rfl, rfl, rfl, by decide +kernel, rfl, by decide +kernel, by decide +kernel⟩
theorem sc_power : FnScope ["word", "exponent"] ["word", "exponent"] (defScope s_power) := ⟨rfl, rfl, rfl, by decide +kernel, rfl, by decide +kernel, by decide +kernel⟩
theorem sc__parted : FnScope ["word", "size"] ["word"] (defScope s__parted) := ⟨rfl, rfl, rfl, by decide +kernel, rfl, by decide +kernel, by decide +kernel⟩
theorem sc_core_of : FnScope ["word"] ["word"] (defScope s_core_of) := ⟨rfl, rfl, rfl, by decide +kernel, rfl, by decide +kernel, by decide +kernel⟩
theorem sc_rotations : FnScope ["word", "place"] ["word"] (defScope s_rotations) := ⟨rfl, rfl, rfl, by decide +kernel, rfl, by decide +kernel, by decide +kernel⟩
theorem sc_least_rotation : FnScope ["word"] ["word"] (defScope s_least_rotation) := ⟨rfl, rfl, rfl, by decide +kernel, rfl, by decide +kernel, by decide +kernel⟩
theorem sc_root_of : FnScope ["word", "stem", "core", "size"] ["word"] (defScope s_root_of) := ⟨rfl, rfl, rfl, by decide +kernel, rfl, by decide +kernel, by decide +kernel⟩
theorem sc_commute : FnScope ["one", "other"] ["one", "other"] (defScope s_commute) := ⟨rfl, rfl, rfl, by decide +kernel, rfl, by decide +kernel, by decide +kernel⟩
theorem sc_conjugated : FnScope ["word", "by"] ["word", "by"] (defScope s_conjugated) := ⟨rfl, rfl, rfl, by decide +kernel, rfl, by decide +kernel, by decide +kernel⟩
theorem sc_class_word : FnScope ["word"] ["word"] (defScope s_class_word) := ⟨rfl, rfl, rfl, by decide +kernel, rfl, by decide +kernel, by decide +kernel⟩
theorem sc_free_conjugate : FnScope ["one", "other"] ["one", "other"] (defScope s_free_conjugate) := ⟨rfl, rfl, rfl, by decide +kernel, rfl, by decide +kernel, by decide +kernel⟩
theorem sc_free_conjugator : FnScope ["one", "other", "stem", "core", "other_stem", "other_core", "place", "rotation"] ["one", "other"] (defScope s_free_conjugator) := ⟨rfl, rfl, rfl, by decide +kernel, rfl, by decide +kernel, by decide +kernel⟩
theorem sc__law_number : FnScope ["_law_cell"] ["_law_cell"] (defScope s__law_number) := ⟨rfl, rfl, rfl, by decide +kernel, rfl, by decide +kernel, by decide +kernel⟩
theorem sc__law_draws : FnScope ["_law_script", "_law_draws_here", "_law_seed", "_law_cell", "_law_rest", "_law_k", "_law_once", "_law_twice"] ["_law_script"] (defScope s__law_draws) := ⟨rfl, rfl, rfl, by decide +kernel, rfl, by decide +kernel, by decide +kernel⟩
theorem sc__law_draw : FnScope ["_law_draws_here"] ["_law_draws_here"] (defScope s__law_draw) := ⟨rfl, rfl, rfl, by decide +kernel, rfl, by decide +kernel, by decide +kernel⟩
theorem sc__law_pick : FnScope ["_law_draws_here", "_law_many"] ["_law_draws_here", "_law_many"] (defScope s__law_pick) := ⟨rfl, rfl, rfl, by decide +kernel, rfl, by decide +kernel, by decide +kernel⟩
theorem sc__law_back : FnScope ["_law_letter"] ["_law_letter"] (defScope s__law_back) := ⟨rfl, rfl, rfl, by decide +kernel, rfl, by decide +kernel, by decide +kernel⟩
theorem sc__law_turned : FnScope ["_law_word_here", "_law_letter"] ["_law_word_here"] (defScope s__law_turned) := ⟨rfl, rfl, rfl, by decide +kernel, rfl, by decide +kernel, by decide +kernel⟩
theorem sc__law_cut : FnScope ["_law_word_here", "_law_letters", "_law_letter"] ["_law_word_here"] (defScope s__law_cut) := ⟨rfl, rfl, rfl, by decide +kernel, rfl, by decide +kernel, by decide +kernel⟩
theorem sc__law_word : FnScope ["_law_draws_here", "_law_g", "_law_most", "_law_k"] ["_law_draws_here", "_law_g", "_law_most"] (defScope s__law_word) := ⟨rfl, rfl, rfl, by decide +kernel, rfl, by decide +kernel, by decide +kernel⟩
theorem sc__law_parted : FnScope ["_law_word_here", "_law_size", "_law_k"] ["_law_word_here"] (defScope s__law_parted) := ⟨rfl, rfl, rfl, by decide +kernel, rfl, by decide +kernel, by decide +kernel⟩
theorem sc__law_turns : FnScope ["_law_core", "_law_k"] ["_law_core"] (defScope s__law_turns) := ⟨rfl, rfl, rfl, by decide +kernel, rfl, by decide +kernel, by decide +kernel⟩
theorem sc__law_other : FnScope ["_law_draws_here", "_law_g", "_law_word_here", "_law_turns_here", "_law_stem"] ["_law_draws_here", "_law_g", "_law_word_here"] (defScope s__law_other) := ⟨rfl, rfl, rfl, by decide +kernel, rfl, by decide +kernel, by decide +kernel⟩
theorem sc__law_due : FnScope ["_law_one", "_law_other_here", "_law_stem", "_law_core", "_law_other_stem", "_law_other_core", "_law_turns_here"] ["_law_one", "_law_other_here"] (defScope s__law_due) := ⟨rfl, rfl, rfl, by decide +kernel, rfl, by decide +kernel, by decide +kernel⟩
theorem sc__law_is_one : FnScope ["_law_one", "_law_other_here", "_law_by"] ["_law_one", "_law_other_here", "_law_by"] (defScope s__law_is_one) := ⟨rfl, rfl, rfl, by decide +kernel, rfl, by decide +kernel, by decide +kernel⟩
theorem sc_law : FnScope ["_law_script", "_law_draws_here", "_law_g", "_law_one", "_law_other_here", "_law_third", "_law_by", "_law_on", "_law_root", "_law_more", "_law_quotient"] ["_law_script"] (defScope s_law) := ⟨rfl, rfl, rfl, by decide +kernel, rfl, by decide +kernel, by decide +kernel⟩
abbrev i_check_generators : Nat := 0
abbrev i_letters_of : Nat := 1
abbrev i_rank_of : Nat := 2
abbrev i_inverse_letter : Nat := 3
abbrev i_shortlex_key : Nat := 4
abbrev i__is_over : Nat := 5
abbrev i_is_word : Nat := 6
abbrev i_check_word : Nat := 7
abbrev i__check : Nat := 8
abbrev i_turned : Nat := 9
abbrev i_cut_down : Nat := 10
abbrev i_reduced : Nat := 11
abbrev i_product : Nat := 12
abbrev i_power : Nat := 13
abbrev i__parted : Nat := 14
abbrev i_core_of : Nat := 15
abbrev i_rotations : Nat := 16
abbrev i_least_rotation : Nat := 17
abbrev i_root_of : Nat := 18
abbrev i_commute : Nat := 19
abbrev i_conjugated : Nat := 20
abbrev i_class_word : Nat := 21
abbrev i_free_conjugate : Nat := 22
abbrev i_free_conjugator : Nat := 23
abbrev i__law_number : Nat := 24
abbrev i__law_draws : Nat := 25
abbrev i__law_draw : Nat := 26
abbrev i__law_pick : Nat := 27
abbrev i__law_back : Nat := 28
abbrev i__law_turned : Nat := 29
abbrev i__law_cut : Nat := 30
abbrev i__law_word : Nat := 31
abbrev i__law_parted : Nat := 32
abbrev i__law_turns : Nat := 33
abbrev i__law_other : Nat := 34
abbrev i__law_due : Nat := 35
abbrev i__law_is_one : Nat := 36
abbrev i_law : Nat := 37
abbrev iNotWord : Nat := 0
abbrev iBadNumber : Nat := 1
abbrev iNoAnswer : Nat := 2
/-- what the program's top has left -/
structure Tx (K : PySem.W.Frag) (mg : Str → Option Value) (ad ca : Nat → Addr) (fm : Nat → FuncData) : Prop where
  g_check_generators : mg "check_generators" = some (.ref (ad 0))
  k_check_generators : PySem.W.keepIn K (.ref (ad 0)) = true
  F_check_generators : Fun K "check_generators" "check_generators" s_check_generators (ad 0) (fm 0)
  b_check_generators : Binds K (fm 0) ["g"] []
  g_letters_of : mg "letters_of" = some (.ref (ad 1))
  k_letters_of : PySem.W.keepIn K (.ref (ad 1)) = true
  F_letters_of : Fun K "letters_of" "letters_of" s_letters_of (ad 1) (fm 1)
  b_letters_of : Binds K (fm 1) ["g"] []
  g_rank_of : mg "rank_of" = some (.ref (ad 2))
  k_rank_of : PySem.W.keepIn K (.ref (ad 2)) = true
  F_rank_of : Fun K "rank_of" "rank_of" s_rank_of (ad 2) (fm 2)
  b_rank_of : Binds K (fm 2) ["letter"] []
  g_inverse_letter : mg "inverse_letter" = some (.ref (ad 3))
  k_inverse_letter : PySem.W.keepIn K (.ref (ad 3)) = true
  F_inverse_letter : Fun K "inverse_letter" "inverse_letter" s_inverse_letter (ad 3) (fm 3)
  b_inverse_letter : Binds K (fm 3) ["letter"] []
  g_shortlex_key : mg "shortlex_key" = some (.ref (ad 4))
  k_shortlex_key : PySem.W.keepIn K (.ref (ad 4)) = true
  F_shortlex_key : Fun K "shortlex_key" "shortlex_key" s_shortlex_key (ad 4) (fm 4)
  b_shortlex_key : Binds K (fm 4) ["word"] []
  g__is_over : mg "_is_over" = some (.ref (ad 5))
  k__is_over : PySem.W.keepIn K (.ref (ad 5)) = true
  F__is_over : Fun K "_is_over" "_is_over" s__is_over (ad 5) (fm 5)
  b__is_over : Binds K (fm 5) ["letters", "text"] []
  g_is_word : mg "is_word" = some (.ref (ad 6))
  k_is_word : PySem.W.keepIn K (.ref (ad 6)) = true
  F_is_word : Fun K "is_word" "is_word" s_is_word (ad 6) (fm 6)
  b_is_word : Binds K (fm 6) ["g", "text"] []
  g_check_word : mg "check_word" = some (.ref (ad 7))
  k_check_word : PySem.W.keepIn K (.ref (ad 7)) = true
  F_check_word : Fun K "check_word" "check_word" s_check_word (ad 7) (fm 7)
  b_check_word : Binds K (fm 7) ["g", "text"] []
  g__check : mg "_check" = some (.ref (ad 8))
  k__check : PySem.W.keepIn K (.ref (ad 8)) = true
  F__check : Fun K "_check" "_check" s__check (ad 8) (fm 8)
  b__check : Binds K (fm 8) ["word"] []
  g_turned : mg "turned" = some (.ref (ad 9))
  k_turned : PySem.W.keepIn K (.ref (ad 9)) = true
  F_turned : Fun K "turned" "turned" s_turned (ad 9) (fm 9)
  b_turned : Binds K (fm 9) ["word"] []
  g_cut_down : mg "cut_down" = some (.ref (ad 10))
  k_cut_down : PySem.W.keepIn K (.ref (ad 10)) = true
  F_cut_down : Fun K "cut_down" "cut_down" s_cut_down (ad 10) (fm 10)
  b_cut_down : Binds K (fm 10) ["word"] []
  g_reduced : mg "reduced" = some (.ref (ad 11))
  k_reduced : PySem.W.keepIn K (.ref (ad 11)) = true
  F_reduced : Fun K "reduced" "reduced" s_reduced (ad 11) (fm 11)
  b_reduced : Binds K (fm 11) ["word"] []
  g_product : mg "product" = some (.ref (ad 12))
  k_product : PySem.W.keepIn K (.ref (ad 12)) = true
  F_product : Fun K "product" "product" s_product (ad 12) (fm 12)
  b_product : Binds K (fm 12) ["one", "other"] []
  g_power : mg "power" = some (.ref (ad 13))
  k_power : PySem.W.keepIn K (.ref (ad 13)) = true
  F_power : Fun K "power" "power" s_power (ad 13) (fm 13)
  b_power : Binds K (fm 13) ["word", "exponent"] []
  g__parted : mg "_parted" = some (.ref (ad 14))
  k__parted : PySem.W.keepIn K (.ref (ad 14)) = true
  F__parted : Fun K "_parted" "_parted" s__parted (ad 14) (fm 14)
  b__parted : Binds K (fm 14) ["word"] []
  g_core_of : mg "core_of" = some (.ref (ad 15))
  k_core_of : PySem.W.keepIn K (.ref (ad 15)) = true
  F_core_of : Fun K "core_of" "core_of" s_core_of (ad 15) (fm 15)
  b_core_of : Binds K (fm 15) ["word"] []
  g_rotations : mg "rotations" = some (.ref (ad 16))
  k_rotations : PySem.W.keepIn K (.ref (ad 16)) = true
  F_rotations : Fun K "rotations" "rotations" s_rotations (ad 16) (fm 16)
  b_rotations : Binds K (fm 16) ["word"] []
  g_least_rotation : mg "least_rotation" = some (.ref (ad 17))
  k_least_rotation : PySem.W.keepIn K (.ref (ad 17)) = true
  F_least_rotation : Fun K "least_rotation" "least_rotation" s_least_rotation (ad 17) (fm 17)
  b_least_rotation : Binds K (fm 17) ["word"] []
  g_root_of : mg "root_of" = some (.ref (ad 18))
  k_root_of : PySem.W.keepIn K (.ref (ad 18)) = true
  F_root_of : Fun K "root_of" "root_of" s_root_of (ad 18) (fm 18)
  b_root_of : Binds K (fm 18) ["word"] []
  g_commute : mg "commute" = some (.ref (ad 19))
  k_commute : PySem.W.keepIn K (.ref (ad 19)) = true
  F_commute : Fun K "commute" "commute" s_commute (ad 19) (fm 19)
  b_commute : Binds K (fm 19) ["one", "other"] []
  g_conjugated : mg "conjugated" = some (.ref (ad 20))
  k_conjugated : PySem.W.keepIn K (.ref (ad 20)) = true
  F_conjugated : Fun K "conjugated" "conjugated" s_conjugated (ad 20) (fm 20)
  b_conjugated : Binds K (fm 20) ["word", "by"] []
  g_class_word : mg "class_word" = some (.ref (ad 21))
  k_class_word : PySem.W.keepIn K (.ref (ad 21)) = true
  F_class_word : Fun K "class_word" "class_word" s_class_word (ad 21) (fm 21)
  b_class_word : Binds K (fm 21) ["word"] []
  g_free_conjugate : mg "free_conjugate" = some (.ref (ad 22))
  k_free_conjugate : PySem.W.keepIn K (.ref (ad 22)) = true
  F_free_conjugate : Fun K "free_conjugate" "free_conjugate" s_free_conjugate (ad 22) (fm 22)
  b_free_conjugate : Binds K (fm 22) ["one", "other"] []
  g_free_conjugator : mg "free_conjugator" = some (.ref (ad 23))
  k_free_conjugator : PySem.W.keepIn K (.ref (ad 23)) = true
  F_free_conjugator : Fun K "free_conjugator" "free_conjugator" s_free_conjugator (ad 23) (fm 23)
  b_free_conjugator : Binds K (fm 23) ["one", "other"] []
  g__law_number : mg "_law_number" = some (.ref (ad 24))
  k__law_number : PySem.W.keepIn K (.ref (ad 24)) = true
  F__law_number : Fun K "_law_number" "_law_number" s__law_number (ad 24) (fm 24)
  b__law_number : Binds K (fm 24) ["_law_cell"] []
  g__law_draws : mg "_law_draws" = some (.ref (ad 25))
  k__law_draws : PySem.W.keepIn K (.ref (ad 25)) = true
  F__law_draws : Fun K "_law_draws" "_law_draws" s__law_draws (ad 25) (fm 25)
  b__law_draws : Binds K (fm 25) ["_law_script"] []
  g__law_draw : mg "_law_draw" = some (.ref (ad 26))
  k__law_draw : PySem.W.keepIn K (.ref (ad 26)) = true
  F__law_draw : Fun K "_law_draw" "_law_draw" s__law_draw (ad 26) (fm 26)
  b__law_draw : Binds K (fm 26) ["_law_draws_here"] []
  g__law_pick : mg "_law_pick" = some (.ref (ad 27))
  k__law_pick : PySem.W.keepIn K (.ref (ad 27)) = true
  F__law_pick : Fun K "_law_pick" "_law_pick" s__law_pick (ad 27) (fm 27)
  b__law_pick : Binds K (fm 27) ["_law_draws_here", "_law_many"] []
  g__law_back : mg "_law_back" = some (.ref (ad 28))
  k__law_back : PySem.W.keepIn K (.ref (ad 28)) = true
  F__law_back : Fun K "_law_back" "_law_back" s__law_back (ad 28) (fm 28)
  b__law_back : Binds K (fm 28) ["_law_letter"] []
  g__law_turned : mg "_law_turned" = some (.ref (ad 29))
  k__law_turned : PySem.W.keepIn K (.ref (ad 29)) = true
  F__law_turned : Fun K "_law_turned" "_law_turned" s__law_turned (ad 29) (fm 29)
  b__law_turned : Binds K (fm 29) ["_law_word_here"] []
  g__law_cut : mg "_law_cut" = some (.ref (ad 30))
  k__law_cut : PySem.W.keepIn K (.ref (ad 30)) = true
  F__law_cut : Fun K "_law_cut" "_law_cut" s__law_cut (ad 30) (fm 30)
  b__law_cut : Binds K (fm 30) ["_law_word_here"] []
  g__law_word : mg "_law_word" = some (.ref (ad 31))
  k__law_word : PySem.W.keepIn K (.ref (ad 31)) = true
  F__law_word : Fun K "_law_word" "_law_word" s__law_word (ad 31) (fm 31)
  b__law_word : Binds K (fm 31) ["_law_draws_here", "_law_g", "_law_most"] []
  g__law_parted : mg "_law_parted" = some (.ref (ad 32))
  k__law_parted : PySem.W.keepIn K (.ref (ad 32)) = true
  F__law_parted : Fun K "_law_parted" "_law_parted" s__law_parted (ad 32) (fm 32)
  b__law_parted : Binds K (fm 32) ["_law_word_here"] []
  g__law_turns : mg "_law_turns" = some (.ref (ad 33))
  k__law_turns : PySem.W.keepIn K (.ref (ad 33)) = true
  F__law_turns : Fun K "_law_turns" "_law_turns" s__law_turns (ad 33) (fm 33)
  b__law_turns : Binds K (fm 33) ["_law_core"] []
  g__law_other : mg "_law_other" = some (.ref (ad 34))
  k__law_other : PySem.W.keepIn K (.ref (ad 34)) = true
  F__law_other : Fun K "_law_other" "_law_other" s__law_other (ad 34) (fm 34)
  b__law_other : Binds K (fm 34) ["_law_draws_here", "_law_g", "_law_word_here"] []
  g__law_due : mg "_law_due" = some (.ref (ad 35))
  k__law_due : PySem.W.keepIn K (.ref (ad 35)) = true
  F__law_due : Fun K "_law_due" "_law_due" s__law_due (ad 35) (fm 35)
  b__law_due : Binds K (fm 35) ["_law_one", "_law_other_here"] []
  g__law_is_one : mg "_law_is_one" = some (.ref (ad 36))
  k__law_is_one : PySem.W.keepIn K (.ref (ad 36)) = true
  F__law_is_one : Fun K "_law_is_one" "_law_is_one" s__law_is_one (ad 36) (fm 36)
  b__law_is_one : Binds K (fm 36) ["_law_one", "_law_other_here", "_law_by"] []
  g_law : mg "law" = some (.ref (ad 37))
  k_law : PySem.W.keepIn K (.ref (ad 37)) = true
  F_law : Fun K "law" "law" s_law (ad 37) (fm 37)
  b_law : Binds K (fm 37) ["_law_script"] []
  n_enumerate : mg "enumerate" = none
  n_int : mg "int" = none
  n_len : mg "len" = none
  n_max : mg "max" = none
  n_min : mg "min" = none
  n_range : mg "range" = none
  n_tuple : mg "tuple" = none
  c_LETTERS : ∃ t, mg "LETTERS" = some (.str "aAbBcC" t)
  c_MOST_GENERATORS : ∃ t, mg "MOST_GENERATORS" = some (.int 3 t)
  c_MOST_LETTERS : ∃ t, mg "MOST_LETTERS" = some (.int 60 t)
  c_MOST_EXPONENT : ∃ t, mg "MOST_EXPONENT" = some (.int 20 t)
  c_GENERATORS : ∃ t, mg "GENERATORS" = some (.int 3 t)
  e_NotWord : ExK K mg "NotWord" (ca 0)
  e_BadNumber : ExK K mg "BadNumber" (ca 1)
  e_NoAnswer : ExK K mg "NoAnswer" (ca 2)
end Tx


open DL in
local macro_rules | `(tactic| walk_at "sz") => `(tactic| first | assumption | omega | (simp (config := { decide := true }) only [List.length_append, List.length_cons, List.length_nil, List.length_map, List.length_reverse, List.length_take, List.length_drop, List.length_range]; omega) | (simp; omega))
open DL in
local macro_rules | `(tactic| walk_at "add") => `(tactic| first | refine ⟨_, _, rfl, rfl, _, .int _ _, ?_⟩ | refine ⟨_, _, rfl, rfl, _, .str (by walk_at "sz"), ?_⟩ | refine ⟨_, _, rfl, rfl, _, .lst (by walk_at "sz"), ?_⟩ | refine ⟨_, _, rfl, rfl, _, .tup (by walk_at "sz"), ?_⟩)
open DL in
local macro_rules | `(tactic| walk_at "cmp") => `(tactic| first | refine ⟨_, _, rfl, rfl, _, .eqI _ _, ?_⟩ | refine ⟨_, _, rfl, rfl, _, .neI _ _, ?_⟩ | refine ⟨_, _, rfl, rfl, _, .eqS _ _, ?_⟩ | refine ⟨_, _, rfl, rfl, _, .neS _ _, ?_⟩ | refine ⟨_, _, rfl, rfl, _, .eqB _ _, ?_⟩ | refine ⟨_, _, rfl, rfl, _, .neB _ _, ?_⟩ | refine ⟨_, _, rfl, rfl, _, .inSign _ _, ?_⟩ | refine ⟨_, _, rfl, rfl, _, .ninSign _ _, ?_⟩ | refine ⟨_, _, rfl, rfl, _, .isN _, ?_⟩ | refine ⟨_, _, rfl, rfl, _, .notN _, ?_⟩)
open DL in
local macro_rules | `(tactic| walk_at "leS") => `(tactic| repeat (first | exact trivial | refine ⟨.inl rfl, ?_⟩ | refine ⟨.inr rfl, ?_⟩))
open DL in
local macro_rules | `(tactic| walk_at "le") => `(tactic| (refine ⟨rfl, ?_, ?_⟩; (case' refine_1 => walk_at "leS"); (case' refine_2 => exact LeO.refl _)))

namespace Tx
open PySem PySem.Spec PyProof.Rows L2 DL
/-! ### letters, words -/
def LT : List Nat := [97, 65, 98, 66, 99, 67]
def inv : Nat → Nat := fun c => if c = 97 then 65 else if c = 65 then 97 else if c = 98 then 66 else if c = 66 then 98 else if c = 99 then 67 else 99
def rk : Nat → Nat := fun c => if c = 97 then 0 else if c = 65 then 1 else if c = 98 then 2 else if c = 66 then 3 else if c = 99 then 4 else 5
def okw (zs l : List Nat) : Prop := ∀ c ∈ l, c ∈ zs
instance (zs l : List Nat) : Decidable (okw zs l) := inferInstanceAs (Decidable (∀ c ∈ l, c ∈ zs))
theorem lt_cases {c : Nat} (h : c ∈ LT) : c = 97 ∨ c = 65 ∨ c = 98 ∨ c = 66 ∨ c = 99 ∨ c = 67 := by simpa [LT] using h
theorem rk_index {c : Nat} (h : c ∈ LT) : Txt.index0 ⟨LT.toArray⟩ ⟨[c].toArray⟩ = some (rk c) := by
  rcases lt_cases h with rfl | rfl | rfl | rfl | rfl | rfl <;> decide +kernel
theorem inv_at {c : Nat} (h : c ∈ LT) : atI LT (((rk c : Nat) : Int) + 1 - 2 * Builtin.bitAnd ((rk c : Nat) : Int) 1) = some (inv c) := by
  rcases lt_cases h with rfl | rfl | rfl | rfl | rfl | rfl <;> decide +kernel
theorem inv_lt {c : Nat} (h : c ∈ LT) : inv c ∈ LT := by
  rcases lt_cases h with rfl | rfl | rfl | rfl | rfl | rfl <;> decide
theorem rk_lt {c : Nat} (h : c ∈ LT) : rk c < 6 := by
  rcases lt_cases h with rfl | rfl | rfl | rfl | rfl | rfl <;> decide
section
variable {P : Program} {w : World} {K : PySem.W.Frag} {mg : Str → Option Value} {base : Heap} {ad ca : Nat → Addr} {fm : Nat → FuncData}
def PCheckGen (ca : Nat → Addr) : List D → (D → Prop) → Pz → Prop := fun ds R Xe => ∃ g : Int, ds = [.int g] ∧ ((1 ≤ g ∧ g ≤ 3) → R .non) ∧ (¬ (1 ≤ g ∧ g ≤ 3) → Xe (.ref (ca iBadNumber)) [])
theorem ok_check_generators (T : Tx K mg ad ca fm) : FnOk P w K mg base (L2.CX P w) 1 (ad i_check_generators) (fm i_check_generators) ["g"] (spF K 1 (PCheckGen ca)) := by
  refine fn_F T.F_check_generators sc_check_generators 0 fun cdv A outer s H E hr ds R Xe hl hP => ?_
  obtain ⟨g, rfl, h1, h2⟩ := hP
  refine wb_cons (ws_if ?_)
  refine wt_val (!decide (1 ≤ g ∧ g ≤ 3)) ?_ ⟨fun c => ?_, fun c => ?_⟩
  · refine wt_not ?_
    refine wt_chain hr ?_
    refine we_int (we_im 0 rfl ?_)
    refine ⟨_, _, rfl, rfl, _, .le _ _, fun c => ?_, fun c => ⟨?_, rfl⟩⟩
    · refine we_gint T.c_MOST_GENERATORS ?_
      refine ⟨_, _, rfl, rfl, _, .le _ _, ?_, rfl⟩
      have c' : (1 : Int) ≤ g := of_decide_eq_true c
      simp [c']
    · have c' : ¬ (1 : Int) ≤ g := of_decide_eq_false c
      simp [c']
  · refine wb_cons (ws_raise T.e_BadNumber (h2 ?_))
    intro z
    simp [z] at c
  · refine wb_nil (wb_nil (h1 ?_))
    simpa using c
def PLetters (ca : Nat → Addr) : List D → (D → Prop) → Pz → Prop := fun ds R Xe => ∃ g : Int, ds = [.int g] ∧ ((1 ≤ g ∧ g ≤ 3) → R (.str (LT.take (2 * g.toNat)))) ∧ (¬ (1 ≤ g ∧ g ≤ 3) → Xe (.ref (ca iBadNumber)) [])
theorem ok_letters_of (T : Tx K mg ad ca fm) : FnOk P w K mg base (L2.CX P w) 2 (ad i_letters_of) (fm i_letters_of) ["g"] (spF K 1 (PLetters ca)) := by
  refine fn_F T.F_letters_of sc_letters_of 0 fun cdv A outer s H E hr ds R Xe hl hP => ?_
  obtain ⟨g, rfl, h1, h2⟩ := hP
  refine wb_cons (ws_expr ?_)
  refine we_call (ok_check_generators T) (hr.mono (by decide)) T.g_check_generators T.k_check_generators T.b_check_generators ?_
  refine wl_cons (we_im 0 rfl (wl_nil ⟨_, im1, rfl, ?_⟩))
  refine ⟨_, rfl, fun hg => ?_, fun hg => h2 hg⟩
  refine wb_cons (ws_ret ?_)
  refine we_slice ?_
  refine we_gstr LT T.c_LETTERS ?_
  refine wp_none (wp_some ?_)
  refine we_mul (we_int (we_im 0 rfl ?_))
  refine ⟨_, _, rfl, rfl, _, _, rfl, rfl, .inl (by decide), ?_⟩
  refine ⟨_, rfl, ?_⟩
  refine ⟨_, _, rfl, .str (by decide), ?_⟩
  refine ret_im ?_
  have e : (2 : Int) * g = ((2 * g.toNat : Nat) : Int) := by omega
  rw [e, cutL_to]
  exact h1 hg
def PRank : List D → (D → Prop) → Pz → Prop := fun ds R _ => ∃ c : Nat, ds = [.str [c]] ∧ c ∈ LT ∧ R (.int (rk c : Nat))
theorem ok_rank_of (T : Tx K mg ad ca fm) : FnOk P w K mg base (L2.CX P w) 1 (ad i_rank_of) (fm i_rank_of) ["letter"] (spF K 1 PRank) := by
  refine fn_F T.F_rank_of sc_rank_of 0 fun cdv A outer s H E hr ds R Xe hl hP => ?_
  obtain ⟨c, rfl, hc, h1⟩ := hP
  refine wb_cons (ws_if ?_)
  refine wt_val false ?_ ⟨fun z => (by cases z), fun z => ?_⟩
  · refine wt_or ?_
    refine wt_cmp hr ?_
    refine we_len T.n_len ?_
    refine we_im 0 rfl ?_
    refine ⟨_, rfl, _, .str (by show 1 ≤ 100000; decide), ?_⟩
    refine we_int ?_
    walk_at "cmp"
    refine ⟨fun c => (by cases c), fun _ => ?_⟩
    refine wt_cmp hr ?_
    refine we_im 0 rfl ?_
    refine we_gstr LT T.c_LETTERS ?_
    walk_at "cmp"
    exact ⟨by simp [hc], rfl⟩
  · refine wb_nil ?_
    refine wb_cons (ws_ret ?_)
    refine we_sindex ?_
    refine we_gstr LT T.c_LETTERS ?_
    refine ⟨_, rfl, ?_⟩
    refine we_im 0 rfl ?_
    refine ⟨_, _, rfl, rfl, rk_index hc, ?_⟩
    exact ret_im h1
def PInv : List D → (D → Prop) → Pz → Prop := fun ds R _ => ∃ c : Nat, ds = [.str [c]] ∧ c ∈ LT ∧ R (.str [inv c])
theorem ok_inverse_letter (T : Tx K mg ad ca fm) : FnOk P w K mg base (L2.CX P w) 2 (ad i_inverse_letter) (fm i_inverse_letter) ["letter"] (spF K 1 PInv) := by
  refine fn_F T.F_inverse_letter sc_inverse_letter 0 fun cdv A outer s H E hr ds R Xe hl hP => ?_
  obtain ⟨c, rfl, hc, h1⟩ := hP
  refine wb_cons (ws_set 1 ?_ sc_inverse_letter.nd)
  refine we_call (ok_rank_of T) (hr.mono (by decide)) T.g_rank_of T.k_rank_of T.b_rank_of ?_
  refine wl_cons (we_im 0 rfl (wl_nil ⟨_, im1, rfl, ?_⟩))
  refine ⟨_, rfl, hc, ?_⟩
  refine wb_cons (ws_ret ?_)
  refine we_ix ?_
  refine we_gstr LT T.c_LETTERS ?_
  refine we_sub ?_
  refine we_add (we_im 1 rfl (we_int ?_))
  walk_at "add"
  refine we_mul (we_int ?_)
  refine we_and (we_im 1 rfl (we_int ?_))
  refine ⟨_, _, rfl, rfl, _, _, rfl, rfl, ?_⟩
  refine ⟨_, _, rfl, rfl, _, _, rfl, rfl, .inl (by decide), ?_⟩
  refine ⟨_, _, rfl, rfl, _, _, rfl, rfl, ?_⟩
  refine ⟨_, _, rfl, rfl, _, .str (by decide) (inv_at hc), ?_⟩
  exact ret_im h1
def POver : List D → (D → Prop) → Pz → Prop := fun ds R _ => ∃ zs l : List Nat, ds = [.str zs, .str l] ∧ l.length ≤ 100000 ∧ R (.bl (decide (okw zs l)))
theorem ok__is_over (T : Tx K mg ad ca fm) : FnOk P w K mg base (L2.CX P w) 1 (ad i__is_over) (fm i__is_over) ["letters", "text"] (spF K 2 POver) := by
  refine fn_F T.F__is_over sc__is_over 0 fun cdv A outer s H E hr ds R Xe hl hP => ?_
  obtain ⟨zs, l, rfl, hn, h1⟩ := hP
  refine wb_cons (ws_for ?_)
  refine wi_str (we_im 1 rfl ⟨_, rfl, ?_⟩)
  refine ⟨fun i G => Le G ⟨[.im (.str zs), .im (.str l), .un], [], 0⟩ ∧ okw zs (l.take i), ⟨Le.refl _, fun c hc => by simp at hc⟩, ?_, ?_⟩
  · intro i d G hd ⟨hI, ho⟩
    rw [List.getElem?_map] at hd
    obtain ⟨c, hc, rfl⟩ := Option.map_eq_some_iff.mp hd
    refine wg_le hI ?_
    refine wg_name 2 ?_ sc__is_over.nd
    refine wb_cons (ws_if ?_)
    refine wt_cmp hr (we_im 2 rfl (we_im 0 rfl ?_))
    walk_at "cmp"
    refine ⟨fun k => ?_, fun k => ?_⟩
    · refine wb_cons (ws_ret (we_bl (ret_im ?_)))
      have hz : ¬ okw zs l := fun z => by
        have := z c (List.mem_of_getElem? hc)
        simp [this] at k
      rw [decide_eq_false hz] at h1
      exact h1
    · refine wb_nil (wb_nil ?_)
      refine ⟨⟨rfl, ⟨.inr rfl, .inr rfl, .inl rfl, trivial⟩, LeO.refl _⟩, fun b hb => ?_⟩
      rw [List.take_add_one, hc] at hb
      rcases List.mem_append.mp hb with hb | hb
      · exact ho b hb
      · have : b = c := by simpa using hb
        subst this
        simpa using k
  · intro G ⟨hI, ho⟩
    refine wb_le hI ?_
    refine wb_cons (ws_ret (we_bl (ret_im ?_)))
    rw [List.length_map, List.take_length] at ho
    rw [decide_eq_true ho] at h1
    exact h1
def PIsWord (ca : Nat → Addr) : List D → (D → Prop) → Pz → Prop := fun ds R Xe => ∃ (g : Int) (l : List Nat), ds = [.int g, .str l] ∧ l.length ≤ 100000 ∧ ((1 ≤ g ∧ g ≤ 3) → R (.bl (decide (okw (LT.take (2 * g.toNat)) l)))) ∧ (¬ (1 ≤ g ∧ g ≤ 3) → Xe (.ref (ca iBadNumber)) [])
theorem ok_is_word (T : Tx K mg ad ca fm) : FnOk P w K mg base (L2.CX P w) 3 (ad i_is_word) (fm i_is_word) ["g", "text"] (spF K 2 (PIsWord ca)) := by
  refine fn_F T.F_is_word sc_is_word 0 fun cdv A outer s H E hr ds R Xe hl hP => ?_
  obtain ⟨g, l, rfl, hn, h1, h2⟩ := hP
  refine wb_cons (ws_ret ?_)
  refine we_call (ok__is_over T) (hr.mono (by decide)) T.g__is_over T.k__is_over T.b__is_over ?_
  refine wl_cons ?_
  refine we_call (ok_letters_of T) (hr.mono (by decide)) T.g_letters_of T.k_letters_of T.b_letters_of ?_
  refine wl_cons (we_im 0 rfl (wl_nil ⟨_, im1, rfl, ?_⟩))
  refine ⟨_, rfl, fun hg => ?_, fun hg => h2 hg⟩
  refine wl_cons (we_im 1 rfl (wl_nil ⟨_, im2, rfl, ?_⟩))
  exact ⟨_, _, rfl, hn, ret_im (h1 hg)⟩
def PCheckWord (ca : Nat → Addr) : List D → (D → Prop) → Pz → Prop := fun ds R Xe => ∃ (g : Int) (l : List Nat), ds = [.int g, .str l] ∧ l.length ≤ 100000 ∧ (¬ (1 ≤ g ∧ g ≤ 3) → Xe (.ref (ca iBadNumber)) []) ∧
  ((1 ≤ g ∧ g ≤ 3) → (okw (LT.take (2 * g.toNat)) l ∧ l.length ≤ 60 → R .non) ∧ (¬ (okw (LT.take (2 * g.toNat)) l ∧ l.length ≤ 60) → Xe (.ref (ca iNotWord)) []))
theorem ok_check_word (T : Tx K mg ad ca fm) : FnOk P w K mg base (L2.CX P w) 4 (ad i_check_word) (fm i_check_word) ["g", "text"] (spF K 2 (PCheckWord ca)) := by
  refine fn_F T.F_check_word sc_check_word 0 fun cdv A outer s H E hr ds R Xe hl hP => ?_
  obtain ⟨g, l, rfl, hn, h2, h1⟩ := hP
  refine wb_cons (ws_if ?_)
  refine wt_or ?_
  refine wt_not ?_
  refine wt_tru ?_
  refine we_call (ok_is_word T) (hr.mono (by decide)) T.g_is_word T.k_is_word T.b_is_word ?_
  refine wl_cons (we_im 0 rfl (wl_cons (we_im 1 rfl (wl_nil ⟨_, im2, rfl, ?_⟩))))
  refine ⟨_, _, rfl, hn, fun hg => ⟨_, rfl, trivial, ?_⟩, fun hg => h2 hg⟩
  obtain ⟨h3, h4⟩ := h1 hg
  refine ⟨fun k => ⟨fun _ => ?_, fun z => (by cases z)⟩, fun k => ?_⟩
  · refine wb_cons (ws_raise T.e_NotWord (h4 fun z => ?_))
    have : okw (LT.take (2 * g.toNat)) l := z.1
    simp [D.tru, this] at k
  · have k' : okw (LT.take (2 * g.toNat)) l := by simpa [D.tru] using k
    refine wt_cmp hr ?_
    refine we_len T.n_len (we_im 1 rfl ⟨_, rfl, _, .str hn, ?_⟩)
    refine we_gint T.c_MOST_LETTERS ?_
    refine ⟨_, _, rfl, rfl, _, .gt _ _, fun k => ?_, fun k => ?_⟩
    · refine wb_cons (ws_raise T.e_NotWord (h4 fun z => ?_))
      have := of_decide_eq_true k
      omega
    · refine wb_nil (wb_nil (h3 ⟨k', ?_⟩))
      have := of_decide_eq_false k
      omega
end
end Tx

namespace Tx
open PySem PySem.Spec PyProof.Rows L2 DL
/-! ### words -/
def ch (c : Nat) : D := .str [c]
def stp (st : List Nat) (c : Nat) : List Nat := match st with
  | [] => [c]
  | x :: t => if x = inv c then t else c :: x :: t
def cut (l : List Nat) : List Nat := (l.foldl stp []).reverse
def trn (l : List Nat) : List Nat := l.reverse.map inv
def psz (l : List Nat) : Nat → Nat → Nat
  | s, 0 => s
  | s, n + 1 => if 1 < (l.length : Int) - 2 * s ∧ l[s]? = (l[l.length - 1 - s]?).map inv then psz l (s + 1) n else s
def prt (l : List Nat) : Nat := psz l 0 l.length
def core (l : List Nat) : List Nat := (l.drop (prt l)).take (l.length - prt l - prt l)
theorem stp_len (st : List Nat) (c : Nat) : (stp st c).length ≤ st.length + 1 := by
  cases st with
  | nil => simp [stp]
  | cons x t =>
    by_cases h : x = inv c
    · rw [show stp (x :: t) c = t from if_pos h, List.length_cons]; omega
    · rw [show stp (x :: t) c = c :: x :: t from if_neg h, List.length_cons]; omega
theorem fold_len : ∀ (l st : List Nat), (l.foldl stp st).length ≤ st.length + l.length
  | [], st => by simp
  | c :: l, st => by
    have := fold_len l (stp st c)
    have := stp_len st c
    simp only [List.foldl_cons, List.length_cons]
    omega
theorem cut_len (l : List Nat) : (cut l).length ≤ l.length := by
  have := fold_len l []
  simpa [cut] using this
theorem fold_ok {l : List Nat} (h : okw LT l) : ∀ st : List Nat, okw LT st → okw LT (l.foldl stp st) := by
  induction l with
  | nil => exact fun st hs => hs
  | cons c l ih =>
    intro st hs
    refine ih (fun b hb => h b (List.mem_cons_of_mem _ hb)) _ ?_
    have hc := h c List.mem_cons_self
    cases st with
    | nil => intro b hb; have : b = c := by simpa [stp] using hb
             rw [this]; exact hc
    | cons x t =>
      intro b hb
      by_cases h : x = inv c
      · rw [show stp (x :: t) c = t from if_pos h] at hb
        exact hs b (List.mem_cons_of_mem _ hb)
      · rw [show stp (x :: t) c = c :: x :: t from if_neg h] at hb
        rcases List.mem_cons.mp hb with z | z
        · rw [z]; exact hc
        · exact hs b z
theorem cut_ok {l : List Nat} (h : okw LT l) : okw LT (cut l) := fun b hb => fold_ok h [] (fun _ z => (by cases z)) b (by simpa [cut] using hb)
theorem flat_ch : ∀ l : List Nat, (l.map fun c => [c]).flatten = l
  | [] => rfl
  | c :: l => by rw [List.map_cons, List.flatten_cons, flat_ch l] <;> rfl
theorem map_ch (l : List Nat) : l.map ch = (l.map fun c => [c]).map D.str := by rw [List.map_map] <;> rfl
theorem trn_len (l : List Nat) : (trn l).length = l.length := by simp [trn]
theorem trn_ok {l : List Nat} (h : okw LT l) : okw LT (trn l) := fun b hb => by
  obtain ⟨c, hc, rfl⟩ := List.mem_map.mp hb
  exact inv_lt (h c (List.mem_reverse.mp hc))
section
variable {P : Program} {w : World} {K : PySem.W.Frag} {mg : Str → Option Value} {base : Heap} {ad ca : Nat → Addr} {fm : Nat → FuncData}
def PCheck (ca : Nat → Addr) : List D → (D → Prop) → Pz → Prop := fun ds R Xe => ∃ l : List Nat, ds = [.str l] ∧ l.length ≤ 100000 ∧ (okw LT l ∧ l.length ≤ 60 → R .non) ∧ (¬ (okw LT l ∧ l.length ≤ 60) → Xe (.ref (ca iNotWord)) [])
theorem ok__check (T : Tx K mg ad ca fm) : FnOk P w K mg base (L2.CX P w) 5 (ad i__check) (fm i__check) ["word"] (spF K 1 (PCheck ca)) := by
  refine fn_F T.F__check sc__check 0 fun cdv A outer s H E hr ds R Xe hl hP => ?_
  obtain ⟨l, rfl, hn, h1, h2⟩ := hP
  refine wb_cons (ws_expr ?_)
  refine we_call (ok_check_word T) (hr.mono (by decide)) T.g_check_word T.k_check_word T.b_check_word ?_
  refine wl_cons (we_gint T.c_MOST_GENERATORS (wl_cons (we_im 0 rfl (wl_nil ⟨_, im2, rfl, ?_⟩))))
  exact ⟨_, _, rfl, hn, fun h => absurd (by decide) h, fun _ => ⟨fun z => wb_nil (h1 z), fun z => h2 z⟩⟩
def PTurned : List D → (D → Prop) → Pz → Prop := fun ds R _ => ∃ l : List Nat, ds = [.str l] ∧ l.length ≤ 100000 ∧ okw LT l ∧ R (.str (trn l))
theorem ok_turned (T : Tx K mg ad ca fm) : FnOk P w K mg base (L2.CX P w) 3 (ad i_turned) (fm i_turned) ["word"] (spF K 1 PTurned) := by
  refine fn_F T.F_turned sc_turned 0 fun cdv A outer s H E hr ds R Xe hl hP => ?_
  obtain ⟨l, rfl, hn, ho, h1⟩ := hP
  refine wb_cons (ws_ret ?_)
  refine we_join ?_
  refine we_str [] ?_
  refine ⟨_, rfl, ?_⟩
  refine we_fr ?_
  refine wef_lc (own' := [("letter", 1)]) sc_turned.nd ?_
  refine wi_str (we_srev (we_im 0 rfl ⟨_, rfl, hn, ⟨_, rfl, ?_⟩⟩))
  refine ⟨by simpa using hn, fun i acc om => acc = ((trn l).take i).map ch ∧ om = [], ⟨rfl, rfl⟩, ?_, ?_⟩
  · intro i d acc om hd ⟨ha, hm⟩
    subst hm
    rw [List.getElem?_map] at hd
    obtain ⟨c, hc, rfl⟩ := Option.map_eq_some_iff.mp hd
    intro s1 H1 C cl fp
    refine wg_name 1 ?_ sc_turned.nd
    intro s1 H1 C cl fp
    refine we_call (ok_inverse_letter T) (hr.mono (by decide)) T.g_inverse_letter T.k_inverse_letter T.b_inverse_letter ?_
    refine wl_cons (we_im 1 rfl (wl_nil ⟨_, im1, rfl, ?_⟩))
    refine ⟨_, rfl, ho c (List.mem_reverse.mp (List.mem_of_getElem? hc)), ?_⟩
    refine ⟨_, rfl, rfl, rfl, ?_, rfl⟩
    have e : (trn l)[i]? = some (inv c) := by unfold trn; rw [List.getElem?_map, hc] <;> rfl
    rw [ha, List.take_add_one, e, List.map_append] <;> rfl
  · rintro acc om ⟨ha, hm⟩
    refine ⟨_, rfl, ?_⟩
    have e : acc = ((trn l).map fun c => [c]).map D.str := by
      rw [ha, ← map_ch, List.take_of_length_le (by simp [trn])]
    rw [e]
    refine ⟨_, _, rfl, .lst _, by rw [flat_ch, trn_len]; simpa using hn, ?_⟩
    rw [joinL_nil, flat_ch]
    exact ret_im h1
def PCut : List D → (D → Prop) → Pz → Prop := fun ds R _ => ∃ l : List Nat, ds = [.str l] ∧ l.length ≤ 100000 ∧ okw LT l ∧ R (.str (cut l))
theorem ok_cut_down (T : Tx K mg ad ca fm) : FnOk P w K mg base (L2.CX P w) 3 (ad i_cut_down) (fm i_cut_down) ["word"] (spF K 1 PCut) := by
  refine fn_F T.F_cut_down sc_cut_down 1 fun cdv A outer s H E hr ds R Xe hl hP => ?_
  obtain ⟨l, rfl, hn, ho, h1⟩ := hP
  refine wb_cons (ws_own 1 0 ?_ sc_cut_down.nd)
  refine wef_lst0 ?_
  refine ⟨Nat.le_of_ble_eq_true rfl, Nat.le_of_ble_eq_true rfl, rfl, ?_⟩
  refine wb_cons (ws_for ?_)
  refine wi_str (we_im 0 rfl ⟨_, rfl, ?_⟩)
  refine ⟨fun i G => Le G ⟨[.im (.str l), .ow 0, .un], [.li (((l.take i).foldl stp []).reverse.map ch)], 0⟩, Le.refl _, ?_, ?_⟩
  · intro i d G hd hI
    rw [List.getElem?_map] at hd
    obtain ⟨c, hc, rfl⟩ := Option.map_eq_some_iff.mp hd
    have hcl : c ∈ LT := ho c (List.mem_of_getElem? hc)
    have e2 : (l.take (i + 1)).foldl stp [] = stp ((l.take i).foldl stp []) c := by
      rw [List.take_add_one, hc, List.foldl_append] <;> rfl
    have hlen : ((l.take i).foldl stp []).length < 100000 := by
      have := fold_len (l.take i) []
      have hi : i < l.length := (List.getElem?_eq_some_iff.mp hc).1
      rw [List.length_take, List.length_nil] at this
      omega
    obtain ⟨st, hst⟩ : ∃ st, (l.take i).foldl stp [] = st := ⟨_, rfl⟩
    rw [hst] at hI hlen e2
    clear hst
    refine wg_le hI ?_
    refine wg_name 2 ?_ sc_cut_down.nd
    cases st with
    | nil =>
      refine wb_cons (ws_if ?_)
      refine wt_val false ?_ ⟨fun z => (by cases z), fun z => ?_⟩
      · refine wt_and (wt_tru (we_ow 1 rfl ⟨_, ⟨_, rfl, rfl⟩, trivial, ⟨fun z => (by cases z), fun _ => ⟨rfl, rfl⟩⟩⟩))
      · refine wb_cons (ws_expr ?_)
        refine we_append (we_ow 1 rfl ⟨_, rfl, ⟨_, rfl⟩, ?_⟩)
        refine we_im 2 rfl ⟨_, _, rfl, rfl, by decide, ?_⟩
        refine wb_nil (wb_nil ?_)
        refine ⟨rfl, ⟨.inr rfl, .inr rfl, .inl rfl, trivial⟩, ?_⟩
        rw [e2]
        exact LeO.refl _
    | cons x t =>
      have ex : (x :: t).reverse.map ch = t.reverse.map ch ++ [ch x] := by rw [List.reverse_cons, List.map_append] <;> rfl
      rw [ex]
      refine wb_cons (ws_if ?_)
      refine wt_val (decide (x = inv c)) ?_ ⟨fun z => ?_, fun z => ?_⟩
      · refine wt_and (wt_tru (we_ow 1 rfl ⟨_, ⟨_, rfl, rfl⟩, trivial, ⟨fun _ => ?_, fun z => ?_⟩⟩))
        · refine wt_cmp hr ?_
          refine we_ix (we_ow 1 rfl (we_neg (we_int ⟨_, rfl, ?_⟩)))
          refine ⟨_, _, ⟨_, rfl, rfl⟩, rfl, _, .lst (atI_neg1 _ _), ?_⟩
          refine we_call (ok_inverse_letter T) (hr.mono (by decide)) T.g_inverse_letter T.k_inverse_letter T.b_inverse_letter ?_
          refine wl_cons (we_im 2 rfl (wl_nil ⟨_, im1, rfl, ?_⟩))
          refine ⟨_, rfl, hcl, ?_⟩
          refine ⟨_, _, rfl, rfl, _, .eqS _ _, ?_⟩
          exact ⟨by simp, rfl⟩
        · exfalso
          simp [D.tru] at z
      · have z' : x = inv c := of_decide_eq_true z
        refine wb_cons (ws_expr ?_)
        refine we_pop (we_ow 1 rfl ⟨_, _, _, rfl, rfl, ?_⟩)
        refine wb_nil (wb_nil ?_)
        refine ⟨rfl, ⟨.inr rfl, .inr rfl, .inl rfl, trivial⟩, ?_⟩
        rw [e2, show stp (x :: t) c = t from if_pos z']
        exact LeO.refl _
      · have z' : ¬ x = inv c := of_decide_eq_false z
        refine wb_cons (ws_expr ?_)
        refine we_append (we_ow 1 rfl ⟨_, rfl, ⟨_, rfl⟩, ?_⟩)
        refine we_im 2 rfl ⟨_, _, rfl, rfl, ?_, ?_⟩
        · rw [List.length_append, List.length_map, List.length_reverse]
          exact hlen
        refine wb_nil (wb_nil ?_)
        refine ⟨rfl, ⟨.inr rfl, .inr rfl, .inl rfl, trivial⟩, ?_⟩
        rw [e2, show stp (x :: t) c = c :: x :: t from if_neg z', show (c :: x :: t).reverse.map ch = (t.reverse.map ch ++ [ch x]) ++ [ch c] by rw [List.reverse_cons, List.map_append, ex] <;> rfl]
        exact LeO.refl _
  · intro G hI
    rw [List.length_map, List.take_length] at hI
    refine wb_le hI ?_
    refine wb_cons (ws_ret ?_)
    refine we_join (we_str [] ⟨_, rfl, ?_⟩)
    refine we_ow 1 rfl ?_
    refine ⟨_, _, ⟨_, rfl, rfl⟩, by rw [map_ch]; exact .lst _, ?_, ?_⟩
    · have := cut_len l
      have : (l.foldl stp []).length ≤ l.length := by simpa [cut] using this
      rw [flat_ch, List.length_reverse, List.length_map, List.length_reverse, List.length_nil]
      omega
    rw [joinL_nil, flat_ch]
    exact ret_im h1
def PReduced (ca : Nat → Addr) : List D → (D → Prop) → Pz → Prop := fun ds R Xe => ∃ l : List Nat, ds = [.str l] ∧ l.length ≤ 100000 ∧ (okw LT l ∧ l.length ≤ 60 → R (.str (cut l))) ∧ (¬ (okw LT l ∧ l.length ≤ 60) → Xe (.ref (ca iNotWord)) [])
theorem ok_reduced (T : Tx K mg ad ca fm) : FnOk P w K mg base (L2.CX P w) 6 (ad i_reduced) (fm i_reduced) ["word"] (spF K 1 (PReduced ca)) := by
  refine fn_F T.F_reduced sc_reduced 0 fun cdv A outer s H E hr ds R Xe hl hP => ?_
  obtain ⟨l, rfl, hn, h1, h2⟩ := hP
  refine wb_cons (ws_expr ?_)
  refine we_call (ok__check T) (hr.mono (by decide)) T.g__check T.k__check T.b__check ?_
  refine wl_cons (we_im 0 rfl (wl_nil ⟨_, im1, rfl, ?_⟩))
  refine ⟨_, rfl, hn, fun z => ?_, fun z => h2 z⟩
  refine wb_cons (ws_ret ?_)
  refine we_call (ok_cut_down T) (hr.mono (by decide)) T.g_cut_down T.k_cut_down T.b_cut_down ?_
  refine wl_cons (we_im 0 rfl (wl_nil ⟨_, im1, rfl, ?_⟩))
  exact ⟨_, rfl, hn, z.1, ret_im (h1 z)⟩
theorem psz_step {l : List Nat} {s n : Nat} (h : 1 < (l.length : Int) - 2 * s ∧ l[s]? = (l[l.length - 1 - s]?).map inv) : psz l s (n + 1) = psz l (s + 1) n := if_pos h
theorem psz_stop {l : List Nat} {s n : Nat} (h : ¬ (1 < (l.length : Int) - 2 * s ∧ l[s]? = (l[l.length - 1 - s]?).map inv)) : psz l s n = s := by
  cases n with
  | zero => rfl
  | succ n => exact if_neg h
def PParted : List D → (D → Prop) → Pz → Prop := fun ds R _ => ∃ l : List Nat, ds = [.str l] ∧ l.length ≤ 100000 ∧ okw LT l ∧ R (.tup [.str (l.take (prt l)), .str (core l)])
theorem ok__parted (T : Tx K mg ad ca fm) : FnOk P w K mg base (L2.CX P w) 3 (ad i__parted) (fm i__parted) ["word"] (spF K 1 PParted) := by
  refine fn_F T.F__parted sc__parted 0 fun cdv A outer s H E hr ds R Xe hl hP => ?_
  obtain ⟨l, rfl, hn, ho, h1⟩ := hP
  refine wb_cons (ws_set 1 ?_ sc__parted.nd)
  refine we_int ?_
  refine wb_cons (ws_while (fun m G => ∃ sz : Nat, m + sz = l.length ∧ 2 * sz ≤ l.length ∧ psz l sz m = prt l ∧ Le G ⟨[.im (.str l), .im (.int sz)], [], 0⟩) l.length ⟨0, rfl, by omega, rfl, Le.refl _⟩ ?_)
  rintro m G ⟨sz, hm, h2, hp, hI⟩
  refine wt_le hI ?_
  refine wt_val (decide (1 < (l.length : Int) - 2 * sz ∧ l[sz]? = (l[l.length - 1 - sz]?).map inv)) ?_ ⟨fun z => ?_, fun z => ?_⟩
  · refine wt_and ?_
    refine wt_cmp hr ?_
    refine we_sub ?_
    refine we_len T.n_len (we_im 0 rfl ⟨_, rfl, _, .str hn, ?_⟩)
    refine we_mul (we_int (we_im 1 rfl ?_))
    refine ⟨_, _, rfl, rfl, _, _, rfl, rfl, .inl (by decide), ?_⟩
    refine ⟨_, _, rfl, rfl, _, _, rfl, rfl, ?_⟩
    refine we_int ?_
    refine ⟨_, _, rfl, rfl, _, .gt _ _, ?_⟩
    refine ⟨fun c => ?_, fun c => ?_⟩
    · have c' := of_decide_eq_true c
      obtain ⟨a, ea⟩ : ∃ a, l[sz]? = some a := ⟨_, List.getElem?_eq_getElem (by omega)⟩
      obtain ⟨b, eb⟩ : ∃ b, l[l.length - 1 - sz]? = some b := ⟨_, List.getElem?_eq_getElem (by omega)⟩
      refine wt_cmp hr ?_
      refine we_ix (we_im 0 rfl (we_im 1 rfl ?_))
      refine ⟨_, _, rfl, rfl, _, .str hn (at_ofL sz rfl ea), ?_⟩
      refine we_call (ok_inverse_letter T) (hr.mono (by decide)) T.g_inverse_letter T.k_inverse_letter T.b_inverse_letter ?_
      refine wl_cons ?_
      refine we_ix (we_im 0 rfl ?_)
      refine we_sub ?_
      refine we_sub ?_
      refine we_len T.n_len (we_im 0 rfl ⟨_, rfl, _, .str hn, ?_⟩)
      refine we_int ?_
      refine ⟨_, _, rfl, rfl, _, _, rfl, rfl, ?_⟩
      refine we_im 1 rfl ?_
      refine ⟨_, _, rfl, rfl, _, _, rfl, rfl, ?_⟩
      refine ⟨_, _, rfl, rfl, _, .str hn (at_ofL (l.length - 1 - sz) (by omega) eb), ?_⟩
      refine wl_nil ⟨_, im1, rfl, ?_⟩
      refine ⟨_, rfl, ho b (List.mem_of_getElem? eb), ?_⟩
      refine ⟨_, _, rfl, rfl, _, .eqS _ _, ?_⟩
      refine ⟨?_, rfl⟩
      rw [ea, eb]
      simp [c']
    · have c' := of_decide_eq_false c
      exact ⟨by simp [c'], rfl⟩
  · have z' := of_decide_eq_true z
    refine wb_cons (ws_augI 1 (ip_add) rfl ?_ sc__parted.nd)
    refine we_int ⟨_, rfl, ?_⟩
    refine wb_nil ?_
    obtain ⟨m', rfl⟩ : ∃ m', m = m' + 1 := ⟨m - 1, by omega⟩
    refine ⟨m', by omega, sz + 1, by omega, by omega, ?_, ?_⟩
    · rw [← psz_step z']; exact hp
    · exact ⟨rfl, ⟨.inr rfl, .inr (by simp), trivial⟩, LeO.refl _⟩
  · have z' := of_decide_eq_false z
    have ep : prt l = sz := by rw [← hp]; exact psz_stop z'
    refine wb_cons (ws_ret ?_)
    refine we_tup ?_
    refine wl_cons ?_
    refine we_slice (we_im 0 rfl (wp_none (wp_some (we_im 1 rfl ⟨_, rfl, ?_⟩))))
    refine ⟨_, _, rfl, .str hn, ?_⟩
    refine wl_cons ?_
    refine we_slice (we_im 0 rfl (wp_some (we_im 1 rfl ⟨_, rfl, wp_some ?_⟩)))
    refine we_sub ?_
    refine we_len T.n_len (we_im 0 rfl ⟨_, rfl, _, .str hn, ?_⟩)
    refine we_im 1 rfl ?_
    refine ⟨_, _, rfl, rfl, _, _, rfl, rfl, ?_⟩
    refine ⟨_, rfl, ?_⟩
    refine ⟨_, _, rfl, .str hn, ?_⟩
    refine wl_nil ⟨_, im2, Nat.le_of_ble_eq_true rfl, ?_⟩
    refine ret_im ?_
    rw [cutL_to, show (l.length : Int) - sz = ((l.length - sz : Nat) : Int) by omega, cutL_mid l sz (l.length - sz) (by omega) (by omega)]
    unfold core at h1
    rw [ep] at h1
    exact h1
theorem core_len (l : List Nat) : (core l).length ≤ l.length := by
  unfold core
  simp only [List.length_take, List.length_drop]
  omega
theorem core_ok {l : List Nat} (h : okw LT l) : okw LT (core l) := fun b hb => h b (List.mem_of_mem_drop (List.mem_of_mem_take hb))
def PCoreOf (ca : Nat → Addr) : List D → (D → Prop) → Pz → Prop := fun ds R Xe => ∃ l : List Nat, ds = [.str l] ∧ l.length ≤ 100000 ∧ (okw LT l ∧ l.length ≤ 60 → R (.tup [.str ((cut l).take (prt (cut l))), .str (core (cut l))])) ∧ (¬ (okw LT l ∧ l.length ≤ 60) → Xe (.ref (ca iNotWord)) [])
theorem ok_core_of (T : Tx K mg ad ca fm) : FnOk P w K mg base (L2.CX P w) 7 (ad i_core_of) (fm i_core_of) ["word"] (spF K 1 (PCoreOf ca)) := by
  refine fn_F T.F_core_of sc_core_of 0 fun cdv A outer s H E hr ds R Xe hl hP => ?_
  obtain ⟨l, rfl, hn, h1, h2⟩ := hP
  refine wb_cons (ws_ret ?_)
  refine we_call (ok__parted T) (hr.mono (by decide)) T.g__parted T.k__parted T.b__parted ?_
  refine wl_cons ?_
  refine we_call (ok_reduced T) (hr.mono (by decide)) T.g_reduced T.k_reduced T.b_reduced ?_
  refine wl_cons (we_im 0 rfl (wl_nil ⟨_, im1, rfl, ?_⟩))
  refine ⟨_, rfl, hn, fun z => ?_, fun z => h2 z⟩
  refine wl_nil ⟨_, im1, rfl, ?_⟩
  exact ⟨_, rfl, by have := cut_len l; omega, cut_ok z.1, ret_im (h1 z)⟩
end
end Tx

namespace Tx
open PySem PySem.Spec PyProof.Rows L2 DL
/-! ### rotations, classes -/
def rots (l : List Nat) : List (List Nat) := (List.range (max 1 l.length)).map fun i => l.drop i ++ l.take i
def skey (l : List Nat) : D := .tup [.int (l.length : Nat), .tup (l.map fun c => .int (rk c : Nat))]
def rints (l : List Nat) : List PyData := (l.map fun c => ((rk c : Nat) : Int)).map PyData.int
theorem rints_py (l : List Nat) : D.pyA (l.map fun c => D.int (rk c : Nat)) = rints l := by
  unfold rints
  rw [pyA_map, List.map_map, List.map_map] <;> rfl
theorem skey_py (l : List Nat) : (skey l).py = .tuple [.int (l.length : Nat), .tuple (rints l)] := by
  rw [skey, D.py, D.pyA, D.pyA, D.pyA, D.py, D.py, rints_py]
theorem rots_ne (l : List Nat) : 0 < (rots l).length := by
  unfold rots
  rw [List.length_map, List.length_range]
  omega
theorem rots_len {l x : List Nat} (h : x ∈ rots l) : x.length = l.length := by
  obtain ⟨i, hi, rfl⟩ := List.mem_map.mp h
  have := List.mem_range.mp hi
  simp only [List.length_append, List.length_drop, List.length_take]
  omega
theorem rots_ok {l x : List Nat} (ho : okw LT l) (h : x ∈ rots l) : okw LT x := by
  obtain ⟨i, hi, rfl⟩ := List.mem_map.mp h
  intro b hb
  rcases List.mem_append.mp hb with hb | hb
  · exact ho b (List.mem_of_mem_drop hb)
  · exact ho b (List.mem_of_mem_take hb)
theorem alike_ints : ∀ (xs ys : List Int), PySem.W.alikeAll (xs.map PyData.int) (ys.map PyData.int) = true
  | [], _ => rfl
  | _ :: _, [] => rfl
  | x :: xs, y :: ys => by
    rw [List.map_cons, List.map_cons, PySem.W.alikeAll, alike_ints xs ys] <;> rfl
theorem skey_alike (l m : List Nat) : PySem.W.alike (skey l).py (skey m).py = true := by
  rw [skey_py, skey_py]
  simp only [PySem.W.alike, PySem.W.alikeAll, rints, alike_ints, Bool.and_self]
theorem skey_inj {l m : List Nat} (hl : okw LT l) (hm : okw LT m) (h : PySem.W.keyToks (skey l).py = PySem.W.keyToks (skey m).py) : l = m := by
  rw [skey_py, skey_py] at h
  simp only [PySem.W.keyToks, PySem.W.keyToksAll, List.cons_append, List.nil_append, List.cons.injEq, true_and, List.append_cancel_right_eq] at h
  have e := toks_ints _ _ h.2
  clear h
  induction l generalizing m with
  | nil =>
    cases m with
    | nil => rfl
    | cons c m => simp at e
  | cons b l ih =>
    cases m with
    | nil => simp at e
    | cons c m =>
      simp only [List.map_cons, List.cons.injEq] at e
      have e2 : b = c := by
        have hb := hl b List.mem_cons_self
        have hc := hm c List.mem_cons_self
        have := e.1
        rcases lt_cases hb with rfl | rfl | rfl | rfl | rfl | rfl <;> rcases lt_cases hc with rfl | rfl | rfl | rfl | rfl | rfl <;> first | rfl | (exfalso; revert this; decide)
      rw [e2, ih (fun x hx => hl x (List.mem_cons_of_mem _ hx)) (fun x hx => hm x (List.mem_cons_of_mem _ hx)) e.2]
section
variable {P : Program} {w : World} {K : PySem.W.Frag} {mg : Str → Option Value} {base : Heap} {ad ca : Nat → Addr} {fm : Nat → FuncData}
def PSkey : List D → (D → Prop) → Pz → Prop := fun ds R _ => ∃ l : List Nat, ds = [.str l] ∧ l.length ≤ 100000 ∧ okw LT l ∧ R (skey l)
theorem ok_shortlex_key (T : Tx K mg ad ca fm) : FnOk P w K mg base (L2.CX P w) 2 (ad i_shortlex_key) (fm i_shortlex_key) ["word"] (spF K 1 PSkey) := by
  refine fn_F T.F_shortlex_key sc_shortlex_key 0 fun cdv A outer s H E hr ds R Xe hl hP => ?_
  obtain ⟨l, rfl, hn, ho, h1⟩ := hP
  refine wb_cons (ws_ret ?_)
  refine we_tup ?_
  refine wl_cons ?_
  refine we_len T.n_len (we_im 0 rfl ⟨_, rfl, _, .str hn, ?_⟩)
  refine wl_cons ?_
  refine we_tuple T.n_tuple ?_
  refine we_fr ?_
  refine wef_lc (own' := [("letter", 1)]) sc_shortlex_key.nd ?_
  refine wi_str (we_im 0 rfl ⟨_, rfl, ?_⟩)
  refine ⟨by simpa using hn, fun i acc om => acc = (l.take i).map (fun c => D.int (rk c : Nat)) ∧ om = [], ⟨rfl, rfl⟩, ?_, ?_⟩
  · intro i d acc om hd ⟨ha, hm⟩
    subst hm
    rw [List.getElem?_map] at hd
    obtain ⟨c, hc, rfl⟩ := Option.map_eq_some_iff.mp hd
    intro s1 H1 C cl fp
    refine wg_name 1 ?_ sc_shortlex_key.nd
    intro s1 H1 C cl fp
    refine we_call (ok_rank_of T) (hr.mono (by decide)) T.g_rank_of T.k_rank_of T.b_rank_of ?_
    refine wl_cons (we_im 1 rfl (wl_nil ⟨_, im1, rfl, ?_⟩))
    refine ⟨_, rfl, ho c (List.mem_of_getElem? hc), ?_⟩
    refine ⟨_, rfl, rfl, rfl, ?_, rfl⟩
    rw [ha, List.take_add_one, hc, List.map_append] <;> rfl
  · rintro acc om ⟨ha, hm⟩
    refine ⟨_, rfl, ?_⟩
    refine ⟨_, _, rfl, .lst _, ?_⟩
    refine wl_nil ⟨_, im2, Nat.le_of_ble_eq_true rfl, ?_⟩
    refine ret_im ?_
    rw [ha, List.length_map, List.take_length]
    exact h1
def lsts (ls : List (List Nat)) : D := .lst (ls.map D.str)
def PRots (ca : Nat → Addr) : List D → (D → Prop) → Pz → Prop := fun ds R Xe => ∃ l : List Nat, ds = [.str l] ∧ l.length ≤ 100000 ∧ (okw LT l ∧ l.length ≤ 60 → R (lsts (rots l))) ∧ (¬ (okw LT l ∧ l.length ≤ 60) → Xe (.ref (ca iNotWord)) [])
theorem ok_rotations (T : Tx K mg ad ca fm) : FnOk P w K mg base (L2.CX P w) 6 (ad i_rotations) (fm i_rotations) ["word"] (spF K 1 (PRots ca)) := by
  refine fn_F T.F_rotations sc_rotations 0 fun cdv A outer s H E hr ds R Xe hl hP => ?_
  obtain ⟨l, rfl, hn, h1, h2⟩ := hP
  refine wb_cons (ws_expr ?_)
  refine we_call (ok__check T) (hr.mono (by decide)) T.g__check T.k__check T.b__check ?_
  refine wl_cons (we_im 0 rfl (wl_nil ⟨_, im1, rfl, ?_⟩))
  refine ⟨_, rfl, hn, fun z => ?_, fun z => h2 z⟩
  refine wb_cons (ws_if ?_)
  refine wt_cmp hr ?_
  refine we_im 0 rfl (we_str [] ?_)
  walk_at "cmp"
  refine ⟨fun c => ?_, fun c => ?_⟩
  · have e : l = [] := of_decide_eq_true c
    refine wb_cons (ws_ret ?_)
    refine we_lst (wl_cons (we_str [] (wl_nil ⟨_, im1, Nat.le_of_ble_eq_true rfl, ?_⟩)))
    refine ret_im ?_
    subst e
    exact h1 z
  · have e : l ≠ [] := of_decide_eq_false c
    have hpos : 0 < l.length := List.length_pos_iff.mpr e
    refine wb_nil ?_
    refine wb_cons (ws_ret ?_)
    refine we_fr ?_
    refine wef_lc (own' := [("place", 1)]) sc_rotations.nd ?_
    refine wi_rng1 T.n_range ?_
    refine we_len T.n_len (we_im 0 rfl ⟨_, rfl, _, .str hn, ?_⟩)
    refine ⟨_, rfl, by omega, by omega, ?_⟩
    refine ⟨by simpa using hn, fun i acc om => acc = ((List.range i).map fun i => D.str (l.drop i ++ l.take i)) ∧ om = [], ⟨rfl, rfl⟩, ?_, ?_⟩
    · intro i d acc om hd ⟨ha, hm⟩
      subst hm
      rw [List.getElem?_map] at hd
      obtain ⟨c, hc, rfl⟩ := Option.map_eq_some_iff.mp hd
      obtain ⟨hi, rfl⟩ := List.getElem?_eq_some_iff.mp hc
      rw [List.getElem_range]
      rw [List.length_range, Int.toNat_natCast] at hi
      intro s1 H1 C cl fp
      refine wg_name 1 ?_ sc_rotations.nd
      intro s1 H1 C cl fp
      refine we_add ?_
      refine we_slice (we_im 0 rfl (wp_some (we_im 1 rfl ⟨_, rfl, wp_none ?_⟩)))
      refine ⟨_, _, rfl, .str hn, ?_⟩
      refine we_slice (we_im 0 rfl (wp_none (wp_some (we_im 1 rfl ⟨_, rfl, ?_⟩))))
      refine ⟨_, _, rfl, .str hn, ?_⟩
      rw [cutL_from, cutL_to]
      refine ⟨_, _, rfl, rfl, _, .str (by rw [List.length_drop, List.length_take]; omega), ?_⟩
      refine ⟨_, rfl, rfl, rfl, ?_, rfl⟩
      rw [ha, List.range_succ, List.map_append] <;> rfl
    · rintro acc om ⟨ha, hm⟩
      refine ⟨_, rfl, ?_⟩
      refine ret_im ?_
      rw [ha, List.length_map, List.length_range, Int.toNat_natCast]
      have e2 : max 1 l.length = l.length := by omega
      have q := h1 z
      unfold lsts rots at q
      rw [e2, List.map_map] at q
      exact q
def LeastR (l m : List Nat) : Prop := Least skey (rots l) m
def PLeastR (ca : Nat → Addr) : List D → (D → Prop) → Pz → Prop := fun ds R Xe => ∃ l : List Nat, ds = [.str l] ∧ (okw LT l ∧ l.length ≤ 60) ∧ ∀ m, LeastR l m → R (.str m)
theorem skey_depth (l : List Nat) : (skey l).py.depth ≤ 40 := by
  rw [skey_py]
  have h : ∀ xs : List Int, PyData.depthAll (xs.map PyData.int) ≤ 1 := fun xs => by
    induction xs with
    | nil => decide
    | cons x xs ih =>
      rw [List.map_cons, PyData.depthAll]
      simp only [PyData.depth]
      omega
  have := h (l.map fun c => ((rk c : Nat) : Int))
  simp only [PyData.depth, PyData.depthAll, rints]
  omega
def unstr : D → List Nat
  | .str l => l
  | _ => []
theorem ok_least_rotation (T : Tx K mg ad ca fm) : FnOk P w K mg base (L2.CX P w) 7 (ad i_least_rotation) (fm i_least_rotation) ["word"] (spF K 1 (PLeastR ca)) := by
  refine fn_F T.F_least_rotation sc_least_rotation 0 fun cdv A outer s H E hr ds R Xe hl hP => ?_
  obtain ⟨l, rfl, ho, h1⟩ := hP
  refine wb_cons (ws_ret ?_)
  refine we_minK (ok_shortlex_key T) (hr.mono (by decide)) T.n_min T.g_shortlex_key T.b_shortlex_key ?_
  refine we_call (ok_rotations T) (hr.mono (by decide)) T.g_rotations T.k_rotations T.b_rotations ?_
  refine wl_cons (we_im 0 rfl (wl_nil ⟨_, im1, rfl, ?_⟩))
  refine ⟨_, rfl, by omega, fun _ => ?_, fun z => absurd ho z⟩
  refine ⟨(rots l).map D.str, fun d => skey (unstr d), rfl, by rw [List.length_map]; exact rots_ne l, fun d hd => ?_, fun d _ d' _ => skey_alike _ _, fun d => ⟨by rw [skey_py]; exact fun z => PyData.noConfusion z, skey_depth _⟩, fun d hd => ?_⟩
  · obtain ⟨x, hx, rfl⟩ := List.mem_map.mp hd
    exact ⟨x, rfl, by have := rots_len hx; omega, rots_ok ho.1 hx, rfl⟩
  · obtain ⟨m, hm, rfl⟩ := least_best (kd := fun d => skey (unstr d)) (ka := skey) (f := D.str) (xs := rots l) (fun x hx => rfl) hd
    exact ret_im (h1 m hm)
def PConj (ca : Nat → Addr) : List D → (D → Prop) → Pz → Prop := fun ds R Xe => ∃ l b : List Nat, ds = [.str l, .str b] ∧ l.length ≤ 30000 ∧ b.length ≤ 30000 ∧
  ((okw LT l ∧ l.length ≤ 60) ∧ (okw LT b ∧ b.length ≤ 60) → R (.str (cut (trn b ++ l ++ b)))) ∧ (¬ ((okw LT l ∧ l.length ≤ 60) ∧ (okw LT b ∧ b.length ≤ 60)) → Xe (.ref (ca iNotWord)) [])
theorem app_ok {zs a b : List Nat} (ha : okw zs a) (hb : okw zs b) : okw zs (a ++ b) := fun c hc => (List.mem_append.mp hc).elim (ha c) (hb c)
theorem ok_conjugated (T : Tx K mg ad ca fm) : FnOk P w K mg base (L2.CX P w) 5 (ad i_conjugated) (fm i_conjugated) ["word", "by"] (spF K 2 (PConj ca)) := by
  refine fn_F T.F_conjugated sc_conjugated 0 fun cdv A outer s H E hr ds R Xe hl hP => ?_
  obtain ⟨l, b, rfl, hn, hnb, h1, h2⟩ := hP
  refine wb_cons (ws_expr ?_)
  refine we_call (ok_check_word T) (hr.mono (by decide)) T.g_check_word T.k_check_word T.b_check_word ?_
  refine wl_cons (we_gint T.c_GENERATORS (wl_cons (we_im 0 rfl (wl_nil ⟨_, im2, rfl, ?_⟩))))
  refine ⟨_, _, rfl, by omega, fun h => absurd (by decide) h, fun _ => ⟨fun z => ?_, fun z => h2 fun y => z y.1⟩⟩
  refine wb_cons (ws_expr ?_)
  refine we_call (ok_check_word T) (hr.mono (by decide)) T.g_check_word T.k_check_word T.b_check_word ?_
  refine wl_cons (we_gint T.c_GENERATORS (wl_cons (we_im 1 rfl (wl_nil ⟨_, im2, rfl, ?_⟩))))
  refine ⟨_, _, rfl, by omega, fun h => absurd (by decide) h, fun _ => ⟨fun z2 => ?_, fun z => h2 fun y => z y.2⟩⟩
  have z' : okw LT l ∧ l.length ≤ 60 := z
  have z2' : okw LT b ∧ b.length ≤ 60 := z2
  refine wb_cons (ws_ret ?_)
  refine we_call (ok_cut_down T) (hr.mono (by decide)) T.g_cut_down T.k_cut_down T.b_cut_down ?_
  refine wl_cons ?_
  refine we_add ?_
  refine we_add ?_
  refine we_call (ok_turned T) (hr.mono (by decide)) T.g_turned T.k_turned T.b_turned ?_
  refine wl_cons (we_im 1 rfl (wl_nil ⟨_, im1, rfl, ?_⟩))
  refine ⟨_, rfl, by omega, z2'.1, ?_⟩
  refine we_im 0 rfl ?_
  refine ⟨_, _, rfl, rfl, _, .str (by rw [trn_len]; omega), ?_⟩
  refine we_im 1 rfl ?_
  refine ⟨_, _, rfl, rfl, _, .str (by rw [List.length_append, trn_len]; omega), ?_⟩
  refine wl_nil ⟨_, im1, rfl, ?_⟩
  refine ⟨_, rfl, by rw [List.length_append, List.length_append, trn_len]; omega, app_ok (app_ok (trn_ok z2'.1) z'.1) z2'.1, ret_im (h1 ⟨z', z2'⟩)⟩
def cls (l m : List Nat) : Prop := LeastR (core (cut l)) m
def PClass (ca : Nat → Addr) : List D → (D → Prop) → Pz → Prop := fun ds R Xe => ∃ l : List Nat, ds = [.str l] ∧ l.length ≤ 100000 ∧ (okw LT l ∧ l.length ≤ 60 → ∀ m, cls l m → R (.str m)) ∧ (¬ (okw LT l ∧ l.length ≤ 60) → Xe (.ref (ca iNotWord)) [])
theorem ok_class_word (T : Tx K mg ad ca fm) : FnOk P w K mg base (L2.CX P w) 8 (ad i_class_word) (fm i_class_word) ["word"] (spF K 1 (PClass ca)) := by
  refine fn_F T.F_class_word sc_class_word 0 fun cdv A outer s H E hr ds R Xe hl hP => ?_
  obtain ⟨l, rfl, hn, h1, h2⟩ := hP
  refine wb_cons (ws_ret ?_)
  refine we_call (ok_least_rotation T) (hr.mono (by decide)) T.g_least_rotation T.k_least_rotation T.b_least_rotation ?_
  refine wl_cons ?_
  refine we_ix ?_
  refine we_call (ok_core_of T) (hr.mono (by decide)) T.g_core_of T.k_core_of T.b_core_of ?_
  refine wl_cons (we_im 0 rfl (wl_nil ⟨_, im1, rfl, ?_⟩))
  refine ⟨_, rfl, hn, fun z => ?_, fun z => h2 z⟩
  refine we_int ?_
  refine ⟨_, _, rfl, rfl, _, .tup (at_ofL 1 rfl rfl), ?_⟩
  refine wl_nil ⟨_, im1, rfl, ?_⟩
  exact ⟨_, rfl, ⟨core_ok (cut_ok z.1), by have := core_len (cut l); have := cut_len l; omega⟩, fun m hm => ret_im (h1 z m hm)⟩
def PFree (ca : Nat → Addr) : List D → (D → Prop) → Pz → Prop := fun ds R Xe => ∃ l b : List Nat, ds = [.str l, .str b] ∧ l.length ≤ 100000 ∧ b.length ≤ 100000 ∧
  ((okw LT l ∧ l.length ≤ 60) ∧ (okw LT b ∧ b.length ≤ 60) → ∀ m n, cls l m → cls b n → R (.bl (decide (m = n)))) ∧ (¬ ((okw LT l ∧ l.length ≤ 60) ∧ (okw LT b ∧ b.length ≤ 60)) → Xe (.ref (ca iNotWord)) [])
theorem ok_free_conjugate (T : Tx K mg ad ca fm) : FnOk P w K mg base (L2.CX P w) 9 (ad i_free_conjugate) (fm i_free_conjugate) ["one", "other"] (spF K 2 (PFree ca)) := by
  refine fn_F T.F_free_conjugate sc_free_conjugate 0 fun cdv A outer s H E hr ds R Xe hl hP => ?_
  obtain ⟨l, b, rfl, hn, hnb, h1, h2⟩ := hP
  refine wb_cons (ws_ret ?_)
  refine we_cmp hr ?_
  refine we_call (ok_class_word T) (hr.mono (by decide)) T.g_class_word T.k_class_word T.b_class_word ?_
  refine wl_cons (we_im 0 rfl (wl_nil ⟨_, im1, rfl, ?_⟩))
  refine ⟨_, rfl, hn, fun z m hm => ?_, fun z => h2 fun y => z y.1⟩
  refine we_call (ok_class_word T) (hr.mono (by decide)) T.g_class_word T.k_class_word T.b_class_word ?_
  refine wl_cons (we_im 1 rfl (wl_nil ⟨_, im1, rfl, ?_⟩))
  refine ⟨_, rfl, hnb, fun z2 n hn2 => ?_, fun z => h2 fun y => z y.2⟩
  walk_at "cmp"
  exact ret_im (h1 ⟨z, z2⟩ m n hm hn2)
/-- free_conjugator: the first place of the other core among the rotations -/
def fstem (l : List Nat) : List Nat := (cut l).take (prt (cut l))
def fcon (l b : List Nat) (i : Nat) : List Nat := cut (fstem l ++ (core (cut l)).take i ++ trn (fstem b))
def PFcon (ca : Nat → Addr) : List D → (D → Prop) → Pz → Prop := fun ds R Xe => ∃ l b : List Nat, ds = [.str l, .str b] ∧ l.length ≤ 30000 ∧ b.length ≤ 30000 ∧
  ((okw LT l ∧ l.length ≤ 60) ∧ (okw LT b ∧ b.length ≤ 60) → (∀ i, (rots (core (cut l)))[i]? = some (core (cut b)) → (∀ j, j < i → (rots (core (cut l)))[j]? ≠ some (core (cut b))) → R (.str (fcon l b i))) ∧ (core (cut b) ∉ rots (core (cut l)) → R .non)) ∧ (¬ ((okw LT l ∧ l.length ≤ 60) ∧ (okw LT b ∧ b.length ≤ 60)) → Xe (.ref (ca iNotWord)) [])
theorem ok_free_conjugator (T : Tx K mg ad ca fm) : FnOk P w K mg base (L2.CX P w) 8 (ad i_free_conjugator) (fm i_free_conjugator) ["one", "other"] (spF K 2 (PFcon ca)) := by
  refine fn_F T.F_free_conjugator sc_free_conjugator 0 fun cdv A outer s H E hr ds R Xe hl hP => ?_
  obtain ⟨l, b, rfl, hn, hnb, h1, h2⟩ := hP
  refine wb_cons (ws_asg ?_)
  refine we_call (ok_core_of T) (hr.mono (by decide)) T.g_core_of T.k_core_of T.b_core_of ?_
  refine wl_cons (we_im 0 rfl (wl_nil ⟨_, im1, rfl, ?_⟩))
  refine ⟨_, rfl, by omega, fun z => ?_, fun z => h2 fun y => z y.1⟩
  refine ⟨_, rfl, ?_⟩
  refine wg_pair (wg_name 2 (wg_name 3 ?_ sc_free_conjugator.nd) sc_free_conjugator.nd)
  refine wb_cons (ws_asg ?_)
  refine we_call (ok_core_of T) (hr.mono (by decide)) T.g_core_of T.k_core_of T.b_core_of ?_
  refine wl_cons (we_im 1 rfl (wl_nil ⟨_, im1, rfl, ?_⟩))
  refine ⟨_, rfl, by omega, fun z2 => ?_, fun z => h2 fun y => z y.2⟩
  refine ⟨_, rfl, ?_⟩
  refine wg_pair (wg_name 4 (wg_name 5 ?_ sc_free_conjugator.nd) sc_free_conjugator.nd)
  obtain ⟨h3, h4⟩ := h1 ⟨z, z2⟩
  have c1 := core_len (cut l)
  have c2 := cut_len l
  have c3 := cut_len b
  have cok := core_ok (cut_ok z.1)
  have fs1 : okw LT (fstem l) := fun x hx => cut_ok z.1 x (List.mem_of_mem_take hx)
  have fs2 : okw LT (fstem b) := fun x hx => cut_ok z2.1 x (List.mem_of_mem_take hx)
  have fl1 : (fstem l).length ≤ 60 := by unfold fstem; rw [List.length_take]; omega
  have fl2 : (fstem b).length ≤ 60 := by unfold fstem; rw [List.length_take]; omega
  refine wb_cons (ws_for ?_)
  refine wi_enum T.n_enumerate ?_
  refine we_call (ok_rotations T) (hr.mono (by decide)) T.g_rotations T.k_rotations T.b_rotations ?_
  refine wl_cons (we_im 3 rfl (wl_nil ⟨_, im1, rfl, ?_⟩))
  refine ⟨_, rfl, by omega, fun _ => ?_, fun y => absurd ⟨cok, by omega⟩ y⟩
  refine ⟨_, rfl, ?_⟩
  refine ⟨fun i G => Le G ⟨[.un, .un, .im (.str (fstem l)), .im (.str (core (cut l))), .im (.str (fstem b)), .im (.str (core (cut b))), .un, .un], [], 0⟩ ∧ ∀ j, j < i → (rots (core (cut l)))[j]? ≠ some (core (cut b)), ⟨⟨rfl, ⟨.inl rfl, .inl rfl, .inr rfl, .inr rfl, .inr rfl, .inr rfl, .inl rfl, .inl rfl, trivial⟩, LeO.refl _⟩, fun j hj => absurd hj (by omega)⟩, ?_, ?_⟩
  · intro i d G hd ⟨hI, hno⟩
    rw [List.getElem?_map, List.getElem?_zipIdx, List.getElem?_map] at hd
    obtain ⟨p, hp, rfl⟩ := Option.map_eq_some_iff.mp hd
    obtain ⟨q, hq, rfl⟩ := Option.map_eq_some_iff.mp hp
    obtain ⟨x, hx, rfl⟩ := Option.map_eq_some_iff.mp hq
    simp only [Nat.zero_add]
    refine wg_le hI ?_
    refine wg_pair (wg_name 6 (wg_name 7 ?_ sc_free_conjugator.nd) sc_free_conjugator.nd)
    refine wb_cons (ws_if ?_)
    refine wt_cmp hr (we_im 7 rfl (we_im 5 rfl ?_))
    walk_at "cmp"
    refine ⟨fun c => ?_, fun c => ?_⟩
    · have c' : x = core (cut b) := of_decide_eq_true c
      refine wb_cons (ws_ret ?_)
      refine we_call (ok_cut_down T) (hr.mono (by decide)) T.g_cut_down T.k_cut_down T.b_cut_down ?_
      refine wl_cons ?_
      refine we_add ?_
      refine we_add ?_
      refine we_im 2 rfl ?_
      refine we_slice (we_im 3 rfl (wp_none (wp_some (we_im 6 rfl ⟨_, rfl, ?_⟩))))
      refine ⟨_, _, rfl, .str (by omega), ?_⟩
      rw [cutL_to]
      refine ⟨_, _, rfl, rfl, _, .str (by rw [List.length_take]; omega), ?_⟩
      refine we_call (ok_turned T) (hr.mono (by decide)) T.g_turned T.k_turned T.b_turned ?_
      refine wl_cons (we_im 4 rfl (wl_nil ⟨_, im1, rfl, ?_⟩))
      refine ⟨_, rfl, by omega, fs2, ?_⟩
      refine ⟨_, _, rfl, rfl, _, .str (by rw [List.length_append, List.length_take, trn_len]; omega), ?_⟩
      refine wl_nil ⟨_, im1, rfl, ?_⟩
      refine ⟨_, rfl, by rw [List.length_append, List.length_append, List.length_take, trn_len]; omega, app_ok (app_ok fs1 fun y hy => cok y (List.mem_of_mem_take hy)) (trn_ok fs2), ret_im (h3 i ?_ hno)⟩
      rw [hx, c']
    · have c' : ¬ x = core (cut b) := of_decide_eq_false c
      refine wb_nil (wb_nil ?_)
      refine ⟨⟨rfl, ⟨.inl rfl, .inl rfl, .inr rfl, .inr rfl, .inr rfl, .inr rfl, .inl rfl, .inl rfl, trivial⟩, LeO.refl _⟩, fun j hj => ?_⟩
      by_cases e : j = i
      · subst e
        rw [hx]
        exact fun y => c' (Option.some.inj y)
      · exact hno j (by omega)
  · intro G ⟨hI, hno⟩
    refine wb_le hI ?_
    refine wb_cons (ws_ret (we_non (ret_im (h4 fun hm => ?_))))
    obtain ⟨j, hj, ej⟩ := List.getElem_of_mem hm
    refine hno j (by simpa using hj) ?_
    rw [List.getElem?_eq_getElem hj, ej]
end
end Tx

namespace Tx
open PySem PySem.Spec PyProof.Rows L2 DL
/-! ### the draws -/
theorem drw_snoc (ns : List Int) (x : Int) : Oc.li (ns.map D.int ++ [D.int x]) = drw (ns ++ [x]) := by
  unfold drw
  rw [List.map_append] <;> rfl
section
variable {P : Program} {w : World} {K : PySem.W.Frag} {mg : Str → Option Value} {base : Heap} {ad ca : Nat → Addr} {fm : Nat → FuncData}
def PNumber : List D → (D → Prop) → Pz → Prop := fun ds R _ => ∃ z : Int, ds = [.int z] ∧ ∀ m : Int, 0 ≤ m → R (.int m)
theorem ok__law_number (T : Tx K mg ad ca fm) : FnOk P w K mg base (L2.CX P w) 1 (ad i__law_number) (fm i__law_number) ["_law_cell"] (spF K 1 PNumber) := by
  refine fn_F T.F__law_number sc__law_number 0 fun cdv A outer s H E hr ds R Xe hl hP => ?_
  obtain ⟨z, rfl, h1⟩ := hP
  refine wb_cons (ws_if ?_)
  refine wt_cmp hr (we_im 0 rfl (we_int ?_))
  refine ⟨_, _, rfl, rfl, _, .lt _ _, ?_⟩
  refine ⟨fun c => ?_, fun c => ?_⟩
  · refine wb_cons (ws_ret (we_sub (we_int (we_im 0 rfl ?_))))
    refine ⟨_, _, rfl, rfl, _, _, rfl, rfl, ?_⟩
    have := of_decide_eq_true c
    exact ret_im (h1 _ (by omega))
  · refine wb_nil (wb_cons (ws_ret (we_im 0 rfl (ret_im (h1 _ ?_)))))
    have := of_decide_eq_false c
    omega
def PDraws : List D → (Oc → Prop) → Prop := fun ds R => ∃ zs : List Int, ds = [.scr zs] ∧ zs.length ≤ 63 ∧ ∀ ns, R (drw ns)
theorem ok__law_draws (T : Tx K mg ad ca fm) : FnOk P w K mg base (L2.CX P w) 2 (ad i__law_draws) (fm i__law_draws) ["_law_script"] (spN K 1 PDraws) := by
  refine fn_N T.F__law_draws sc__law_draws 1 fun cdv A outer s H E hr ds R hl hP => ?_
  obtain ⟨zs, rfl, hz, h1⟩ := hP
  refine wb_cons (ws_own 1 0 ?_ sc__law_draws.nd)
  refine wef_lst0 ?_
  refine ⟨Nat.le_of_ble_eq_true rfl, Nat.le_of_ble_eq_true rfl, rfl, ?_⟩
  refine wb_cons (ws_set 2 (we_int ?_) sc__law_draws.nd)
  refine wb_cons (ws_for ?_)
  refine wi_scr (we_im 0 rfl ⟨_, rfl, ?_⟩)
  refine ⟨fun i G => ∃ (ns : List Int) (sd : Int), ns.length ≤ 60 * i ∧ Le G ⟨[.im (.scr zs), .ow 0, .im (.int sd), .un, .un, .un, .un, .un], [drw ns], 0⟩, ⟨[], 7, by simp, by walk_at "le"⟩, ?_, ?_⟩
  · rintro i d G hd ⟨ns, sd, hns, hI⟩
    have hi63 : i < 63 := by
      have := (List.getElem?_eq_some_iff.mp hd).1
      rw [List.length_map] at this
      omega
    rw [List.getElem?_map] at hd
    obtain ⟨z, hzz, rfl⟩ := Option.map_eq_some_iff.mp hd
    refine wg_le hI ?_
    refine wg_name 3 ?_ sc__law_draws.nd
    refine wb_cons (ws_set 4 ?_ sc__law_draws.nd)
    refine we_call (ok__law_number T) (hr.mono (by decide)) T.g__law_number T.k__law_number T.b__law_number ?_
    refine wl_cons (we_im 3 rfl (wl_nil ⟨_, im1, rfl, ?_⟩))
    refine ⟨_, rfl, fun m hm => ?_⟩
    refine wb_cons (ws_set 2 ?_ sc__law_draws.nd)
    refine we_mod ?_
    refine we_toint T.n_int ?_
    refine we_add ?_
    refine we_mul (we_im 2 rfl (we_int ?_))
    refine ⟨_, _, rfl, rfl, _, _, rfl, rfl, .inr (by decide), ?_⟩
    refine we_im 4 rfl ?_
    walk_at "add"
    refine ⟨_, rfl, ?_⟩
    refine we_int ?_
    refine ⟨_, _, rfl, rfl, _, _, rfl, rfl, (by decide), ?_⟩
    refine wb_cons (ws_if ?_)
    refine wt_cmp hr (we_im 4 rfl (we_int ?_))
    refine ⟨_, _, rfl, rfl, _, .ge _ _, ?_⟩
    refine ⟨fun c => ?_, fun c => ?_⟩
    · refine wb_cons (ws_for ?_)
      refine wi_rng1 T.n_range (we_int ?_)
      refine ⟨_, rfl, by decide, by decide, ?_⟩
      refine ⟨fun i2 G => ∃ (ns2 : List Int) (rs : Int), ns2.length ≤ ns.length + i2 ∧ Le G ⟨[.im (.scr zs), .ow 0, .im (.int ((sd * 48271 + m) % 2147483647)), .un, .im (.int rs), .un, .un, .un], [drw ns2], 0⟩, ⟨ns, m, by omega, by walk_at "le"⟩, ?_, ?_⟩
      · rintro i2 d2 G2 hd2 ⟨ns2, rs, hns2, hI2⟩
        have hi2 : i2 < 60 := by
          have := (List.getElem?_eq_some_iff.mp hd2).1
          simpa using this
        refine wg_le hI2 ?_
        refine wg_name 5 ?_ sc__law_draws.nd
        refine wb_cons (ws_if ?_)
        refine wt_cmp hr (we_im 4 rfl (we_int ?_))
        walk_at "cmp"
        refine ⟨fun c => ?_, fun c => ?_⟩
        · refine wb_cons (ws_break ?_)
          refine wb_nil (wb_nil ?_)
          exact ⟨ns2, _, by omega, by walk_at "le"⟩
        · refine wb_nil ?_
          refine wb_cons (ws_expr ?_)
          refine we_append (we_ow 1 rfl ⟨_, rfl, ⟨_, rfl⟩, ?_⟩)
          refine we_mod ?_
          refine we_toint T.n_int (we_im 4 rfl ⟨_, rfl, ?_⟩)
          refine we_int ?_
          refine ⟨_, _, rfl, rfl, _, _, rfl, rfl, (by decide), ?_⟩
          refine ⟨_, _, rfl, rfl, by rw [List.length_map]; omega, ?_⟩
          refine wb_cons (ws_set 4 ?_ sc__law_draws.nd)
          refine we_fdiv (we_im 4 rfl (we_int ?_))
          refine ⟨_, _, rfl, rfl, _, _, rfl, rfl, (by decide), ?_⟩
          refine wb_nil ?_
          refine ⟨ns2 ++ [rs % 1000], _, by rw [List.length_append, List.length_singleton]; omega, rfl, by walk_at "leS", ?_⟩
          rw [← drw_snoc]
          exact LeO.refl _
      · rintro G2 ⟨ns2, rs, hns2, hI2⟩
        simp only [List.length_map, List.length_range] at hns2
        refine wb_le hI2 (wb_nil (wb_nil ?_))
        exact ⟨ns2, _, by omega, by walk_at "le"⟩
    · refine wb_cons (ws_set 6 ?_ sc__law_draws.nd)
      refine we_mod ?_
      refine we_toint T.n_int ?_
      refine we_add ?_
      refine we_mul (we_im 4 rfl (we_int ?_))
      refine ⟨_, _, rfl, rfl, _, _, rfl, rfl, .inr (by decide), ?_⟩
      refine we_int ?_
      walk_at "add"
      refine ⟨_, rfl, ?_⟩
      refine we_int ?_
      refine ⟨_, _, rfl, rfl, _, _, rfl, rfl, (by decide), ?_⟩
      refine wb_cons (ws_set 7 ?_ sc__law_draws.nd)
      refine we_mod ?_
      refine we_toint T.n_int ?_
      refine we_add ?_
      refine we_mul (we_im 6 rfl (we_int ?_))
      refine ⟨_, _, rfl, rfl, _, _, rfl, rfl, .inr (by decide), ?_⟩
      refine we_im 4 rfl ?_
      walk_at "add"
      refine ⟨_, rfl, ?_⟩
      refine we_int ?_
      refine ⟨_, _, rfl, rfl, _, _, rfl, rfl, (by decide), ?_⟩
      refine wb_cons (ws_expr ?_)
      refine we_extend (we_ow 1 rfl ⟨_, rfl, ⟨_, rfl⟩, ?_⟩)
      refine we_lst ?_
      refine wl_cons ?_
      refine we_mod ?_
      refine we_toint T.n_int (we_im 4 rfl ⟨_, rfl, ?_⟩)
      refine we_int ?_
      refine ⟨_, _, rfl, rfl, _, _, rfl, rfl, (by decide), ?_⟩
      refine wl_cons ?_
      refine we_mod ?_
      refine we_toint T.n_int (we_im 6 rfl ⟨_, rfl, ?_⟩)
      refine we_int ?_
      refine ⟨_, _, rfl, rfl, _, _, rfl, rfl, (by decide), ?_⟩
      refine wl_cons ?_
      refine we_mod ?_
      refine we_toint T.n_int (we_im 7 rfl ⟨_, rfl, ?_⟩)
      refine we_int ?_
      refine ⟨_, _, rfl, rfl, _, _, rfl, rfl, (by decide), ?_⟩
      refine wl_nil ⟨_, im3, Nat.le_of_ble_eq_true rfl, ?_⟩
      refine ⟨_, _, rfl, rfl, by rw [List.length_map]; show ns.length + 3 ≤ _; omega, ?_⟩
      refine wb_nil (wb_nil ?_)
      refine ⟨ns ++ [m % 1000, (m * 48271 + 11) % 2147483647 % 1000, ((m * 48271 + 11) % 2147483647 * 69621 + m) % 2147483629 % 1000], _, by rw [List.length_append]; show ns.length + 3 ≤ _; omega, rfl, by walk_at "leS", ?_⟩
      unfold drw
      rw [List.map_append]
      exact LeO.refl _
  · rintro G ⟨ns, sd, hns, hI⟩
    rw [List.length_map] at hns
    refine wb_le hI ?_
    refine wb_cons (ws_for ?_)
    refine wi_rng1 T.n_range (we_int ?_)
    refine ⟨_, rfl, by decide, by decide, ?_⟩
    refine ⟨fun i2 G => ∃ (ns2 : List Int) (sd2 : Int), ns2.length ≤ ns.length + i2 ∧ Le G ⟨[.im (.scr zs), .ow 0, .im (.int sd2), .un, .un, .un, .un, .un], [drw ns2], 0⟩, ⟨ns, sd, by omega, by walk_at "le"⟩, ?_, ?_⟩
    · rintro i2 d2 G2 hd2 ⟨ns2, sd2, hns2, hI2⟩
      have hi2 : i2 < 200 := by
        have := (List.getElem?_eq_some_iff.mp hd2).1
        simpa using this
      refine wg_le hI2 ?_
      refine wg_name 5 ?_ sc__law_draws.nd
      refine wb_cons (ws_set 2 ?_ sc__law_draws.nd)
      refine we_mod ?_
      refine we_toint T.n_int ?_
      refine we_add ?_
      refine we_mul (we_im 2 rfl (we_int ?_))
      refine ⟨_, _, rfl, rfl, _, _, rfl, rfl, .inr (by decide), ?_⟩
      refine we_int ?_
      walk_at "add"
      refine ⟨_, rfl, ?_⟩
      refine we_int ?_
      refine ⟨_, _, rfl, rfl, _, _, rfl, rfl, (by decide), ?_⟩
      refine wb_cons (ws_expr ?_)
      refine we_append (we_ow 1 rfl ⟨_, rfl, ⟨_, rfl⟩, ?_⟩)
      refine we_mod ?_
      refine we_toint T.n_int ?_
      refine we_fdiv (we_im 2 rfl (we_int ?_))
      refine ⟨_, _, rfl, rfl, _, _, rfl, rfl, (by decide), ?_⟩
      refine ⟨_, rfl, ?_⟩
      refine we_int ?_
      refine ⟨_, _, rfl, rfl, _, _, rfl, rfl, (by decide), ?_⟩
      refine ⟨_, _, rfl, rfl, by rw [List.length_map]; omega, ?_⟩
      refine wb_nil ?_
      refine ⟨ns2 ++ [(sd2 * 48271 + 12345) % 2147483647 / 7 % 1000], _, by rw [List.length_append, List.length_singleton]; omega, rfl, by walk_at "leS", ?_⟩
      rw [← drw_snoc]
      exact LeO.refl _
    · rintro G2 ⟨ns2, sd2, hns2, hI2⟩
      refine wb_le hI2 ?_
      refine wb_cons (ws_expr ?_)
      refine we_reverse (we_ow 1 rfl ⟨_, _, rfl, rfl, ?_⟩)
      refine wb_cons (ws_ret (we_ow 1 rfl ⟨0, rfl, ?_⟩))
      have e : Oc.li (ns2.map D.int).reverse = drw ns2.reverse := by rw [← List.map_reverse]
      show R (Oc.li (ns2.map D.int).reverse)
      rw [e]
      exact h1 _
def PDraw : Oc → List D → (D → Oc → Prop) → Prop := fun c ds R => ∃ ns, c = drw ns ∧ ds = [] ∧ ∀ (n : Int) ns', R (.int n) (drw ns')
theorem ok__law_draw (T : Tx K mg ad ca fm) : FnOk P w K mg base (L2.CX P w) 1 (ad i__law_draw) (fm i__law_draw) ["_law_draws_here"] (spO K 1 PDraw) := by
  refine fn_O T.F__law_draw sc__law_draw 0 fun cdv A outer s H E hr c ds R hl hP => ?_
  obtain ⟨ns, rfl, rfl, h1⟩ := hP
  refine wb_cons (ws_if ?_)
  refine wt_tru (we_ow 0 rfl ⟨_, ⟨_, rfl, rfl⟩, trivial, ?_⟩)
  rcases List.eq_nil_or_concat ns with rfl | ⟨ms, m, rfl⟩
  · refine ⟨fun c => (by cases c), fun c => ?_⟩
    refine wb_nil (wb_cons (ws_ret (we_int (ret_imO (h1 0 [])))))
  · refine ⟨fun c => ?_, fun c => ?_⟩
    · refine wb_cons (ws_ret ?_)
      refine we_pop (we_ow 0 rfl ⟨0, ms.map D.int, D.int m, rfl, ?_, ?_⟩)
      · show drw (ms.concat m) = _
        rw [List.concat_eq_append, ← drw_snoc]
      · exact ret_imO (h1 m ms)
    · exfalso
      rw [List.concat_eq_append] at c
      simp [D.tru] at c
def PPick : Oc → List D → (D → Oc → Prop) → Prop := fun c ds R => ∃ ns m, c = drw ns ∧ ds = [.int m] ∧ 0 < m ∧ ∀ n : Nat, (n : Int) < m → ∀ ns', R (.int n) (drw ns')
theorem ok__law_pick (T : Tx K mg ad ca fm) : FnOk P w K mg base (L2.CX P w) 2 (ad i__law_pick) (fm i__law_pick) ["_law_draws_here", "_law_many"] (spO K 2 PPick) := by
  refine fn_O T.F__law_pick sc__law_pick 0 fun cdv A outer s H E hr c ds R hl hP => ?_
  obtain ⟨ns, m, rfl, rfl, hm, h1⟩ := hP
  refine wb_cons (ws_ret ?_)
  refine we_mod ?_
  refine we_toint T.n_int ?_
  refine we_callO (ok__law_draw T) (hr.mono (by decide)) T.g__law_draw T.k__law_draw T.b__law_draw ?_
  refine wl_cons (we_ow 0 rfl (wl_nil ⟨0, _, _, rfl, im0, rfl, ?_⟩))
  refine ⟨ns, rfl, rfl, fun n ns' => ?_⟩
  refine ⟨_, rfl, ?_⟩
  refine we_im 1 rfl ?_
  refine ⟨_, _, rfl, rfl, _, _, rfl, rfl, hm, ?_⟩
  have e : n % m = ((n % m).toNat : Int) := (Int.toNat_of_nonneg (Int.emod_nonneg _ (by omega))).symm
  rw [e]
  refine ret_imO (h1 _ ?_ ns')
  rw [← e]
  exact Int.emod_lt_of_pos _ hm
end
end Tx

namespace Tx
open DL
/-! ### the free group, in plain words -/
theorem inv_inv {c : Nat} (h : c ∈ LT) : inv (inv c) = c := by
  rcases lt_cases h with rfl | rfl | rfl | rfl | rfl | rfl <;> decide
theorem inv_ne {c : Nat} (h : c ∈ LT) : inv c ≠ c := by
  rcases lt_cases h with rfl | rfl | rfl | rfl | rfl | rfl <;> decide
theorem inv_inj {a b : Nat} (ha : a ∈ LT) (hb : b ∈ LT) (h : inv a = inv b) : a = b := by
  rw [← inv_inv ha, h, inv_inv hb]
def Rd : List Nat → Prop
  | [] => True
  | [_] => True
  | x :: y :: t => y ≠ inv x ∧ Rd (y :: t)
theorem Rd.tail {x : Nat} {t : List Nat} (h : Rd (x :: t)) : Rd t := by
  cases t with
  | nil => trivial
  | cons y t => exact h.2
theorem stp_eq {x c : Nat} {t : List Nat} (h : x = inv c) : stp (x :: t) c = t := if_pos h
theorem stp_ne {x c : Nat} {t : List Nat} (h : ¬ x = inv c) : stp (x :: t) c = c :: x :: t := if_neg h
theorem stp_rd {st : List Nat} {c : Nat} (h : Rd st) : Rd (stp st c) := by
  cases st with
  | nil => trivial
  | cons x t =>
    by_cases e : x = inv c
    · rw [stp_eq e]; exact h.tail
    · rw [stp_ne e]; exact ⟨e, h⟩
theorem stp_ok {st : List Nat} {c : Nat} (h : okw LT st) (hc : c ∈ LT) : okw LT (stp st c) := fold_ok (l := [c]) (fun b hb => by rw [List.mem_singleton.mp hb]; exact hc) st h
theorem stp_back {st : List Nat} {c : Nat} (h : Rd st) (ho : okw LT st) (hc : c ∈ LT) : stp (stp st c) (inv c) = st := by
  cases st with
  | nil =>
    show stp [c] (inv c) = []
    exact stp_eq (inv_inv hc).symm
  | cons x t =>
    by_cases e : x = inv c
    · rw [stp_eq e]
      cases t with
      | nil => show [inv c] = [x]; rw [e]
      | cons y t =>
        rw [stp_ne (by rw [inv_inv hc]; intro z; exact h.1 (by rw [e, inv_inv hc]; exact z)), e]
    · rw [stp_ne e, stp_eq (inv_inv hc).symm]
theorem fold_rd : ∀ (l : List Nat) {st : List Nat}, Rd st → Rd (l.foldl stp st)
  | [], _, h => h
  | c :: l, _, h => fold_rd l (stp_rd h)
theorem cut_snoc (v : List Nat) (c : Nat) : cut (v ++ [c]) = (stp (v.foldl stp []) c).reverse := by
  unfold cut
  rw [List.foldl_append] <;> rfl
theorem okw_app {a b : List Nat} : okw LT (a ++ b) ↔ okw LT a ∧ okw LT b := ⟨fun h => ⟨fun c hc => h c (List.mem_append_left _ hc), fun c hc => h c (List.mem_append_right _ hc)⟩, fun h => app_ok h.1 h.2⟩
theorem okw_one {c : Nat} : okw LT [c] ↔ c ∈ LT := ⟨fun h => h c (List.mem_singleton.mpr rfl), fun h b hb => by rw [List.mem_singleton.mp hb]; exact h⟩
theorem fold_cut : ∀ (n : Nat) (v : List Nat), v.length = n → okw LT v → ∀ {st : List Nat}, Rd st → okw LT st → v.foldl stp st = (cut v).foldl stp st
  | 0, v, hn, _, st, _, _ => by
    rw [List.length_eq_zero_iff.mp hn] <;> rfl
  | n + 1, v, hn, hv, st, hs, ho => by
    obtain ⟨u, c, rfl⟩ : ∃ u c, v = u ++ [c] := by
      rcases List.eq_nil_or_concat v with e | ⟨u, c, e⟩
      · rw [e] at hn; cases hn
      · exact ⟨u, c, by rw [e, List.concat_eq_append]⟩
    have hu : u.length = n := by simpa using hn
    obtain ⟨h1, h2⟩ := okw_app.mp hv
    have hc := okw_one.mp h2
    have ih := fold_cut n u hu h1 hs ho
    rw [List.foldl_append, ih, cut_snoc]
    have e0 : cut u = (u.foldl stp []).reverse := rfl
    have o0 := fold_ok h1 [] (fun _ z => (by cases z))
    rw [e0]
    generalize u.foldl stp [] = r at o0 ⊢
    show stp _ c = _
    cases r with
    | nil => rfl
    | cons x t =>
      by_cases e : x = inv c
      · have ox : okw LT t.reverse := fun b hb => o0 b (List.mem_cons_of_mem _ (List.mem_reverse.mp hb))
        rw [stp_eq e, List.reverse_cons, List.foldl_append]
        show stp (stp (t.reverse.foldl stp st) x) c = _
        have := stp_back (st := t.reverse.foldl stp st) (c := inv c) (fold_rd _ hs) (fold_ok ox _ ho) (inv_lt hc)
        rw [inv_inv hc] at this
        rw [e, this]
      · rw [stp_ne e, List.reverse_cons (a := c), List.foldl_append] <;> rfl
theorem cut_app {u v : List Nat} (hu : okw LT u) (hv : okw LT v) : cut (u ++ v) = cut (cut u ++ v) := by
  show (List.foldl stp [] (u ++ v)).reverse = (List.foldl stp [] (cut u ++ v)).reverse
  rw [List.foldl_append, List.foldl_append, fold_cut _ u rfl hu (st := []) trivial (fun _ z => (by cases z))]
theorem cut_app2 {u v : List Nat} (hu : okw LT u) (hv : okw LT v) : cut (u ++ v) = cut (u ++ cut v) := by
  show (List.foldl stp [] (u ++ v)).reverse = (List.foldl stp [] (u ++ cut v)).reverse
  rw [List.foldl_append, List.foldl_append, fold_cut _ v rfl hv (fold_rd u (st := []) trivial) (fold_ok hu [] fun _ z => (by cases z))]
theorem cut_cut {u : List Nat} (hu : okw LT u) : cut (cut u) = cut u := by
  have := cut_app2 (u := []) (fun _ z => (by cases z)) hu
  exact this.symm
/-- in word order -/
def Rw (w : List Nat) : Prop := Rd w.reverse
theorem fold_rw : ∀ (w : List Nat) (st : List Nat), Rd (w.reverse ++ st) → w.foldl stp st = w.reverse ++ st
  | [], st, _ => rfl
  | c :: w, st, h => by
    rw [List.reverse_cons, List.append_assoc] at h
    have e : stp st c = c :: st := by
      have h2 : Rd (c :: st) := by
        have : ∀ (a b : List Nat), Rd (a ++ b) → Rd b := fun a => by
          induction a with
          | nil => exact fun b h => h
          | cons x a ih => exact fun b h => ih b h.tail
        exact this _ _ h
      cases st with
      | nil => rfl
      | cons x t => exact stp_ne h2.1
    rw [List.foldl_cons, e, fold_rw w (c :: st) h, List.reverse_cons, List.append_assoc] <;> rfl
theorem cut_rw {w : List Nat} (h : Rw w) : cut w = w := by
  unfold cut
  rw [fold_rw w [] (by rw [List.append_nil]; exact h), List.append_nil, List.reverse_reverse]
theorem rw_cut {w : List Nat} : Rw (cut w) := by
  unfold Rw cut
  rw [List.reverse_reverse]
  exact fold_rd _ trivial
theorem rd_append : ∀ {a : List Nat} {x y : Nat} {b : List Nat}, Rd (a ++ [x]) → Rd (y :: b) → y ≠ inv x → Rd (a ++ [x] ++ y :: b)
  | [], x, y, b, _, h2, h3 => ⟨h3, h2⟩
  | [z], x, y, b, h1, h2, h3 => ⟨h1.1, h3, h2⟩
  | z :: z2 :: a, x, y, b, h1, h2, h3 => ⟨h1.1, rd_append (a := z2 :: a) h1.2 h2 h3⟩
theorem rd_split : ∀ {a : List Nat} {x y : Nat} {b : List Nat}, Rd (a ++ x :: y :: b) → y ≠ inv x ∧ Rd (a ++ [x]) ∧ Rd (y :: b)
  | [], x, y, b, h => ⟨h.1, trivial, h.2⟩
  | [z], x, y, b, h => ⟨h.2.1, ⟨h.1, trivial⟩, h.2.2⟩
  | z :: z2 :: a, x, y, b, h => by
    obtain ⟨h1, h2, h3⟩ := rd_split (a := z2 :: a) h.2
    exact ⟨h1, ⟨h.1, h2⟩, h3⟩
/-- two reduced words joined where nothing cancels -/
theorem rw_join {a b : List Nat} {x y : Nat} (h1 : Rw (a ++ [x])) (h2 : Rw (y :: b)) (h3 : x ≠ inv y) : Rw (a ++ [x] ++ y :: b) := by
  unfold Rw at *
  rw [List.reverse_append, List.reverse_append, List.reverse_cons] at *
  exact rd_append h2 h1 h3
theorem rw_split {a b : List Nat} {x y : Nat} (h : Rw (a ++ x :: y :: b)) : x ≠ inv y ∧ Rw (a ++ [x]) ∧ Rw (y :: b) := by
  unfold Rw at *
  rw [List.reverse_append, List.reverse_cons, List.reverse_cons, List.append_assoc, List.append_assoc] at h
  obtain ⟨h1, h2, h3⟩ := rd_split (a := b.reverse) (x := y) (y := x) (b := a.reverse) h
  refine ⟨h1, ?_, ?_⟩
  · rw [List.reverse_append]; exact h3
  · rw [List.reverse_cons]; exact h2
theorem rw_tail {x : Nat} {b : List Nat} (h : Rw (x :: b)) : Rw b := by
  cases b with
  | nil => trivial
  | cons y b => exact (rw_split (a := []) h).2.2
theorem rw_init {x : Nat} {b : List Nat} (h : Rw (b ++ [x])) : Rw b := by
  unfold Rw at *
  rw [List.reverse_append] at h
  exact h.tail
theorem trn_app (a b : List Nat) : trn (a ++ b) = trn b ++ trn a := by simp [trn]
theorem trn_cons (a : Nat) (b : List Nat) : trn (a :: b) = trn b ++ [inv a] := by simp [trn]
theorem trn_trn {b : List Nat} (h : okw LT b) : trn (trn b) = b := by
  induction b with
  | nil => rfl
  | cons c b ih =>
    rw [trn_cons, trn_app, ih fun x hx => h x (List.mem_cons_of_mem _ hx)]
    show [inv (inv c)] ++ b = c :: b
    rw [inv_inv (h c List.mem_cons_self)] <;> rfl
/-- nothing to strip -/
def CR (k : List Nat) : Prop := ∀ a m, k ≠ a :: (m ++ [inv a])
theorem trn_get {s : List Nat} {i : Nat} (h : i < s.length) : (trn s)[s.length - 1 - i]? = (s[i]?).map inv := by
  unfold trn
  rw [List.getElem?_map, List.getElem?_reverse (by omega)]
  congr 2
  omega
theorem psz_go {w s k : List Nat} (ho : okw LT s) (hw : w = s ++ k ++ trn s) : ∀ (d i n : Nat), i + d = s.length → d ≤ n → psz w i n = psz w s.length (n - d)
  | 0, i, n, h, _ => by rw [show i = s.length by omega, Nat.sub_zero]
  | d + 1, i, n, h, hn => by
    obtain ⟨m, rfl⟩ : ∃ m, n = m + 1 := ⟨n - 1, by omega⟩
    have hl : w.length = s.length + k.length + s.length := by rw [hw, List.length_append, List.length_append, trn_len]
    have hi : i < s.length := by omega
    have e1 : w[i]? = s[i]? := by rw [hw, List.append_assoc, List.getElem?_append_left hi]
    have e2 : w[w.length - 1 - i]? = (s[i]?).map inv := by
      rw [hw, List.getElem?_append_right (by rw [List.length_append, ← hw]; omega), ← trn_get hi]
      congr 1
      rw [List.length_append, List.length_append, trn_len]
      omega
    rw [psz_step ⟨by omega, ?_⟩, psz_go ho hw d (i + 1) m (by omega) (by omega)]
    · congr 1
      omega
    · rw [e1, e2, List.getElem?_eq_getElem hi]
      simp only [Option.map_some, Option.some.injEq]
      exact (inv_inv (ho _ (List.getElem_mem hi))).symm
theorem core_eq {w s k : List Nat} (ho : okw LT w) (hw : w = s ++ k ++ trn s) (hk : CR k) : core w = k ∧ prt w = s.length := by
  have hl : w.length = s.length + k.length + s.length := by rw [hw, List.length_append, List.length_append, trn_len]
  have os : okw LT s := by
    rw [hw] at ho
    exact (okw_app.mp (okw_app.mp ho).1).1
  have ok : okw LT k := by
    rw [hw] at ho
    exact (okw_app.mp (okw_app.mp ho).1).2
  have hp : prt w = s.length := by
    unfold prt
    rw [psz_go os hw s.length 0 w.length (by omega) (by omega)]
    refine psz_stop fun ⟨z1, z2⟩ => ?_
    have hk2 : 2 ≤ k.length := by omega
    obtain ⟨a, k', rfl⟩ : ∃ a k', k = a :: k' := by
      cases k with
      | nil => simp at hk2
      | cons a k' => exact ⟨a, k', rfl⟩
    obtain ⟨m, b, rfl⟩ : ∃ m b, k' = m ++ [b] := by
      rcases List.eq_nil_or_concat k' with e | ⟨m, b, e⟩
      · rw [e] at hk2; simp at hk2
      · exact ⟨m, b, by rw [e, List.concat_eq_append]⟩
    have e1 : w[s.length]? = some a := by rw [hw, List.append_assoc, List.getElem?_append_right (Nat.le_refl _), Nat.sub_self] <;> rfl
    have e2 : w[w.length - 1 - s.length]? = some b := by
      have hl2 : w.length - 1 - s.length = s.length + (m.length + 1) := by
        simp only [List.length_cons, List.length_append, List.length_nil] at hl
        omega
      rw [hl2, hw, List.append_assoc, List.getElem?_append_right (by omega), Nat.add_sub_cancel_left]
      show ((a :: (m ++ [b])) ++ trn s)[m.length + 1]? = some b
      simp
    rw [e1, e2] at z2
    have z3 : a = inv b := Option.some.inj z2
    have hb : b ∈ LT := ok b (by simp)
    exact hk a m (by rw [z3, inv_inv hb])
  refine ⟨?_, hp⟩
  unfold core
  rw [hp, hw, List.append_assoc, List.drop_left, ← List.append_assoc, ← hw, show w.length - s.length - s.length = k.length by omega, List.take_left]
theorem decomp : ∀ (n : Nat) (w : List Nat), w.length ≤ n → ∃ s k, w = s ++ k ++ trn s ∧ CR k
  | 0, w, h => ⟨[], w, by simp [trn], fun a m e => by rw [e] at h; simp at h⟩
  | n + 1, w, h => by
    by_cases z : ∃ a m, w = a :: (m ++ [inv a])
    · obtain ⟨a, m, e⟩ := z
      obtain ⟨s, k, h1, h2⟩ := decomp n m (by rw [e] at h; simp at h; omega)
      refine ⟨a :: s, k, ?_, h2⟩
      rw [e, h1, trn_cons]
      simp
    · exact ⟨[], w, by simp [trn], fun a m e => z ⟨a, m, e⟩⟩
theorem core_ex {w : List Nat} (ho : okw LT w) : ∃ s, w = s ++ core w ++ trn s ∧ CR (core w) ∧ s = w.take (prt w) := by
  obtain ⟨s, k, h1, h2⟩ := decomp w.length w (Nat.le_refl _)
  obtain ⟨e1, e2⟩ := core_eq ho h1 h2
  refine ⟨s, by rw [e1]; exact h1, by rw [e1]; exact h2, ?_⟩
  rw [e2]
  conv => rhs; rw [h1]
  rw [List.append_assoc, List.take_left]
/-! rotations -/
def Rot (k k' : List Nat) : Prop := ∃ u v, k = u ++ v ∧ k' = v ++ u
theorem Rot.refl (k : List Nat) : Rot k k := ⟨[], k, rfl, by simp⟩
theorem Rot.symm {k k' : List Nat} (h : Rot k k') : Rot k' k := by
  obtain ⟨u, v, e1, e2⟩ := h
  exact ⟨v, u, e2, e1⟩
theorem Rot.trans {k k' k'' : List Nat} (h : Rot k k') (h' : Rot k' k'') : Rot k k'' := by
  obtain ⟨u, v, rfl, rfl⟩ := h
  obtain ⟨a, b, e1, rfl⟩ := h'
  rcases List.append_eq_append_iff.mp e1 with ⟨t, h1, h2⟩ | ⟨t, h1, h2⟩
  · exact ⟨t, b ++ v, by rw [h2]; simp, by rw [h1]; simp⟩
  · exact ⟨u ++ a, t, by rw [h1]; simp, by rw [h2]; simp⟩
theorem mem_rots {k x : List Nat} : x ∈ rots k ↔ Rot k x := by
  constructor
  · intro h
    obtain ⟨i, hi, rfl⟩ := List.mem_map.mp h
    exact ⟨k.take i, k.drop i, (List.take_append_drop i k).symm, rfl⟩
  · rintro ⟨u, v, rfl, rfl⟩
    cases v with
    | nil =>
      refine List.mem_map.mpr ⟨0, List.mem_range.mpr (by omega), by simp⟩
    | cons c v =>
      refine List.mem_map.mpr ⟨u.length, List.mem_range.mpr (by simp; omega), by simp⟩
theorem least_rot {k k' m : List Nat} (h : Rot k k') (hm : LeastR k m) : LeastR k' m := by
  refine ⟨mem_rots.mpr (h.symm.trans (mem_rots.mp hm.1)), fun x hx => hm.2 x (mem_rots.mpr (h.trans (mem_rots.mp hx)))⟩
theorem least_one {k m n : List Nat} (ho : okw LT k) (h : LeastR k m) (h' : LeastR k n) : m = n :=
  skey_inj (rots_ok ho h.1) (rots_ok ho h'.1) (least_toks h h')
/-- one letter around a reduced word -/
theorem conj_one {r : List Nat} {c : Nat} (ho : okw LT r) (hc : c ∈ LT) (hr : Rw r) : Rot (core r) (core (cut ([inv c] ++ r ++ [c]))) := by
  have oc : okw LT [c] := okw_one.mpr hc
  have oi : okw LT [inv c] := okw_one.mpr (inv_lt hc)
  have oall : okw LT ([inv c] ++ r ++ [c]) := app_ok (app_ok oi ho) oc
  obtain ⟨s, hs, hk, _⟩ := core_ex ho
  generalize core r = k at hs hk ⊢
  have okk : okw LT k := by rw [hs] at ho; exact (okw_app.mp (okw_app.mp ho).1).2
  have oss : okw LT s := by rw [hs] at ho; exact (okw_app.mp (okw_app.mp ho).1).1
  cases s with
  | cons a s =>
    have ha : a ∈ LT := oss a List.mem_cons_self
    have os : okw LT s := fun x hx => oss x (List.mem_cons_of_mem _ hx)
    have hr2 : r = a :: (s ++ k ++ trn s ++ [inv a]) := by rw [hs, trn_cons]; simp
    have om : okw LT (s ++ k ++ trn s) := app_ok (app_ok os okk) (trn_ok os)
    by_cases e : c = a
    · subst e
      have hm : Rw (s ++ k ++ trn s) := rw_init (x := inv c) (rw_tail (x := c) (by rw [hr2] at hr; exact hr))
      have e1 : cut ([inv c] ++ r ++ [c]) = s ++ k ++ trn s := by
        have e2 : [inv c] ++ r ++ [c] = [inv c, c] ++ ((s ++ k ++ trn s) ++ [inv c, c]) := by rw [hr2]; simp
        have z : cut [inv c, c] = [] := by
          show (stp (stp [] (inv c)) c).reverse = []
          rw [show stp [] (inv c) = [inv c] from rfl, stp_eq rfl] <;> rfl
        have o2 : okw LT [inv c, c] := app_ok oi oc
        rw [e2, cut_app o2 (app_ok om o2), z, List.nil_append, cut_app2 om o2, z, List.append_nil, cut_rw hm]
      rw [e1, (core_eq om rfl hk).1]
      exact Rot.refl _
    · have hw : Rw ([inv c] ++ r ++ [c]) := by
        have h1 : Rw (inv c :: r) := by
          rw [hr2] at hr ⊢
          exact rw_join (a := []) (x := inv c) trivial hr fun z => e (inv_inj hc ha z)
        have h2 : inv c :: r = (inv c :: a :: (s ++ k ++ trn s)) ++ [inv a] := by rw [hr2]; simp
        have h3 := rw_join (a := inv c :: a :: (s ++ k ++ trn s)) (x := inv a) (y := c) (b := []) (by rw [← h2]; exact h1) trivial fun z => e (inv_inj ha hc z).symm
        rw [← h2] at h3
        exact h3
      rw [cut_rw hw, (core_eq (s := inv c :: a :: s) oall (by rw [hs, trn_cons (inv c), inv_inv hc]; simp) hk).1]
      exact Rot.refl _
  | nil =>
    have hrk : r = k := by rw [hs]; simp [trn]
    subst hrk
    cases r with
    | nil =>
      have e1 : cut ([inv c] ++ [] ++ [c]) = [] := by
        show (stp (stp [] (inv c)) c).reverse = []
        rw [show stp [] (inv c) = [inv c] from rfl, stp_eq rfl] <;> rfl
      rw [e1]
      exact Rot.refl _
    | cons x r =>
      have hx : x ∈ LT := ho x List.mem_cons_self
      have orr : okw LT r := fun b hb => ho b (List.mem_cons_of_mem _ hb)
      by_cases e : c = x
      · subst e
        have e1 : cut ([inv c] ++ (c :: r) ++ [c]) = r ++ [c] := by
          have e2 : [inv c] ++ (c :: r) ++ [c] = [inv c, c] ++ (r ++ [c]) := by simp
          have z : cut [inv c, c] = [] := by
            show (stp (stp [] (inv c)) c).reverse = []
            rw [show stp [] (inv c) = [inv c] from rfl, stp_eq rfl] <;> rfl
          rw [e2, cut_app (u := [inv c, c]) (app_ok oi oc) (app_ok orr oc), z, List.nil_append]
          refine cut_rw ?_
          rcases List.eq_nil_or_concat r with e3 | ⟨m, y, e3⟩
          · subst e3; trivial
          · rw [List.concat_eq_append] at e3
            subst e3
            refine rw_join (a := m) (x := y) (y := c) (b := []) (rw_tail hr) trivial fun z2 => ?_
            exact hk c m (by rw [z2])
        have cr : CR (r ++ [c]) := fun a m e3 => by
          cases r with
          | nil => simp at e3
          | cons y r =>
            simp only [List.cons_append, List.cons.injEq] at e3
            have e4 := List.append_inj_right' e3.2 rfl
            have e5 : c = inv a := by simpa using e4
            exact (rw_split (a := []) (x := c) (y := y) hr).1 (by rw [e5, e3.1])
        rw [e1, (core_eq (s := []) (app_ok orr oc) (by simp [trn]) cr).1]
        exact ⟨[c], r, rfl, rfl⟩
      · obtain ⟨m, y, e3⟩ : ∃ m y, x :: r = m ++ [y] := by
          rcases List.eq_nil_or_concat (x :: r) with z | ⟨m, y, z⟩
          · cases z
          · exact ⟨m, y, by rw [z, List.concat_eq_append]⟩
        have hy : y ∈ LT := ho y (by rw [e3]; simp)
        by_cases e4 : y = inv c
        · have om : okw LT m := by rw [e3] at ho; exact (okw_app.mp ho).1
          have e1 : cut ([inv c] ++ (x :: r) ++ [c]) = y :: m := by
            have z : cut [inv c, c] = [] := by
              show (stp (stp [] (inv c)) c).reverse = []
              rw [show stp [] (inv c) = [inv c] from rfl, stp_eq rfl] <;> rfl
            have e5 : [inv c] ++ (x :: r) ++ [c] = (inv c :: m) ++ [inv c, c] := by rw [e3, e4]; simp
            rw [e5, cut_app2 (u := inv c :: m) (v := [inv c, c]) (app_ok (a := [inv c]) oi om) (app_ok oi oc), z, List.append_nil, e4]
            refine cut_rw ?_
            cases m with
            | nil => trivial
            | cons b m =>
              have e6 : x = b := by simp only [List.cons_append, List.cons.injEq] at e3; exact e3.1
              refine rw_join (a := []) (x := inv c) (y := b) (b := m) trivial (rw_init (x := y) (by rw [← e3]; exact hr)) fun z2 => ?_
              rw [← e6] at z2
              exact e (inv_inj hc hx z2)
          have cr : CR (y :: m) := fun a t e5 => by
            simp only [List.cons.injEq] at e5
            obtain ⟨rfl, rfl⟩ := e5
            rw [e3] at hr
            have h7 := rw_split (a := t) (x := inv y) (y := y) (b := []) (by simpa using hr)
            exact h7.1 rfl
          rw [e1, (core_eq (w := y :: m) (s := []) (app_ok (a := [y]) (okw_one.mpr hy) om) (by simp [trn]) cr).1, e3]
          exact ⟨m, [y], rfl, rfl⟩
        · have hw : Rw ([inv c] ++ (x :: r) ++ [c]) := by
            have h1 : Rw (inv c :: x :: r) := rw_join (a := []) (x := inv c) trivial hr fun z => e (inv_inj hc hx z)
            have h3 := rw_join (a := inv c :: m) (x := y) (y := c) (b := []) (by rw [e3] at h1; exact h1) trivial e4
            rw [e3]
            simpa using h3
          rw [cut_rw hw, (core_eq (s := [inv c]) oall (by simp [trn, inv_inv hc]) hk).1]
          exact Rot.refl _
theorem conj_rot {w : List Nat} (hw : okw LT w) : ∀ (n : Nat) (b : List Nat), b.length = n → okw LT b → Rot (core (cut w)) (core (cut (trn b ++ w ++ b)))
  | 0, b, hn, _ => by
    rw [List.length_eq_zero_iff.mp hn]
    simp only [trn, List.reverse_nil, List.map_nil, List.nil_append, List.append_nil]
    exact Rot.refl _
  | n + 1, b, hn, hb => by
    obtain ⟨u, c, rfl⟩ : ∃ u c, b = u ++ [c] := by
      rcases List.eq_nil_or_concat b with e | ⟨u, c, e⟩
      · rw [e] at hn; cases hn
      · exact ⟨u, c, by rw [e, List.concat_eq_append]⟩
    obtain ⟨h1, h2⟩ := okw_app.mp hb
    have hc := okw_one.mp h2
    have o1 : okw LT (trn u ++ w ++ u) := app_ok (app_ok (trn_ok h1) hw) h1
    have ih := conj_rot hw n u (by simpa using hn) h1
    refine ih.trans ?_
    have e : trn (u ++ [c]) ++ w ++ (u ++ [c]) = [inv c] ++ ((trn u ++ w ++ u) ++ [c]) := by rw [trn_app]; simp [trn]
    have oi : okw LT [inv c] := okw_one.mpr (inv_lt hc)
    rw [e, cut_app2 oi (app_ok o1 h2), cut_app o1 h2, ← cut_app2 oi (app_ok (cut_ok o1) h2), ← List.append_assoc]
    exact conj_one (cut_ok o1) hc rw_cut
/-- the same class exactly if the cores are rotations -/
theorem cls_iff {l b m n : List Nat} (hl : okw LT l) (hb : okw LT b) (h1 : cls l m) (h2 : cls b n) : m = n ↔ core (cut b) ∈ rots (core (cut l)) := by
  constructor
  · rintro rfl
    exact mem_rots.mpr ((mem_rots.mp h1.1).trans (mem_rots.mp h2.1).symm)
  · intro h
    exact least_one (core_ok (cut_ok hb)) (least_rot (mem_rots.mp h) h1) h2
end Tx

namespace Tx
open DL
/-! ### equal in the free group -/
theorem fold_can : ∀ (a : List Nat) {st : List Nat}, okw LT a → Rd st → okw LT st → (a ++ trn a).foldl stp st = st
  | [], st, _, _, _ => rfl
  | c :: a, st, ha, hs, ho => by
    have hc : c ∈ LT := ha c List.mem_cons_self
    have e : (c :: a) ++ trn (c :: a) = c :: ((a ++ trn a) ++ [inv c]) := by rw [trn_cons]; simp
    rw [e, List.foldl_cons, List.foldl_append, fold_can a (fun x hx => ha x (List.mem_cons_of_mem _ hx)) (stp_rd hs) (stp_ok ho hc)]
    exact stp_back hs ho hc
theorem mid1 {x a y : List Nat} (hx : okw LT x) (ha : okw LT a) : cut (x ++ (a ++ trn a) ++ y) = cut (x ++ y) := by
  show (List.foldl stp [] (x ++ (a ++ trn a) ++ y)).reverse = (List.foldl stp [] (x ++ y)).reverse
  rw [List.foldl_append, List.foldl_append, List.foldl_append (l := x), fold_can a ha (fold_rd x (st := []) trivial) (fold_ok hx [] fun _ z => (by cases z))]
theorem mid2 {x a y : List Nat} (hx : okw LT x) (ha : okw LT a) : cut (x ++ (trn a ++ a) ++ y) = cut (x ++ y) := by
  have := mid1 (x := x) (a := trn a) (y := y) hx (trn_ok ha)
  rw [trn_trn ha] at this
  exact this
theorem in_cut {x z y : List Nat} (hx : okw LT x) (hz : okw LT z) (hy : okw LT y) : cut (x ++ cut z ++ y) = cut (x ++ z ++ y) := by
  rw [cut_app (app_ok hx (cut_ok hz)) hy, ← cut_app2 hx hz, ← cut_app (app_ok hx hz) hy]
theorem in_trn {x z y : List Nat} (hx : okw LT x) (hz : okw LT z) (hy : okw LT y) : cut (x ++ trn (cut z) ++ y) = cut (x ++ trn z ++ y) := by
  have ot := trn_ok (cut_ok hz)
  have e1 : x ++ trn (cut z) ++ (z ++ trn z) ++ y = (x ++ trn (cut z)) ++ z ++ (trn z ++ y) := by simp
  have e2 : (x ++ trn (cut z)) ++ cut z ++ (trn z ++ y) = x ++ (trn (cut z) ++ cut z) ++ (trn z ++ y) := by simp
  rw [← mid1 (x := x ++ trn (cut z)) (a := z) (app_ok hx ot) hz, e1, ← in_cut (app_ok hx ot) hz (app_ok (trn_ok hz) hy), e2, mid2 hx (cut_ok hz), List.append_assoc]
theorem in_trn0 {z l y : List Nat} (hz : okw LT z) (hl : okw LT l) (hy : okw LT y) : cut (trn (cut z) ++ l ++ y) = cut (trn z ++ l ++ y) := by
  have := in_trn (x := []) (z := z) (y := l ++ y) (fun _ z => (by cases z)) hz (app_ok hl hy)
  rw [List.nil_append, List.nil_append] at this
  rw [List.append_assoc, List.append_assoc]
  exact this
/-- b takes l to o -/
def Cjr (l o b : List Nat) : Prop := cut (trn b ++ l ++ b) = cut o
theorem cjr_rot {l o b : List Nat} (hl : okw LT l) (hb : okw LT b) (ho : okw LT o) (h : Cjr l o b) : core (cut o) ∈ rots (core (cut l)) := by
  have := conj_rot hl b.length b rfl hb
  rw [h] at this
  exact mem_rots.mpr this
theorem fcon_cjr {l o : List Nat} {i : Nat} (hl : okw LT l) (ho : okw LT o) (h : (rots (core (cut l)))[i]? = some (core (cut o))) : Cjr l o (fcon l o i) := by
  obtain ⟨s, hs, _, es⟩ := core_ex (cut_ok hl)
  obtain ⟨t, ht, _, et⟩ := core_ex (cut_ok ho)
  have e1 : fstem l = s := es.symm
  have e2 : fstem o = t := et.symm
  have ol := cut_ok hl
  have oo := cut_ok ho
  unfold rots at h
  rw [List.getElem?_map] at h
  obtain ⟨j, hj, e3⟩ := Option.map_eq_some_iff.mp h
  have e4 : j = i := by
    obtain ⟨hi, e⟩ := List.getElem?_eq_some_iff.mp hj
    rw [← e, List.getElem_range]
  subst e4
  unfold Cjr fcon
  rw [e1, e2]
  have hk := (List.take_append_drop j (core (cut l))).symm
  rw [← e3] at ht
  generalize core (cut l) = k at hs hk ht ⊢
  generalize k.take j = u at hk ht ⊢
  generalize k.drop j = v at hk ht
  subst hk
  rw [hs] at ol
  rw [ht] at oo
  have os := (okw_app.mp (okw_app.mp ol).1).1
  have ou := (okw_app.mp (okw_app.mp (okw_app.mp ol).1).2).1
  have ov := (okw_app.mp (okw_app.mp (okw_app.mp ol).1).2).2
  have ot := (okw_app.mp (okw_app.mp oo).1).1
  have ob : okw LT (s ++ u ++ trn t) := app_ok (app_ok os ou) (trn_ok ot)
  have z0 : okw LT ([] : List Nat) := fun _ z => (by cases z)
  have f1 : cut (trn (cut (s ++ u ++ trn t)) ++ l ++ cut (s ++ u ++ trn t)) = cut (trn (cut (s ++ u ++ trn t)) ++ l ++ (s ++ u ++ trn t)) := (cut_app2 (app_ok (trn_ok (cut_ok ob)) hl) ob).symm
  have f2 : cut (trn (cut (s ++ u ++ trn t)) ++ l ++ (s ++ u ++ trn t)) = cut (trn (s ++ u ++ trn t) ++ l ++ (s ++ u ++ trn t)) := in_trn0 ob hl ob
  have f3 : cut (trn (s ++ u ++ trn t) ++ l ++ (s ++ u ++ trn t)) = cut (trn (s ++ u ++ trn t) ++ cut l ++ (s ++ u ++ trn t)) := (in_cut (trn_ok ob) hl ob).symm
  rw [f1, f2, f3, hs, trn_app, trn_app, trn_trn ot]
  have g1 : t ++ (trn u ++ trn s) ++ (s ++ (u ++ v) ++ trn s) ++ (s ++ u ++ trn t) = (t ++ trn u) ++ (trn s ++ s) ++ ((u ++ v) ++ (trn s ++ s) ++ (u ++ trn t)) := by simp
  have g2 : (t ++ trn u) ++ ((u ++ v) ++ (trn s ++ s) ++ (u ++ trn t)) = (t ++ trn u ++ u ++ v) ++ (trn s ++ s) ++ (u ++ trn t) := by simp
  have g3 : (t ++ trn u ++ u ++ v) ++ (u ++ trn t) = t ++ (trn u ++ u) ++ (v ++ u ++ trn t) := by simp
  rw [g1, mid2 (app_ok ot (trn_ok ou)) os, g2, mid2 (app_ok (app_ok (app_ok ot (trn_ok ou)) ou) ov) os, g3, mid2 ot ou, ← List.append_assoc, ← List.append_assoc]
  have g4 : t ++ v ++ u ++ trn t = cut o := by rw [ht]; simp
  rw [g4, cut_cut ho]
theorem cjr_back {l o b : List Nat} (hl : okw LT l) (ho : okw LT o) (hb : okw LT b) (h : Cjr l o b) : Cjr o l (trn b) := by
  unfold Cjr at *
  rw [trn_trn hb, ← in_cut hb ho (trn_ok hb), ← h, in_cut hb (app_ok (app_ok (trn_ok hb) hl) hb) (trn_ok hb)]
  have e1 : b ++ (trn b ++ l ++ b) ++ trn b = [] ++ (b ++ trn b) ++ (l ++ (b ++ trn b) ++ []) := by simp
  rw [e1, mid1 (fun _ z => (by cases z)) hb, List.nil_append, mid1 hl hb, List.append_nil]
theorem cjr_join {l o t b c : List Nat} (hl : okw LT l) (ho : okw LT o) (hb : okw LT b) (hc : okw LT c) (h : Cjr l o b) (h' : Cjr o t c) : Cjr l t (b ++ c) := by
  unfold Cjr at *
  have e1 : trn (b ++ c) ++ l ++ (b ++ c) = trn c ++ (trn b ++ l ++ b) ++ c := by rw [trn_app]; simp
  rw [e1, ← in_cut (trn_ok hc) (app_ok (app_ok (trn_ok hb) hl) hb) hc, h, in_cut (trn_ok hc) ho hc, h']
/-- they commute -/
def Cmm (a b : List Nat) : Prop := cut (a ++ b) = cut (b ++ a)
theorem cmm_app {a b c : List Nat} (ha : okw LT a) (hb : okw LT b) (hc : okw LT c) (h1 : Cmm a c) (h2 : Cmm b c) : Cmm (a ++ b) c := by
  unfold Cmm at *
  rw [List.append_assoc, cut_app2 ha (app_ok hb hc), h2, ← cut_app2 ha (app_ok hc hb), ← List.append_assoc, cut_app (app_ok ha hc) hb, h1, ← cut_app (app_ok hc ha) hb, List.append_assoc]
theorem srep_ok {a : List Nat} (ha : okw LT a) : ∀ n, okw LT (srep a n)
  | 0 => fun _ z => (by cases z)
  | n + 1 => app_ok (zs := LT) (a := a) ha (srep_ok ha n)
theorem srep_succ (a : List Nat) (n : Nat) : srep a (n + 1) = a ++ srep a n := rfl
theorem cmm_rep {a c : List Nat} (ha : okw LT a) (hc : okw LT c) (h : Cmm a c) : ∀ n, Cmm (srep a n) c
  | 0 => by
    show cut ([] ++ c) = cut (c ++ [])
    rw [List.append_nil, List.nil_append]
  | n + 1 => cmm_app (a := a) ha (srep_ok ha n) hc h (cmm_rep ha hc h n)
theorem cmm_trn {a c : List Nat} (ha : okw LT a) (hc : okw LT c) (h : Cmm a c) : Cmm (trn a) c := by
  unfold Cmm at *
  have ot := trn_ok ha
  have e1 : cut (trn a ++ c) = cut ((trn a ++ c) ++ (a ++ trn a) ++ []) := by rw [mid1 (app_ok ot hc) ha, List.append_nil]
  have e2 : (trn a ++ c) ++ (a ++ trn a) ++ [] = trn a ++ (c ++ a) ++ trn a := by simp
  have e3 : trn a ++ (a ++ c) ++ trn a = [] ++ (trn a ++ a) ++ (c ++ trn a) := by simp
  rw [e1, e2, ← in_cut ot (app_ok hc ha) ot, ← h, in_cut ot (app_ok ha hc) ot, e3, mid2 (fun _ z => (by cases z)) ha, List.nil_append]
theorem cmm_cut {a c : List Nat} (ha : okw LT a) (hc : okw LT c) : Cmm (cut a) c ↔ Cmm a c := by
  unfold Cmm
  rw [← cut_app ha hc, ← cut_app2 hc ha]
theorem cjr_cut {l o x : List Nat} (hl : okw LT l) (hx : okw LT x) : Cjr l o (cut x) ↔ Cjr l o x := by
  unfold Cjr
  rw [in_trn0 hx hl (cut_ok hx), ← cut_app2 (app_ok (trn_ok hx) hl) hx]
theorem cjr_cmm {l o p b : List Nat} (hl : okw LT l) (hp : okw LT p) (hb : okw LT b) (h : Cjr l o b) (hc : Cmm p l) : Cjr l o (p ++ b) := by
  unfold Cjr Cmm at *
  have e1 : trn (p ++ b) ++ l ++ (p ++ b) = (trn b ++ trn p) ++ (l ++ p) ++ b := by rw [trn_app]; simp
  have e2 : (trn b ++ trn p) ++ (p ++ l) ++ b = trn b ++ (trn p ++ p) ++ (l ++ b) := by simp
  have ox := app_ok (trn_ok hb) (trn_ok hp)
  rw [e1, ← in_cut ox (app_ok hl hp) hb, ← hc, in_cut ox (app_ok hp hl) hb, e2, mid2 (trn_ok hb) hp, ← List.append_assoc, h]
/-- r is a root of l -/
def Root (l r : List Nat) : Prop := ∃ n, cut l = cut (srep r n)
theorem root_cmm {l r : List Nat} (hl : okw LT l) (hr : okw LT r) (h : Root l r) : Cmm r l := by
  obtain ⟨n, e⟩ := h
  have q := cmm_rep hr hr rfl n
  unfold Cmm at *
  rw [cut_app2 hr hl, e, ← cut_app2 hr (srep_ok hr n), ← q, cut_app hl hr, e, ← cut_app (srep_ok hr n) hr]
theorem conj_rep {s k : List Nat} (hs : okw LT s) (hk : okw LT k) : ∀ n, cut (srep (s ++ k ++ trn s) (n + 1)) = cut (s ++ srep k (n + 1) ++ trn s)
  | 0 => by
    show cut ((s ++ k ++ trn s) ++ []) = cut (s ++ (k ++ []) ++ trn s)
    rw [List.append_nil, List.append_nil]
  | n + 1 => by
    have o1 : okw LT (s ++ k ++ trn s) := app_ok (app_ok hs hk) (trn_ok hs)
    have o2 : okw LT (s ++ srep k (n + 1) ++ trn s) := app_ok (app_ok hs (srep_ok hk _)) (trn_ok hs)
    have e1 : (s ++ k ++ trn s) ++ (s ++ srep k (n + 1) ++ trn s) = (s ++ k) ++ (trn s ++ s) ++ (srep k (n + 1) ++ trn s) := by simp
    have e2 : (s ++ k) ++ (srep k (n + 1) ++ trn s) = s ++ (k ++ srep k (n + 1)) ++ trn s := by simp
    rw [srep_succ (s ++ k ++ trn s), cut_app2 o1 (srep_ok o1 _), conj_rep hs hk n, ← cut_app2 o1 o2, e1, mid2 (app_ok hs hk) hs, e2, ← srep_succ k]
end Tx

namespace Tx
open PySem PySem.Spec PyProof.Rows L2 DL
section
variable {P : Program} {w : World} {K : PySem.W.Frag} {mg : Str → Option Value} {base : Heap} {ad ca : Nat → Addr} {fm : Nat → FuncData}
def PProd : List D → (D → Prop) → Pz → Prop := fun ds R _ => ∃ a b : List Nat, ds = [.str a, .str b] ∧ (okw LT a ∧ a.length ≤ 60) ∧ (okw LT b ∧ b.length ≤ 60) ∧ R (.str (cut (a ++ b)))
theorem ok_product (T : Tx K mg ad ca fm) : FnOk P w K mg base (L2.CX P w) 6 (ad i_product) (fm i_product) ["one", "other"] (spF K 2 PProd) := by
  refine fn_F T.F_product sc_product 0 fun cdv A outer s H E hr ds R Xe hl hP => ?_
  obtain ⟨a, b, rfl, ha, hb, h1⟩ := hP
  refine wb_cons (ws_expr ?_)
  refine we_call (ok__check T) (hr.mono (by decide)) T.g__check T.k__check T.b__check ?_
  refine wl_cons (we_im 0 rfl (wl_nil ⟨_, im1, rfl, ?_⟩))
  refine ⟨_, rfl, by omega, fun _ => ?_, fun z => (z ha).elim⟩
  refine wb_cons (ws_expr ?_)
  refine we_call (ok__check T) (hr.mono (by decide)) T.g__check T.k__check T.b__check ?_
  refine wl_cons (we_im 1 rfl (wl_nil ⟨_, im1, rfl, ?_⟩))
  refine ⟨_, rfl, by omega, fun _ => ?_, fun z => (z hb).elim⟩
  refine wb_cons (ws_ret ?_)
  refine we_call (ok_cut_down T) (hr.mono (by decide)) T.g_cut_down T.k_cut_down T.b_cut_down ?_
  refine wl_cons ?_
  refine we_add (we_im 0 rfl (we_im 1 rfl ?_))
  refine ⟨_, _, rfl, rfl, _, .str (by omega), ?_⟩
  refine wl_nil ⟨_, im1, rfl, ?_⟩
  exact ⟨_, rfl, by rw [List.length_append]; omega, app_ok ha.1 hb.1, ret_im h1⟩
def pw (l : List Nat) (e : Int) : List Nat := cut (if e < 0 then srep (trn l) (-e).toNat else srep l e.toNat)
def PPower : List D → (D → Prop) → Pz → Prop := fun ds R _ => ∃ (l : List Nat) (e : Int), ds = [.str l, .int e] ∧ (okw LT l ∧ l.length ≤ 60) ∧ (-20 ≤ e ∧ e ≤ 20) ∧ R (.str (pw l e))
theorem ok_power (T : Tx K mg ad ca fm) : FnOk P w K mg base (L2.CX P w) 6 (ad i_power) (fm i_power) ["word", "exponent"] (spF K 2 PPower) := by
  refine fn_F T.F_power sc_power 0 fun cdv A outer s H E hr ds R Xe hl hP => ?_
  obtain ⟨l, e, rfl, ha, he, h1⟩ := hP
  refine wb_cons (ws_expr ?_)
  refine we_call (ok__check T) (hr.mono (by decide)) T.g__check T.k__check T.b__check ?_
  refine wl_cons (we_im 0 rfl (wl_nil ⟨_, im1, rfl, ?_⟩))
  refine ⟨_, rfl, by omega, fun _ => ?_, fun z => (z ha).elim⟩
  refine wb_cons (ws_if ?_)
  refine wt_val false ?_ ⟨fun z => (by cases z), fun _ => ?_⟩
  · refine wt_not ?_
    refine wt_chain hr ?_
    refine we_neg (we_gint T.c_MOST_EXPONENT ⟨_, rfl, ?_⟩)
    refine we_im 1 rfl ?_
    refine ⟨_, _, rfl, rfl, _, .le _ _, fun c => ?_, fun c => ?_⟩
    · refine we_gint T.c_MOST_EXPONENT ?_
      refine ⟨_, _, rfl, rfl, _, .le _ _, ?_, rfl⟩
      simp [he.2]
    · exact absurd (of_decide_eq_false c) (by omega)
  refine wb_nil ?_
  refine wb_cons (ws_if ?_)
  refine wt_cmp hr (we_im 1 rfl (we_int ?_))
  refine ⟨_, _, rfl, rfl, _, .lt _ _, fun c => ?_, fun c => ?_⟩
  · have c' : e < 0 := of_decide_eq_true c
    refine wb_cons (ws_ret ?_)
    refine we_call (ok_cut_down T) (hr.mono (by decide)) T.g_cut_down T.k_cut_down T.b_cut_down ?_
    refine wl_cons ?_
    refine we_smul ?_
    refine we_call (ok_turned T) (hr.mono (by decide)) T.g_turned T.k_turned T.b_turned ?_
    refine wl_cons (we_im 0 rfl (wl_nil ⟨_, im1, rfl, ?_⟩))
    refine ⟨_, rfl, by omega, ha.1, ?_⟩
    refine we_neg (we_im 1 rfl ⟨_, rfl, ?_⟩)
    refine ⟨trn l, (-e).toNat, rfl, by rw [Int.toNat_of_nonneg (by omega)]; rfl, by omega, by rw [trn_len]; omega, ?_⟩
    refine wl_nil ⟨_, im1, rfl, ?_⟩
    refine ⟨_, rfl, ?_, srep_ok (trn_ok ha.1) _, ret_im ?_⟩
    · rw [srep_len, trn_len]
      exact Nat.le_trans (Nat.mul_le_mul (show (-e).toNat ≤ 20 by omega) ha.2) (by decide)
    · unfold pw at h1
      rw [if_pos c'] at h1
      exact h1
  · have c' : ¬ e < 0 := of_decide_eq_false c
    refine wb_nil ?_
    refine wb_cons (ws_ret ?_)
    refine we_call (ok_cut_down T) (hr.mono (by decide)) T.g_cut_down T.k_cut_down T.b_cut_down ?_
    refine wl_cons ?_
    refine we_smul (we_im 0 rfl (we_im 1 rfl ?_))
    refine ⟨l, e.toNat, rfl, by rw [Int.toNat_of_nonneg (by omega)]; rfl, by omega, by omega, ?_⟩
    refine wl_nil ⟨_, im1, rfl, ?_⟩
    refine ⟨_, rfl, ?_, srep_ok ha.1 _, ret_im ?_⟩
    · rw [srep_len]
      exact Nat.le_trans (Nat.mul_le_mul (show e.toNat ≤ 20 by omega) ha.2) (by decide)
    · unfold pw at h1
      rw [if_neg c'] at h1
      exact h1
theorem core_nil {l : List Nat} (hl : okw LT l) (h : core (cut l) = []) : cut l = [] := by
  obtain ⟨s, hs, _, _⟩ := core_ex (cut_ok hl)
  rw [h, List.append_nil] at hs
  have os : okw LT s := by
    have := cut_ok hl
    rw [hs] at this
    exact (okw_app.mp this).1
  have := mid1 (x := []) (a := s) (y := []) (fun _ z => (by cases z)) os
  rw [List.nil_append, List.append_nil, ← hs, cut_cut hl] at this
  exact this
def PRoot : List D → (D → Prop) → Pz → Prop := fun ds R _ => ∃ l : List Nat, ds = [.str l] ∧ (okw LT l ∧ l.length ≤ 60) ∧ cut l ≠ [] ∧ ∀ (r : List Nat) (n : Int), okw LT r → r.length ≤ l.length → Root l r → R (.tup [.str r, .int n])
theorem ok_root_of (T : Tx K mg ad ca fm) : FnOk P w K mg base (L2.CX P w) 8 (ad i_root_of) (fm i_root_of) ["word"] (spF K 1 PRoot) := by
  refine fn_F T.F_root_of sc_root_of 0 fun cdv A outer s H E hr ds R Xe hl hP => ?_
  obtain ⟨l, rfl, ha, hc, h1⟩ := hP
  refine wb_cons (ws_asg ?_)
  refine we_call (ok_core_of T) (hr.mono (by decide)) T.g_core_of T.k_core_of T.b_core_of ?_
  refine wl_cons (we_im 0 rfl (wl_nil ⟨_, im1, rfl, ?_⟩))
  refine ⟨_, rfl, by omega, fun _ => ?_, fun z => (z ha).elim⟩
  refine ⟨_, rfl, ?_⟩
  refine wg_pair (wg_name 1 (wg_name 2 ?_ sc_root_of.nd) sc_root_of.nd)
  obtain ⟨t, ht, _, et⟩ := core_ex (cut_ok ha.1)
  rw [← et]
  have hne : core (cut l) ≠ [] := fun z => hc (core_nil ha.1 z)
  have ol := cut_ok ha.1
  have cl := cut_len l
  have hk2 : t.length + (core (cut l)).length + t.length = (cut l).length := by
    conv => rhs; rw [ht]
    rw [List.length_append, List.length_append, trn_len]
  have otk : okw LT t ∧ okw LT (core (cut l)) := by
    rw [ht] at ol
    exact okw_app.mp (okw_app.mp ol).1
  obtain ⟨ot, ok⟩ := otk
  generalize hkk : core (cut l) = k at ht hne hk2 ok ⊢
  have hpos : 0 < k.length := List.length_pos_iff.mpr hne
  refine wb_cons (ws_if ?_)
  refine wt_val false ?_ ⟨fun z => (by cases z), fun _ => ?_⟩
  · refine wt_cmp hr (we_im 2 rfl (we_str [] ?_))
    walk_at "cmp"
    exact ⟨by simp [hne], rfl⟩
  refine wb_nil ?_
  refine wb_cons (ws_set 3 (we_int ?_) sc_root_of.nd)
  refine wb_cons (ws_while (fun m G => ∃ sz : Nat, 1 ≤ sz ∧ m + sz = k.length ∧ Le G ⟨[.im (.str l), .im (.str t), .im (.str k), .im (.int sz)], [], 0⟩) (k.length - 1) ⟨1, by omega, by omega, by walk_at "le"⟩ ?_)
  rintro m G ⟨sz, hs1, hm, hI⟩
  refine wt_le hI ?_
  have hdiv : k.length / sz ≤ k.length := Nat.div_le_self _ _
  refine wt_val (decide (¬ (k.length % sz = 0 ∧ srep (k.take sz) (k.length / sz) = k))) ?_ ⟨fun z => ?_, fun z => ?_⟩
  · refine wt_or ?_
    refine wt_cmp hr ?_
    refine we_mod ?_
    refine we_len T.n_len (we_im 2 rfl ⟨_, rfl, _, .str (by omega), ?_⟩)
    refine we_im 3 rfl ?_
    refine ⟨_, _, rfl, rfl, _, _, rfl, rfl, by omega, ?_⟩
    refine we_int ?_
    refine ⟨_, _, rfl, rfl, _, .gt _ _, fun c => ?_, fun c => ?_⟩
    · have c' := of_decide_eq_true c
      have : ¬ k.length % sz = 0 := by omega
      exact ⟨by simp [this], rfl⟩
    · have c' := of_decide_eq_false c
      have e0 : k.length % sz = 0 := by omega
      refine wt_cmp hr ?_
      refine we_smul ?_
      refine we_slice (we_im 2 rfl (wp_none (wp_some (we_im 3 rfl ⟨_, rfl, ?_⟩))))
      refine ⟨_, _, rfl, .str (by omega), ?_⟩
      rw [cutL_to]
      refine we_fdiv ?_
      refine we_len T.n_len (we_im 2 rfl ⟨_, rfl, _, .str (by omega), ?_⟩)
      refine we_im 3 rfl ?_
      refine ⟨_, _, rfl, rfl, _, _, rfl, rfl, by omega, ?_⟩
      refine ⟨k.take sz, k.length / sz, rfl, rfl, by omega, by rw [List.length_take]; omega, ?_⟩
      refine we_im 2 rfl ?_
      walk_at "cmp"
      exact ⟨by simp [e0], rfl⟩
  · have z' := of_decide_eq_true z
    refine wb_cons (ws_augI 3 ip_add rfl ?_ sc_root_of.nd)
    refine we_int ⟨_, rfl, ?_⟩
    have hlt : sz ≠ k.length := fun q => by
      refine z' ⟨by rw [q, Nat.mod_self], ?_⟩
      rw [q, Nat.div_self hpos, List.take_length]
      simp [srep]
    refine wb_nil ⟨m - 1, by omega, sz + 1, by omega, by omega, rfl, ⟨.inr rfl, .inr rfl, .inr rfl, .inr (by simp), trivial⟩, LeO.refl _⟩
  · have z' : k.length % sz = 0 ∧ srep (k.take sz) (k.length / sz) = k := by simpa using z
    have ok0 : okw LT (k.take sz) := fun x hx => ok x (List.mem_of_mem_take hx)
    refine wb_cons (ws_ret ?_)
    refine we_tup ?_
    refine wl_cons ?_
    refine we_add ?_
    refine we_add (we_im 1 rfl ?_)
    refine we_slice (we_im 2 rfl (wp_none (wp_some (we_im 3 rfl ⟨_, rfl, ?_⟩))))
    refine ⟨_, _, rfl, .str (by omega), ?_⟩
    rw [cutL_to]
    refine ⟨_, _, rfl, rfl, _, .str (by rw [List.length_take]; omega), ?_⟩
    refine we_call (ok_turned T) (hr.mono (by decide)) T.g_turned T.k_turned T.b_turned ?_
    refine wl_cons (we_im 1 rfl (wl_nil ⟨_, im1, rfl, ?_⟩))
    refine ⟨_, rfl, by omega, ot, ?_⟩
    refine ⟨_, _, rfl, rfl, _, .str (by rw [List.length_append, List.length_take, trn_len]; omega), ?_⟩
    refine wl_cons ?_
    refine we_fdiv ?_
    refine we_len T.n_len (we_im 2 rfl ⟨_, rfl, _, .str (by omega), ?_⟩)
    refine we_im 3 rfl ?_
    refine ⟨_, _, rfl, rfl, _, _, rfl, rfl, by omega, ?_⟩
    refine wl_nil ⟨_, im2, Nat.le_of_ble_eq_true rfl, ?_⟩
    refine ret_im (h1 _ _ (app_ok (app_ok ot ok0) (trn_ok ot)) (by rw [List.length_append, List.length_append, List.length_take, trn_len]; omega) ?_)
    obtain ⟨n, hn⟩ : ∃ n, k.length / sz = n + 1 := by
      refine ⟨k.length / sz - 1, ?_⟩
      have : k.length / sz ≠ 0 := fun q => by
        have e := z'.2
        rw [q] at e
        exact hne e.symm
      exact (Nat.sub_add_cancel (Nat.pos_of_ne_zero this)).symm
    refine ⟨n + 1, ?_⟩
    rw [conj_rep ot ok0 n, ← hn, z'.2, ← ht, cut_cut ha.1]
def PComm : List D → (D → Prop) → Pz → Prop := fun ds R _ => ∃ a b : List Nat, ds = [.str a, .str b] ∧ (okw LT a ∧ a.length ≤ 60) ∧ (okw LT b ∧ b.length ≤ 60) ∧ R (.bl (decide (cut (a ++ b) = cut (b ++ a))))
theorem ok_commute (T : Tx K mg ad ca fm) : FnOk P w K mg base (L2.CX P w) 7 (ad i_commute) (fm i_commute) ["one", "other"] (spF K 2 PComm) := by
  refine fn_F T.F_commute sc_commute 0 fun cdv A outer s H E hr ds R Xe hl hP => ?_
  obtain ⟨a, b, rfl, ha, hb, h1⟩ := hP
  refine wb_cons (ws_ret ?_)
  refine we_cmp hr ?_
  refine we_call (ok_product T) (hr.mono (by decide)) T.g_product T.k_product T.b_product ?_
  refine wl_cons (we_im 0 rfl (wl_cons (we_im 1 rfl (wl_nil ⟨_, im2, rfl, ?_⟩))))
  refine ⟨_, _, rfl, ha, hb, ?_⟩
  refine we_call (ok_product T) (hr.mono (by decide)) T.g_product T.k_product T.b_product ?_
  refine wl_cons (we_im 1 rfl (wl_cons (we_im 0 rfl (wl_nil ⟨_, im2, rfl, ?_⟩))))
  refine ⟨_, _, rfl, hb, ha, ?_⟩
  walk_at "cmp"
  exact ret_im h1
end
end Tx

namespace Tx
open PySem PySem.Spec PyProof.Rows L2 DL
/-! ### the law's own words -/
theorem back_index {c : Nat} (h : c ∈ LT) : ∃ k : Nat, Txt.index0 ⟨([65, 97, 66, 98, 67, 99] : List Nat).toArray⟩ ⟨[c].toArray⟩ = some k ∧ atI LT (k : Int) = some (inv c) := by
  rcases lt_cases h with rfl | rfl | rfl | rfl | rfl | rfl
  · exact ⟨1, by decide +kernel, by decide +kernel⟩
  · exact ⟨0, by decide +kernel, by decide +kernel⟩
  · exact ⟨3, by decide +kernel, by decide +kernel⟩
  · exact ⟨2, by decide +kernel, by decide +kernel⟩
  · exact ⟨5, by decide +kernel, by decide +kernel⟩
  · exact ⟨4, by decide +kernel, by decide +kernel⟩
section
variable {P : Program} {w : World} {K : PySem.W.Frag} {mg : Str → Option Value} {base : Heap} {ad ca : Nat → Addr} {fm : Nat → FuncData}
theorem ok__law_back (T : Tx K mg ad ca fm) : FnOk P w K mg base (L2.CX P w) 1 (ad i__law_back) (fm i__law_back) ["_law_letter"] (spF K 1 PInv) := by
  refine fn_F T.F__law_back sc__law_back 0 fun cdv A outer s H E hr ds R Xe hl hP => ?_
  obtain ⟨c, rfl, hc, h1⟩ := hP
  obtain ⟨k, e1, e2⟩ := back_index hc
  refine wb_cons (ws_ret ?_)
  refine we_ix (we_str LT ?_)
  refine we_sindex (we_str [65, 97, 66, 98, 67, 99] ⟨_, rfl, ?_⟩)
  refine we_im 0 rfl ⟨_, _, rfl, rfl, e1, ?_⟩
  refine ⟨_, _, rfl, rfl, _, .str (by decide) e2, ?_⟩
  exact ret_im h1
theorem ok__law_turned (T : Tx K mg ad ca fm) : FnOk P w K mg base (L2.CX P w) 2 (ad i__law_turned) (fm i__law_turned) ["_law_word_here"] (spF K 1 PTurned) := by
  refine fn_F T.F__law_turned sc__law_turned 0 fun cdv A outer s H E hr ds R Xe hl hP => ?_
  obtain ⟨l, rfl, hn, ho, h1⟩ := hP
  refine wb_cons (ws_ret ?_)
  refine we_join (we_str [] ⟨_, rfl, ?_⟩)
  refine we_fr ?_
  refine wef_lc (own' := [("_law_letter", 1)]) sc__law_turned.nd ?_
  refine wi_str (we_srev (we_im 0 rfl ⟨_, rfl, hn, ⟨_, rfl, ?_⟩⟩))
  refine ⟨by simpa using hn, fun i acc om => acc = ((trn l).take i).map ch ∧ om = [], ⟨rfl, rfl⟩, ?_, ?_⟩
  · intro i d acc om hd ⟨ha, hm⟩
    subst hm
    rw [List.getElem?_map] at hd
    obtain ⟨c, hc, rfl⟩ := Option.map_eq_some_iff.mp hd
    intro s1 H1 C cl fp
    refine wg_name 1 ?_ sc__law_turned.nd
    intro s1 H1 C cl fp
    refine we_call (ok__law_back T) (hr.mono (by decide)) T.g__law_back T.k__law_back T.b__law_back ?_
    refine wl_cons (we_im 1 rfl (wl_nil ⟨_, im1, rfl, ?_⟩))
    refine ⟨_, rfl, ho c (List.mem_reverse.mp (List.mem_of_getElem? hc)), ?_⟩
    refine ⟨_, rfl, rfl, rfl, ?_, rfl⟩
    have e : (trn l)[i]? = some (inv c) := by unfold trn; rw [List.getElem?_map, hc] <;> rfl
    rw [ha, List.take_add_one, e, List.map_append] <;> rfl
  · rintro acc om ⟨ha, hm⟩
    refine ⟨_, rfl, ?_⟩
    have e : acc = ((trn l).map fun c => [c]).map D.str := by
      rw [ha, ← map_ch, List.take_of_length_le (by simp [trn])]
    rw [e]
    refine ⟨_, _, rfl, .lst _, by rw [flat_ch, trn_len]; simpa using hn, ?_⟩
    rw [joinL_nil, flat_ch]
    exact ret_im h1
theorem ok__law_cut (T : Tx K mg ad ca fm) : FnOk P w K mg base (L2.CX P w) 2 (ad i__law_cut) (fm i__law_cut) ["_law_word_here"] (spF K 1 PCut) := by
  refine fn_F T.F__law_cut sc__law_cut 1 fun cdv A outer s H E hr ds R Xe hl hP => ?_
  obtain ⟨l, rfl, hn, ho, h1⟩ := hP
  refine wb_cons (ws_own 1 0 ?_ sc__law_cut.nd)
  refine wef_lst0 ?_
  refine ⟨Nat.le_of_ble_eq_true rfl, Nat.le_of_ble_eq_true rfl, rfl, ?_⟩
  refine wb_cons (ws_for ?_)
  refine wi_str (we_im 0 rfl ⟨_, rfl, ?_⟩)
  refine ⟨fun i G => Le G ⟨[.im (.str l), .ow 0, .un], [.li (((l.take i).foldl stp []).reverse.map ch)], 0⟩, Le.refl _, ?_, ?_⟩
  · intro i d G hd hI
    rw [List.getElem?_map] at hd
    obtain ⟨c, hc, rfl⟩ := Option.map_eq_some_iff.mp hd
    have hcl : c ∈ LT := ho c (List.mem_of_getElem? hc)
    have e2 : (l.take (i + 1)).foldl stp [] = stp ((l.take i).foldl stp []) c := by
      rw [List.take_add_one, hc, List.foldl_append] <;> rfl
    have hlen : ((l.take i).foldl stp []).length < 100000 := by
      have := fold_len (l.take i) []
      have hi : i < l.length := (List.getElem?_eq_some_iff.mp hc).1
      rw [List.length_take, List.length_nil] at this
      omega
    obtain ⟨st, hst⟩ : ∃ st, (l.take i).foldl stp [] = st := ⟨_, rfl⟩
    rw [hst] at hI hlen e2
    clear hst
    refine wg_le hI ?_
    refine wg_name 2 ?_ sc__law_cut.nd
    cases st with
    | nil =>
      refine wb_cons (ws_if ?_)
      refine wt_val false ?_ ⟨fun z => (by cases z), fun z => ?_⟩
      · refine wt_and (wt_tru (we_ow 1 rfl ⟨_, ⟨_, rfl, rfl⟩, trivial, ⟨fun z => (by cases z), fun _ => ⟨rfl, rfl⟩⟩⟩))
      · refine wb_cons (ws_expr ?_)
        refine we_append (we_ow 1 rfl ⟨_, rfl, ⟨_, rfl⟩, ?_⟩)
        refine we_im 2 rfl ⟨_, _, rfl, rfl, by decide, ?_⟩
        refine wb_nil (wb_nil ?_)
        refine ⟨rfl, ⟨.inr rfl, .inr rfl, .inl rfl, trivial⟩, ?_⟩
        rw [e2]
        exact LeO.refl _
    | cons x t =>
      have ex : (x :: t).reverse.map ch = t.reverse.map ch ++ [ch x] := by rw [List.reverse_cons, List.map_append] <;> rfl
      rw [ex]
      refine wb_cons (ws_if ?_)
      refine wt_val (decide (x = inv c)) ?_ ⟨fun z => ?_, fun z => ?_⟩
      · refine wt_and (wt_tru (we_ow 1 rfl ⟨_, ⟨_, rfl, rfl⟩, trivial, ⟨fun _ => ?_, fun z => ?_⟩⟩))
        · refine wt_cmp hr ?_
          refine we_ix (we_ow 1 rfl (we_neg (we_int ⟨_, rfl, ?_⟩)))
          refine ⟨_, _, ⟨_, rfl, rfl⟩, rfl, _, .lst (atI_neg1 _ _), ?_⟩
          refine we_call (ok__law_back T) (hr.mono (by decide)) T.g__law_back T.k__law_back T.b__law_back ?_
          refine wl_cons (we_im 2 rfl (wl_nil ⟨_, im1, rfl, ?_⟩))
          refine ⟨_, rfl, hcl, ?_⟩
          refine ⟨_, _, rfl, rfl, _, .eqS _ _, ?_⟩
          exact ⟨by simp, rfl⟩
        · exfalso
          simp [D.tru] at z
      · have z' : x = inv c := of_decide_eq_true z
        refine wb_cons (ws_expr ?_)
        refine we_pop (we_ow 1 rfl ⟨_, _, _, rfl, rfl, ?_⟩)
        refine wb_nil (wb_nil ?_)
        refine ⟨rfl, ⟨.inr rfl, .inr rfl, .inl rfl, trivial⟩, ?_⟩
        rw [e2, show stp (x :: t) c = t from if_pos z']
        exact LeO.refl _
      · have z' : ¬ x = inv c := of_decide_eq_false z
        refine wb_cons (ws_expr ?_)
        refine we_append (we_ow 1 rfl ⟨_, rfl, ⟨_, rfl⟩, ?_⟩)
        refine we_im 2 rfl ⟨_, _, rfl, rfl, ?_, ?_⟩
        · rw [List.length_append, List.length_map, List.length_reverse]
          exact hlen
        refine wb_nil (wb_nil ?_)
        refine ⟨rfl, ⟨.inr rfl, .inr rfl, .inl rfl, trivial⟩, ?_⟩
        rw [e2, show stp (x :: t) c = c :: x :: t from if_neg z', show (c :: x :: t).reverse.map ch = (t.reverse.map ch ++ [ch x]) ++ [ch c] by rw [List.reverse_cons, List.map_append, ex] <;> rfl]
        exact LeO.refl _
  · intro G hI
    rw [List.length_map, List.take_length] at hI
    refine wb_le hI ?_
    refine wb_cons (ws_ret ?_)
    refine we_join (we_str [] ⟨_, rfl, ?_⟩)
    refine we_ow 1 rfl ?_
    refine ⟨_, _, ⟨_, rfl, rfl⟩, by rw [map_ch]; exact .lst _, ?_, ?_⟩
    · have := cut_len l
      have : (l.foldl stp []).length ≤ l.length := by simpa [cut] using this
      rw [flat_ch, List.length_reverse, List.length_map, List.length_reverse, List.length_nil]
      omega
    rw [joinL_nil, flat_ch]
    exact ret_im h1
def PWord : Oc → List D → (D → Oc → Prop) → Prop := fun c ds R => ∃ ns g m, c = drw ns ∧ ds = [.int g, .int m] ∧ (1 ≤ g ∧ g ≤ 3) ∧ 0 ≤ m ∧ m ≤ 100 ∧ ∀ (l : List Nat) ns', okw LT l → (l.length : Int) ≤ m → R (.str l) (drw ns')
theorem lt_at {n : Nat} (h : n < 6) : ∃ c, atI LT (n : Int) = some c ∧ c ∈ LT := by
  have hl : n < LT.length := h
  exact ⟨LT[n], at_ofL n rfl (List.getElem?_eq_getElem hl), List.getElem_mem hl⟩
theorem ok__law_word (T : Tx K mg ad ca fm) : FnOk P w K mg base (L2.CX P w) 3 (ad i__law_word) (fm i__law_word) ["_law_draws_here", "_law_g", "_law_most"] (spO K 3 PWord) := by
  refine fn_O T.F__law_word sc__law_word 0 fun cdv A outer s H E hr c ds R hl hP => ?_
  obtain ⟨ns, g, m, rfl, rfl, hg, hm0, hm1, h1⟩ := hP
  refine wb_cons (ws_ret ?_)
  refine we_join (we_str [] ⟨_, rfl, ?_⟩)
  refine we_fr ?_
  refine wef_lc (own' := [("_law_k", 3)]) sc__law_word.nd ?_
  refine wi_rng1 T.n_range ?_
  refine we_callO (ok__law_pick T) (hr.mono (by decide)) T.g__law_pick T.k__law_pick T.b__law_pick ?_
  refine wl_cons (we_ow 0 rfl ?_)
  refine wl_cons ?_
  refine we_add (we_im 2 rfl (we_int ?_))
  walk_at "add"
  refine wl_nil ⟨0, _, _, rfl, im1, rfl, ?_⟩
  refine ⟨ns, _, rfl, rfl, by omega, fun n hn ns2 => ?_⟩
  refine ⟨_, rfl, by omega, by omega, ?_⟩
  refine ⟨by simp; omega, fun i acc om => ∃ (l : List Nat) (ns3 : List Int), acc = l.map ch ∧ l.length = i ∧ okw LT l ∧ om = [drw ns3], ⟨[], ns2, rfl, rfl, fun _ z => (by cases z), rfl⟩, ?_, ?_⟩
  · rintro i d acc om hd ⟨l, ns3, rfl, hi, ho, rfl⟩
    rw [List.getElem?_map] at hd
    obtain ⟨c, hc, rfl⟩ := Option.map_eq_some_iff.mp hd
    intro s1 H1 C cl fp
    refine wg_name 3 ?_ sc__law_word.nd
    intro s1 H1 C cl fp
    refine we_ix (we_str LT ?_)
    refine we_callO (ok__law_pick T) (hr.mono (by decide)) T.g__law_pick T.k__law_pick T.b__law_pick ?_
    refine wl_cons (we_ow 0 rfl ?_)
    refine wl_cons ?_
    refine we_mul (we_int (we_im 1 rfl ?_))
    refine ⟨_, _, rfl, rfl, _, _, rfl, rfl, .inl (by decide), ?_⟩
    refine wl_nil ⟨0, _, _, rfl, im1, rfl, ?_⟩
    refine ⟨ns3, _, rfl, rfl, by omega, fun n2 hn2 ns4 => ?_⟩
    obtain ⟨b, e1, e2⟩ := lt_at (n := n2) (by omega)
    refine ⟨_, _, rfl, rfl, _, .str (by decide) e1, ?_⟩
    refine ⟨_, rfl, rfl, rfl, l ++ [b], ns4, by rw [List.map_append] <;> rfl, by rw [List.length_append, hi] <;> rfl, app_ok ho fun x hx => ?_, rfl⟩
    rw [List.mem_singleton.mp hx]
    exact e2
  · rintro acc om ⟨l, ns3, rfl, hi, ho, rfl⟩
    rw [List.length_map, List.length_range, Int.toNat_natCast] at hi
    refine ⟨_, rfl, ?_⟩
    rw [map_ch]
    refine ⟨_, _, rfl, .lst _, by rw [flat_ch]; simp; omega, ?_⟩
    rw [joinL_nil, flat_ch]
    exact ret_imO (h1 l ns3 ho (by omega))
theorem ok__law_parted (T : Tx K mg ad ca fm) : FnOk P w K mg base (L2.CX P w) 2 (ad i__law_parted) (fm i__law_parted) ["_law_word_here"] (spF K 1 PParted) := by
  refine fn_F T.F__law_parted sc__law_parted 0 fun cdv A outer s H E hr ds R Xe hl hP => ?_
  obtain ⟨l, rfl, hn, ho, h1⟩ := hP
  refine wb_cons (ws_set 1 (we_int ?_) sc__law_parted.nd)
  refine wb_mid (fun G => Le G ⟨[.im (.str l), .im (.int (prt l : Nat)), .un], [], 0⟩ ∧ 2 * prt l ≤ l.length) (ws_for ?_) ?_
  · refine wi_rng1 T.n_range ?_
    refine we_len T.n_len (we_im 0 rfl ⟨_, rfl, _, .str hn, ?_⟩)
    refine ⟨_, rfl, by omega, by omega, ?_⟩
    refine ⟨fun i G => ∃ sz : Nat, i = sz ∧ 2 * sz ≤ l.length ∧ psz l sz (l.length - i) = prt l ∧ Le G ⟨[.im (.str l), .im (.int sz), .un], [], 0⟩, ⟨0, rfl, by omega, rfl, by walk_at "le"⟩, ?_, ?_⟩
    · rintro i d G hd ⟨sz, rfl, h2, hp, hI⟩
      have hi : i < l.length := by
        have := (List.getElem?_eq_some_iff.mp hd).1
        simpa using this
      refine wg_le hI ?_
      refine wg_name 2 ?_ sc__law_parted.nd
      refine wb_cons (ws_if ?_)
      refine wt_val (!decide (1 < (l.length : Int) - 2 * i ∧ l[i]? = (l[l.length - 1 - i]?).map inv)) ?_ ⟨fun z => ?_, fun z => ?_⟩
      · refine wt_or ?_
        refine wt_cmp hr ?_
        refine we_sub ?_
        refine we_len T.n_len (we_im 0 rfl ⟨_, rfl, _, .str hn, ?_⟩)
        refine we_mul (we_int (we_im 1 rfl ?_))
        refine ⟨_, _, rfl, rfl, _, _, rfl, rfl, .inl (by decide), ?_⟩
        refine ⟨_, _, rfl, rfl, _, _, rfl, rfl, ?_⟩
        refine we_int ?_
        refine ⟨_, _, rfl, rfl, _, .lt _ _, fun c => ?_, fun c => ?_⟩
        · have c' := of_decide_eq_true c
          have : ¬ (1 < (l.length : Int) - 2 * i) := by omega
          exact ⟨by simp [this], rfl⟩
        · have c' := of_decide_eq_false c
          have c2 : 1 < (l.length : Int) - 2 * i := by omega
          obtain ⟨a, ea⟩ : ∃ a, l[i]? = some a := ⟨_, List.getElem?_eq_getElem (by omega)⟩
          obtain ⟨b, eb⟩ : ∃ b, l[l.length - 1 - i]? = some b := ⟨_, List.getElem?_eq_getElem (by omega)⟩
          refine wt_cmp hr ?_
          refine we_ix (we_im 0 rfl (we_im 1 rfl ?_))
          refine ⟨_, _, rfl, rfl, _, .str hn (at_ofL i rfl ea), ?_⟩
          refine we_call (ok__law_back T) (hr.mono (by decide)) T.g__law_back T.k__law_back T.b__law_back ?_
          refine wl_cons ?_
          refine we_ix (we_im 0 rfl ?_)
          refine we_sub ?_
          refine we_sub ?_
          refine we_len T.n_len (we_im 0 rfl ⟨_, rfl, _, .str hn, ?_⟩)
          refine we_int ?_
          refine ⟨_, _, rfl, rfl, _, _, rfl, rfl, ?_⟩
          refine we_im 1 rfl ?_
          refine ⟨_, _, rfl, rfl, _, _, rfl, rfl, ?_⟩
          refine ⟨_, _, rfl, rfl, _, .str hn (at_ofL (l.length - 1 - i) (by omega) eb), ?_⟩
          refine wl_nil ⟨_, im1, rfl, ?_⟩
          refine ⟨_, rfl, ho b (List.mem_of_getElem? eb), ?_⟩
          refine ⟨_, _, rfl, rfl, _, .neS _ _, ?_⟩
          refine ⟨?_, rfl⟩
          rw [ea, eb]
          simp [c2]
      · have z' : ¬ (1 < (l.length : Int) - 2 * i ∧ l[i]? = (l[l.length - 1 - i]?).map inv) := fun q => by
          rw [decide_eq_true q] at z
          cases z
        have ep : prt l = i := by rw [← hp]; exact psz_stop z'
        refine wb_cons (ws_break ?_)
        refine ⟨?_, by omega⟩
        rw [ep]
        walk_at "le"
      · have z' : 1 < (l.length : Int) - 2 * i ∧ l[i]? = (l[l.length - 1 - i]?).map inv := by simpa using z
        refine wb_nil ?_
        refine wb_cons (ws_set 1 ?_ sc__law_parted.nd)
        refine we_add (we_im 1 rfl (we_int ?_))
        walk_at "add"
        refine wb_nil ⟨i + 1, rfl, by omega, ?_, ?_⟩
        · rw [← hp, show l.length - i = (l.length - (i + 1)) + 1 by omega, psz_step z']
        · exact ⟨rfl, ⟨.inr rfl, .inr (by simp [toSl]), .inl rfl, trivial⟩, LeO.refl _⟩
    · rintro G ⟨sz, hi, h2, hp, hI⟩
      have e0 : l.length = sz := by simpa using hi
      have ep : prt l = sz := by
        rw [← hp]
        exact psz_stop (by omega)
      rw [ep]
      exact ⟨hI, by omega⟩
  · rintro G ⟨hI, h2⟩
    refine wb_le hI ?_
    refine wb_cons (ws_ret ?_)
    refine we_tup ?_
    refine wl_cons ?_
    refine we_slice (we_im 0 rfl (wp_none (wp_some (we_im 1 rfl ⟨_, rfl, ?_⟩))))
    refine ⟨_, _, rfl, .str hn, ?_⟩
    refine wl_cons ?_
    refine we_slice (we_im 0 rfl (wp_some (we_im 1 rfl ⟨_, rfl, wp_some ?_⟩)))
    refine we_sub ?_
    refine we_len T.n_len (we_im 0 rfl ⟨_, rfl, _, .str hn, ?_⟩)
    refine we_im 1 rfl ?_
    refine ⟨_, _, rfl, rfl, _, _, rfl, rfl, ?_⟩
    refine ⟨_, rfl, ?_⟩
    refine ⟨_, _, rfl, .str hn, ?_⟩
    refine wl_nil ⟨_, im2, Nat.le_of_ble_eq_true rfl, ?_⟩
    refine ret_im ?_
    rw [cutL_to, show (l.length : Int) - (prt l : Nat) = ((l.length - prt l : Nat) : Int) by omega, cutL_mid l (prt l) (l.length - prt l) (by omega) (by omega)]
    exact h1
def PTurns : List D → (D → Prop) → Pz → Prop := fun ds R _ => ∃ l : List Nat, ds = [.str l] ∧ l.length ≤ 50000 ∧ R (lsts (rots l))
theorem ok__law_turns (T : Tx K mg ad ca fm) : FnOk P w K mg base (L2.CX P w) 1 (ad i__law_turns) (fm i__law_turns) ["_law_core"] (spF K 1 PTurns) := by
  refine fn_F T.F__law_turns sc__law_turns 0 fun cdv A outer s H E hr ds R Xe hl hP => ?_
  obtain ⟨l, rfl, hn, h1⟩ := hP
  have hn' : l.length ≤ 100000 := by omega
  refine wb_cons (ws_ret ?_)
  refine we_fr ?_
  refine wef_lc (own' := [("_law_k", 1)]) sc__law_turns.nd ?_
  refine wi_rng1 T.n_range ?_
  refine we_max2 T.n_max (we_int ?_)
  refine we_len T.n_len (we_im 0 rfl ⟨_, rfl, _, .str hn', ?_⟩)
  refine ⟨_, _, rfl, rfl, ?_⟩
  have em : (if (l.length : Int) > 1 then (l.length : Int) else 1) = ((max 1 l.length : Nat) : Int) := by
    split <;> omega
  rw [em]
  refine ⟨_, rfl, by omega, by omega, ?_⟩
  refine ⟨by simp; omega, fun i acc om => acc = ((List.range i).map fun i => D.str (l.drop i ++ l.take i)) ∧ om = [], ⟨rfl, rfl⟩, ?_, ?_⟩
  · intro i d acc om hd ⟨ha, hm⟩
    subst hm
    rw [List.getElem?_map] at hd
    obtain ⟨c, hc, rfl⟩ := Option.map_eq_some_iff.mp hd
    obtain ⟨hi, rfl⟩ := List.getElem?_eq_some_iff.mp hc
    rw [List.getElem_range]
    intro s1 H1 C cl fp
    refine wg_name 1 ?_ sc__law_turns.nd
    intro s1 H1 C cl fp
    refine we_add ?_
    refine we_slice (we_im 0 rfl (wp_some (we_im 1 rfl ⟨_, rfl, wp_none ?_⟩)))
    refine ⟨_, _, rfl, .str hn', ?_⟩
    refine we_slice (we_im 0 rfl (wp_none (wp_some (we_im 1 rfl ⟨_, rfl, ?_⟩))))
    refine ⟨_, _, rfl, .str hn', ?_⟩
    rw [cutL_from, cutL_to]
    refine ⟨_, _, rfl, rfl, _, .str (by rw [List.length_drop, List.length_take]; omega), ?_⟩
    refine ⟨_, rfl, rfl, rfl, ?_, rfl⟩
    rw [ha, List.range_succ, List.map_append] <;> rfl
  · rintro acc om ⟨ha, hm⟩
    refine ⟨_, rfl, ?_⟩
    refine ret_im ?_
    rw [ha, List.length_map, List.length_range, Int.toNat_natCast]
    unfold lsts rots at h1
    rw [List.map_map] at h1
    exact h1
end
end Tx

namespace Tx
open PySem PySem.Spec PyProof.Rows L2 DL
section
variable {P : Program} {w : World} {K : PySem.W.Frag} {mg : Str → Option Value} {base : Heap} {ad ca : Nat → Addr} {fm : Nat → FuncData}
def POther : Oc → List D → (D → Oc → Prop) → Prop := fun c ds R => ∃ ns g l, c = drw ns ∧ ds = [.int g, .str l] ∧ (1 ≤ g ∧ g ≤ 3) ∧ okw LT l ∧ l.length ≤ 60 ∧ ∀ (b : List Nat) ns', okw LT b → b.length ≤ l.length + 10 → R (.str b) (drw ns')
theorem ok__law_other (T : Tx K mg ad ca fm) : FnOk P w K mg base (L2.CX P w) 4 (ad i__law_other) (fm i__law_other) ["_law_draws_here", "_law_g", "_law_word_here"] (spO K 3 POther) := by
  refine fn_O T.F__law_other sc__law_other 0 fun cdv A outer s H E hr c ds R hl hP => ?_
  obtain ⟨ns, g, l, rfl, rfl, hg, ho, hn, h1⟩ := hP
  refine wb_cons (ws_if ?_)
  refine wt_cmp hr ?_
  refine we_callO (ok__law_pick T) (hr.mono (by decide)) T.g__law_pick T.k__law_pick T.b__law_pick ?_
  refine wl_cons (we_ow 0 rfl (wl_cons (we_int (wl_nil ⟨0, _, _, rfl, im1, rfl, ?_⟩))))
  refine ⟨ns, _, rfl, rfl, by decide, fun n1 hn1 ns1 => ?_⟩
  refine we_int ?_
  walk_at "cmp"
  refine ⟨fun c => ?_, fun c => ?_⟩
  · refine wb_cons (ws_ret ?_)
    refine we_callO (ok__law_word T) (hr.mono (by decide)) T.g__law_word T.k__law_word T.b__law_word ?_
    refine wl_cons (we_ow 0 rfl (wl_cons (we_im 1 rfl (wl_cons (we_int (wl_nil ⟨0, _, _, rfl, im2, rfl, ?_⟩))))))
    exact ⟨ns1, _, _, rfl, rfl, hg, by decide, by decide, fun b ns2 hb hbl => ret_imO (h1 b ns2 hb (by omega))⟩
  refine wb_nil ?_
  refine wb_cons (ws_set 3 ?_ sc__law_other.nd)
  refine we_call (ok__law_turns T) (hr.mono (by decide)) T.g__law_turns T.k__law_turns T.b__law_turns ?_
  refine wl_cons ?_
  refine we_ix ?_
  refine we_call (ok__law_parted T) (hr.mono (by decide)) T.g__law_parted T.k__law_parted T.b__law_parted ?_
  refine wl_cons ?_
  refine we_call (ok__law_cut T) (hr.mono (by decide)) T.g__law_cut T.k__law_cut T.b__law_cut ?_
  refine wl_cons (we_im 2 rfl (wl_nil ⟨_, im1, rfl, ?_⟩))
  have cl := cut_len l
  have col := core_len (cut l)
  have oc := core_ok (cut_ok ho)
  refine ⟨_, rfl, by omega, ho, ?_⟩
  refine wl_nil ⟨_, im1, rfl, ?_⟩
  refine ⟨_, rfl, by omega, cut_ok ho, ?_⟩
  refine we_int ?_
  refine ⟨_, _, rfl, rfl, _, .tup (at_ofL 1 rfl rfl), ?_⟩
  refine wl_nil ⟨_, im1, rfl, ?_⟩
  refine ⟨_, rfl, by omega, ?_⟩
  refine wb_cons (ws_set 4 ?_ sc__law_other.nd)
  refine we_callO (ok__law_word T) (hr.mono (by decide)) T.g__law_word T.k__law_word T.b__law_word ?_
  refine wl_cons (we_ow 0 rfl (wl_cons (we_im 1 rfl (wl_cons (we_int (wl_nil ⟨0, _, _, rfl, im2, rfl, ?_⟩))))))
  refine ⟨ns1, _, _, rfl, rfl, hg, by decide, by decide, fun st ns3 hst hsl => ?_⟩
  refine wb_cons (ws_ret ?_)
  refine we_add ?_
  refine we_add (we_im 4 rfl ?_)
  refine we_ix (we_im 3 rfl ?_)
  refine we_callO (ok__law_pick T) (hr.mono (by decide)) T.g__law_pick T.k__law_pick T.b__law_pick ?_
  refine wl_cons (we_ow 0 rfl (wl_cons ?_))
  refine we_len T.n_len (we_im 3 rfl ⟨_, rfl, _, .lst _, ?_⟩)
  refine wl_nil ⟨0, _, _, rfl, im1, rfl, ?_⟩
  have rp := rots_ne (core (cut l))
  refine ⟨ns3, _, rfl, rfl, by rw [List.length_map]; omega, fun n2 hn2 ns2 => ?_⟩
  rw [List.length_map] at hn2
  obtain ⟨x, hx⟩ : ∃ x, (rots (core (cut l)))[n2]? = some x := ⟨_, List.getElem?_eq_getElem (by omega)⟩
  have xm := List.mem_of_getElem? hx
  have xl := rots_len xm
  have xo := rots_ok oc xm
  refine ⟨_, _, rfl, rfl, _, .lst (at_ofL n2 rfl (by rw [List.getElem?_map, hx] <;> rfl)), ?_⟩
  refine ⟨_, _, rfl, rfl, _, .str (by omega), ?_⟩
  refine we_call (ok__law_turned T) (hr.mono (by decide)) T.g__law_turned T.k__law_turned T.b__law_turned ?_
  refine wl_cons (we_im 4 rfl (wl_nil ⟨_, im1, rfl, ?_⟩))
  refine ⟨_, rfl, by omega, hst, ?_⟩
  refine ⟨_, _, rfl, rfl, _, .str (by rw [List.length_append, trn_len]; omega), ?_⟩
  exact ret_imO (h1 _ _ (app_ok (app_ok hst xo) (trn_ok hst)) (by rw [List.length_append, List.length_append, trn_len]; omega))
def First (l o : List Nat) (i : Nat) : Prop := (rots (core (cut l)))[i]? = some (core (cut o)) ∧ ∀ j, j < i → (rots (core (cut l)))[j]? ≠ some (core (cut o))
theorem first_ex {l o : List Nat} (h : core (cut o) ∈ rots (core (cut l))) : ∃ i, First l o i := by
  have go : ∀ (xs : List (List Nat)) (a : List Nat), a ∈ xs → ∃ i : Nat, xs[i]? = some a ∧ ∀ j, j < i → xs[j]? ≠ some a := by
    intro xs a
    induction xs with
    | nil => exact fun h => by cases h
    | cons x xs ih =>
      intro h
      by_cases e : x = a
      · exact ⟨0, by rw [e]; rfl, fun j hj => absurd hj (by omega)⟩
      · obtain ⟨i, h1, h2⟩ := ih ((List.mem_cons.mp h).resolve_left fun z => e z.symm)
        refine ⟨i + 1, h1, fun j hj => ?_⟩
        cases j with
        | zero => exact fun z => e (Option.some.inj z)
        | succ j => exact h2 j (by omega)
  exact go _ _ h
def PDue : List D → (D → Prop) → Pz → Prop := fun ds R _ => ∃ l o : List Nat, ds = [.str l, .str o] ∧ (okw LT l ∧ l.length ≤ 60) ∧ (okw LT o ∧ o.length ≤ 60) ∧ (∀ i, First l o i → R (.str (fcon l o i))) ∧ (core (cut o) ∉ rots (core (cut l)) → R .non)
theorem ok__law_due (T : Tx K mg ad ca fm) : FnOk P w K mg base (L2.CX P w) 3 (ad i__law_due) (fm i__law_due) ["_law_one", "_law_other_here"] (spF K 2 PDue) := by
  refine fn_F T.F__law_due sc__law_due 0 fun cdv A outer s H E hr ds R Xe hl hP => ?_
  obtain ⟨l, o, rfl, hl', ho', h1, h2⟩ := hP
  have cl := cut_len l
  have co := cut_len o
  have col := core_len (cut l)
  have fl1 : (fstem l).length ≤ 60 := by unfold fstem; rw [List.length_take]; omega
  have fl2 : (fstem o).length ≤ 60 := by unfold fstem; rw [List.length_take]; omega
  have fs1 : okw LT (fstem l) := fun x hx => cut_ok hl'.1 x (List.mem_of_mem_take hx)
  have fs2 : okw LT (fstem o) := fun x hx => cut_ok ho'.1 x (List.mem_of_mem_take hx)
  refine wb_cons (ws_asg ?_)
  refine we_call (ok__law_parted T) (hr.mono (by decide)) T.g__law_parted T.k__law_parted T.b__law_parted ?_
  refine wl_cons ?_
  refine we_call (ok__law_cut T) (hr.mono (by decide)) T.g__law_cut T.k__law_cut T.b__law_cut ?_
  refine wl_cons (we_im 0 rfl (wl_nil ⟨_, im1, rfl, ?_⟩))
  refine ⟨_, rfl, by omega, hl'.1, ?_⟩
  refine wl_nil ⟨_, im1, rfl, ?_⟩
  refine ⟨_, rfl, by omega, cut_ok hl'.1, ?_⟩
  refine ⟨_, rfl, ?_⟩
  refine wg_pair (wg_name 2 (wg_name 3 ?_ sc__law_due.nd) sc__law_due.nd)
  refine wb_cons (ws_asg ?_)
  refine we_call (ok__law_parted T) (hr.mono (by decide)) T.g__law_parted T.k__law_parted T.b__law_parted ?_
  refine wl_cons ?_
  refine we_call (ok__law_cut T) (hr.mono (by decide)) T.g__law_cut T.k__law_cut T.b__law_cut ?_
  refine wl_cons (we_im 1 rfl (wl_nil ⟨_, im1, rfl, ?_⟩))
  refine ⟨_, rfl, by omega, ho'.1, ?_⟩
  refine wl_nil ⟨_, im1, rfl, ?_⟩
  refine ⟨_, rfl, by omega, cut_ok ho'.1, ?_⟩
  refine ⟨_, rfl, ?_⟩
  refine wg_pair (wg_name 4 (wg_name 5 ?_ sc__law_due.nd) sc__law_due.nd)
  refine wb_cons (ws_set 6 ?_ sc__law_due.nd)
  refine we_call (ok__law_turns T) (hr.mono (by decide)) T.g__law_turns T.k__law_turns T.b__law_turns ?_
  refine wl_cons (we_im 3 rfl (wl_nil ⟨_, im1, rfl, ?_⟩))
  refine ⟨_, rfl, by omega, ?_⟩
  refine wb_cons (ws_if ?_)
  refine wt_cmp hr (we_im 5 rfl (we_im 6 rfl ?_))
  refine ⟨_, _, rfl, rfl, _, .ninS _ _, fun c => ?_, fun c => ?_⟩
  · have c' : core (cut o) ∉ rots (core (cut l)) := by simpa using c
    exact wb_cons (ws_ret (we_non (ret_im (h2 c'))))
  · have c' : core (cut o) ∈ rots (core (cut l)) := by simpa using c
    obtain ⟨i, hi1, hi2⟩ := first_ex c'
    have fl1' : ((cut l).take (prt (cut l))).length ≤ 60 := fl1
    have fl2' : ((cut o).take (prt (cut o))).length ≤ 60 := fl2
    have ci : ((core (cut l)).take i).length ≤ 60 := by rw [List.length_take]; omega
    refine wb_nil ?_
    refine wb_cons (ws_ret ?_)
    refine we_call (ok__law_cut T) (hr.mono (by decide)) T.g__law_cut T.k__law_cut T.b__law_cut ?_
    refine wl_cons ?_
    refine we_add ?_
    refine we_add (we_im 2 rfl ?_)
    refine we_slice (we_im 3 rfl (wp_none (wp_some ?_)))
    refine we_lindexS (we_im 6 rfl ⟨rots (core (cut l)), rfl, we_im 5 rfl ⟨_, i, rfl, rfl, hi1, hi2, ?_⟩⟩)
    refine ⟨_, rfl, ?_⟩
    refine ⟨_, _, rfl, .str (by omega), ?_⟩
    rw [cutL_to]
    refine ⟨_, _, rfl, rfl, _, .str (by omega), ?_⟩
    refine we_call (ok__law_turned T) (hr.mono (by decide)) T.g__law_turned T.k__law_turned T.b__law_turned ?_
    refine wl_cons (we_im 4 rfl (wl_nil ⟨_, im1, rfl, ?_⟩))
    refine ⟨_, rfl, by show (fstem o).length ≤ _; omega, fs2, ?_⟩
    refine ⟨_, _, rfl, rfl, _, .str (by rw [List.length_append, trn_len]; omega), ?_⟩
    refine wl_nil ⟨_, im1, rfl, ?_⟩
    exact ⟨_, rfl, by rw [List.length_append, List.length_append, trn_len]; omega, app_ok (app_ok fs1 fun y hy => core_ok (cut_ok hl'.1) y (List.mem_of_mem_take hy)) (trn_ok fs2), ret_im (h1 i ⟨hi1, hi2⟩)⟩
def PIsOne : List D → (D → Prop) → Pz → Prop := fun ds R _ => ∃ l o b : List Nat, ds = [.str l, .str o, .str b] ∧ (okw LT l ∧ l.length ≤ 1000) ∧ (okw LT o ∧ o.length ≤ 1000) ∧ (okw LT b ∧ b.length ≤ 1000) ∧ R (.bl (decide (cut (trn b ++ l ++ b) = cut o)))
theorem ok__law_is_one (T : Tx K mg ad ca fm) : FnOk P w K mg base (L2.CX P w) 3 (ad i__law_is_one) (fm i__law_is_one) ["_law_one", "_law_other_here", "_law_by"] (spF K 3 PIsOne) := by
  refine fn_F T.F__law_is_one sc__law_is_one 0 fun cdv A outer s H E hr ds R Xe hl hP => ?_
  obtain ⟨l, o, b, rfl, hl', ho', hb', h1⟩ := hP
  refine wb_cons (ws_ret ?_)
  refine we_cmp hr ?_
  refine we_call (ok__law_cut T) (hr.mono (by decide)) T.g__law_cut T.k__law_cut T.b__law_cut ?_
  refine wl_cons ?_
  refine we_add ?_
  refine we_add ?_
  refine we_call (ok__law_turned T) (hr.mono (by decide)) T.g__law_turned T.k__law_turned T.b__law_turned ?_
  refine wl_cons (we_im 2 rfl (wl_nil ⟨_, im1, rfl, ?_⟩))
  refine ⟨_, rfl, by omega, hb'.1, ?_⟩
  refine we_im 0 rfl ?_
  refine ⟨_, _, rfl, rfl, _, .str (by rw [trn_len]; omega), ?_⟩
  refine we_im 2 rfl ?_
  refine ⟨_, _, rfl, rfl, _, .str (by rw [List.length_append, trn_len]; omega), ?_⟩
  refine wl_nil ⟨_, im1, rfl, ?_⟩
  refine ⟨_, rfl, by rw [List.length_append, List.length_append, trn_len]; omega, app_ok (app_ok (trn_ok hb'.1) hl'.1) hb'.1, ?_⟩
  refine we_call (ok__law_cut T) (hr.mono (by decide)) T.g__law_cut T.k__law_cut T.b__law_cut ?_
  refine wl_cons (we_im 1 rfl (wl_nil ⟨_, im1, rfl, ?_⟩))
  refine ⟨_, rfl, by omega, ho'.1, ?_⟩
  walk_at "cmp"
  exact ret_im h1
end
end Tx

namespace Tx
open PySem PySem.Spec PyProof.Rows L2 DL
theorem fcon_ok {l o : List Nat} {i : Nat} (hl : okw LT l) (ho : okw LT o) : okw LT (fcon l o i) := cut_ok (app_ok (app_ok (fun x hx => cut_ok hl x (List.mem_of_mem_take hx)) fun x hx => core_ok (cut_ok hl) x (List.mem_of_mem_take hx)) (trn_ok fun x hx => cut_ok ho x (List.mem_of_mem_take hx)))
theorem fcon_len (l o : List Nat) (i : Nat) : (fcon l o i).length ≤ l.length + l.length + o.length := by
  have h1 := cut_len (fstem l ++ (core (cut l)).take i ++ trn (fstem o))
  have h2 := cut_len l
  have h3 := cut_len o
  have h4 := core_len (cut l)
  unfold fcon
  rw [List.length_append, List.length_append, trn_len, List.length_take] at h1
  have h5 : (fstem l).length ≤ (cut l).length := by unfold fstem; rw [List.length_take]; omega
  have h6 : (fstem o).length ≤ (cut o).length := by unfold fstem; rw [List.length_take]; omega
  omega
theorem pw_cmm {l r : List Nat} (hl : okw LT l) (hr : okw LT r) (h : Root l r) (e : Int) : Cmm (pw r e) l ∧ okw LT (pw r e) := by
  unfold pw
  by_cases c : e < 0
  · rw [if_pos c]
    have o := srep_ok (trn_ok hr) (-e).toNat
    exact ⟨(cmm_cut o hl).mpr (cmm_rep (trn_ok hr) hl (cmm_trn hr hl (root_cmm hl hr h)) _), cut_ok o⟩
  · rw [if_neg c]
    have o := srep_ok hr e.toNat
    exact ⟨(cmm_cut o hl).mpr (cmm_rep hr hl (root_cmm hl hr h) _), cut_ok o⟩
theorem pw_len {r : List Nat} {e : Int} (h : -3 ≤ e ∧ e ≤ 3) : (pw r e).length ≤ 3 * r.length := by
  unfold pw
  have h1 := cut_len (if e < 0 then srep (trn r) (-e).toNat else srep r e.toNat)
  by_cases c : e < 0
  · rw [if_pos c] at h1 ⊢
    rw [srep_len, trn_len] at h1
    exact Nat.le_trans h1 (Nat.mul_le_mul (by omega) (Nat.le_refl _))
  · rw [if_neg c] at h1 ⊢
    rw [srep_len] at h1
    exact Nat.le_trans h1 (Nat.mul_le_mul (by omega) (Nat.le_refl _))
section
variable {P : Program} {w : World} {K : PySem.W.Frag} {mg : Str → Option Value} {base : Heap} {ad ca : Nat → Addr} {fm : Nat → FuncData}
theorem ok_law (T : Tx K mg ad ca fm) : FnOk P w K mg base (L2.CX P w) 10 (ad i_law) (fm i_law) ["_law_script"] (spF K 1 PLaw) := by
  refine fn_F T.F_law sc_law 1 fun cdv A outer s H E hr ds R Xe hl hP => ?_
  obtain ⟨zs, rfl, hz, hR⟩ := hP
  refine wb_cons (ws_own 1 0 ?_ sc_law.nd)
  refine wef_call (ok__law_draws T) (hr.mono (by decide)) T.g__law_draws T.k__law_draws T.b__law_draws ?_
  refine wl_cons (we_im 0 rfl (wl_nil ⟨_, im1, rfl, ?_⟩))
  refine ⟨zs, rfl, hz, fun ns => ?_⟩
  refine ⟨Nat.le_of_ble_eq_true rfl, Nat.le_of_ble_eq_true rfl, rfl, ?_⟩
  refine wb_cons (ws_set 2 ?_ sc_law.nd)
  refine we_add (we_int ?_)
  refine we_callO (ok__law_pick T) (hr.mono (by decide)) T.g__law_pick T.k__law_pick T.b__law_pick ?_
  refine wl_cons (we_ow 1 rfl (wl_cons (we_int (wl_nil ⟨0, _, _, rfl, im1, rfl, ?_⟩))))
  refine ⟨ns, _, rfl, rfl, by decide, fun n1 hn1 ns1 => ?_⟩
  walk_at "add"
  refine wb_cons (ws_set 3 ?_ sc_law.nd)
  refine we_callO (ok__law_word T) (hr.mono (by decide)) T.g__law_word T.k__law_word T.b__law_word ?_
  refine wl_cons (we_ow 1 rfl (wl_cons (we_im 2 rfl (wl_cons (we_int (wl_nil ⟨0, _, _, rfl, im2, rfl, ?_⟩))))))
  refine ⟨ns1, _, _, rfl, rfl, by omega, by decide, by decide, fun l ns2 ho hn => ?_⟩
  refine wb_cons (ws_set 4 ?_ sc_law.nd)
  refine we_callO (ok__law_other T) (hr.mono (by decide)) T.g__law_other T.k__law_other T.b__law_other ?_
  refine wl_cons (we_ow 1 rfl (wl_cons (we_im 2 rfl (wl_cons (we_im 3 rfl (wl_nil ⟨0, _, _, rfl, im2, rfl, ?_⟩))))))
  refine ⟨ns2, _, _, rfl, rfl, by omega, ho, by omega, fun o ns3 hoo hno => ?_⟩
  refine wb_cons (ws_set 5 ?_ sc_law.nd)
  refine we_callO (ok__law_other T) (hr.mono (by decide)) T.g__law_other T.k__law_other T.b__law_other ?_
  refine wl_cons (we_ow 1 rfl (wl_cons (we_im 2 rfl (wl_cons (we_im 4 rfl (wl_nil ⟨0, _, _, rfl, im2, rfl, ?_⟩))))))
  refine ⟨ns3, _, _, rfl, rfl, by omega, hoo, by omega, fun t ns4 hot hnt => ?_⟩
  have gl : okw LT l ∧ l.length ≤ 60 := ⟨ho, by omega⟩
  have go : okw LT o ∧ o.length ≤ 60 := ⟨hoo, by omega⟩
  have gt : okw LT t ∧ t.length ≤ 60 := ⟨hot, by omega⟩
  refine wb_le (G' := ⟨[.un, .ow 0, .un, .im (.str l), .im (.str o), .im (.str t), .un, .un, .un, .un, .un], [drw ns4], 0⟩) (by walk_at "le") ?_
  by_cases hm : core (cut o) ∈ rots (core (cut l))
  · obtain ⟨i, hi⟩ := first_ex hm
    have hj := fcon_cjr ho hoo hi.1
    have fo := fcon_ok (i := i) ho hoo
    have fl := fcon_len l o i
    refine wb_cons (ws_set 6 ?_ sc_law.nd)
    refine we_call (ok_free_conjugator T) (hr.mono (by decide)) T.g_free_conjugator T.k_free_conjugator T.b_free_conjugator ?_
    refine wl_cons (we_im 3 rfl (wl_cons (we_im 4 rfl (wl_nil ⟨_, im2, rfl, ?_⟩))))
    refine ⟨_, _, rfl, by omega, by omega, fun _ => ⟨fun i2 a1 a2 => ?_, fun z => (z hm).elim⟩, fun z => (z ⟨gl, go⟩).elim⟩
    have ei : i2 = i := by
      rcases Nat.lt_trichotomy i2 i with q | q | q
      · exact (hi.2 i2 q a1).elim
      · exact q
      · exact (a2 i q hi.1).elim
    subst ei
    clear a1 a2
    generalize hb : fcon l o i2 = b at hj fo fl ⊢
    have lb : b.length ≤ 46 := by omega
    refine wb_cons (ws_if ?_)
    refine wt_val false ?_ ⟨fun z => (by cases z), fun _ => ?_⟩
    · refine wt_or ?_
      refine wt_cmp hr ?_
      refine we_im 6 rfl ?_
      refine we_call (ok__law_due T) (hr.mono (by decide)) T.g__law_due T.k__law_due T.b__law_due ?_
      refine wl_cons (we_im 3 rfl (wl_cons (we_im 4 rfl (wl_nil ⟨_, im2, rfl, ?_⟩))))
      refine ⟨_, _, rfl, gl, go, fun i3 h3 => ?_, fun z => (z hm).elim⟩
      have ei : i3 = i2 := by
        rcases Nat.lt_trichotomy i3 i2 with q | q | q
        · exact (hi.2 i3 q h3.1).elim
        · exact q
        · exact (h3.2 i2 q hi.1).elim
      subst ei
      rw [hb]
      walk_at "cmp"
      refine ⟨fun z => by simp at z, fun _ => ?_⟩
      refine wt_cmp hr ?_
      refine we_cmp hr ?_
      refine we_im 6 rfl (we_non ?_)
      refine ⟨_, _, rfl, rfl, _, .isN _, ?_⟩
      refine we_call (ok_free_conjugate T) (hr.mono (by decide)) T.g_free_conjugate T.k_free_conjugate T.b_free_conjugate ?_
      refine wl_cons (we_im 3 rfl (wl_cons (we_im 4 rfl (wl_nil ⟨_, im2, rfl, ?_⟩))))
      refine ⟨_, _, rfl, by omega, by omega, fun _ c1 c2 hc1 hc2 => ?_, fun z => (z ⟨gl, go⟩).elim⟩
      have e12 := (cls_iff ho hoo hc1 hc2).mpr hm
      refine ⟨_, _, rfl, rfl, _, .eqB _ _, ?_⟩
      exact ⟨by simp [e12, D.isN], rfl⟩
    refine wb_nil ?_
    refine wb_cons (ws_if ?_)
    refine wt_cmp hr (we_im 6 rfl (we_non ?_))
    refine ⟨_, _, rfl, rfl, _, .isN _, fun c => (by cases c), fun _ => ?_⟩
    refine wb_nil ?_
    refine wb_cons (ws_if ?_)
    refine wt_val false ?_ ⟨fun z => (by cases z), fun _ => ?_⟩
    · refine wt_or ?_
      refine wt_not ?_
      refine wt_tru ?_
      refine we_call (ok__law_is_one T) (hr.mono (by decide)) T.g__law_is_one T.k__law_is_one T.b__law_is_one ?_
      refine wl_cons (we_im 3 rfl (wl_cons (we_im 4 rfl (wl_cons (we_im 6 rfl (wl_nil ⟨_, im3, rfl, ?_⟩))))))
      refine ⟨_, _, _, rfl, ⟨ho, by omega⟩, ⟨hoo, by omega⟩, ⟨fo, by omega⟩, ?_⟩
      refine ⟨_, rfl, trivial, fun z => ?_, fun _ => ?_⟩
      · rw [show cut (trn b ++ l ++ b) = cut o from hj] at z
        simp [D.tru] at z
      refine wt_cmp hr ?_
      refine we_call (ok_conjugated T) (hr.mono (by decide)) T.g_conjugated T.k_conjugated T.b_conjugated ?_
      refine wl_cons (we_im 3 rfl (wl_cons (we_im 6 rfl (wl_nil ⟨_, im2, rfl, ?_⟩))))
      refine ⟨_, _, rfl, by omega, by omega, fun _ => ?_, fun z => (z ⟨gl, fo, by omega⟩).elim⟩
      refine we_call (ok__law_cut T) (hr.mono (by decide)) T.g__law_cut T.k__law_cut T.b__law_cut ?_
      refine wl_cons (we_im 4 rfl (wl_nil ⟨_, im1, rfl, ?_⟩))
      refine ⟨_, rfl, by omega, hoo, ?_⟩
      walk_at "cmp"
      refine ⟨?_, rfl⟩
      rw [show cut (trn b ++ l ++ b) = cut o from hj]
      simp
    refine wb_nil ?_
    refine wb_cons (ws_if ?_)
    refine wt_val false ?_ ⟨fun z => (by cases z), fun _ => ?_⟩
    · refine wt_not ?_
      refine wt_tru ?_
      refine we_call (ok__law_is_one T) (hr.mono (by decide)) T.g__law_is_one T.k__law_is_one T.b__law_is_one ?_
      refine wl_cons (we_im 4 rfl (wl_cons (we_im 3 rfl (wl_cons ?_))))
      refine we_call (ok__law_turned T) (hr.mono (by decide)) T.g__law_turned T.k__law_turned T.b__law_turned ?_
      refine wl_cons (we_im 6 rfl (wl_nil ⟨_, im1, rfl, ?_⟩))
      refine ⟨_, rfl, by omega, fo, ?_⟩
      refine wl_nil ⟨_, im3, rfl, ?_⟩
      refine ⟨_, _, _, rfl, ⟨hoo, by omega⟩, ⟨ho, by omega⟩, ⟨trn_ok fo, by rw [trn_len]; omega⟩, ?_⟩
      refine ⟨_, rfl, trivial, ?_, rfl⟩
      rw [show cut (trn (trn b) ++ o ++ trn b) = cut l from cjr_back ho hoo fo hj]
      simp [D.tru]
    refine wb_nil ?_
    refine wb_mid (fun G => Le G ⟨[.un, .ow 0, .un, .im (.str l), .im (.str o), .im (.str t), .im (.str b), .im .non, .un, .un, .un], [drw ns4], 0⟩ ∨ ∃ c, Cjr o t c ∧ okw LT c ∧ c.length ≤ 200 ∧ core (cut t) ∈ rots (core (cut o)) ∧ Le G ⟨[.un, .ow 0, .un, .im (.str l), .im (.str o), .im (.str t), .im (.str b), .im (.str c), .un, .un, .un], [drw ns4], 0⟩) (ws_set 7 ?_ sc_law.nd) ?_
    · refine we_call (ok_free_conjugator T) (hr.mono (by decide)) T.g_free_conjugator T.k_free_conjugator T.b_free_conjugator ?_
      refine wl_cons (we_im 4 rfl (wl_cons (we_im 5 rfl (wl_nil ⟨_, im2, rfl, ?_⟩))))
      refine ⟨_, _, rfl, by omega, by omega, fun _ => ⟨fun i3 a1 a2 => ?_, fun z => ?_⟩, fun z => (z ⟨go, gt⟩).elim⟩
      · have q := fcon_len o t i3
        exact .inr ⟨fcon o t i3, fcon_cjr hoo hot a1, fcon_ok hoo hot, by omega, List.mem_of_getElem? a1, by walk_at "le"⟩
      · exact .inl (by walk_at "le")
    intro G hG
    refine wb_mid (fun G => Le G ⟨[.un, .ow 0, .un, .im (.str l), .im (.str o), .im (.str t), .im (.str b), .un, .un, .un, .un], [drw ns4], 0⟩) (ws_if ?_) ?_
    · rcases hG with hG | ⟨c, hc1, hc2, hc3, hc4, hG⟩
      · refine wt_le hG ?_
        refine wt_val false ?_ ⟨fun z => (by cases z), fun _ => wb_nil (by walk_at "le")⟩
        refine wt_and ?_
        refine wt_cmp hr (we_im 7 rfl (we_non ?_))
        refine ⟨_, _, rfl, rfl, _, .notN _, fun c => (by cases c), fun _ => ⟨rfl, rfl⟩⟩
      · refine wt_le hG ?_
        refine wt_val false ?_ ⟨fun z => (by cases z), fun _ => wb_nil (by walk_at "le")⟩
        refine wt_and ?_
        refine wt_cmp hr (we_im 7 rfl (we_non ?_))
        refine ⟨_, _, rfl, rfl, _, .notN _, fun _ => ?_, fun c => (by cases c)⟩
        refine wt_or ?_
        refine wt_not ?_
        refine wt_tru ?_
        refine we_call (ok__law_is_one T) (hr.mono (by decide)) T.g__law_is_one T.k__law_is_one T.b__law_is_one ?_
        refine wl_cons (we_im 3 rfl (wl_cons (we_im 5 rfl (wl_cons ?_))))
        refine we_add (we_im 6 rfl (we_im 7 rfl ?_))
        refine ⟨_, _, rfl, rfl, _, .str (by omega), ?_⟩
        refine wl_nil ⟨_, im3, rfl, ?_⟩
        refine ⟨_, _, _, rfl, ⟨ho, by omega⟩, ⟨hot, by omega⟩, ⟨app_ok fo hc2, by rw [List.length_append]; omega⟩, ?_⟩
        refine ⟨_, rfl, trivial, fun z => ?_, fun _ => ?_⟩
        · rw [show cut (trn (b ++ c) ++ l ++ (b ++ c)) = cut t from cjr_join ho hoo fo hc2 hj hc1] at z
          simp [D.tru] at z
        refine wt_not ?_
        refine wt_tru ?_
        refine we_call (ok_free_conjugate T) (hr.mono (by decide)) T.g_free_conjugate T.k_free_conjugate T.b_free_conjugate ?_
        refine wl_cons (we_im 3 rfl (wl_cons (we_im 5 rfl (wl_nil ⟨_, im2, rfl, ?_⟩))))
        refine ⟨_, _, rfl, by omega, by omega, fun _ c1 c2 hd1 hd2 => ?_, fun z => (z ⟨gl, gt⟩).elim⟩
        have e12 := (cls_iff ho hot hd1 hd2).mpr (mem_rots.mpr ((mem_rots.mp hm).trans (mem_rots.mp hc4)))
        refine ⟨_, rfl, trivial, ?_, rfl⟩
        simp [e12, D.tru]
    intro G hG
    refine wb_le hG ?_
    refine wb_cons (ws_if ?_)
    refine wt_cmp hr ?_
    refine we_call (ok__law_cut T) (hr.mono (by decide)) T.g__law_cut T.k__law_cut T.b__law_cut ?_
    refine wl_cons (we_im 3 rfl (wl_nil ⟨_, im1, rfl, ?_⟩))
    refine ⟨_, rfl, by omega, ho, ?_⟩
    refine we_str [] ?_
    walk_at "cmp"
    refine ⟨fun c => ?_, fun c => ?_⟩
    · exact wb_cons (ws_ret (we_bl (ret_im hR)))
    have hne : cut l ≠ [] := of_decide_eq_false c
    refine wb_nil ?_
    refine wb_cons (ws_set 8 ?_ sc_law.nd)
    refine we_ix ?_
    refine we_call (ok_root_of T) (hr.mono (by decide)) T.g_root_of T.k_root_of T.b_root_of ?_
    refine wl_cons (we_im 3 rfl (wl_nil ⟨_, im1, rfl, ?_⟩))
    refine ⟨_, rfl, gl, hne, fun r n hro hrl hroot => ?_⟩
    refine we_int ?_
    refine ⟨_, _, rfl, rfl, _, .tup (at_ofL 0 rfl rfl), ?_⟩
    refine wb_cons (ws_set 9 ?_ sc_law.nd)
    refine we_call (ok__law_cut T) (hr.mono (by decide)) T.g__law_cut T.k__law_cut T.b__law_cut ?_
    refine wl_cons ?_
    refine we_add ?_
    refine we_call (ok_power T) (hr.mono (by decide)) T.g_power T.k_power T.b_power ?_
    refine wl_cons (we_im 8 rfl (wl_cons ?_))
    refine we_sub ?_
    refine we_callO (ok__law_pick T) (hr.mono (by decide)) T.g__law_pick T.k__law_pick T.b__law_pick ?_
    refine wl_cons (we_ow 1 rfl (wl_cons (we_int (wl_nil ⟨0, _, _, rfl, im1, rfl, ?_⟩))))
    refine ⟨ns4, _, rfl, rfl, by decide, fun n3 hn3 ns5 => ?_⟩
    refine we_int ?_
    refine ⟨_, _, rfl, rfl, _, _, rfl, rfl, ?_⟩
    refine wl_nil ⟨_, im2, rfl, ?_⟩
    refine ⟨_, _, rfl, ⟨hro, by omega⟩, by omega, ?_⟩
    obtain ⟨hcm, hpo⟩ := pw_cmm ho hro hroot ((n3 : Int) - 3)
    have hpl := pw_len (r := r) (e := (n3 : Int) - 3) (by omega)
    generalize pw r ((n3 : Int) - 3) = q at hcm hpo hpl ⊢
    refine we_im 6 rfl ?_
    refine ⟨_, _, rfl, rfl, _, .str (by omega), ?_⟩
    refine wl_nil ⟨_, im1, rfl, ?_⟩
    have oqb := app_ok hpo fo
    have lqb : (q ++ b).length ≤ 90 := by rw [List.length_append]; omega
    have cqb := cut_len (q ++ b)
    refine ⟨_, rfl, by omega, oqb, ?_⟩
    refine wb_cons (ws_if ?_)
    refine wt_val false ?_ ⟨fun z => (by cases z), fun _ => ?_⟩
    · refine wt_not ?_
      refine wt_tru ?_
      refine we_call (ok__law_is_one T) (hr.mono (by decide)) T.g__law_is_one T.k__law_is_one T.b__law_is_one ?_
      refine wl_cons (we_im 3 rfl (wl_cons (we_im 4 rfl (wl_cons (we_im 9 rfl (wl_nil ⟨_, im3, rfl, ?_⟩))))))
      refine ⟨_, _, _, rfl, ⟨ho, by omega⟩, ⟨hoo, by omega⟩, ⟨cut_ok oqb, by omega⟩, ?_⟩
      refine ⟨_, rfl, trivial, ?_, rfl⟩
      rw [show cut (trn (cut (q ++ b)) ++ l ++ cut (q ++ b)) = cut o from (cjr_cut ho oqb).mpr (cjr_cmm ho hpo fo hj hcm)]
      simp [D.tru]
    refine wb_nil ?_
    refine wb_cons (ws_set 10 ?_ sc_law.nd)
    refine we_call (ok__law_cut T) (hr.mono (by decide)) T.g__law_cut T.k__law_cut T.b__law_cut ?_
    refine wl_cons ?_
    refine we_add (we_im 9 rfl ?_)
    refine we_call (ok__law_turned T) (hr.mono (by decide)) T.g__law_turned T.k__law_turned T.b__law_turned ?_
    refine wl_cons (we_im 6 rfl (wl_nil ⟨_, im1, rfl, ?_⟩))
    refine ⟨_, rfl, by omega, fo, ?_⟩
    refine ⟨_, _, rfl, rfl, _, .str (by rw [trn_len]; omega), ?_⟩
    refine wl_nil ⟨_, im1, rfl, ?_⟩
    refine ⟨_, rfl, by rw [List.length_append, trn_len]; omega, app_ok (cut_ok oqb) (trn_ok fo), ?_⟩
    have eq1 : cut (cut (q ++ b) ++ trn b) = cut q := by
      rw [← cut_app oqb (trn_ok fo)]
      have := mid1 (x := q) (a := b) (y := []) hpo fo
      rw [List.append_nil, List.append_nil, ← List.append_assoc] at this
      exact this
    rw [eq1]
    have lq := cut_len q
    refine wb_cons (ws_ret ?_)
    refine we_bor ?_
    refine we_cmp hr ?_
    refine we_len T.n_len (we_im 10 rfl ⟨_, rfl, _, .str (by omega), ?_⟩)
    refine we_int ?_
    refine ⟨_, _, rfl, rfl, _, .gt _ _, _, rfl, fun c => ?_, fun c => ret_im hR⟩
    have c' := of_decide_eq_false c
    refine we_cmp hr ?_
    refine we_call (ok_commute T) (hr.mono (by decide)) T.g_commute T.k_commute T.b_commute ?_
    refine wl_cons (we_im 3 rfl (wl_cons (we_im 10 rfl (wl_nil ⟨_, im2, rfl, ?_⟩))))
    refine ⟨_, _, rfl, gl, ⟨cut_ok hpo, by omega⟩, ?_⟩
    refine we_bl ?_
    refine ⟨_, _, rfl, rfl, _, .isB _ _, _, rfl, ?_⟩
    rw [show cut (l ++ cut q) = cut (cut q ++ l) from ((cmm_cut hpo ho).mpr hcm).symm]
    simp only [decide_true]
    exact ret_im hR
  · refine wb_cons (ws_set 6 ?_ sc_law.nd)
    refine we_call (ok_free_conjugator T) (hr.mono (by decide)) T.g_free_conjugator T.k_free_conjugator T.b_free_conjugator ?_
    refine wl_cons (we_im 3 rfl (wl_cons (we_im 4 rfl (wl_nil ⟨_, im2, rfl, ?_⟩))))
    refine ⟨_, _, rfl, by omega, by omega, fun _ => ⟨fun i2 a1 a2 => (hm (List.mem_of_getElem? a1)).elim, fun _ => ?_⟩, fun z => (z ⟨gl, go⟩).elim⟩
    refine wb_cons (ws_if ?_)
    refine wt_val false ?_ ⟨fun z => (by cases z), fun _ => ?_⟩
    · refine wt_or ?_
      refine wt_cmp hr ?_
      refine we_im 6 rfl ?_
      refine we_call (ok__law_due T) (hr.mono (by decide)) T.g__law_due T.k__law_due T.b__law_due ?_
      refine wl_cons (we_im 3 rfl (wl_cons (we_im 4 rfl (wl_nil ⟨_, im2, rfl, ?_⟩))))
      refine ⟨_, _, rfl, gl, go, fun i3 h3 => (hm (List.mem_of_getElem? h3.1)).elim, fun _ => ?_⟩
      refine ⟨_, _, rfl, rfl, _, .neNN, fun z => (by cases z), fun _ => ?_⟩
      refine wt_cmp hr ?_
      refine we_cmp hr ?_
      refine we_im 6 rfl (we_non ?_)
      refine ⟨_, _, rfl, rfl, _, .isN _, ?_⟩
      refine we_call (ok_free_conjugate T) (hr.mono (by decide)) T.g_free_conjugate T.k_free_conjugate T.b_free_conjugate ?_
      refine wl_cons (we_im 3 rfl (wl_cons (we_im 4 rfl (wl_nil ⟨_, im2, rfl, ?_⟩))))
      refine ⟨_, _, rfl, by omega, by omega, fun _ c1 c2 hc1 hc2 => ?_, fun z => (z ⟨gl, go⟩).elim⟩
      have e12 : ¬ c1 = c2 := fun z => hm ((cls_iff ho hoo hc1 hc2).mp z)
      refine ⟨_, _, rfl, rfl, _, .eqB _ _, ?_⟩
      exact ⟨by simp [e12, D.isN], rfl⟩
    refine wb_nil ?_
    refine wb_cons (ws_if ?_)
    refine wt_cmp hr (we_im 6 rfl (we_non ?_))
    refine ⟨_, _, rfl, rfl, _, .isN _, fun c => ?_, fun c => (by cases c)⟩
    exact wb_cons (ws_ret (we_bl (ret_im hR)))
end
end Tx

namespace Tx
open PySem PySem.Spec PyProof.Rows L2 DL
theorem all_mk {P : Program} {w : World} {K : PySem.W.Frag} {h : Heap} {mg : Str → Option Value} {fa : Addr} {f0 f1 f2 f3 f4 f5 f6 f7 f8 f9 f10 f11 f12 f13 f14 f15 f16 f17 f18 f19 f20 f21 f22 f23 f24 f25 f26 f27 f28 f29 f30 f31 f32 f33 f34 f35 f36 f37 : Addr} {c0 c1 c2 : Addr} (X : K.In h) (G : h.Ns mainGlobals mg) (hfa : mg "law" = some (.ref fa))
    {od0 an0 od1 an1 od2 an2 od3 an3 od4 an4 od5 an5 od6 an6 od7 an7 od8 an8 od9 an9 od10 an10 od11 an11 od12 an12 od13 an13 od14 an14 od15 an15 od16 an16 od17 an17 od18 an18 od19 an19 od20 an20 od21 an21 od22 an22 od23 an23 od24 an24 od25 an25 od26 an26 od27 an27 od28 an28 od29 an29 od30 an30 od31 an31 od32 an32 od33 an33 od34 an34 od35 an35 od36 an36 od37 an37 : Option Addr} {sl0 sl1 sl2 sl3 sl4 sl5 sl6 sl7 sl8 sl9 sl10 sl11 sl12 sl13 sl14 sl15 sl16 sl17 sl18 sl19 sl20 sl21 sl22 sl23 sl24 sl25 sl26 sl27 sl28 sl29 sl30 sl31 sl32 sl33 sl34 sl35 sl36 sl37 : Array (Option Value)} {oc0 kV0 dc0 pm0 cd0 ct0 oc1 kV1 dc1 pm1 cd1 ct1 oc2 kV2 dc2 pm2 cd2 ct2 oc3 kV3 dc3 pm3 cd3 ct3 oc4 kV4 dc4 pm4 cd4 ct4 oc5 kV5 dc5 pm5 cd5 ct5 oc6 kV6 dc6 pm6 cd6 ct6 oc7 kV7 dc7 pm7 cd7 ct7 oc8 kV8 dc8 pm8 cd8 ct8 oc9 kV9 dc9 pm9 cd9 ct9 oc10 kV10 dc10 pm10 cd10 ct10 oc11 kV11 dc11 pm11 cd11 ct11 oc12 kV12 dc12 pm12 cd12 ct12 oc13 kV13 dc13 pm13 cd13 ct13 oc14 kV14 dc14 pm14 cd14 ct14 oc15 kV15 dc15 pm15 cd15 ct15 oc16 kV16 dc16 pm16 cd16 ct16 oc17 kV17 dc17 pm17 cd17 ct17 oc18 kV18 dc18 pm18 cd18 ct18 oc19 kV19 dc19 pm19 cd19 ct19 oc20 kV20 dc20 pm20 cd20 ct20 oc21 kV21 dc21 pm21 cd21 ct21 oc22 kV22 dc22 pm22 cd22 ct22 oc23 kV23 dc23 pm23 cd23 ct23 oc24 kV24 dc24 pm24 cd24 ct24 oc25 kV25 dc25 pm25 cd25 ct25 oc26 kV26 dc26 pm26 cd26 ct26 oc27 kV27 dc27 pm27 cd27 ct27 oc28 kV28 dc28 pm28 cd28 ct28 oc29 kV29 dc29 pm29 cd29 ct29 oc30 kV30 dc30 pm30 cd30 ct30 oc31 kV31 dc31 pm31 cd31 ct31 oc32 kV32 dc32 pm32 cd32 ct32 oc33 kV33 dc33 pm33 cd33 ct33 oc34 kV34 dc34 pm34 cd34 ct34 oc35 kV35 dc35 pm35 cd35 ct35 oc36 kV36 dc36 pm36 cd36 ct36 oc37 kV37 dc37 pm37 cd37 ct37 : Value}
    {t_LETTERS t_MOST_GENERATORS t_MOST_LETTERS t_MOST_EXPONENT t_GENERATORS : Tok}
    (a0 : PySem.W.nsIn K mainGlobals "check_generators" = some (some (.ref f0))) (l0 : K.lookup f0 = some ⟨oc0, od0, .func (PySem.W.fnOf "check_generators" "check_generators" (defArgs s_check_generators) (defBody s_check_generators) (defScope s_check_generators) .none kV0 dc0 pm0 an0 cd0 ct0), sl0⟩) (b0 : PySem.W.codeIn K cd0 "check_generators" = true) (k0 : PySem.W.keepIn K (.ref f0) = true)
    (a1 : PySem.W.nsIn K mainGlobals "letters_of" = some (some (.ref f1))) (l1 : K.lookup f1 = some ⟨oc1, od1, .func (PySem.W.fnOf "letters_of" "letters_of" (defArgs s_letters_of) (defBody s_letters_of) (defScope s_letters_of) .none kV1 dc1 pm1 an1 cd1 ct1), sl1⟩) (b1 : PySem.W.codeIn K cd1 "letters_of" = true) (k1 : PySem.W.keepIn K (.ref f1) = true)
    (a2 : PySem.W.nsIn K mainGlobals "rank_of" = some (some (.ref f2))) (l2 : K.lookup f2 = some ⟨oc2, od2, .func (PySem.W.fnOf "rank_of" "rank_of" (defArgs s_rank_of) (defBody s_rank_of) (defScope s_rank_of) .none kV2 dc2 pm2 an2 cd2 ct2), sl2⟩) (b2 : PySem.W.codeIn K cd2 "rank_of" = true) (k2 : PySem.W.keepIn K (.ref f2) = true)
    (a3 : PySem.W.nsIn K mainGlobals "inverse_letter" = some (some (.ref f3))) (l3 : K.lookup f3 = some ⟨oc3, od3, .func (PySem.W.fnOf "inverse_letter" "inverse_letter" (defArgs s_inverse_letter) (defBody s_inverse_letter) (defScope s_inverse_letter) .none kV3 dc3 pm3 an3 cd3 ct3), sl3⟩) (b3 : PySem.W.codeIn K cd3 "inverse_letter" = true) (k3 : PySem.W.keepIn K (.ref f3) = true)
    (a4 : PySem.W.nsIn K mainGlobals "shortlex_key" = some (some (.ref f4))) (l4 : K.lookup f4 = some ⟨oc4, od4, .func (PySem.W.fnOf "shortlex_key" "shortlex_key" (defArgs s_shortlex_key) (defBody s_shortlex_key) (defScope s_shortlex_key) .none kV4 dc4 pm4 an4 cd4 ct4), sl4⟩) (b4 : PySem.W.codeIn K cd4 "shortlex_key" = true) (k4 : PySem.W.keepIn K (.ref f4) = true)
    (a5 : PySem.W.nsIn K mainGlobals "_is_over" = some (some (.ref f5))) (l5 : K.lookup f5 = some ⟨oc5, od5, .func (PySem.W.fnOf "_is_over" "_is_over" (defArgs s__is_over) (defBody s__is_over) (defScope s__is_over) .none kV5 dc5 pm5 an5 cd5 ct5), sl5⟩) (b5 : PySem.W.codeIn K cd5 "_is_over" = true) (k5 : PySem.W.keepIn K (.ref f5) = true)
    (a6 : PySem.W.nsIn K mainGlobals "is_word" = some (some (.ref f6))) (l6 : K.lookup f6 = some ⟨oc6, od6, .func (PySem.W.fnOf "is_word" "is_word" (defArgs s_is_word) (defBody s_is_word) (defScope s_is_word) .none kV6 dc6 pm6 an6 cd6 ct6), sl6⟩) (b6 : PySem.W.codeIn K cd6 "is_word" = true) (k6 : PySem.W.keepIn K (.ref f6) = true)
    (a7 : PySem.W.nsIn K mainGlobals "check_word" = some (some (.ref f7))) (l7 : K.lookup f7 = some ⟨oc7, od7, .func (PySem.W.fnOf "check_word" "check_word" (defArgs s_check_word) (defBody s_check_word) (defScope s_check_word) .none kV7 dc7 pm7 an7 cd7 ct7), sl7⟩) (b7 : PySem.W.codeIn K cd7 "check_word" = true) (k7 : PySem.W.keepIn K (.ref f7) = true)
    (a8 : PySem.W.nsIn K mainGlobals "_check" = some (some (.ref f8))) (l8 : K.lookup f8 = some ⟨oc8, od8, .func (PySem.W.fnOf "_check" "_check" (defArgs s__check) (defBody s__check) (defScope s__check) .none kV8 dc8 pm8 an8 cd8 ct8), sl8⟩) (b8 : PySem.W.codeIn K cd8 "_check" = true) (k8 : PySem.W.keepIn K (.ref f8) = true)
    (a9 : PySem.W.nsIn K mainGlobals "turned" = some (some (.ref f9))) (l9 : K.lookup f9 = some ⟨oc9, od9, .func (PySem.W.fnOf "turned" "turned" (defArgs s_turned) (defBody s_turned) (defScope s_turned) .none kV9 dc9 pm9 an9 cd9 ct9), sl9⟩) (b9 : PySem.W.codeIn K cd9 "turned" = true) (k9 : PySem.W.keepIn K (.ref f9) = true)
    (a10 : PySem.W.nsIn K mainGlobals "cut_down" = some (some (.ref f10))) (l10 : K.lookup f10 = some ⟨oc10, od10, .func (PySem.W.fnOf "cut_down" "cut_down" (defArgs s_cut_down) (defBody s_cut_down) (defScope s_cut_down) .none kV10 dc10 pm10 an10 cd10 ct10), sl10⟩) (b10 : PySem.W.codeIn K cd10 "cut_down" = true) (k10 : PySem.W.keepIn K (.ref f10) = true)
    (a11 : PySem.W.nsIn K mainGlobals "reduced" = some (some (.ref f11))) (l11 : K.lookup f11 = some ⟨oc11, od11, .func (PySem.W.fnOf "reduced" "reduced" (defArgs s_reduced) (defBody s_reduced) (defScope s_reduced) .none kV11 dc11 pm11 an11 cd11 ct11), sl11⟩) (b11 : PySem.W.codeIn K cd11 "reduced" = true) (k11 : PySem.W.keepIn K (.ref f11) = true)
    (a12 : PySem.W.nsIn K mainGlobals "product" = some (some (.ref f12))) (l12 : K.lookup f12 = some ⟨oc12, od12, .func (PySem.W.fnOf "product" "product" (defArgs s_product) (defBody s_product) (defScope s_product) .none kV12 dc12 pm12 an12 cd12 ct12), sl12⟩) (b12 : PySem.W.codeIn K cd12 "product" = true) (k12 : PySem.W.keepIn K (.ref f12) = true)
    (a13 : PySem.W.nsIn K mainGlobals "power" = some (some (.ref f13))) (l13 : K.lookup f13 = some ⟨oc13, od13, .func (PySem.W.fnOf "power" "power" (defArgs s_power) (defBody s_power) (defScope s_power) .none kV13 dc13 pm13 an13 cd13 ct13), sl13⟩) (b13 : PySem.W.codeIn K cd13 "power" = true) (k13 : PySem.W.keepIn K (.ref f13) = true)
    (a14 : PySem.W.nsIn K mainGlobals "_parted" = some (some (.ref f14))) (l14 : K.lookup f14 = some ⟨oc14, od14, .func (PySem.W.fnOf "_parted" "_parted" (defArgs s__parted) (defBody s__parted) (defScope s__parted) .none kV14 dc14 pm14 an14 cd14 ct14), sl14⟩) (b14 : PySem.W.codeIn K cd14 "_parted" = true) (k14 : PySem.W.keepIn K (.ref f14) = true)
    (a15 : PySem.W.nsIn K mainGlobals "core_of" = some (some (.ref f15))) (l15 : K.lookup f15 = some ⟨oc15, od15, .func (PySem.W.fnOf "core_of" "core_of" (defArgs s_core_of) (defBody s_core_of) (defScope s_core_of) .none kV15 dc15 pm15 an15 cd15 ct15), sl15⟩) (b15 : PySem.W.codeIn K cd15 "core_of" = true) (k15 : PySem.W.keepIn K (.ref f15) = true)
    (a16 : PySem.W.nsIn K mainGlobals "rotations" = some (some (.ref f16))) (l16 : K.lookup f16 = some ⟨oc16, od16, .func (PySem.W.fnOf "rotations" "rotations" (defArgs s_rotations) (defBody s_rotations) (defScope s_rotations) .none kV16 dc16 pm16 an16 cd16 ct16), sl16⟩) (b16 : PySem.W.codeIn K cd16 "rotations" = true) (k16 : PySem.W.keepIn K (.ref f16) = true)
    (a17 : PySem.W.nsIn K mainGlobals "least_rotation" = some (some (.ref f17))) (l17 : K.lookup f17 = some ⟨oc17, od17, .func (PySem.W.fnOf "least_rotation" "least_rotation" (defArgs s_least_rotation) (defBody s_least_rotation) (defScope s_least_rotation) .none kV17 dc17 pm17 an17 cd17 ct17), sl17⟩) (b17 : PySem.W.codeIn K cd17 "least_rotation" = true) (k17 : PySem.W.keepIn K (.ref f17) = true)
    (a18 : PySem.W.nsIn K mainGlobals "root_of" = some (some (.ref f18))) (l18 : K.lookup f18 = some ⟨oc18, od18, .func (PySem.W.fnOf "root_of" "root_of" (defArgs s_root_of) (defBody s_root_of) (defScope s_root_of) .none kV18 dc18 pm18 an18 cd18 ct18), sl18⟩) (b18 : PySem.W.codeIn K cd18 "root_of" = true) (k18 : PySem.W.keepIn K (.ref f18) = true)
    (a19 : PySem.W.nsIn K mainGlobals "commute" = some (some (.ref f19))) (l19 : K.lookup f19 = some ⟨oc19, od19, .func (PySem.W.fnOf "commute" "commute" (defArgs s_commute) (defBody s_commute) (defScope s_commute) .none kV19 dc19 pm19 an19 cd19 ct19), sl19⟩) (b19 : PySem.W.codeIn K cd19 "commute" = true) (k19 : PySem.W.keepIn K (.ref f19) = true)
    (a20 : PySem.W.nsIn K mainGlobals "conjugated" = some (some (.ref f20))) (l20 : K.lookup f20 = some ⟨oc20, od20, .func (PySem.W.fnOf "conjugated" "conjugated" (defArgs s_conjugated) (defBody s_conjugated) (defScope s_conjugated) .none kV20 dc20 pm20 an20 cd20 ct20), sl20⟩) (b20 : PySem.W.codeIn K cd20 "conjugated" = true) (k20 : PySem.W.keepIn K (.ref f20) = true)
    (a21 : PySem.W.nsIn K mainGlobals "class_word" = some (some (.ref f21))) (l21 : K.lookup f21 = some ⟨oc21, od21, .func (PySem.W.fnOf "class_word" "class_word" (defArgs s_class_word) (defBody s_class_word) (defScope s_class_word) .none kV21 dc21 pm21 an21 cd21 ct21), sl21⟩) (b21 : PySem.W.codeIn K cd21 "class_word" = true) (k21 : PySem.W.keepIn K (.ref f21) = true)
    (a22 : PySem.W.nsIn K mainGlobals "free_conjugate" = some (some (.ref f22))) (l22 : K.lookup f22 = some ⟨oc22, od22, .func (PySem.W.fnOf "free_conjugate" "free_conjugate" (defArgs s_free_conjugate) (defBody s_free_conjugate) (defScope s_free_conjugate) .none kV22 dc22 pm22 an22 cd22 ct22), sl22⟩) (b22 : PySem.W.codeIn K cd22 "free_conjugate" = true) (k22 : PySem.W.keepIn K (.ref f22) = true)
    (a23 : PySem.W.nsIn K mainGlobals "free_conjugator" = some (some (.ref f23))) (l23 : K.lookup f23 = some ⟨oc23, od23, .func (PySem.W.fnOf "free_conjugator" "free_conjugator" (defArgs s_free_conjugator) (defBody s_free_conjugator) (defScope s_free_conjugator) .none kV23 dc23 pm23 an23 cd23 ct23), sl23⟩) (b23 : PySem.W.codeIn K cd23 "free_conjugator" = true) (k23 : PySem.W.keepIn K (.ref f23) = true)
    (a24 : PySem.W.nsIn K mainGlobals "_law_number" = some (some (.ref f24))) (l24 : K.lookup f24 = some ⟨oc24, od24, .func (PySem.W.fnOf "_law_number" "_law_number" (defArgs s__law_number) (defBody s__law_number) (defScope s__law_number) .none kV24 dc24 pm24 an24 cd24 ct24), sl24⟩) (b24 : PySem.W.codeIn K cd24 "_law_number" = true) (k24 : PySem.W.keepIn K (.ref f24) = true)
    (a25 : PySem.W.nsIn K mainGlobals "_law_draws" = some (some (.ref f25))) (l25 : K.lookup f25 = some ⟨oc25, od25, .func (PySem.W.fnOf "_law_draws" "_law_draws" (defArgs s__law_draws) (defBody s__law_draws) (defScope s__law_draws) .none kV25 dc25 pm25 an25 cd25 ct25), sl25⟩) (b25 : PySem.W.codeIn K cd25 "_law_draws" = true) (k25 : PySem.W.keepIn K (.ref f25) = true)
    (a26 : PySem.W.nsIn K mainGlobals "_law_draw" = some (some (.ref f26))) (l26 : K.lookup f26 = some ⟨oc26, od26, .func (PySem.W.fnOf "_law_draw" "_law_draw" (defArgs s__law_draw) (defBody s__law_draw) (defScope s__law_draw) .none kV26 dc26 pm26 an26 cd26 ct26), sl26⟩) (b26 : PySem.W.codeIn K cd26 "_law_draw" = true) (k26 : PySem.W.keepIn K (.ref f26) = true)
    (a27 : PySem.W.nsIn K mainGlobals "_law_pick" = some (some (.ref f27))) (l27 : K.lookup f27 = some ⟨oc27, od27, .func (PySem.W.fnOf "_law_pick" "_law_pick" (defArgs s__law_pick) (defBody s__law_pick) (defScope s__law_pick) .none kV27 dc27 pm27 an27 cd27 ct27), sl27⟩) (b27 : PySem.W.codeIn K cd27 "_law_pick" = true) (k27 : PySem.W.keepIn K (.ref f27) = true)
    (a28 : PySem.W.nsIn K mainGlobals "_law_back" = some (some (.ref f28))) (l28 : K.lookup f28 = some ⟨oc28, od28, .func (PySem.W.fnOf "_law_back" "_law_back" (defArgs s__law_back) (defBody s__law_back) (defScope s__law_back) .none kV28 dc28 pm28 an28 cd28 ct28), sl28⟩) (b28 : PySem.W.codeIn K cd28 "_law_back" = true) (k28 : PySem.W.keepIn K (.ref f28) = true)
    (a29 : PySem.W.nsIn K mainGlobals "_law_turned" = some (some (.ref f29))) (l29 : K.lookup f29 = some ⟨oc29, od29, .func (PySem.W.fnOf "_law_turned" "_law_turned" (defArgs s__law_turned) (defBody s__law_turned) (defScope s__law_turned) .none kV29 dc29 pm29 an29 cd29 ct29), sl29⟩) (b29 : PySem.W.codeIn K cd29 "_law_turned" = true) (k29 : PySem.W.keepIn K (.ref f29) = true)
    (a30 : PySem.W.nsIn K mainGlobals "_law_cut" = some (some (.ref f30))) (l30 : K.lookup f30 = some ⟨oc30, od30, .func (PySem.W.fnOf "_law_cut" "_law_cut" (defArgs s__law_cut) (defBody s__law_cut) (defScope s__law_cut) .none kV30 dc30 pm30 an30 cd30 ct30), sl30⟩) (b30 : PySem.W.codeIn K cd30 "_law_cut" = true) (k30 : PySem.W.keepIn K (.ref f30) = true)
    (a31 : PySem.W.nsIn K mainGlobals "_law_word" = some (some (.ref f31))) (l31 : K.lookup f31 = some ⟨oc31, od31, .func (PySem.W.fnOf "_law_word" "_law_word" (defArgs s__law_word) (defBody s__law_word) (defScope s__law_word) .none kV31 dc31 pm31 an31 cd31 ct31), sl31⟩) (b31 : PySem.W.codeIn K cd31 "_law_word" = true) (k31 : PySem.W.keepIn K (.ref f31) = true)
    (a32 : PySem.W.nsIn K mainGlobals "_law_parted" = some (some (.ref f32))) (l32 : K.lookup f32 = some ⟨oc32, od32, .func (PySem.W.fnOf "_law_parted" "_law_parted" (defArgs s__law_parted) (defBody s__law_parted) (defScope s__law_parted) .none kV32 dc32 pm32 an32 cd32 ct32), sl32⟩) (b32 : PySem.W.codeIn K cd32 "_law_parted" = true) (k32 : PySem.W.keepIn K (.ref f32) = true)
    (a33 : PySem.W.nsIn K mainGlobals "_law_turns" = some (some (.ref f33))) (l33 : K.lookup f33 = some ⟨oc33, od33, .func (PySem.W.fnOf "_law_turns" "_law_turns" (defArgs s__law_turns) (defBody s__law_turns) (defScope s__law_turns) .none kV33 dc33 pm33 an33 cd33 ct33), sl33⟩) (b33 : PySem.W.codeIn K cd33 "_law_turns" = true) (k33 : PySem.W.keepIn K (.ref f33) = true)
    (a34 : PySem.W.nsIn K mainGlobals "_law_other" = some (some (.ref f34))) (l34 : K.lookup f34 = some ⟨oc34, od34, .func (PySem.W.fnOf "_law_other" "_law_other" (defArgs s__law_other) (defBody s__law_other) (defScope s__law_other) .none kV34 dc34 pm34 an34 cd34 ct34), sl34⟩) (b34 : PySem.W.codeIn K cd34 "_law_other" = true) (k34 : PySem.W.keepIn K (.ref f34) = true)
    (a35 : PySem.W.nsIn K mainGlobals "_law_due" = some (some (.ref f35))) (l35 : K.lookup f35 = some ⟨oc35, od35, .func (PySem.W.fnOf "_law_due" "_law_due" (defArgs s__law_due) (defBody s__law_due) (defScope s__law_due) .none kV35 dc35 pm35 an35 cd35 ct35), sl35⟩) (b35 : PySem.W.codeIn K cd35 "_law_due" = true) (k35 : PySem.W.keepIn K (.ref f35) = true)
    (a36 : PySem.W.nsIn K mainGlobals "_law_is_one" = some (some (.ref f36))) (l36 : K.lookup f36 = some ⟨oc36, od36, .func (PySem.W.fnOf "_law_is_one" "_law_is_one" (defArgs s__law_is_one) (defBody s__law_is_one) (defScope s__law_is_one) .none kV36 dc36 pm36 an36 cd36 ct36), sl36⟩) (b36 : PySem.W.codeIn K cd36 "_law_is_one" = true) (k36 : PySem.W.keepIn K (.ref f36) = true)
    (a37 : PySem.W.nsIn K mainGlobals "law" = some (some (.ref f37))) (l37 : K.lookup f37 = some ⟨oc37, od37, .func (PySem.W.fnOf "law" "law" (defArgs s_law) (defBody s_law) (defScope s_law) .none kV37 dc37 pm37 an37 cd37 ct37), sl37⟩) (b37 : PySem.W.codeIn K cd37 "law" = true) (k37 : PySem.W.keepIn K (.ref f37) = true)
    (z_enumerate : PySem.W.nsIn K mainGlobals "enumerate" = some none)
    (z_int : PySem.W.nsIn K mainGlobals "int" = some none)
    (z_len : PySem.W.nsIn K mainGlobals "len" = some none)
    (z_max : PySem.W.nsIn K mainGlobals "max" = some none)
    (z_min : PySem.W.nsIn K mainGlobals "min" = some none)
    (z_range : PySem.W.nsIn K mainGlobals "range" = some none)
    (z_tuple : PySem.W.nsIn K mainGlobals "tuple" = some none)
    (q_LETTERS : PySem.W.nsIn K mainGlobals "LETTERS" = some (some (.str "aAbBcC" t_LETTERS)))
    (q_MOST_GENERATORS : PySem.W.nsIn K mainGlobals "MOST_GENERATORS" = some (some (.int 3 t_MOST_GENERATORS)))
    (q_MOST_LETTERS : PySem.W.nsIn K mainGlobals "MOST_LETTERS" = some (some (.int 60 t_MOST_LETTERS)))
    (q_MOST_EXPONENT : PySem.W.nsIn K mainGlobals "MOST_EXPONENT" = some (some (.int 20 t_MOST_EXPONENT)))
    (q_GENERATORS : PySem.W.nsIn K mainGlobals "GENERATORS" = some (some (.int 3 t_GENERATORS)))
    (ca0 : PySem.W.nsIn K mainGlobals "NotWord" = some (some (.ref c0)))
    (cx0 : PySem.W.excIn K c0 [.type "ValueError", .type "Exception", .type "BaseException", .type "object"] "ValueError.__new__" = true)
    (ck0 : PySem.W.keepIn K (.ref c0) = true) (cb0 : PySem.W.subIn K (.ref c0) (.type "BaseException") = some true) (ct_0 : PySem.W.typeIn K (.ref c0) = some (.type "type"))
    (ca1 : PySem.W.nsIn K mainGlobals "BadNumber" = some (some (.ref c1)))
    (cx1 : PySem.W.excIn K c1 [.type "ValueError", .type "Exception", .type "BaseException", .type "object"] "ValueError.__new__" = true)
    (ck1 : PySem.W.keepIn K (.ref c1) = true) (cb1 : PySem.W.subIn K (.ref c1) (.type "BaseException") = some true) (ct_1 : PySem.W.typeIn K (.ref c1) = some (.type "type"))
    (ca2 : PySem.W.nsIn K mainGlobals "NoAnswer" = some (some (.ref c2)))
    (cx2 : PySem.W.excIn K c2 [.type "ValueError", .type "Exception", .type "BaseException", .type "object"] "ValueError.__new__" = true)
    (ck2 : PySem.W.keepIn K (.ref c2) = true) (cb2 : PySem.W.subIn K (.ref c2) (.type "BaseException") = some true) (ct_2 : PySem.W.typeIn K (.ref c2) = some (.type "type"))
    : ∃ fd : FuncData, (∀ (s : Shared) (v : Value), BindsTo s fd ⟨[v], []⟩ [("_law_script", v)]) ∧ ∀ base : Heap, K.In base → base.Ns mainGlobals mg → FnOk P w K mg base (L2.CX P w) 10 fa fd ["_law_script"] (spF K 1 PLaw) := by
  have e := hfa.symm.trans (PySem.W.mg_of X G a37)
  cases e
  have F0 := fun_mk (st := s_check_generators) l0 b0 k0
  have F1 := fun_mk (st := s_letters_of) l1 b1 k1
  have F2 := fun_mk (st := s_rank_of) l2 b2 k2
  have F3 := fun_mk (st := s_inverse_letter) l3 b3 k3
  have F4 := fun_mk (st := s_shortlex_key) l4 b4 k4
  have F5 := fun_mk (st := s__is_over) l5 b5 k5
  have F6 := fun_mk (st := s_is_word) l6 b6 k6
  have F7 := fun_mk (st := s_check_word) l7 b7 k7
  have F8 := fun_mk (st := s__check) l8 b8 k8
  have F9 := fun_mk (st := s_turned) l9 b9 k9
  have F10 := fun_mk (st := s_cut_down) l10 b10 k10
  have F11 := fun_mk (st := s_reduced) l11 b11 k11
  have F12 := fun_mk (st := s_product) l12 b12 k12
  have F13 := fun_mk (st := s_power) l13 b13 k13
  have F14 := fun_mk (st := s__parted) l14 b14 k14
  have F15 := fun_mk (st := s_core_of) l15 b15 k15
  have F16 := fun_mk (st := s_rotations) l16 b16 k16
  have F17 := fun_mk (st := s_least_rotation) l17 b17 k17
  have F18 := fun_mk (st := s_root_of) l18 b18 k18
  have F19 := fun_mk (st := s_commute) l19 b19 k19
  have F20 := fun_mk (st := s_conjugated) l20 b20 k20
  have F21 := fun_mk (st := s_class_word) l21 b21 k21
  have F22 := fun_mk (st := s_free_conjugate) l22 b22 k22
  have F23 := fun_mk (st := s_free_conjugator) l23 b23 k23
  have F24 := fun_mk (st := s__law_number) l24 b24 k24
  have F25 := fun_mk (st := s__law_draws) l25 b25 k25
  have F26 := fun_mk (st := s__law_draw) l26 b26 k26
  have F27 := fun_mk (st := s__law_pick) l27 b27 k27
  have F28 := fun_mk (st := s__law_back) l28 b28 k28
  have F29 := fun_mk (st := s__law_turned) l29 b29 k29
  have F30 := fun_mk (st := s__law_cut) l30 b30 k30
  have F31 := fun_mk (st := s__law_word) l31 b31 k31
  have F32 := fun_mk (st := s__law_parted) l32 b32 k32
  have F33 := fun_mk (st := s__law_turns) l33 b33 k33
  have F34 := fun_mk (st := s__law_other) l34 b34 k34
  have F35 := fun_mk (st := s__law_due) l35 b35 k35
  have F36 := fun_mk (st := s__law_is_one) l36 b36 k36
  have F37 := fun_mk (st := s_law) l37 b37 k37
  have T : Tx K mg (fun i => match i with | 0 => f0 | 1 => f1 | 2 => f2 | 3 => f3 | 4 => f4 | 5 => f5 | 6 => f6 | 7 => f7 | 8 => f8 | 9 => f9 | 10 => f10 | 11 => f11 | 12 => f12 | 13 => f13 | 14 => f14 | 15 => f15 | 16 => f16 | 17 => f17 | 18 => f18 | 19 => f19 | 20 => f20 | 21 => f21 | 22 => f22 | 23 => f23 | 24 => f24 | 25 => f25 | 26 => f26 | 27 => f27 | 28 => f28 | 29 => f29 | 30 => f30 | 31 => f31 | 32 => f32 | 33 => f33 | 34 => f34 | 35 => f35 | 36 => f36 | 37 => fa | _ => f0) (fun i => match i with | 0 => c0 | 1 => c1 | 2 => c2 | _ => c0) (fun i => match i with | 0 => PySem.W.fnOf "check_generators" "check_generators" (defArgs s_check_generators) (defBody s_check_generators) (defScope s_check_generators) .none kV0 dc0 pm0 an0 cd0 ct0 | 1 => PySem.W.fnOf "letters_of" "letters_of" (defArgs s_letters_of) (defBody s_letters_of) (defScope s_letters_of) .none kV1 dc1 pm1 an1 cd1 ct1 | 2 => PySem.W.fnOf "rank_of" "rank_of" (defArgs s_rank_of) (defBody s_rank_of) (defScope s_rank_of) .none kV2 dc2 pm2 an2 cd2 ct2 | 3 => PySem.W.fnOf "inverse_letter" "inverse_letter" (defArgs s_inverse_letter) (defBody s_inverse_letter) (defScope s_inverse_letter) .none kV3 dc3 pm3 an3 cd3 ct3 | 4 => PySem.W.fnOf "shortlex_key" "shortlex_key" (defArgs s_shortlex_key) (defBody s_shortlex_key) (defScope s_shortlex_key) .none kV4 dc4 pm4 an4 cd4 ct4 | 5 => PySem.W.fnOf "_is_over" "_is_over" (defArgs s__is_over) (defBody s__is_over) (defScope s__is_over) .none kV5 dc5 pm5 an5 cd5 ct5 | 6 => PySem.W.fnOf "is_word" "is_word" (defArgs s_is_word) (defBody s_is_word) (defScope s_is_word) .none kV6 dc6 pm6 an6 cd6 ct6 | 7 => PySem.W.fnOf "check_word" "check_word" (defArgs s_check_word) (defBody s_check_word) (defScope s_check_word) .none kV7 dc7 pm7 an7 cd7 ct7 | 8 => PySem.W.fnOf "_check" "_check" (defArgs s__check) (defBody s__check) (defScope s__check) .none kV8 dc8 pm8 an8 cd8 ct8 | 9 => PySem.W.fnOf "turned" "turned" (defArgs s_turned) (defBody s_turned) (defScope s_turned) .none kV9 dc9 pm9 an9 cd9 ct9 | 10 => PySem.W.fnOf "cut_down" "cut_down" (defArgs s_cut_down) (defBody s_cut_down) (defScope s_cut_down) .none kV10 dc10 pm10 an10 cd10 ct10 | 11 => PySem.W.fnOf "reduced" "reduced" (defArgs s_reduced) (defBody s_reduced) (defScope s_reduced) .none kV11 dc11 pm11 an11 cd11 ct11 | 12 => PySem.W.fnOf "product" "product" (defArgs s_product) (defBody s_product) (defScope s_product) .none kV12 dc12 pm12 an12 cd12 ct12 | 13 => PySem.W.fnOf "power" "power" (defArgs s_power) (defBody s_power) (defScope s_power) .none kV13 dc13 pm13 an13 cd13 ct13 | 14 => PySem.W.fnOf "_parted" "_parted" (defArgs s__parted) (defBody s__parted) (defScope s__parted) .none kV14 dc14 pm14 an14 cd14 ct14 | 15 => PySem.W.fnOf "core_of" "core_of" (defArgs s_core_of) (defBody s_core_of) (defScope s_core_of) .none kV15 dc15 pm15 an15 cd15 ct15 | 16 => PySem.W.fnOf "rotations" "rotations" (defArgs s_rotations) (defBody s_rotations) (defScope s_rotations) .none kV16 dc16 pm16 an16 cd16 ct16 | 17 => PySem.W.fnOf "least_rotation" "least_rotation" (defArgs s_least_rotation) (defBody s_least_rotation) (defScope s_least_rotation) .none kV17 dc17 pm17 an17 cd17 ct17 | 18 => PySem.W.fnOf "root_of" "root_of" (defArgs s_root_of) (defBody s_root_of) (defScope s_root_of) .none kV18 dc18 pm18 an18 cd18 ct18 | 19 => PySem.W.fnOf "commute" "commute" (defArgs s_commute) (defBody s_commute) (defScope s_commute) .none kV19 dc19 pm19 an19 cd19 ct19 | 20 => PySem.W.fnOf "conjugated" "conjugated" (defArgs s_conjugated) (defBody s_conjugated) (defScope s_conjugated) .none kV20 dc20 pm20 an20 cd20 ct20 | 21 => PySem.W.fnOf "class_word" "class_word" (defArgs s_class_word) (defBody s_class_word) (defScope s_class_word) .none kV21 dc21 pm21 an21 cd21 ct21 | 22 => PySem.W.fnOf "free_conjugate" "free_conjugate" (defArgs s_free_conjugate) (defBody s_free_conjugate) (defScope s_free_conjugate) .none kV22 dc22 pm22 an22 cd22 ct22 | 23 => PySem.W.fnOf "free_conjugator" "free_conjugator" (defArgs s_free_conjugator) (defBody s_free_conjugator) (defScope s_free_conjugator) .none kV23 dc23 pm23 an23 cd23 ct23 | 24 => PySem.W.fnOf "_law_number" "_law_number" (defArgs s__law_number) (defBody s__law_number) (defScope s__law_number) .none kV24 dc24 pm24 an24 cd24 ct24 | 25 => PySem.W.fnOf "_law_draws" "_law_draws" (defArgs s__law_draws) (defBody s__law_draws) (defScope s__law_draws) .none kV25 dc25 pm25 an25 cd25 ct25 | 26 => PySem.W.fnOf "_law_draw" "_law_draw" (defArgs s__law_draw) (defBody s__law_draw) (defScope s__law_draw) .none kV26 dc26 pm26 an26 cd26 ct26 | 27 => PySem.W.fnOf "_law_pick" "_law_pick" (defArgs s__law_pick) (defBody s__law_pick) (defScope s__law_pick) .none kV27 dc27 pm27 an27 cd27 ct27 | 28 => PySem.W.fnOf "_law_back" "_law_back" (defArgs s__law_back) (defBody s__law_back) (defScope s__law_back) .none kV28 dc28 pm28 an28 cd28 ct28 | 29 => PySem.W.fnOf "_law_turned" "_law_turned" (defArgs s__law_turned) (defBody s__law_turned) (defScope s__law_turned) .none kV29 dc29 pm29 an29 cd29 ct29 | 30 => PySem.W.fnOf "_law_cut" "_law_cut" (defArgs s__law_cut) (defBody s__law_cut) (defScope s__law_cut) .none kV30 dc30 pm30 an30 cd30 ct30 | 31 => PySem.W.fnOf "_law_word" "_law_word" (defArgs s__law_word) (defBody s__law_word) (defScope s__law_word) .none kV31 dc31 pm31 an31 cd31 ct31 | 32 => PySem.W.fnOf "_law_parted" "_law_parted" (defArgs s__law_parted) (defBody s__law_parted) (defScope s__law_parted) .none kV32 dc32 pm32 an32 cd32 ct32 | 33 => PySem.W.fnOf "_law_turns" "_law_turns" (defArgs s__law_turns) (defBody s__law_turns) (defScope s__law_turns) .none kV33 dc33 pm33 an33 cd33 ct33 | 34 => PySem.W.fnOf "_law_other" "_law_other" (defArgs s__law_other) (defBody s__law_other) (defScope s__law_other) .none kV34 dc34 pm34 an34 cd34 ct34 | 35 => PySem.W.fnOf "_law_due" "_law_due" (defArgs s__law_due) (defBody s__law_due) (defScope s__law_due) .none kV35 dc35 pm35 an35 cd35 ct35 | 36 => PySem.W.fnOf "_law_is_one" "_law_is_one" (defArgs s__law_is_one) (defBody s__law_is_one) (defScope s__law_is_one) .none kV36 dc36 pm36 an36 cd36 ct36 | 37 => PySem.W.fnOf "law" "law" (defArgs s_law) (defBody s_law) (defScope s_law) .none kV37 dc37 pm37 an37 cd37 ct37 | _ => PySem.W.fnOf "check_generators" "check_generators" (defArgs s_check_generators) (defBody s_check_generators) (defScope s_check_generators) .none kV0 dc0 pm0 an0 cd0 ct0) := {
    g_check_generators := PySem.W.mg_of X G a0,
    k_check_generators := k0,
    F_check_generators := F0,
    b_check_generators := F0.binds (ps := ["g"]) fun _ _ _ _ _ _ us hl => match us, hl with | [_], _ => rfl,
    g_letters_of := PySem.W.mg_of X G a1,
    k_letters_of := k1,
    F_letters_of := F1,
    b_letters_of := F1.binds (ps := ["g"]) fun _ _ _ _ _ _ us hl => match us, hl with | [_], _ => rfl,
    g_rank_of := PySem.W.mg_of X G a2,
    k_rank_of := k2,
    F_rank_of := F2,
    b_rank_of := F2.binds (ps := ["letter"]) fun _ _ _ _ _ _ us hl => match us, hl with | [_], _ => rfl,
    g_inverse_letter := PySem.W.mg_of X G a3,
    k_inverse_letter := k3,
    F_inverse_letter := F3,
    b_inverse_letter := F3.binds (ps := ["letter"]) fun _ _ _ _ _ _ us hl => match us, hl with | [_], _ => rfl,
    g_shortlex_key := PySem.W.mg_of X G a4,
    k_shortlex_key := k4,
    F_shortlex_key := F4,
    b_shortlex_key := F4.binds (ps := ["word"]) fun _ _ _ _ _ _ us hl => match us, hl with | [_], _ => rfl,
    g__is_over := PySem.W.mg_of X G a5,
    k__is_over := k5,
    F__is_over := F5,
    b__is_over := F5.binds (ps := ["letters", "text"]) fun _ _ _ _ _ _ us hl => match us, hl with | [_, _], _ => rfl,
    g_is_word := PySem.W.mg_of X G a6,
    k_is_word := k6,
    F_is_word := F6,
    b_is_word := F6.binds (ps := ["g", "text"]) fun _ _ _ _ _ _ us hl => match us, hl with | [_, _], _ => rfl,
    g_check_word := PySem.W.mg_of X G a7,
    k_check_word := k7,
    F_check_word := F7,
    b_check_word := F7.binds (ps := ["g", "text"]) fun _ _ _ _ _ _ us hl => match us, hl with | [_, _], _ => rfl,
    g__check := PySem.W.mg_of X G a8,
    k__check := k8,
    F__check := F8,
    b__check := F8.binds (ps := ["word"]) fun _ _ _ _ _ _ us hl => match us, hl with | [_], _ => rfl,
    g_turned := PySem.W.mg_of X G a9,
    k_turned := k9,
    F_turned := F9,
    b_turned := F9.binds (ps := ["word"]) fun _ _ _ _ _ _ us hl => match us, hl with | [_], _ => rfl,
    g_cut_down := PySem.W.mg_of X G a10,
    k_cut_down := k10,
    F_cut_down := F10,
    b_cut_down := F10.binds (ps := ["word"]) fun _ _ _ _ _ _ us hl => match us, hl with | [_], _ => rfl,
    g_reduced := PySem.W.mg_of X G a11,
    k_reduced := k11,
    F_reduced := F11,
    b_reduced := F11.binds (ps := ["word"]) fun _ _ _ _ _ _ us hl => match us, hl with | [_], _ => rfl,
    g_product := PySem.W.mg_of X G a12,
    k_product := k12,
    F_product := F12,
    b_product := F12.binds (ps := ["one", "other"]) fun _ _ _ _ _ _ us hl => match us, hl with | [_, _], _ => rfl,
    g_power := PySem.W.mg_of X G a13,
    k_power := k13,
    F_power := F13,
    b_power := F13.binds (ps := ["word", "exponent"]) fun _ _ _ _ _ _ us hl => match us, hl with | [_, _], _ => rfl,
    g__parted := PySem.W.mg_of X G a14,
    k__parted := k14,
    F__parted := F14,
    b__parted := F14.binds (ps := ["word"]) fun _ _ _ _ _ _ us hl => match us, hl with | [_], _ => rfl,
    g_core_of := PySem.W.mg_of X G a15,
    k_core_of := k15,
    F_core_of := F15,
    b_core_of := F15.binds (ps := ["word"]) fun _ _ _ _ _ _ us hl => match us, hl with | [_], _ => rfl,
    g_rotations := PySem.W.mg_of X G a16,
    k_rotations := k16,
    F_rotations := F16,
    b_rotations := F16.binds (ps := ["word"]) fun _ _ _ _ _ _ us hl => match us, hl with | [_], _ => rfl,
    g_least_rotation := PySem.W.mg_of X G a17,
    k_least_rotation := k17,
    F_least_rotation := F17,
    b_least_rotation := F17.binds (ps := ["word"]) fun _ _ _ _ _ _ us hl => match us, hl with | [_], _ => rfl,
    g_root_of := PySem.W.mg_of X G a18,
    k_root_of := k18,
    F_root_of := F18,
    b_root_of := F18.binds (ps := ["word"]) fun _ _ _ _ _ _ us hl => match us, hl with | [_], _ => rfl,
    g_commute := PySem.W.mg_of X G a19,
    k_commute := k19,
    F_commute := F19,
    b_commute := F19.binds (ps := ["one", "other"]) fun _ _ _ _ _ _ us hl => match us, hl with | [_, _], _ => rfl,
    g_conjugated := PySem.W.mg_of X G a20,
    k_conjugated := k20,
    F_conjugated := F20,
    b_conjugated := F20.binds (ps := ["word", "by"]) fun _ _ _ _ _ _ us hl => match us, hl with | [_, _], _ => rfl,
    g_class_word := PySem.W.mg_of X G a21,
    k_class_word := k21,
    F_class_word := F21,
    b_class_word := F21.binds (ps := ["word"]) fun _ _ _ _ _ _ us hl => match us, hl with | [_], _ => rfl,
    g_free_conjugate := PySem.W.mg_of X G a22,
    k_free_conjugate := k22,
    F_free_conjugate := F22,
    b_free_conjugate := F22.binds (ps := ["one", "other"]) fun _ _ _ _ _ _ us hl => match us, hl with | [_, _], _ => rfl,
    g_free_conjugator := PySem.W.mg_of X G a23,
    k_free_conjugator := k23,
    F_free_conjugator := F23,
    b_free_conjugator := F23.binds (ps := ["one", "other"]) fun _ _ _ _ _ _ us hl => match us, hl with | [_, _], _ => rfl,
    g__law_number := PySem.W.mg_of X G a24,
    k__law_number := k24,
    F__law_number := F24,
    b__law_number := F24.binds (ps := ["_law_cell"]) fun _ _ _ _ _ _ us hl => match us, hl with | [_], _ => rfl,
    g__law_draws := PySem.W.mg_of X G a25,
    k__law_draws := k25,
    F__law_draws := F25,
    b__law_draws := F25.binds (ps := ["_law_script"]) fun _ _ _ _ _ _ us hl => match us, hl with | [_], _ => rfl,
    g__law_draw := PySem.W.mg_of X G a26,
    k__law_draw := k26,
    F__law_draw := F26,
    b__law_draw := F26.binds (ps := ["_law_draws_here"]) fun _ _ _ _ _ _ us hl => match us, hl with | [_], _ => rfl,
    g__law_pick := PySem.W.mg_of X G a27,
    k__law_pick := k27,
    F__law_pick := F27,
    b__law_pick := F27.binds (ps := ["_law_draws_here", "_law_many"]) fun _ _ _ _ _ _ us hl => match us, hl with | [_, _], _ => rfl,
    g__law_back := PySem.W.mg_of X G a28,
    k__law_back := k28,
    F__law_back := F28,
    b__law_back := F28.binds (ps := ["_law_letter"]) fun _ _ _ _ _ _ us hl => match us, hl with | [_], _ => rfl,
    g__law_turned := PySem.W.mg_of X G a29,
    k__law_turned := k29,
    F__law_turned := F29,
    b__law_turned := F29.binds (ps := ["_law_word_here"]) fun _ _ _ _ _ _ us hl => match us, hl with | [_], _ => rfl,
    g__law_cut := PySem.W.mg_of X G a30,
    k__law_cut := k30,
    F__law_cut := F30,
    b__law_cut := F30.binds (ps := ["_law_word_here"]) fun _ _ _ _ _ _ us hl => match us, hl with | [_], _ => rfl,
    g__law_word := PySem.W.mg_of X G a31,
    k__law_word := k31,
    F__law_word := F31,
    b__law_word := F31.binds (ps := ["_law_draws_here", "_law_g", "_law_most"]) fun _ _ _ _ _ _ us hl => match us, hl with | [_, _, _], _ => rfl,
    g__law_parted := PySem.W.mg_of X G a32,
    k__law_parted := k32,
    F__law_parted := F32,
    b__law_parted := F32.binds (ps := ["_law_word_here"]) fun _ _ _ _ _ _ us hl => match us, hl with | [_], _ => rfl,
    g__law_turns := PySem.W.mg_of X G a33,
    k__law_turns := k33,
    F__law_turns := F33,
    b__law_turns := F33.binds (ps := ["_law_core"]) fun _ _ _ _ _ _ us hl => match us, hl with | [_], _ => rfl,
    g__law_other := PySem.W.mg_of X G a34,
    k__law_other := k34,
    F__law_other := F34,
    b__law_other := F34.binds (ps := ["_law_draws_here", "_law_g", "_law_word_here"]) fun _ _ _ _ _ _ us hl => match us, hl with | [_, _, _], _ => rfl,
    g__law_due := PySem.W.mg_of X G a35,
    k__law_due := k35,
    F__law_due := F35,
    b__law_due := F35.binds (ps := ["_law_one", "_law_other_here"]) fun _ _ _ _ _ _ us hl => match us, hl with | [_, _], _ => rfl,
    g__law_is_one := PySem.W.mg_of X G a36,
    k__law_is_one := k36,
    F__law_is_one := F36,
    b__law_is_one := F36.binds (ps := ["_law_one", "_law_other_here", "_law_by"]) fun _ _ _ _ _ _ us hl => match us, hl with | [_, _, _], _ => rfl,
    g_law := PySem.W.mg_of X G a37,
    k_law := k37,
    F_law := F37,
    b_law := F37.binds (ps := ["_law_script"]) fun _ _ _ _ _ _ us hl => match us, hl with | [_], _ => rfl,
    n_enumerate := PySem.W.mg_none_of X G z_enumerate,
    n_int := PySem.W.mg_none_of X G z_int,
    n_len := PySem.W.mg_none_of X G z_len,
    n_max := PySem.W.mg_none_of X G z_max,
    n_min := PySem.W.mg_none_of X G z_min,
    n_range := PySem.W.mg_none_of X G z_range,
    n_tuple := PySem.W.mg_none_of X G z_tuple,
    c_LETTERS := ⟨_, PySem.W.mg_of X G q_LETTERS⟩,
    c_MOST_GENERATORS := ⟨_, PySem.W.mg_of X G q_MOST_GENERATORS⟩,
    c_MOST_LETTERS := ⟨_, PySem.W.mg_of X G q_MOST_LETTERS⟩,
    c_MOST_EXPONENT := ⟨_, PySem.W.mg_of X G q_MOST_EXPONENT⟩,
    c_GENERATORS := ⟨_, PySem.W.mg_of X G q_GENERATORS⟩,
    e_NotWord := ⟨PySem.W.mg_of X G ca0, cx0, ck0, cb0, ct_0⟩,
    e_BadNumber := ⟨PySem.W.mg_of X G ca1, cx1, ck1, cb1, ct_1⟩,
    e_NoAnswer := ⟨PySem.W.mg_of X G ca2, cx2, ck2, cb2, ct_2⟩ }
  exact ⟨_, fun s v => .of_eq rfl, fun base _ _ => ok_law (base := base) T⟩
end Tx
open PySem PySem.W PyProof.Rows
set_option maxRecDepth 100000 in
set_option maxHeartbeats 0 in
theorem PySem.Challenge.cw_cayleywalk_k75_whole_free_conjugators_holds : PySem.Challenge.rw_cayleywalk_k75_whole_free_conjugators.Holds := by
  w_on; o_law; k_head; (case hw => w_witness2)
  k_fill
  refine L2.walk_of (l := PySem.Challenge.rw_cayleywalk_k75_whole_free_conjugators) (n := 63) (k := 10) (x := "_law_script") (CX := fun w => L2.CX PySem.Challenge.rw_cayleywalk_k75_whole_free_conjugators.prog w) (sp := fun w => DL.spF _ 1 DL.PLaw) rfl (by decide) rfl ⟨rfl, by decide, by decide⟩ (fun w h Y => PySem.W.kIn_of Y) ?F (fun w H a ns hl hO hS => DL.law_start hl hS) (fun w H s e s2 h => DL.law_quiet h)
  case F =>
    intro w mg fa h KX G hmg
    refine' Tx.all_mk KX G hmg ?a0 ?l0 ?b0 ?k0 ?a1 ?l1 ?b1 ?k1 ?a2 ?l2 ?b2 ?k2 ?a3 ?l3 ?b3 ?k3 ?a4 ?l4 ?b4 ?k4 ?a5 ?l5 ?b5 ?k5 ?a6 ?l6 ?b6 ?k6 ?a7 ?l7 ?b7 ?k7 ?a8 ?l8 ?b8 ?k8 ?a9 ?l9 ?b9 ?k9 ?a10 ?l10 ?b10 ?k10 ?a11 ?l11 ?b11 ?k11 ?a12 ?l12 ?b12 ?k12 ?a13 ?l13 ?b13 ?k13 ?a14 ?l14 ?b14 ?k14 ?a15 ?l15 ?b15 ?k15 ?a16 ?l16 ?b16 ?k16 ?a17 ?l17 ?b17 ?k17 ?a18 ?l18 ?b18 ?k18 ?a19 ?l19 ?b19 ?k19 ?a20 ?l20 ?b20 ?k20 ?a21 ?l21 ?b21 ?k21 ?a22 ?l22 ?b22 ?k22 ?a23 ?l23 ?b23 ?k23 ?a24 ?l24 ?b24 ?k24 ?a25 ?l25 ?b25 ?k25 ?a26 ?l26 ?b26 ?k26 ?a27 ?l27 ?b27 ?k27 ?a28 ?l28 ?b28 ?k28 ?a29 ?l29 ?b29 ?k29 ?a30 ?l30 ?b30 ?k30 ?a31 ?l31 ?b31 ?k31 ?a32 ?l32 ?b32 ?k32 ?a33 ?l33 ?b33 ?k33 ?a34 ?l34 ?b34 ?k34 ?a35 ?l35 ?b35 ?k35 ?a36 ?l36 ?b36 ?k36 ?a37 ?l37 ?b37 ?k37 ?z_enumerate ?z_int ?z_len ?z_max ?z_min ?z_range ?z_tuple ?q_LETTERS ?q_MOST_GENERATORS ?q_MOST_LETTERS ?q_MOST_EXPONENT ?q_GENERATORS ?ca0 ?cx0 ?ck0 ?cb0 ?ct_0 ?ca1 ?cx1 ?ck1 ?cb1 ?ct_1 ?ca2 ?cx2 ?ck2 ?cb2 ?ct_2
    (case a0 => k_is)
    (case l0 => k_is)
    (case b0 => k_is)
    (case k0 => k_is)
    (case a1 => k_is)
    (case l1 => k_is)
    (case b1 => k_is)
    (case k1 => k_is)
    (case a2 => k_is)
    (case l2 => k_is)
    (case b2 => k_is)
    (case k2 => k_is)
    (case a3 => k_is)
    (case l3 => k_is)
    (case b3 => k_is)
    (case k3 => k_is)
    (case a4 => k_is)
    (case l4 => k_is)
    (case b4 => k_is)
    (case k4 => k_is)
    (case a5 => k_is)
    (case l5 => k_is)
    (case b5 => k_is)
    (case k5 => k_is)
    (case a6 => k_is)
    (case l6 => k_is)
    (case b6 => k_is)
    (case k6 => k_is)
    (case a7 => k_is)
    (case l7 => k_is)
    (case b7 => k_is)
    (case k7 => k_is)
    (case a8 => k_is)
    (case l8 => k_is)
    (case b8 => k_is)
    (case k8 => k_is)
    (case a9 => k_is)
    (case l9 => k_is)
    (case b9 => k_is)
    (case k9 => k_is)
    (case a10 => k_is)
    (case l10 => k_is)
    (case b10 => k_is)
    (case k10 => k_is)
    (case a11 => k_is)
    (case l11 => k_is)
    (case b11 => k_is)
    (case k11 => k_is)
    (case a12 => k_is)
    (case l12 => k_is)
    (case b12 => k_is)
    (case k12 => k_is)
    (case a13 => k_is)
    (case l13 => k_is)
    (case b13 => k_is)
    (case k13 => k_is)
    (case a14 => k_is)
    (case l14 => k_is)
    (case b14 => k_is)
    (case k14 => k_is)
    (case a15 => k_is)
    (case l15 => k_is)
    (case b15 => k_is)
    (case k15 => k_is)
    (case a16 => k_is)
    (case l16 => k_is)
    (case b16 => k_is)
    (case k16 => k_is)
    (case a17 => k_is)
    (case l17 => k_is)
    (case b17 => k_is)
    (case k17 => k_is)
    (case a18 => k_is)
    (case l18 => k_is)
    (case b18 => k_is)
    (case k18 => k_is)
    (case a19 => k_is)
    (case l19 => k_is)
    (case b19 => k_is)
    (case k19 => k_is)
    (case a20 => k_is)
    (case l20 => k_is)
    (case b20 => k_is)
    (case k20 => k_is)
    (case a21 => k_is)
    (case l21 => k_is)
    (case b21 => k_is)
    (case k21 => k_is)
    (case a22 => k_is)
    (case l22 => k_is)
    (case b22 => k_is)
    (case k22 => k_is)
    (case a23 => k_is)
    (case l23 => k_is)
    (case b23 => k_is)
    (case k23 => k_is)
    (case a24 => k_is)
    (case l24 => k_is)
    (case b24 => k_is)
    (case k24 => k_is)
    (case a25 => k_is)
    (case l25 => k_is)
    (case b25 => k_is)
    (case k25 => k_is)
    (case a26 => k_is)
    (case l26 => k_is)
    (case b26 => k_is)
    (case k26 => k_is)
    (case a27 => k_is)
    (case l27 => k_is)
    (case b27 => k_is)
    (case k27 => k_is)
    (case a28 => k_is)
    (case l28 => k_is)
    (case b28 => k_is)
    (case k28 => k_is)
    (case a29 => k_is)
    (case l29 => k_is)
    (case b29 => k_is)
    (case k29 => k_is)
    (case a30 => k_is)
    (case l30 => k_is)
    (case b30 => k_is)
    (case k30 => k_is)
    (case a31 => k_is)
    (case l31 => k_is)
    (case b31 => k_is)
    (case k31 => k_is)
    (case a32 => k_is)
    (case l32 => k_is)
    (case b32 => k_is)
    (case k32 => k_is)
    (case a33 => k_is)
    (case l33 => k_is)
    (case b33 => k_is)
    (case k33 => k_is)
    (case a34 => k_is)
    (case l34 => k_is)
    (case b34 => k_is)
    (case k34 => k_is)
    (case a35 => k_is)
    (case l35 => k_is)
    (case b35 => k_is)
    (case k35 => k_is)
    (case a36 => k_is)
    (case l36 => k_is)
    (case b36 => k_is)
    (case k36 => k_is)
    (case a37 => k_is)
    (case l37 => k_is)
    (case b37 => k_is)
    (case k37 => k_is)
    (case z_enumerate => k_is)
    (case z_int => k_is)
    (case z_len => k_is)
    (case z_max => k_is)
    (case z_min => k_is)
    (case z_range => k_is)
    (case z_tuple => k_is)
    (case q_LETTERS => k_is)
    (case q_MOST_GENERATORS => k_is)
    (case q_MOST_LETTERS => k_is)
    (case q_MOST_EXPONENT => k_is)
    (case q_GENERATORS => k_is)
    (case ca0 => k_is)
    (case cx0 => k_exc)
    (case ck0 => k_is)
    (case cb0 => k_is)
    (case ct_0 => k_is)
    (case ca1 => k_is)
    (case cx1 => k_exc)
    (case ck1 => k_is)
    (case cb1 => k_is)
    (case ct_1 => k_is)
    (case ca2 => k_is)
    (case cx2 => k_exc)
    (case ck2 => k_is)
    (case cb2 => k_is)
    (case ct_2 => k_is)


