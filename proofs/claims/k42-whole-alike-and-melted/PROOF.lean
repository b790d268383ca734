import PyProof.Rows.All
import Wide.All
import OpenK.AllK
import Wide.FinOn
import HandS.ForMost
import HandS.TupAny
import HandS.TupMul
import HandS.TupLe
import HandS.Style
import HandS.Conv
import HandS.IsInst
import HandS.Wide
import HandS.RaiseMore
import HandS.Flow
import KE.KDictKeyed
import KE.KDictDisplayH
import KE.SortData
import KE.GoesMore
import KE.GoesEnum
import KE.KTupSum
import HandS.TupLen
import PySem.Challenge.RW_uporders_k42_whole_alike_and_melted
set_option Elab.async false
set_option linter.all false
set_option maxRecDepth 100000
set_option maxHeartbeats 4000000
/-! The data layer, part 1: what the slots hold, as data; states and how they grow. -/
namespace L2.U
open PySem PySem.Spec PyProof.Rows

/-! ### data stays while the heap grows -/
theorem sqT_mono {K : PySem.W.Frag} {G H : Hp} (s : Same G H) {a : Addr} {xs : List V} (h : SqT K G a xs) : SqT K H a xs := by
  rcases h with (h | ⟨o, h⟩) | h
  · exact .inl (.inl (s _ _ h))
  · exact .inl (.inr ⟨o, s _ _ h⟩)
  · exact .inr h
mutual
theorem dp_mono {K : PySem.W.Frag} {G H : Hp} (s : Same G H) : ∀ (d : PyData) (v : V), Dp K G v d → Dp K H v d
  | .none, _, h => by cases h; exact .non
  | .bool b, _, h => by cases h; exact .bl b
  | .int i, _, h => by cases h; exact .int i
  | .str x, _, h => by cases h; exact .str x
  | .list ds, _, h => by
    cases h with
    | lst hs ha => exact .lst (s.seq hs) (dpAll_mono s ds _ ha)
  | .tuple ds, _, h => by
    cases h with
    | tup hs ha => exact .tup (sqT_mono s hs) (dpAll_mono s ds _ ha)
  | .dict _, _, h => by cases h
theorem dpAll_mono {K : PySem.W.Frag} {G H : Hp} (s : Same G H) : ∀ (ds : List PyData) (vs : List V), DpAll K G vs ds → DpAll K H vs ds
  | [], _, h => by cases h; exact .nil
  | d :: ds, _, h => by
    cases h with
    | cons h1 h2 => exact .cons (dp_mono s d _ h1) (dpAll_mono s ds _ h2)
end
section
variable {K : PySem.W.Frag} {G H : Hp} {vs ws : List V} {ds es : List PyData}
theorem dpAll_length : ∀ {ds : List PyData} {vs : List V}, DpAll K G vs ds → vs.length = ds.length
  | [], _, h => by cases h; rfl
  | d :: ds, _, h => by
    cases h with
    | cons h1 h2 => simp [dpAll_length h2]
theorem dpAll_get : ∀ {ds : List PyData} {vs : List V} {i : Nat} {d : PyData}, DpAll K G vs ds → ds[i]? = some d → ∃ v, vs[i]? = some v ∧ Dp K G v d
  | [], _, i, d, h, e => by simp at e
  | x :: ds, _, 0, d, h, e => by
    cases h with
    | cons h1 h2 =>
      simp at e
      subst e
      exact ⟨_, rfl, h1⟩
  | x :: ds, _, i + 1, d, h, e => by
    cases h with
    | cons h1 h2 =>
      obtain ⟨v, q1, q2⟩ := dpAll_get (i := i) h2 (by simpa using e)
      exact ⟨v, by simpa using q1, q2⟩
theorem dpAll_getV : ∀ {ds : List PyData} {vs : List V} {i : Nat} {v : V}, DpAll K G vs ds → vs[i]? = some v → ∃ d, ds[i]? = some d ∧ Dp K G v d
  | [], _, i, d, h, e => by cases h; simp at e
  | x :: ds, _, 0, d, h, e => by
    cases h with
    | cons h1 h2 =>
      simp at e
      subst e
      exact ⟨_, rfl, h1⟩
  | x :: ds, _, i + 1, d, h, e => by
    cases h with
    | cons h1 h2 =>
      obtain ⟨v, q1, q2⟩ := dpAll_getV (i := i) h2 (by simpa using e)
      exact ⟨v, by simpa using q1, q2⟩
theorem dpAll_append : ∀ {ds : List PyData} {vs : List V}, DpAll K G vs ds → DpAll K G ws es → DpAll K G (vs ++ ws) (ds ++ es)
  | [], _, h, h' => by cases h; exact h'
  | d :: ds, _, h, h' => by
    cases h with
    | cons h1 h2 => exact .cons h1 (dpAll_append h2 h')
theorem dpAll_take : ∀ {ds : List PyData} {vs : List V} (n : Nat), DpAll K G vs ds → DpAll K G (vs.take n) (ds.take n)
  | _, _, 0, _ => by simpa using DpAll.nil
  | [], _, n + 1, h => by cases h; exact .nil
  | d :: ds, _, n + 1, h => by
    cases h with
    | cons h1 h2 => exact .cons h1 (dpAll_take n h2)
theorem dpAll_drop : ∀ {ds : List PyData} {vs : List V} (n : Nat), DpAll K G vs ds → DpAll K G (vs.drop n) (ds.drop n)
  | _, _, 0, h => h
  | [], _, n + 1, h => by cases h; exact .nil
  | d :: ds, _, n + 1, h => by
    cases h with
    | cons h1 h2 => exact dpAll_drop n h2
theorem dpAll_set : ∀ {ds : List PyData} {vs : List V} (n : Nat) {v : V} {d : PyData}, Dp K G v d → DpAll K G vs ds → DpAll K G (vs.set n v) (ds.set n d)
  | [], _, n, _, _, _, h => by cases h; exact .nil
  | x :: ds, _, 0, _, _, q, h => by
    cases h with
    | cons h1 h2 => exact .cons q h2
  | x :: ds, _, n + 1, _, _, q, h => by
    cases h with
    | cons h1 h2 => exact .cons h1 (dpAll_set n q h2)
theorem dpAll_ints : ∀ {ns : List Int} {vs : List V}, DpAll K G vs (ns.map PyData.int) → vs = ns.map V.int
  | [], _, h => by cases h; rfl
  | n :: ns, _, h => by
    cases h with
    | cons h1 h2 =>
      cases h1
      rw [dpAll_ints h2]
      rfl
theorem ints_dpAll : ∀ (ns : List Int), DpAll K G (ns.map V.int) (ns.map PyData.int)
  | [] => .nil
  | n :: ns => .cons (.int n) (ints_dpAll ns)
theorem dpAll_bls : ∀ {ns : List Bool} {vs : List V}, DpAll K G vs (ns.map PyData.bool) → vs = ns.map V.bl
  | [], _, h => by cases h; rfl
  | n :: ns, _, h => by
    cases h with
    | cons h1 h2 =>
      cases h1
      rw [dpAll_bls h2]
      rfl
end

/-! ### heaps -/
theorem same_new {H : Hp} {p : Addr} {o : HO} (h : H p = none) : Same H (upd H p o) := fun b u e => by rw [upd_ne (ne_of_none e h)]; exact e
theorem same_upd2 {G H : Hp} {p : Addr} {o : HO} (s : Same G H) : Same (upd G p o) (upd H p o) := fun b u e => by
  by_cases h : b = p
  · subst h; rw [upd_same] at e ⊢; exact e
  · rw [upd_ne h] at e ⊢; exact s _ _ e
theorem same_put {G H : Hp} {p : Addr} {o : HO} (s : Same G H) (g : G p = none) : Same G (upd H p o) := fun b u e => by rw [upd_ne (ne_of_none e g)]; exact s _ _ e

/-! ### what runs: the data of the context -/
/-- the thing that is changed by callees: none; or the law's dict of draws at a, with its two lists -/
inductive Md where
  | pure
  | m (a cl gl : Addr)
def Md.has : Md → Addr → Prop
  | .pure, _ => False
  | .m a cl gl, l => l = a ∨ l = cl ∨ l = gl
/-- the dict of draws, at most b drawn -/
structure MInv (a cl gl : Addr) (b : Nat) (H : Hp) : Prop where
  ne : cl ≠ gl
  ex : ∃ (n : Nat) (cells great : List Int), H a = some (.dK [(.inr "cells", .ref cl), (.inr "great", .ref gl), (.inr "spot", .int n)]) ∧ H cl = some (.lst (cells.map V.int)) ∧ H gl = some (.lst (great.map V.int)) ∧
    cells.length = 64 ∧ (∀ z ∈ cells, 0 ≤ z ∧ z < 2147483647) ∧ great.length ≤ 63 ∧ (∀ z ∈ great, 0 ≤ z) ∧ n ≤ b
def Md.I : Md → Nat → Hp → Prop
  | .pure, _, _ => True
  | .m a cl gl, b, H => MInv a cl gl b H
theorem Md.I.same {md : Md} {b : Nat} {H H' : Hp} (s : Same H H') (h : md.I b H) : md.I b H' := by
  cases md with
  | pure => exact trivial
  | m a cl gl =>
    obtain ⟨ne, n, cells, great, h1, h2, h3, r⟩ := h
    exact ⟨ne, n, cells, great, s _ _ h1, s _ _ h2, s _ _ h3, r⟩
theorem Md.I.le {md : Md} {b b' : Nat} {H : Hp} (l : b ≤ b') (h : md.I b H) : md.I b' H := by
  cases md with
  | pure => exact trivial
  | m a cl gl =>
    obtain ⟨ne, n, cells, great, h1, h2, h3, h4, h5, h6, h7, h8⟩ := h
    exact ⟨ne, n, cells, great, h1, h2, h3, h4, h5, h6, h7, Nat.le_trans h8 l⟩
theorem Md.I.there {md : Md} {b : Nat} {H : Hp} (h : md.I b H) {l : Addr} (hl : md.has l) : H l ≠ none := by
  cases md with
  | pure => exact hl.elim
  | m a cl gl =>
    obtain ⟨ne, n, cells, great, h1, h2, h3, r⟩ := h
    rcases hl with rfl | rfl | rfl
    · rw [h1]; exact fun z => nomatch z
    · rw [h2]; exact fun z => nomatch z
    · rw [h3]; exact fun z => nomatch z

/-- a def's call: the kept part, the program, the world; what is changed by callees; the frozen heap and the whole one at the entry -/
structure Ct where
  K : PySem.W.Frag
  P : Program
  w : World
  md : Md
  G0 : Hp
  H0 : Hp

/-- how the frozen heap and the whole one grow -/
structure Go (c : Ct) (G H G' H' : Hp) : Prop where
  keep : ∀ l o, ¬ c.md.has l → H l = some o → H' l = some o
  dom : ∀ l, H' l = none → H l = none
  gg : Same G G'
  sub : Same G' H'
  fz : ∀ l, H l ≠ none → G' l = G l
/-- .. where nothing is changed -/
structure Grow (G H G' H' : Hp) : Prop where
  keep : Same H H'
  gg : Same G G'
  sub : Same G' H'
  fz : ∀ l, H l ≠ none → G' l = G l
section
variable {c : Ct} {G H G1 H1 G2 H2 : Hp}
theorem Grow.refl (s : Same G H) : Grow G H G H := ⟨.refl _, .refl _, s, fun _ _ => rfl⟩
theorem Same.dom (s : Same H H1) : ∀ l, H1 l = none → H l = none := fun l h => s.free h
theorem Grow.go (g : Grow G H G1 H1) : Go c G H G1 H1 := ⟨fun l o _ e => g.keep l o e, Same.dom g.keep, g.gg, g.sub, g.fz⟩
theorem Go.refl (s : Same G H) : Go c G H G H := (Grow.refl s).go
theorem Go.trans (a : Go c G H G1 H1) (b : Go c G1 H1 G2 H2) : Go c G H G2 H2 :=
  ⟨fun l o n e => b.keep l o n (a.keep l o n e), fun l e => a.dom l (b.dom l e), a.gg.trans b.gg, b.sub, fun l h => (b.fz l fun z => h (a.dom l z)).trans (a.fz l h)⟩
theorem Grow.trans (a : Grow G H G1 H1) (b : Grow G1 H1 G2 H2) : Grow G H G2 H2 :=
  ⟨a.keep.trans b.keep, a.gg.trans b.gg, b.sub, fun l h => (b.fz l fun z => h (a.keep.free z)).trans (a.fz l h)⟩
/-- a new frozen object -/
theorem Grow.tup {p : Addr} {o : HO} (s : Same G H) (h : H p = none) : Grow G H (upd G p o) (upd H p o) :=
  ⟨same_new h, same_new (s.free h), same_upd2 s, fun l q => upd_ne fun z => q (by rw [z]; exact h)⟩
/-- a new object that is not frozen -/
theorem Grow.new {p : Addr} {o : HO} (s : Same G H) (h : H p = none) : Grow G H G (upd H p o) := ⟨same_new h, .refl _, same_put s (s.free h), fun _ _ => rfl⟩
end

/-! ### what an expression gives, what a slot holds -/
inductive R where
  /-- data that never changes -/
  | d (x : PyData)
  /-- a list that may be changed here; fr: just made -/
  | o (fr : Bool) (xs : List PyData)
  /-- a list of such lists -/
  | oo (fr : Bool) (xs : List (List PyData))
  /-- a dict with such keys, all values True -/
  | k (fr : Bool) (ks : List NestedKey)
  /-- the dict of draws -/
  | m
def R.fresh : R → Bool
  | .d _ => false
  | .o f _ => f
  | .oo f _ => f
  | .k f _ => f
  | .m => false
def R.held : R → R
  | .o _ xs => .o false xs
  | .oo _ xs => .oo false xs
  | .k _ xs => .k false xs
  | r => r
/-- lists at these addresses -/
inductive Inner (K : PySem.W.Frag) (G H : Hp) : List Addr → List (List PyData) → Prop
  | nil : Inner K G H [] []
  | cons {l : Addr} {vs : List V} {xs : List PyData} {ls : List Addr} {xss : List (List PyData)} : H l = some (.lst vs) → DpAll K G vs xs → Inner K G H ls xss → Inner K G H (l :: ls) (xs :: xss)
/-- the object of a dict whose keys are xs (each with its tuple's address), all values True -/
def dkObj (P : Program) (w : World) (a : Addr) (xs : List (NestedKey × Addr)) : Heap → Prop := fun h =>
  (a == sysModules) = false ∧ ∃ o es ep, h.get? a = some o ∧ o.ExactDict ∧ o.data = .dict es ep ∧ es.toList = (xs.map fun x => (x.1, x.2, Value.bool true)).map (entryOfKey (nestedKind P w)) ∧ (xs.map (·.1)).Nodup
/-- the keys' tuples -/
def KeysAt (K : PySem.W.Frag) (G : Hp) (xs : List (NestedKey × Addr)) : Prop := ∀ x ∈ xs, Dp K G (.ref x.2) x.1.data ∧ x.1.depth ≤ 8
/-- v is r; fp: the objects that stand for it alone -/
structure Rk (c : Ct) (G H : Hp) (v : V) (r : R) (fp : List Addr) : Prop where
  own : ∀ a ∈ fp, G a = none ∧ c.H0 a = none ∧ H a ≠ none
  nd : fp.Nodup
  is : match r with
    | .d x => fp = [] ∧ Dp c.K G v x
    | .o _ xs => ∃ l vs, v = .ref l ∧ fp = [l] ∧ H l = some (.lst vs) ∧ DpAll c.K G vs xs
    | .oo _ xss => ∃ l ls, v = .ref l ∧ fp = l :: ls ∧ H l = some (.lst (ls.map V.ref)) ∧ Inner c.K G H ls xss
    | .k _ ks => ∃ a xs, v = .ref a ∧ fp = [a] ∧ H a = some (.ext (dkObj c.P c.w a xs)) ∧ xs.map (·.1) = ks ∧ xs.length ≤ sizeLine ∧ KeysAt c.K G xs
    | .m => fp = [] ∧ ∃ a cl gl, c.md = .m a cl gl ∧ v = .ref a
/-- just made since H -/
def Fr (H : Hp) (r : R) (fp : List Addr) : Prop := r.fresh = true → ∀ a ∈ fp, H a = none

/-- the changed thing stood there at the entry -/
def Ct.Ok (c : Ct) : Prop := ∀ l, c.md.has l → c.H0 l ≠ none ∧ c.G0 l = none
section
variable {c : Ct} {G H G1 H1 : Hp} {v : V} {r : R} {fp : List Addr}
theorem Inner.go {K : PySem.W.Frag} : ∀ {ls : List Addr} {xss : List (List PyData)}, Inner K G H ls xss → Same G G1 → (∀ l ∈ ls, ∀ o, H l = some o → H1 l = some o) → Inner K G1 H1 ls xss
  | [], _, h, _, _ => by cases h; exact .nil
  | l :: ls, _, h, s, k => by
    cases h with
    | cons h1 h2 h3 => exact .cons (k _ List.mem_cons_self _ h1) (dpAll_mono s _ _ h2) (h3.go s fun b hb => k b (List.mem_cons_of_mem _ hb))
theorem KeysAt.mono {K : PySem.W.Frag} {xs : List (NestedKey × Addr)} (s : Same G G1) (h : KeysAt K G xs) : KeysAt K G1 xs := fun x hx => ⟨dp_mono s _ _ (h x hx).1, (h x hx).2⟩
theorem Rk.keepIf (h : Rk c G H v r fp) (k : ∀ l ∈ fp, ∀ o, H l = some o → H1 l = some o) (s : Same G G1) (z : ∀ l ∈ fp, G1 l = none) : Rk c G1 H1 v r fp := by
  obtain ⟨own, nd, is⟩ := h
  refine ⟨fun a ha => ⟨z a ha, (own a ha).2.1, fun q => ?_⟩, nd, ?_⟩
  · cases e : H a with
    | none => exact (own a ha).2.2 e
    | some o =>
      have := k a ha o e
      rw [q] at this
      cases this
  · cases r with
    | d x => exact ⟨is.1, dp_mono s _ _ is.2⟩
    | o f xs =>
      obtain ⟨l, vs, e, e2, e3, e4⟩ := is
      exact ⟨l, vs, e, e2, k l (by rw [e2]; simp) _ e3, dpAll_mono s _ _ e4⟩
    | oo f xss =>
      obtain ⟨l, ls, e, e2, e3, e4⟩ := is
      exact ⟨l, ls, e, e2, k l (by rw [e2]; simp) _ e3, e4.go s fun b hb => k b (by rw [e2]; exact List.mem_cons_of_mem _ hb)⟩
    | k f ks =>
      obtain ⟨a, xs, e, e2, e3, e4, e5, e6⟩ := is
      exact ⟨a, xs, e, e2, k a (by rw [e2]; simp) _ e3, e4, e5, e6.mono s⟩
    | m => exact is
theorem Rk.go (h : Rk c G H v r fp) (ok : c.Ok) (g : Go c G H G1 H1) : Rk c G1 H1 v r fp :=
  h.keepIf (fun l hl o e => g.keep l o (fun z => (ok l z).1 (h.own l hl).2.1) e) g.gg fun l hl => (g.fz l (h.own l hl).2.2).trans (h.own l hl).1
theorem Rk.held (h : Rk c G H v r fp) : Rk c G H v r.held fp := by
  obtain ⟨a, b, k⟩ := h
  refine ⟨a, b, ?_⟩
  cases r <;> exact k
theorem rk_d {x : PyData} (h : Dp c.K G v x) : Rk c G H v (.d x) [] := ⟨(fun _ z => nomatch z), List.nodup_nil, rfl, h⟩
theorem fr_d {x : PyData} : Fr H (.d x) fp := fun z => Bool.noConfusion z
theorem fr_held : Fr H r.held fp := by cases r <;> exact fun z => Bool.noConfusion z
theorem Rk.dat {x : PyData} (h : Rk c G H v (.d x) fp) : Dp c.K G v x := h.is.2
theorem Rk.nofp {x : PyData} (h : Rk c G H v (.d x) fp) : fp = [] := h.is.1
end

/-! ### states -/
abbrev DRho := List (Option R)
/-- the slots, each with its own objects -/
structure DSlots (c : Ct) (G H : Hp) (σ : St) (ρ : DRho) (fps : Nat → List Addr) : Prop where
  sl : ∀ i r, ρ[i]? = some (some r) → ∃ v, σ[i]? = some (some v) ∧ Rk c G H v r (fps i)
  dis : ∀ i j ri rj, i ≠ j → ρ[i]? = some (some ri) → ρ[j]? = some (some rj) → ∀ a, a ∈ fps i → a ∉ fps j
structure DState (c : Ct) (b : Nat) (G H : Hp) (σ : St) (ρ : DRho) : Prop where
  ok : c.Ok
  go : Go c c.G0 c.H0 G H
  inv : c.md.I b H
  len : ρ.length = σ.length
  ex : ∃ fps, DSlots c G H σ ρ fps
section
variable {c : Ct} {b : Nat} {G H G1 H1 : Hp} {σ : St} {ρ : DRho}
theorem DSlots.go {fps : Nat → List Addr} (s : DSlots c G H σ ρ fps) (ok : c.Ok) (g : Go c G H G1 H1) : DSlots c G1 H1 σ ρ fps :=
  ⟨fun i r e => let ⟨v, q, k⟩ := s.sl i r e; ⟨v, q, k.go ok g⟩, s.dis⟩
theorem DState.grow {b' : Nat} (s : DState c b G H σ ρ) (g : Go c G H G1 H1) (i : c.md.I b' H1) : DState c b' G1 H1 σ ρ :=
  ⟨s.ok, s.go.trans g, i, s.len, let ⟨fps, q⟩ := s.ex; ⟨fps, q.go s.ok g⟩⟩
theorem DState.sub (s : DState c b G H σ ρ) : Same G H := s.go.sub
theorem DState.here (s : DState c b G H σ ρ) {l : Addr} (h : H l = none) : c.H0 l = none := s.go.dom l h
/-- a slot's content -/
theorem DState.at (s : DState c b G H σ ρ) {i : Nat} {r : R} (e : ρ[i]? = some (some r)) : ∃ v fp, σ[i]? = some (some v) ∧ Rk c G H v r fp := by
  obtain ⟨fps, q⟩ := s.ex
  obtain ⟨v, q1, q2⟩ := q.sl i r e
  exact ⟨v, _, q1, q2⟩
/-- what is just made stands apart from the slots -/
def Apart (c : Ct) (ρ : DRho) (fps : Nat → List Addr) (fp : List Addr) : Prop := ∀ i r, ρ[i]? = some (some r) → ∀ a, a ∈ fp → a ∉ fps i
/-- a name is stored -/
theorem DSlots.put {fps : Nat → List Addr} (s : DSlots c G H σ ρ fps) {i : Nat} {v : V} {r : R} {fp : List Addr} (hl : ρ.length = σ.length) (k : Rk c G H v r fp)
    (ap : ∀ j r', j ≠ i → ρ[j]? = some (some r') → ∀ a, a ∈ fp → a ∉ fps j) : DSlots c G H (σ.set i (some v)) (ρ.set i (some r)) (fun j => if j = i then fp else fps j) := by
  refine ⟨fun j r' e => ?_, fun j1 j2 r1 r2 ne e1 e2 a h1 h2 => ?_⟩
  · by_cases h : j = i
    · subst h
      have hj : j < ρ.length := by
        have := (List.getElem?_eq_some_iff.mp e).1
        simpa using this
      rw [List.getElem?_set_self hj] at e
      cases e
      refine ⟨v, ?_, ?_⟩
      · rw [List.getElem?_set_self (by omega)]
      · rw [if_pos rfl]; exact k
    · rw [List.getElem?_set_ne (Ne.symm h)] at e
      obtain ⟨v', q1, q2⟩ := s.sl j r' e
      refine ⟨v', ?_, ?_⟩
      · rw [List.getElem?_set_ne (Ne.symm h)]; exact q1
      · rw [if_neg h]; exact q2
  · by_cases h : j1 = i
    · subst h
      rw [if_pos rfl] at h1
      have n2 : j2 ≠ j1 := Ne.symm ne
      rw [if_neg n2] at h2
      rw [List.getElem?_set_ne (Ne.symm n2)] at e2
      exact ap j2 r2 n2 e2 a h1 h2
    · rw [if_neg h] at h1
      rw [List.getElem?_set_ne (Ne.symm h)] at e1
      by_cases h' : j2 = i
      · subst h'
        rw [if_pos rfl] at h2
        exact ap j1 r1 h e1 a h2 h1
      · rw [if_neg h'] at h2
        rw [List.getElem?_set_ne (Ne.symm h')] at e2
        exact s.dis j1 j2 r1 r2 ne e1 e2 a h1 h2
/-- a slot is forgotten -/
theorem DSlots.drop {fps : Nat → List Addr} (s : DSlots c G H σ ρ fps) (i : Nat) (o : Option V) : DSlots c G H (σ.set i o) (ρ.set i none) fps := by
  have key : ∀ j r, (ρ.set i none)[j]? = some (some r) → j ≠ i ∧ ρ[j]? = some (some r) := fun j r e => by
    by_cases h : j = i
    · subst h
      have hj : j < ρ.length := by
        have := (List.getElem?_eq_some_iff.mp e).1
        simpa using this
      rw [List.getElem?_set_self hj] at e
      cases e
    · rw [List.getElem?_set_ne (Ne.symm h)] at e
      exact ⟨h, e⟩
  refine ⟨fun j r e => ?_, fun j1 j2 r1 r2 ne e1 e2 => s.dis j1 j2 r1 r2 ne (key _ _ e1).2 (key _ _ e2).2⟩
  obtain ⟨h, e'⟩ := key j r e
  obtain ⟨v, q1, q2⟩ := s.sl j r e'
  exact ⟨v, by rw [List.getElem?_set_ne (Ne.symm h)]; exact q1, q2⟩
theorem DSlots.sub {fps : Nat → List Addr} (s : DSlots c G H σ ρ fps) {ρ' : DRho} (h : ∀ (i : Nat) (r : R), ρ'[i]? = some (some r) → ρ[i]? = some (some r)) : DSlots c G H σ ρ' fps :=
  ⟨fun i r e => s.sl i r (h i r e), fun j1 j2 r1 r2 ne e1 e2 => s.dis j1 j2 r1 r2 ne (h _ _ e1) (h _ _ e2)⟩
end
end L2.U
/-! The data layer, part 2: expressions, by what they make of the data. -/
namespace L2.U
open PySem PySem.Spec PyProof.Rows

abbrev EW := DRho → Nat → (R → Nat → Prop) → Prop
abbrev TW := DRho → Nat → (Bool → Nat → Prop) → Prop
abbrev AW := DRho → Nat → (List R → Nat → Prop) → Prop
def EMono (te : EW) : Prop := ∀ ρ b (Q Q' : R → Nat → Prop), (∀ r b', Q r b' → Q' r b') → te ρ b Q → te ρ b Q'
def TMono (te : TW) : Prop := ∀ ρ b (Q Q' : Bool → Nat → Prop), (∀ r b', Q r b' → Q' r b') → te ρ b Q → te ρ b Q'
def AMono (te : AW) : Prop := ∀ ρ b (Q Q' : List R → Nat → Prop), (∀ r b', Q r b' → Q' r b') → te ρ b Q → te ρ b Q'
def lft {α : Type} (o : Option α) (Q : α → Prop) : Prop := match o with
  | some r => Q r
  | none => False
theorem lft_mono {α : Type} {o : Option α} {Q Q' : α → Prop} (h : ∀ r, Q r → Q' r) (q : lft o Q) : lft o Q' := by
  cases o with
  | none => exact q
  | some r => exact h r q
theorem lft_some {α : Type} {o : Option α} {r : α} {Q : α → Prop} (e : o = some r) (q : Q r) : lft o Q := by rw [e]; exact q
theorem lft_ex {α : Type} {o : Option α} {Q : α → Prop} (q : lft o Q) : ∃ r, o = some r ∧ Q r := by
  cases o with
  | none => exact q.elim
  | some r => exact ⟨r, rfl, q⟩

/-- what is wanted of a value -/
def EPost (c : Ct) (G H : Hp) (Q : VK) (r : R) (b' : Nat) : Prop := ∀ G' H' v fp, Go c G H G' H' → c.md.I b' H' → Rk c G' H' v r fp → Fr H r fp → Q v H'
def tE (c : Ct) (te : EW) : TE := fun σ H Q => ∃ G ρ b, DState c b G H σ ρ ∧ te ρ b (EPost c G H Q)
def TPost (c : Ct) (G H : Hp) (Q : Bool → Hp → Prop) (k : Bool) (b' : Nat) : Prop := ∀ G' H', Go c G H G' H' → c.md.I b' H' → Q k H'
def tT (c : Ct) (te : TW) : TT := fun σ H Q => ∃ G ρ b, DState c b G H σ ρ ∧ te ρ b (TPost c G H Q)
/-- several values: what is just made stands apart from the others -/
inductive RkAll (c : Ct) (G H H1 : Hp) : List V → List R → List (List Addr) → Prop
  | nil : RkAll c G H H1 [] [] []
  | cons {v : V} {vs : List V} {r : R} {rs : List R} {fp : List Addr} {fps : List (List Addr)} : Rk c G H v r fp → Fr H1 r fp →
      (∀ (i : Nat) r' fp', rs[i]? = some r' → fps[i]? = some fp' → r.fresh = true → r'.fresh = true → ∀ a ∈ fp, a ∉ fp') → RkAll c G H H1 vs rs fps → RkAll c G H H1 (v :: vs) (r :: rs) (fp :: fps)
def APost (c : Ct) (G H : Hp) (Q : List V → Hp → Prop) (rs : List R) (b' : Nat) : Prop := ∀ G' H' vs fps, Go c G H G' H' → c.md.I b' H' → RkAll c G' H' H vs rs fps → Q vs H'
def tA (c : Ct) (te : AW) : TA := fun σ H Q => ∃ G ρ b, DState c b G H σ ρ ∧ te ρ b (APost c G H Q)

theorem RkAll.length {c : Ct} {G H H1 : Hp} : ∀ {vs : List V} {rs : List R} {fps : List (List Addr)}, RkAll c G H H1 vs rs fps → vs.length = rs.length ∧ fps.length = rs.length
  | _, _, _, .nil => ⟨rfl, rfl⟩
  | _, _, _, .cons _ _ _ t => by obtain ⟨a, b⟩ := t.length; exact ⟨by simp [a], by simp [b]⟩

theorem pe_imp {X : Cx} {e : Expr} {t t' : TE} (h : PE X e t) (i : ∀ σ H Q, t' σ H Q → t σ H Q) : PE X e t' := ⟨fun pins s σ H Q I q => h.run pins s σ H Q I (i _ _ _ q)⟩
theorem pt_imp {X : Cx} {e : Expr} {t t' : TT} (h : PT X e t) (i : ∀ σ H Q, t' σ H Q → t σ H Q) : PT X e t' := ⟨fun pins s σ H Q I q => h.run pins s σ H Q I (i _ _ _ q)⟩
theorem pw_imp {X : Cx} {e : Expr} {t t' : TT} (h : PW X e t) (i : ∀ σ H Q, t' σ H Q → t σ H Q) : PW X e t' := ⟨fun wh pins s σ H Q I q => h.run wh pins s σ H Q I (i _ _ _ q)⟩
theorem pa_imp {X : Cx} {e : List Expr} {t t' : TA} (h : PA X e t) (i : ∀ σ H Q, t' σ H Q → t σ H Q) : PA X e t' := ⟨fun pos pins s σ H Q I q => h.run pos pins s σ H Q I (i _ _ _ q)⟩
theorem ps_imp {X : Cx} {e : Stmt} {t t' : TS} (h : PS X e t) (i : ∀ D σ H, t' D σ H → t D σ H) : PS X e t' := ⟨fun pins s σ H D I q => h.run pins s σ H D I (i _ _ _ q)⟩
theorem pss_imp {X : Cx} {e : List Stmt} {t t' : TS} (h : PSs X e t) (i : ∀ D σ H, t' D σ H → t D σ H) : PSs X e t' := ⟨fun pins s σ H D I q => h.run pins s σ H D I (i _ _ _ q)⟩

structure PDE (c : Ct) (X : Cx) (e : Expr) (te : EW) : Prop where
  pe : PE X e (tE c te)
  mono : EMono te
structure PDT (c : Ct) (X : Cx) (e : Expr) (te : TW) : Prop where
  pt : PT X e (tT c te)
  mono : TMono te
structure PDW (c : Ct) (X : Cx) (e : Expr) (te : TW) : Prop where
  pw : PW X e (tT c te)
  mono : TMono te
structure PDA (c : Ct) (X : Cx) (es : List Expr) (te : AW) : Prop where
  pa : PA X es (tA c te)
  mono : AMono te
  len : ∀ ρ b Q, te ρ b Q → te ρ b fun rs b' => rs.length = es.length ∧ Q rs b'

/-- the context is c's -/
structure Fit (c : Ct) (X : Cx) : Prop where
  k : X.K = c.K := by rfl
  p : X.prog = c.P := by rfl
  w : X.w = c.w := by rfl

section
variable {c : Ct} {X : Cx} {a b e e1 e2 e3 : Expr} {es : List Expr} {ta tb tc : EW} {pos : Pos}

/-! ### names, constants -/
def eVar (i : Nat) : EW := fun ρ b Q => lft (ρ[i]?.join) fun r => Q r.held b
def eC (x : PyData) : EW := fun _ b Q => Q (.d x) b
theorem eVar_mono (i : Nat) : EMono (eVar i) := fun ρ b Q Q' h q => lft_mono (fun r => h _ _) q
theorem eC_mono (x : PyData) : EMono (eC x) := fun ρ b Q Q' h q => h _ _ q
theorem join_some {ρ : DRho} {i : Nat} {r : R} (h : ρ[i]?.join = some r) : ρ[i]? = some (some r) := by
  cases e : ρ[i]? with
  | none => rw [e] at h; cases h
  | some o =>
    rw [e] at h
    have h' : o = some r := h
    rw [h']
theorem pd_name {x : Str} {p : Pos} {i : Nat} (h : PE X (.Name x p) (tVar i)) : PDE c X (.Name x p) (eVar i) := by
  refine ⟨pe_imp h fun σ H Q q => ?_, eVar_mono i⟩
  obtain ⟨G, ρ, bb, S, q⟩ := q
  obtain ⟨r, e, q⟩ := lft_ex q
  obtain ⟨v, fp, e1, k⟩ := S.at (join_some e)
  exact ⟨v, e1, q G H v fp (Go.refl S.sub) S.inv k.held fr_held⟩
theorem pv_ (i : Nat) {x : Str} {pos : Pos} (hN : X.N[i]? = some x := by rfl) (hv : Vis X.env.scope x := by first | exact Or.inl rfl | exact Or.inr (Or.inl rfl) | exact Or.inr (Or.inr rfl)) (hd : (x == ("__debug__" : Str)) = false := by decide)
    (hcd : (x == ("__classdict__" : Str)) = false := by decide) : PDE c X (.Name x pos) (eVar i) := pd_name (pe_var hN hv hd hcd)
theorem pd_const {v : V} {x : PyData} (h : PE X e (tC v)) (k : ∀ G, Dp c.K G v x) : PDE c X e (eC x) := by
  refine ⟨pe_imp h fun σ H Q q => ?_, eC_mono x⟩
  obtain ⟨G, ρ, bb, S, q⟩ := q
  exact q G H v [] (Go.refl S.sub) S.inv (rk_d (k G)) fr_d
theorem pd_int {i : Int} {j} {pos} : PDE c X (.Constant (.int i) j pos) (eC (.int i)) := pd_const pe_int fun _ => .int i
theorem pd_bl {i : Bool} {j} {pos} : PDE c X (.Constant (.bool i) j pos) (eC (.bool i)) := pd_const pe_bl fun _ => .bl i
theorem pd_str {i : Str} {j} {pos} : PDE c X (.Constant (.str i) j pos) (eC (.str i)) := pd_const pe_str fun _ => .str i
theorem pd_non {j} {pos} : PDE c X (.Constant .none j pos) (eC .none) := pd_const pe_non fun _ => .non
/-- a constant of the module -/
def Kon (mg : Str → Option Value) (x : Str) (v : V) : Prop := ∃ u, mg x = some u ∧ RelV v u
theorem pd_gint {x : Str} {i : Int} {p : Pos} (h : Kon X.mg x (.int i)) (hg : Gl X x) (hd : (x == ("__debug__" : Str)) = false := by decide) : PDE c X (.Name x p) (eC (.int i)) := by
  obtain ⟨u, e, r⟩ := h
  exact pd_const (pe_glob hg e r hd) fun _ => .int i
theorem pd_gstr {x : Str} {i : Str} {p : Pos} (h : Kon X.mg x (.str i)) (hg : Gl X x) (hd : (x == ("__debug__" : Str)) = false := by decide) : PDE c X (.Name x p) (eC (.str i)) := by
  obtain ⟨u, e, r⟩ := h
  exact pd_const (pe_glob hg e r hd) fun _ => .str i

/-! ### by values -/
/-- one value -/
def Lf1 (c : Ct) (rd : V → Hp → VK → Prop) (f : R → Option R) : Prop := ∀ (G H : Hp) (x : V) (rx : R) (fx : List Addr) (rr : R) (Q : VK), Same G H → (∀ l, H l = none → c.H0 l = none) → Rk c G H x rx fx → f rx = some rr →
  (∀ G' H' v fp, Grow G H G' H' → Rk c G' H' v rr fp → Fr H rr fp → Q v H') → rd x H Q
def Lf2 (c : Ct) (rd : R2) (f : R → R → Option R) : Prop := ∀ (G H : Hp) (x y : V) (rx ry : R) (fx fy : List Addr) (rr : R) (Q : VK), Same G H → (∀ l, H l = none → c.H0 l = none) → Rk c G H x rx fx → Rk c G H y ry fy → f rx ry = some rr →
  (∀ G' H' v fp, Grow G H G' H' → Rk c G' H' v rr fp → Fr H rr fp → Q v H') → rd x y H Q
/-- a list of values -/
inductive RkL (c : Ct) (G H : Hp) : List V → List R → Prop
  | nil : RkL c G H [] []
  | cons {v : V} {vs : List V} {r : R} {rs : List R} {fp : List Addr} : Rk c G H v r fp → RkL c G H vs rs → RkL c G H (v :: vs) (r :: rs)
theorem RkAll.l {G H H1 : Hp} : ∀ {vs : List V} {rs : List R} {fps : List (List Addr)}, RkAll c G H H1 vs rs fps → RkL c G H vs rs
  | _, _, _, .nil => .nil
  | _, _, _, .cons k _ _ t => .cons k t.l
def LfN (c : Ct) (rd : List V → Hp → VK → Prop) (f : List R → Option R) : Prop := ∀ (G H : Hp) (xs : List V) (rs : List R) (rr : R) (Q : VK), Same G H → (∀ l, H l = none → c.H0 l = none) → RkL c G H xs rs → f rs = some rr →
  (∀ G' H' v fp, Grow G H G' H' → Rk c G' H' v rr fp → Fr H rr fp → Q v H') → rd xs H Q

def eOp (f : R → R → Option R) (ta tb : EW) : EW := fun ρ b Q => ta ρ b fun x b1 => tb ρ b1 fun y b2 => lft (f x y) fun r => Q r b2
theorem eOp_mono {f : R → R → Option R} (ma : EMono ta) (mb : EMono tb) : EMono (eOp f ta tb) := fun ρ b Q Q' h q => ma _ _ _ _ (fun x b1 q1 => mb _ _ _ _ (fun y b2 q2 => lft_mono (fun r => h _ _) q2) q1) q
def eUn (f : R → Option R) (ta : EW) : EW := fun ρ b Q => ta ρ b fun x b1 => lft (f x) fun r => Q r b1
theorem eUn_mono {f : R → Option R} (ma : EMono ta) : EMono (eUn f ta) := fun ρ b Q Q' h q => ma _ _ _ _ (fun x b1 q1 => lft_mono (fun r => h _ _) q1) q
theorem Fr.back {H H1 : Hp} {r : R} {fp : List Addr} (h : Fr H1 r fp) (d : ∀ l, H1 l = none → H l = none) : Fr H r fp := fun z a ha => d a (h z a ha)
/-- two values, then an operation by values -/
theorem bin_w {rd : R2} {f : R → R → Option R} (hl : Lf2 c rd f) (ma : EMono ta) (mb : EMono tb) {σ : St} {H : Hp} {Q : VK} (q : tE c (eOp f ta tb) σ H Q) : tOp rd (tE c ta) (tE c tb) σ H Q := by
  obtain ⟨G, ρ, b0, S, q⟩ := q
  refine ⟨G, ρ, b0, S, ma _ _ _ _ (fun x b1 q1 => ?_) q⟩
  intro G1 H1 v fp g1 i1 k1 f1
  refine ⟨G1, ρ, b1, S.grow g1 i1, mb _ _ _ _ (fun y b2 q2 => ?_) q1⟩
  intro G2 H2 u fp2 g2 i2 k2 f2
  obtain ⟨r, e, q3⟩ := lft_ex q2
  refine hl G2 H2 v u x y fp fp2 r Q g2.sub (fun l z => S.here (g1.dom l (g2.dom l z))) (k1.go S.ok g2) k2 e fun G' H' w fw g k fr => ?_
  exact q3 G' H' w fw ((g1.trans g2).trans g.go) (i2.same g.keep) k (fr.back fun l z => g1.dom l (g2.dom l z))
theorem pd_op {op : Operator} {rd : R2} {f : R → R → Option R} (ho : OpR X (binaryOp op) rd) (hl : Lf2 c rd f) (ha : PDE c X a ta) (hb : PDE c X b tb) : PDE c X (.BinOp a op b pos) (eOp f ta tb) :=
  ⟨pe_imp (pe_op ho ha.pe hb.pe) fun _ _ _ q => bin_w hl ha.mono hb.mono q, eOp_mono ha.mono hb.mono⟩
theorem pd_cmp {op : CmpOp} {rd : R2} {f : R → R → Option R} (ho : OpR X (compareOp op) rd) (hl : Lf2 c rd f) (ha : PDE c X a ta) (hb : PDE c X b tb) (hm : behindInMarks op b = false) : PDE c X (.Compare a [op] [b] pos) (eOp f ta tb) :=
  ⟨pe_imp (pe_cmpR ho ha.pe hb.pe hm) fun _ _ _ q => bin_w hl ha.mono hb.mono q, eOp_mono ha.mono hb.mono⟩
theorem pd_ix_ {rd : R2} {f : R → R → Option R} (ho : IxR X rd) (hl : Lf2 c rd f) (ha : PDE c X a ta) (hb : PDE c X b tb) (hs : PlainIx b) : PDE c X (.Subscript a b pos) (eOp f ta tb) :=
  ⟨pe_imp (pe_ix ho ha.pe hb.pe hs) fun _ _ _ q => bin_w hl ha.mono hb.mono q, eOp_mono ha.mono hb.mono⟩
theorem pd_un {op : UnaryOp} {rd : V → Hp → VK → Prop} {f : R → Option R} (ho : UnR X (unaryOp op) rd) (hl : Lf1 c rd f) (ha : PDE c X a ta) : PDE c X (.UnaryOp op a pos) (eUn f ta) := by
  refine ⟨pe_imp (pe_un ho ha.pe) fun σ H Q q => ?_, eUn_mono ha.mono⟩
  obtain ⟨G, ρ, b0, S, q⟩ := q
  refine ⟨G, ρ, b0, S, ha.mono _ _ _ _ (fun x b1 q1 => ?_) q⟩
  intro G1 H1 v fp g1 i1 k1 f1
  obtain ⟨r, e, q3⟩ := lft_ex q1
  refine hl G1 H1 v x fp r Q g1.sub (fun l z => S.here (g1.dom l z)) k1 e fun G' H' w fw g k fr => ?_
  exact q3 G' H' w fw (g1.trans g.go) (i1.same g.keep) k (fr.back g1.dom)

/-! ### tests -/
/-- a truth value as a test -/
def tVal (ta : EW) : TW := fun ρ b Q => ta ρ b fun x b1 => match x with
  | .d (.bool k) => Q k b1
  | _ => False
theorem tVal_mono (ma : EMono ta) : TMono (tVal ta) := fun ρ b Q Q' h q => ma _ _ _ _ (fun x b1 q1 => by
  split at q1
  · exact h _ _ q1
  · exact q1) q
theorem dp_bool {K : PySem.W.Frag} {G : Hp} {v : V} {k : Bool} (h : Dp K G v (.bool k)) : v = .bl k := by cases h; rfl
theorem dp_int {K : PySem.W.Frag} {G : Hp} {v : V} {k : Int} (h : Dp K G v (.int k)) : v = .int k := by cases h; rfl
theorem dp_str {K : PySem.W.Frag} {G : Hp} {v : V} {k : Str} (h : Dp K G v (.str k)) : v = .str k := by cases h; rfl
theorem dp_non {K : PySem.W.Frag} {G : Hp} {v : V} (h : Dp K G v .none) : v = .non := by cases h; rfl
theorem dp_tup {K : PySem.W.Frag} {G : Hp} {v : V} {ds : List PyData} (h : Dp K G v (.tuple ds)) : ∃ a xs, v = .ref a ∧ SqT K G a xs ∧ DpAll K G xs ds := by cases h with | tup h1 h2 => exact ⟨_, _, rfl, h1, h2⟩
theorem dp_lst {K : PySem.W.Frag} {G : Hp} {v : V} {ds : List PyData} (h : Dp K G v (.list ds)) : ∃ a xs, v = .ref a ∧ SqL K G a xs ∧ DpAll K G xs ds := by cases h with | lst h1 h2 => exact ⟨_, _, rfl, h1, h2⟩
theorem tVal_w (ma : EMono ta) {σ : St} {H : Hp} {Q : Bool → Hp → Prop} (q : tT c (tVal ta) σ H Q) : tE c ta σ H fun x H' => ∃ k, x = .bl k ∧ Q k H' := by
  obtain ⟨G, ρ, b0, S, q⟩ := q
  refine ⟨G, ρ, b0, S, ma _ _ _ _ (fun x b1 q1 => ?_) q⟩
  intro G1 H1 v fp g1 i1 k1 f1
  split at q1
  · rename_i k
    exact ⟨k, dp_bool k1.dat, q1 G1 H1 g1 i1⟩
  · exact q1.elim
theorem pdt_val (ha : PDE c X e ta) (he : ∀ whole, isTrue e X.env whole = (do let v ← whole; standAt e.pos; holding [v] (truthy v)) := by intro _; rfl) : PDT c X e (tVal ta) :=
  ⟨pt_imp (pt_val ha.pe he) fun _ _ _ q => tVal_w ha.mono q, tVal_mono ha.mono⟩
theorem pdt_cmp {op : CmpOp} {rd : R2} {f : R → R → Option R} (ho : OpR X (compareOp op) rd) (hl : Lf2 c rd f) (ha : PDE c X a ta) (hb : PDE c X b tb) (hm : behindInMarks op b = false) : PDT c X (.Compare a [op] [b] pos) (tVal (eOp f ta tb)) := by
  refine ⟨pt_imp (pt_cmpR ho ha.pe hb.pe hm) fun σ H Q q => ?_, tVal_mono (eOp_mono ha.mono hb.mono)⟩
  exact bin_w hl ha.mono hb.mono (tVal_w (eOp_mono ha.mono hb.mono) q)
/-- a < b < c -/
def eChain (f f' : R → R → Option R) (ta tb tc : EW) : EW := fun ρ b0 Q => ta ρ b0 fun x b1 => tb ρ b1 fun y b2 => match f x y with
  | some (.d (.bool true)) => tc ρ b2 fun z b3 => lft (f' y z) fun r => Q r b3
  | some (.d (.bool false)) => Q (.d (.bool false)) b2
  | _ => False
theorem eChain_mono {f f' : R → R → Option R} (ma : EMono ta) (mb : EMono tb) (mc : EMono tc) : EMono (eChain f f' ta tb tc) := fun ρ b Q Q' h q =>
  ma _ _ _ _ (fun x b1 q1 => mb _ _ _ _ (fun y b2 q2 => by
    split at q2
    · exact mc _ _ _ _ (fun z b3 q3 => lft_mono (fun r => h _ _) q3) q2
    · exact h _ _ q2
    · exact q2) q1) q
theorem chain_w {r r' : R2} {f f' : R → R → Option R} (hl : Lf2 c r f) (hl' : Lf2 c r' f') (ma : EMono ta) (mb : EMono tb) (mc : EMono tc) {σ : St} {H : Hp} {Q : VK} (q : tE c (eChain f f' ta tb tc) σ H Q) : tChain r r' (tE c ta) (tE c tb) (tE c tc) σ H Q := by
  obtain ⟨G, ρ, b0, S, q⟩ := q
  refine ⟨G, ρ, b0, S, ma _ _ _ _ (fun x b1 q1 => ?_) q⟩
  intro G1 H1 v fp g1 i1 k1 f1
  refine ⟨G1, ρ, b1, S.grow g1 i1, mb _ _ _ _ (fun y b2 q2 => ?_) q1⟩
  intro G2 H2 u fp2 g2 i2 k2 f2
  split at q2
  · rename_i e
    refine hl G2 H2 v u x y fp fp2 _ _ g2.sub (fun l z => S.here (g1.dom l (g2.dom l z))) (k1.go S.ok g2) k2 e fun G3 H3 w fw g k fr => ⟨true, dp_bool k.dat, iteT ?_⟩
    refine ⟨G3, ρ, b2, S.grow ((g1.trans g2).trans g.go) (i2.same g.keep), mc _ _ _ _ (fun z b3 q3 => ?_) q2⟩
    intro G4 H4 w4 fp4 g4 i4 k4 f4
    obtain ⟨rr, e3, q3⟩ := lft_ex q3
    refine hl' G4 H4 u w4 y z fp2 fp4 rr Q g4.sub (fun l z => S.here (g1.dom l (g2.dom l (g.keep.free (g4.dom l z))))) ((k2.go S.ok g.go).go S.ok g4) k4 e3 fun G' H' w' fw' g' k' fr' => ?_
    exact q3 G' H' w' fw' ((((g1.trans g2).trans g.go).trans g4).trans g'.go) (i4.same g'.keep) k' (fr'.back fun l z => g1.dom l (g2.dom l (g.keep.free (g4.dom l z))))
  · rename_i e
    refine hl G2 H2 v u x y fp fp2 _ _ g2.sub (fun l z => S.here (g1.dom l (g2.dom l z))) (k1.go S.ok g2) k2 e fun G3 H3 w fw g k fr => ⟨false, dp_bool k.dat, iteF ?_⟩
    exact q2 G3 H3 (.bl false) [] ((g1.trans g2).trans g.go) (i2.same g.keep) (rk_d (.bl false)) fr_d
  · exact q2.elim
theorem pd_chain {op op' : CmpOp} {r r' : R2} {f f' : R → R → Option R} (ho : OpR X (compareOp op) r) (ho' : OpR X (compareOp op') r') (hl : Lf2 c r f) (hl' : Lf2 c r' f') (ha : PDE c X a ta) (hb : PDE c X b tb) (hc : PDE c X e tc) (h1 : PE X (.Compare a [op, op'] [b, e] pos) (tChain r r' (tE c ta) (tE c tb) (tE c tc))) :
    PDE c X (.Compare a [op, op'] [b, e] pos) (eChain f f' ta tb tc) :=
  ⟨pe_imp h1 fun _ _ _ q => chain_w hl hl' ha.mono hb.mono hc.mono q, eChain_mono ha.mono hb.mono hc.mono⟩
theorem pdt_chain {op op' : CmpOp} {r r' : R2} {f f' : R → R → Option R} (ho : OpR X (compareOp op) r) (ho' : OpR X (compareOp op') r') (hl : Lf2 c r f) (hl' : Lf2 c r' f') (ha : PDE c X a ta) (hb : PDE c X b tb) (hc : PDE c X e tc) (h1 : PT X (.Compare a [op, op'] [b, e] pos) (tTest (tChain r r' (tE c ta) (tE c tb) (tE c tc)))) :
    PDT c X (.Compare a [op, op'] [b, e] pos) (tVal (eChain f f' ta tb tc)) :=
  ⟨pt_imp h1 fun _ _ _ q => chain_w hl hl' ha.mono hb.mono hc.mono (tVal_w (eChain_mono ha.mono hb.mono hc.mono) q), tVal_mono (eChain_mono ha.mono hb.mono hc.mono)⟩
/-! and, or, not -/
variable {ua ub : TW} {rest : List Expr}
def uAnd (t u : TW) : TW := fun ρ b Q => t ρ b fun k b1 => if k = true then u ρ b1 Q else Q false b1
def uOr (t u : TW) : TW := fun ρ b Q => t ρ b fun k b1 => if k = true then Q true b1 else u ρ b1 Q
def uNot (t : TW) : TW := fun ρ b Q => t ρ b fun k b1 => Q (!k) b1
theorem uAnd_mono (ma : TMono ua) (mb : TMono ub) : TMono (uAnd ua ub) := fun ρ b Q Q' h q => ma _ _ _ _ (fun k b1 q1 => by
  cases k
  · rw [if_neg Bool.false_ne_true] at q1 ⊢; exact h _ _ q1
  · rw [if_pos rfl] at q1 ⊢; exact mb _ _ _ _ h q1) q
theorem uOr_mono (ma : TMono ua) (mb : TMono ub) : TMono (uOr ua ub) := fun ρ b Q Q' h q => ma _ _ _ _ (fun k b1 q1 => by
  cases k
  · rw [if_neg Bool.false_ne_true] at q1 ⊢; exact mb _ _ _ _ h q1
  · rw [if_pos rfl] at q1 ⊢; exact h _ _ q1) q
theorem uNot_mono (ma : TMono ua) : TMono (uNot ua) := fun ρ b Q Q' h q => ma _ _ _ _ (fun k b1 q1 => h _ _ q1) q
theorem pdt_w (h : PDW c X e ua) : PDT c X e ua := ⟨h.pw.pt, h.mono⟩
theorem pdw_and1 (h : PDT c X a ua) : PDW c X (.BoolOp .And [a] pos) ua := ⟨pw_and1 h.pt, h.mono⟩
theorem pdw_or1 (h : PDT c X a ua) : PDW c X (.BoolOp .Or [a] pos) ua := ⟨pw_or1 h.pt, h.mono⟩
theorem TPost.back {G H G1 H1 : Hp} {Q : Bool → Hp → Prop} {k : Bool} {b1 : Nat} (h : TPost c G H Q k b1) (g : Go c G H G1 H1) : TPost c G1 H1 Q k b1 := fun G' H' g' i' => h G' H' (g.trans g') i'
theorem EPost.back {G H G1 H1 : Hp} {Q : VK} {k : R} {b1 : Nat} (h : EPost c G H Q k b1) (g : Go c G H G1 H1) : EPost c G1 H1 Q k b1 := fun G' H' v fp g' i' k' f' => h G' H' v fp (g.trans g') i' k' (f'.back g.dom)
theorem APost.back {G H G1 H1 : Hp} {Q : List V → Hp → Prop} {k : List R} {b1 : Nat} (h : APost c G H Q k b1) (g : Go c G H G1 H1) : ∀ G' H' vs fps, Go c G1 H1 G' H' → c.md.I b1 H' → RkAll c G' H' H vs k fps → Q vs H' := fun G' H' v fp g' i' k' => h G' H' v fp (g.trans g') i' k'
theorem pdw_and (ha : PDT c X a ua) (hb : PDW c X (.BoolOp .And (b :: rest) pos) ub) : PDW c X (.BoolOp .And (a :: b :: rest) pos) (uAnd ua ub) := by
  refine ⟨pw_imp (pw_and ha.pt hb.pw) fun σ H Q q => ?_, uAnd_mono ha.mono hb.mono⟩
  obtain ⟨G, ρ, b0, S, q⟩ := q
  refine ⟨G, ρ, b0, S, ha.mono _ _ _ _ (fun k b1 q1 => ?_) q⟩
  intro G1 H1 g1 i1
  cases k
  · rw [if_neg Bool.false_ne_true] at q1 ⊢
    exact q1 G1 H1 g1 i1
  · rw [if_pos rfl] at q1 ⊢
    exact ⟨G1, ρ, b1, S.grow g1 i1, hb.mono _ _ _ _ (fun k b2 q2 => q2.back g1) q1⟩
theorem pdw_or (ha : PDT c X a ua) (hb : PDW c X (.BoolOp .Or (b :: rest) pos) ub) : PDW c X (.BoolOp .Or (a :: b :: rest) pos) (uOr ua ub) := by
  refine ⟨pw_imp (pw_or ha.pt hb.pw) fun σ H Q q => ?_, uOr_mono ha.mono hb.mono⟩
  obtain ⟨G, ρ, b0, S, q⟩ := q
  refine ⟨G, ρ, b0, S, ha.mono _ _ _ _ (fun k b1 q1 => ?_) q⟩
  intro G1 H1 g1 i1
  cases k
  · rw [if_neg Bool.false_ne_true] at q1 ⊢
    exact ⟨G1, ρ, b1, S.grow g1 i1, hb.mono _ _ _ _ (fun k b2 q2 => q2.back g1) q1⟩
  · rw [if_pos rfl] at q1 ⊢
    exact q1 G1 H1 g1 i1
theorem pdt_not (ha : PDT c X a ua) : PDT c X (.UnaryOp .Not a pos) (uNot ua) := by
  refine ⟨pt_imp (pt_not ha.pt) fun σ H Q q => ?_, uNot_mono ha.mono⟩
  obtain ⟨G, ρ, b0, S, q⟩ := q
  exact ⟨G, ρ, b0, S, ha.mono _ _ _ _ (fun k b1 q1 => q1) q⟩
/-! as values -/
def eAnd (ta tb : EW) : EW := fun ρ b Q => ta ρ b fun x b1 => match x with
  | .d (.bool true) => tb ρ b1 Q
  | .d (.bool false) => Q (.d (.bool false)) b1
  | _ => False
def eOr (ta tb : EW) : EW := fun ρ b Q => ta ρ b fun x b1 => match x with
  | .d (.bool true) => Q (.d (.bool true)) b1
  | .d (.bool false) => tb ρ b1 Q
  | _ => False
def vNot : R → Option R
  | .d (.bool k) => some (.d (.bool (!k)))
  | _ => none
theorem eAnd_mono (ma : EMono ta) (mb : EMono tb) : EMono (eAnd ta tb) := fun ρ b Q Q' h q => ma _ _ _ _ (fun x b1 q1 => by
  split at q1
  · exact mb _ _ _ _ h q1
  · exact h _ _ q1
  · exact q1) q
theorem eOr_mono (ma : EMono ta) (mb : EMono tb) : EMono (eOr ta tb) := fun ρ b Q Q' h q => ma _ _ _ _ (fun x b1 q1 => by
  split at q1
  · exact h _ _ q1
  · exact mb _ _ _ _ h q1
  · exact q1) q
theorem pd_one {op} (h : PDE c X a ta) : PDE c X (.BoolOp op [a] pos) ta := ⟨pe_one h.pe, h.mono⟩
theorem pd_and (ha : PDE c X a ta) (hb : PDE c X (.BoolOp .And (b :: rest) pos) tb) : PDE c X (.BoolOp .And (a :: b :: rest) pos) (eAnd ta tb) := by
  refine ⟨pe_imp (pe_and ha.pe hb.pe) fun σ H Q q => ?_, eAnd_mono ha.mono hb.mono⟩
  obtain ⟨G, ρ, b0, S, q⟩ := q
  refine ⟨G, ρ, b0, S, ha.mono _ _ _ _ (fun x b1 q1 => ?_) q⟩
  intro G1 H1 v fp g1 i1 k1 f1
  split at q1
  · exact ⟨true, dp_bool k1.dat, iteT ⟨G1, ρ, b1, S.grow g1 i1, hb.mono _ _ _ _ (fun k b2 q2 => q2.back g1) q1⟩⟩
  · exact ⟨false, dp_bool k1.dat, iteF (q1 G1 H1 _ [] g1 i1 (rk_d (.bl false)) fr_d)⟩
  · exact q1.elim
theorem pd_or (ha : PDE c X a ta) (hb : PDE c X (.BoolOp .Or (b :: rest) pos) tb) : PDE c X (.BoolOp .Or (a :: b :: rest) pos) (eOr ta tb) := by
  refine ⟨pe_imp (pe_or ha.pe hb.pe) fun σ H Q q => ?_, eOr_mono ha.mono hb.mono⟩
  obtain ⟨G, ρ, b0, S, q⟩ := q
  refine ⟨G, ρ, b0, S, ha.mono _ _ _ _ (fun x b1 q1 => ?_) q⟩
  intro G1 H1 v fp g1 i1 k1 f1
  split at q1
  · exact ⟨true, dp_bool k1.dat, iteT (q1 G1 H1 _ [] g1 i1 (rk_d (.bl true)) fr_d)⟩
  · exact ⟨false, dp_bool k1.dat, iteF ⟨G1, ρ, b1, S.grow g1 i1, hb.mono _ _ _ _ (fun k b2 q2 => q2.back g1) q1⟩⟩
  · exact q1.elim
theorem pd_not (ha : PDE c X a ta) : PDE c X (.UnaryOp .Not a pos) (eUn vNot ta) := by
  refine ⟨pe_imp (pe_not ha.pe) fun σ H Q q => ?_, eUn_mono ha.mono⟩
  obtain ⟨G, ρ, b0, S, q⟩ := q
  refine ⟨G, ρ, b0, S, ha.mono _ _ _ _ (fun x b1 q1 => ?_) q⟩
  intro G1 H1 v fp g1 i1 k1 f1
  obtain ⟨r, e, q3⟩ := lft_ex q1
  unfold vNot at e
  split at e
  · rename_i k
    cases e
    exact ⟨k, dp_bool k1.dat, q3 G1 H1 _ [] g1 i1 (rk_d (.bl _)) fr_d⟩
  · cases e
def eIf (t : TW) (ta tb : EW) : EW := fun ρ b Q => t ρ b fun k b1 => if k = true then ta ρ b1 Q else tb ρ b1 Q
theorem eIf_mono (mt : TMono ua) (ma : EMono ta) (mb : EMono tb) : EMono (eIf ua ta tb) := fun ρ b Q Q' h q => mt _ _ _ _ (fun k b1 q1 => by
  cases k
  · rw [if_neg Bool.false_ne_true] at q1 ⊢; exact mb _ _ _ _ h q1
  · rw [if_pos rfl] at q1 ⊢; exact ma _ _ _ _ h q1) q
theorem pd_if (ht : PDT c X e ua) (ha : PDE c X a ta) (hb : PDE c X b tb) : PDE c X (.IfExp e a b pos) (eIf ua ta tb) := by
  refine ⟨pe_imp (pe_ifExp ht.pt ha.pe hb.pe) fun σ H Q q => ?_, eIf_mono ht.mono ha.mono hb.mono⟩
  obtain ⟨G, ρ, b0, S, q⟩ := q
  refine ⟨G, ρ, b0, S, ht.mono _ _ _ _ (fun k b1 q1 => ?_) q⟩
  intro G1 H1 g1 i1
  cases k
  · rw [if_neg Bool.false_ne_true] at q1 ⊢
    exact ⟨G1, ρ, b1, S.grow g1 i1, hb.mono _ _ _ _ (fun k b2 q2 => q2.back g1) q1⟩
  · rw [if_pos rfl] at q1 ⊢
    exact ⟨G1, ρ, b1, S.grow g1 i1, ha.mono _ _ _ _ (fun k b2 q2 => q2.back g1) q1⟩

/-! ### arguments, displays -/
def aNil : AW := fun _ b Q => Q [] b
def aCons (t : EW) (u : AW) : AW := fun ρ b Q => t ρ b fun x b1 => u ρ b1 fun xs b2 => Q (x :: xs) b2
theorem aNil_mono : AMono aNil := fun ρ b Q Q' h q => h _ _ q
theorem aCons_mono {u : AW} (ma : EMono ta) (mb : AMono u) : AMono (aCons ta u) := fun ρ b Q Q' h q => ma _ _ _ _ (fun x b1 q1 => mb _ _ _ _ (fun xs b2 q2 => h _ _ q2) q1) q
theorem pda_nil : PDA c X [] aNil := by
  refine ⟨pa_imp pa_nil fun σ H Q q => ?_, aNil_mono, fun ρ b Q q => ⟨rfl, q⟩⟩
  obtain ⟨G, ρ, b0, S, q⟩ := q
  exact q G H [] [] (Go.refl S.sub) S.inv .nil
theorem Rk.there {G H : Hp} {v : V} {r : R} {fp : List Addr} (k : Rk c G H v r fp) : ∀ a ∈ fp, H a ≠ none := fun a ha => (k.own a ha).2.2
theorem RkAll.back {G H H1 H2 : Hp} (d : ∀ l, H2 l = none → H1 l = none) : ∀ {vs : List V} {rs : List R} {fps : List (List Addr)}, RkAll c G H H2 vs rs fps → RkAll c G H H1 vs rs fps
  | _, _, _, .nil => .nil
  | _, _, _, .cons k f dj t => .cons k (f.back d) dj (t.back d)
theorem RkAll.fresh_at {G H H1 : Hp} : ∀ {vs : List V} {rs : List R} {fps : List (List Addr)}, RkAll c G H H1 vs rs fps → ∀ (i : Nat) r fp, rs[i]? = some r → fps[i]? = some fp → Fr H1 r fp
  | _, _, _, .nil, i, r, fp, e, _ => by simp at e
  | _, _, _, .cons k f dj t, 0, r, fp, e, e' => by
    simp at e e'
    subst e e'
    exact f
  | _, _, _, .cons k f dj t, i + 1, r, fp, e, e' => t.fresh_at i r fp (by simpa using e) (by simpa using e')
/-- what is read (not made) stood there -/
theorem pda_cons {u : AW} (ha : PDE c X e ta) (hr : PDA c X es u) (hs : starEach (e :: es) X.env = (false, eval e X.env) :: starEach es X.env := by rfl) :
    PDA c X (e :: es) (aCons ta u) := by
  refine ⟨pa_imp (pa_cons ha.pe hr.pa hs) fun σ H Q q => ?_, aCons_mono ha.mono hr.mono, fun ρ b Q q => ha.mono _ _ _ _ (fun x b1 q1 => hr.mono _ _ _ _ (fun xs b2 q2 => ⟨by simp [q2.1], q2.2⟩) (hr.len _ _ _ q1)) q⟩
  obtain ⟨G, ρ, b0, S, q⟩ := q
  refine ⟨G, ρ, b0, S, ha.mono _ _ _ _ (fun x b1 q1 => ?_) q⟩
  intro G1 H1 v fp g1 i1 k1 f1
  refine ⟨G1, ρ, b1, S.grow g1 i1, hr.mono _ _ _ _ (fun rs b2 q2 => ?_) q1⟩
  intro G2 H2 vs fps g2 i2 k2
  refine q2 G2 H2 (v :: vs) (fp :: fps) (g1.trans g2) i2 (.cons (k1.go S.ok g2) f1 (fun i r' fp' e1 e2 h1 h2 z hz hz' => ?_) (k2.back g1.dom))
  exact k1.there z hz (k2.fresh_at i r' fp' e1 e2 h2 z hz')
end
end L2.U
/-! The data layer, part 3: displays, calls, statements. -/
namespace L2.U
open PySem PySem.Spec PyProof.Rows

/-! ### displays -/
def allD : List R → Option (List PyData)
  | [] => some []
  | r :: rs => match r with
    | .d x => (allD rs).map (x :: ·)
    | _ => none
section
variable {c : Ct} {X : Cx} {a b e e1 e2 e3 : Expr} {es : List Expr} {ta tb tc : EW} {ts : AW} {pos : Pos}
theorem allD_dp {G H : Hp} : ∀ {rs : List R} {vs : List V} {ds : List PyData}, RkL c G H vs rs → allD rs = some ds → DpAll c.K G vs ds
  | [], _, _, h, e => by cases h; cases e; exact .nil
  | r :: rs, _, _, h, e => by
    cases h with
    | cons k t =>
      unfold allD at e
      split at e
      · obtain ⟨ds, e', rfl⟩ := Option.map_eq_some_iff.mp e
        exact .cons k.dat (allD_dp t e')
      · cases e
theorem allD_length : ∀ {rs : List R} {ds : List PyData}, allD rs = some ds → ds.length = rs.length
  | [], _, e => by cases e; rfl
  | r :: rs, _, e => by
    unfold allD at e
    split at e
    · obtain ⟨ds, e', rfl⟩ := Option.map_eq_some_iff.mp e
      simp [allD_length e']
    · cases e
def eTup (t : AW) : EW := fun ρ b Q => t ρ b fun rs b1 => lft (allD rs) fun ds => Q (.d (.tuple ds)) b1
def eLst (t : AW) : EW := fun ρ b Q => t ρ b fun rs b1 => lft (allD rs) fun ds => Q (.o true ds) b1
theorem le_line {n : Nat} (h : n ≤ 1000) : n ≤ sizeLine := Nat.le_trans h (by decide)
theorem rk_lst {G H : Hp} {p : Addr} {vs : List V} {xs : List PyData} (g : G p = none) (h : H p = none) (h0 : c.H0 p = none) (k : DpAll c.K G vs xs) : Rk c G (upd H p (.lst vs)) (.ref p) (.o true xs) [p] := by
  refine ⟨fun a ha => ?_, by simp, p, vs, rfl, rfl, upd_same, k⟩
  have e : a = p := by simpa using ha
  subst e
  exact ⟨g, h0, by rw [upd_same]; exact fun z => nomatch z⟩
theorem fr_one {H : Hp} {p : Addr} {r : R} (h : H p = none) : Fr H r [p] := fun _ a ha => by
  have e : a = p := by simpa using ha
  rw [e]; exact h
theorem pd_tup {x1} (ha : PDA c X es ts) (hz : es.length ≤ 1000 := by decide) : PDE c X (.Tuple es x1 pos) (eTup ts) := by
  refine ⟨pe_imp (pe_tup ha.pa) fun σ H Q q => ?_, fun ρ b Q Q' h q => ha.mono _ _ _ _ (fun rs b1 q1 => lft_mono (fun _ => h _ _) q1) q⟩
  obtain ⟨G, ρ, b0, S, q⟩ := q
  refine ⟨G, ρ, b0, S, ha.mono _ _ _ _ (fun rs b1 q1 => ?_) (ha.len _ _ _ q)⟩
  intro G1 H1 vs fps g1 i1 k1
  obtain ⟨hl, q1⟩ := q1
  obtain ⟨ds, e, q2⟩ := lft_ex q1
  refine ⟨by rw [k1.length.1, hl]; exact le_line hz, fun p hp => ?_⟩
  have gr : Grow G1 H1 (upd G1 p (.tup vs)) (upd H1 p (.tup vs)) := Grow.tup g1.sub hp
  exact q2 _ _ (.ref p) [] (g1.trans gr.go) (i1.same gr.keep) (rk_d (.tup (SqT.of upd_same) (dpAll_mono gr.gg _ _ (allD_dp k1.l e)))) fr_d
theorem pd_lst (ha : PDA c X es ts) (hz : es.length ≤ 1000 := by decide) : PDE c X (.List es pos) (eLst ts) := by
  refine ⟨pe_imp (pe_lst ha.pa) fun σ H Q q => ?_, fun ρ b Q Q' h q => ha.mono _ _ _ _ (fun rs b1 q1 => lft_mono (fun _ => h _ _) q1) q⟩
  obtain ⟨G, ρ, b0, S, q⟩ := q
  refine ⟨G, ρ, b0, S, ha.mono _ _ _ _ (fun rs b1 q1 => ?_) (ha.len _ _ _ q)⟩
  intro G1 H1 vs fps g1 i1 k1
  obtain ⟨hl, q1⟩ := q1
  obtain ⟨ds, e, q2⟩ := lft_ex q1
  refine ⟨by rw [k1.length.1, hl]; exact le_line hz, fun p hp => ?_⟩
  have gr : Grow G1 H1 G1 (upd H1 p (.lst vs)) := Grow.new g1.sub hp
  exact q2 _ _ (.ref p) [p] (g1.trans gr.go) (i1.same gr.keep) (rk_lst (g1.sub.free hp) hp (S.here (g1.dom p hp)) (allD_dp k1.l e)) (fr_one (g1.dom p hp))

/-! ### calls by values -/
def eBi (f : List R → Option R) (t : AW) : EW := fun ρ b Q => t ρ b fun rs b1 => lft (f rs) fun r => Q r b1
theorem bi_w {rd : List V → Hp → VK → Prop} {f : List R → Option R} (hl : LfN c rd f) (ma : AMono ts) {σ : St} {H : Hp} {Q : VK} (q : tE c (eBi f ts) σ H Q) : tCB rd (tA c ts) σ H Q := by
  obtain ⟨G, ρ, b0, S, q⟩ := q
  refine ⟨G, ρ, b0, S, ma _ _ _ _ (fun rs b1 q1 => ?_) q⟩
  intro G1 H1 vs fps g1 i1 k1
  obtain ⟨r, e, q2⟩ := lft_ex q1
  refine hl G1 H1 vs rs r Q g1.sub (fun l z => S.here (g1.dom l z)) k1.l e fun G' H' v fp g k fr => ?_
  exact q2 G' H' v fp (g1.trans g.go) (i1.same g.keep) k (fr.back g1.dom)
theorem eBi_mono {f : List R → Option R} (ma : AMono ts) : EMono (eBi f ts) := fun ρ b Q Q' h q => ma _ _ _ _ (fun rs b1 q1 => lft_mono (fun _ => h _ _) q1) q
theorem pd_bi {id : String} {x : Str} {p : Pos} {rd : List V → Hp → VK → Prop} {f : List R → Option R} (hc : CallR X (.builtin id) rd) (hl : LfN c rd f) (hg : Gl X x) (hm : X.mg x = none) (hv : bootBuiltins x = some (.builtin id)) (ha : PDA c X (e :: es) ts)
    (hn : x ≠ "__name__" := by decide) (hdb : (x == ("__debug__" : Str)) = false := by decide)
    (he : starEach (e :: es) X.env = (false, eval e X.env) :: starEach es X.env := by rfl) (hpl : (backTo pos (starEach es X.env)).any (·.1) = false := by rfl) : PDE c X (.Call (.Name x p) (e :: es) [] pos) (eBi f ts) :=
  ⟨pe_imp (pe_callB hc hg hm hv ha.pa hn hdb he hpl) fun _ _ _ q => bi_w hl ha.mono q, eBi_mono ha.mono⟩
theorem pd_ty {id : String} {x : Str} {p : Pos} {rd : List V → Hp → VK → Prop} {f : List R → Option R} (hc : CallR X (.type id) rd) (hl : LfN c rd f) (hg : Gl X x) (hm : X.mg x = none) (hv : bootBuiltins x = some (.type id)) (ha : PDA c X (e :: es) ts)
    (hn : x ≠ "__name__" := by decide) (hdb : (x == ("__debug__" : Str)) = false := by decide)
    (he : starEach (e :: es) X.env = (false, eval e X.env) :: starEach es X.env := by rfl) (hpl : (backTo pos (starEach es X.env)).any (·.1) = false := by rfl) : PDE c X (.Call (.Name x p) (e :: es) [] pos) (eBi f ts) :=
  ⟨pe_imp (pe_callTy hc hg hm hv ha.pa hn hdb he hpl) fun _ _ _ q => bi_w hl ha.mono q, eBi_mono ha.mono⟩

/-! ### calls of defs -/
abbrev FW := List R → Nat → (PyData → Nat → Prop) → Prop
def FMono (pt : FW) : Prop := ∀ rs b (Q Q' : PyData → Nat → Prop), (∀ d b', Q d b' → Q' d b') → pt rs b Q → pt rs b Q'
def noL1 : R → Bool
  | .d _ => true
  | .m => true
  | _ => false
def noL (rs : List R) : Bool := rs.all noL1
/-- the promise: of n arguments -/
def spT (P : Program) (w : World) (K : PySem.W.Frag) (n : Nat) (pt : FW) : Sp := fun vs H Q _ => vs.length = n ∧ ∃ (md : Md) (G : Hp) (b : Nat) (rs : List R), Same G H ∧ Ct.Ok ⟨K, P, w, md, G, H⟩ ∧ md.I b H ∧ RkL ⟨K, P, w, md, G, H⟩ G H vs rs ∧ noL rs = true ∧
  pt rs b fun d b' => ∀ G' H' v, Go ⟨K, P, w, md, G, H⟩ G H G' H' → md.I b' H' → Dp K G' v d → Q v H'
/-- a def that keeps its promise stands at that name -/
structure Can (P : Program) (w : World) (K : PySem.W.Frag) (mg : Str → Option Value) (base : Heap) (k : Nat) (x : Str) (ps : List Str) (pt : FW) : Prop where
  ex : ∃ f fd, mg x = some (.ref f) ∧ PySem.W.keepIn K (.ref f) = true ∧ Binds K fd ps [] ∧ FnOk P w K mg base CX0 k f fd ps (spT P w K ps.length pt)
  mono : FMono pt
theorem Go.cast {c' : Ct} {G H G' H' : Hp} (h : Go c G H G' H') (e : c.md = c'.md) : Go c' G H G' H' := ⟨fun l o n q => h.keep l o (by rw [e]; exact n) q, h.dom, h.gg, h.sub, h.fz⟩
/-- arguments seen by the callee -/
theorem RkL.flat {c' : Ct} {G H : Hp} : ∀ {vs : List V} {rs : List R}, RkL c G H vs rs → noL rs = true → (ek : c.K = c'.K) → (em : c.md = c'.md) → RkL c' G H vs rs
  | _, _, .nil, _, _, _ => .nil
  | _, _, .cons (r := r) k t, h, ek, em => by
    unfold noL at h
    rw [List.all_cons, Bool.and_eq_true] at h
    refine .cons (fp := []) ?_ (t.flat h.2 ek em)
    cases r with
    | d x => exact rk_d (by rw [← ek]; exact k.dat)
    | m => exact ⟨(fun _ z => nomatch z), List.nodup_nil, rfl, by obtain ⟨_, a, cl, gl, h1, h2⟩ := k.is; exact ⟨a, cl, gl, by rw [← em]; exact h1, h2⟩⟩
    | o f xs => exact absurd h.1 (by simp [noL1])
    | oo f xs => exact absurd h.1 (by simp [noL1])
    | k f xs => exact absurd h.1 (by simp [noL1])
theorem RkL.length {G H : Hp} : ∀ {vs : List V} {rs : List R}, RkL c G H vs rs → vs.length = rs.length
  | _, _, .nil => rfl
  | _, _, .cons k t => by simp [t.length]
def eCall (pt : FW) (t : AW) : EW := fun ρ b Q => t ρ b fun rs b1 => noL rs = true ∧ pt rs b1 fun d b2 => Q (.d d) b2
theorem pd_call {k : Nat} {x : Str} {p : Pos} {ps : List Str} {pt : FW} (C : Can X.prog X.w X.K X.mg X.base k x ps pt) (hr : Room k X.A) (hg : Gl X x) (ha : PDA c X (e :: es) ts) (hn : (e :: es).length = ps.length := by rfl) (fit : Fit c X := by exact {})
    (hdb : (x == ("__debug__" : Str)) = false := by decide) (he : starEach (e :: es) X.env = (false, eval e X.env) :: starEach es X.env := by rfl) (hpl : (backTo pos (starEach es X.env)).any (·.1) = false := by rfl) :
    PDE c X (.Call (.Name x p) (e :: es) [] pos) (eCall pt ts) := by
  obtain ⟨⟨f, fd, hm, hk, hb, F⟩, mono⟩ := C
  refine ⟨pe_imp (pe_call F hr hg hm hk hb .nil pass0 ha.pa hdb he hpl) fun σ H Q q => ?_, fun ρ b Q Q' h q => ha.mono _ _ _ _ (fun rs b1 q1 => ⟨q1.1, mono _ _ _ _ (fun d b2 => h _ _) q1.2⟩) q⟩
  obtain ⟨G, ρ, b0, S, q⟩ := q
  refine ⟨G, ρ, b0, S, ha.mono _ _ _ _ (fun rs b1 q1 => ?_) (ha.len _ _ _ q)⟩
  intro G1 H1 vs fps g1 i1 k1
  obtain ⟨hl, hnl, q2⟩ := q1
  rw [List.append_nil, fit.k, fit.p, fit.w]
  refine ⟨by rw [k1.length.1, hl, hn], c.md, G1, b1, rs, g1.sub, fun l hl => ⟨i1.there hl, ?_⟩, i1, k1.l.flat hnl rfl rfl, hnl, mono _ _ _ _ (fun d b2 q3 => ?_) q2⟩
  · exact ((S.go.trans g1).fz l (S.ok l hl).1).trans (S.ok l hl).2
  · intro G' H' v g i kd
    exact q3 G' H' v [] (g1.trans (g.cast rfl)) i (rk_d kd) fr_d
theorem pd_call0 {k : Nat} {x : Str} {p : Pos} {pt : FW} (C : Can X.prog X.w X.K X.mg X.base k x [] pt) (hr : Room k X.A) (hg : Gl X x) (fit : Fit c X := by exact {})
    (hdb : (x == ("__debug__" : Str)) = false := by decide) :
    PDE c X (.Call (.Name x p) [] [] pos) (eCall pt aNil) := by
  obtain ⟨⟨f, fd, hm, hk, hb, F⟩, mono⟩ := C
  refine ⟨pe_imp (pe_call0 F hr hg hm hk hb .nil pass0 hdb) fun σ H Q q => ?_, fun ρ b Q Q' h q => ⟨q.1, mono _ _ _ _ (fun d b2 => h _ _) q.2⟩⟩
  obtain ⟨G, ρ, b1, S, hnl, q2⟩ := q
  show spT X.prog X.w X.K 0 pt [] H Q E0
  rw [fit.k, fit.p, fit.w]
  refine ⟨rfl, c.md, G, b1, [], S.sub, fun l hl => ⟨S.inv.there hl, ?_⟩, S.inv, .nil, rfl, mono _ _ _ _ (fun d b2 q3 => ?_) q2⟩
  · exact (S.go.fz l (S.ok l hl).1).trans (S.ok l hl).2
  · intro G' H' v g i kd
    exact q3 G' H' v [] (g.cast rfl) i (rk_d kd) fr_d
/-! lists that are lent to a def -/
def lend : R → R
  | .o _ xs => .d (.list xs)
  | r => r
def scalD : PyData → Bool
  | .none => true
  | .bool _ => true
  | .int _ => true
  | .str _ => true
  | _ => false
theorem dp_scal {K : PySem.W.Frag} {G G' : Hp} {v : V} {d : PyData} (h : Dp K G v d) (s : scalD d = true) : Dp K G' v d := by
  cases h with
  | non => exact .non
  | bl b => exact .bl b
  | int i => exact .int i
  | str x => exact .str x
  | lst _ _ => cases s
  | tup _ _ => cases s
theorem RkL.mono {G G2 H : Hp} (s : Same G G2) (z : ∀ l, c.H0 l = none → H l ≠ none → G l = none → G2 l = none) : ∀ {vs : List V} {rs : List R}, RkL c G H vs rs → RkL c G2 H vs rs
  | _, _, .nil => .nil
  | _, _, .cons k t => .cons (k.keepIf (fun _ _ _ q => q) s fun l hl => z l (k.own l hl).2.1 (k.own l hl).2.2 (k.own l hl).1) (t.mono s z)
theorem lent {G H : Hp} (ok : c.Ok) (s : Same G H) (z : ∀ l, c.md.has l → G l = none) : ∀ {vs : List V} {rs : List R}, RkL c G H vs rs → noL (rs.map lend) = true → ∀ {H1 : Hp},
    ∃ G2, Same G G2 ∧ Same G2 H ∧ (∀ l, c.md.has l → G2 l = none) ∧ RkL ⟨c.K, c.P, c.w, c.md, G2, H1⟩ G2 H vs (rs.map lend)
  | _, _, .nil, _, _ => ⟨G, .refl _, s, z, .nil⟩
  | _, _, .cons (v := v) (r := r) k t, h, H1 => by
    unfold noL at h
    rw [List.map_cons, List.all_cons, Bool.and_eq_true] at h
    obtain ⟨G2, h1, h2, h3, h4⟩ := lent ok s z t h.2 (H1 := H1)
    cases r with
    | d x => exact ⟨G2, h1, h2, h3, .cons (rk_d (dp_mono h1 _ _ k.dat)) h4⟩
    | m => exact ⟨G2, h1, h2, h3, .cons (fp := []) ⟨(fun _ z => nomatch z), List.nodup_nil, rfl, k.is.2⟩ h4⟩
    | o f xs =>
      obtain ⟨l, ws, e, e2, e3, e4⟩ := k.is
      have own := k.own l (by rw [e2]; simp)
      have s3 : Same G2 (upd G2 l (.lst ws)) := fun b o q => by
        by_cases hb : b = l
        · subst hb
          have := h2 _ _ q
          rw [e3] at this
          rw [upd_same]; exact this
        · rw [upd_ne hb]; exact q
      refine ⟨upd G2 l (.lst ws), h1.trans s3, fun b o q => ?_, fun b hb => ?_, .cons (fp := []) (rk_d ?_) ?_⟩
      · by_cases hb : b = l
        · subst hb; rw [upd_same] at q; cases q; exact e3
        · rw [upd_ne hb] at q; exact h2 _ _ q
      · have : b ≠ l := fun e => by subst e; exact (ok _ hb).1 own.2.1
        rw [upd_ne this]; exact h3 b hb
      · rw [e]
        exact .lst (SqL.of upd_same) (dpAll_mono (h1.trans s3) _ _ e4)
      · have q := h4.flat (c' := ⟨c.K, c.P, c.w, c.md, upd G2 l (.lst ws), H1⟩) h.2 rfl rfl
        have aux : ∀ {vs : List V} {rs : List R}, RkL ⟨c.K, c.P, c.w, c.md, upd G2 l (.lst ws), H1⟩ G2 H vs rs → noL rs = true → RkL ⟨c.K, c.P, c.w, c.md, upd G2 l (.lst ws), H1⟩ (upd G2 l (.lst ws)) H vs rs := by
          intro vs rs q
          induction q with
          | nil => intro _; exact .nil
          | @cons v vs r rs fp k t ih =>
            intro hn
            unfold noL at hn
            rw [List.all_cons, Bool.and_eq_true] at hn
            refine .cons (fp := fp) (k.keepIf (fun _ _ _ q => q) s3 fun l' hl' => ?_) (ih hn.2)
            have e : fp = [] := by
              cases r with
              | d x => exact k.is.1
              | m => exact k.is.1
              | o f xs => exact absurd hn.1 (by simp [noL1])
              | oo f xs => exact absurd hn.1 (by simp [noL1])
              | k f xs => exact absurd hn.1 (by simp [noL1])
            rw [e] at hl'
            cases hl'
        exact aux q h.2
    | oo f xs => exact absurd h.1 (by simp [noL1, lend])
    | k f xs => exact absurd h.1 (by simp [noL1, lend])
def eCallL (pt : FW) (t : AW) : EW := fun ρ b Q => t ρ b fun rs b1 => noL (rs.map lend) = true ∧ pt (rs.map lend) b1 fun d b2 => scalD d = true ∧ Q (.d d) b2
theorem pd_callL {k : Nat} {x : Str} {p : Pos} {ps : List Str} {pt : FW} (C : Can X.prog X.w X.K X.mg X.base k x ps pt) (hr : Room k X.A) (hg : Gl X x) (ha : PDA c X (e :: es) ts) (hn : (e :: es).length = ps.length := by rfl) (fit : Fit c X := by exact {})
    (hdb : (x == ("__debug__" : Str)) = false := by decide) (he : starEach (e :: es) X.env = (false, eval e X.env) :: starEach es X.env := by rfl) (hpl : (backTo pos (starEach es X.env)).any (·.1) = false := by rfl) :
    PDE c X (.Call (.Name x p) (e :: es) [] pos) (eCallL pt ts) := by
  obtain ⟨⟨f, fd, hm, hk, hb, F⟩, mono⟩ := C
  refine ⟨pe_imp (pe_call F hr hg hm hk hb .nil pass0 ha.pa hdb he hpl) fun σ H Q q => ?_, fun ρ b Q Q' h q => ha.mono _ _ _ _ (fun rs b1 q1 => ⟨q1.1, mono _ _ _ _ (fun d b2 z => ⟨z.1, h _ _ z.2⟩) q1.2⟩) q⟩
  obtain ⟨G, ρ, b0, S, q⟩ := q
  refine ⟨G, ρ, b0, S, ha.mono _ _ _ _ (fun rs b1 q1 => ?_) (ha.len _ _ _ q)⟩
  intro G1 H1 vs fps g1 i1 k1
  obtain ⟨hl, hnl, q2⟩ := q1
  have z1 : ∀ l, c.md.has l → G1 l = none := fun l hl => ((S.go.trans g1).fz l (S.ok l hl).1).trans (S.ok l hl).2
  obtain ⟨G2, s1, s2, z2, k2⟩ := lent S.ok g1.sub z1 k1.l hnl (H1 := H1)
  rw [List.append_nil, fit.k, fit.p, fit.w]
  refine ⟨by rw [k1.length.1, hl, hn], c.md, G2, b1, rs.map lend, s2, fun l hl => ⟨i1.there hl, z2 l hl⟩, i1, k2, hnl, mono _ _ _ _ (fun d b2 q3 => ?_) q2⟩
  intro G' H' v g i kd
  refine q3.2 G1 H' v [] (g1.trans ⟨g.keep, g.dom, .refl _, s1.trans (g.gg.trans g.sub), fun _ _ => rfl⟩) i (rk_d (dp_scal kd q3.1)) fr_d
end
end L2.U
/-! The data layer, part 4: statements. -/
namespace L2.U
open PySem PySem.Spec PyProof.Rows

inductive Out where
  | nx (ρ : DRho)
  | rt (d : PyData)
  | bk (ρ : DRho)
  | ct (ρ : DRho)
abbrev SW := DRho → Nat → (Out → Nat → Prop) → Prop
def SMono (t : SW) : Prop := ∀ ρ b (Q Q' : Out → Nat → Prop), (∀ o b', Q o b' → Q' o b') → t ρ b Q → t ρ b Q'
def OutP (c : Ct) (G : Hp) (D : Ends) (o : Out) (b' : Nat) : Prop := match o with
  | .nx ρ' => ∀ σ' G' H', Same G G' → DState c b' G' H' σ' ρ' → D.nx σ' H'
  | .bk ρ' => ∀ σ' G' H', Same G G' → DState c b' G' H' σ' ρ' → D.bk σ' H'
  | .ct ρ' => ∀ σ' G' H', Same G G' → DState c b' G' H' σ' ρ' → D.ct σ' H'
  | .rt d => ∀ G' H' v, Go c c.G0 c.H0 G' H' → c.md.I b' H' → Dp c.K G' v d → D.rt v H'
def tS (c : Ct) (t : SW) : TS := fun D σ H => ∃ G ρ b, DState c b G H σ ρ ∧ t ρ b (OutP c G D)
structure PDS (c : Ct) (X : Cx) (st : Stmt) (t : SW) : Prop where
  ps : PS X st (tS c t)
  mono : SMono t
structure PDB (c : Ct) (X : Cx) (st : List Stmt) (t : SW) : Prop where
  ps : PSs X st (tS c t)
  mono : SMono t
theorem OutP.back {c : Ct} {G G1 : Hp} {D : Ends} {o : Out} {b' : Nat} (h : OutP c G D o b') (s : Same G G1) : OutP c G1 D o b' := by
  cases o with
  | nx ρ => exact fun σ' G' H' q S => h σ' G' H' (s.trans q) S
  | bk ρ => exact fun σ' G' H' q S => h σ' G' H' (s.trans q) S
  | ct ρ => exact fun σ' G' H' q S => h σ' G' H' (s.trans q) S
  | rt d => exact h

section
variable {c : Ct} {X : Cx} {a b e e1 e2 e3 : Expr} {es : List Expr} {ta tb tc : EW} {ts : AW} {pos : Pos} {st : Stmt} {sts sts' : List Stmt} {sa sb : SW} {ua : TW}

/-! ### blocks -/
def sNil : SW := fun ρ b Q => Q (.nx ρ) b
def sSeq (t u : SW) : SW := fun ρ b Q => t ρ b fun o b1 => match o with
  | .nx ρ1 => u ρ1 b1 Q
  | o => Q o b1
theorem sSeq_mono (ma : SMono sa) (mb : SMono sb) : SMono (sSeq sa sb) := fun ρ b Q Q' h q => ma _ _ _ _ (fun o b1 q1 => by
  cases o with
  | nx ρ1 => exact mb _ _ _ _ h q1
  | _ => exact h _ _ q1) q
theorem pdb_nil : PDB c X [] sNil := ⟨pss_imp pss_nil fun D σ H ⟨G, ρ, b, S, q⟩ => q σ G H (.refl _) S, fun ρ b Q Q' h q => h _ _ q⟩
theorem pdb_cons (ha : PDS c X st sa) (hb : PDB c X sts sb) : PDB c X (st :: sts) (sSeq sa sb) := by
  refine ⟨pss_imp (pss_cons ha.ps hb.ps) fun D σ H ⟨G, ρ, b, S, q⟩ => ?_, sSeq_mono ha.mono hb.mono⟩
  refine ⟨G, ρ, b, S, ha.mono _ _ _ _ (fun o b1 q1 => ?_) q⟩
  cases o with
  | nx ρ1 => exact fun σ' G' H' s S' => ⟨G', ρ1, b1, S', hb.mono _ _ _ _ (fun o b2 q2 => q2.back s) q1⟩
  | bk ρ1 => exact q1
  | ct ρ1 => exact q1
  | rt d => exact q1
theorem pdb_one (ha : PDS c X st sa) : PDB c X [st] sa := ⟨pss_one ha.ps, ha.mono⟩
/-- a slot's list is changed no more -/
def frz (i : Nat) (ρ : DRho) : DRho := match ρ[i]?.join with
  | some (.o _ xs) => ρ.set i (some (.d (.list xs)))
  | _ => ρ
theorem DSlots.frz {G H : Hp} {σ : St} {ρ : DRho} {fps : Nat → List Addr} (s : DSlots c G H σ ρ fps) (hl : ρ.length = σ.length) (sub : Same G H) {i : Nat} {f : Bool} {xs : List PyData} (e : ρ[i]? = some (some (.o f xs))) :
    ∃ l vs, σ[i]? = some (some (.ref l)) ∧ fps i = [l] ∧ H l = some (.lst vs) ∧ G l = none ∧ c.H0 l = none ∧ Same G (upd G l (.lst vs)) ∧ Same (upd G l (.lst vs)) H ∧ DpAll c.K G vs xs ∧
      DSlots c (upd G l (.lst vs)) H σ (ρ.set i (some (.d (.list xs)))) (fun j => if j = i then [] else fps j) := by
  obtain ⟨v, e1, k⟩ := s.sl i _ e
  obtain ⟨l, vs, rfl, e2, e3, e4⟩ := k.is
  have own := k.own l (by rw [e2]; simp)
  have s1 : Same G (upd G l (.lst vs)) := same_new own.1
  have s2 : Same (upd G l (.lst vs)) H := fun b o q => by
    by_cases hb : b = l
    · subst hb; rw [upd_same] at q; cases q; exact e3
    · rw [upd_ne hb] at q; exact sub _ _ q
  have hi : i < σ.length := (List.getElem?_eq_some_iff.mp e1).1
  have hi' : i < ρ.length := by omega
  refine ⟨l, vs, e1, e2, e3, own.1, own.2.1, s1, s2, e4, ⟨fun j r q => ?_, fun j1 j2 r1 r2 ne q1 q2 z h1 h2 => ?_⟩⟩
  · by_cases hj : j = i
    · subst hj
      rw [List.getElem?_set_self hi'] at q
      cases q
      refine ⟨_, e1, ?_⟩
      rw [if_pos rfl]
      exact rk_d (.lst (SqL.of upd_same) (dpAll_mono s1 _ _ e4))
    · rw [List.getElem?_set_ne (Ne.symm hj)] at q
      obtain ⟨v', q1, q2⟩ := s.sl j r q
      refine ⟨v', q1, ?_⟩
      rw [if_neg hj]
      refine q2.keepIf (fun _ _ _ q => q) s1 fun l' hl' => ?_
      have : l' ≠ l := fun z => by
        subst z
        exact s.dis j i r _ hj q e l' hl' (by rw [e2]; simp)
      rw [upd_ne this]
      exact (q2.own l' hl').1
  · by_cases hj : j1 = i
    · subst hj; rw [if_pos rfl] at h1; cases h1
    · by_cases hj2 : j2 = i
      · subst hj2; rw [if_pos rfl] at h2; cases h2
      · rw [if_neg hj] at h1
        rw [if_neg hj2] at h2
        rw [List.getElem?_set_ne (Ne.symm hj)] at q1
        rw [List.getElem?_set_ne (Ne.symm hj2)] at q2
        exact s.dis j1 j2 r1 r2 ne q1 q2 z h1 h2
/-- the frozen heap takes a list of our own -/
theorem Go.frz {G H : Hp} {l : Addr} {vs : List V} (g : Go c c.G0 c.H0 G H) (e3 : H l = some (.lst vs)) (g0 : G l = none) (h0 : c.H0 l = none) : Go c c.G0 c.H0 (upd G l (.lst vs)) H :=
  ⟨g.keep, g.dom, g.gg.trans (same_new g0), (fun b o q => by
    by_cases hb : b = l
    · subst hb; rw [upd_same] at q; cases q; exact e3
    · rw [upd_ne hb] at q; exact g.sub _ _ q), fun b hb => by
      have : b ≠ l := fun e => hb (by rw [e]; exact h0)
      rw [upd_ne this]; exact g.fz b hb⟩
theorem DState.frz {bb : Nat} {G H : Hp} {σ : St} {ρ : DRho} (S : DState c bb G H σ ρ) (i : Nat) : ∃ G', Same G G' ∧ DState c bb G' H σ (frz i ρ) := by
  unfold U.frz
  split
  · rename_i f xs e
    obtain ⟨fps, q⟩ := S.ex
    obtain ⟨l, vs, e1, e2, e3, g0, h0, s1, s2, e4, q'⟩ := q.frz S.len S.sub (join_some e)
    exact ⟨_, s1, S.ok, S.go.frz e3 g0 h0, S.inv, by simp [S.len], _, q'⟩
  · exact ⟨G, .refl _, S⟩
def sFrz (i : Nat) (t : SW) : SW := fun ρ b Q => t (frz i ρ) b Q
theorem pdb_frz (i : Nat) (h : PDB c X sts sa) : PDB c X sts (sFrz i sa) := by
  refine ⟨pss_imp h.ps fun D σ H ⟨G, ρ, b, S, q⟩ => ?_, fun ρ b Q Q' hh q => h.mono _ _ _ _ hh q⟩
  obtain ⟨G', s, S'⟩ := S.frz i
  exact ⟨G', _, b, S', h.mono _ _ _ _ (fun o b1 q1 => q1.back s) q⟩

/-! ### names stored -/
def stor : R → Option R
  | .d x => some (.d x)
  | .o true xs => some (.o false xs)
  | .oo true xs => some (.oo false xs)
  | .k true xs => some (.k false xs)
  | _ => none
theorem stor_ok {r r' : R} (h : stor r = some r') : r' = r.held ∧ (r.fresh = true ∨ ∃ x, r = .d x) := by
  unfold stor at h
  split at h <;> first | (cases h; exact ⟨rfl, .inr ⟨_, rfl⟩⟩) | (cases h; exact ⟨rfl, .inl rfl⟩) | cases h
/-- what is just made since H stands apart from the slots at H -/
theorem apart_of {G H : Hp} {σ : St} {ρ : DRho} {fps : Nat → List Addr} (s : DSlots c G H σ ρ fps) {r : R} {fp : List Addr} {v : V} {G1 H1 : Hp} (k : Rk c G1 H1 v r fp) (f : Fr H r fp) (hr : r.fresh = true ∨ ∃ x, r = .d x) :
    ∀ j r', ρ[j]? = some (some r') → ∀ a, a ∈ fp → a ∉ fps j := fun j r' e z h1 h2 => by
  rcases hr with hr | ⟨x, rfl⟩
  · obtain ⟨v', _, q⟩ := s.sl j r' e
    exact (q.own z h2).2.2 (f hr z h1)
  · rw [k.nofp] at h1; cases h1
theorem DState.put {bb : Nat} {G H : Hp} {σ : St} {ρ : DRho} (S : DState c bb G H σ ρ) {fps : Nat → List Addr} (s : DSlots c G H σ ρ fps) {i : Nat} {v : V} {r : R} {fp : List Addr} (k : Rk c G H v r fp)
    (ap : ∀ j r', ρ[j]? = some (some r') → ∀ a, a ∈ fp → a ∉ fps j) : DState c bb G H (σ.set i (some v)) (ρ.set i (some r)) :=
  ⟨S.ok, S.go, S.inv, by simp [S.len], _, s.put S.len k fun j r' _ e => ap j r' e⟩
def sSet (i : Nat) (t : EW) : SW := fun ρ b Q => t ρ b fun r b1 => lft (stor r) fun r' => Q (.nx (ρ.set i (some r'))) b1
theorem pds_setR {i : Nat} (h : PS X st (tAsg (tE c ta) (gName i))) (ma : EMono ta) : PDS c X st (sSet i ta) := by
  refine ⟨ps_imp h fun D σ H ⟨G, ρ, b, S, q⟩ => ?_, fun ρ b Q Q' hh q => ma _ _ _ _ (fun r b1 q1 => lft_mono (fun _ => hh _ _) q1) q⟩
  refine ⟨G, ρ, b, S, ma _ _ _ _ (fun r b1 q1 => ?_) q⟩
  intro G1 H1 v fp g1 i1 k1 f1
  obtain ⟨r', e, q2⟩ := lft_ex q1
  obtain ⟨e', hr⟩ := stor_ok e
  subst e'
  obtain ⟨fps, s⟩ := S.ex
  exact q2 _ G1 H1 g1.gg ((S.grow g1 i1).put (s.go S.ok g1) k1.held (apart_of s k1 f1 hr))
theorem pds_set {i : Nat} {x : Str} {pos' : Pos} (hN : X.N.Nodup) (hi : X.N[i]? = some x) (hx : Loc X.env.scope x) (he : PDE c X e ta) (hs : swapsWith e (some (.Name x pos')) pos.line X.env = pure false := by rfl)
    (hf : X.fn x = true ∨ X.env.scope.names.lookup x = some .local := by first | exact .inl rfl | exact .inr rfl | assumption) : PDS c X (.Assign [.Name x pos'] e pos) (sSet i ta) :=
  pds_setR (ps_set hN hi hx he.pe hs hf) he.mono
/-- x = y: y's list goes over to x -/
def sMove (i j : Nat) : SW := fun ρ b Q => lft (ρ[j]?.join) fun r => Q (.nx ((ρ.set j none).set i (some r.held))) b
theorem pds_move {i j : Nat} {x y : Str} {pos' p2 : Pos} (hN : X.N.Nodup) (hi : X.N[i]? = some x) (hx : Loc X.env.scope x) (he : PE X (.Name y p2) (tVar j)) (hs : swapsWith (.Name y p2) (some (.Name x pos')) pos.line X.env = pure false := by rfl)
    (hf : X.fn x = true ∨ X.env.scope.names.lookup x = some .local := by first | exact .inl rfl | exact .inr rfl | assumption) : PDS c X (.Assign [.Name x pos'] (.Name y p2) pos) (sMove i j) := by
  refine ⟨ps_imp (ps_set hN hi hx he hs hf) fun D σ H ⟨G, ρ, b, S, q⟩ => ?_, fun ρ b Q Q' hh q => lft_mono (fun _ => hh _ _) q⟩
  obtain ⟨r, e, q⟩ := lft_ex q
  obtain ⟨fps, s⟩ := S.ex
  obtain ⟨v, e1, k⟩ := s.sl j r (join_some e)
  refine ⟨v, e1, ?_⟩
  have s2 : DSlots c G H (σ.set j (some v)) (ρ.set j none) fps := s.drop j (some v)
  have e3 : σ.set j (some v) = σ := by
    obtain ⟨h1, h2⟩ := List.getElem?_eq_some_iff.mp e1
    rw [← h2, List.set_getElem_self]
  rw [e3] at s2
  have S2 : DState c b G H σ (ρ.set j none) := ⟨S.ok, S.go, S.inv, by simp [S.len], fps, s2⟩
  refine q _ G H (.refl _) (S2.put s2 k.held fun j' r' e' z h1 h2 => ?_)
  by_cases hj : j' = j
  · subst hj
    have hl : j' < ρ.length := (List.getElem?_eq_some_iff.mp (join_some e)).1
    rw [List.getElem?_set_self hl] at e'
    cases e'
  · rw [List.getElem?_set_ne (Ne.symm hj)] at e'
    exact s.dis j j' r r' (Ne.symm hj) (join_some e) e' z h1 h2

/-! ### statements -/
def sExpr (t : EW) : SW := fun ρ b Q => t ρ b fun _ b1 => Q (.nx ρ) b1
theorem pds_expr (he : PDE c X e ta) (hs : swapsWith e none pos.line X.env = pure false := by rfl) : PDS c X (.Expr e pos) (sExpr ta) := by
  refine ⟨ps_imp (ps_expr he.pe hs) fun D σ H ⟨G, ρ, b, S, q⟩ => ?_, fun ρ b Q Q' hh q => he.mono _ _ _ _ (fun r b1 => hh _ _) q⟩
  exact ⟨G, ρ, b, S, he.mono _ _ _ _ (fun r b1 q1 G1 H1 v fp g1 i1 _ _ => q1 σ G1 H1 g1.gg (S.grow g1 i1)) q⟩
def rtD : R → Option PyData
  | .d x => some x
  | .o _ xs => some (.list xs)
  | _ => none
def sRet (t : EW) : SW := fun ρ b Q => t ρ b fun r b1 => lft (rtD r) fun d => Q (.rt d) b1
theorem rt_ok {G H : Hp} {v : V} {r : R} {fp : List Addr} {d : PyData} (g : Go c c.G0 c.H0 G H) (k : Rk c G H v r fp) (e : rtD r = some d) : ∃ G', Go c c.G0 c.H0 G' H ∧ Dp c.K G' v d := by
  cases r with
  | d x => cases e; exact ⟨G, g, k.dat⟩
  | o f xs =>
    cases e
    obtain ⟨l, vs, rfl, e2, e3, e4⟩ := k.is
    have own := k.own l (by rw [e2]; simp)
    exact ⟨_, g.frz e3 own.1 own.2.1, .lst (SqL.of upd_same) (dpAll_mono (same_new own.1) _ _ e4)⟩
  | oo f xs => cases e
  | k f xs => cases e
  | m => cases e
theorem pds_ret (he : PDE c X e ta) : PDS c X (.Return (some e) pos) (sRet ta) := by
  refine ⟨ps_imp (ps_ret he.pe) fun D σ H ⟨G, ρ, b, S, q⟩ => ?_, fun ρ b Q Q' hh q => he.mono _ _ _ _ (fun r b1 q1 => lft_mono (fun _ => hh _ _) q1) q⟩
  refine ⟨G, ρ, b, S, he.mono _ _ _ _ (fun r b1 q1 G1 H1 v fp g1 i1 k1 _ => ?_) q⟩
  obtain ⟨d, e, q2⟩ := lft_ex q1
  obtain ⟨G', g', k'⟩ := rt_ok (S.go.trans g1) k1 e
  exact q2 G' H1 v g' i1 k'
def sIf (t : TW) (u v : SW) : SW := fun ρ b Q => t ρ b fun k b1 => if k = true then u ρ b1 Q else v ρ b1 Q
theorem pds_if {c1 : Expr} (ht : PDT c X c1 ua) (ha : PDB c X sts sa) (hb : PDB c X sts' sb) : PDS c X (.If c1 sts sts' pos) (sIf ua sa sb) := by
  refine ⟨ps_imp (ps_if ht.pt ha.ps hb.ps) fun D σ H ⟨G, ρ, b, S, q⟩ => ?_, fun ρ b Q Q' hh q => ht.mono _ _ _ _ (fun k b1 q1 => ?_) q⟩
  · refine ⟨G, ρ, b, S, ht.mono _ _ _ _ (fun k b1 q1 G1 H1 g1 i1 => ?_) q⟩
    cases k
    · rw [if_neg Bool.false_ne_true] at q1 ⊢
      exact ⟨G1, ρ, b1, S.grow g1 i1, hb.mono _ _ _ _ (fun o b2 q2 => q2.back g1.gg) q1⟩
    · rw [if_pos rfl] at q1 ⊢
      exact ⟨G1, ρ, b1, S.grow g1 i1, ha.mono _ _ _ _ (fun o b2 q2 => q2.back g1.gg) q1⟩
  · cases k
    · rw [if_neg Bool.false_ne_true] at q1 ⊢; exact hb.mono _ _ _ _ hh q1
    · rw [if_pos rfl] at q1 ⊢; exact ha.mono _ _ _ _ hh q1
def sNever : SW := fun _ _ _ => False
theorem pds_never : PDS c X st sNever := ⟨ps_imp ps_never fun D σ H ⟨G, ρ, b, S, q⟩ => q, fun _ _ _ _ _ q => q⟩
theorem pdb_never : PDB c X sts sNever := ⟨pss_imp pss_never fun D σ H ⟨G, ρ, b, S, q⟩ => q, fun _ _ _ _ _ q => q⟩

/-! ### targets, of data -/
abbrev GW := PyData → DRho → Nat → (DRho → Nat → Prop) → Prop
abbrev GsW := List PyData → DRho → Nat → (DRho → Nat → Prop) → Prop
def GPost (c : Ct) (G : Hp) (Q : St → Hp → Prop) (ρ' : DRho) (b' : Nat) : Prop := ∀ σ' G' H', Same G G' → DState c b' G' H' σ' ρ' → Q σ' H'
def tG (c : Ct) (t : GW) : TG := fun v σ H Q => ∃ G ρ b d, DState c b G H σ ρ ∧ Dp c.K G v d ∧ t d ρ b (GPost c G Q)
def tGs (c : Ct) (t : GsW) : TGs := fun vs σ H Q => ∃ G ρ b ds, DState c b G H σ ρ ∧ DpAll c.K G vs ds ∧ t ds ρ b (GPost c G Q)
structure PDG (c : Ct) (X : Cx) (tg : Expr) (t : GW) : Prop where
  pg : PG X tg (tG c t)
  mono : ∀ d ρ b (Q Q' : DRho → Nat → Prop), (∀ ρ' b', Q ρ' b' → Q' ρ' b') → t d ρ b Q → t d ρ b Q'
structure PDGs (c : Ct) (X : Cx) (tgs : List Expr) (t : GsW) : Prop where
  pg : PGs X tgs (tGs c t)
  mono : ∀ d ρ b (Q Q' : DRho → Nat → Prop), (∀ ρ' b', Q ρ' b' → Q' ρ' b') → t d ρ b Q → t d ρ b Q'
theorem pg_imp {tg : Expr} {t t' : TG} (h : PG X tg t) (i : ∀ v σ H Q, t' v σ H Q → t v σ H Q) : PG X tg t' := ⟨fun pins s σ H v u Q I r q => h.run pins s σ H v u Q I r (i _ _ _ _ q)⟩
theorem pgs_imp {tg : List Expr} {t t' : TGs} (h : PGs X tg t) (i : ∀ v σ H Q, t' v σ H Q → t v σ H Q) : PGs X tg t' := ⟨fun pins s σ H v u Q I r q => h.run pins s σ H v u Q I r (i _ _ _ _ q)⟩
theorem GPost.back {G G1 : Hp} {Q : St → Hp → Prop} {ρ' : DRho} {b' : Nat} (h : GPost c G Q ρ' b') (s : Same G G1) : GPost c G1 Q ρ' b' := fun σ' G' H' q S => h σ' G' H' (s.trans q) S
def dName (i : Nat) : GW := fun d ρ b Q => Q (ρ.set i (some (.d d))) b
theorem DState.putD {bb : Nat} {G H : Hp} {σ : St} {ρ : DRho} (S : DState c bb G H σ ρ) {i : Nat} {v : V} {d : PyData} (k : Dp c.K G v d) : DState c bb G H (σ.set i (some v)) (ρ.set i (some (.d d))) := by
  obtain ⟨fps, s⟩ := S.ex
  exact S.put s (fp := []) (rk_d k) fun _ _ _ _ z => nomatch z
theorem pdg_name {tpos : Pos} {i : Nat} {x : Str} (hN : X.N.Nodup) (hi : X.N[i]? = some x) (hx : Loc X.env.scope x) (hf : X.fn x = true ∨ X.env.scope.names.lookup x = some .local := by first | exact .inl rfl | exact .inr rfl | assumption) : PDG c X (.Name x tpos) (dName i) := by
  refine ⟨pg_imp (pg_name hN hi hx hf) fun v σ H Q ⟨G, ρ, b, d, S, k, q⟩ => ?_, fun d ρ b Q Q' h q => h _ _ q⟩
  exact q _ G H (.refl _) (S.putD k)
def dNil : GsW := fun ds ρ b Q => match ds with
  | [] => Q ρ b
  | _ => False
def dCons (t : GW) (u : GsW) : GsW := fun ds ρ b Q => match ds with
  | d :: ds => t d ρ b fun ρ1 b1 => u ds ρ1 b1 Q
  | [] => False
theorem pdgs_nil : PDGs c X [] dNil := by
  refine ⟨pgs_imp pgs_nil fun vs σ H Q ⟨G, ρ, b, ds, S, k, q⟩ => ?_, fun d ρ b Q Q' h q => ?_⟩
  · cases ds with
    | nil => cases k; exact ⟨rfl, q σ G H (.refl _) S⟩
    | cons _ _ => exact q.elim
  · cases d with
    | nil => exact h _ _ q
    | cons _ _ => exact q
theorem pdgs_cons {t1 : Expr} {ts1 : List Expr} {t : GW} {u : GsW} (h1 : PDG c X t1 t) (h2 : PDGs c X ts1 u) (hs : (assignEach (t1 :: ts1) X.env).map (·.2) = assign t1 X.env :: (assignEach ts1 X.env).map (·.2) := by rfl) : PDGs c X (t1 :: ts1) (dCons t u) := by
  refine ⟨pgs_imp (pgs_cons h1.pg h2.pg hs) fun vs σ H Q ⟨G, ρ, b, ds, S, k, q⟩ => ?_, fun d ρ b Q Q' h q => ?_⟩
  · cases ds with
    | nil => exact q.elim
    | cons d ds =>
      cases k with
      | cons k1 k2 =>
        refine ⟨_, _, rfl, G, ρ, b, d, S, k1, h1.mono _ _ _ _ _ (fun ρ1 b1 q1 => ?_) q⟩
        exact fun σ' G' H' s S' => ⟨G', ρ1, b1, ds, S', dpAll_mono s _ _ k2, h2.mono _ _ _ _ _ (fun ρ2 b2 q2 => q2.back s) q1⟩
  · cases d with
    | nil => exact q
    | cons d ds => exact h1.mono _ _ _ _ _ (fun ρ1 b1 q1 => h2.mono _ _ _ _ _ h q1) q
/-- a tuple's items -/
def dTup (n : Nat) (u : GsW) : GW := fun d ρ b Q => match d with
  | .tuple ds => ds.length = n ∧ u ds ρ b Q
  | _ => False
theorem pdg_tup {k : Nat} {tpos : Pos} {u : GsW} {n : Nat} (hc : X.calm = true) (h : PDGs c X es u) (hn : (assignEach es X.env).length = n := by rfl) (hst : (assignEach es X.env).findIdx? (·.1) = none := by rfl) (fit : Fit c X := by exact {}) : PDG c X (.Tuple es k tpos) (dTup n u) := by
  refine ⟨pg_imp (pg_tup hc h.pg hn hst) fun v σ H Q ⟨G, ρ, b, d, S, kd, q⟩ => ?_, fun d ρ b Q Q' hh q => ?_⟩
  · cases d with
    | tuple ds =>
      obtain ⟨z, xs, e, hq, ha⟩ := dp_tup kd
      exact ⟨z, xs, e, by rw [fit.k]; exact sqT_mono S.sub hq, by rw [dpAll_length ha]; exact q.1, G, ρ, b, ds, S, ha, q.2⟩
    | _ => exact q.elim
  · cases d with
    | tuple ds => exact ⟨q.1, h.mono _ _ _ _ _ hh q.2⟩
    | _ => exact q.elim
/-- target = data -/
def sAsg (t : EW) (g : GW) : SW := fun ρ b Q => t ρ b fun r b1 => match r with
  | .d d => g d ρ b1 fun ρ1 b2 => Q (.nx ρ1) b2
  | _ => False
theorem pds_asg {tg : Expr} {g : GW} (he : PDE c X e ta) (hg : PDG c X tg g) (hs : swapsWithSole [tg] e pos.line X.env = pure false := by rfl) (hw : swappedStores [tg] e X.env = pure none := by rfl)
    (h1 : (assignEach [tg] X.env).map (·.2) = [assign tg X.env] := by rfl) : PDS c X (.Assign [tg] e pos) (sAsg ta g) := by
  refine ⟨ps_imp (ps_asg he.pe hg.pg hs hw h1) fun D σ H ⟨G, ρ, b, S, q⟩ => ?_, fun ρ b Q Q' hh q => he.mono _ _ _ _ (fun r b1 q1 => ?_) q⟩
  · refine ⟨G, ρ, b, S, he.mono _ _ _ _ (fun r b1 q1 G1 H1 v fp g1 i1 k1 _ => ?_) q⟩
    split at q1
    · exact ⟨G1, ρ, b1, _, S.grow g1 i1, k1.dat, hg.mono _ _ _ _ _ (fun ρ1 b2 q2 σ' G' H' s S' => q2 σ' G' H' (g1.gg.trans s) S') q1⟩
    · exact q1.elim
  · split at q1
    · exact hg.mono _ _ _ _ _ (fun _ _ => hh _ _) q1
    · exact q1

/-! ### lists of our own, changed -/
/-- the list in slot i is changed -/
theorem DState.setO {bb : Nat} {G H : Hp} {σ : St} {ρ : DRho} (S : DState c bb G H σ ρ) {i : Nat} {f : Bool} {xs : List PyData} (e : ρ[i]? = some (some (.o f xs))) :
    ∃ l vs, σ[i]? = some (some (.ref l)) ∧ H l = some (.lst vs) ∧ DpAll c.K G vs xs ∧ ∀ ws ys, DpAll c.K G ws ys → DState c bb G (upd H l (.lst ws)) σ (ρ.set i (some (.o false ys))) := by
  obtain ⟨fps, s⟩ := S.ex
  obtain ⟨v, e1, k⟩ := s.sl i _ e
  obtain ⟨l, vs, rfl, e2, e3, e4⟩ := k.is
  have own := k.own l (by rw [e2]; simp)
  refine ⟨l, vs, e1, e3, e4, fun ws ys hw => ?_⟩
  have hi : i < σ.length := (List.getElem?_eq_some_iff.mp e1).1
  have hi' : i < ρ.length := by have := S.len; omega
  have hm : ¬ c.md.has l := fun z => (S.ok l z).1 own.2.1
  refine ⟨S.ok, ⟨fun b o n q => ?_, fun b q => ?_, S.go.gg, same_put S.go.sub own.1, S.go.fz⟩, ?_, by simp [S.len], fps, fun j r q => ?_, fun j1 j2 r1 r2 ne q1 q2 z h1 h2 => ?_⟩
  · have : b ≠ l := fun z => by rw [z, own.2.1] at q; cases q
    rw [upd_ne this]; exact S.go.keep b o n q
  · have : b ≠ l := fun z => by rw [z, upd_same] at q; cases q
    rw [upd_ne this] at q; exact S.go.dom b q
  · have key : ∀ (md : Md), ¬ md.has l → md.I bb H → md.I bb (upd H l (.lst ws)) := fun md hm h => by
      cases md with
      | pure => exact trivial
      | m a cl gl =>
        obtain ⟨ne, n, cells, great, h1, h2, h3, r⟩ := h
        exact ⟨ne, n, cells, great, by rw [upd_ne (fun z => hm (.inl z.symm))]; exact h1, by rw [upd_ne (fun z => hm (.inr (.inl z.symm)))]; exact h2, by rw [upd_ne (fun z => hm (.inr (.inr z.symm)))]; exact h3, r⟩
    exact key c.md hm S.inv
  · by_cases hj : j = i
    · subst hj
      rw [List.getElem?_set_self hi'] at q
      cases q
      refine ⟨_, e1, ⟨fun z hz => ?_, k.nd, l, ws, rfl, e2, upd_same, hw⟩⟩
      have : z = l := by rw [e2] at hz; simpa using hz
      subst this
      exact ⟨own.1, own.2.1, by rw [upd_same]; exact fun z => nomatch z⟩
    · rw [List.getElem?_set_ne (Ne.symm hj)] at q
      obtain ⟨v', q1, q2⟩ := s.sl j r q
      refine ⟨v', q1, q2.keepIf (fun l' hl' o q => ?_) (.refl _) fun l' hl' => (q2.own l' hl').1⟩
      have : l' ≠ l := fun z => by
        subst z
        exact s.dis j i r _ hj (by assumption) e l' hl' (by rw [e2]; simp)
      rw [upd_ne this]; exact q
  · have key : ∀ j r, (ρ.set i (some (.o false ys)))[j]? = some (some r) → ∃ r', ρ[j]? = some (some r') := fun j r q => by
      by_cases hj : j = i
      · subst hj; exact ⟨_, e⟩
      · rw [List.getElem?_set_ne (Ne.symm hj)] at q; exact ⟨r, q⟩
    obtain ⟨r1', q1'⟩ := key _ _ q1
    obtain ⟨r2', q2'⟩ := key _ _ q2
    exact s.dis j1 j2 r1' r2' ne q1' q2' z h1 h2
/-- x.append(e) -/
def sApp (i : Nat) (t : EW) : SW := fun ρ b Q => match ρ[i]?.join with
  | some (.o _ xs) => t ρ b fun r b1 => match r with
    | .d x => xs.length < sizeLine ∧ Q (.nx (ρ.set i (some (.o false (xs ++ [x]))))) b1
    | _ => False
  | _ => False
theorem sApp_mono {i : Nat} (ma : EMono ta) : SMono (sApp i ta) := fun ρ b Q Q' hh q => by
  unfold sApp at q ⊢
  split at q
  · exact ma _ _ _ _ (fun r b1 q1 => by
      split at q1
      · exact ⟨q1.1, hh _ _ q1.2⟩
      · exact q1) q
  · exact q
theorem pds_app {i : Nat} {x : Str} {p1 apos cpos : Pos} (he : PDE c X e ta)
    (h : PS X (.Expr (.Call (.Attribute (.Name x p1) "append" apos) [e] [] cpos) pos) (tDrop (tBM X.K "list" rAppend (tVar i) (tCons (tE c ta) tNil)))) :
    PDS c X (.Expr (.Call (.Attribute (.Name x p1) "append" apos) [e] [] cpos) pos) (sApp i ta) := by
  refine ⟨ps_imp h fun D σ H ⟨G, ρ, b, S, q⟩ => ?_, sApp_mono he.mono⟩
  unfold sApp at q
  split at q
  · rename_i f xs e0
    obtain ⟨l, vs, e1, e3, e4, _⟩ := S.setO (join_some e0)
    refine ⟨_, e1, .inl ⟨rfl, _, SqL.of e3⟩, G, ρ, b, S, he.mono _ _ _ _ (fun r b1 q1 G1 H1 v fp g1 i1 k1 _ => ?_) q⟩
    split at q1
    · rename_i x0
      obtain ⟨hz, q2⟩ := q1
      obtain ⟨l', vs', e1', e3', e4', put⟩ := (S.grow g1 i1).setO (join_some e0)
      rw [e1] at e1'
      cases e1'
      refine ⟨l, vs', v, rfl, rfl, e3', by rw [dpAll_length e4']; exact hz, ?_⟩
      exact q2 σ G1 _ g1.gg (put _ _ (dpAll_append e4' (.cons k1.dat .nil)))
    · exact q1.elim
  · exact q.elim
/-- x.extend(a new list) -/
def sExt (i : Nat) (t : EW) : SW := fun ρ b Q => match ρ[i]?.join with
  | some (.o _ xs) => t ρ b fun r b1 => match r with
    | .o true ys => xs.length + ys.length ≤ sizeLine ∧ Q (.nx (ρ.set i (some (.o false (xs ++ ys))))) b1
    | _ => False
  | _ => False
theorem sExt_mono {i : Nat} (ma : EMono ta) : SMono (sExt i ta) := fun ρ b Q Q' hh q => by
  unfold sExt at q ⊢
  split at q
  · exact ma _ _ _ _ (fun r b1 q1 => by
      split at q1
      · exact ⟨q1.1, hh _ _ q1.2⟩
      · exact q1) q
  · exact q
theorem pds_ext {i : Nat} {x : Str} {p1 apos cpos : Pos} (he : PDE c X e ta)
    (h : PS X (.Expr (.Call (.Attribute (.Name x p1) "extend" apos) [e] [] cpos) pos) (tDrop (tBM X.K "list" rExtend (tVar i) (tCons (tE c ta) tNil)))) :
    PDS c X (.Expr (.Call (.Attribute (.Name x p1) "extend" apos) [e] [] cpos) pos) (sExt i ta) := by
  refine ⟨ps_imp h fun D σ H ⟨G, ρ, b, S, q⟩ => ?_, sExt_mono he.mono⟩
  unfold sExt at q
  split at q
  · rename_i f xs e0
    obtain ⟨l, vs, e1, e3, e4, _⟩ := S.setO (join_some e0)
    refine ⟨_, e1, .inl ⟨rfl, _, SqL.of e3⟩, G, ρ, b, S, he.mono _ _ _ _ (fun r b1 q1 G1 H1 v fp g1 i1 k1 _ => ?_) q⟩
    split at q1
    · rename_i ys
      obtain ⟨hz, q2⟩ := q1
      obtain ⟨l', vs', e1', e3', e4', put⟩ := (S.grow g1 i1).setO (join_some e0)
      rw [e1] at e1'
      cases e1'
      obtain ⟨l2, ws, rfl, _, h2, h3⟩ := k1.is
      refine ⟨l, l2, vs', ws, rfl, rfl, e3', h2, by rw [dpAll_length e4', dpAll_length h3]; exact hz, ?_⟩
      exact q2 σ G1 _ g1.gg (put _ _ (dpAll_append e4' h3))
    · exact q1.elim
  · exact q.elim
/-- x[..] = data -/
def dSub (i : Nat) (t : EW) : GW := fun d ρ b Q => match ρ[i]?.join with
  | some (.o _ xs) => t ρ b fun r b1 => match r with
    | .d (.int z) => lft (ixN xs.length z) fun j => Q (ρ.set i (some (.o false (xs.set j d)))) b1
    | _ => False
  | _ => False
theorem pdg_sub {i : Nat} {x : Str} {p1 tpos : Pos} (ho : PE X (.Name x p1) (tVar i)) (he : PDE c X e ta)
    (ha : ∀ v, assign (.Subscript (.Name x p1) e tpos) X.env v = (do
      let ov ← holding [v] (eval (.Name x p1) X.env)
      let iv ← holding [v, ov] (eval e X.env)
      standAt tpos
      holding [v, ov, iv] (setItem ov iv v)
      release [v, ov, iv] []) := by intro _; rfl) : PDG c X (.Subscript (.Name x p1) e tpos) (dSub i ta) := by
  refine ⟨pg_imp (pg_sub ho he.pe set_list ha) fun v σ H Q ⟨G, ρ, b, d, S, kd, q⟩ => ?_, fun d ρ b Q Q' hh q => ?_⟩
  · unfold dSub at q
    split at q
    · rename_i f xs e0
      obtain ⟨l, vs, e1, e3, e4, _⟩ := S.setO (join_some e0)
      refine ⟨_, e1, G, ρ, b, S, he.mono _ _ _ _ (fun r b1 q1 G1 H1 w fp g1 i1 k1 _ => ?_) q⟩
      split at q1
      · rename_i z fr1
        obtain ⟨j, ej, q2⟩ := lft_ex q1
        obtain ⟨l', vs', e1', e3', e4', put⟩ := (S.grow g1 i1).setO (join_some e0)
        rw [e1] at e1'
        cases e1'
        refine ⟨l, vs', z, j, rfl, dp_int k1.dat, e3', by rw [dpAll_length e4']; exact ej, ?_⟩
        exact q2 σ G1 _ g1.gg (put _ _ (dpAll_set j (dp_mono g1.gg _ _ kd) e4'))
      · exact q1.elim
    · exact q.elim
  · unfold dSub at q ⊢
    split at q
    · exact he.mono _ _ _ _ (fun r b1 q1 => by
        split at q1
        · exact lft_mono (fun _ => hh _ _) q1
        · exact q1) q
    · exact q

/-! ### several names at once -/
/-- values just made, each apart, are stored -/
def Apt (ρ : DRho) (fps : Nat → List Addr) (fp : List Addr) : Prop := ∀ j r', ρ[j]? = some (some r') → ∀ a, a ∈ fp → a ∉ fps j
theorem apt_set {ρ : DRho} {fps : Nat → List Addr} {fp fp2 : List Addr} {i : Nat} {r : R} (h : Apt ρ fps fp2) (d : ∀ a ∈ fp2, a ∉ fp) : Apt (ρ.set i (some r)) (fun j => if j = i then fp else fps j) fp2 := fun j r' e z h1 h2 => by
  have h2' : z ∈ (if j = i then fp else fps j) := h2
  by_cases hj : j = i
  · rw [if_pos hj] at h2'; exact d z h1 h2'
  · rw [if_neg hj] at h2'
    rw [List.getElem?_set_ne (Ne.symm hj)] at e
    exact h j r' e z h1 h2'
/-- storing a row of values -/
def setAll : DRho → List Nat → List R → DRho
  | ρ, i :: is, r :: rs => setAll (ρ.set i (some r)) is rs
  | ρ, _, _ => ρ
def setAllV : St → List Nat → List V → St
  | σ, i :: is, v :: vs => setAllV (σ.set i (some v)) is vs
  | σ, _, _ => σ
def storAll : List R → Option (List R)
  | [] => some []
  | r :: rs => (stor r).bind fun r' => (storAll rs).map (r' :: ·)
theorem put_all {G H H1 : Hp} : ∀ {vs : List V} {rs : List R} {fpl : List (List Addr)} {rs' : List R} {is : List Nat} {σ : St} {ρ : DRho} {fps : Nat → List Addr} {bb : Nat}, RkAll c G H H1 vs rs fpl → storAll rs = some rs' → DState c bb G H σ ρ → DSlots c G H σ ρ fps →
    (∀ (i : Nat) r fp, rs[i]? = some r → fpl[i]? = some fp → Apt ρ fps fp) → DState c bb G H (setAllV σ is vs) (setAll ρ is rs')
  | _, _, _, _, is, σ, ρ, fps, bb, .nil, e, S, s, ap => by cases e; cases is <;> exact S
  | _, _, _, rs', [], σ, ρ, fps, bb, .cons k f dj t, e, S, s, ap => by cases rs' <;> exact S
  | _, _, _, rs', i :: is, σ, ρ, fps, bb, .cons (v := v) (r := r) (fp := fp) k f dj t, e, S, s, ap => by
    unfold storAll at e
    obtain ⟨r', e1, e2⟩ := Option.bind_eq_some_iff.mp e
    obtain ⟨rs2, e3, rfl⟩ := Option.map_eq_some_iff.mp e2
    obtain ⟨e4, hr⟩ := stor_ok e1
    have ap0 := ap 0 r fp rfl rfl
    have S' : DState c bb G H (σ.set i (some v)) (ρ.set i (some r')) := S.put s (by rw [e4]; exact k.held) ap0
    have s' := s.put (i := i) S.len (r := r') (by rw [e4]; exact k.held) fun j r2 _ q => ap0 j r2 q
    show DState c bb G H (setAllV (σ.set i (some v)) is _) (setAll (ρ.set i (some r')) is rs2)
    refine put_all t e3 S' s' fun m r2 fp2 h1 h2 => apt_set (ap (m + 1) r2 fp2 (by simpa using h1) (by simpa using h2)) fun z hz hz' => ?_
    -- both are just made, or data
    have t2 : stor r2 ≠ none := by
      have : ∀ {rs : List R} {rs' : List R}, storAll rs = some rs' → ∀ (m : Nat) r, rs[m]? = some r → stor r ≠ none := by
        intro rs
        induction rs with
        | nil => intro rs' _ m r h; simp at h
        | cons a rs ih =>
          intro rs' h m r hm
          unfold storAll at h
          obtain ⟨a', q1, q2⟩ := Option.bind_eq_some_iff.mp h
          obtain ⟨rs3, q3, _⟩ := Option.map_eq_some_iff.mp q2
          cases m with
          | zero => simp at hm; subst hm; rw [q1]; exact fun z => nomatch z
          | succ m => exact ih q3 m r (by simpa using hm)
      exact this e3 m r2 h1
    cases h3 : stor r2 with
    | none => exact t2 h3
    | some r2' =>
      have key : ∀ {vs : List V} {rs : List R} {fpl : List (List Addr)}, RkAll c G H H1 vs rs fpl → ∀ (m : Nat) r fp, rs[m]? = some r → fpl[m]? = some fp → (∃ x, r = .d x) → fp = [] := by
        intro vs rs fpl q
        induction q with
        | nil => intro m r fp h; simp at h
        | cons k' f' dj' t' ih =>
          intro m r fp h h' hx
          cases m with
          | zero =>
            simp at h h'
            obtain ⟨x, rfl⟩ := hx
            subst h h'
            exact k'.nofp
          | succ m => exact ih m r fp (by simpa using h) (by simpa using h') hx
      obtain ⟨_, hr2⟩ := stor_ok h3
      rcases hr2 with hr2 | hr2
      · rcases hr with hr | ⟨x, rfl⟩
        · exact dj m r2 fp2 h1 h2 hr hr2 z hz' hz
        · rw [k.nofp] at hz'; cases hz'
      · rw [key t m r2 fp2 h1 h2 hr2] at hz; cases hz
theorem rkAll_apt {G H G1 H1 : Hp} {σ : St} {ρ : DRho} {fps : Nat → List Addr} (s : DSlots c G H σ ρ fps) : ∀ {vs : List V} {rs : List R} {fpl : List (List Addr)} {rs' : List R}, RkAll c G1 H1 H vs rs fpl → storAll rs = some rs' → ∀ (i : Nat) r fp, rs[i]? = some r → fpl[i]? = some fp → Apt ρ fps fp
  | _, _, _, _, .nil, _, i, r, fp, h, _ => by simp at h
  | _, _, _, rs', .cons k f dj t, e, i, r, fp, h, h' => by
    unfold storAll at e
    obtain ⟨r', e1, e2⟩ := Option.bind_eq_some_iff.mp e
    obtain ⟨rs2, e3, _⟩ := Option.map_eq_some_iff.mp e2
    cases i with
    | zero =>
      simp at h h'
      subst h h'
      exact apart_of s k f (stor_ok e1).2
    | succ i => exact rkAll_apt s t e3 i r fp (by simpa using h) (by simpa using h')
def sPar (is : List Nat) (t : AW) : SW := fun ρ b Q => t ρ b fun rs b1 => lft (storAll rs) fun rs' => rs.length = is.length ∧ Q (.nx (setAll ρ is rs')) b1
theorem sPar_mono {is : List Nat} (ma : AMono ts) : SMono (sPar is ts) := fun ρ b Q Q' hh q => ma _ _ _ _ (fun rs b1 q1 => lft_mono (fun _ z => ⟨z.1, hh _ _ z.2⟩) q1) q
theorem pds_par2 {i j : Nat} (h : PS X st (tPar i j (tA c ts))) (ma : AMono ts) : PDS c X st (sPar [i, j] ts) := by
  refine ⟨ps_imp h fun D σ H ⟨G, ρ, b, S, q⟩ => ?_, sPar_mono ma⟩
  refine ⟨G, ρ, b, S, ma _ _ _ _ (fun rs b1 q1 G1 H1 vs fpl g1 i1 k1 => ?_) q⟩
  obtain ⟨rs', e, hl, q2⟩ := lft_ex q1
  obtain ⟨fps, s⟩ := S.ex
  have hlen : vs.length = 2 := k1.length.1.trans hl
  match vs, hlen with
  | [v, w], _ =>
    refine ⟨v, w, rfl, ?_⟩
    exact q2 _ G1 H1 g1.gg (put_all (is := [i, j]) k1 e (S.grow g1 i1) (s.go S.ok g1) (rkAll_apt s k1 e))
theorem pds_par3 {i j l : Nat} (h : PS X st (tPar3 i j l (tA c ts))) (ma : AMono ts) : PDS c X st (sPar [i, j, l] ts) := by
  refine ⟨ps_imp h fun D σ H ⟨G, ρ, b, S, q⟩ => ?_, sPar_mono ma⟩
  refine ⟨G, ρ, b, S, ma _ _ _ _ (fun rs b1 q1 G1 H1 vs fpl g1 i1 k1 => ?_) q⟩
  obtain ⟨rs', e, hl, q2⟩ := lft_ex q1
  obtain ⟨fps, s⟩ := S.ex
  have hlen : vs.length = 3 := k1.length.1.trans hl
  match vs, hlen with
  | [v, w, u], _ =>
    refine ⟨v, w, u, rfl, ?_⟩
    exact q2 _ G1 H1 g1.gg (put_all (is := [i, j, l]) k1 e (S.grow g1 i1) (s.go S.ok g1) (rkAll_apt s k1 e))
def gNames : List Nat → TGs
  | [] => gNil
  | i :: is => gCons (gName i) (gNames is)
theorem gNames_of : ∀ {is : List Nat} {vs : List V} {σ : St} {H : Hp} {Q : St → Hp → Prop}, vs.length = is.length → Q (setAllV σ is vs) H → gNames is vs σ H Q
  | [], [], σ, H, Q, _, q => ⟨rfl, q⟩
  | i :: is, v :: vs, σ, H, Q, hl, q => ⟨v, vs, rfl, gNames_of (by simpa using hl) q⟩
theorem RkAll.grow {G H H1 G' H' : Hp} (g : Grow G H G' H') (ok : c.Ok) : ∀ {vs : List V} {rs : List R} {fpl : List (List Addr)}, RkAll c G H H1 vs rs fpl → RkAll c G' H' H1 vs rs fpl
  | _, _, _, .nil => .nil
  | _, _, _, .cons k f dj t => .cons (k.go ok g.go) f dj (t.grow g ok)
theorem pds_parN {is : List Nat} {n : Nat} (h : PS X st (tAsg (tTup (tA c ts)) (gTup X.K n (gNames is)))) (hn : is.length = n) (hz : n ≤ 1000) (ma : AMono ts) : PDS c X st (sPar is ts) := by
  refine ⟨ps_imp h fun D σ H ⟨G, ρ, b, S, q⟩ => ?_, sPar_mono ma⟩
  refine ⟨G, ρ, b, S, ma _ _ _ _ (fun rs b1 q1 G1 H1 vs fpl g1 i1 k1 => ?_) q⟩
  obtain ⟨rs', e, hl, q2⟩ := lft_ex q1
  obtain ⟨fps, s⟩ := S.ex
  have hlen : vs.length = is.length := k1.length.1.trans hl
  refine ⟨by rw [hlen, hn]; exact le_line hz, fun p hp => ⟨p, vs, rfl, SqT.of upd_same, hlen.trans hn, gNames_of hlen ?_⟩⟩
  have gr : Grow G1 H1 G1 (upd H1 p (.tup vs)) := Grow.new g1.sub hp
  exact q2 _ G1 _ g1.gg (put_all (is := is) (k1.grow gr S.ok) e (S.grow (g1.trans gr.go) (i1.same gr.keep)) (s.go S.ok (g1.trans gr.go)) (rkAll_apt s k1 e))
end
end L2.U
/-! The data layer, part 5: what is walked, loops, comprehensions, a def by its body. -/
namespace L2.U
open PySem PySem.Spec PyProof.Rows

/-! ### what is walked -/
/-- it yields these -/
structure Yl (K : PySem.W.Frag) (J : It) (xs : List PyData) (G : Hp) : Prop where
  go : ∀ i G' H', Same G G' → Same G' H' → i < xs.length → J.go i H'
  stop : ∀ i G' H', Same G G' → Same G' H' → xs.length ≤ i → J.stop i H'
  yld : ∀ i G' H' x H'' d, Same G G' → Same G' H' → xs[i]? = some d → J.yld i H' x H'' → ∃ G'', Grow G' H' G'' H'' ∧ Dp K G'' x d
abbrev IW := DRho → Nat → (List PyData → Nat → Prop) → Prop
def tI (c : Ct) (iw : IW) : TI := fun σ H Rr => ∃ G ρ b, DState c b G H σ ρ ∧ iw ρ b fun xs b' => ∀ G' H' J, Go c G H G' H' → c.md.I b' H' → Yl c.K J xs G' → Rr J H'
structure PDI (c : Ct) (X : Cx) (tg e : Expr) (iw : IW) : Prop where
  pi : PI X tg e (tI c iw)
  mono : ∀ ρ b (Q Q' : List PyData → Nat → Prop), (∀ x b', Q x b' → Q' x b') → iw ρ b Q → iw ρ b Q'
theorem pi_imp {X : Cx} {tg e : Expr} {t t' : TI} (h : PI X tg e t) (i : ∀ σ H Q, t' σ H Q → t σ H Q) : PI X tg e t' := ⟨fun pins s σ H Q I q => h.run pins s σ H Q I (i _ _ _ q)⟩

section
variable {c : Ct} {X : Cx} {a b e e1 e2 e3 tg : Expr} {es : List Expr} {ta tb tc : EW} {ts : AW} {pos : Pos} {st : Stmt} {sts sts' : List Stmt} {sa sb : SW} {ua : TW} {iw : IW}
theorem yl_list {K : PySem.W.Frag} {G : Hp} {l : Addr} {vs : List V} {xs : List PyData} (h : SqL K G l vs) (k : DpAll K G vs xs) : Yl K (Itl K l) xs G := by
  have hl := dpAll_length k
  refine ⟨fun i G' H' s s' hi => ?_, fun i G' H' s s' hi => ⟨vs, (s.trans s').seq h, by omega⟩, fun i G' H' x H'' d s s' hx hy => ?_⟩
  · obtain ⟨v, q1, q2⟩ := dpAll_get k (List.getElem?_eq_getElem hi)
    exact ⟨vs, v, (s.trans s').seq h, q1⟩
  · obtain ⟨rfl, hy⟩ := hy
    obtain ⟨v, q1, q2⟩ := dpAll_get k hx
    have e := hy vs ((s.trans s').seq h)
    rw [q1] at e
    cases e
    exact ⟨G', Grow.refl s', dp_mono s _ _ q2⟩
theorem yl_tup {K : PySem.W.Frag} {G : Hp} {l : Addr} {vs : List V} {xs : List PyData} (h : SqT K G l vs) (k : DpAll K G vs xs) : Yl K (Itt K l) xs G := by
  have hl := dpAll_length k
  refine ⟨fun i G' H' s s' hi => ?_, fun i G' H' s s' hi => ⟨vs, sqT_mono (s.trans s') h, by omega⟩, fun i G' H' x H'' d s s' hx hy => ?_⟩
  · obtain ⟨v, q1, q2⟩ := dpAll_get k (List.getElem?_eq_getElem hi)
    exact ⟨vs, v, sqT_mono (s.trans s') h, q1⟩
  · obtain ⟨rfl, hy⟩ := hy
    obtain ⟨v, q1, q2⟩ := dpAll_get k hx
    have e := hy vs (sqT_mono (s.trans s') h)
    rw [q1] at e
    cases e
    exact ⟨G', Grow.refl s', dp_mono s _ _ q2⟩
def rangeD (lo hi : Int) : List PyData := (List.range (hi - lo).toNat).map fun (i : Nat) => .int (lo + i)
theorem rangeD_length (lo hi : Int) : (rangeD lo hi).length = (hi - lo).toNat := by simp [rangeD]
theorem yl_range {K : PySem.W.Frag} {G : Hp} {lo hi : Int} : Yl K (Itr lo (hi - lo).toNat) (rangeD lo hi) G := by
  have hl := rangeD_length lo hi
  refine ⟨fun i G' H' s s' hi => by rw [hl] at hi; exact hi, fun i G' H' s s' hi => by rw [hl] at hi; exact hi, fun i G' H' x H'' d s s' hx hy => ?_⟩
  obtain ⟨rfl, rfl⟩ := hy
  unfold rangeD at hx
  rw [List.getElem?_map] at hx
  obtain ⟨j, q1, q2⟩ := Option.map_eq_some_iff.mp hx
  obtain ⟨q3, q4⟩ := List.getElem?_eq_some_iff.mp q1
  rw [List.getElem_range] at q4
  subst q4 q2
  exact ⟨G', Grow.refl s', .int _⟩
def enumD : Nat → List PyData → List PyData
  | _, [] => []
  | n, x :: xs => .tuple [.int (n : Int), x] :: enumD (n + 1) xs
theorem enumD_get : ∀ (xs : List PyData) (n i : Nat), (enumD n xs)[i]? = xs[i]?.map fun x => .tuple [.int ((n + i : Nat) : Int), x]
  | [], n, i => by simp [enumD]
  | x :: xs, n, 0 => by simp [enumD]
  | x :: xs, n, i + 1 => by
    unfold enumD
    rw [List.getElem?_cons_succ, List.getElem?_cons_succ, enumD_get xs (n + 1) i]
    have : n + 1 + i = n + (i + 1) := by omega
    rw [this]
theorem enumD_length : ∀ (xs : List PyData) (n : Nat), (enumD n xs).length = xs.length
  | [], n => rfl
  | x :: xs, n => by simp [enumD, enumD_length xs]
theorem yl_enumL {K : PySem.W.Frag} {G : Hp} {l : Addr} {vs : List V} {xs : List PyData} (h : SqL K G l vs) (k : DpAll K G vs xs) : Yl K (Ite K l) (enumD 0 xs) G := by
  have hl := dpAll_length k
  have hl2 := enumD_length xs 0
  refine ⟨fun i G' H' s s' hi => ?_, fun i G' H' s s' hi => ⟨vs, (s.trans s').seq h, by omega⟩, fun i G' H' x H'' d s s' hx hy => ?_⟩
  · obtain ⟨v, q1, q2⟩ := dpAll_get k (List.getElem?_eq_getElem (show i < xs.length by omega))
    exact ⟨vs, v, (s.trans s').seq h, q1⟩
  · obtain ⟨T, x', rfl, hT, rfl, hy⟩ := hy
    rw [enumD_get] at hx
    obtain ⟨d', q0, q2⟩ := Option.map_eq_some_iff.mp hx
    subst q2
    obtain ⟨v, q1, q2⟩ := dpAll_get k q0
    have e := hy vs ((s.trans s').seq h)
    rw [q1] at e
    cases e
    have gr : Grow G' H' (upd G' T (.tup [.int (i : Nat), x'])) (upd H' T (.tup [.int (i : Nat), x'])) := Grow.tup s' hT
    refine ⟨_, gr, ?_⟩
    rw [Nat.zero_add]
    exact .tup (SqT.of upd_same) (.cons (.int _) (.cons (dp_mono (s.trans gr.gg) _ _ q2) .nil))
def iSeq (t : EW) : IW := fun ρ b Q => t ρ b fun r b1 => match r with
  | .d (.list xs) => Q xs b1
  | .o true xs => Q xs b1
  | _ => False
def iTupW (t : EW) : IW := fun ρ b Q => t ρ b fun r b1 => match r with
  | .d (.tuple xs) => Q xs b1
  | _ => False
theorem pdi_list (he : PDE c X e ta) (fit : Fit c X := by exact {}) : PDI c X tg e (iSeq ta) := by
  refine ⟨pi_imp (pi_list he.pe) fun σ H Rr ⟨G, ρ, b, S, q⟩ => ?_, fun ρ b Q Q' hh q => he.mono _ _ _ _ (fun r b1 q1 => ?_) q⟩
  · refine ⟨G, ρ, b, S, he.mono _ _ _ _ (fun r b1 q1 G1 H1 v fp g1 i1 k1 f1 => ?_) q⟩
    rw [fit.k]
    split at q1
    · obtain ⟨l, vs, e, h1, h2⟩ := dp_lst k1.dat
      exact ⟨l, e, ⟨vs, g1.sub.seq h1⟩, q1 G1 H1 _ g1 i1 (yl_list h1 h2)⟩
    · obtain ⟨l, vs, rfl, e2, e3, e4⟩ := k1.is
      have own := k1.own l (by rw [e2]; simp)
      have hn : H l = none := f1 rfl l (by rw [e2]; simp)
      refine ⟨l, rfl, ⟨vs, SqL.of e3⟩, q1 (upd G1 l (.lst vs)) H1 _ ⟨g1.keep, g1.dom, g1.gg.trans (same_new own.1), fun b o q => ?_, fun b hb => ?_⟩ i1 (yl_list (SqL.of upd_same) (dpAll_mono (same_new own.1) _ _ e4))⟩
      · by_cases hb : b = l
        · subst hb; rw [upd_same] at q; cases q; exact e3
        · rw [upd_ne hb] at q; exact g1.sub _ _ q
      · have : b ≠ l := fun z => hb (by rw [z]; exact hn)
        rw [upd_ne this]; exact g1.fz b hb
    · exact q1.elim
  · split at q1
    · exact hh _ _ q1
    · exact hh _ _ q1
    · exact q1
theorem pdi_tup (he : PDE c X e ta) (fit : Fit c X := by exact {}) : PDI c X tg e (iTupW ta) := by
  refine ⟨pi_imp (pi_tup he.pe) fun σ H Rr ⟨G, ρ, b, S, q⟩ => ?_, fun ρ b Q Q' hh q => he.mono _ _ _ _ (fun r b1 q1 => ?_) q⟩
  · refine ⟨G, ρ, b, S, he.mono _ _ _ _ (fun r b1 q1 G1 H1 v fp g1 i1 k1 f1 => ?_) q⟩
    rw [fit.k]
    split at q1
    · obtain ⟨l, vs, e, h1, h2⟩ := dp_tup k1.dat
      exact ⟨l, e, ⟨vs, sqT_mono g1.sub h1⟩, q1 G1 H1 _ g1 i1 (yl_tup h1 h2)⟩
    · exact q1.elim
  · split at q1
    · exact hh _ _ q1
    · exact q1
def iRg1 (t : AW) : IW := fun ρ b Q => t ρ b fun rs b1 => match rs with
  | [.d (.int j)] => (-(2 ^ 62) ≤ j ∧ j < 2 ^ 62) ∧ Q (rangeD 0 j) b1
  | _ => False
def iRg2 (t : AW) : IW := fun ρ b Q => t ρ b fun rs b1 => match rs with
  | [.d (.int i), .d (.int j)] => (-(2 ^ 62) ≤ i ∧ i < 2 ^ 62 ∧ -(2 ^ 62) ≤ j ∧ j < 2 ^ 62) ∧ Q (rangeD i j) b1
  | _ => False
theorem rkAll1 {G H H1 : Hp} {vs : List V} {r : R} {fps : List (List Addr)} (h : RkAll c G H H1 vs [r] fps) : ∃ v fp, vs = [v] ∧ Rk c G H v r fp := by
  cases h with
  | cons k f d t => cases t; exact ⟨_, _, rfl, k⟩
theorem rkAll2 {G H H1 : Hp} {vs : List V} {r r' : R} {fps : List (List Addr)} (h : RkAll c G H H1 vs [r, r'] fps) : ∃ v v' fp fp', vs = [v, v'] ∧ Rk c G H v r fp ∧ Rk c G H v' r' fp' := by
  cases h with
  | cons k f d t =>
    obtain ⟨v', fp', rfl, k'⟩ := rkAll1 t
    exact ⟨_, _, _, _, rfl, k, k'⟩
theorem pdi_range1 {p : Pos} (hg : Gl X "range") (hm : X.mg "range" = none) (ha : PDA c X [a] ts) (hs : starEach [a] X.env = [(false, eval a X.env)] := by rfl) : PDI c X tg (.Call (.Name "range" p) [a] [] pos) (iRg1 ts) := by
  refine ⟨pi_imp (pi_range1 hg hm ha.pa hs) fun σ H Rr ⟨G, ρ, b, S, q⟩ => ?_, fun ρ b Q Q' hh q => ha.mono _ _ _ _ (fun r b1 q1 => ?_) q⟩
  · refine ⟨G, ρ, b, S, ha.mono _ _ _ _ (fun rs b1 q1 G1 H1 vs fps g1 i1 k1 => ?_) q⟩
    split at q1
    · rename_i j
      obtain ⟨v, fp, rfl, k⟩ := rkAll1 k1
      refine ⟨j, by rw [dp_int k.dat], q1.1.1, q1.1.2, ?_⟩
      have := q1.2 G1 H1 (Itr 0 (j - 0).toNat) g1 i1 yl_range
      rw [Int.sub_zero] at this
      exact this
    · exact q1.elim
  · split at q1
    · exact ⟨q1.1, hh _ _ q1.2⟩
    · exact q1
theorem pdi_range2 {p : Pos} (hg : Gl X "range") (hm : X.mg "range" = none) (ha : PDA c X [a, b] ts) (hs : starEach [a, b] X.env = [(false, eval a X.env), (false, eval b X.env)] := by rfl) (hs2 : starEach [b] X.env = [(false, eval b X.env)] := by rfl) : PDI c X tg (.Call (.Name "range" p) [a, b] [] pos) (iRg2 ts) := by
  refine ⟨pi_imp (pi_range2 hg hm ha.pa hs hs2) fun σ H Rr ⟨G, ρ, b, S, q⟩ => ?_, fun ρ b Q Q' hh q => ha.mono _ _ _ _ (fun r b1 q1 => ?_) q⟩
  · refine ⟨G, ρ, b, S, ha.mono _ _ _ _ (fun rs b1 q1 G1 H1 vs fps g1 i1 k1 => ?_) q⟩
    split at q1
    · rename_i i j
      obtain ⟨v, v', fp, fp', rfl, k, k'⟩ := rkAll2 k1
      exact ⟨i, j, by rw [dp_int k.dat, dp_int k'.dat], q1.1, q1.2 G1 H1 _ g1 i1 yl_range⟩
    · exact q1.elim
  · split at q1
    · exact ⟨q1.1, hh _ _ q1.2⟩
    · exact q1
def iEnumL (t : AW) : IW := fun ρ b Q => t ρ b fun rs b1 => match rs with
  | [.d (.list xs)] => Q (enumD 0 xs) b1
  | _ => False
theorem pdi_enumL {p tpos : Pos} {elts : List Expr} {kk : Nat} (hg : Gl X "enumerate") (hm : X.mg "enumerate" = none) (ha : PDA c X [e] ts) (hs : starEach [e] X.env = [(false, eval e X.env)] := by rfl) (fit : Fit c X := by exact {}) : PDI c X (.Tuple elts kk tpos) (.Call (.Name "enumerate" p) [e] [] pos) (iEnumL ts) := by
  refine ⟨pi_imp (pi_enum hg hm ha.pa hs) fun σ H Rr ⟨G, ρ, b, S, q⟩ => ?_, fun ρ b Q Q' hh q => ha.mono _ _ _ _ (fun r b1 q1 => ?_) q⟩
  · refine ⟨G, ρ, b, S, ha.mono _ _ _ _ (fun rs b1 q1 G1 H1 vs fps g1 i1 k1 => ?_) q⟩
    rw [fit.k]
    split at q1
    · obtain ⟨v, fp, rfl, k⟩ := rkAll1 k1
      obtain ⟨l, vs, rfl, h1, h2⟩ := dp_lst k.dat
      exact ⟨l, vs, rfl, g1.sub.seq h1, q1 G1 H1 _ g1 i1 (yl_enumL h1 h2)⟩
    · exact q1.elim
  · split at q1
    · exact hh _ _ q1
    · exact q1

/-! ### for, while -/
def forD (g : GW) (s : SW) : List PyData → SW
  | [] => fun ρ b Q => Q (.nx ρ) b
  | x :: xs => fun ρ b Q => g x ρ b fun ρ1 b1 => s ρ1 b1 fun o b2 => match o with
    | .nx ρ2 => forD g s xs ρ2 b2 Q
    | .ct ρ2 => forD g s xs ρ2 b2 Q
    | .bk ρ2 => Q (.nx ρ2) b2
    | .rt d => Q (.rt d) b2
def sFor (iw : IW) (g : GW) (s : SW) : SW := fun ρ b Q => iw ρ b fun xs b1 => forD g s xs ρ b1 Q
theorem forD_mono {g : GW} (mg : ∀ d ρ b (Q Q' : DRho → Nat → Prop), (∀ ρ' b', Q ρ' b' → Q' ρ' b') → g d ρ b Q → g d ρ b Q') (ms : SMono sa) : ∀ xs, SMono (forD g sa xs)
  | [] => fun ρ b Q Q' h q => h _ _ q
  | x :: xs => fun ρ b Q Q' h q => mg _ _ _ _ _ (fun ρ1 b1 q1 => ms _ _ _ _ (fun o b2 q2 => by
    cases o with
    | nx ρ2 => exact forD_mono mg ms xs _ _ _ _ h q2
    | ct ρ2 => exact forD_mono mg ms xs _ _ _ _ h q2
    | bk ρ2 => exact h _ _ q2
    | rt d => exact h _ _ q2) q1) q
theorem pds_for {g : GW} (hp : PassesOwn (model X.prog X.w) X.A X.env X.xe) (hc : X.calm = true) (hi : PDI c X tg e iw) (hg : PDG c X tg g) (hb : PDB c X sts sa)
    (hs : ∀ x, foldedSetIterable e X.env x = pure x := by intro _; rfl) : PDS c X (.For tg e sts [] pos) (sFor iw g sa) := by
  refine ⟨ps_imp (ps_for hp hc hi.pi hg.pg hb.ps hs) fun D σ H ⟨G, ρ, b, S, q⟩ => ?_, fun ρ b Q Q' hh q => hi.mono _ _ _ _ (fun xs b1 q1 => forD_mono hg.mono hb.mono xs _ _ _ _ hh q1) q⟩
  refine ⟨G, ρ, b, S, hi.mono _ _ _ _ (fun xs b1 q1 G1 H1 J g1 i1 y => ?_) q⟩
  refine ⟨fun i m σ' H' => m = xs.length - i ∧ i ≤ xs.length ∧ ∃ G' ρ' b', Same G1 G' ∧ DState c b' G' H' σ' ρ' ∧ forD g sa (xs.drop i) ρ' b' (OutP c G D), ⟨xs.length, by simp, Nat.zero_le _, G1, ρ, b1, .refl _, S.grow g1 i1, q1⟩, ?_⟩
  rintro i m σ' H' ⟨rfl, hi', G', ρ', b', s1, S', q'⟩
  by_cases hlt : i < xs.length
  · refine .inr ⟨y.go i G' H' s1 S'.sub hlt, fun σ'' H'' => ∃ G'' ρ'' b'', Same G1 G'' ∧ DState c b'' G'' H'' σ'' ρ'' ∧ forD g sa (xs.drop (i + 1)) ρ'' b'' (OutP c G D), fun σ'' H'' z => ⟨xs.length - (i + 1), by omega, rfl, hlt, z⟩, fun x H'' hy => ?_⟩
    rw [List.drop_eq_getElem_cons hlt] at q'
    obtain ⟨G2, gr, kd⟩ := y.yld i G' H' x H'' xs[i] s1 S'.sub (List.getElem?_eq_getElem hlt) hy
    refine ⟨G2, ρ', b', xs[i], S'.grow gr.go (S'.inv.same gr.keep), kd, hg.mono _ _ _ _ _ (fun ρ1 b2 q2 σ3 G3 H3 s3 S3 => ?_) q'⟩
    refine ⟨G3, ρ1, b2, S3, hb.mono _ _ _ _ (fun o b3 q3 => ?_) q2⟩
    have s5 : Same G1 G3 := (s1.trans gr.gg).trans s3
    cases o with
    | nx ρ2 => exact fun σ4 G4 H4 s4 S4 => ⟨G4, ρ2, b3, s5.trans s4, S4, q3⟩
    | ct ρ2 => exact fun σ4 G4 H4 s4 S4 => ⟨G4, ρ2, b3, s5.trans s4, S4, q3⟩
    | bk ρ2 => exact fun σ4 G4 H4 s4 S4 => q3 σ4 G4 H4 (g1.gg.trans (s5.trans s4)) S4
    | rt d => exact q3
  · have e : i = xs.length := by omega
    subst e
    rw [List.drop_length] at q'
    exact .inl ⟨y.stop _ G' H' s1 S'.sub (Nat.le_refl _), q' σ' G' H' (g1.gg.trans s1) S'⟩
def whD (t : TW) (s : SW) : Nat → SW
  | 0 => fun _ _ _ => False
  | n + 1 => fun ρ b Q => t ρ b fun k b1 => if k = true then s ρ b1 fun o b2 => (match o with
    | .nx ρ2 => whD t s n ρ2 b2 Q
    | .ct ρ2 => whD t s n ρ2 b2 Q
    | .bk ρ2 => Q (.nx ρ2) b2
    | .rt d => Q (.rt d) b2) else Q (.nx ρ) b1
def sWhile (t : TW) (s : SW) : SW := fun ρ b Q => ∃ n, whD t s n ρ b Q
theorem whD_mono (mt : TMono ua) (ms : SMono sa) : ∀ n, SMono (whD ua sa n)
  | 0 => fun ρ b Q Q' h q => q
  | n + 1 => fun ρ b Q Q' h q => mt _ _ _ _ (fun k b1 q1 => by
    cases k
    · rw [if_neg Bool.false_ne_true] at q1 ⊢; exact h _ _ q1
    · rw [if_pos rfl] at q1 ⊢
      exact ms _ _ _ _ (fun o b2 q2 => by
        cases o with
        | nx ρ2 => exact whD_mono mt ms n _ _ _ _ h q2
        | ct ρ2 => exact whD_mono mt ms n _ _ _ _ h q2
        | bk ρ2 => exact h _ _ q2
        | rt d => exact h _ _ q2) q1) q
theorem pds_while (hp : PassesOwn (model X.prog X.w) X.A X.env X.xe) (ht : PDT c X e ua) (hb : PDB c X sts sa) : PDS c X (.While e sts [] pos) (sWhile ua sa) := by
  refine ⟨ps_imp (ps_while hp ht.pt hb.ps) fun D σ H ⟨G, ρ, b, S, n, q⟩ => ?_, fun ρ b Q Q' hh ⟨n, q⟩ => ⟨n, whD_mono ht.mono hb.mono n _ _ _ _ hh q⟩⟩
  refine ⟨fun m σ' H' => ∃ G' ρ' b', Same G G' ∧ DState c b' G' H' σ' ρ' ∧ whD ua sa m ρ' b' (OutP c G D), ⟨n, G, ρ, b, .refl _, S, q⟩, ?_⟩
  rintro m σ' H' ⟨G', ρ', b', s1, S', q'⟩
  cases m with
  | zero => exact q'.elim
  | succ m =>
    refine ⟨G', ρ', b', S', ht.mono _ _ _ _ (fun k b1 q1 G1 H1 g1 i1 => ?_) q'⟩
    cases k
    · rw [if_neg Bool.false_ne_true] at q1 ⊢
      exact q1 σ' G1 H1 (s1.trans g1.gg) (S'.grow g1 i1)
    · rw [if_pos rfl] at q1 ⊢
      refine ⟨fun σ'' H'' => ∃ G'' ρ'' b'', Same G G'' ∧ DState c b'' G'' H'' σ'' ρ'' ∧ whD ua sa m ρ'' b'' (OutP c G D), fun σ'' H'' z => ⟨m, Nat.lt_succ_self _, z⟩, G1, ρ', b1, S'.grow g1 i1, hb.mono _ _ _ _ (fun o b3 q3 => ?_) q1⟩
      cases o with
      | nx ρ2 => exact fun σ4 G4 H4 s4 S4 => ⟨G4, ρ2, b3, (s1.trans g1.gg).trans s4, S4, q3⟩
      | ct ρ2 => exact fun σ4 G4 H4 s4 S4 => ⟨G4, ρ2, b3, (s1.trans g1.gg).trans s4, S4, q3⟩
      | bk ρ2 => exact fun σ4 G4 H4 s4 S4 => q3 σ4 G4 H4 ((s1.trans g1.gg).trans s4) S4
      | rt d => exact q3

/-! ### comprehensions -/
/-- the target of a comprehension: one name, or a tuple of names -/
def tgD (g : Sum Nat (List Nat)) (x : PyData) (ρ : DRho) : Option DRho := match g with
  | .inl i => some (ρ.set i (some (.d x)))
  | .inr is => match x with
    | .tuple ds => if ds.length = is.length then some (setAll ρ is (ds.map R.d)) else none
    | _ => none
def wipeR (ρ : DRho) : List Nat → DRho
  | [] => ρ
  | v :: vs => (wipeR ρ vs).set v none
def tgT (K : PySem.W.Frag) (g : Sum Nat (List Nat)) : TG := match g with
  | .inl i => gName i
  | .inr is => gTup K is.length (gNames is)
def tgIn (g : Sum Nat (List Nat)) (vs : List Nat) : Bool := match g with
  | .inl i => vs.contains i
  | .inr is => is.all vs.contains
def uTrue : TW := fun _ b Q => Q true b
def cmpD (g : Sum Nat (List Nat)) (tw : TW) (te : EW) (ρ : DRho) : List PyData → Nat → List PyData → (List PyData → Nat → Prop) → Prop
  | [], b, acc, Q => Q acc b
  | x :: xs, b, acc, Q => lft (tgD g x ρ) fun ρ1 => tw ρ1 b fun k b1 => if k = true then te ρ1 b1 fun r b2 => match r with
      | .d y => acc.length < sizeLine ∧ cmpD g tw te ρ xs b2 (acc ++ [y]) Q
      | _ => False
    else cmpD g tw te ρ xs b1 acc Q
def eComp (vs : List Nat) (iw : IW) (g : Sum Nat (List Nat)) (tw : TW) (te : EW) : EW := fun ρ b Q => iw ρ b fun xs b1 => cmpD g tw te (wipeR ρ vs) xs b1 [] fun ys b2 => Q (.o true ys) b2
theorem cmpD_mono {g : Sum Nat (List Nat)} {ρ : DRho} (mt : TMono ua) (me : EMono ta) : ∀ (xs : List PyData) (b : Nat) (acc : List PyData) (Q Q' : List PyData → Nat → Prop), (∀ ys b', Q ys b' → Q' ys b') → cmpD g ua ta ρ xs b acc Q → cmpD g ua ta ρ xs b acc Q'
  | [], b, acc, Q, Q', h, q => h _ _ q
  | x :: xs, b, acc, Q, Q', h, q => lft_mono (fun ρ1 q0 => mt _ _ _ _ (fun k b1 q1 => by
    cases k
    · rw [if_neg Bool.false_ne_true] at q1 ⊢; exact cmpD_mono mt me xs _ _ _ _ h q1
    · rw [if_pos rfl] at q1 ⊢
      exact me _ _ _ _ (fun r b2 q2 => by
        split at q2
        · exact ⟨q2.1, cmpD_mono mt me xs _ _ _ _ h q2.2⟩
        · exact q2) q1) q0) q
theorem wipe_set (σ : L2.St) : ∀ (vs : List Nat) (i : Nat) (o : Option V), i ∈ vs → wipe (σ.set i o) vs = wipe σ vs
  | [], i, o, h => nomatch h
  | v :: vs, i, o, h => by
    unfold wipe
    by_cases hv : i ∈ vs
    · rw [wipe_set σ vs i o hv]
    · have e : i = v := by
        rcases List.mem_cons.mp h with q | q
        · exact q
        · exact absurd q hv
      subst e
      have key : ∀ (ws : List Nat), i ∉ ws → wipe (σ.set i o) ws = (wipe σ ws).set i o := by
        intro ws
        induction ws with
        | nil => intro _; rfl
        | cons w ws ih =>
          intro hw
          unfold wipe
          rw [ih fun z => hw (List.mem_cons_of_mem _ z), List.set_comm]
          exact fun z => hw (by rw [z]; exact List.mem_cons_self)
      rw [key vs hv, List.set_set]
theorem wipe_wipe (σ : L2.St) (vs : List Nat) : ∀ ws : List Nat, (∀ w ∈ ws, w ∈ vs) → wipe (wipe σ ws) vs = wipe σ vs
  | [], _ => rfl
  | w :: ws, h => by
    show wipe ((wipe σ ws).set w none) vs = _
    rw [wipe_set _ _ _ _ (h w List.mem_cons_self)]
    exact wipe_wipe σ vs ws fun z hz => h z (List.mem_cons_of_mem _ hz)
theorem wipe_setAll (vs : List Nat) : ∀ (is : List Nat) (ws : List V) (σ : L2.St), (∀ i ∈ is, i ∈ vs) → wipe (setAllV σ is ws) vs = wipe σ vs
  | [], ws, σ, _ => by cases ws <;> rfl
  | i :: is, [], σ, _ => rfl
  | i :: is, w :: ws, σ, h => by
    show wipe (setAllV (σ.set i (some w)) is ws) vs = _
    rw [wipe_setAll vs is ws _ fun z hz => h z (List.mem_cons_of_mem _ hz), wipe_set _ _ _ _ (h i List.mem_cons_self)]
theorem slots_wipe {G H : Hp} {σ : L2.St} {ρ : DRho} {fps : Nat → List Addr} (s : DSlots c G H σ ρ fps) : ∀ vs : List Nat, DSlots c G H (wipe σ vs) (wipeR ρ vs) fps
  | [] => s
  | v :: vs => (slots_wipe s vs).drop v none
theorem wipeR_length (ρ : DRho) : ∀ vs : List Nat, (wipeR ρ vs).length = ρ.length
  | [] => rfl
  | v :: vs => by unfold wipeR; rw [List.length_set, wipeR_length ρ vs]
theorem DState.wipe {bb : Nat} {G H : Hp} {σ : L2.St} {ρ : DRho} (S : DState c bb G H σ ρ) (vs : List Nat) : DState c bb G H (L2.wipe σ vs) (wipeR ρ vs) :=
  ⟨S.ok, S.go, S.inv, by rw [wipeR_length, wipe_length]; exact S.len, let ⟨fps, s⟩ := S.ex; ⟨fps, slots_wipe s vs⟩⟩
theorem putAllD {G H : Hp} : ∀ {is : List Nat} {ds : List PyData} {ws : List V} {bb : Nat} {σ : L2.St} {ρ : DRho}, DState c bb G H σ ρ → DpAll c.K G ws ds → DState c bb G H (setAllV σ is ws) (setAll ρ is (ds.map R.d))
  | [], ds, ws, bb, σ, ρ, S, k => by cases ds <;> cases ws <;> exact S
  | i :: is, [], ws, bb, σ, ρ, S, k => by cases k; exact S
  | i :: is, d :: ds, ws, bb, σ, ρ, S, k => by
    cases k with
    | @cons v0 _ _ _ k1 k2 =>
      show DState c bb G H (setAllV (σ.set i (some v0)) is _) (setAll (ρ.set i (some (.d d))) is (ds.map R.d))
      exact putAllD (S.putD k1) k2
/-- the target's store within the block -/
theorem tg_w {K : PySem.W.Frag} (ek : K = c.K) {g : Sum Nat (List Nat)} {vs : List Nat} (hin : tgIn g vs = true) {bb : Nat} {G H : Hp} {σ : L2.St} {ρ ρ1 : DRho} {x : V} {d : PyData} (S : DState c bb G H σ ρ) (k : Dp c.K G x d) (e : tgD g d ρ = some ρ1) {Q : L2.St → Hp → Prop}
    (h : ∀ σ2, DState c bb G H σ2 ρ1 → L2.wipe σ2 vs = L2.wipe σ vs → Q σ2 H) : tgT K g x σ H Q := by
  cases g with
  | inl i =>
    cases e
    exact h _ (S.putD k) (wipe_set _ _ _ _ (by simpa [tgIn] using hin))
  | inr is =>
    unfold tgD at e
    cases d with
    | tuple ds =>
      by_cases hl : ds.length = is.length
      · simp only [hl, if_true] at e
        cases e
        obtain ⟨a, ws, e1, hq, ha⟩ := dp_tup k
        refine ⟨a, ws, e1, by rw [ek]; exact sqT_mono S.sub hq, (dpAll_length ha).trans hl, gNames_of ((dpAll_length ha).trans hl) ?_⟩
        refine h _ (putAllD S ha) (wipe_setAll _ _ _ _ fun i hi => ?_)
        have := List.all_eq_true.mp hin i hi
        simpa using this
      · simp [hl] at e
    | _ => cases e
theorem wipe_idem (σ : L2.St) (vs : List Nat) : L2.wipe (L2.wipe σ vs) vs = L2.wipe σ vs := wipe_wipe σ vs vs fun _ h => h
theorem inv_upd {md : Md} {b : Nat} {H : Hp} {l : Addr} {o : HO} (h : md.I b H) (n : ¬ md.has l) : md.I b (upd H l o) := by
  cases md with
  | pure => exact trivial
  | m a cl gl =>
    obtain ⟨ne, n', cells, great, h1, h2, h3, r⟩ := h
    exact ⟨ne, n', cells, great, by rw [upd_ne (fun z => n (.inl z.symm))]; exact h1, by rw [upd_ne (fun z => n (.inr (.inl z.symm)))]; exact h2, by rw [upd_ne (fun z => n (.inr (.inr z.symm)))]; exact h3, r⟩
/-- the reading of a comprehension -/
theorem comp_w {K : PySem.W.Frag} (ek : K = c.K) {vs : List Nat} {g : Sum Nat (List Nat)} {tt : TT} (hin : tgIn g vs = true) (hi : ∀ ρ b (Q Q' : List PyData → Nat → Prop), (∀ x b', Q x b' → Q' x b') → iw ρ b Q → iw ρ b Q') (mt : TMono ua) (me : EMono ta)
    (ht : ∀ σ H Q, tT c ua σ H Q → tt σ H Q) {σ : L2.St} {H : Hp} {Q : VK} (q : tE c (eComp vs iw g ua ta) σ H Q) : tLc (tI c iw) (tgT K g) tt (tE c ta) vs σ H Q := by
  obtain ⟨G, ρ, b, S, q⟩ := q
  refine ⟨G, ρ, b, S, hi _ _ _ _ (fun xs b1 q1 G1 H1 J g1 i1 y D hD => ?_) q⟩
  have S1 : DState c b1 G1 H1 σ ρ := S.grow g1 i1
  have gD : G1 D = none := g1.sub.free hD
  have h0D : c.H0 D = none := S1.here hD
  have nmD : ∀ {l}, c.md.has l → l ≠ D := fun hl z => (S.ok _ hl).1 (by rw [z]; exact h0D)
  refine ⟨fun i m H' => m = xs.length - i ∧ i ≤ xs.length ∧ ∃ G' b' accV acc, Go c G1 H1 G' H' ∧ c.md.I b' H' ∧ H' D = some (.lst accV) ∧ G' D = none ∧ DpAll c.K G' accV acc ∧ cmpD g ua ta (wipeR ρ vs) (xs.drop i) b' acc (fun ys b2 => EPost c G H Q (.o true ys) b2),
    ⟨xs.length, by simp, Nat.zero_le _, G1, b1, [], [], (Grow.new g1.sub hD).go, i1.same (same_new hD), upd_same, gD, .nil, q1⟩, ?_⟩
  rintro i m H' ⟨rfl, hi', G', b', accV, acc, g2, i2, eD, gD', ka, q'⟩
  by_cases hlt : i < xs.length
  · refine .inr ⟨y.go i G' H' g2.gg g2.sub hlt, fun H'' => ∃ G' b' accV acc, Go c G1 H1 G' H'' ∧ c.md.I b' H'' ∧ H'' D = some (.lst accV) ∧ G' D = none ∧ DpAll c.K G' accV acc ∧ cmpD g ua ta (wipeR ρ vs) (xs.drop (i + 1)) b' acc (fun ys b2 => EPost c G H Q (.o true ys) b2),
      fun H'' z => ⟨xs.length - (i + 1), by omega, rfl, hlt, z⟩, fun x H'' hy => ?_⟩
    rw [List.drop_eq_getElem_cons hlt] at q'
    obtain ⟨G2, gr, kd⟩ := y.yld i G' H' x H'' xs[i] g2.gg g2.sub (List.getElem?_eq_getElem hlt) hy
    have g3 : Go c G1 H1 G2 H'' := g2.trans gr.go
    have i3 : c.md.I b' H'' := i2.same gr.keep
    have S3 : DState c b' G2 H'' (L2.wipe σ vs) (wipeR ρ vs) := (S1.wipe vs).grow g3 i3
    obtain ⟨ρ1, et, q2⟩ := lft_ex q'
    refine tg_w ek hin S3 kd et fun σ2 S4 hw => ⟨by rw [hw, wipe_idem], ?_⟩
    refine ht _ _ _ ⟨G2, ρ1, b', S4, mt _ _ _ _ (fun k b4 q3 G5 H5 g5 i5 => ?_) q2⟩
    have eD5 : H5 D = some (.lst accV) := g5.keep D _ (fun z => nmD z rfl) (gr.keep D _ eD)
    have gD2 : G2 D = none := (gr.fz D (by rw [eD]; exact fun z => nomatch z)).trans gD'
    have gD5 : G5 D = none := (g5.fz D (by rw [gr.keep D _ eD]; exact fun z => nomatch z)).trans gD2
    cases k
    · rw [if_neg Bool.false_ne_true] at q3
      refine iteF ?_
      exact ⟨G5, b4, accV, acc, g3.trans g5, i5, eD5, gD5, dpAll_mono (gr.gg.trans g5.gg) _ _ ka, q3⟩
    · rw [if_pos rfl] at q3
      refine iteT ?_
      refine ⟨G5, ρ1, b4, S4.grow g5 i5, me _ _ _ _ (fun r b6 q6 G6 H6 v fp g6 i6 k6 _ => ?_) q3⟩
      split at q6
      · rename_i y0 _
        have eD6 : H6 D = some (.lst accV) := g6.keep D _ (fun z => nmD z rfl) eD5
        have gD6 : G6 D = none := (g6.fz D (by rw [eD5]; exact fun z => nomatch z)).trans gD5
        have g7 : Go c G1 H1 G6 H6 := (g3.trans g5).trans g6
        have ka6 : DpAll c.K G6 accV acc := dpAll_mono ((gr.gg.trans g5.gg).trans g6.gg) _ _ ka
        refine ⟨accV, eD6, by rw [dpAll_length ka6]; exact q6.1, G6, b6, accV ++ [v], acc ++ [y0], ⟨fun l o n e => ?_, fun l e => ?_, g7.gg, same_put g7.sub gD6, g7.fz⟩, inv_upd i6 (fun z => nmD z rfl), upd_same, gD6, dpAll_append ka6 (.cons k6.dat .nil), q6.2⟩
        · have : l ≠ D := ne_of_none e hD
          rw [upd_ne this]; exact g7.keep l o n e
        · have : l ≠ D := fun z => by rw [z, upd_same] at e; cases e
          rw [upd_ne this] at e; exact g7.dom l e
      · exact q6.elim
  · have e : i = xs.length := by omega
    subst e
    rw [List.drop_length] at q'
    refine .inl ⟨y.stop _ G' H' g2.gg g2.sub (Nat.le_refl _), ?_⟩
    refine q' G' H' (.ref D) [D] (g1.trans g2) i2 ⟨fun z hz => ?_, by simp, D, accV, rfl, rfl, eD, ka⟩ (fr_one (g1.dom D hD))
    have : z = D := by simpa using hz
    subst this
    exact ⟨gD', h0D, by rw [eD]; exact fun z => nomatch z⟩
theorem eComp_mono {vs : List Nat} {g : Sum Nat (List Nat)} (hi : ∀ ρ b (Q Q' : List PyData → Nat → Prop), (∀ x b', Q x b' → Q' x b') → iw ρ b Q → iw ρ b Q') (mt : TMono ua) (me : EMono ta) : EMono (eComp vs iw g ua ta) := fun ρ b Q Q' h q =>
  hi _ _ _ _ (fun xs b1 q1 => cmpD_mono mt me xs _ _ _ _ (fun ys b2 => h _ _) q1) q
theorem uTrue_mono : TMono uTrue := fun ρ b Q Q' h q => h _ _ q
theorem uTrue_w : ∀ σ H Q, tT c uTrue σ H Q → tYes σ H Q := fun σ H Q ⟨G, ρ, b, S, q⟩ => q G H (Go.refl S.sub) S.inv
/-- a def by its body -/
def rho0 (N : List Str) (rs : List R) : DRho := rs.map some ++ List.replicate (N.length - rs.length) none
def endD (Q : PyData → Nat → Prop) : Out → Nat → Prop := fun o b => match o with
  | .rt d => Q d b
  | .nx _ => Q .none b
  | _ => False
theorem start_state {P : Program} {w : World} {K : PySem.W.Frag} {N : List Str} {md : Md} {G H : Hp} {bb : Nat} {vs : List V} {rs : List R} (s : Same G H) (ok : Ct.Ok ⟨K, P, w, md, G, H⟩) (i : md.I bb H) (k : RkL ⟨K, P, w, md, G, H⟩ G H vs rs) (hn : noL rs = true) : DState ⟨K, P, w, md, G, H⟩ bb G H (start N vs) (rho0 N rs) := by
  have hl := k.length
  refine ⟨ok, Go.refl s, i, by unfold start rho0; simp [hl], fun _ => [], fun j r e => ?_, fun _ _ _ _ _ _ _ z hz => nomatch hz⟩
  have key : ∀ {vs : List V} {rs : List R} {m : Nat}, RkL ⟨K, P, w, md, G, H⟩ G H vs rs → noL rs = true → ∀ (j : Nat) r, (rs.map some ++ List.replicate m none)[j]? = some (some r) → ∃ v, (vs.map some ++ List.replicate m none)[j]? = some (some v) ∧ Rk ⟨K, P, w, md, G, H⟩ G H v r [] := by
    intro vs rs m k
    induction k with
    | nil =>
      intro _ j r e
      rw [List.map_nil, List.nil_append, List.getElem?_replicate] at e
      split at e <;> cases e
    | @cons v vs r0 rs fp k t ih =>
      intro hn j r e
      unfold noL at hn
      rw [List.all_cons, Bool.and_eq_true] at hn
      cases j with
      | zero =>
        simp at e
        subst e
        refine ⟨v, by simp, ?_⟩
        have e2 : fp = [] := by
          cases r0 with
          | d x => exact k.is.1
          | m => exact k.is.1
          | o f xs => exact absurd hn.1 (by simp [noL1])
          | oo f xs => exact absurd hn.1 (by simp [noL1])
          | k f xs => exact absurd hn.1 (by simp [noL1])
        rw [← e2]; exact k
      | succ j =>
        obtain ⟨v', q1, q2⟩ := ih hn.2 j r (by simpa using e)
        exact ⟨v', by simpa using q1, q2⟩
  unfold rho0 at e
  unfold start
  rw [hl]
  exact key k hn j r e
/-- THE RULE for a def -/
theorem fn_data {P : Program} {w : World} {K : PySem.W.Frag} {mg : Str → Option Value} {base : Heap} {x : Str} {st : Stmt} {f : Addr} {fd : FuncData} {N ps : List Str} {k : Nat} {pt : FW} (F : Fun K x x st f fd) (S : FnScope N ps (defScope st)) (hm : mg x = some (.ref f)) (hb : Binds K fd ps [])
    (mono : FMono pt) {t : SW}
    (body : ∀ (md : Md) (G : Hp) (cdv : Value) (A : Around) (outer : List Env) (s : Shared) (H : Hp) (E : XK), Room k (A.deeper (envOfC x (defScope st) s.heap.objs.size f cdv)) →
      PDB ⟨K, P, w, md, G, H⟩ (cxOf CX0 P w K mg base N x (defScope st) f cdv A outer s H E).nox (defBody st) t)
    (sem : ∀ rs b Q, rs.length = ps.length → pt rs b Q → t (rho0 N rs) b (endD Q)) : Can P w K mg base (k + 1) x ps pt := by
  refine ⟨⟨f, fd, hm, F.kp, hb, F.ok S (fun vs H Q E h => h.1) fun cdv A outer s H vs Q E hr h => ?_⟩, mono⟩
  obtain ⟨hl, md, G, b, rs, sub, ok, i, kk, hn, q⟩ := h
  have B := body md G cdv A outer s H E hr
  refine ⟨_, B.ps, G, rho0 N rs, b, start_state sub ok i kk hn, B.mono _ _ _ _ (fun o b' q1 => ?_) (sem rs b _ (by rw [← kk.length]; exact hl) q)⟩
  cases o with
  | rt d => exact fun G' H' v g i' kd => q1 G' H' v g i' kd
  | nx ρ => exact fun σ' G' H' s' S' => q1 G' H' .non S'.go S'.inv .non
  | bk ρ => exact False.elim q1
  | ct ρ => exact False.elim q1
end
end L2.U
/-! The data layer, part 6: operations by values. -/
namespace L2.U
open PySem PySem.Spec PyProof.Rows
section
variable {c : Ct} {X : Cx} {a b e e1 e2 e3 tg : Expr} {es : List Expr} {ta tb tc : EW} {ts : AW} {pos : Pos} {ua : TW}

/-! ### whole numbers -/
def vII (g : Int → Int → PyData) : R → R → Option R
  | .d (.int i), .d (.int j) => some (.d (g i j))
  | _, _ => none
def vIC (C : Int → Int → Bool) (g : Int → Int → PyData) : R → R → Option R
  | .d (.int i), .d (.int j) => if C i j = true then some (.d (g i j)) else none
  | _, _ => none
theorem lf_II {g : Int → Int → V} {gd : Int → Int → PyData} (hg : ∀ i j G, Dp c.K G (g i j) (gd i j)) : Lf2 c (rI0 g) (vII gd) := by
  intro G H x y rx ry fx fy rr Q sub hd kx ky e q
  unfold vII at e
  split at e
  · rename_i i j
    cases e
    exact ⟨i, j, dp_int kx.dat, dp_int ky.dat, q G H _ [] (Grow.refl sub) (rk_d (hg i j G)) fr_d⟩
  · cases e
theorem lf_IC {C : Int → Int → Prop} {B : Int → Int → Bool} {g : Int → Int → V} {gd : Int → Int → PyData} (hc : ∀ i j, B i j = true → C i j) (hg : ∀ i j G, Dp c.K G (g i j) (gd i j)) : Lf2 c (rI C g) (vIC B gd) := by
  intro G H x y rx ry fx fy rr Q sub hd kx ky e q
  unfold vIC at e
  split at e
  · rename_i i j
    split at e
    · rename_i h
      cases e
      exact ⟨i, j, dp_int kx.dat, dp_int ky.dat, hc i j h, q G H _ [] (Grow.refl sub) (rk_d (hg i j G)) fr_d⟩
    · cases e
  · cases e
def vAdd : R → R → Option R := vII fun i j => .int (i + j)
def vSub : R → R → Option R := vII fun i j => .int (i - j)
def smallB (i : Int) : Bool := decide (-(2 ^ 64) < i) && decide (i < 2 ^ 64)
def vMul : R → R → Option R := vIC (fun i j => smallB i || smallB j) fun i j => .int (i * j)
def vFdiv : R → R → Option R := vIC (fun _ j => decide (0 < j) && decide (j < 1073741824)) fun i j => .int (i / j)
def vMod : R → R → Option R := vIC (fun _ j => decide (0 < j)) fun i j => .int (i % j)
def vPow : R → R → Option R := vIC (fun i j => decide (0 ≤ j) && (decide (j ≤ 1000000) && decide (i.natAbs < 2 ^ 64))) fun i j => .int (i ^ j.toNat)
def vLt : R → R → Option R := vII fun i j => .bool (decide (i < j))
def vLe : R → R → Option R := vII fun i j => .bool (decide (i ≤ j))
def vGt : R → R → Option R := vII fun i j => .bool (decide (j < i))
def vGe : R → R → Option R := vII fun i j => .bool (decide (j ≤ i))
theorem pd_add (ha : PDE c X a ta) (hb : PDE c X b tb) : PDE c X (.BinOp a .Add b pos) (eOp vAdd ta tb) := pd_op op_add (lf_II fun i j G => .int _) ha hb
theorem pd_sub (ha : PDE c X a ta) (hb : PDE c X b tb) : PDE c X (.BinOp a .Sub b pos) (eOp vSub ta tb) := pd_op op_sub (lf_II fun i j G => .int _) ha hb
theorem small_ok {i : Int} (h : smallB i = true) : -(2 ^ 64) < i ∧ i < 2 ^ 64 := by
  unfold smallB at h
  rw [Bool.and_eq_true] at h
  exact ⟨of_decide_eq_true h.1, of_decide_eq_true h.2⟩
theorem pd_mul (ha : PDE c X a ta) (hb : PDE c X b tb) : PDE c X (.BinOp a .Mult b pos) (eOp vMul ta tb) := pd_op op_mul (lf_IC (fun i j h => by
  rw [Bool.or_eq_true] at h
  rcases h with h | h
  · exact .inl (small_ok h)
  · exact .inr (small_ok h)) fun i j G => .int _) ha hb
theorem pd_fdiv (ha : PDE c X a ta) (hb : PDE c X b tb) : PDE c X (.BinOp a .FloorDiv b pos) (eOp vFdiv ta tb) := pd_op op_fdiv (lf_IC (fun i j h => by
  rw [Bool.and_eq_true] at h
  exact ⟨of_decide_eq_true h.1, of_decide_eq_true h.2⟩) fun i j G => .int _) ha hb
theorem pd_mod (ha : PDE c X a ta) (hb : PDE c X b tb) : PDE c X (.BinOp a .Mod b pos) (eOp vMod ta tb) := pd_op op_mod (lf_IC (fun i j h => of_decide_eq_true h) fun i j G => .int _) ha hb
theorem pd_pow (ha : PDE c X a ta) (hb : PDE c X b tb) : PDE c X (.BinOp a .Pow b pos) (eOp vPow ta tb) := pd_op op_pow (lf_IC (fun i j h => by
  rw [Bool.and_eq_true, Bool.and_eq_true] at h
  exact ⟨of_decide_eq_true h.1, of_decide_eq_true h.2.1, of_decide_eq_true h.2.2⟩) fun i j G => .int _) ha hb
theorem pd_lt (ha : PDE c X a ta) (hb : PDE c X b tb) : PDE c X (.Compare a [.Lt] [b] pos) (eOp vLt ta tb) := pd_cmp op_lt (lf_II fun i j G => .bl _) ha hb (nomark _)
theorem pd_le (ha : PDE c X a ta) (hb : PDE c X b tb) : PDE c X (.Compare a [.LtE] [b] pos) (eOp vLe ta tb) := pd_cmp op_le (lf_II fun i j G => .bl _) ha hb (nomark _)
theorem pd_gt (ha : PDE c X a ta) (hb : PDE c X b tb) : PDE c X (.Compare a [.Gt] [b] pos) (eOp vGt ta tb) := pd_cmp op_gt (lf_II fun i j G => .bl _) ha hb (nomark _)
theorem pd_ge (ha : PDE c X a ta) (hb : PDE c X b tb) : PDE c X (.Compare a [.GtE] [b] pos) (eOp vGe ta tb) := pd_cmp op_ge (lf_II fun i j G => .bl _) ha hb (nomark _)
theorem pdt_lt (ha : PDE c X a ta) (hb : PDE c X b tb) : PDT c X (.Compare a [.Lt] [b] pos) (tVal (eOp vLt ta tb)) := pdt_cmp op_lt (lf_II fun i j G => .bl _) ha hb (nomark _)
theorem pdt_le (ha : PDE c X a ta) (hb : PDE c X b tb) : PDT c X (.Compare a [.LtE] [b] pos) (tVal (eOp vLe ta tb)) := pdt_cmp op_le (lf_II fun i j G => .bl _) ha hb (nomark _)
theorem pdt_gt (ha : PDE c X a ta) (hb : PDE c X b tb) : PDT c X (.Compare a [.Gt] [b] pos) (tVal (eOp vGt ta tb)) := pdt_cmp op_gt (lf_II fun i j G => .bl _) ha hb (nomark _)
theorem pdt_ge (ha : PDE c X a ta) (hb : PDE c X b tb) : PDT c X (.Compare a [.GtE] [b] pos) (tVal (eOp vGe ta tb)) := pdt_cmp op_ge (lf_II fun i j G => .bl _) ha hb (nomark _)
theorem pd_chainLL (ha : PDE c X a ta) (hb : PDE c X b tb) (hc : PDE c X e tc) (hm : lastMarks [CmpOp.LtE, CmpOp.LtE] [b, e] = false := by with_unfolding_all rfl) : PDE c X (.Compare a [.LtE, .LtE] [b, e] pos) (eChain vLe vLe ta tb tc) :=
  pd_chain op_le op_le (lf_II fun i j G => .bl _) (lf_II fun i j G => .bl _) ha hb hc (pe_chain op_le op_le ha.pe hb.pe hc.pe (hm := hm))
theorem pdt_chainLL (ha : PDE c X a ta) (hb : PDE c X b tb) (hc : PDE c X e tc) (hm : lastMarks [CmpOp.LtE, CmpOp.LtE] [b, e] = false := by with_unfolding_all rfl) : PDT c X (.Compare a [.LtE, .LtE] [b, e] pos) (tVal (eChain vLe vLe ta tb tc)) :=
  pdt_chain op_le op_le (lf_II fun i j G => .bl _) (lf_II fun i j G => .bl _) ha hb hc (pt_chain op_le op_le ha.pe hb.pe hc.pe (hm := hm))

/-! ### == of scalars, of data; is None -/
def vEqS : R → R → Option R
  | .d (.int i), .d (.int j) => some (.d (.bool (decide (i = j))))
  | .d (.str i), .d (.str j) => some (.d (.bool (decide (i = j))))
  | .d (.bool i), .d (.bool j) => some (.d (.bool (decide (i = j))))
  | _, _ => none
def vNeS : R → R → Option R
  | .d (.int i), .d (.int j) => some (.d (.bool (!decide (i = j))))
  | .d (.str i), .d (.str j) => some (.d (.bool (!decide (i = j))))
  | .d (.bool i), .d (.bool j) => some (.d (.bool (!decide (i = j))))
  | _, _ => none
theorem lf_EqS : Lf2 c rEq vEqS := by
  intro G H x y rx ry fx fy rr Q sub hd kx ky e q
  unfold vEqS at e
  split at e
  · rename_i i j; cases e; rw [dp_int kx.dat, dp_int ky.dat]
    have e : decide (V.int i = V.int j) = decide (i = j) := by rw [dec_int, Bool.eq_iff_iff]; simp
    exact ⟨rfl, by rw [e]; exact q G H _ [] (Grow.refl sub) (rk_d (.bl _)) fr_d⟩
  · rename_i i j; cases e; rw [dp_str kx.dat, dp_str ky.dat]
    have e : decide (V.str i = V.str j) = decide (i = j) := by rw [dec_str, Bool.eq_iff_iff]; simp
    exact ⟨rfl, by rw [e]; exact q G H _ [] (Grow.refl sub) (rk_d (.bl _)) fr_d⟩
  · rename_i i j; cases e; rw [dp_bool kx.dat, dp_bool ky.dat]
    have e : decide (V.bl i = V.bl j) = decide (i = j) := by rw [dec_bl, Bool.eq_iff_iff]; simp
    exact ⟨rfl, by rw [e]; exact q G H _ [] (Grow.refl sub) (rk_d (.bl _)) fr_d⟩
  · cases e
theorem lf_NeS : Lf2 c rNe vNeS := by
  intro G H x y rx ry fx fy rr Q sub hd kx ky e q
  unfold vNeS at e
  split at e
  · rename_i i j; cases e; rw [dp_int kx.dat, dp_int ky.dat]
    have e : decide (V.int i = V.int j) = decide (i = j) := by rw [dec_int, Bool.eq_iff_iff]; simp
    exact ⟨rfl, by rw [e]; exact q G H _ [] (Grow.refl sub) (rk_d (.bl _)) fr_d⟩
  · rename_i i j; cases e; rw [dp_str kx.dat, dp_str ky.dat]
    have e : decide (V.str i = V.str j) = decide (i = j) := by rw [dec_str, Bool.eq_iff_iff]; simp
    exact ⟨rfl, by rw [e]; exact q G H _ [] (Grow.refl sub) (rk_d (.bl _)) fr_d⟩
  · rename_i i j; cases e; rw [dp_bool kx.dat, dp_bool ky.dat]
    have e : decide (V.bl i = V.bl j) = decide (i = j) := by rw [dec_bl, Bool.eq_iff_iff]; simp
    exact ⟨rfl, by rw [e]; exact q G H _ [] (Grow.refl sub) (rk_d (.bl _)) fr_d⟩
  · cases e
theorem pd_eqS (ha : PDE c X a ta) (hb : PDE c X b tb) : PDE c X (.Compare a [.Eq] [b] pos) (eOp vEqS ta tb) := pd_cmp op_eq lf_EqS ha hb (nomark _)
theorem pdt_eqS (ha : PDE c X a ta) (hb : PDE c X b tb) : PDT c X (.Compare a [.Eq] [b] pos) (tVal (eOp vEqS ta tb)) := pdt_cmp op_eq lf_EqS ha hb (nomark _)
theorem pd_neS (ha : PDE c X a ta) (hb : PDE c X b tb) : PDE c X (.Compare a [.NotEq] [b] pos) (eOp vNeS ta tb) := pd_cmp op_ne lf_NeS ha hb (nomark _)
theorem pdt_neS (ha : PDE c X a ta) (hb : PDE c X b tb) : PDT c X (.Compare a [.NotEq] [b] pos) (tVal (eOp vNeS ta tb)) := pdt_cmp op_ne lf_NeS ha hb (nomark _)
/-- as data -/
def datR : R → Option PyData
  | .d x => some x
  | .o _ xs => some (.list xs)
  | _ => none
theorem datR_dp {G H : Hp} {v : V} {r : R} {fp : List Addr} {x : PyData} (s : Same G H) (k : Rk c G H v r fp) (e : datR r = some x) : Dp c.K H v x := by
  cases r with
  | d y => cases e; exact dp_mono s _ _ k.dat
  | o f xs =>
    cases e
    obtain ⟨l, vs, rfl, e2, e3, e4⟩ := k.is
    exact .lst (SqL.of e3) (dpAll_mono s _ _ e4)
  | _ => cases e
def vEqD (x y : R) : Option R := (datR x).bind fun a => (datR y).bind fun b => if (SeqAt.shaped a && SeqAt.shaped b) = true then some (.d (.bool (PyData.eqv a b))) else none
def vNeD (x y : R) : Option R := (datR x).bind fun a => (datR y).bind fun b => if (SeqAt.shaped a && SeqAt.shaped b) = true then some (.d (.bool (!PyData.eqv a b))) else none
theorem lf_EqD : Lf2 c (rEqD c.K) vEqD := by
  intro G H x y rx ry fx fy rr Q sub hd kx ky e q
  unfold vEqD at e
  obtain ⟨a, e1, e2⟩ := Option.bind_eq_some_iff.mp e
  obtain ⟨b, e3, e4⟩ := Option.bind_eq_some_iff.mp e2
  split at e4
  · rename_i h
    rw [Bool.and_eq_true] at h
    cases e4
    exact ⟨a, b, datR_dp sub kx e1, datR_dp sub ky e3, h.1, h.2, q G H _ [] (Grow.refl sub) (rk_d (.bl _)) fr_d⟩
  · cases e4
theorem lf_NeD : Lf2 c (rNeD c.K) vNeD := by
  intro G H x y rx ry fx fy rr Q sub hd kx ky e q
  unfold vNeD at e
  obtain ⟨a, e1, e2⟩ := Option.bind_eq_some_iff.mp e
  obtain ⟨b, e3, e4⟩ := Option.bind_eq_some_iff.mp e2
  split at e4
  · rename_i h
    rw [Bool.and_eq_true] at h
    cases e4
    exact ⟨a, b, datR_dp sub kx e1, datR_dp sub ky e3, h.1, h.2, q G H _ [] (Grow.refl sub) (rk_d (.bl _)) fr_d⟩
  · cases e4
theorem op_eqDc (hu : X.A.units + 64 < cLine) (fit : Fit c X) : OpR X (compareOp .Eq) (rEqD c.K) := by rw [← fit.k]; exact op_eqD hu
theorem op_neDc (hu : X.A.units + 64 < cLine) (fit : Fit c X) : OpR X (compareOp .NotEq) (rNeD c.K) := by rw [← fit.k]; exact op_neD hu
theorem pd_eqD (hu : X.A.units + 64 < cLine) (ha : PDE c X a ta) (hb : PDE c X b tb) (fit : Fit c X := by exact {}) : PDE c X (.Compare a [.Eq] [b] pos) (eOp vEqD ta tb) := pd_cmp (op_eqDc hu fit) lf_EqD ha hb (nomark _)
theorem pdt_eqD (hu : X.A.units + 64 < cLine) (ha : PDE c X a ta) (hb : PDE c X b tb) (fit : Fit c X := by exact {}) : PDT c X (.Compare a [.Eq] [b] pos) (tVal (eOp vEqD ta tb)) := pdt_cmp (op_eqDc hu fit) lf_EqD ha hb (nomark _)
theorem pd_neD (hu : X.A.units + 64 < cLine) (ha : PDE c X a ta) (hb : PDE c X b tb) (fit : Fit c X := by exact {}) : PDE c X (.Compare a [.NotEq] [b] pos) (eOp vNeD ta tb) := pd_cmp (op_neDc hu fit) lf_NeD ha hb (nomark _)
theorem pdt_neD (hu : X.A.units + 64 < cLine) (ha : PDE c X a ta) (hb : PDE c X b tb) (fit : Fit c X := by exact {}) : PDT c X (.Compare a [.NotEq] [b] pos) (tVal (eOp vNeD ta tb)) := pdt_cmp (op_neDc hu fit) lf_NeD ha hb (nomark _)
def isNo : PyData → Bool
  | .none => true
  | _ => false
def vIsN : R → R → Option R
  | .d x, .d .none => some (.d (.bool (isNo x)))
  | _, _ => none
def vNotN : R → R → Option R
  | .d x, .d .none => some (.d (.bool (!isNo x)))
  | _, _ => none
theorem isNo_dp {K : PySem.W.Frag} {G : Hp} {v : V} {x : PyData} (k : Dp K G v x) : decide (v = .non) = isNo x := by
  cases k <;> first | rfl | exact decide_eq_false (fun z => nomatch z)
theorem lf_IsN : Lf2 c (fun x y H Q => y = .non ∧ Q (.bl (decide (x = .non))) H) vIsN := by
  intro G H x y rx ry fx fy rr Q sub hd kx ky e q
  unfold vIsN at e
  split at e
  · cases e
    exact ⟨dp_non ky.dat, by rw [isNo_dp kx.dat]; exact q G H _ [] (Grow.refl sub) (rk_d (.bl _)) fr_d⟩
  · cases e
theorem lf_NotN : Lf2 c (fun x y H Q => y = .non ∧ Q (.bl (!decide (x = .non))) H) vNotN := by
  intro G H x y rx ry fx fy rr Q sub hd kx ky e q
  unfold vNotN at e
  split at e
  · cases e
    exact ⟨dp_non ky.dat, by rw [isNo_dp kx.dat]; exact q G H _ [] (Grow.refl sub) (rk_d (.bl _)) fr_d⟩
  · cases e
theorem pd_isN (ha : PDE c X a ta) (hb : PDE c X b tb) : PDE c X (.Compare a [.Is] [b] pos) (eOp vIsN ta tb) := pd_cmp op_isN lf_IsN ha hb (nomark _)
theorem pdt_isN (ha : PDE c X a ta) (hb : PDE c X b tb) : PDT c X (.Compare a [.Is] [b] pos) (tVal (eOp vIsN ta tb)) := pdt_cmp op_isN lf_IsN ha hb (nomark _)
theorem pd_notN (ha : PDE c X a ta) (hb : PDE c X b tb) : PDE c X (.Compare a [.IsNot] [b] pos) (eOp vNotN ta tb) := pd_cmp op_notN lf_NotN ha hb (nomark _)
theorem pdt_notN (ha : PDE c X a ta) (hb : PDE c X b tb) : PDT c X (.Compare a [.IsNot] [b] pos) (tVal (eOp vNotN ta tb)) := pdt_cmp op_notN lf_NotN ha hb (nomark _)
def vIsB : R → R → Option R
  | .d (.bool x), .d (.bool y) => some (.d (.bool (decide (x = y))))
  | _, _ => none
theorem lf_IsB : Lf2 c rIsB vIsB := by
  intro G H x y rx ry fx fy rr Q sub hd kx ky e q
  unfold vIsB at e
  split at e
  · cases e
    exact ⟨_, _, dp_bool kx.dat, dp_bool ky.dat, q G H _ [] (Grow.refl sub) (rk_d (.bl _)) fr_d⟩
  · cases e
theorem pd_isB (ha : PDE c X a ta) (hb : PDE c X b tb) : PDE c X (.Compare a [.Is] [b] pos) (eOp vIsB ta tb) := pd_cmp op_isBl lf_IsB ha hb (nomark _)

/-! ### items -/
def seqR : R → Option (List PyData)
  | .d (.tuple xs) => some xs
  | .d (.list xs) => some xs
  | .o _ xs => some xs
  | _ => none
def vIx : R → R → Option R
  | x, .d (.int i) => (seqR x).bind fun xs => (atI xs i).map R.d
  | _, _ => none
theorem seqR_ok {G H : Hp} {v : V} {r : R} {fp : List Addr} {xs : List PyData} (s : Same G H) (k : Rk c G H v r fp) (e : seqR r = some xs) : ∃ a vs, v = .ref a ∧ (SqL c.K H a vs ∨ SqT c.K H a vs) ∧ DpAll c.K G vs xs := by
  unfold seqR at e
  split at e
  · cases e; obtain ⟨a, vs, e1, h1, h2⟩ := dp_tup k.dat; exact ⟨a, vs, e1, .inr (sqT_mono s h1), h2⟩
  · cases e; obtain ⟨a, vs, e1, h1, h2⟩ := dp_lst k.dat; exact ⟨a, vs, e1, .inl (s.seq h1), h2⟩
  · cases e; obtain ⟨l, vs, e1, e2, e3, e4⟩ := k.is; exact ⟨l, vs, e1, .inl (SqL.of e3), e4⟩
  · cases e
theorem atI_dp {K : PySem.W.Frag} {G : Hp} {vs : List V} {xs : List PyData} {i : Int} {d : PyData} (k : DpAll K G vs xs) (e : atI xs i = some d) : ∃ v, atI vs i = some v ∧ Dp K G v d := by
  unfold atI at e ⊢
  obtain ⟨j, e1, e2⟩ := Option.bind_eq_some_iff.mp e
  obtain ⟨v, q1, q2⟩ := dpAll_get k e2
  exact ⟨v, by rw [dpAll_length k, e1]; exact q1, q2⟩
def rIxLT (K : PySem.W.Frag) : R2 := fun x y H Q => rIxL K x y H Q ∨ rIxT K x y H Q
theorem ix_lt (fit : Fit c X) : IxR X (rIxLT c.K) := by rw [← fit.k]; exact ix_list.or ix_tup
theorem lf_Ix : Lf2 c (rIxLT c.K) vIx := by
  intro G H x y rx ry fx fy rr Q sub hd kx ky e q
  unfold vIx at e
  split at e
  · rename_i i
    obtain ⟨xs, e1, e2⟩ := Option.bind_eq_some_iff.mp e
    obtain ⟨d, e3, rfl⟩ := Option.map_eq_some_iff.mp e2
    obtain ⟨p, vs, e4, h1, h2⟩ := seqR_ok sub kx e1
    obtain ⟨v, e5, kd⟩ := atI_dp h2 e3
    have fin := q G H v [] (Grow.refl sub) (rk_d kd) fr_d
    rcases h1 with h1 | h1
    · exact .inl ⟨p, vs, i, v, e4, dp_int ky.dat, h1, e5, fin⟩
    · exact .inr ⟨p, vs, i, v, e4, dp_int ky.dat, h1, e5, fin⟩
  · cases e
theorem pd_ix (ha : PDE c X a ta) (hb : PDE c X b tb) (hs : PlainIx b := by exact fun _ _ => rfl) (fit : Fit c X := by exact {}) : PDE c X (.Subscript a b pos) (eOp vIx ta tb) := pd_ix_ (ix_lt fit) lf_Ix ha hb hs

/-! ### slices -/
def partR : Option EW → DRho → Nat → (Option Int → Nat → Prop) → Prop
  | none => fun _ b Q => Q none b
  | some t => fun ρ b Q => t ρ b fun r b1 => match r with
    | .d (.int i) => Q (some i) b1
    | _ => False
structure PDO (c : Ct) (X : Cx) (e : Option Expr) (t : Option EW) : Prop where
  po : PO X e (fun σ H Q => ∃ G ρ b, DState c b G H σ ρ ∧ partR t ρ b fun o b' => ∀ G' H', Go c G H G' H' → c.md.I b' H' → Q o H')
  mono : ∀ ρ b (Q Q' : Option Int → Nat → Prop), (∀ o b', Q o b' → Q' o b') → partR t ρ b Q → partR t ρ b Q'
theorem po_imp {e : Option Expr} {t t' : TO} (h : PO X e t) (i : ∀ σ H Q, t' σ H Q → t σ H Q) : PO X e t' := by
  obtain ⟨h⟩ := h
  exact ⟨by first | exact fun pins s σ H Q I q => h pins s σ H Q I (i _ _ _ q) | exact fun s σ H Q pins I q => h s σ H Q pins I (i _ _ _ q)⟩
theorem pdo_none : PDO c X none none := ⟨po_imp po_none fun σ H Q ⟨G, ρ, b, S, q⟩ => q G H (Go.refl S.sub) S.inv, fun ρ b Q Q' h q => h _ _ q⟩
theorem pdo_some (h : PDE c X e ta) : PDO c X (some e) (some ta) := by
  refine ⟨po_imp (po_some h.pe) fun σ H Q ⟨G, ρ, b, S, q⟩ => ⟨G, ρ, b, S, h.mono _ _ _ _ (fun r b1 q1 G1 H1 v fp g1 i1 k1 _ => ?_) q⟩, fun ρ b Q Q' hh q => h.mono _ _ _ _ (fun r b1 q1 => ?_) q⟩
  · split at q1
    · exact ⟨_, dp_int k1.dat, q1 G1 H1 g1 i1⟩
    · exact q1.elim
  · split at q1
    · exact hh _ _ q1
    · exact q1
def cutD (xs : List PyData) (lo hi : Option Int) : List PyData := (xs.drop (HT.sIx xs.length 0 lo)).take (HT.sIx xs.length xs.length hi - HT.sIx xs.length 0 lo)
def eSl (f : R → Option Int → Option Int → Option R) (ta : EW) (tl th : Option EW) : EW := fun ρ b Q => ta ρ b fun x b1 => partR tl ρ b1 fun l b2 => partR th ρ b2 fun h b3 => lft (f x l h) fun r => Q r b3
def LfS (c : Ct) (rd : V → Option Int → Option Int → Hp → VK → Prop) (f : R → Option Int → Option Int → Option R) : Prop := ∀ (G H : Hp) (x : V) (rx : R) (fx : List Addr) (lo hi : Option Int) (rr : R) (Q : VK), Same G H → (∀ l, H l = none → c.H0 l = none) → Rk c G H x rx fx → f rx lo hi = some rr →
  (∀ G' H' v fp, Grow G H G' H' → Rk c G' H' v rr fp → Fr H rr fp → Q v H') → rd x lo hi H Q
theorem pd_sl {rd : V → Option Int → Option Int → Hp → VK → Prop} {f : R → Option Int → Option Int → Option R} {lo hi : Option Expr} {tl th : Option EW} {p2 : Pos} (hr : SlR X rd) (hl : LfS c rd f) (ha : PDE c X a ta) (hlo : PDO c X lo tl) (hhi : PDO c X hi th) : PDE c X (.Subscript a (.Slice lo hi none p2) pos) (eSl f ta tl th) := by
  refine ⟨pe_imp (pe_slice hr ha.pe hlo.po hhi.po) fun σ H Q ⟨G, ρ, b, S, q⟩ => ?_, fun ρ b Q Q' h q => ha.mono _ _ _ _ (fun x b1 q1 => hlo.mono _ _ _ _ (fun l b2 q2 => hhi.mono _ _ _ _ (fun u b3 q3 => lft_mono (fun _ => h _ _) q3) q2) q1) q⟩
  refine ⟨G, ρ, b, S, ha.mono _ _ _ _ (fun x b1 q1 G1 H1 v fp g1 i1 k1 _ => ?_) q⟩
  refine ⟨G1, ρ, b1, S.grow g1 i1, hlo.mono _ _ _ _ (fun l b2 q2 G2 H2 g2 i2 => ?_) q1⟩
  refine ⟨G2, ρ, b2, S.grow (g1.trans g2) i2, hhi.mono _ _ _ _ (fun u b3 q3 G3 H3 g3 i3 => ?_) q2⟩
  obtain ⟨r, e, q4⟩ := lft_ex q3
  have g : Go c G H G3 H3 := (g1.trans g2).trans g3
  refine hl G3 H3 v x fp l u r Q g3.sub (fun l z => S.here (g.dom l z)) ((k1.go S.ok g2).go S.ok g3) e fun G' H' w fw gr k fr => ?_
  exact q4 G' H' w fw (g.trans gr.go) (i3.same gr.keep) k (fr.back g.dom)
def vSlT (x : R) (lo hi : Option Int) : Option R := match x with
  | .d (.tuple xs) => some (.d (.tuple (cutD xs lo hi)))
  | _ => none
def vSlL (x : R) (lo hi : Option Int) : Option R := match x with
  | .d (.list xs) => some (.o true (cutD xs lo hi))
  | .o _ xs => some (.o true (cutD xs lo hi))
  | _ => none
theorem dpAll_cut {K : PySem.W.Frag} {G : Hp} {vs : List V} {xs : List PyData} (lo hi : Option Int) (k : DpAll K G vs xs) : DpAll K G (cutV vs lo hi) (cutD xs lo hi) := by
  unfold cutV cutD
  rw [dpAll_length k]
  exact dpAll_take _ (dpAll_drop _ k)
theorem lf_SlT : LfS c (rSlA c.K) vSlT := by
  intro G H x rx fx lo hi rr Q sub hd kx e q
  unfold vSlT at e
  split at e
  · rename_i xs
    cases e
    obtain ⟨p, vs, e1, h1, h2⟩ := dp_tup kx.dat
    have hl := dpAll_length h2
    refine ⟨p, vs, e1, sqT_mono sub h1, fun hw => ?_, fun hw z hz => ?_⟩
    · have e2 : cutD xs lo hi = xs := by
        unfold cutD
        rw [hl] at hw
        rw [hw.1, hw.2, List.drop_zero, Nat.sub_zero, List.take_length]
      rw [e2] at q
      exact q G H _ [] (Grow.refl sub) (rk_d (.tup h1 h2)) fr_d
    · have gr : Grow G H (upd G z (.tup (cutV vs lo hi))) (upd H z (.tup (cutV vs lo hi))) := Grow.tup sub hz
      exact q _ _ _ [] gr (rk_d (.tup (SqT.of upd_same) (dpAll_mono gr.gg _ _ (dpAll_cut lo hi h2)))) fr_d
  · cases e
theorem lf_SlL : LfS c (rSlL c.K) vSlL := by
  intro G H x rx fx lo hi rr Q sub hd kx e q
  have key : ∀ xs, seqR rx = some xs → (∃ p vs, x = .ref p ∧ SqL c.K H p vs ∧ DpAll c.K G vs xs) → rr = .o true (cutD xs lo hi) → rSlL c.K x lo hi H Q := by
    rintro xs _ ⟨p, vs, e1, h1, h2⟩ rfl
    refine ⟨p, vs, e1, h1, fun z hz => ?_⟩
    exact q G _ _ [z] (Grow.new sub hz) (rk_lst (sub.free hz) hz (hd z hz) (dpAll_cut lo hi h2)) (fr_one hz)
  unfold vSlL at e
  split at e
  · cases e
    obtain ⟨p, vs, e1, h1, h2⟩ := dp_lst kx.dat
    exact key _ rfl ⟨p, vs, e1, sub.seq h1, h2⟩ rfl
  · cases e
    obtain ⟨l, vs, e1, e2, e3, e4⟩ := kx.is
    exact key _ rfl ⟨l, vs, e1, SqL.of e3, e4⟩ rfl
  · cases e
theorem pd_slT {lo hi : Option Expr} {tl th : Option EW} {p2 : Pos} (ha : PDE c X a ta) (hlo : PDO c X lo tl) (hhi : PDO c X hi th) (fit : Fit c X := by exact {}) : PDE c X (.Subscript a (.Slice lo hi none p2) pos) (eSl vSlT ta tl th) := pd_sl (by rw [← fit.k]; exact sl_tupA) lf_SlT ha hlo hhi
theorem pd_slL {lo hi : Option Expr} {tl th : Option EW} {p2 : Pos} (ha : PDE c X a ta) (hlo : PDO c X lo tl) (hhi : PDO c X hi th) (fit : Fit c X := by exact {}) : PDE c X (.Subscript a (.Slice lo hi none p2) pos) (eSl vSlL ta tl th) := pd_sl (by rw [← fit.k]; exact sl_list) lf_SlL ha hlo hhi

/-! ### + of tuples, of lists; * -/
def vCatT : R → R → Option R
  | .d (.tuple xs), .d (.tuple ys) => if xs.length + ys.length ≤ 1000000 then some (.d (.tuple (xs ++ ys))) else none
  | _, _ => none
theorem lf_CatT : Lf2 c (rCatA c.K) vCatT := by
  intro G H x y rx ry fx fy rr Q sub hd kx ky e q
  unfold vCatT at e
  split at e
  · rename_i xs ys
    split at e
    · rename_i hz
      cases e
      obtain ⟨p, vs, e1, h1, h2⟩ := dp_tup kx.dat
      obtain ⟨p', ws, e1', h1', h2'⟩ := dp_tup ky.dat
      have hl := dpAll_length h2
      have hl' := dpAll_length h2'
      refine ⟨p, p', vs, ws, e1, e1', sqT_mono sub h1, sqT_mono sub h1', by rw [hl, hl', sizeLine_eq]; omega, fun z => ?_, fun z z' => ?_, fun z z' l hl0 => ?_⟩
      · have : xs = [] := List.length_eq_zero_iff.mp (by rw [← hl, z]; rfl)
        subst this
        exact q G H _ [] (Grow.refl sub) (rk_d (.tup h1' h2')) fr_d
      · have : ys = [] := List.length_eq_zero_iff.mp (by rw [← hl', z']; rfl)
        subst this
        rw [List.append_nil] at q
        exact q G H _ [] (Grow.refl sub) (rk_d (.tup h1 h2)) fr_d
      · have gr : Grow G H (upd G l (.tup (vs ++ ws))) (upd H l (.tup (vs ++ ws))) := Grow.tup sub hl0
        exact q _ _ _ [] gr (rk_d (.tup (SqT.of upd_same) (dpAll_mono gr.gg _ _ (dpAll_append h2 h2')))) fr_d
    · cases e
  · cases e
theorem pd_catT (ha : PDE c X a ta) (hb : PDE c X b tb) (fit : Fit c X := by exact {}) : PDE c X (.BinOp a .Add b pos) (eOp vCatT ta tb) := pd_op (by rw [← fit.k]; exact op_catA) lf_CatT ha hb
def vCatL : R → R → Option R
  | .o _ xs, .o _ ys => if xs.length + ys.length ≤ 1000000 then some (.o true (xs ++ ys)) else none
  | _, _ => none
theorem lf_CatL : Lf2 c rCat vCatL := by
  intro G H x y rx ry fx fy rr Q sub hd kx ky e q
  unfold vCatL at e
  split at e
  · rename_i f xs f' ys
    split at e
    · rename_i hz
      cases e
      obtain ⟨l, vs, e1, e2, e3, e4⟩ := kx.is
      obtain ⟨l', ws, e1', e2', e3', e4'⟩ := ky.is
      refine ⟨l, l', vs, ws, e1, e1', e3, e3', by rw [dpAll_length e4, dpAll_length e4', sizeLine_eq]; omega, fun z hz => ?_⟩
      exact q G _ _ [z] (Grow.new sub hz) (rk_lst (sub.free hz) hz (hd z hz) (dpAll_append e4 e4')) (fr_one hz)
    · cases e
  · cases e
theorem pd_catL (ha : PDE c X a ta) (hb : PDE c X b tb) : PDE c X (.BinOp a .Add b pos) (eOp vCatL ta tb) := pd_op op_cat lf_CatL ha hb
theorem dpAll_rep {K : PySem.W.Frag} {G : Hp} {vs : List V} {xs : List PyData} (k : DpAll K G vs xs) : ∀ n : Nat, DpAll K G (List.replicate n vs).flatten (List.replicate n xs).flatten
  | 0 => .nil
  | n + 1 => by
    rw [List.replicate_succ, List.replicate_succ, List.flatten_cons, List.flatten_cons]
    exact dpAll_append k (dpAll_rep k n)
def vRepL : R → R → Option R
  | .o _ xs, .d (.int k) => if (decide (0 ≤ k) && (decide (k ≤ 1000) && decide (xs.length ≤ 1000))) = true then some (.o true (List.replicate k.toNat xs).flatten) else none
  | _, _ => none
theorem pd_repL (ha : PDE c X a ta) (hb : PDE c X b tb) : PDE c X (.BinOp a .Mult b pos) (eOp vRepL ta tb) := pd_op op_rep (by
  intro G H x y rx ry fx fy rr Q sub hd kx ky e q
  unfold vRepL at e
  split at e
  · rename_i f xs k
    split at e
    · rename_i hz
      rw [Bool.and_eq_true, Bool.and_eq_true] at hz
      have h1 := of_decide_eq_true hz.1
      have h2 := of_decide_eq_true hz.2.1
      have h3 := of_decide_eq_true hz.2.2
      cases e
      obtain ⟨l, vs, e1, e2, e3, e4⟩ := kx.is
      have hlen := dpAll_length e4
      refine ⟨l, k, vs, e1, dp_int ky.dat, e3, by omega, by omega, ?_, ?_⟩
      · rw [hlen, sizeLine_eq]
        have a1 : xs.length * k.toNat ≤ 1000 * 1000 := Nat.mul_le_mul h3 (by omega)
        omega
      · first
          | exact fun z hz => q G _ _ [z] (Grow.new sub hz) (rk_lst (sub.free hz) hz (hd z hz) (dpAll_rep e4 k.toNat)) (fr_one hz)
    · cases e
  · cases e) ha hb
end
end L2.U
/-! The data layer, part 7: built-ins by values. -/
namespace L2.U
open PySem PySem.Spec PyProof.Rows
section
variable {c : Ct} {X : Cx} {a b e e1 e2 e3 tg : Expr} {es : List Expr} {ta tb tc : EW} {ts : AW} {pos : Pos} {ua : TW}
theorem rkL1 {G H : Hp} {vs : List V} {r : R} (h : RkL c G H vs [r]) : ∃ v fp, vs = [v] ∧ Rk c G H v r fp := by
  cases h with
  | cons k t => cases t; exact ⟨_, _, rfl, k⟩
theorem rkL2 {G H : Hp} {vs : List V} {r r' : R} (h : RkL c G H vs [r, r']) : ∃ v v' fp fp', vs = [v, v'] ∧ Rk c G H v r fp ∧ Rk c G H v' r' fp' := by
  cases h with
  | cons k t =>
    obtain ⟨v', fp', rfl, k'⟩ := rkL1 t
    exact ⟨_, _, _, _, rfl, k, k'⟩
def vLen : List R → Option R
  | [r] => match r with
    | .oo _ xs => some (.d (.int xs.length))
    | _ => (seqR r).map fun xs => .d (.int xs.length)
  | _ => none
theorem inner_length {K : PySem.W.Frag} {G H : Hp} : ∀ {ls : List Addr} {xss : List (List PyData)}, Inner K G H ls xss → ls.length = xss.length
  | [], _, h => by cases h; rfl
  | l :: ls, _, h => by cases h with | cons h1 h2 h3 => simp [inner_length h3]
theorem lf_len : LfN c (fun xs H Q => ∃ p ys, xs = [.ref p] ∧ (SqL c.K H p ys ∨ SqT c.K H p ys) ∧ Q (.int ys.length) H) vLen := by
  intro G H xs rs rr Q sub hd k e q
  unfold vLen at e
  split at e
  · rename_i r
    obtain ⟨v, fp, rfl, kx⟩ := rkL1 k
    split at e
    · cases e
      obtain ⟨l, ls, rfl, e2, e3, e4⟩ := kx.is
      refine ⟨l, _, rfl, .inl (SqL.of e3), ?_⟩
      rw [List.length_map, inner_length e4]
      exact q G H _ [] (Grow.refl sub) (rk_d (.int _)) fr_d
    · obtain ⟨xs, e1, rfl⟩ := Option.map_eq_some_iff.mp e
      obtain ⟨p, vs, rfl, h1, h2⟩ := seqR_ok sub kx e1
      refine ⟨p, vs, rfl, h1, ?_⟩
      rw [dpAll_length h2]
      exact q G H _ [] (Grow.refl sub) (rk_d (.int _)) fr_d
  · cases e
theorem pd_len {p : Pos} (hg : Gl X "len") (hm : X.mg "len" = none) (ha : PDA c X [a] ts) (fit : Fit c X := by exact {}) (he : starEach [a] X.env = (false, eval a X.env) :: starEach [] X.env := by rfl) : PDE c X (.Call (.Name "len" p) [a] [] pos) (eBi vLen ts) :=
  pd_bi (by rw [← fit.k]; exact call_len_seq) lf_len hg hm PySem.boot_len ha (by decide) (by decide) he (by rfl)
def vMax2 : List R → Option R
  | [.d (.int i), .d (.int j)] => some (.d (.int (if j > i then j else i)))
  | _ => none
def vMin2 : List R → Option R
  | [.d (.int i), .d (.int j)] => some (.d (.int (if j < i then j else i)))
  | _ => none
theorem lf_max2 : LfN c (fun xs H Q => ∃ i j, xs = [.int i, .int j] ∧ Q (.int (if j > i then j else i)) H) vMax2 := by
  intro G H xs rs rr Q sub hd k e q
  unfold vMax2 at e
  split at e
  · cases e
    obtain ⟨v, v', fp, fp', rfl, k1, k2⟩ := rkL2 k
    exact ⟨_, _, by rw [dp_int k1.dat, dp_int k2.dat], q G H _ [] (Grow.refl sub) (rk_d (.int _)) fr_d⟩
  · cases e
theorem lf_min2 : LfN c (fun xs H Q => ∃ i j, xs = [.int i, .int j] ∧ Q (.int (if j < i then j else i)) H) vMin2 := by
  intro G H xs rs rr Q sub hd k e q
  unfold vMin2 at e
  split at e
  · cases e
    obtain ⟨v, v', fp, fp', rfl, k1, k2⟩ := rkL2 k
    exact ⟨_, _, by rw [dp_int k1.dat, dp_int k2.dat], q G H _ [] (Grow.refl sub) (rk_d (.int _)) fr_d⟩
  · cases e
theorem pd_max2 {p : Pos} (hc : X.calm = true) (hg : Gl X "max") (hm : X.mg "max" = none) (ha : PDA c X [a, b] ts) (he : starEach [a, b] X.env = (false, eval a X.env) :: starEach [b] X.env := by rfl) (hpl : (backTo pos (starEach [b] X.env)).any (·.1) = false := by rfl) : PDE c X (.Call (.Name "max" p) [a, b] [] pos) (eBi vMax2 ts) :=
  pd_bi (call_max2 hc) lf_max2 hg hm (by decide +kernel) ha (by decide) (by decide) he hpl
theorem pd_min2 {p : Pos} (hc : X.calm = true) (hg : Gl X "min") (hm : X.mg "min" = none) (ha : PDA c X [a, b] ts) (he : starEach [a, b] X.env = (false, eval a X.env) :: starEach [b] X.env := by rfl) (hpl : (backTo pos (starEach [b] X.env)).any (·.1) = false := by rfl) : PDE c X (.Call (.Name "min" p) [a, b] [] pos) (eBi vMin2 ts) :=
  pd_bi (call_min2 hc) lf_min2 hg hm (by decide +kernel) ha (by decide) (by decide) he hpl
def vAbs : List R → Option R
  | [.d (.int i)] => some (.d (.int (if i < 0 then -i else i)))
  | _ => none
def vInt1 : List R → Option R
  | [.d (.int i)] => some (.d (.int i))
  | _ => none
theorem pd_abs {p : Pos} (hg : Gl X "abs") (hm : X.mg "abs" = none) (ha : PDA c X [a] ts) (he : starEach [a] X.env = (false, eval a X.env) :: starEach [] X.env := by rfl) : PDE c X (.Call (.Name "abs" p) [a] [] pos) (eBi vAbs ts) :=
  pd_bi call_abs (by
    intro G H xs rs rr Q sub hd k e q
    unfold vAbs at e
    split at e
    · cases e
      obtain ⟨v, fp, rfl, k1⟩ := rkL1 k
      exact ⟨_, by rw [dp_int k1.dat], q G H _ [] (Grow.refl sub) (rk_d (.int _)) fr_d⟩
    · cases e) hg hm (by decide +kernel) ha (by decide) (by decide) he (by rfl)
theorem pd_int1 {p : Pos} (hg : Gl X "int") (hm : X.mg "int" = none) (ha : PDA c X [a] ts) (he : starEach [a] X.env = (false, eval a X.env) :: starEach [] X.env := by rfl) : PDE c X (.Call (.Name "int" p) [a] [] pos) (eBi vInt1 ts) :=
  pd_ty call_int1 (by
    intro G H xs rs rr Q sub hd k e q
    unfold vInt1 at e
    split at e
    · cases e
      obtain ⟨v, fp, rfl, k1⟩ := rkL1 k
      exact .inl ⟨_, by rw [dp_int k1.dat], q G H _ [] (Grow.refl sub) (rk_d (.int _)) fr_d⟩
    · cases e) hg hm (by decide +kernel) ha (by decide) (by decide) he (by rfl)
def vTuple : List R → Option R
  | [r] => (seqR r).map fun xs => .d (.tuple xs)
  | _ => none
theorem lf_tuple : LfN c (fun xs H Q => ∃ p ys, xs = [.ref p] ∧ ((SqL c.K H p ys ∧ ∀ l, H l = none → Q (.ref l) (upd H l (.tup ys))) ∨ (SqT c.K H p ys ∧ Q (.ref p) H))) vTuple := by
  intro G H xs rs rr Q sub hd k e q
  unfold vTuple at e
  split at e
  · rename_i r
    obtain ⟨v, fp, rfl, kx⟩ := rkL1 k
    obtain ⟨xs, e1, rfl⟩ := Option.map_eq_some_iff.mp e
    have mk : ∀ p vs, v = .ref p → SqL c.K H p vs → DpAll c.K G vs xs → ∃ p ys, [v] = [V.ref p] ∧ ((SqL c.K H p ys ∧ ∀ l, H l = none → Q (.ref l) (upd H l (.tup ys))) ∨ (SqT c.K H p ys ∧ Q (.ref p) H)) := by
      intro p vs hv h1 h2
      refine ⟨p, vs, by rw [hv], .inl ⟨h1, fun l hl => ?_⟩⟩
      have gr : Grow G H (upd G l (.tup vs)) (upd H l (.tup vs)) := Grow.tup sub hl
      exact q _ _ _ [] gr (rk_d (.tup (SqT.of upd_same) (dpAll_mono gr.gg _ _ h2))) fr_d
    unfold seqR at e1
    split at e1
    · cases e1
      obtain ⟨p, vs, rfl, h1, h2⟩ := dp_tup kx.dat
      exact ⟨p, vs, rfl, .inr ⟨sqT_mono sub h1, q G H _ [] (Grow.refl sub) (rk_d (.tup h1 h2)) fr_d⟩⟩
    · cases e1
      obtain ⟨p, vs, hv, h1, h2⟩ := dp_lst kx.dat
      exact mk p vs hv (sub.seq h1) h2
    · cases e1
      obtain ⟨l, vs, hv, e2, e3, e4⟩ := kx.is
      exact mk l vs hv (SqL.of e3) e4
    · cases e1
  · cases e
theorem pd_tuple {p : Pos} (hg : Gl X "tuple") (hm : X.mg "tuple" = none) (ha : PDA c X [a] ts) (fit : Fit c X := by exact {}) (he : starEach [a] X.env = (false, eval a X.env) :: starEach [] X.env := by rfl) : PDE c X (.Call (.Name "tuple" p) [a] [] pos) (eBi vTuple ts) :=
  pd_ty (by rw [← fit.k]; exact call_tuple_of) lf_tuple hg hm (by decide +kernel) ha (by decide) (by decide) he (by rfl)
def vList : List R → Option R
  | [r] => (seqR r).map fun xs => .o true xs
  | _ => none
theorem lf_list : LfN c (fun xs H Q => ∃ p ys, xs = [.ref p] ∧ (SqL c.K H p ys ∨ SqT c.K H p ys) ∧ ∀ l, H l = none → Q (.ref l) (upd H l (.lst ys))) vList := by
  intro G H xs rs rr Q sub hd k e q
  unfold vList at e
  split at e
  · rename_i r
    obtain ⟨v, fp, rfl, kx⟩ := rkL1 k
    obtain ⟨xs, e1, rfl⟩ := Option.map_eq_some_iff.mp e
    obtain ⟨p, vs, rfl, h1, h2⟩ := seqR_ok sub kx e1
    exact ⟨p, vs, rfl, h1, fun l hl => q G _ _ [l] (Grow.new sub hl) (rk_lst (sub.free hl) hl (hd l hl) h2) (fr_one hl)⟩
  · cases e
theorem pd_list {p : Pos} (hg : Gl X "list") (hm : X.mg "list" = none) (ha : PDA c X [a] ts) (fit : Fit c X := by exact {}) (he : starEach [a] X.env = (false, eval a X.env) :: starEach [] X.env := by rfl) : PDE c X (.Call (.Name "list" p) [a] [] pos) (eBi vList ts) :=
  pd_ty (by rw [← fit.k]; exact call_list_of) lf_list hg hm (by decide +kernel) ha (by decide) (by decide) he (by rfl)
/-- list(range(a, b)) -/
def eListRg (ta tb : EW) : EW := fun ρ b0 Q => ta ρ b0 fun x b1 => tb ρ b1 fun y b2 => match x, y with
  | .d (.int i), .d (.int j) => (0 ≤ i ∧ i ≤ 1000 ∧ 0 ≤ j ∧ j ≤ 1000) ∧ Q (.o true (rangeD i j)) b2
  | _, _ => False
theorem range_dp {K : PySem.W.Frag} {G : Hp} (i j : Int) : DpAll K G (rgV i j) (rangeD i j) := by
  unfold rgV rangeD
  generalize List.range (j - i).toNat = l
  induction l with
  | nil => exact .nil
  | cons n l ih => exact .cons (.int _) ih
theorem pd_listRg {p p' pos' : Pos} (hc : X.calm = true) (hg : Gl X "list") (hm : X.mg "list" = none) (hg2 : Gl X "range") (hm2 : X.mg "range" = none) (ha : PDE c X a ta) (hb : PDE c X b tb)
    (na : starEach [a, b] X.env = (false, eval a X.env) :: starEach [b] X.env := by rfl) (nb : starEach [b] X.env = (false, eval b X.env) :: starEach [] X.env := by rfl) (hp : (backTo pos' (starEach [b] X.env)).any (·.1) = false := by rfl)
    (hl : starEach [.Call (.Name "range" p') [a, b] [] pos'] X.env = (false, eval (.Call (.Name "range" p') [a, b] [] pos') X.env) :: starEach [] X.env := by rfl) :
    PDE c X (.Call (.Name "list" p) [.Call (.Name "range" p') [a, b] [] pos'] [] pos) (eListRg ta tb) := by
  refine ⟨pe_imp (pe_listRg hc hg hm (prg_2 hg2 hm2 ha.pe hb.pe na nb hp) hl) fun σ H Q ⟨G, ρ, b0, S, q⟩ => ?_, fun ρ b Q Q' h q => ha.mono _ _ _ _ (fun x b1 q1 => hb.mono _ _ _ _ (fun y b2 q2 => ?_) q1) q⟩
  · refine ⟨G, ρ, b0, S, ha.mono _ _ _ _ (fun x b1 q1 G1 H1 v fp g1 i1 k1 _ => ?_) q⟩
    refine ⟨G1, ρ, b1, S.grow g1 i1, hb.mono _ _ _ _ (fun y b2 q2 G2 H2 v2 fp2 g2 i2 k2 _ => ?_) q1⟩
    split at q2
    · rename_i i j _ _
      obtain ⟨hh, q3⟩ := q2
      refine ⟨i, j, dp_int k1.dat, dp_int k2.dat, RgOk.of_le hh.1 (by omega) (by omega) hh.2.2.1, fun z hz => ?_⟩
      have g := g1.trans g2
      have gr : Grow G2 H2 G2 (upd H2 z (.lst (rgV i j))) := Grow.new g2.sub hz
      exact q3 G2 _ _ [z] (g.trans gr.go) (i2.same gr.keep) (rk_lst (g2.sub.free hz) hz (S.here (g.dom z hz)) (range_dp i j)) (fr_one (g.dom z hz))
    · exact q2.elim
  · split at q2
    · exact ⟨q2.1, h _ _ q2.2⟩
    · exact q2

/-! ### isinstance -/
inductive TyN where
  | int | str | bool | tuple
def TyN.name : TyN → String
  | .int => "int"
  | .str => "str"
  | .bool => "bool"
  | .tuple => "tuple"
def isTy : TyN → PyData → Option Bool
  | .int, .int _ => some true
  | .bool, .int _ => some false
  | .str, .str _ => some true
  | .tuple, .tuple _ => some true
  | _, _ => none
theorem ty_tup {K : PySem.W.Frag} {H : Hp} {a : Addr} {xs : List V} (h : SqT K H a xs) : TyX K H (.ref a) (.type "tuple") := by
  rcases h with (h | ⟨o, h⟩) | ⟨o, its, n, h1, h2, _⟩
  · exact .base (.tup h)
  · exact .fTuple h
  · exact .kTuple h1 h2
def eIsi (t : TyN) (ta : EW) : EW := fun ρ b Q => ta ρ b fun r b1 => match r with
  | .d x => lft (isTy t x) fun k => Q (.d (.bool k)) b1
  | _ => False
theorem isi_w (fit : Fit c X) (t : TyN) {T : String} (hT : T = t.name) (ha : PDE c X a ta) {σ : L2.St} {H : Hp} {Q : VK} (q : tE c (eIsi t ta) σ H Q) : tCB (rIsi X.K) (tCons (tE c ta) (tCons (tC (.ty T)) tNil)) σ H Q := by
  subst hT
  obtain ⟨G, ρ, b0, S, q⟩ := q
  refine ⟨G, ρ, b0, S, ha.mono _ _ _ _ (fun r b1 q1 G1 H1 v fp g1 i1 k1 _ => ?_) q⟩
  split at q1
  · rename_i x fr0
    obtain ⟨k, e, q2⟩ := lft_ex q1
    have fin : ∀ t' : Value, TyX X.K H1 v t' → PySem.W.kitOne X.K t' (.type t.name) = some k → rIsi X.K [v, .ty t.name] H1 Q := fun t' h1 h2 =>
      ⟨v, .ty t.name, t', .type t.name, k, rfl, .ty _, h1, h2, q2 G1 H1 _ [] g1 i1 (rk_d (.bl k)) fr_d⟩
    have kd := k1.dat
    cases t <;> cases x <;> first | (cases e; done) | skip
    · cases e; rw [dp_int kd] at fin ⊢; exact fin _ (.base (.int _)) (kit_ty (by decide +kernel))
    · cases e; rw [dp_str kd] at fin ⊢; exact fin _ (.base (.str _)) (kit_ty (by decide +kernel))
    · cases e; rw [dp_int kd] at fin ⊢; exact fin _ (.base (.int _)) (kit_ty (by decide +kernel))
    · cases e
      obtain ⟨p, vs, rfl, h1, h2⟩ := dp_tup kd
      exact fin _ (ty_tup (by rw [fit.k]; exact sqT_mono g1.sub h1)) (kit_ty (by decide +kernel))
  · exact q1.elim
theorem pd_isi {p p2 : Pos} {T : Str} (t : TyN) {TT : String} (hT : TT = t.name) (hv2 : bootBuiltins T = some (.type TT)) (hg : Gl X "isinstance") (hm : X.mg "isinstance" = none) (hg2 : Gl X T) (hm2 : X.mg T = none) (ha : PDE c X a ta) (hn2 : T ≠ "__name__" := by decide) (hd2 : (T == ("__debug__" : Str)) = false := by decide)
    (fit : Fit c X := by exact {}) (he : starEach [a, .Name T p2] X.env = (false, eval a X.env) :: starEach [.Name T p2] X.env := by rfl) (he2 : starEach [.Name T p2] X.env = (false, eval (.Name T p2) X.env) :: starEach [] X.env := by rfl) (hpl : (backTo pos (starEach [.Name T p2] X.env)).any (·.1) = false := by rfl) :
    PDE c X (.Call (.Name "isinstance" p) [a, .Name T p2] [] pos) (eIsi t ta) := by
  refine ⟨pe_imp (pe_callB call_isi hg hm (by decide +kernel) (pa_cons ha.pe (pa_cons (pe_bltn (v := .ty TT) hg2 hm2 hv2 rfl hn2 hd2) pa_nil he2) he) (by decide) (by decide) he hpl) fun σ H Q q => isi_w fit t hT ha q, fun ρ b Q Q' h q => ha.mono _ _ _ _ (fun r b1 q1 => ?_) q⟩
  split at q1
  · exact lft_mono (fun _ => h _ _) q1
  · exact q1

/-! ### x not in a list of whole numbers -/
def isI : PyData → Bool
  | .int _ => true
  | _ => false
def eqI (i : Int) : PyData → Bool
  | .int j => decide (j = i)
  | _ => false
def vNotInI : R → R → Option R
  | .d (.int i), y => (seqR y).bind fun xs => if xs.all isI = true then some (.d (.bool (!xs.any (eqI i)))) else none
  | _, _ => none
theorem notIn_key {K : PySem.W.Frag} {G : Hp} {i : Int} : ∀ {xs : List PyData} {vs : List V}, DpAll K G vs xs → xs.all isI = true → vs.all flatV = true ∧ inV (.int i) vs = xs.any (eqI i)
  | [], _, k, _ => by cases k; exact ⟨rfl, rfl⟩
  | x :: xs, _, k, h => by
    cases k with
    | cons k1 k2 =>
      rw [List.all_cons, Bool.and_eq_true] at h
      obtain ⟨q1, q2⟩ := notIn_key (i := i) k2 h.2
      cases x with
      | int j =>
        cases k1
        refine ⟨by rw [List.all_cons, q1]; rfl, ?_⟩
        unfold inV at q2 ⊢
        rw [List.any_cons, List.any_cons, q2]
        rfl
      | _ => exact absurd h.1 (by simp [isI])
theorem lf_notInI : Lf2 c (rIn c.K true) vNotInI := by
  intro G H x y rx ry fx fy rr Q sub hd kx ky e q
  unfold vNotInI at e
  split at e
  · rename_i i
    obtain ⟨xs, e1, e2⟩ := Option.bind_eq_some_iff.mp e
    obtain ⟨p, vs, rfl, h1, h2⟩ := seqR_ok sub ky e1
    split at e2
    · rename_i hall
      cases e2
      obtain ⟨q1, q2⟩ := notIn_key (i := i) h2 hall
      refine ⟨p, vs, rfl, h1, by rw [dp_int kx.dat]; rfl, q1, ?_⟩
      rw [dp_int kx.dat, if_pos rfl, q2]
      exact q G H _ [] (Grow.refl sub) (rk_d (.bl _)) fr_d
    · cases e2
  · cases e
theorem pd_notInI (ha : PDE c X a ta) (hb : PDE c X b tb) (fit : Fit c X := by exact {}) (hm : behindInMarks .NotIn b = false := by rfl) : PDE c X (.Compare a [.NotIn] [b] pos) (eOp vNotInI ta tb) := pd_cmp (by rw [← fit.k]; exact op_notIn_seq) lf_notInI ha hb hm
theorem pdt_notInI (ha : PDE c X a ta) (hb : PDE c X b tb) (fit : Fit c X := by exact {}) (hm : behindInMarks .NotIn b = false := by rfl) : PDT c X (.Compare a [.NotIn] [b] pos) (tVal (eOp vNotInI ta tb)) := pdt_cmp (by rw [← fit.k]; exact op_notIn_seq) lf_notInI ha hb hm
end
end L2.U
/-! The data layer, part 8: comprehensions as values, methods, more operations. -/
namespace L2.U
open PySem PySem.Spec PyProof.Rows
section
variable {c : Ct} {X : Cx} {a b e e1 e2 e3 tg : Expr} {es : List Expr} {ta tb tc : EW} {ts : AW} {pos : Pos} {ua : TW} {iw : IW} {st : Stmt}
def vNeg : R → Option R
  | .d (.int i) => some (.d (.int (-i)))
  | _ => none
theorem pd_neg (ha : PDE c X a ta) : PDE c X (.UnaryOp .USub a pos) (eUn vNeg ta) := pd_un un_neg (by
  intro G H x rx fx rr Q sub hd kx e q
  unfold vNeg at e
  split at e
  · cases e
    exact ⟨_, dp_int kx.dat, q G H _ [] (Grow.refl sub) (rk_d (.int _)) fr_d⟩
  · cases e) ha
theorem pd_lc {elt iter : Expr} {scope : Scope} {own : List (Str × Nat)} {g : Sum Nat (List Nat)} (hc : X.calm = true) (hN : X.N.Nodup) (hi : PDI c X tg iter iw) (ok : BlkOk X.N X.env.scope scope own)
    (hg : ∀ (s : Shared) (H : Hp) (C : Addr) (cl : List (Str × Addr)) (fp : List Addr), PG (X.blk s H scope (compEnvC scope cl C X.env) fp) tg (tgT X.K g))
    (he : ∀ (s : Shared) (H : Hp) (C : Addr) (cl : List (Str × Addr)) (fp : List Addr), PDE c (X.blk s H scope (compEnvC scope cl C X.env) fp) elt ta)
    (hin : tgIn g (own.map (·.2)) = true := by rfl) (fit : Fit c X := by exact {}) (hs : ∀ x, foldedSetIterable iter X.env x = pure x := by intro _; rfl) :
    PDE c X (.ListComp elt [⟨tg, iter, [], 0⟩] scope pos) (eComp (own.map (·.2)) iw g uTrue ta) := by
  have me : EMono ta := (he ({} : Shared) (fun _ => none) 0 [] []).mono
  exact ⟨pe_imp (pe_lc hc hN hi.pi ok hg (fun _ _ _ _ _ => pts_nil) (fun s H C cl fp => (he s H C cl fp).pe) hs) fun σ H Q q => comp_w fit.k hin hi.mono uTrue_mono me uTrue_w q, eComp_mono hi.mono uTrue_mono me⟩
end
end L2.U
/-! The data layer, part 9: enumerate of a tuple, sum, tuple * int. -/
namespace L2.U
open PySem PySem.Spec PyProof.Rows

theorem meets_enum_newT (l : Addr) (items : Array Value) (n : Nat) (dct : Option Addr) (sl : Array (Option Value)) :
    Meets (Builtin.«enumerate.__new__» ⟨[.type "enumerate", .ref l], []⟩) (fun _ R s => s.heap.get? l = some { cls := .type "tuple", dict := dct, data := .seq items n, slots := sl } ∧
      R (.ok (.ret (.ref (s.heap.push { cls := .type "tuple_iterator", data := .fields #[.ref l, .int 0 0] }).objs.size)))
        { s with heap := (s.heap.push { cls := .type "tuple_iterator", data := .fields #[.ref l, .int 0 0] }).push { cls := .type "enumerate", data := .fields #[.none, .bool false, .ref s.heap.objs.size, rawInt 0, .none, .none] } }) :=
  .of_wp fun prog w A R s h => by
    obtain ⟨hp, g, d, tk, os⟩ := s; obtain ⟨hl, h⟩ := h
    have hsub := sub_enumerate
    have hL : Heap.IsTuple (Shared.heap ⟨hp, g, d, tk, os⟩) l items := ⟨_, hl, rfl, n, rfl⟩
    wp_walk using AutoSeq1.wpAny_loadPart' hl
    refine wpAny_stack_any fun st => wpAny_pure ?_
    split
    · rename_i c _ _ _ _ _
      cases (c == Value.type "enumerate")
      · wp_walk using AutoSeq1.wpAny_loadPart' hl, wpAny_pyIter_tuple hL
        exact ⟨_, rfl, h⟩
      · wp_walk using AutoSeq1.wpAny_loadPart' hl, wpAny_pyIter_tuple hL
        exact ⟨_, rfl, h⟩
    · wp_walk using AutoSeq1.wpAny_loadPart' hl, wpAny_pyIter_tuple hL
      exact ⟨_, rfl, h⟩
theorem call_enum_tuple {prog : Program} {w : World} {A : Around} {E : Value → Shared → Prop} {s : Shared} {l : Addr} {items : Array Value} {Q : Value → Shared → Prop} (hL : s.heap.IsTuple l items)
    (h : ∀ h', IsEnum h' (s.heap.objs.size + 1) s.heap.objs.size 0 .none → h'.IsTupleIter s.heap.objs.size l 0 → h'.objs.size = s.heap.objs.size + 2 →
      (∀ b o, s.heap.get? b = some o → h'.get? b = some o) → Q (.ref (s.heap.objs.size + 1)) { s with heap := h' }) :
    wpAny (model prog w) A (call (.type "enumerate") [.ref l]) Q E s := by
  obtain ⟨⟨c, dct, dt, sl⟩, hl, hc, n, hd⟩ := hL
  replace hc : c = .type "tuple" := hc
  replace hd : dt = .seq items n := hd
  subst hc hd
  refine callType_new F.called_enumerate (by decide) (F.typeCall_enumerate_1 _) (F.newCall_enumerate_1 _) (fun obj => F.args_object_init_2 obj _) F.entry_enumerate_new
    (meets_enum_newT l items n dct sl) ⟨hl, ?_⟩
  have hz : (s.heap.push { cls := .type "tuple_iterator", data := .fields #[.ref l, .int 0 0] }).objs.size = s.heap.objs.size + 1 := Heap.size_push ..
  show _ ∧ _
  rw [hz]
  have he : IsEnum ((s.heap.push { cls := .type "tuple_iterator", data := .fields #[.ref l, .int 0 0] }).push
      { cls := .type "enumerate", data := .fields #[.none, .bool false, .ref s.heap.objs.size, rawInt 0, .none, .none] }) (s.heap.objs.size + 1) s.heap.objs.size 0 .none := by
    have := Heap.get?_push_size (s.heap.push { cls := .type "tuple_iterator", data := .fields #[.ref l, .int 0 0] })
      (o := { cls := .type "enumerate", data := .fields #[.none, .bool false, .ref s.heap.objs.size, rawInt 0, .none, .none] }) rfl
    rw [hz] at this; exact this
  refine ⟨⟨_, he, rfl⟩, h _ he ⟨_, Heap.get?_push_of_some _ (Heap.get?_push_size _ rfl), rfl, rfl⟩ (by rw [Heap.size_push, hz]) fun b o x => Heap.get?_push_of_some _ (Heap.get?_push_of_some _ x)⟩
/-- the tuple at a, each item in a new pair -/
def IteT (K : PySem.W.Frag) (a : Addr) : It :=
  ⟨fun i H => ∃ (xs : List V) (x : V), SqT K H a xs ∧ xs[i]? = some x, fun i H v H' => ∃ T x, v = .ref T ∧ H T = none ∧ H' = upd H T (.tup [.int (i : Nat), x]) ∧ ∀ xs, SqT K H a xs → xs[i]? = some x, fun i H => ∃ xs : List V, SqT K H a xs ∧ xs.length ≤ i⟩
theorem turn_enumT {P : Program} {w : World} {K : PySem.W.Frag} {elts : List Expr} {kk : Nat} {tpos : Pos} (a e it : Addr) (hat : a ≠ it) (hae : a ≠ e) :
    Turn P w K (.Tuple elts kk tpos) (IteT K a) [e, it] e (fun i h => (∃ old, IsEnum h e it ((i : Nat) : Int) old) ∧ h.IsTupleIter it a i ∧ e ≠ it) where
  mem := by simp
  obj := fun i h st b hb => by
    obtain ⟨⟨old, he⟩, ⟨o, ho, hc, hd⟩, _⟩ := st
    have e' : b = e ∨ b = it := by simpa using hb
    rcases e' with z | z
    · rw [z]; exact ⟨_, he, fun v q => nomatch q⟩
    · rw [z]; exact ⟨o, ho, fun v q => by rw [hd] at q; cases q⟩
  keep := fun i h h' st k => let ⟨⟨old, he⟩, hi, hne⟩ := st; ⟨⟨old, k e (by simp) _ he⟩, hi.at fun o q => k it (by simp) o q, hne⟩
  item := by
    intro X hP hw hK hc i pins s σ H E I hf st hg
    subst hP hw hK
    obtain ⟨⟨old, he⟩, hit, hne⟩ := st
    obtain ⟨xs, x, hq, hx⟩ := hg
    obtain ⟨its, rv, p, hz⟩ := I.tuple hq
    obtain ⟨u, hu, ru⟩ := rv.get hx
    have hel : e < s.heap.objs.size := Heap.lt_size he
    have hil : it < s.heap.objs.size := by obtain ⟨_, q, _⟩ := hit; exact Heap.lt_size q
    have D := Draws.tuple (prog := X.prog) (w := X.w) (A := X.A.in1) (I.ok.hd hc) it a hat its.toArray
    have hlt : i < its.toArray.size := by
      have := (List.getElem?_eq_some_iff.mp hu).1
      simpa using this
    refine wpAny_pyNext_enum_itemD D he ⟨hit, p⟩ hlt hne (fun z => by
      rcases List.mem_cons.mp z with q | q
      · exact hne q
      · exact hae (List.mem_singleton.mp q).symm) fun x' h' tk hP ho hit' hT hsz hk => ?_
    have ex : x' = u := by
      have : its.toArray[i]? = some u := by simpa using hu
      rw [this] at hP
      exact (Option.some.inj hP).symm
    subst ex
    refine ⟨_, rfl, wpAny_letOwnedTupleGo_enum (s := { s with heap := h', toks := tk + 1 }) ho fun h'' he' sb => ?_⟩
    have hT2 : h''.get? s.heap.objs.size = some { cls := .type "tuple", data := .seq #[.int i tk, x'] } := (sb.2 _ (Nat.ne_of_gt hel)).trans hT
    have new : ObjOk X.prog X.w (upd H s.heap.objs.size (.tup [.int (i : Nat), x])) h'' s.heap.objs.size (.tup [.int (i : Nat), x]) :=
      ⟨by show 2 ≤ sizeLine; decide, [.int i tk, x'], .cons ⟨_, rfl⟩ (.cons ru .nil), ⟨_, hT2, rfl, _, rfl⟩⟩
    have I1 : Inv X pins σ (upd H s.heap.objs.size (.tup [.int (i : Nat), x])) { s with heap := h'', toks := tk + 1 } :=
      I.turnedNew (ch := [e, it]) (fun b ob hb q => (sb.2 b (fun z => hb (by simp [z]))).trans (hk b ob (fun z => hb (by simp [z])) (fun z => hb (by simp [z])) q)) hf (Nat.le_refl _) new
    refine ⟨.ref s.heap.objs.size, _, I1, rfl, ⟨_, x, rfl, I.hok.fresh (Nat.le_refl _), rfl, fun ys hy => by rw [I.tuple_inj hy hq]; exact hx⟩, ⟨⟨x', ?_⟩, hit'.1.at fun o q => (sb.2 it (Ne.symm hne)).trans q, hne⟩, fun b hb => ?_⟩
    · have e1 : ((i + 1 : Nat) : Int) = (i : Int) + 1 := by omega
      rw [e1]; exact he'
    · have hb' : b < s.heap.objs.size := by
        have e' : b = e ∨ b = it := by simpa using hb
        rcases e' with z | z
        · rw [z]; exact hel
        · rw [z]; exact hil
      rw [upd_ne (Nat.ne_of_lt hb')]
      exact (hf b hb).1
  done := by
    intro X hP hw hK hc i pins s σ H E I hf st hg
    subst hP hw hK
    obtain ⟨⟨old, he⟩, hit, hne⟩ := st
    obtain ⟨xs, hq, hx⟩ := hg
    obtain ⟨its, rv, p, hz⟩ := I.tuple hq
    obtain ⟨f0, f1, f2, f3, f4, f5⟩ := hf it (by simp)
    have hl := rv.length
    have hT : s.TypeIs (.ref e) "enumerate" := ⟨_, he, rfl⟩
    unfold pyNext
    refine wpAny_bind (wpAny_attempt (wpAny_callSpecial?_slot (name := Str.ofString "__next__") hT F.slot_enumerate_next
      (wpAny_call_entry F.slot_enumerate_next hT F.entry_enumerate_next ?_ (F.args_enumerate_next_1 _))))
    show wpAny _ _ (field (.ref e) 2 >>= _) _ _ _
    refine wpAny_bind (wpAny_field he rfl (x := .ref it) rfl ?_)
    refine wpAny_bind (wpAny_nextOf_tuple_end (I.ok.hd hc) hit p (by simp; omega) fun h' x he' hx' => ?_)
    obtain ⟨o, ho, hc'⟩ := hx'
    refine wpAny_bind (wpAny_isInstance (T := "StopIteration") (b := true) ⟨o, ho, hc'⟩ isSubtype_stop ?_)
    exact wpAny_pure ⟨rfl, I.turned (t' := s.toks) (fun b o hb q => he' b o hb q) f0 f1 f3 f4 f5⟩
  self := fun A i s Q E st h => let ⟨⟨_, he⟩, _⟩ := st; wpAny_pyIter_enum he h
section
variable {c : Ct} {X : Cx} {a b e e1 e2 e3 tg : Expr} {es : List Expr} {ta tb tc : EW} {ts : AW} {pos : Pos} {ua : TW} {iw : IW} {st : Stmt}
def iEnT (K : PySem.W.Frag) (ta : TA) : TI := fun σ H R => ta σ H fun vs H1 => ∃ a xs, vs = [.ref a] ∧ SqT K H1 a xs ∧ R (IteT K a) H1
theorem pi_enumT {ta : TA} {p pos tpos : Pos} {elts : List Expr} {kk : Nat} (hg : Gl X "enumerate") (hm : X.mg "enumerate" = none) (ha : PA X [e] ta) (hs : starEach [e] X.env = [(false, eval e X.env)] := by rfl) :
    PI X (.Tuple elts kk tpos) (.Call (.Name "enumerate" p) [e] [] pos) (iEnT X.K ta) := by
  refine ⟨fun pins s σ H R I h => ?_⟩
  refine Call_ (ld_blt I hg hm boot_enumerate (PyProof.Rows.callWith_type1 (thn (ha.run pos pins s σ H _ I h) fun us s1 ⟨vs, H1, I1, r1, q1⟩ => ?_) hs rfl))
  obtain ⟨a, xs, ex, hq, q⟩ := q1
  subst ex
  cases r1 with
  | cons r rr =>
    cases rr
    cases r
    obtain ⟨its, rv, p', hz⟩ := I1.tuple hq
    have hlt : a < s1.heap.objs.size := p'.lt
    refine call_enum_tuple p' fun h' he hit hsz hk => wpAny_pyIter_enum he ?_
    have I2 : Inv X pins σ H1 { s1 with heap := h' } := I1.kept (t' := s1.toks) hk
    refine ⟨s1.heap.objs.size + 1, [s1.heap.objs.size + 1, s1.heap.objs.size], _, _, H1, rfl, I2, turn_enumT a (s1.heap.objs.size + 1) s1.heap.objs.size (Nat.ne_of_lt hlt) (Nat.ne_of_lt (Nat.lt_succ_of_lt hlt)), ⟨⟨.none, he⟩, hit, Nat.succ_ne_self _⟩, fun b hb => ?_, q⟩
    have e' : b = s1.heap.objs.size + 1 ∨ b = s1.heap.objs.size := by simpa using hb
    have hle : s1.heap.objs.size ≤ b := by
      rcases e' with z | z
      · rw [z]; exact Nat.le_add_right _ _
      · rw [z]; exact Nat.le_refl _
    exact I1.fpOk hle (I1.hok.fresh hle)
theorem yl_enumT {K : PySem.W.Frag} {G : Hp} {l : Addr} {vs : List V} {xs : List PyData} (h : SqT K G l vs) (k : DpAll K G vs xs) : Yl K (IteT K l) (enumD 0 xs) G := by
  have hl := dpAll_length k
  have hl2 := enumD_length xs 0
  refine ⟨fun i G' H' s s' hi => ?_, fun i G' H' s s' hi => ⟨vs, sqT_mono (s.trans s') h, by omega⟩, fun i G' H' x H'' d s s' hx hy => ?_⟩
  · obtain ⟨v, q1, q2⟩ := dpAll_get k (List.getElem?_eq_getElem (show i < xs.length by omega))
    exact ⟨vs, v, sqT_mono (s.trans s') h, q1⟩
  · obtain ⟨T, x', rfl, hT, rfl, hy⟩ := hy
    rw [enumD_get] at hx
    obtain ⟨d', q0, q2⟩ := Option.map_eq_some_iff.mp hx
    subst q2
    obtain ⟨v, q1, q2⟩ := dpAll_get k q0
    have e := hy vs (sqT_mono (s.trans s') h)
    rw [q1] at e
    cases e
    have gr : Grow G' H' (upd G' T (.tup [.int (i : Nat), x'])) (upd H' T (.tup [.int (i : Nat), x'])) := Grow.tup s' hT
    refine ⟨_, gr, ?_⟩
    rw [Nat.zero_add]
    exact .tup (SqT.of upd_same) (.cons (.int _) (.cons (dp_mono (s.trans gr.gg) _ _ q2) .nil))
def iEnumT (t : AW) : IW := fun ρ b Q => t ρ b fun rs b1 => match rs with
  | [.d (.tuple xs)] => Q (enumD 0 xs) b1
  | _ => False
theorem pdi_enumT {p tpos : Pos} {elts : List Expr} {kk : Nat} (hg : Gl X "enumerate") (hm : X.mg "enumerate" = none) (ha : PDA c X [e] ts) (hs : starEach [e] X.env = [(false, eval e X.env)] := by rfl) (fit : Fit c X := by exact {}) : PDI c X (.Tuple elts kk tpos) (.Call (.Name "enumerate" p) [e] [] pos) (iEnumT ts) := by
  refine ⟨pi_imp (pi_enumT hg hm ha.pa hs) fun σ H Rr ⟨G, ρ, b, S, q⟩ => ?_, fun ρ b Q Q' hh q => ha.mono _ _ _ _ (fun r b1 q1 => ?_) q⟩
  · refine ⟨G, ρ, b, S, ha.mono _ _ _ _ (fun rs b1 q1 G1 H1 vs fps g1 i1 k1 => ?_) q⟩
    rw [fit.k]
    split at q1
    · obtain ⟨v, fp, rfl, k⟩ := rkAll1 k1
      obtain ⟨l, vs, rfl, h1, h2⟩ := dp_tup k.dat
      exact ⟨l, vs, rfl, sqT_mono g1.sub h1, q1 G1 H1 _ g1 i1 (yl_enumT h1 h2)⟩
    · exact q1.elim
  · split at q1
    · exact hh _ _ q1
    · exact q1

/-! ### sum of a list or a tuple of whole numbers -/
def intOf : PyData → Option Int
  | .int i => some i
  | _ => none
def intsOf : List PyData → Option (List Int)
  | [] => some []
  | x :: xs => (intOf x).bind fun i => (intsOf xs).map (i :: ·)
theorem intsOf_eq : ∀ {xs : List PyData} {ns : List Int}, intsOf xs = some ns → xs = ns.map PyData.int
  | [], _, e => by cases e; rfl
  | x :: xs, _, e => by
    unfold intsOf at e
    obtain ⟨i, e1, e2⟩ := Option.bind_eq_some_iff.mp e
    obtain ⟨ns, e3, rfl⟩ := Option.map_eq_some_iff.mp e2
    unfold intOf at e1
    split at e1
    · cases e1
      rw [intsOf_eq e3]
      rfl
    · cases e1
theorem intsOf_map : ∀ ns : List Int, intsOf (ns.map PyData.int) = some ns
  | [] => rfl
  | n :: ns => by simp [intsOf, intOf, intsOf_map ns]
def rSumT (K : PySem.W.Frag) : List V → Hp → VK → Prop := fun vs H Q => ∃ (a : Addr) (ns : List Int), vs = [V.ref a] ∧ SqT K H a (ns.map V.int) ∧ Q (.int ns.sum) H
theorem cr_sumT (hc : X.calm = true) : CallR X (.builtin "sum") (rSumT X.K) := by
  intro pins s σ H xs us Q I r h
  obtain ⟨a, ns, rfl, hs, q⟩ := h
  obtain rfl := Vals.ref1 r
  obtain ⟨its, rv, ht, _⟩ := I.tuple hs
  have hi : IntsAre its ns := Vals.ints rv
  obtain ⟨xs, e⟩ := hi.allInts.items
  have hn : numsOf (intItems xs).toList = ns := by rw [← e]; exact hi.numsOf
  rw [nums_intItems] at hn
  rw [e] at ht
  refine PySem.W.ktm_sumG (I.ok.hd hc) ht fun h' tk t' hk => ?_
  rw [preSum_eq, List.take_of_length_le (by simp), hn]
  exact ⟨.int ns.sum, H, I.kept (t' := tk) hk, ⟨_, rfl⟩, q⟩
def vSum : List R → Option R
  | [r] => (seqR r).bind fun xs => (intsOf xs).map fun ns => .d (.int ns.sum)
  | _ => none
theorem lf_sum : LfN c (fun xs H Q => rSum c.K xs H Q ∨ rSumT c.K xs H Q) vSum := by
  intro G H xs rs rr Q sub hd k e q
  unfold vSum at e
  split at e
  · rename_i r
    obtain ⟨v, fp, rfl, kx⟩ := rkL1 k
    obtain ⟨xs, e1, e2⟩ := Option.bind_eq_some_iff.mp e
    obtain ⟨ns, e3, rfl⟩ := Option.map_eq_some_iff.mp e2
    obtain ⟨p, vs, rfl, h1, h2⟩ := seqR_ok sub kx e1
    rw [intsOf_eq e3] at h2
    have e4 := dpAll_ints h2
    subst e4
    have fin := q G H _ [] (Grow.refl sub) (rk_d (.int ns.sum)) fr_d
    rcases h1 with h1 | h1
    · exact .inl ⟨p, ns, rfl, h1, fin⟩
    · exact .inr ⟨p, ns, rfl, h1, fin⟩
  · cases e
theorem pd_sum {p : Pos} (hc : X.calm = true) (hg : Gl X "sum") (hm : X.mg "sum" = none) (ha : PDA c X [a] ts) (fit : Fit c X := by exact {}) (he : starEach [a] X.env = (false, eval a X.env) :: starEach [] X.env := by rfl) : PDE c X (.Call (.Name "sum" p) [a] [] pos) (eBi vSum ts) :=
  pd_bi (by rw [← fit.k]; exact (cr_sum hc).or (cr_sumT hc)) lf_sum hg hm (by decide +kernel) ha (by decide) (by decide) he (by rfl)

/-! ### tuple * int -/
theorem tuple_mul_one (l : Addr) (items : Array Value) (n : Nat) (dd : Option Addr) (sl : Array (Option Value)) (u : Tok) :
    Meets (Builtin.«tuple.__mul__» ⟨[.ref l, .int 1 u], []⟩) (fun _ R s => s.heap.get? l = some { cls := .type "tuple", dict := dd, data := .seq items n, slots := sl } ∧ R (.ok (.ret (Value.ref l))) s) :=
  .of_wp fun prog w A R s h => by
    obtain ⟨hp, g, d, tk, os⟩ := s
    obtain ⟨hl, h⟩ := h
    have f1 := AutoSeq1.idx_int
    have c0 : (decide ((1 : Int) < -(2 ^ 63)) || decide ((1 : Int) ≥ 2 ^ 63)) = false := by decide
    have c1 : (items.isEmpty || (1 : Int) == 1) = true := by simp
    wp_walk using AutoSeq1.wpAny_loadPart' hl
    repeat (first
      | (refine wpAny_ite_false (decide_eq_false (by rw [c0]; exact Bool.false_ne_true)) ?_; wp_walk using AutoSeq1.wpAny_loadPart' hl)
      | (refine wpAny_ite_true (decide_eq_true (by rw [c1])) ?_; wp_walk using AutoSeq1.wpAny_loadPart' hl))
    exact ⟨_, rfl, h⟩
def rRepT1 (K : PySem.W.Frag) : R2 := fun x y H Q => ∃ l xs, x = .ref l ∧ y = .int 1 ∧ SqT K H l xs ∧ Q (.ref l) H
theorem op_repT1 : OpR X (binaryOp .Mult) (rRepT1 X.K) := by
  intro pins s σ H x y v u Q I rx ry h
  obtain ⟨l, xs, rfl, rfl, hT, q⟩ := h
  cases rx
  obtain ⟨t, rfl⟩ := ry
  obtain ⟨its, r, ⟨⟨cls, dd, data, sl⟩, ho, hc, n, hd⟩, hs⟩ := I.tuple hT
  simp only at hc hd
  subst hc hd
  exact wpAny_binaryOp_repeat_ref (T := "tuple") (U := "int") (by decide) ⟨_, ho, rfl⟩ (fun s' => typeIs_int s' 1 t) noFill_tuple_mul F.fills_int_mul F.slot_int_rmul repeat_tuple F.slot_int_index.lookup
    (call_meets F.slot_int_rmul (typeIs_int s 1 t) F.entry_int_rmul (F.args_int_rmul_2 _ _) (int_rmul_tuple 1 t l its.toArray n dd sl)
      ⟨ho, rfl, ⟨_, ho, rfl⟩, call_meets F.slot_tuple_mul ⟨_, ho, rfl⟩ F.entry_tuple_mul (F.args_tuple_mul_2 _ _) (tuple_mul_one l its.toArray n dd sl t) ⟨ho, .ref l, H, I, rfl, q⟩⟩)
def vRepT : R → R → Option R
  | .d (.tuple xs), .d (.int k) => if (!xs.isEmpty && (decide (1 ≤ k) && (decide (k ≤ 1000) && decide (xs.length ≤ 1000)))) = true then some (.d (.tuple (List.replicate k.toNat xs).flatten)) else none
  | _, _ => none
theorem lf_RepT : Lf2 c (fun x y H Q => rRepT c.K x y H Q ∨ rRepT1 c.K x y H Q) vRepT := by
  intro G H x y rx ry fx fy rr Q sub hd kx ky e q
  unfold vRepT at e
  split at e
  · rename_i xs k
    split at e
    · rename_i hz
      rw [Bool.and_eq_true, Bool.and_eq_true, Bool.and_eq_true] at hz
      have h1 := of_decide_eq_true hz.2.1
      have h2 := of_decide_eq_true hz.2.2.1
      have h3 := of_decide_eq_true hz.2.2.2
      cases e
      obtain ⟨p, vs, e1, g1, g2⟩ := dp_tup kx.dat
      have hl := dpAll_length g2
      by_cases hk : k = 1
      · subst hk
        refine .inr ⟨p, vs, e1, dp_int ky.dat, sqT_mono sub g1, ?_⟩
        have e2 : (List.replicate (1 : Int).toNat xs).flatten = xs := by simp
        rw [e2] at q
        exact q G H _ [] (Grow.refl sub) (rk_d (.tup g1 g2)) fr_d
      · have hne : vs ≠ [] := fun z => by
          rw [z] at hl
          have : xs = [] := List.length_eq_zero_iff.mp hl.symm
          rw [this] at hz
          exact absurd hz.1 (by simp)
        refine .inl ⟨p, k, vs, e1, dp_int ky.dat, sqT_mono sub g1, hne, by omega, h2, by omega, fun z hz' => ?_⟩
        have gr : Grow G H (upd G z (.tup (List.replicate k.toNat vs).flatten)) (upd H z (.tup (List.replicate k.toNat vs).flatten)) := Grow.tup sub hz'
        exact q _ _ _ [] gr (rk_d (.tup (SqT.of upd_same) (dpAll_mono gr.gg _ _ (dpAll_rep g2 k.toNat)))) fr_d
    · cases e
  · cases e
theorem pd_repT (ha : PDE c X a ta) (hb : PDE c X b tb) (fit : Fit c X := by exact {}) : PDE c X (.BinOp a .Mult b pos) (eOp vRepT ta tb) := pd_op (by rw [← fit.k]; exact op_repT.or op_repT1) lf_RepT ha hb

/-! ### comprehensions stored at once; methods -/
theorem pds_setLc {i : Nat} {y : Str} {py spos : Pos} {elt iter : Expr} {scope : Scope} {own : List (Str × Nat)} {g : Sum Nat (List Nat)} (hc : X.calm = true) (hN : X.N.Nodup) (hy : X.N[i]? = some y) (hyl : X.env.scope.names.lookup y = some .local)
    (hsw : swapsWith (.ListComp elt [⟨tg, iter, [], 0⟩] scope pos) (some (.Name y py)) spos.line X.env = pure true) (hi : PDI c X tg iter iw) (ok : BlkOk X.N X.env.scope scope own)
    (hg : ∀ (s : Shared) (H : Hp) (C : Addr) (cl : List (Str × Addr)) (fp : List Addr), PG (X.blk s H scope (compEnvC scope cl C X.env) fp) tg (tgT X.K g))
    (he : ∀ (s : Shared) (H : Hp) (C : Addr) (cl : List (Str × Addr)) (fp : List Addr), PDE c (X.blk s H scope (compEnvC scope cl C X.env) fp) elt ta)
    (hin : tgIn g (own.map (·.2)) = true := by rfl) (fit : Fit c X := by exact {}) (hs : ∀ x, foldedSetIterable iter X.env x = pure x := by intro _; rfl) :
    PDS c X (.Assign [.Name y py] (.ListComp elt [⟨tg, iter, [], 0⟩] scope pos) spos) (sSet i (eComp (own.map (·.2)) iw g uTrue ta)) := by
  have me : EMono ta := (he ({} : Shared) (fun _ => none) 0 [] []).mono
  exact pds_setR (ps_imp (ps_setLc hc hN hy hyl hsw hi.pi ok hg (fun _ _ _ _ _ => pts_nil) (fun s H C cl fp => (he s H C cl fp).pe) hs) fun D σ H q => comp_w fit.k hin hi.mono uTrue_mono me uTrue_w q) (eComp_mono hi.mono uTrue_mono me)
theorem pd_lcIf {elt iter cond : Expr} {scope : Scope} {own : List (Str × Nat)} {g : Sum Nat (List Nat)} (hc : X.calm = true) (hN : X.N.Nodup) (hi : PDI c X tg iter iw) (ok : BlkOk X.N X.env.scope scope own)
    (hg : ∀ (s : Shared) (H : Hp) (C : Addr) (cl : List (Str × Addr)) (fp : List Addr), PG (X.blk s H scope (compEnvC scope cl C X.env) fp) tg (tgT X.K g))
    (ht : ∀ (s : Shared) (H : Hp) (C : Addr) (cl : List (Str × Addr)) (fp : List Addr), PDT c (X.blk s H scope (compEnvC scope cl C X.env) fp) cond ua)
    (he : ∀ (s : Shared) (H : Hp) (C : Addr) (cl : List (Str × Addr)) (fp : List Addr), PDE c (X.blk s H scope (compEnvC scope cl C X.env) fp) elt ta)
    (hin : tgIn g (own.map (·.2)) = true := by rfl) (fit : Fit c X := by exact {}) (hs : ∀ x, foldedSetIterable iter X.env x = pure x := by intro _; rfl) :
    PDE c X (.ListComp elt [⟨tg, iter, [cond], 0⟩] scope pos) (eComp (own.map (·.2)) iw g ua ta) := by
  have me : EMono ta := (he ({} : Shared) (fun _ => none) 0 [] []).mono
  have mt : TMono ua := (ht ({} : Shared) (fun _ => none) 0 [] []).mono
  exact ⟨pe_imp (pe_lc hc hN hi.pi ok hg (fun s H C cl fp => pts_one (ht s H C cl fp).pt) (fun s H C cl fp => (he s H C cl fp).pe) hs) fun σ H Q q => comp_w fit.k hin hi.mono mt me (fun _ _ _ z => z) q, eComp_mono hi.mono mt me⟩
theorem pds_app2 {i : Nat} {x : Str} {p1 apos cpos spos : Pos} (he : PDE c X e ta)
    (h : ∀ {t : TE}, PE X e t → PS X (.Expr (.Call (.Attribute (.Name x p1) "append" apos) [e] [] cpos) spos) (tDrop (tBM X.K "list" rAppend (tVar i) (tCons t tNil)))) :
    PDS c X (.Expr (.Call (.Attribute (.Name x p1) "append" apos) [e] [] cpos) spos) (sApp i ta) := pds_app he (h he.pe)
theorem pds_ext2 {i : Nat} {x : Str} {p1 apos cpos spos : Pos} (he : PDE c X e ta)
    (h : ∀ {t : TE}, PE X e t → PS X (.Expr (.Call (.Attribute (.Name x p1) "extend" apos) [e] [] cpos) spos) (tDrop (tBM X.K "list" rExtend (tVar i) (tCons t tNil)))) :
    PDS c X (.Expr (.Call (.Attribute (.Name x p1) "extend" apos) [e] [] cpos) spos) (sExt i ta) := pds_ext he (h he.pe)
end
end L2.U
/-! The data layer, part 10: several names at once, in short. -/
namespace L2.U
open PySem PySem.Spec PyProof.Rows
section
variable {c : Ct} {X : Cx} {a b e e1 e2 e3 tg : Expr} {es : List Expr} {ta tb tc : EW} {ts : AW} {pos : Pos} {ua : TW} {iw : IW} {st : Stmt}
theorem pds_par2X {i j : Nat} (ha : PDA c X es ts) (h : ∀ {t : TA}, PA X es t → PS X st (tPar i j t)) : PDS c X st (sPar [i, j] ts) := pds_par2 (h ha.pa) ha.mono
theorem pds_par3X {i j l : Nat} (ha : PDA c X es ts) (h : ∀ {t : TA}, PA X es t → PS X st (tPar3 i j l t)) : PDS c X st (sPar [i, j, l] ts) := pds_par3 (h ha.pa) ha.mono
theorem pds_parNX {is : List Nat} {n : Nat} (ha : PDA c X es ts) (h : ∀ {t : TA}, PA X es t → PS X st (tAsg (tTup t) (gTup X.K n (gNames is)))) (hn : is.length = n := by rfl) (hz : n ≤ 1000 := by decide) : PDS c X st (sPar is ts) := pds_parN (h ha.pa) hn hz ha.mono
end
end L2.U
/-! The program's text by places. -/
namespace L2.U
open PySem PySem.Spec PyProof.Rows
def topS (i : Nat) : Stmt := PySem.Challenge.pw_uporders_k42_whole_alike_and_melted.main.body.getD i (.Pass ⟨0, 0, 0, 0⟩)
/-- the built-ins are still the built-ins -/
structure Nb (mg : Str → Option Value) : Prop where
  len : mg "len" = none
  tuple : mg "tuple" = none
  list : mg "list" = none
  range : mg "range" = none
  int : mg "int" = none
  str : mg "str" = none
  bool : mg "bool" = none
  isinstance : mg "isinstance" = none
  enumerate : mg "enumerate" = none
  min : mg "min" = none
  max : mg "max" = none
  sum : mg "sum" = none
  abs : mg "abs" = none
  sorted : mg "sorted" = none
  repr : mg "repr" = none
/-- the module's constants -/
structure Kc (mg : Str → Option Value) : Prop where
  FILL : Kon mg "FILL" (.str "fill")
  PACKS : Kon mg "PACKS" (.str "packs")
  MOST_LEVEL : Kon mg "MOST_LEVEL" (.int 30)
  MOST_SIZE : Kon mg "MOST_SIZE" (.int 10)
  MOST_DELAY : Kon mg "MOST_DELAY" (.int 4)
  MOST_HOUSES : Kon mg "MOST_HOUSES" (.int 3)
  MOST_WAIT : Kon mg "MOST_WAIT" (.int 9)
  MOST_DEMAND : Kon mg "MOST_DEMAND" (.int 9)
  MOST_PAIRS : Kon mg "MOST_PAIRS" (.int 20000)
  MOST_TOP : Kon mg "MOST_TOP" (.int 8)
end L2.U
/-! The mirror: houses, chains, stands, days, in plain Lean. -/
namespace L2.U
open PySem PySem.Spec PyProof.Rows

structure House where
  fill : Bool
  low : Int
  more : Int
  late : Nat
deriving DecidableEq
def wordOf (f : Bool) : Str := if f = true then "fill" else "packs"
def House.rule (h : House) : PyData := .tuple [.str (wordOf h.fill), .int h.low, .int h.more]
def House.enc (h : House) : PyData := .tuple [h.rule, .int h.late]
def House.top (h : House) : Int := if h.fill = true then h.more else h.low + h.more - 1
theorem word_fill (f : Bool) : decide (wordOf f = ("fill" : Str)) = f := by cases f <;> decide +kernel
theorem word_packs (f : Bool) : decide (wordOf f = ("packs" : Str)) = !f := by cases f <;> decide +kernel
structure House.Ok (h : House) : Prop where
  low : 0 ≤ h.low ∧ h.low ≤ 30
  more : if h.fill = true then h.low ≤ h.more ∧ h.more ≤ 30 else 1 ≤ h.more ∧ h.more ≤ 10
  late : 1 ≤ h.late ∧ h.late ≤ 4
/-- what is ordered at a position -/
def House.order (h : House) (pos : Int) : Int :=
  if h.low ≤ pos then 0 else if h.fill = true then h.more - pos else (h.low - pos + h.more - 1) / h.more * h.more
structure Chain where
  houses : List House
  wait : Int
deriving DecidableEq
def Chain.enc (c : Chain) : PyData := .tuple [.tuple (c.houses.map House.enc), .int c.wait]
structure Chain.Ok (c : Chain) : Prop where
  some : 1 ≤ c.houses.length ∧ c.houses.length ≤ 3
  each : ∀ h ∈ c.houses, h.Ok
  wait : 0 ≤ c.wait ∧ c.wait ≤ 9
structure Place where
  hand : Int
  coming : List Int
  owed : Int
deriving DecidableEq
def Place.enc (p : Place) : PyData := .tuple [.int p.hand, .tuple (p.coming.map PyData.int), .int p.owed]
abbrev Stand := List Place
def encS (s : Stand) : PyData := .tuple (s.map Place.enc)
def encO : Option Int → PyData
  | none => .none
  | some i => .int i
structure Band where
  least : Int
  most : Int
  turn : Option Int
deriving DecidableEq
def Band.enc (b : Band) : PyData := .tuple [.int b.least, .int b.most, encO b.turn]
structure Band.Ok (b : Band) : Prop where
  least : 0 ≤ b.least ∧ b.least ≤ 9
  most : b.least ≤ b.most ∧ b.most ≤ 9
  turn : ∀ t, b.turn = some t → 0 ≤ t ∧ t ≤ 9
structure PairS where
  near : Stand
  far : Stand
  last : Option Int
deriving DecidableEq
def PairS.enc (p : PairS) : PyData := .tuple [encS p.near, encS p.far, encO p.last]
/-! stands -/
def Chain.begin (c : Chain) : Stand := c.houses.map fun h => ⟨h.top, List.replicate h.late 0, 0⟩
def Place.arrive (p : Place) : Place := ⟨p.hand + p.coming.headD 0, p.coming.tail ++ [0], p.owed⟩
def arriveS (s : Stand) : Stand := s.map Place.arrive
def Place.zero : Place := ⟨0, [], 0⟩
def at_ (s : Stand) (n : Nat) : Place := s.getD n Place.zero
def posOf (s : Stand) (n : Nat) : Int := (at_ s n).hand + (at_ s n).coming.sum + (if n + 1 < s.length then (at_ s (n + 1)).owed else 0) - (at_ s n).owed
def Place.plus (p : Place) (m : Int) : Place := ⟨p.hand, p.coming.dropLast ++ [p.coming.getLastD 0 + m], p.owed⟩
def Place.sent (p : Place) (asked : Int) : Int := if p.owed + asked < p.hand then p.owed + asked else p.hand
def Place.after (p : Place) (asked : Int) : Place := ⟨p.hand - p.sent asked, p.coming, p.owed + asked - p.sent asked⟩
/-! a day -/
structure DSt where
  places : Stand
  asked : Int
  orders : List Int
  first : Int
  lost : Int
def lostOf (owed wait : Int) : Int := if owed - wait > 0 then owed - wait else 0
def DSt.step (wait : Int) (n : Nat) (h : House) (s : DSt) : DSt :=
  let p := at_ s.places n
  let q := p.after s.asked
  let l := lostOf q.owed wait
  let ps := if n = 0 then (s.places.set 0 ⟨q.hand, q.coming, q.owed - l⟩) else (s.places.set n q).set (n - 1) ((at_ (s.places.set n q) (n - 1)).plus (p.sent s.asked))
  let o := h.order (posOf ps n)
  ⟨ps, o, s.orders ++ [o], if n = 0 then p.sent s.asked else s.first, if n = 0 then l else s.lost⟩
def dayGo (wait : Int) : List House → Nat → DSt → DSt
  | [], _, s => s
  | h :: hs, n, s => dayGo wait hs (n + 1) (s.step wait n h)
def dayEnd (c : Chain) (s : Stand) (d : Int) : DSt := dayGo c.wait c.houses 0 ⟨arriveS s, d, [], 0, 0⟩
def dayS (c : Chain) (s : Stand) (d : Int) : Stand :=
  let e := dayEnd c s d
  e.places.set (e.places.length - 1) ((at_ e.places (e.places.length - 1)).plus e.asked)
structure Note where
  sent : Int
  lost : Int
  orders : List Int
deriving DecidableEq
def Note.enc (n : Note) : PyData := .tuple [.int n.sent, .int n.lost, .tuple (n.orders.map PyData.int)]
def dayN (c : Chain) (s : Stand) (d : Int) : Note :=
  let e := dayEnd c s d
  ⟨e.first, e.lost, e.orders⟩
/-- a stand of a chain by its form -/
structure Fits (c : Chain) (s : Stand) : Prop where
  len : s.length = c.houses.length
  each : ∀ p ∈ s, p.coming ≠ [] ∧ p.coming.length ≤ 4
/-! demands -/
def Band.lo (b : Band) (last : Option Int) : Int := match b.turn, last with
  | some t, some l => if l - t > b.least then l - t else b.least
  | _, _ => b.least
def Band.hi (b : Band) (last : Option Int) : Int := match b.turn, last with
  | some t, some l => if l + t < b.most then l + t else b.most
  | _, _ => b.most
def upTo (lo hi : Int) : List Int := (List.range (hi - lo).toNat).map fun (i : Nat) => lo + i
def Band.may (b : Band) (last : Option Int) : List Int := upTo (b.lo last) (b.hi last + 1)
def keepT (b : Band) (d : Int) : Option Int := match b.turn with
  | none => none
  | some _ => some d
def pairNext (one other : Chain) (b : Band) (p : PairS) (d : Int) : PairS := ⟨dayS one p.near d, dayS other p.far d, keepT b d⟩
def pairBegin (one other : Chain) : PairS := ⟨one.begin, other.begin, none⟩
end L2.U
/-! small steps of reckoning -/
namespace L2.U
open PySem PySem.Spec PyProof.Rows
theorem atI_0 {α : Type} {x : α} {xs : List α} : atI (x :: xs) (0 : Int) = some x := atI_nat (j := 0) rfl
theorem atI_1 {α : Type} {x y : α} {xs : List α} : atI (x :: y :: xs) (1 : Int) = some y := atI_nat (j := 1) rfl
theorem atI_2 {α : Type} {x y z : α} {xs : List α} : atI (x :: y :: z :: xs) (2 : Int) = some z := atI_nat (j := 2) rfl
theorem shaped_none : SeqAt.shaped .none = true := by decide
theorem shaped_int (i : Int) : SeqAt.shaped (.int i) = true := by simp [SeqAt.shaped, PyData.canLay0, PyData.depth]
theorem for_cps {g : GW} {sb : SW} (I : Nat → DRho → Nat → Prop) (Rt : PyData → Nat → Prop) (xs : List PyData) {Q : Out → Nat → Prop}
    (hs : ∀ i x ρ b (Q' : Out → Nat → Prop), xs[i]? = some x → I i ρ b → (∀ ρ2 b2, I (i + 1) ρ2 b2 → Q' (.nx ρ2) b2) → (∀ d b2, Rt d b2 → Q' (.rt d) b2) → g x ρ b fun ρ1 b1 => sb ρ1 b1 Q')
    (hd : ∀ ρ b, I xs.length ρ b → Q (.nx ρ) b) (hr : ∀ d b, Rt d b → Q (.rt d) b) {ρ : DRho} {b : Nat} (h0 : I 0 ρ b) : forD g sb xs ρ b Q := by
  have key : ∀ (ys : List PyData) (n : Nat) (ρ : DRho) (b : Nat), xs.drop n = ys → n ≤ xs.length → I n ρ b → forD g sb ys ρ b Q := by
    intro ys
    induction ys with
    | nil =>
      intro n ρ b e hn hI
      have : n = xs.length := by
        have := congrArg List.length e
        rw [List.length_drop] at this
        simp only [List.length_nil] at this
        omega
      subst this
      exact hd ρ b hI
    | cons y ys ih =>
      intro n ρ b e hn hI
      have hlt : n < xs.length := by
        have := congrArg List.length e
        rw [List.length_drop] at this
        simp only [List.length_cons] at this
        omega
      rw [List.drop_eq_getElem_cons hlt] at e
      injection e with e1 e2
      subst e1
      refine hs n _ ρ b _ (List.getElem?_eq_getElem hlt) hI (fun ρ2 b2 h2 => ?_) fun d b2 h2 => hr d b2 h2
      exact ih (n + 1) ρ2 b2 e2 hlt h2
  exact key xs 0 ρ b rfl (Nat.zero_le _) h0
theorem cmp_map {α : Type} {g : Sum Nat (List Nat)} {te : EW} {ρ : DRho} (enc out : α → PyData) : ∀ (l : List α) (b : Nat) (acc : List PyData) (Q : List PyData → Nat → Prop),
    (∀ a ∈ l, ∀ b (Q : R → Nat → Prop), Q (.d (out a)) b → lft (tgD g (enc a) ρ) fun ρ1 => te ρ1 b Q) → acc.length + l.length ≤ 1000000 → Q (acc ++ l.map out) b → cmpD g uTrue te ρ (l.map enc) b acc Q
  | [], b, acc, Q, _, _, q => by rw [List.map_nil, List.append_nil] at q; exact q
  | a :: l, b, acc, Q, h, hl, q => by
    have h1 := h a List.mem_cons_self b
    rw [List.length_cons] at hl
    rw [List.map_cons]
    show lft (tgD g (enc a) ρ) _
    refine h1 (fun r b2 => match r with | .d y => acc.length < sizeLine ∧ cmpD g uTrue te ρ (l.map enc) b2 (acc ++ [y]) Q | _ => False) ⟨by rw [sizeLine_eq]; omega, ?_⟩
    refine cmp_map enc out l b _ Q (fun z hz => h z (List.mem_cons_of_mem _ hz)) (by rw [List.length_append, List.length_singleton]; omega) ?_
    rw [List.append_assoc]
    exact q
theorem atI_map {α β : Type} (f : α → β) {l : List α} {n : Nat} {a : α} (h : l[n]? = some a) : atI (l.map f) (n : Int) = some (f a) := atI_nat (by rw [List.getElem?_map, h]; rfl)
theorem rep_zero (k : Nat) : (List.replicate ((k : Int).toNat) [PyData.int 0]).flatten = (List.replicate k (0 : Int)).map PyData.int := by
  rw [Int.toNat_natCast]
  induction k with
  | zero => rfl
  | succ k ih => rw [List.replicate_succ, List.replicate_succ, List.flatten_cons, List.map_cons, ih]; rfl
theorem vIx_t (xs : List PyData) (i : Int) : vIx (.d (.tuple xs)) (.d (.int i)) = (atI xs i).map R.d := rfl
theorem vIx_l (xs : List PyData) (i : Int) : vIx (.d (.list xs)) (.d (.int i)) = (atI xs i).map R.d := rfl
theorem vIx_o (f : Bool) (xs : List PyData) (i : Int) : vIx (.o f xs) (.d (.int i)) = (atI xs i).map R.d := rfl
theorem vLen_t (xs : List PyData) : vLen [.d (.tuple xs)] = some (.d (.int xs.length)) := rfl
theorem vLen_l (xs : List PyData) : vLen [.d (.list xs)] = some (.d (.int xs.length)) := rfl
theorem vLen_o (f : Bool) (xs : List PyData) : vLen [.o f xs] = some (.d (.int xs.length)) := rfl
theorem vTuple_o (f : Bool) (xs : List PyData) : vTuple [.o f xs] = some (.d (.tuple xs)) := rfl
theorem stor_d (x : PyData) : stor (.d x) = some (.d x) := rfl
theorem stor_o (xs : List PyData) : stor (.o true xs) = some (.o false xs) := rfl
end L2.U
/-! The program's defs: houses. -/
namespace L2.U
open PySem PySem.Spec PyProof.Rows
section
variable {P : Program} {w : World} {K : PySem.W.Frag} {mg : Str → Option Value} {base : Heap}
def pt_p_top_of : FW := fun rs b Q => ∃ h : House, rs = [.d h.enc] ∧ Q (.int h.top) b
theorem mono_p_top_of : FMono pt_p_top_of := fun rs b Q Q' hh ⟨h, e, q⟩ => ⟨h, e, hh _ _ q⟩
abbrev s_p_top_of : Stmt := topS 20
theorem sc_p_top_of : FnScope ["house", "word", "low", "more"] ["house"] (defScope s_p_top_of) := ⟨rfl, rfl, rfl, by decide +kernel, rfl, by decide +kernel, by decide +kernel⟩
theorem ok_p_top_of {f : Addr} {fd : FuncData} (F : Fun K "top_of" "top_of" s_p_top_of f fd) (hm : mg "top_of" = some (.ref f)) (hb : Binds K fd ["house"] []) (nb : Nb mg) (kc : Kc mg) :
    Can P w K mg base 1 "top_of" ["house"] pt_p_top_of := by
  exact fn_data F sc_p_top_of hm hb mono_p_top_of (fun md G cdv A outer s H E hr =>
    (pdb_cons (pds_asg (pd_ix (pv_ 0) pd_int) (pdg_tup (n := 3) rfl (pdgs_cons (pdg_name (i := 1) sc_p_top_of.nd rfl (by first | exact .inl rfl | exact .inr rfl)) (pdgs_cons (pdg_name (i := 2) sc_p_top_of.nd rfl (by first | exact .inl rfl | exact .inr rfl)) (pdgs_cons (pdg_name (i := 3) sc_p_top_of.nd rfl (by first | exact .inl rfl | exact .inr rfl)) pdgs_nil)))))
      (pdb_one (pds_ret (pd_if (pdt_eqS (pv_ 1) (pd_gstr kc.FILL (by rfl))) (pv_ 3) (pd_sub (pd_add (pv_ 2) (pv_ 3)) pd_int))))))
    (by
      rintro rs b Q hl ⟨h, rfl, q⟩
      simp only [sSeq, sNil, sAsg, sRet, sIf, sSet, sExpr, sFrz, sMove, sApp, sExt, sPar, eOp, eUn, eVar, eC, eIf, eAnd, eOr, eChain, tVal, uAnd, uOr, uNot, uTrue, eTup, eLst, eBi, eSl, partR, eIsi, eCall, eCallL, aCons, aNil, allD, dTup, dCons, dName, dNil, dSub, rho0, endD, lft, frz, stor, storAll, setAll, rtD, vIx, seqR, vII, vIC, vAdd, vSub, vMul, vFdiv, vMod, vPow, vLt, vLe, vGt, vGe, vEqS, vNeS, vIsN, vNotN, vNot, vNeg, isNo, vMin2, vMax2, vAbs, vInt1, vLen, vTuple, vList, vSum, isTy, noL, noL1, lend, scalD, R.held, R.fresh, List.map_cons, List.map_nil, List.length_cons, List.length_nil, List.cons_append, List.nil_append, List.getElem?_cons_zero, List.getElem?_cons_succ, List.set_cons_zero, List.set_cons_succ, List.replicate_succ, List.replicate_zero, Nat.zero_add, Nat.reduceAdd, Nat.reduceSub, Nat.reduceLT, Option.join_some, Option.join_none, Option.bind_some, Option.map_some, List.all_cons, List.all_nil, Bool.and_true, Bool.true_and, Bool.not_true, Bool.not_false, and_true, true_and, if_true, if_false, Bool.false_eq_true, decide_true, decide_false, reduceIte, House.enc, House.rule, atI_0, word_fill]
      unfold House.top at q
      cases e : h.fill
      · rw [e] at q
        rw [if_neg Bool.false_ne_true] at q ⊢
        exact q
      · rw [e] at q
        rw [if_pos rfl] at q ⊢
        exact q)
def pt_p_order_of : FW := fun rs b Q => ∃ (h : House) (pos : Int), h.Ok ∧ rs = [.d h.enc, .d (.int pos)] ∧ Q (.int (h.order pos)) b
theorem mono_p_order_of : FMono pt_p_order_of := fun rs b Q Q' hh ⟨h, p, o, e, q⟩ => ⟨h, p, o, e, hh _ _ q⟩
abbrev s_p_order_of : Stmt := topS 21
theorem sc_p_order_of : FnScope ["house", "position", "word", "low", "more"] ["house", "position"] (defScope s_p_order_of) := ⟨rfl, rfl, rfl, by decide +kernel, rfl, by decide +kernel, by decide +kernel⟩
theorem ok_p_order_of {f : Addr} {fd : FuncData} (F : Fun K "order_of" "order_of" s_p_order_of f fd) (hm : mg "order_of" = some (.ref f)) (hb : Binds K fd ["house", "position"] []) (nb : Nb mg) (kc : Kc mg) :
    Can P w K mg base 1 "order_of" ["house", "position"] pt_p_order_of := by
  exact fn_data F sc_p_order_of hm hb mono_p_order_of (fun md G cdv A outer s H E hr =>
    (pdb_cons (pds_asg (pd_ix (pv_ 0) pd_int) (pdg_tup (n := 3) rfl (pdgs_cons (pdg_name (i := 2) sc_p_order_of.nd rfl (by first | exact .inl rfl | exact .inr rfl)) (pdgs_cons (pdg_name (i := 3) sc_p_order_of.nd rfl (by first | exact .inl rfl | exact .inr rfl)) (pdgs_cons (pdg_name (i := 4) sc_p_order_of.nd rfl (by first | exact .inl rfl | exact .inr rfl)) pdgs_nil)))))
      (pdb_cons (pds_if (pdt_ge (pv_ 1) (pv_ 3)) (pdb_one (pds_ret pd_int)) pdb_nil)
      (pdb_one (pds_ret (pd_if (pdt_eqS (pv_ 2) (pd_gstr kc.FILL (by rfl))) (pd_sub (pv_ 4) (pv_ 1)) (pd_mul (pd_fdiv (pd_sub (pd_add (pd_sub (pv_ 3) (pv_ 1)) (pv_ 4)) pd_int) (pv_ 4)) (pv_ 4))))))))
    (by
      rintro rs b Q hl ⟨h, pos, ok, rfl, q⟩
      simp only [sSeq, sNil, sAsg, sRet, sIf, sSet, sExpr, sFrz, sMove, sApp, sExt, sPar, eOp, eUn, eVar, eC, eIf, eAnd, eOr, eChain, tVal, uAnd, uOr, uNot, uTrue, eTup, eLst, eBi, eSl, partR, eIsi, eCall, eCallL, aCons, aNil, allD, dTup, dCons, dName, dNil, dSub, rho0, endD, lft, frz, stor, storAll, setAll, rtD, vIx, seqR, vII, vIC, vAdd, vSub, vMul, vFdiv, vMod, vPow, vLt, vLe, vGt, vGe, vEqS, vNeS, vIsN, vNotN, vNot, vNeg, isNo, vMin2, vMax2, vAbs, vInt1, vLen, vTuple, vList, vSum, isTy, noL, noL1, lend, scalD, R.held, R.fresh, List.map_cons, List.map_nil, List.length_cons, List.length_nil, List.cons_append, List.nil_append, List.getElem?_cons_zero, List.getElem?_cons_succ, List.set_cons_zero, List.set_cons_succ, List.replicate_succ, List.replicate_zero, Nat.zero_add, Nat.reduceAdd, Nat.reduceSub, Nat.reduceLT, Option.join_some, Option.join_none, Option.bind_some, Option.map_some, List.all_cons, List.all_nil, Bool.and_true, Bool.true_and, Bool.not_true, Bool.not_false, and_true, true_and, if_true, if_false, Bool.false_eq_true, decide_true, decide_false, reduceIte, House.enc, House.rule, atI_0, word_fill]
      unfold House.order at q
      have hm := ok.more
      by_cases e1 : h.low ≤ pos
      · rw [if_pos e1] at q
        rw [if_pos (decide_eq_true e1)]
        exact q
      · rw [if_neg e1] at q
        rw [if_neg (by rw [decide_eq_false e1]; exact Bool.false_ne_true)]
        cases e : h.fill
        · rw [e] at q hm
          rw [if_neg Bool.false_ne_true] at q hm ⊢
          have s1 : smallB h.more = true := by unfold smallB; rw [decide_eq_true (by omega), decide_eq_true (by omega)]; rfl
          rw [decide_eq_true (by omega : 0 < h.more), decide_eq_true (by omega : h.more < 1073741824)]
          simp only [sSeq, sNil, sAsg, sRet, sIf, sSet, sExpr, sFrz, sMove, sApp, sExt, sPar, eOp, eUn, eVar, eC, eIf, eAnd, eOr, eChain, tVal, uAnd, uOr, uNot, uTrue, eTup, eLst, eBi, eSl, partR, eIsi, eCall, eCallL, aCons, aNil, allD, dTup, dCons, dName, dNil, dSub, rho0, endD, lft, frz, stor, storAll, setAll, rtD, vIx, seqR, vII, vIC, vAdd, vSub, vMul, vFdiv, vMod, vPow, vLt, vLe, vGt, vGe, vEqS, vNeS, vIsN, vNotN, vNot, vNeg, isNo, vMin2, vMax2, vAbs, vInt1, vLen, vTuple, vList, vSum, isTy, noL, noL1, lend, scalD, R.held, R.fresh, List.map_cons, List.map_nil, List.length_cons, List.length_nil, List.cons_append, List.nil_append, List.getElem?_cons_zero, List.getElem?_cons_succ, List.set_cons_zero, List.set_cons_succ, List.replicate_succ, List.replicate_zero, Nat.zero_add, Nat.reduceAdd, Nat.reduceSub, Nat.reduceLT, Option.join_some, Option.join_none, Option.bind_some, Option.map_some, List.all_cons, List.all_nil, Bool.and_true, Bool.true_and, Bool.not_true, Bool.not_false, and_true, true_and, if_true, if_false, Bool.false_eq_true, decide_true, decide_false, reduceIte, s1, Bool.or_true]
          exact q
        · rw [e] at q
          rw [if_pos rfl] at q ⊢
          exact q)
def pt_p_is_whole : FW := fun rs b Q => ∃ (v lo hi : Int), rs = [.d (.int v), .d (.int lo), .d (.int hi)] ∧ Q (.bool (decide (lo ≤ v) && decide (v ≤ hi))) b
theorem mono_p_is_whole : FMono pt_p_is_whole := fun rs b Q Q' hh ⟨v, lo, hi, e, q⟩ => ⟨v, lo, hi, e, hh _ _ q⟩
abbrev s_p_is_whole : Stmt := topS 15
theorem sc_p_is_whole : FnScope ["value", "least", "most"] ["value", "least", "most"] (defScope s_p_is_whole) := ⟨rfl, rfl, rfl, by decide +kernel, rfl, by decide +kernel, by decide +kernel⟩
theorem ok_p_is_whole {f : Addr} {fd : FuncData} (F : Fun K "is_whole" "is_whole" s_p_is_whole f fd) (hm : mg "is_whole" = some (.ref f)) (hb : Binds K fd ["value", "least", "most"] []) (nb : Nb mg) (kc : Kc mg) :
    Can P w K mg base 1 "is_whole" ["value", "least", "most"] pt_p_is_whole := by
  exact fn_data F sc_p_is_whole hm hb mono_p_is_whole (fun md G cdv A outer s H E hr =>
    (pdb_one (pds_ret (pd_and (pd_isi .int rfl (by decide +kernel) (by rfl) nb.isinstance (by rfl) nb.int (pv_ 0)) (pd_and (pd_not (pd_isi .bool rfl (by decide +kernel) (by rfl) nb.isinstance (by rfl) nb.bool (pv_ 0))) (pd_one (pd_chainLL (pv_ 1) (pv_ 0) (pv_ 2))))))))
    (by
      rintro rs b Q hl ⟨v, lo, hi, rfl, q⟩
      simp only [sSeq, sNil, sAsg, sRet, sIf, sSet, sExpr, sFrz, sMove, sApp, sExt, sPar, eOp, eUn, eVar, eC, eIf, eAnd, eOr, eChain, tVal, uAnd, uOr, uNot, uTrue, eTup, eLst, eBi, eSl, partR, eIsi, eCall, eCallL, aCons, aNil, allD, dTup, dCons, dName, dNil, dSub, rho0, endD, lft, frz, stor, storAll, setAll, rtD, vIx, seqR, vII, vIC, vAdd, vSub, vMul, vFdiv, vMod, vPow, vLt, vLe, vGt, vGe, vEqS, vNeS, vIsN, vNotN, vNot, vNeg, isNo, vMin2, vMax2, vAbs, vInt1, vLen, vTuple, vList, vSum, isTy, noL, noL1, lend, scalD, R.held, R.fresh, List.map_cons, List.map_nil, List.length_cons, List.length_nil, List.cons_append, List.nil_append, List.getElem?_cons_zero, List.getElem?_cons_succ, List.set_cons_zero, List.set_cons_succ, List.replicate_succ, List.replicate_zero, Nat.zero_add, Nat.reduceAdd, Nat.reduceSub, Nat.reduceLT, Option.join_some, Option.join_none, Option.bind_some, Option.map_some, List.all_cons, List.all_nil, Bool.and_true, Bool.true_and, Bool.not_true, Bool.not_false, and_true, true_and, if_true, if_false, Bool.false_eq_true, decide_true, decide_false, reduceIte]
      by_cases e1 : lo ≤ v
      · rw [decide_eq_true e1] at q ⊢
        exact q
      · rw [decide_eq_false e1] at q ⊢
        exact q)
end
end L2.U
/-! The program's defs: what is right. -/
namespace L2.U
open PySem PySem.Spec PyProof.Rows
section
variable {P : Program} {w : World} {K : PySem.W.Frag} {mg : Str → Option Value} {base : Heap}
def pt_p_is_rule : FW := fun rs b Q => ∃ h : House, h.Ok ∧ rs = [.d h.rule] ∧ Q (.bool true) b
theorem mono_p_is_rule : FMono pt_p_is_rule := fun rs b Q Q' hh ⟨v, o, e, q⟩ => ⟨v, o, e, hh _ _ q⟩
abbrev s_p_is_rule : Stmt := topS 16
theorem sc_p_is_rule : FnScope ["value"] ["value"] (defScope s_p_is_rule) := ⟨rfl, rfl, rfl, by decide +kernel, rfl, by decide +kernel, by decide +kernel⟩
theorem ok_p_is_rule {f : Addr} {fd : FuncData} (F : Fun K "is_rule" "is_rule" s_p_is_rule f fd) (hm : mg "is_rule" = some (.ref f)) (hb : Binds K fd ["value"] []) (nb : Nb mg) (kc : Kc mg) (C_p_is_whole : Can P w K mg base 1 "is_whole" ["value", "least", "most"] pt_p_is_whole) :
    Can P w K mg base 2 "is_rule" ["value"] pt_p_is_rule := by
  exact fn_data F sc_p_is_rule hm hb mono_p_is_rule (fun md G cdv A outer s H E hr =>
    (pdb_cons (pds_if (pdt_w (pdw_or (pdt_not (pdt_val (pd_isi .tuple rfl (by decide +kernel) (by rfl) nb.isinstance (by rfl) nb.tuple (pv_ 0)))) (pdw_or (pdt_neS (pd_len (by rfl) nb.len (pda_cons (pv_ 0) pda_nil)) pd_int) (pdw_or1 (pdt_not (pdt_val (pd_isi .str rfl (by decide +kernel) (by rfl) nb.isinstance (by rfl) nb.str (pd_ix (pv_ 0) pd_int)))))))) (pdb_one (pds_ret pd_bl)) pdb_nil)
      (pdb_cons (pds_if (pdt_not (pdt_val (pd_call C_p_is_whole (hr.mono (by decide)) (by rfl) (pda_cons (pd_ix (pv_ 0) pd_int) (pda_cons pd_int (pda_cons (pd_gint kc.MOST_LEVEL (by rfl)) pda_nil)))))) (pdb_one (pds_ret pd_bl)) pdb_nil)
      (pdb_cons (pds_if (pdt_eqS (pd_ix (pv_ 0) pd_int) (pd_gstr kc.FILL (by rfl))) (pdb_one (pds_ret (pd_call C_p_is_whole (hr.mono (by decide)) (by rfl) (pda_cons (pd_ix (pv_ 0) pd_int) (pda_cons (pd_ix (pv_ 0) pd_int) (pda_cons (pd_gint kc.MOST_LEVEL (by rfl)) pda_nil)))))) pdb_nil)
      (pdb_one (pds_ret (pd_and (pd_eqS (pd_ix (pv_ 0) pd_int) (pd_gstr kc.PACKS (by rfl))) (pd_one (pd_call C_p_is_whole (hr.mono (by decide)) (by rfl) (pda_cons (pd_ix (pv_ 0) pd_int) (pda_cons pd_int (pda_cons (pd_gint kc.MOST_SIZE (by rfl)) pda_nil))))))))))))
    (by
      rintro rs b Q hl ⟨h, ok, rfl, q⟩
      have hm := ok.more
      simp only [sSeq, sNil, sAsg, sRet, sIf, sSet, sExpr, sFrz, sMove, sApp, sExt, sPar, eOp, eUn, eVar, eC, eIf, eAnd, eOr, eChain, tVal, uAnd, uOr, uNot, uTrue, eTup, eLst, eBi, eSl, partR, eIsi, eCall, eCallL, aCons, aNil, allD, dTup, dCons, dName, dNil, dSub, rho0, endD, lft, frz, stor, storAll, setAll, rtD, vIx, seqR, vII, vIC, vAdd, vSub, vMul, vFdiv, vMod, vPow, vLt, vLe, vGt, vGe, vEqS, vNeS, vIsN, vNotN, vNot, vNeg, isNo, vMin2, vMax2, vAbs, vInt1, vLen, vTuple, vList, vSum, isTy, noL, noL1, lend, scalD, R.held, R.fresh, List.map_cons, List.map_nil, List.length_cons, List.length_nil, List.cons_append, List.nil_append, List.getElem?_cons_zero, List.getElem?_cons_succ, List.set_cons_zero, List.set_cons_succ, List.replicate_succ, List.replicate_zero, Nat.zero_add, Nat.reduceAdd, Nat.reduceSub, Nat.reduceLT, Option.join_some, Option.join_none, Option.bind_some, Option.map_some, List.all_cons, List.all_nil, Bool.and_true, Bool.true_and, Bool.not_true, Bool.not_false, and_true, true_and, if_true, if_false, Bool.false_eq_true, decide_true, decide_false, reduceIte, House.rule, atI_0, atI_1, atI_2, word_fill, word_packs]
      refine ⟨_, _, _, rfl, ?_⟩
      rw [decide_eq_true ok.low.1, decide_eq_true ok.low.2]
      simp only [sSeq, sNil, sAsg, sRet, sIf, sSet, sExpr, sFrz, sMove, sApp, sExt, sPar, eOp, eUn, eVar, eC, eIf, eAnd, eOr, eChain, tVal, uAnd, uOr, uNot, uTrue, eTup, eLst, eBi, eSl, partR, eIsi, eCall, eCallL, aCons, aNil, allD, dTup, dCons, dName, dNil, dSub, rho0, endD, lft, frz, stor, storAll, setAll, rtD, vIx, seqR, vII, vIC, vAdd, vSub, vMul, vFdiv, vMod, vPow, vLt, vLe, vGt, vGe, vEqS, vNeS, vIsN, vNotN, vNot, vNeg, isNo, vMin2, vMax2, vAbs, vInt1, vLen, vTuple, vList, vSum, isTy, noL, noL1, lend, scalD, R.held, R.fresh, List.map_cons, List.map_nil, List.length_cons, List.length_nil, List.cons_append, List.nil_append, List.getElem?_cons_zero, List.getElem?_cons_succ, List.set_cons_zero, List.set_cons_succ, List.replicate_succ, List.replicate_zero, Nat.zero_add, Nat.reduceAdd, Nat.reduceSub, Nat.reduceLT, Option.join_some, Option.join_none, Option.bind_some, Option.map_some, List.all_cons, List.all_nil, Bool.and_true, Bool.true_and, Bool.not_true, Bool.not_false, and_true, true_and, if_true, if_false, Bool.false_eq_true, decide_true, decide_false, reduceIte]
      cases e : h.fill
      · rw [e, if_neg Bool.false_ne_true] at hm
        rw [if_neg Bool.false_ne_true]
        simp only [sSeq, sNil, sAsg, sRet, sIf, sSet, sExpr, sFrz, sMove, sApp, sExt, sPar, eOp, eUn, eVar, eC, eIf, eAnd, eOr, eChain, tVal, uAnd, uOr, uNot, uTrue, eTup, eLst, eBi, eSl, partR, eIsi, eCall, eCallL, aCons, aNil, allD, dTup, dCons, dName, dNil, dSub, rho0, endD, lft, frz, stor, storAll, setAll, rtD, vIx, seqR, vII, vIC, vAdd, vSub, vMul, vFdiv, vMod, vPow, vLt, vLe, vGt, vGe, vEqS, vNeS, vIsN, vNotN, vNot, vNeg, isNo, vMin2, vMax2, vAbs, vInt1, vLen, vTuple, vList, vSum, isTy, noL, noL1, lend, scalD, R.held, R.fresh, List.map_cons, List.map_nil, List.length_cons, List.length_nil, List.cons_append, List.nil_append, List.getElem?_cons_zero, List.getElem?_cons_succ, List.set_cons_zero, List.set_cons_succ, List.replicate_succ, List.replicate_zero, Nat.zero_add, Nat.reduceAdd, Nat.reduceSub, Nat.reduceLT, Option.join_some, Option.join_none, Option.bind_some, Option.map_some, List.all_cons, List.all_nil, Bool.and_true, Bool.true_and, Bool.not_true, Bool.not_false, and_true, true_and, if_true, if_false, Bool.false_eq_true, decide_true, decide_false, reduceIte]
        refine ⟨_, _, _, rfl, ?_⟩
        rw [decide_eq_true hm.1, decide_eq_true hm.2]
        exact q
      · rw [e, if_pos rfl] at hm
        rw [if_pos rfl]
        refine ⟨_, _, _, rfl, ?_⟩
        rw [decide_eq_true hm.1, decide_eq_true hm.2]
        exact q)
def pt_p_is_house : FW := fun rs b Q => ∃ h : House, h.Ok ∧ rs = [.d h.enc] ∧ Q (.bool true) b
theorem mono_p_is_house : FMono pt_p_is_house := fun rs b Q Q' hh ⟨v, o, e, q⟩ => ⟨v, o, e, hh _ _ q⟩
abbrev s_p_is_house : Stmt := topS 17
theorem sc_p_is_house : FnScope ["value"] ["value"] (defScope s_p_is_house) := ⟨rfl, rfl, rfl, by decide +kernel, rfl, by decide +kernel, by decide +kernel⟩
theorem ok_p_is_house {f : Addr} {fd : FuncData} (F : Fun K "is_house" "is_house" s_p_is_house f fd) (hm : mg "is_house" = some (.ref f)) (hb : Binds K fd ["value"] []) (nb : Nb mg) (kc : Kc mg) (C_p_is_rule : Can P w K mg base 2 "is_rule" ["value"] pt_p_is_rule) (C_p_is_whole : Can P w K mg base 1 "is_whole" ["value", "least", "most"] pt_p_is_whole) :
    Can P w K mg base 3 "is_house" ["value"] pt_p_is_house := by
  exact fn_data F sc_p_is_house hm hb mono_p_is_house (fun md G cdv A outer s H E hr =>
    (pdb_one (pds_ret (pd_and (pd_isi .tuple rfl (by decide +kernel) (by rfl) nb.isinstance (by rfl) nb.tuple (pv_ 0)) (pd_and (pd_eqS (pd_len (by rfl) nb.len (pda_cons (pv_ 0) pda_nil)) pd_int) (pd_and (pd_call C_p_is_rule (hr.mono (by decide)) (by rfl) (pda_cons (pd_ix (pv_ 0) pd_int) pda_nil)) (pd_one (pd_call C_p_is_whole (hr.mono (by decide)) (by rfl) (pda_cons (pd_ix (pv_ 0) pd_int) (pda_cons pd_int (pda_cons (pd_gint kc.MOST_DELAY (by rfl)) pda_nil)))))))))))
    (by
      rintro rs b Q hl ⟨h, ok, rfl, q⟩
      simp only [sSeq, sNil, sAsg, sRet, sIf, sSet, sExpr, sFrz, sMove, sApp, sExt, sPar, eOp, eUn, eVar, eC, eIf, eAnd, eOr, eChain, tVal, uAnd, uOr, uNot, uTrue, eTup, eLst, eBi, eSl, partR, eIsi, eCall, eCallL, aCons, aNil, allD, dTup, dCons, dName, dNil, dSub, rho0, endD, lft, frz, stor, storAll, setAll, rtD, vIx, seqR, vII, vIC, vAdd, vSub, vMul, vFdiv, vMod, vPow, vLt, vLe, vGt, vGe, vEqS, vNeS, vIsN, vNotN, vNot, vNeg, isNo, vMin2, vMax2, vAbs, vInt1, vLen, vTuple, vList, vSum, isTy, noL, noL1, lend, scalD, R.held, R.fresh, List.map_cons, List.map_nil, List.length_cons, List.length_nil, List.cons_append, List.nil_append, List.getElem?_cons_zero, List.getElem?_cons_succ, List.set_cons_zero, List.set_cons_succ, List.replicate_succ, List.replicate_zero, Nat.zero_add, Nat.reduceAdd, Nat.reduceSub, Nat.reduceLT, Option.join_some, Option.join_none, Option.bind_some, Option.map_some, List.all_cons, List.all_nil, Bool.and_true, Bool.true_and, Bool.not_true, Bool.not_false, and_true, true_and, if_true, if_false, Bool.false_eq_true, decide_true, decide_false, reduceIte, House.enc, atI_0, atI_1, atI_2]
      refine ⟨h, ok, rfl, ?_⟩
      simp only [sSeq, sNil, sAsg, sRet, sIf, sSet, sExpr, sFrz, sMove, sApp, sExt, sPar, eOp, eUn, eVar, eC, eIf, eAnd, eOr, eChain, tVal, uAnd, uOr, uNot, uTrue, eTup, eLst, eBi, eSl, partR, eIsi, eCall, eCallL, aCons, aNil, allD, dTup, dCons, dName, dNil, dSub, rho0, endD, lft, frz, stor, storAll, setAll, rtD, vIx, seqR, vII, vIC, vAdd, vSub, vMul, vFdiv, vMod, vPow, vLt, vLe, vGt, vGe, vEqS, vNeS, vIsN, vNotN, vNot, vNeg, isNo, vMin2, vMax2, vAbs, vInt1, vLen, vTuple, vList, vSum, isTy, noL, noL1, lend, scalD, R.held, R.fresh, List.map_cons, List.map_nil, List.length_cons, List.length_nil, List.cons_append, List.nil_append, List.getElem?_cons_zero, List.getElem?_cons_succ, List.set_cons_zero, List.set_cons_succ, List.replicate_succ, List.replicate_zero, Nat.zero_add, Nat.reduceAdd, Nat.reduceSub, Nat.reduceLT, Option.join_some, Option.join_none, Option.bind_some, Option.map_some, List.all_cons, List.all_nil, Bool.and_true, Bool.true_and, Bool.not_true, Bool.not_false, and_true, true_and, if_true, if_false, Bool.false_eq_true, decide_true, decide_false, reduceIte]
      refine ⟨_, _, _, rfl, ?_⟩
      rw [decide_eq_true (by have := ok.late.1; omega), decide_eq_true (by have := ok.late.2; omega)]
      exact q)
def pt_p_need_chain : FW := fun rs b Q => ∃ c : Chain, c.Ok ∧ rs = [.d c.enc] ∧ Q c.enc b
theorem mono_p_need_chain : FMono pt_p_need_chain := fun rs b Q Q' hh ⟨v, o, e, q⟩ => ⟨v, o, e, hh _ _ q⟩
theorem need_loop (ce : PyData) : ∀ (hs : List House) (n : Nat) (x y : Option R) (b : Nat) (Q : Out → Nat → Prop), (∀ h ∈ hs, h.Ok) → (∀ x y, Q (.nx [some (.d ce), x, y]) b) →
    forD (dTup 2 (dCons (dName 1) (dCons (dName 2) dNil))) (sIf (uNot (tVal (eCall pt_p_is_house (aCons (eVar 2) aNil)))) sNever sNil) (enumD n (hs.map House.enc)) [some (.d ce), x, y] b Q
  | [], n, x, y, b, Q, _, q => q x y
  | h :: hs, n, x, y, b, Q, ok, q => by
    simp only [sSeq, sNil, sAsg, sRet, sIf, sSet, sExpr, sFrz, sMove, sApp, sExt, sPar, eOp, eUn, eVar, eC, eIf, eAnd, eOr, eChain, tVal, uAnd, uOr, uNot, uTrue, eTup, eLst, eBi, eSl, partR, eIsi, eCall, eCallL, aCons, aNil, allD, dTup, dCons, dName, dNil, dSub, rho0, endD, lft, frz, stor, storAll, setAll, rtD, vIx, seqR, vII, vIC, vAdd, vSub, vMul, vFdiv, vMod, vPow, vLt, vLe, vGt, vGe, vEqS, vNeS, vIsN, vNotN, vNot, vNeg, isNo, vMin2, vMax2, vAbs, vInt1, vLen, vTuple, vList, vSum, isTy, noL, noL1, lend, scalD, R.held, R.fresh, List.map_cons, List.map_nil, List.length_cons, List.length_nil, List.cons_append, List.nil_append, List.getElem?_cons_zero, List.getElem?_cons_succ, List.set_cons_zero, List.set_cons_succ, List.replicate_succ, List.replicate_zero, Nat.zero_add, Nat.reduceAdd, Nat.reduceSub, Nat.reduceLT, Option.join_some, Option.join_none, Option.bind_some, Option.map_some, List.all_cons, List.all_nil, Bool.and_true, Bool.true_and, Bool.not_true, Bool.not_false, and_true, true_and, if_true, if_false, Bool.false_eq_true, decide_true, decide_false, reduceIte, forD, enumD]
    refine ⟨h, ok h List.mem_cons_self, rfl, ?_⟩
    simp only [sSeq, sNil, sAsg, sRet, sIf, sSet, sExpr, sFrz, sMove, sApp, sExt, sPar, eOp, eUn, eVar, eC, eIf, eAnd, eOr, eChain, tVal, uAnd, uOr, uNot, uTrue, eTup, eLst, eBi, eSl, partR, eIsi, eCall, eCallL, aCons, aNil, allD, dTup, dCons, dName, dNil, dSub, rho0, endD, lft, frz, stor, storAll, setAll, rtD, vIx, seqR, vII, vIC, vAdd, vSub, vMul, vFdiv, vMod, vPow, vLt, vLe, vGt, vGe, vEqS, vNeS, vIsN, vNotN, vNot, vNeg, isNo, vMin2, vMax2, vAbs, vInt1, vLen, vTuple, vList, vSum, isTy, noL, noL1, lend, scalD, R.held, R.fresh, List.map_cons, List.map_nil, List.length_cons, List.length_nil, List.cons_append, List.nil_append, List.getElem?_cons_zero, List.getElem?_cons_succ, List.set_cons_zero, List.set_cons_succ, List.replicate_succ, List.replicate_zero, Nat.zero_add, Nat.reduceAdd, Nat.reduceSub, Nat.reduceLT, Option.join_some, Option.join_none, Option.bind_some, Option.map_some, List.all_cons, List.all_nil, Bool.and_true, Bool.true_and, Bool.not_true, Bool.not_false, and_true, true_and, if_true, if_false, Bool.false_eq_true, decide_true, decide_false, reduceIte]
    exact need_loop ce hs (n + 1) _ _ b Q (fun z hz => ok z (List.mem_cons_of_mem _ hz)) q
abbrev s_p_need_chain : Stmt := topS 18
theorem sc_p_need_chain : FnScope ["chain", "number", "house"] ["chain"] (defScope s_p_need_chain) := ⟨rfl, rfl, rfl, by decide +kernel, rfl, by decide +kernel, by decide +kernel⟩
theorem ok_p_need_chain {f : Addr} {fd : FuncData} (F : Fun K "need_chain" "need_chain" s_p_need_chain f fd) (hm : mg "need_chain" = some (.ref f)) (hb : Binds K fd ["chain"] []) (nb : Nb mg) (kc : Kc mg) (C_p_is_whole : Can P w K mg base 1 "is_whole" ["value", "least", "most"] pt_p_is_whole) (C_p_is_house : Can P w K mg base 3 "is_house" ["value"] pt_p_is_house) :
    Can P w K mg base 4 "need_chain" ["chain"] pt_p_need_chain := by
  exact fn_data F sc_p_need_chain hm hb mono_p_need_chain (fun md G cdv A outer s H E hr =>
    (pdb_cons (pds_if (pdt_w (pdw_or (pdt_not (pdt_val (pd_isi .tuple rfl (by decide +kernel) (by rfl) nb.isinstance (by rfl) nb.tuple (pv_ 0)))) (pdw_or1 (pdt_neS (pd_len (by rfl) nb.len (pda_cons (pv_ 0) pda_nil)) pd_int)))) (pdb_one pds_never) pdb_nil)
      (pdb_cons (pds_if (pdt_w (pdw_or (pdt_not (pdt_val (pd_isi .tuple rfl (by decide +kernel) (by rfl) nb.isinstance (by rfl) nb.tuple (pd_ix (pv_ 0) pd_int)))) (pdw_or1 (pdt_not (pdt_chainLL pd_int (pd_len (by rfl) nb.len (pda_cons (pd_ix (pv_ 0) pd_int) pda_nil)) (pd_gint kc.MOST_HOUSES (by rfl))))))) (pdb_one pds_never) pdb_nil)
      (pdb_cons (pds_for PassesOwn.never rfl (pdi_enumT (by rfl) nb.enumerate (pda_cons (pd_ix (pv_ 0) pd_int) pda_nil)) (pdg_tup (n := 2) rfl (pdgs_cons (pdg_name (i := 1) sc_p_need_chain.nd rfl (by first | exact .inl rfl | exact .inr rfl)) (pdgs_cons (pdg_name (i := 2) sc_p_need_chain.nd rfl (by first | exact .inl rfl | exact .inr rfl)) pdgs_nil))) (pdb_one (pds_if (pdt_not (pdt_val (pd_call C_p_is_house (hr.mono (by decide)) (by rfl) (pda_cons (pv_ 2) pda_nil)))) (pdb_one pds_never) pdb_nil)))
      (pdb_cons (pds_if (pdt_not (pdt_val (pd_call C_p_is_whole (hr.mono (by decide)) (by rfl) (pda_cons (pd_ix (pv_ 0) pd_int) (pda_cons pd_int (pda_cons (pd_gint kc.MOST_WAIT (by rfl)) pda_nil)))))) (pdb_one pds_never) pdb_nil)
      (pdb_one (pds_ret (pv_ 0))))))))
    (by
      rintro rs b Q hl ⟨c, ok, rfl, q⟩
      have h1 : (1 : Int) ≤ (c.houses.length : Int) := by have := ok.some.1; omega
      have h2 : (c.houses.length : Int) ≤ 3 := by have := ok.some.2; omega
      simp only [sSeq, sNil, sAsg, sRet, sIf, sSet, sExpr, sFrz, sMove, sApp, sExt, sPar, eOp, eUn, eVar, eC, eIf, eAnd, eOr, eChain, tVal, uAnd, uOr, uNot, uTrue, eTup, eLst, eBi, eSl, partR, eIsi, eCall, eCallL, aCons, aNil, allD, dTup, dCons, dName, dNil, dSub, rho0, endD, lft, frz, stor, storAll, setAll, rtD, vIx, seqR, vII, vIC, vAdd, vSub, vMul, vFdiv, vMod, vPow, vLt, vLe, vGt, vGe, vEqS, vNeS, vIsN, vNotN, vNot, vNeg, isNo, vMin2, vMax2, vAbs, vInt1, vLen, vTuple, vList, vSum, isTy, noL, noL1, lend, scalD, R.held, R.fresh, List.map_cons, List.map_nil, List.length_cons, List.length_nil, List.cons_append, List.nil_append, List.getElem?_cons_zero, List.getElem?_cons_succ, List.set_cons_zero, List.set_cons_succ, List.replicate_succ, List.replicate_zero, Nat.zero_add, Nat.reduceAdd, Nat.reduceSub, Nat.reduceLT, Option.join_some, Option.join_none, Option.bind_some, Option.map_some, List.all_cons, List.all_nil, Bool.and_true, Bool.true_and, Bool.not_true, Bool.not_false, and_true, true_and, if_true, if_false, Bool.false_eq_true, decide_true, decide_false, reduceIte, Chain.enc, atI_0, atI_1, atI_2, sFor, iEnumT, List.length_map, decide_eq_true h1, decide_eq_true h2]
      refine need_loop _ c.houses 0 _ _ b _ ok.each fun x y => ?_
      simp only [sSeq, sNil, sAsg, sRet, sIf, sSet, sExpr, sFrz, sMove, sApp, sExt, sPar, eOp, eUn, eVar, eC, eIf, eAnd, eOr, eChain, tVal, uAnd, uOr, uNot, uTrue, eTup, eLst, eBi, eSl, partR, eIsi, eCall, eCallL, aCons, aNil, allD, dTup, dCons, dName, dNil, dSub, rho0, endD, lft, frz, stor, storAll, setAll, rtD, vIx, seqR, vII, vIC, vAdd, vSub, vMul, vFdiv, vMod, vPow, vLt, vLe, vGt, vGe, vEqS, vNeS, vIsN, vNotN, vNot, vNeg, isNo, vMin2, vMax2, vAbs, vInt1, vLen, vTuple, vList, vSum, isTy, noL, noL1, lend, scalD, R.held, R.fresh, List.map_cons, List.map_nil, List.length_cons, List.length_nil, List.cons_append, List.nil_append, List.getElem?_cons_zero, List.getElem?_cons_succ, List.set_cons_zero, List.set_cons_succ, List.replicate_succ, List.replicate_zero, Nat.zero_add, Nat.reduceAdd, Nat.reduceSub, Nat.reduceLT, Option.join_some, Option.join_none, Option.bind_some, Option.map_some, List.all_cons, List.all_nil, Bool.and_true, Bool.true_and, Bool.not_true, Bool.not_false, and_true, true_and, if_true, if_false, Bool.false_eq_true, decide_true, decide_false, reduceIte, Chain.enc, atI_0, atI_1, atI_2]
      refine ⟨_, _, _, rfl, ?_⟩
      rw [decide_eq_true ok.wait.1, decide_eq_true ok.wait.2]
      exact q)
def pt_p_need_band : FW := fun rs b Q => ∃ c : Band, c.Ok ∧ rs = [.d c.enc] ∧ Q c.enc b
theorem mono_p_need_band : FMono pt_p_need_band := fun rs b Q Q' hh ⟨v, o, e, q⟩ => ⟨v, o, e, hh _ _ q⟩
abbrev s_p_need_band : Stmt := topS 19
theorem sc_p_need_band : FnScope ["band"] ["band"] (defScope s_p_need_band) := ⟨rfl, rfl, rfl, by decide +kernel, rfl, by decide +kernel, by decide +kernel⟩
theorem ok_p_need_band {f : Addr} {fd : FuncData} (F : Fun K "need_band" "need_band" s_p_need_band f fd) (hm : mg "need_band" = some (.ref f)) (hb : Binds K fd ["band"] []) (nb : Nb mg) (kc : Kc mg) (C_p_is_whole : Can P w K mg base 1 "is_whole" ["value", "least", "most"] pt_p_is_whole) :
    Can P w K mg base 2 "need_band" ["band"] pt_p_need_band := by
  exact fn_data F sc_p_need_band hm hb mono_p_need_band (fun md G cdv A outer s H E hr =>
    (pdb_cons (pds_if (pdt_w (pdw_or (pdt_not (pdt_val (pd_isi .tuple rfl (by decide +kernel) (by rfl) nb.isinstance (by rfl) nb.tuple (pv_ 0)))) (pdw_or1 (pdt_neS (pd_len (by rfl) nb.len (pda_cons (pv_ 0) pda_nil)) pd_int)))) (pdb_one pds_never) pdb_nil)
      (pdb_cons (pds_if (pdt_not (pdt_val (pd_call C_p_is_whole (hr.mono (by decide)) (by rfl) (pda_cons (pd_ix (pv_ 0) pd_int) (pda_cons pd_int (pda_cons (pd_gint kc.MOST_DEMAND (by rfl)) pda_nil)))))) (pdb_one pds_never) pdb_nil)
      (pdb_cons (pds_if (pdt_not (pdt_val (pd_call C_p_is_whole (hr.mono (by decide)) (by rfl) (pda_cons (pd_ix (pv_ 0) pd_int) (pda_cons (pd_ix (pv_ 0) pd_int) (pda_cons (pd_gint kc.MOST_DEMAND (by rfl)) pda_nil)))))) (pdb_one pds_never) pdb_nil)
      (pdb_cons (pds_if (pdt_w (pdw_and (pdt_notN (pd_ix (pv_ 0) pd_int) pd_non) (pdw_and1 (pdt_not (pdt_val (pd_call C_p_is_whole (hr.mono (by decide)) (by rfl) (pda_cons (pd_ix (pv_ 0) pd_int) (pda_cons pd_int (pda_cons (pd_gint kc.MOST_DEMAND (by rfl)) pda_nil))))))))) (pdb_one pds_never) pdb_nil)
      (pdb_one (pds_ret (pv_ 0))))))))
    (by
      rintro rs b Q hl ⟨c, ok, rfl, q⟩
      simp only [sSeq, sNil, sAsg, sRet, sIf, sSet, sExpr, sFrz, sMove, sApp, sExt, sPar, eOp, eUn, eVar, eC, eIf, eAnd, eOr, eChain, tVal, uAnd, uOr, uNot, uTrue, eTup, eLst, eBi, eSl, partR, eIsi, eCall, eCallL, aCons, aNil, allD, dTup, dCons, dName, dNil, dSub, rho0, endD, lft, frz, stor, storAll, setAll, rtD, vIx, seqR, vII, vIC, vAdd, vSub, vMul, vFdiv, vMod, vPow, vLt, vLe, vGt, vGe, vEqS, vNeS, vIsN, vNotN, vNot, vNeg, isNo, vMin2, vMax2, vAbs, vInt1, vLen, vTuple, vList, vSum, isTy, noL, noL1, lend, scalD, R.held, R.fresh, List.map_cons, List.map_nil, List.length_cons, List.length_nil, List.cons_append, List.nil_append, List.getElem?_cons_zero, List.getElem?_cons_succ, List.set_cons_zero, List.set_cons_succ, List.replicate_succ, List.replicate_zero, Nat.zero_add, Nat.reduceAdd, Nat.reduceSub, Nat.reduceLT, Option.join_some, Option.join_none, Option.bind_some, Option.map_some, List.all_cons, List.all_nil, Bool.and_true, Bool.true_and, Bool.not_true, Bool.not_false, and_true, true_and, if_true, if_false, Bool.false_eq_true, decide_true, decide_false, reduceIte, Band.enc, atI_0, atI_1, atI_2]
      refine ⟨_, _, _, rfl, ?_⟩
      rw [decide_eq_true ok.least.1, decide_eq_true ok.least.2]
      simp only [sSeq, sNil, sAsg, sRet, sIf, sSet, sExpr, sFrz, sMove, sApp, sExt, sPar, eOp, eUn, eVar, eC, eIf, eAnd, eOr, eChain, tVal, uAnd, uOr, uNot, uTrue, eTup, eLst, eBi, eSl, partR, eIsi, eCall, eCallL, aCons, aNil, allD, dTup, dCons, dName, dNil, dSub, rho0, endD, lft, frz, stor, storAll, setAll, rtD, vIx, seqR, vII, vIC, vAdd, vSub, vMul, vFdiv, vMod, vPow, vLt, vLe, vGt, vGe, vEqS, vNeS, vIsN, vNotN, vNot, vNeg, isNo, vMin2, vMax2, vAbs, vInt1, vLen, vTuple, vList, vSum, isTy, noL, noL1, lend, scalD, R.held, R.fresh, List.map_cons, List.map_nil, List.length_cons, List.length_nil, List.cons_append, List.nil_append, List.getElem?_cons_zero, List.getElem?_cons_succ, List.set_cons_zero, List.set_cons_succ, List.replicate_succ, List.replicate_zero, Nat.zero_add, Nat.reduceAdd, Nat.reduceSub, Nat.reduceLT, Option.join_some, Option.join_none, Option.bind_some, Option.map_some, List.all_cons, List.all_nil, Bool.and_true, Bool.true_and, Bool.not_true, Bool.not_false, and_true, true_and, if_true, if_false, Bool.false_eq_true, decide_true, decide_false, reduceIte, Band.enc, atI_0, atI_1, atI_2]
      refine ⟨_, _, _, rfl, ?_⟩
      rw [decide_eq_true ok.most.1, decide_eq_true ok.most.2]
      simp only [sSeq, sNil, sAsg, sRet, sIf, sSet, sExpr, sFrz, sMove, sApp, sExt, sPar, eOp, eUn, eVar, eC, eIf, eAnd, eOr, eChain, tVal, uAnd, uOr, uNot, uTrue, eTup, eLst, eBi, eSl, partR, eIsi, eCall, eCallL, aCons, aNil, allD, dTup, dCons, dName, dNil, dSub, rho0, endD, lft, frz, stor, storAll, setAll, rtD, vIx, seqR, vII, vIC, vAdd, vSub, vMul, vFdiv, vMod, vPow, vLt, vLe, vGt, vGe, vEqS, vNeS, vIsN, vNotN, vNot, vNeg, isNo, vMin2, vMax2, vAbs, vInt1, vLen, vTuple, vList, vSum, isTy, noL, noL1, lend, scalD, R.held, R.fresh, List.map_cons, List.map_nil, List.length_cons, List.length_nil, List.cons_append, List.nil_append, List.getElem?_cons_zero, List.getElem?_cons_succ, List.set_cons_zero, List.set_cons_succ, List.replicate_succ, List.replicate_zero, Nat.zero_add, Nat.reduceAdd, Nat.reduceSub, Nat.reduceLT, Option.join_some, Option.join_none, Option.bind_some, Option.map_some, List.all_cons, List.all_nil, Bool.and_true, Bool.true_and, Bool.not_true, Bool.not_false, and_true, true_and, if_true, if_false, Bool.false_eq_true, decide_true, decide_false, reduceIte, Band.enc, atI_0, atI_1, atI_2]
      unfold Band.enc at q
      cases e : c.turn with
      | none =>
        rw [e] at q
        exact q
      | some t =>
        rw [e] at q
        obtain ⟨t1, t2⟩ := ok.turn t e
        simp only [sSeq, sNil, sAsg, sRet, sIf, sSet, sExpr, sFrz, sMove, sApp, sExt, sPar, eOp, eUn, eVar, eC, eIf, eAnd, eOr, eChain, tVal, uAnd, uOr, uNot, uTrue, eTup, eLst, eBi, eSl, partR, eIsi, eCall, eCallL, aCons, aNil, allD, dTup, dCons, dName, dNil, dSub, rho0, endD, lft, frz, stor, storAll, setAll, rtD, vIx, seqR, vII, vIC, vAdd, vSub, vMul, vFdiv, vMod, vPow, vLt, vLe, vGt, vGe, vEqS, vNeS, vIsN, vNotN, vNot, vNeg, isNo, vMin2, vMax2, vAbs, vInt1, vLen, vTuple, vList, vSum, isTy, noL, noL1, lend, scalD, R.held, R.fresh, List.map_cons, List.map_nil, List.length_cons, List.length_nil, List.cons_append, List.nil_append, List.getElem?_cons_zero, List.getElem?_cons_succ, List.set_cons_zero, List.set_cons_succ, List.replicate_succ, List.replicate_zero, Nat.zero_add, Nat.reduceAdd, Nat.reduceSub, Nat.reduceLT, Option.join_some, Option.join_none, Option.bind_some, Option.map_some, List.all_cons, List.all_nil, Bool.and_true, Bool.true_and, Bool.not_true, Bool.not_false, and_true, true_and, if_true, if_false, Bool.false_eq_true, decide_true, decide_false, reduceIte, encO]
        refine ⟨_, _, _, rfl, ?_⟩
        rw [decide_eq_true t1, decide_eq_true t2]
        exact q)
end
end L2.U
/-! The program's defs: stands. -/
namespace L2.U
open PySem PySem.Spec PyProof.Rows
section
variable {P : Program} {w : World} {K : PySem.W.Frag} {mg : Str → Option Value} {base : Heap}
def pt_p_begin_of : FW := fun rs b Q => ∃ c : Chain, c.Ok ∧ rs = [.d c.enc] ∧ Q (encS c.begin) b
theorem mono_p_begin_of : FMono pt_p_begin_of := fun rs b Q Q' hh ⟨v, o, e, q⟩ => ⟨v, o, e, hh _ _ q⟩
theorem begin_enc (c : Chain) : encS c.begin = .tuple (c.houses.map fun h => .tuple [.int h.top, .tuple ((List.replicate h.late (0 : Int)).map PyData.int), .int 0]) := by
  unfold encS Chain.begin
  rw [List.map_map]
  rfl
abbrev s_p_begin_of : Stmt := topS 23
theorem sc_p_begin_of : FnScope ["chain", "house"] ["chain"] (defScope s_p_begin_of) := ⟨rfl, rfl, rfl, by decide +kernel, rfl, by decide +kernel, by decide +kernel⟩
theorem ok_p_begin_of {f : Addr} {fd : FuncData} (F : Fun K "begin_of" "begin_of" s_p_begin_of f fd) (hm : mg "begin_of" = some (.ref f)) (hb : Binds K fd ["chain"] []) (nb : Nb mg) (kc : Kc mg) (C_p_top_of : Can P w K mg base 1 "top_of" ["house"] pt_p_top_of) :
    Can P w K mg base 2 "begin_of" ["chain"] pt_p_begin_of := by
  exact fn_data F sc_p_begin_of hm hb mono_p_begin_of (fun md G cdv A outer s H E hr =>
    (pdb_one (pds_ret (pd_tuple (by rfl) nb.tuple (pda_cons (pd_lc (own := [("house", 1)]) (g := .inl 1) rfl sc_p_begin_of.nd (pdi_tup (pd_ix (pv_ 0) pd_int)) (blkOk_by (own := [("house", 1)]) (N := ["chain", "house"]) (sc := defScope s_p_begin_of) (by decide +kernel)) (fun _ _ _ _ _ => pg_name (i := 1) sc_p_begin_of.nd rfl (Or.inl rfl)) (fun _ _ _ _ _ => (pd_tup (pda_cons (pd_call C_p_top_of (hr.mono (by decide)) (by rfl) (pda_cons (pv_ 1) pda_nil)) (pda_cons (pd_repT (pd_tup (pda_cons pd_int pda_nil)) (pd_ix (pv_ 1) pd_int)) (pda_cons pd_int pda_nil)))))) pda_nil)))))
    (by
      rintro rs b Q hl ⟨c, ok, rfl, q⟩
      rw [begin_enc] at q
      simp only [sSeq, sNil, sAsg, sRet, sIf, sSet, sExpr, sFrz, sMove, sApp, sExt, sPar, eOp, eUn, eVar, eC, eIf, eAnd, eOr, eChain, tVal, uAnd, uOr, uNot, uTrue, eTup, eLst, eBi, eSl, partR, eIsi, eCall, eCallL, aCons, aNil, allD, dTup, dCons, dName, dNil, dSub, rho0, endD, lft, frz, stor, storAll, setAll, rtD, vIx, seqR, vII, vIC, vAdd, vSub, vMul, vFdiv, vMod, vPow, vLt, vLe, vGt, vGe, vEqS, vNeS, vIsN, vNotN, vNot, vNeg, isNo, vMin2, vMax2, vAbs, vInt1, vLen, vTuple, vList, vSum, isTy, noL, noL1, lend, scalD, R.held, R.fresh, List.map_cons, List.map_nil, List.length_cons, List.length_nil, List.cons_append, List.nil_append, List.getElem?_cons_zero, List.getElem?_cons_succ, List.set_cons_zero, List.set_cons_succ, List.replicate_succ, List.replicate_zero, Nat.zero_add, Nat.reduceAdd, Nat.reduceSub, Nat.reduceLT, Option.join_some, Option.join_none, Option.bind_some, Option.map_some, List.all_cons, List.all_nil, Bool.and_true, Bool.true_and, Bool.not_true, Bool.not_false, and_true, true_and, if_true, if_false, Bool.false_eq_true, decide_true, decide_false, reduceIte, Chain.enc, atI_0, atI_1, atI_2, eComp, iTupW, wipeR]
      refine cmp_map House.enc (fun h => .tuple [.int h.top, .tuple ((List.replicate h.late (0 : Int)).map PyData.int), .int 0]) c.houses b [] _ (fun h hh b Q q => ?_) (by have := ok.some.2; simp; omega) ?_
      · have hlate := (ok.each h hh).late
        simp only [sSeq, sNil, sAsg, sRet, sIf, sSet, sExpr, sFrz, sMove, sApp, sExt, sPar, eOp, eUn, eVar, eC, eIf, eAnd, eOr, eChain, tVal, uAnd, uOr, uNot, uTrue, eTup, eLst, eBi, eSl, partR, eIsi, eCall, eCallL, aCons, aNil, allD, dTup, dCons, dName, dNil, dSub, rho0, endD, lft, frz, stor, storAll, setAll, rtD, vIx, seqR, vII, vIC, vAdd, vSub, vMul, vFdiv, vMod, vPow, vLt, vLe, vGt, vGe, vEqS, vNeS, vIsN, vNotN, vNot, vNeg, isNo, vMin2, vMax2, vAbs, vInt1, vLen, vTuple, vList, vSum, isTy, noL, noL1, lend, scalD, R.held, R.fresh, List.map_cons, List.map_nil, List.length_cons, List.length_nil, List.cons_append, List.nil_append, List.getElem?_cons_zero, List.getElem?_cons_succ, List.set_cons_zero, List.set_cons_succ, List.replicate_succ, List.replicate_zero, Nat.zero_add, Nat.reduceAdd, Nat.reduceSub, Nat.reduceLT, Option.join_some, Option.join_none, Option.bind_some, Option.map_some, List.all_cons, List.all_nil, Bool.and_true, Bool.true_and, Bool.not_true, Bool.not_false, and_true, true_and, if_true, if_false, Bool.false_eq_true, decide_true, decide_false, reduceIte, tgD]
        refine ⟨h, rfl, ?_⟩
        simp only [sSeq, sNil, sAsg, sRet, sIf, sSet, sExpr, sFrz, sMove, sApp, sExt, sPar, eOp, eUn, eVar, eC, eIf, eAnd, eOr, eChain, tVal, uAnd, uOr, uNot, uTrue, eTup, eLst, eBi, eSl, partR, eIsi, eCall, eCallL, aCons, aNil, allD, dTup, dCons, dName, dNil, dSub, rho0, endD, lft, frz, stor, storAll, setAll, rtD, vIx, seqR, vII, vIC, vAdd, vSub, vMul, vFdiv, vMod, vPow, vLt, vLe, vGt, vGe, vEqS, vNeS, vIsN, vNotN, vNot, vNeg, isNo, vMin2, vMax2, vAbs, vInt1, vLen, vTuple, vList, vSum, isTy, noL, noL1, lend, scalD, R.held, R.fresh, List.map_cons, List.map_nil, List.length_cons, List.length_nil, List.cons_append, List.nil_append, List.getElem?_cons_zero, List.getElem?_cons_succ, List.set_cons_zero, List.set_cons_succ, List.replicate_succ, List.replicate_zero, Nat.zero_add, Nat.reduceAdd, Nat.reduceSub, Nat.reduceLT, Option.join_some, Option.join_none, Option.bind_some, Option.map_some, List.all_cons, List.all_nil, Bool.and_true, Bool.true_and, Bool.not_true, Bool.not_false, and_true, true_and, if_true, if_false, Bool.false_eq_true, decide_true, decide_false, reduceIte, House.enc, House.rule, atI_0, atI_1, vRepT, List.isEmpty_cons]
        rw [decide_eq_true (by omega : (1 : Int) ≤ (h.late : Int)), decide_eq_true (by omega : (h.late : Int) ≤ 1000)]
        simp only [sSeq, sNil, sAsg, sRet, sIf, sSet, sExpr, sFrz, sMove, sApp, sExt, sPar, eOp, eUn, eVar, eC, eIf, eAnd, eOr, eChain, tVal, uAnd, uOr, uNot, uTrue, eTup, eLst, eBi, eSl, partR, eIsi, eCall, eCallL, aCons, aNil, allD, dTup, dCons, dName, dNil, dSub, rho0, endD, lft, frz, stor, storAll, setAll, rtD, vIx, seqR, vII, vIC, vAdd, vSub, vMul, vFdiv, vMod, vPow, vLt, vLe, vGt, vGe, vEqS, vNeS, vIsN, vNotN, vNot, vNeg, isNo, vMin2, vMax2, vAbs, vInt1, vLen, vTuple, vList, vSum, isTy, noL, noL1, lend, scalD, R.held, R.fresh, List.map_cons, List.map_nil, List.length_cons, List.length_nil, List.cons_append, List.nil_append, List.getElem?_cons_zero, List.getElem?_cons_succ, List.set_cons_zero, List.set_cons_succ, List.replicate_succ, List.replicate_zero, Nat.zero_add, Nat.reduceAdd, Nat.reduceSub, Nat.reduceLT, Option.join_some, Option.join_none, Option.bind_some, Option.map_some, List.all_cons, List.all_nil, Bool.and_true, Bool.true_and, Bool.not_true, Bool.not_false, and_true, true_and, if_true, if_false, Bool.false_eq_true, decide_true, decide_false, reduceIte, rep_zero]
        exact q
      · simp only [sSeq, sNil, sAsg, sRet, sIf, sSet, sExpr, sFrz, sMove, sApp, sExt, sPar, eOp, eUn, eVar, eC, eIf, eAnd, eOr, eChain, tVal, uAnd, uOr, uNot, uTrue, eTup, eLst, eBi, eSl, partR, eIsi, eCall, eCallL, aCons, aNil, allD, dTup, dCons, dName, dNil, dSub, rho0, endD, lft, frz, stor, storAll, setAll, rtD, vIx, seqR, vII, vIC, vAdd, vSub, vMul, vFdiv, vMod, vPow, vLt, vLe, vGt, vGe, vEqS, vNeS, vIsN, vNotN, vNot, vNeg, isNo, vMin2, vMax2, vAbs, vInt1, vLen, vTuple, vList, vSum, isTy, noL, noL1, lend, scalD, R.held, R.fresh, List.map_cons, List.map_nil, List.length_cons, List.length_nil, List.cons_append, List.nil_append, List.getElem?_cons_zero, List.getElem?_cons_succ, List.set_cons_zero, List.set_cons_succ, List.replicate_succ, List.replicate_zero, Nat.zero_add, Nat.reduceAdd, Nat.reduceSub, Nat.reduceLT, Option.join_some, Option.join_none, Option.bind_some, Option.map_some, List.all_cons, List.all_nil, Bool.and_true, Bool.true_and, Bool.not_true, Bool.not_false, and_true, true_and, if_true, if_false, Bool.false_eq_true, decide_true, decide_false, reduceIte]
        exact q)
def pt_p_arrived : FW := fun rs b Q => ∃ s : Stand, s.length ≤ 3 ∧ (∀ p ∈ s, p.coming ≠ [] ∧ p.coming.length ≤ 4) ∧ rs = [.d (encS s)] ∧ Q (encS (arriveS s)) b
theorem mono_p_arrived : FMono pt_p_arrived := fun rs b Q Q' hh ⟨v, o, o2, e, q⟩ => ⟨v, o, o2, e, hh _ _ q⟩
theorem arrive_enc (s : Stand) : encS (arriveS s) = .tuple (s.map fun p => p.arrive.enc) := by
  unfold encS arriveS
  rw [List.map_map]
  rfl
theorem cut_1 {α : Type} (x : α) (xs : List α) : ((x :: xs).drop (HT.sIx (x :: xs).length 0 (some 1))).take (HT.sIx (x :: xs).length (x :: xs).length none - HT.sIx (x :: xs).length 0 (some 1)) = xs := by
  have e1 : HT.sIx (x :: xs).length 0 (some 1) = 1 := by
    have := HT.sIx_nat (x :: xs).length 0 1
    rw [show ((1 : Nat) : Int) = 1 from rfl] at this
    rw [this, List.length_cons]
    omega
  rw [e1, HT.sIx_none, List.length_cons, List.drop_succ_cons, List.drop_zero, Nat.add_sub_cancel, List.take_length]
theorem cutD_1 (x : PyData) (xs : List PyData) : cutD (x :: xs) (some 1) none = xs := cut_1 x xs
abbrev s_p_arrived : Stmt := topS 24
theorem sc_p_arrived : FnScope ["stand", "hand", "coming", "owed"] ["stand"] (defScope s_p_arrived) := ⟨rfl, rfl, rfl, by decide +kernel, rfl, by decide +kernel, by decide +kernel⟩
theorem ok_p_arrived {f : Addr} {fd : FuncData} (F : Fun K "arrived" "arrived" s_p_arrived f fd) (hm : mg "arrived" = some (.ref f)) (hb : Binds K fd ["stand"] []) (nb : Nb mg) (kc : Kc mg) :
    Can P w K mg base 1 "arrived" ["stand"] pt_p_arrived := by
  exact fn_data F sc_p_arrived hm hb mono_p_arrived (fun md G cdv A outer s H E hr =>
    (pdb_one (pds_ret (pd_tuple (by rfl) nb.tuple (pda_cons (pd_lc (own := [("hand", 1), ("coming", 2), ("owed", 3)]) (g := .inr [1, 2, 3]) rfl sc_p_arrived.nd (pdi_tup (pv_ 0)) (blkOk_by (own := [("hand", 1), ("coming", 2), ("owed", 3)]) (N := ["stand", "hand", "coming", "owed"]) (sc := defScope s_p_arrived) (by decide +kernel)) (fun _ _ _ _ _ => pg_tup rfl (pgs_cons (pg_name (i := 1) sc_p_arrived.nd rfl (Or.inl rfl)) (pgs_cons (pg_name (i := 2) sc_p_arrived.nd rfl (Or.inl rfl)) (pgs_cons (pg_name (i := 3) sc_p_arrived.nd rfl (Or.inl rfl)) pgs_nil)))) (fun _ _ _ _ _ => (pd_tup (pda_cons (pd_add (pv_ 1) (pd_ix (pv_ 2) pd_int)) (pda_cons (pd_catT (pd_slT (pv_ 2) (pdo_some pd_int) pdo_none) (pd_tup (pda_cons pd_int pda_nil))) (pda_cons (pv_ 3) pda_nil)))))) pda_nil)))))
    (by
      rintro rs b Q hl ⟨s, hs, hp, rfl, q⟩
      rw [arrive_enc] at q
      simp only [sSeq, sNil, sAsg, sRet, sIf, sSet, sExpr, sFrz, sMove, sApp, sExt, sPar, eOp, eUn, eVar, eC, eIf, eAnd, eOr, eChain, tVal, uAnd, uOr, uNot, uTrue, eTup, eLst, eBi, eSl, partR, eIsi, eCall, eCallL, aCons, aNil, allD, dTup, dCons, dName, dNil, dSub, rho0, endD, lft, frz, stor, storAll, setAll, rtD, vIx, seqR, vII, vIC, vAdd, vSub, vMul, vFdiv, vMod, vPow, vLt, vLe, vGt, vGe, vEqS, vNeS, vIsN, vNotN, vNot, vNeg, isNo, vMin2, vMax2, vAbs, vInt1, vLen, vTuple, vList, vSum, isTy, noL, noL1, lend, scalD, R.held, R.fresh, List.map_cons, List.map_nil, List.length_cons, List.length_nil, List.cons_append, List.nil_append, List.getElem?_cons_zero, List.getElem?_cons_succ, List.set_cons_zero, List.set_cons_succ, List.replicate_succ, List.replicate_zero, Nat.zero_add, Nat.reduceAdd, Nat.reduceSub, Nat.reduceLT, Option.join_some, Option.join_none, Option.bind_some, Option.map_some, List.all_cons, List.all_nil, Bool.and_true, Bool.true_and, Bool.not_true, Bool.not_false, and_true, true_and, if_true, if_false, Bool.false_eq_true, decide_true, decide_false, reduceIte, encS, eComp, iTupW, wipeR]
      refine cmp_map Place.enc (fun p => p.arrive.enc) s b [] _ (fun p hh b Q q => ?_) (by simp; omega) ?_
      · obtain ⟨h1, h2⟩ := hp p hh
        obtain ⟨hand, coming, owed⟩ := p
        cases coming with
        | nil => exact absurd rfl h1
        | cons x xs =>
          simp only [List.length_cons] at h2
          simp only [sSeq, sNil, sAsg, sRet, sIf, sSet, sExpr, sFrz, sMove, sApp, sExt, sPar, eOp, eUn, eVar, eC, eIf, eAnd, eOr, eChain, tVal, uAnd, uOr, uNot, uTrue, eTup, eLst, eBi, eSl, partR, eIsi, eCall, eCallL, aCons, aNil, allD, dTup, dCons, dName, dNil, dSub, rho0, endD, lft, frz, stor, storAll, setAll, rtD, vIx, seqR, vII, vIC, vAdd, vSub, vMul, vFdiv, vMod, vPow, vLt, vLe, vGt, vGe, vEqS, vNeS, vIsN, vNotN, vNot, vNeg, isNo, vMin2, vMax2, vAbs, vInt1, vLen, vTuple, vList, vSum, isTy, noL, noL1, lend, scalD, R.held, R.fresh, List.map_cons, List.map_nil, List.length_cons, List.length_nil, List.cons_append, List.nil_append, List.getElem?_cons_zero, List.getElem?_cons_succ, List.set_cons_zero, List.set_cons_succ, List.replicate_succ, List.replicate_zero, Nat.zero_add, Nat.reduceAdd, Nat.reduceSub, Nat.reduceLT, Option.join_some, Option.join_none, Option.bind_some, Option.map_some, List.all_cons, List.all_nil, Bool.and_true, Bool.true_and, Bool.not_true, Bool.not_false, and_true, true_and, if_true, if_false, Bool.false_eq_true, decide_true, decide_false, reduceIte, tgD, Place.enc, atI_0, vSlT, cutD_1, vCatT]
          rw [if_pos (by rw [List.length_map]; omega)]
          unfold Place.arrive Place.enc at q
          simp only [List.headD_cons, List.tail_cons, List.map_append] at q
          exact q
      · simp only [sSeq, sNil, sAsg, sRet, sIf, sSet, sExpr, sFrz, sMove, sApp, sExt, sPar, eOp, eUn, eVar, eC, eIf, eAnd, eOr, eChain, tVal, uAnd, uOr, uNot, uTrue, eTup, eLst, eBi, eSl, partR, eIsi, eCall, eCallL, aCons, aNil, allD, dTup, dCons, dName, dNil, dSub, rho0, endD, lft, frz, stor, storAll, setAll, rtD, vIx, seqR, vII, vIC, vAdd, vSub, vMul, vFdiv, vMod, vPow, vLt, vLe, vGt, vGe, vEqS, vNeS, vIsN, vNotN, vNot, vNeg, isNo, vMin2, vMax2, vAbs, vInt1, vLen, vTuple, vList, vSum, isTy, noL, noL1, lend, scalD, R.held, R.fresh, List.map_cons, List.map_nil, List.length_cons, List.length_nil, List.cons_append, List.nil_append, List.getElem?_cons_zero, List.getElem?_cons_succ, List.set_cons_zero, List.set_cons_succ, List.replicate_succ, List.replicate_zero, Nat.zero_add, Nat.reduceAdd, Nat.reduceSub, Nat.reduceLT, Option.join_some, Option.join_none, Option.bind_some, Option.map_some, List.all_cons, List.all_nil, Bool.and_true, Bool.true_and, Bool.not_true, Bool.not_false, and_true, true_and, if_true, if_false, Bool.false_eq_true, decide_true, decide_false, reduceIte]
        exact q)
def pt_p_position_of : FW := fun rs b Q => ∃ (s : Stand) (n : Nat), n < s.length ∧ rs = [.d (.list (s.map Place.enc)), .d (.int n)] ∧ Q (.int (posOf s n)) b
theorem mono_p_position_of : FMono pt_p_position_of := fun rs b Q Q' hh ⟨v, n, o, e, q⟩ => ⟨v, n, o, e, hh _ _ q⟩
theorem at_get {s : Stand} {n : Nat} (h : n < s.length) : s[n]? = some (at_ s n) := by
  unfold at_
  rw [List.getD_eq_getElem?_getD, List.getElem?_eq_getElem h]
  rfl
abbrev s_p_position_of : Stmt := topS 25
theorem sc_p_position_of : FnScope ["stand", "number", "hand", "coming", "owed", "above"] ["stand", "number"] (defScope s_p_position_of) := ⟨rfl, rfl, rfl, by decide +kernel, rfl, by decide +kernel, by decide +kernel⟩
theorem ok_p_position_of {f : Addr} {fd : FuncData} (F : Fun K "position_of" "position_of" s_p_position_of f fd) (hm : mg "position_of" = some (.ref f)) (hb : Binds K fd ["stand", "number"] []) (nb : Nb mg) (kc : Kc mg) :
    Can P w K mg base 1 "position_of" ["stand", "number"] pt_p_position_of := by
  exact fn_data F sc_p_position_of hm hb mono_p_position_of (fun md G cdv A outer s H E hr =>
    (pdb_cons (pds_asg (pd_ix (pv_ 0) (pv_ 1)) (pdg_tup (n := 3) rfl (pdgs_cons (pdg_name (i := 2) sc_p_position_of.nd rfl (by first | exact .inl rfl | exact .inr rfl)) (pdgs_cons (pdg_name (i := 3) sc_p_position_of.nd rfl (by first | exact .inl rfl | exact .inr rfl)) (pdgs_cons (pdg_name (i := 4) sc_p_position_of.nd rfl (by first | exact .inl rfl | exact .inr rfl)) pdgs_nil)))))
      (pdb_cons (pds_set (i := 5) sc_p_position_of.nd rfl (by first | exact .inl rfl | exact .inr rfl) (pd_if (pdt_lt (pd_add (pv_ 1) pd_int) (pd_len (by rfl) nb.len (pda_cons (pv_ 0) pda_nil))) (pd_ix (pd_ix (pv_ 0) (pd_add (pv_ 1) pd_int)) pd_int) pd_int))
      (pdb_one (pds_ret (pd_sub (pd_add (pd_add (pv_ 2) (pd_sum rfl (by rfl) nb.sum (pda_cons (pv_ 3) pda_nil))) (pv_ 5)) (pv_ 4)))))))
    (by
      rintro rs b Q hl ⟨s, n, hn, rfl, q⟩
      unfold posOf at q
      simp only [sSeq, sNil, sAsg, sRet, sIf, sSet, sExpr, sFrz, sMove, sApp, sExt, sPar, eOp, eUn, eVar, eC, eIf, eAnd, eOr, eChain, tVal, uAnd, uOr, uNot, uTrue, eTup, eLst, eBi, eSl, partR, eIsi, eCall, eCallL, aCons, aNil, allD, dTup, dCons, dName, dNil, dSub, rho0, endD, lft, frz, stor, storAll, setAll, rtD, vIx, seqR, vII, vIC, vAdd, vSub, vMul, vFdiv, vMod, vPow, vLt, vLe, vGt, vGe, vEqS, vNeS, vIsN, vNotN, vNot, vNeg, isNo, vMin2, vMax2, vAbs, vInt1, vLen, vTuple, vList, vSum, isTy, noL, noL1, lend, scalD, R.held, R.fresh, List.map_cons, List.map_nil, List.length_cons, List.length_nil, List.cons_append, List.nil_append, List.getElem?_cons_zero, List.getElem?_cons_succ, List.set_cons_zero, List.set_cons_succ, List.replicate_succ, List.replicate_zero, Nat.zero_add, Nat.reduceAdd, Nat.reduceSub, Nat.reduceLT, Option.join_some, Option.join_none, Option.bind_some, Option.map_some, List.all_cons, List.all_nil, Bool.and_true, Bool.true_and, Bool.not_true, Bool.not_false, and_true, true_and, if_true, if_false, Bool.false_eq_true, decide_true, decide_false, reduceIte, atI_map Place.enc (at_get hn), Place.enc, List.length_map]
      by_cases h : n + 1 < s.length
      · have h' : (n : Int) + 1 < (s.length : Int) := by omega
        have e : (n : Int) + 1 = ((n + 1 : Nat) : Int) := rfl
        rw [if_pos h] at q
        rw [decide_eq_true h', if_pos rfl, e, atI_map _ (at_get h)]
        simp only [sSeq, sNil, sAsg, sRet, sIf, sSet, sExpr, sFrz, sMove, sApp, sExt, sPar, eOp, eUn, eVar, eC, eIf, eAnd, eOr, eChain, tVal, uAnd, uOr, uNot, uTrue, eTup, eLst, eBi, eSl, partR, eIsi, eCall, eCallL, aCons, aNil, allD, dTup, dCons, dName, dNil, dSub, rho0, endD, lft, frz, stor, storAll, setAll, rtD, vIx, seqR, vII, vIC, vAdd, vSub, vMul, vFdiv, vMod, vPow, vLt, vLe, vGt, vGe, vEqS, vNeS, vIsN, vNotN, vNot, vNeg, isNo, vMin2, vMax2, vAbs, vInt1, vLen, vTuple, vList, vSum, isTy, noL, noL1, lend, scalD, R.held, R.fresh, List.map_cons, List.map_nil, List.length_cons, List.length_nil, List.cons_append, List.nil_append, List.getElem?_cons_zero, List.getElem?_cons_succ, List.set_cons_zero, List.set_cons_succ, List.replicate_succ, List.replicate_zero, Nat.zero_add, Nat.reduceAdd, Nat.reduceSub, Nat.reduceLT, Option.join_some, Option.join_none, Option.bind_some, Option.map_some, List.all_cons, List.all_nil, Bool.and_true, Bool.true_and, Bool.not_true, Bool.not_false, and_true, true_and, if_true, if_false, Bool.false_eq_true, decide_true, decide_false, reduceIte, Place.enc, atI_2, intsOf_map]
        exact q
      · have h' : ¬ (n : Int) + 1 < (s.length : Int) := by omega
        rw [if_neg h] at q
        rw [decide_eq_false h', if_neg Bool.false_ne_true]
        simp only [sSeq, sNil, sAsg, sRet, sIf, sSet, sExpr, sFrz, sMove, sApp, sExt, sPar, eOp, eUn, eVar, eC, eIf, eAnd, eOr, eChain, tVal, uAnd, uOr, uNot, uTrue, eTup, eLst, eBi, eSl, partR, eIsi, eCall, eCallL, aCons, aNil, allD, dTup, dCons, dName, dNil, dSub, rho0, endD, lft, frz, stor, storAll, setAll, rtD, vIx, seqR, vII, vIC, vAdd, vSub, vMul, vFdiv, vMod, vPow, vLt, vLe, vGt, vGe, vEqS, vNeS, vIsN, vNotN, vNot, vNeg, isNo, vMin2, vMax2, vAbs, vInt1, vLen, vTuple, vList, vSum, isTy, noL, noL1, lend, scalD, R.held, R.fresh, List.map_cons, List.map_nil, List.length_cons, List.length_nil, List.cons_append, List.nil_append, List.getElem?_cons_zero, List.getElem?_cons_succ, List.set_cons_zero, List.set_cons_succ, List.replicate_succ, List.replicate_zero, Nat.zero_add, Nat.reduceAdd, Nat.reduceSub, Nat.reduceLT, Option.join_some, Option.join_none, Option.bind_some, Option.map_some, List.all_cons, List.all_nil, Bool.and_true, Bool.true_and, Bool.not_true, Bool.not_false, and_true, true_and, if_true, if_false, Bool.false_eq_true, decide_true, decide_false, reduceIte, intsOf_map]
        exact q)
def pt_p_with_coming : FW := fun rs b Q => ∃ (p : Place) (m : Int), p.coming ≠ [] ∧ p.coming.length ≤ 4 ∧ rs = [.d p.enc, .d (.int m)] ∧ Q (p.plus m).enc b
theorem mono_p_with_coming : FMono pt_p_with_coming := fun rs b Q Q' hh ⟨v, n, o, o2, e, q⟩ => ⟨v, n, o, o2, e, hh _ _ q⟩
theorem cutD_last (xs : List PyData) (x : PyData) : cutD (xs ++ [x]) none (some (-1)) = xs := by
  unfold cutD
  have e1 : HT.sIx (xs ++ [x]).length (xs ++ [x]).length (some (-1)) = xs.length := by
    unfold HT.sIx
    rw [List.length_append, List.length_singleton]
    simp
    omega
  rw [e1, HT.sIx_none, List.drop_zero, Nat.sub_zero, List.take_left]
abbrev s_p_with_coming : Stmt := topS 26
theorem sc_p_with_coming : FnScope ["place", "more", "hand", "coming", "owed"] ["place", "more"] (defScope s_p_with_coming) := ⟨rfl, rfl, rfl, by decide +kernel, rfl, by decide +kernel, by decide +kernel⟩
theorem ok_p_with_coming {f : Addr} {fd : FuncData} (F : Fun K "with_coming" "with_coming" s_p_with_coming f fd) (hm : mg "with_coming" = some (.ref f)) (hb : Binds K fd ["place", "more"] []) (nb : Nb mg) (kc : Kc mg) :
    Can P w K mg base 1 "with_coming" ["place", "more"] pt_p_with_coming := by
  exact fn_data F sc_p_with_coming hm hb mono_p_with_coming (fun md G cdv A outer s H E hr =>
    (pdb_cons (pds_asg (pv_ 0) (pdg_tup (n := 3) rfl (pdgs_cons (pdg_name (i := 2) sc_p_with_coming.nd rfl (by first | exact .inl rfl | exact .inr rfl)) (pdgs_cons (pdg_name (i := 3) sc_p_with_coming.nd rfl (by first | exact .inl rfl | exact .inr rfl)) (pdgs_cons (pdg_name (i := 4) sc_p_with_coming.nd rfl (by first | exact .inl rfl | exact .inr rfl)) pdgs_nil)))))
      (pdb_one (pds_ret (pd_tup (pda_cons (pv_ 2) (pda_cons (pd_catT (pd_slT (pv_ 3) pdo_none (pdo_some (pd_neg pd_int))) (pd_tup (pda_cons (pd_add (pd_ix (pv_ 3) (pd_neg pd_int)) (pv_ 1)) pda_nil))) (pda_cons (pv_ 4) pda_nil))))))))
    (by
      rintro rs b Q hl ⟨p, m, h1, h2, rfl, q⟩
      obtain ⟨hand, coming, owed⟩ := p
      obtain ⟨xs, x, rfl⟩ : ∃ xs x, coming = xs ++ [x] := ⟨coming.dropLast, coming.getLast h1, (List.dropLast_concat_getLast h1).symm⟩
      simp only [List.length_append, List.length_singleton] at h2
      simp only [sSeq, sNil, sAsg, sRet, sIf, sSet, sExpr, sFrz, sMove, sApp, sExt, sPar, eOp, eUn, eVar, eC, eIf, eAnd, eOr, eChain, tVal, uAnd, uOr, uNot, uTrue, eTup, eLst, eBi, eSl, partR, eIsi, eCall, eCallL, aCons, aNil, allD, dTup, dCons, dName, dNil, dSub, rho0, endD, lft, frz, stor, storAll, setAll, rtD, vIx, seqR, vII, vIC, vAdd, vSub, vMul, vFdiv, vMod, vPow, vLt, vLe, vGt, vGe, vEqS, vNeS, vIsN, vNotN, vNot, vNeg, isNo, vMin2, vMax2, vAbs, vInt1, vLen, vTuple, vList, vSum, isTy, noL, noL1, lend, scalD, R.held, R.fresh, List.map_cons, List.map_nil, List.length_cons, List.length_nil, List.cons_append, List.nil_append, List.getElem?_cons_zero, List.getElem?_cons_succ, List.set_cons_zero, List.set_cons_succ, List.replicate_succ, List.replicate_zero, Nat.zero_add, Nat.reduceAdd, Nat.reduceSub, Nat.reduceLT, Option.join_some, Option.join_none, Option.bind_some, Option.map_some, List.all_cons, List.all_nil, Bool.and_true, Bool.true_and, Bool.not_true, Bool.not_false, and_true, true_and, if_true, if_false, Bool.false_eq_true, decide_true, decide_false, reduceIte, Place.enc, List.map_append, vSlT, cutD_last, atI_last, vCatT]
      rw [if_pos (by rw [List.length_map]; omega)]
      unfold Place.plus Place.enc at q
      simp only [List.dropLast_concat, List.getLastD_concat, List.map_append, List.map_cons, List.map_nil] at q
      exact q)
def pt_p_asked_of : FW := fun rs b Q => ∃ (p : Place) (a : Int), rs = [.d p.enc, .d (.int a)] ∧ Q (.tuple [(p.after a).enc, .int (p.sent a)]) b
theorem mono_p_asked_of : FMono pt_p_asked_of := fun rs b Q Q' hh ⟨v, n, e, q⟩ => ⟨v, n, e, hh _ _ q⟩
abbrev s_p_asked_of : Stmt := topS 27
theorem sc_p_asked_of : FnScope ["place", "asked", "hand", "coming", "owed", "sent"] ["place", "asked"] (defScope s_p_asked_of) := ⟨rfl, rfl, rfl, by decide +kernel, rfl, by decide +kernel, by decide +kernel⟩
theorem ok_p_asked_of {f : Addr} {fd : FuncData} (F : Fun K "asked_of" "asked_of" s_p_asked_of f fd) (hm : mg "asked_of" = some (.ref f)) (hb : Binds K fd ["place", "asked"] []) (nb : Nb mg) (kc : Kc mg) :
    Can P w K mg base 1 "asked_of" ["place", "asked"] pt_p_asked_of := by
  exact fn_data F sc_p_asked_of hm hb mono_p_asked_of (fun md G cdv A outer s H E hr =>
    (pdb_cons (pds_asg (pv_ 0) (pdg_tup (n := 3) rfl (pdgs_cons (pdg_name (i := 2) sc_p_asked_of.nd rfl (by first | exact .inl rfl | exact .inr rfl)) (pdgs_cons (pdg_name (i := 3) sc_p_asked_of.nd rfl (by first | exact .inl rfl | exact .inr rfl)) (pdgs_cons (pdg_name (i := 4) sc_p_asked_of.nd rfl (by first | exact .inl rfl | exact .inr rfl)) pdgs_nil)))))
      (pdb_cons (pds_set (i := 5) sc_p_asked_of.nd rfl (by first | exact .inl rfl | exact .inr rfl) (pd_min2 rfl (by rfl) nb.min (pda_cons (pv_ 2) (pda_cons (pd_add (pv_ 4) (pv_ 1)) pda_nil))))
      (pdb_one (pds_ret (pd_tup (pda_cons (pd_tup (pda_cons (pd_sub (pv_ 2) (pv_ 5)) (pda_cons (pv_ 3) (pda_cons (pd_sub (pd_add (pv_ 4) (pv_ 1)) (pv_ 5)) pda_nil)))) (pda_cons (pv_ 5) pda_nil))))))))
    (by
      rintro rs b Q hl ⟨p, a, rfl, q⟩
      obtain ⟨hand, coming, owed⟩ := p
      simp only [sSeq, sNil, sAsg, sRet, sIf, sSet, sExpr, sFrz, sMove, sApp, sExt, sPar, eOp, eUn, eVar, eC, eIf, eAnd, eOr, eChain, tVal, uAnd, uOr, uNot, uTrue, eTup, eLst, eBi, eSl, partR, eIsi, eCall, eCallL, aCons, aNil, allD, dTup, dCons, dName, dNil, dSub, rho0, endD, lft, frz, stor, storAll, setAll, rtD, vIx, seqR, vII, vIC, vAdd, vSub, vMul, vFdiv, vMod, vPow, vLt, vLe, vGt, vGe, vEqS, vNeS, vIsN, vNotN, vNot, vNeg, isNo, vMin2, vMax2, vAbs, vInt1, vLen, vTuple, vList, vSum, isTy, noL, noL1, lend, scalD, R.held, R.fresh, List.map_cons, List.map_nil, List.length_cons, List.length_nil, List.cons_append, List.nil_append, List.getElem?_cons_zero, List.getElem?_cons_succ, List.set_cons_zero, List.set_cons_succ, List.replicate_succ, List.replicate_zero, Nat.zero_add, Nat.reduceAdd, Nat.reduceSub, Nat.reduceLT, Option.join_some, Option.join_none, Option.bind_some, Option.map_some, List.all_cons, List.all_nil, Bool.and_true, Bool.true_and, Bool.not_true, Bool.not_false, and_true, true_and, if_true, if_false, Bool.false_eq_true, decide_true, decide_false, reduceIte, Place.enc]
      exact q)
end
end L2.U
/-! The program's defs: a day. -/
namespace L2.U
open PySem PySem.Spec PyProof.Rows
section
variable {P : Program} {w : World} {K : PySem.W.Frag} {mg : Str → Option Value} {base : Heap}
theorem dayGo_snoc (wait : Int) (h : House) : ∀ (hs : List House) (n : Nat) (s : DSt), dayGo wait (hs ++ [h]) n s = (dayGo wait hs n s).step wait (n + hs.length) h
  | [], n, s => rfl
  | x :: hs, n, s => by
    show dayGo wait (hs ++ [h]) (n + 1) _ = _
    rw [dayGo_snoc wait h hs (n + 1)]
    show DSt.step wait (n + 1 + hs.length) h (dayGo wait hs (n + 1) (s.step wait n x)) = DSt.step wait (n + (hs.length + 1)) h (dayGo wait hs (n + 1) (s.step wait n x))
    rw [show n + 1 + hs.length = n + (hs.length + 1) by omega]
def dayI (c : Chain) (s : Stand) (d : Int) (i : Nat) : DSt := dayGo c.wait (c.houses.take i) 0 ⟨arriveS s, d, [], 0, 0⟩
theorem dayI_succ {c : Chain} {s : Stand} {d : Int} {i : Nat} {h : House} (e : c.houses[i]? = some h) : dayI c s d (i + 1) = (dayI c s d i).step c.wait i h := by
  obtain ⟨hlt, e2⟩ := List.getElem?_eq_some_iff.mp e
  unfold dayI
  rw [List.take_succ_eq_append_getElem hlt, e2, dayGo_snoc, List.length_take, Nat.zero_add, Nat.min_eq_left (Nat.le_of_lt hlt)]
theorem dayI_all (c : Chain) (s : Stand) (d : Int) : dayI c s d c.houses.length = dayEnd c s d := by
  unfold dayI dayEnd
  rw [List.take_length]
theorem dayI_orders {c : Chain} {s : Stand} {d : Int} : ∀ i, i ≤ c.houses.length → (dayI c s d i).orders.length = i
  | 0, _ => rfl
  | i + 1, hi => by
    have e : c.houses[i]? = some c.houses[i] := List.getElem?_eq_getElem hi
    rw [dayI_succ e]
    show ((dayI c s d i).orders ++ [_]).length = i + 1
    rw [List.length_append, dayI_orders i (Nat.le_of_lt hi)]
    rfl
structure PlOk (n : Nat) (ps : Stand) : Prop where
  len : ps.length = n
  each : ∀ p ∈ ps, p.coming ≠ [] ∧ p.coming.length ≤ 4
theorem PlOk.at {n : Nat} {ps : Stand} (h : PlOk n ps) {i : Nat} (hi : i < n) : (at_ ps i).coming ≠ [] ∧ (at_ ps i).coming.length ≤ 4 := by
  have e := at_get (s := ps) (n := i) (by rw [h.len]; exact hi)
  exact h.each _ (List.mem_of_getElem? e)
theorem PlOk.set {n : Nat} {ps : Stand} (h : PlOk n ps) (i : Nat) {p : Place} (hp : p.coming ≠ [] ∧ p.coming.length ≤ 4) : PlOk n (ps.set i p) :=
  ⟨by rw [List.length_set]; exact h.len, fun q hq => by
    rcases List.mem_or_eq_of_mem_set hq with z | z
    · exact h.each q z
    · rw [z]; exact hp⟩
theorem plus_ok {p : Place} {m : Int} (h : p.coming ≠ [] ∧ p.coming.length ≤ 4) : (p.plus m).coming ≠ [] ∧ (p.plus m).coming.length ≤ 4 := by
  unfold Place.plus
  refine ⟨by simp, ?_⟩
  have : 0 < p.coming.length := List.length_pos_iff.mpr h.1
  simp only [List.length_append, List.length_dropLast, List.length_singleton]
  omega
theorem step_ok {n : Nat} {s : DSt} (wait : Int) (i : Nat) (hh : House) (h : PlOk n s.places) (hi : i < n) : PlOk n (s.step wait i hh).places := by
  have a := h.at hi
  unfold DSt.step
  simp only
  split
  · exact h.set 0 a
  · have h2 : PlOk n (s.places.set i ((at_ s.places i).after s.asked)) := h.set i a
    exact h2.set (i - 1) (plus_ok (h2.at (by omega)))
theorem arrive_ok {n : Nat} {s : Stand} (h : PlOk n s) : PlOk n (arriveS s) := by
  refine ⟨by unfold arriveS; rw [List.length_map]; exact h.len, fun p hp => ?_⟩
  unfold arriveS at hp
  obtain ⟨q, hq, rfl⟩ := List.mem_map.mp hp
  obtain ⟨h1, h2⟩ := h.each q hq
  unfold Place.arrive
  refine ⟨by simp, ?_⟩
  have : 0 < q.coming.length := List.length_pos_iff.mpr h1
  simp only [List.length_append, List.length_tail, List.length_singleton]
  omega
theorem dayI_ok {c : Chain} {s : Stand} {d : Int} (h : PlOk c.houses.length s) : ∀ i, i ≤ c.houses.length → PlOk c.houses.length (dayI c s d i).places
  | 0, _ => arrive_ok h
  | i + 1, hi => by
    have e : c.houses[i]? = some c.houses[i] := List.getElem?_eq_getElem hi
    rw [dayI_succ e]
    exact step_ok _ _ _ (dayI_ok h i (Nat.le_of_lt hi)) hi
theorem dayS_ok {c : Chain} {s : Stand} {d : Int} (ok : c.Ok) (h : PlOk c.houses.length s) : PlOk c.houses.length (dayS c s d) := by
  have e := dayI_ok (d := d) h c.houses.length (Nat.le_refl _)
  rw [dayI_all] at e
  unfold dayS
  exact e.set _ (plus_ok (e.at (by rw [e.len]; have := ok.some.1; omega)))
theorem ixN_nat {n i : Nat} (h : i < n) : ixN n (i : Int) = some i := by
  unfold ixN
  rw [if_pos (by omega), if_pos (by omega), Int.toNat_natCast]
theorem ixN_last {n : Nat} (h : 0 < n) : ixN n (-1) = some (n - 1) := by
  unfold ixN
  rw [if_neg (by omega), if_pos (by omega)]
  congr 1
  omega
theorem atI_lastG {α : Type} {xs : List α} {x : α} (h : 0 < xs.length) (e : xs[xs.length - 1]? = some x) : atI xs (-1) = some x := by
  unfold atI
  rw [ixN_last h]
  exact e
theorem at_set {s : Stand} {i : Nat} {p : Place} (h : i < s.length) : at_ (s.set i p) i = p := by
  unfold at_
  rw [List.getD_eq_getElem?_getD, List.getElem?_set_self h]
  rfl
theorem get_set {s : Stand} {i : Nat} {p : Place} (h : i < s.length) : (s.set i p)[i]? = some p := List.getElem?_set_self h
theorem atI_map0 {α β : Type} (f : α → β) {l : List α} {a : α} (h : l[0]? = some a) : atI (l.map f) 0 = some (f a) := atI_map f (n := 0) h
theorem ixN_zero {n : Nat} (h : 0 < n) : ixN n 0 = some 0 := ixN_nat (i := 0) h
theorem enc_mk (p : Place) : PyData.tuple [.int p.hand, .tuple (p.coming.map PyData.int), .int p.owed] = p.enc := rfl
theorem small_line {n : Nat} (h : n ≤ 1000) : n < sizeLine := Nat.lt_of_le_of_lt h (by decide)
theorem max_lost (o w : Int) : (if o - w > 0 then o - w else 0) = lostOf o w := rfl
def pt_p_day_of : FW := fun rs b Q => ∃ (c : Chain) (s : Stand) (d : Int), c.Ok ∧ PlOk c.houses.length s ∧ rs = [.d c.enc, .d (encS s), .d (.int d)] ∧ Q (.tuple [encS (dayS c s d), (dayN c s d).enc]) b
theorem mono_p_day_of : FMono pt_p_day_of := fun rs b Q Q' hh ⟨c, s, d, o, o2, e, q⟩ => ⟨c, s, d, o, o2, e, hh _ _ q⟩
abbrev s_p_day_of : Stmt := topS 28
theorem sc_p_day_of : FnScope ["chain", "stand", "demand", "places", "asked", "orders", "first", "lost", "number", "house", "sent", "hand", "coming", "owed"] ["chain", "stand", "demand"] (defScope s_p_day_of) := ⟨rfl, rfl, rfl, by decide +kernel, rfl, by decide +kernel, by decide +kernel⟩
theorem ok_p_day_of {f : Addr} {fd : FuncData} (F : Fun K "day_of" "day_of" s_p_day_of f fd) (hm : mg "day_of" = some (.ref f)) (hb : Binds K fd ["chain", "stand", "demand"] []) (nb : Nb mg) (kc : Kc mg) (C_p_with_coming : Can P w K mg base 1 "with_coming" ["place", "more"] pt_p_with_coming) (C_p_order_of : Can P w K mg base 1 "order_of" ["house", "position"] pt_p_order_of) (C_p_position_of : Can P w K mg base 1 "position_of" ["stand", "number"] pt_p_position_of) (C_p_asked_of : Can P w K mg base 1 "asked_of" ["place", "asked"] pt_p_asked_of) (C_p_arrived : Can P w K mg base 1 "arrived" ["stand"] pt_p_arrived) :
    Can P w K mg base 2 "day_of" ["chain", "stand", "demand"] pt_p_day_of := by
  exact fn_data F sc_p_day_of hm hb mono_p_day_of (fun md G cdv A outer s H E hr =>
    (pdb_cons (pds_parNX (is := [3, 4, 5, 6, 7]) (n := 5) (pda_cons (pd_list (by rfl) nb.list (pda_cons (pd_call C_p_arrived (hr.mono (by decide)) (by rfl) (pda_cons (pv_ 1) pda_nil)) pda_nil)) (pda_cons (pv_ 2) (pda_cons (pd_lst pda_nil) (pda_cons pd_int (pda_cons pd_int pda_nil))))) (fun h => ps_asg (pe_tup h) (pg_tup (n := 5) rfl (pgs_cons (pg_name (i := 3) sc_p_day_of.nd rfl (by first | exact .inl rfl | exact .inr rfl)) (pgs_cons (pg_name (i := 4) sc_p_day_of.nd rfl (by first | exact .inl rfl | exact .inr rfl)) (pgs_cons (pg_name (i := 5) sc_p_day_of.nd rfl (by first | exact .inl rfl | exact .inr rfl)) (pgs_cons (pg_name (i := 6) sc_p_day_of.nd rfl (by first | exact .inl rfl | exact .inr rfl)) (pgs_cons (pg_name (i := 7) sc_p_day_of.nd rfl (by first | exact .inl rfl | exact .inr rfl)) pgs_nil))))))))
      (pdb_cons (pds_for PassesOwn.never rfl (pdi_enumT (by rfl) nb.enumerate (pda_cons (pd_ix (pv_ 0) pd_int) pda_nil)) (pdg_tup (n := 2) rfl (pdgs_cons (pdg_name (i := 8) sc_p_day_of.nd rfl (by first | exact .inl rfl | exact .inr rfl)) (pdgs_cons (pdg_name (i := 9) sc_p_day_of.nd rfl (by first | exact .inl rfl | exact .inr rfl)) pdgs_nil))) (pdb_cons (pds_asg (pd_call C_p_asked_of (hr.mono (by decide)) (by rfl) (pda_cons (pd_ix (pv_ 3) (pv_ 8)) (pda_cons (pv_ 4) pda_nil))) (pdg_tup (n := 2) rfl (pdgs_cons (pdg_sub (pv 3) (pv_ 8)) (pdgs_cons (pdg_name (i := 10) sc_p_day_of.nd rfl (by first | exact .inl rfl | exact .inr rfl)) pdgs_nil))))
      (pdb_cons (pds_if (pdt_eqS (pv_ 8) pd_int) (pdb_cons (pds_asg (pd_ix (pv_ 3) pd_int) (pdg_tup (n := 3) rfl (pdgs_cons (pdg_name (i := 11) sc_p_day_of.nd rfl (by first | exact .inl rfl | exact .inr rfl)) (pdgs_cons (pdg_name (i := 12) sc_p_day_of.nd rfl (by first | exact .inl rfl | exact .inr rfl)) (pdgs_cons (pdg_name (i := 13) sc_p_day_of.nd rfl (by first | exact .inl rfl | exact .inr rfl)) pdgs_nil)))))
      (pdb_cons (pds_par2X (pda_cons (pv_ 10) (pda_cons (pd_max2 rfl (by rfl) nb.max (pda_cons pd_int (pda_cons (pd_sub (pv_ 13) (pd_ix (pv_ 0) pd_int)) pda_nil))) pda_nil)) (fun h => ps_par (i := 6) (j := 7) rfl sc_p_day_of.nd rfl rfl (by decide) rfl rfl h (by rfl)))
      (pdb_one (pds_asg (pd_tup (pda_cons (pv_ 11) (pda_cons (pv_ 12) (pda_cons (pd_sub (pv_ 13) (pv_ 7)) pda_nil)))) (pdg_sub (pv 3) pd_int))))) (pdb_one (pds_asg (pd_call C_p_with_coming (hr.mono (by decide)) (by rfl) (pda_cons (pd_ix (pv_ 3) (pd_sub (pv_ 8) pd_int)) (pda_cons (pv_ 10) pda_nil))) (pdg_sub (pv 3) (pd_sub (pv_ 8) pd_int)))))
      (pdb_cons (pds_set (i := 4) sc_p_day_of.nd rfl (by first | exact .inl rfl | exact .inr rfl) (pd_call C_p_order_of (hr.mono (by decide)) (by rfl) (pda_cons (pv_ 9) (pda_cons (pd_callL C_p_position_of (hr.mono (by decide)) (by rfl) (pda_cons (pv_ 3) (pda_cons (pv_ 8) pda_nil))) pda_nil))))
      (pdb_one (pds_app2 (pv_ 4) (fun h => ps_expr (pe_bm PySem.F.plainAttrs_list PySem.F.slot_list_append PySem.F.type_list_append mt_append (pv 5) (pa_cons h pa_nil)))))))))
      (pdb_cons (pds_asg (pd_call C_p_with_coming (hr.mono (by decide)) (by rfl) (pda_cons (pd_ix (pv_ 3) (pd_neg pd_int)) (pda_cons (pv_ 4) pda_nil))) (pdg_sub (pv 3) (pd_neg pd_int)))
      (pdb_one (pds_ret (pd_tup (pda_cons (pd_tuple (by rfl) nb.tuple (pda_cons (pv_ 3) pda_nil)) (pda_cons (pd_tup (pda_cons (pv_ 6) (pda_cons (pv_ 7) (pda_cons (pd_tuple (by rfl) nb.tuple (pda_cons (pv_ 5) pda_nil)) pda_nil)))) pda_nil)))))))))
    (by
      rintro rs b Q hl ⟨c, s, d, ok, fit, rfl, q⟩
      have hn := ok.some
      simp only [sSeq, sNil, sAsg, sRet, sIf, sSet, sExpr, sFrz, sMove, sApp, sExt, sPar, eOp, eUn, eVar, eC, eIf, eAnd, eOr, eChain, tVal, uAnd, uOr, uNot, uTrue, eTup, eLst, eBi, eSl, partR, eIsi, eCall, eCallL, aCons, aNil, allD, dTup, dCons, dName, dNil, dSub, rho0, endD, lft, frz, stor, storAll, setAll, rtD, vIx, seqR, vII, vIC, vAdd, vSub, vMul, vFdiv, vMod, vPow, vLt, vLe, vGt, vGe, vEqS, vNeS, vIsN, vNotN, vNot, vNeg, isNo, vMin2, vMax2, vAbs, vInt1, vLen, vTuple, vList, vSum, isTy, noL, noL1, lend, scalD, R.held, R.fresh, List.map_cons, List.map_nil, List.length_cons, List.length_nil, List.cons_append, List.nil_append, List.getElem?_cons_zero, List.getElem?_cons_succ, List.set_cons_zero, List.set_cons_succ, List.replicate_succ, List.replicate_zero, Nat.zero_add, Nat.reduceAdd, Nat.reduceSub, Nat.reduceLT, Option.join_some, Option.join_none, Option.bind_some, Option.map_some, List.all_cons, List.all_nil, Bool.and_true, Bool.true_and, Bool.not_true, Bool.not_false, and_true, true_and, if_true, if_false, Bool.false_eq_true, decide_true, decide_false, reduceIte]
      refine ⟨s, by rw [fit.len]; exact hn.2, fit.each, rfl, ?_⟩
      simp only [sSeq, sNil, sAsg, sRet, sIf, sSet, sExpr, sFrz, sMove, sApp, sExt, sPar, eOp, eUn, eVar, eC, eIf, eAnd, eOr, eChain, tVal, uAnd, uOr, uNot, uTrue, eTup, eLst, eBi, eSl, partR, eIsi, eCall, eCallL, aCons, aNil, allD, dTup, dCons, dName, dNil, dSub, rho0, endD, lft, frz, stor, storAll, setAll, rtD, vIx, seqR, vII, vIC, vAdd, vSub, vMul, vFdiv, vMod, vPow, vLt, vLe, vGt, vGe, vEqS, vNeS, vIsN, vNotN, vNot, vNeg, isNo, vMin2, vMax2, vAbs, vInt1, vLen, vTuple, vList, vSum, isTy, noL, noL1, lend, scalD, R.held, R.fresh, List.map_cons, List.map_nil, List.length_cons, List.length_nil, List.cons_append, List.nil_append, List.getElem?_cons_zero, List.getElem?_cons_succ, List.set_cons_zero, List.set_cons_succ, List.replicate_succ, List.replicate_zero, Nat.zero_add, Nat.reduceAdd, Nat.reduceSub, Nat.reduceLT, Option.join_some, Option.join_none, Option.bind_some, Option.map_some, List.all_cons, List.all_nil, Bool.and_true, Bool.true_and, Bool.not_true, Bool.not_false, and_true, true_and, if_true, if_false, Bool.false_eq_true, decide_true, decide_false, reduceIte, encS, Chain.enc, atI_0, sFor, iEnumT]
      refine for_cps (fun i ρ b' => b' = b ∧ ∃ j8 j9 j10 j11 j12 j13, ρ = [some (.d (.tuple [.tuple (c.houses.map House.enc), .int c.wait])), some (.d (.tuple (s.map Place.enc))), some (.d (.int d)), some (.o false ((dayI c s d i).places.map Place.enc)), some (.d (.int (dayI c s d i).asked)), some (.o false ((dayI c s d i).orders.map PyData.int)), some (.d (.int (dayI c s d i).first)), some (.d (.int (dayI c s d i).lost)), j8, j9, j10, j11, j12, j13]) (fun _ _ => False) _ ?_ ?_ (fun _ _ z => z.elim) ?_
      · rintro i x ρ b' Q' hx ⟨rfl, j8, j9, j10, j11, j12, j13, rfl⟩ hq _
        rw [enumD_get, List.getElem?_map, Option.map_map] at hx
        obtain ⟨h, e, rfl⟩ := Option.map_eq_some_iff.mp hx
        have hlt := (List.getElem?_eq_some_iff.mp e).1
        have pl := dayI_ok (d := d) fit i (Nat.le_of_lt hlt)
        simp only [Function.comp_apply, Nat.zero_add]
        simp only [sSeq, sNil, sAsg, sRet, sIf, sSet, sExpr, sFrz, sMove, sApp, sExt, sPar, eOp, eUn, eVar, eC, eIf, eAnd, eOr, eChain, tVal, uAnd, uOr, uNot, uTrue, eTup, eLst, eBi, eSl, partR, eIsi, eCall, eCallL, aCons, aNil, allD, dTup, dCons, dName, dNil, dSub, rho0, endD, lft, frz, stor, storAll, setAll, rtD, vIx, seqR, vII, vIC, vAdd, vSub, vMul, vFdiv, vMod, vPow, vLt, vLe, vGt, vGe, vEqS, vNeS, vIsN, vNotN, vNot, vNeg, isNo, vMin2, vMax2, vAbs, vInt1, vLen, vTuple, vList, vSum, isTy, noL, noL1, lend, scalD, R.held, R.fresh, List.map_cons, List.map_nil, List.length_cons, List.length_nil, List.cons_append, List.nil_append, List.getElem?_cons_zero, List.getElem?_cons_succ, List.set_cons_zero, List.set_cons_succ, List.replicate_succ, List.replicate_zero, Nat.zero_add, Nat.reduceAdd, Nat.reduceSub, Nat.reduceLT, Option.join_some, Option.join_none, Option.bind_some, Option.map_some, List.all_cons, List.all_nil, Bool.and_true, Bool.true_and, Bool.not_true, Bool.not_false, and_true, true_and, if_true, if_false, Bool.false_eq_true, decide_true, decide_false, reduceIte, atI_map Place.enc (at_get (show i < (dayI c s d i).places.length by rw [pl.len]; exact hlt)), List.length_map]
        refine ⟨_, _, rfl, ?_⟩
        rw [dayI_succ e] at hq
        have hst := step_ok c.wait i h pl hlt
        have hlt2 : i < (dayI c s d i).places.length := by rw [pl.len]; exact hlt
        have hat := pl.at hlt
        have hor := dayI_orders (c := c) (s := s) (d := d) i (Nat.le_of_lt hlt)
        revert hst hq pl hlt2 hat hor
        generalize dayI c s d i = st
        intro hq pl hst hlt2 hat hor
        obtain ⟨places, asked, orders, first, lost⟩ := st
        simp only at pl hst hlt2 hat hor hq ⊢
        have hor2 : (orders.map PyData.int).length < sizeLine := by rw [List.length_map]; exact small_line (by omega)
        have hok := ok.each h (List.mem_of_getElem? e)
        simp only [sSeq, sNil, sAsg, sRet, sIf, sSet, sExpr, sFrz, sMove, sApp, sExt, sPar, eOp, eUn, eVar, eC, eIf, eAnd, eOr, eChain, tVal, uAnd, uOr, uNot, uTrue, eTup, eLst, eBi, eSl, partR, eIsi, eCall, eCallL, aCons, aNil, allD, dTup, dCons, dName, dNil, dSub, rho0, endD, lft, frz, stor, storAll, setAll, rtD, vIx, seqR, vII, vIC, vAdd, vSub, vMul, vFdiv, vMod, vPow, vLt, vLe, vGt, vGe, vEqS, vNeS, vIsN, vNotN, vNot, vNeg, isNo, vMin2, vMax2, vAbs, vInt1, vLen, vTuple, vList, vSum, isTy, noL, noL1, lend, scalD, R.held, R.fresh, List.map_cons, List.map_nil, List.length_cons, List.length_nil, List.cons_append, List.nil_append, List.getElem?_cons_zero, List.getElem?_cons_succ, List.set_cons_zero, List.set_cons_succ, List.replicate_succ, List.replicate_zero, Nat.zero_add, Nat.reduceAdd, Nat.reduceSub, Nat.reduceLT, Option.join_some, Option.join_none, Option.bind_some, Option.map_some, List.all_cons, List.all_nil, Bool.and_true, Bool.true_and, Bool.not_true, Bool.not_false, and_true, true_and, if_true, if_false, Bool.false_eq_true, decide_true, decide_false, reduceIte, ixN_nat hlt2, ← List.map_set]
        by_cases h0 : i = 0
        · subst h0
          have hg := get_set (p := (at_ places 0).after asked) hlt2
          simp only [sSeq, sNil, sAsg, sRet, sIf, sSet, sExpr, sFrz, sMove, sApp, sExt, sPar, eOp, eUn, eVar, eC, eIf, eAnd, eOr, eChain, tVal, uAnd, uOr, uNot, uTrue, eTup, eLst, eBi, eSl, partR, eIsi, eCall, eCallL, aCons, aNil, allD, dTup, dCons, dName, dNil, dSub, rho0, endD, lft, frz, stor, storAll, setAll, rtD, vIx, seqR, vII, vIC, vAdd, vSub, vMul, vFdiv, vMod, vPow, vLt, vLe, vGt, vGe, vEqS, vNeS, vIsN, vNotN, vNot, vNeg, isNo, vMin2, vMax2, vAbs, vInt1, vLen, vTuple, vList, vSum, isTy, noL, noL1, lend, scalD, R.held, R.fresh, List.map_cons, List.map_nil, List.length_cons, List.length_nil, List.cons_append, List.nil_append, List.getElem?_cons_zero, List.getElem?_cons_succ, List.set_cons_zero, List.set_cons_succ, List.replicate_succ, List.replicate_zero, Nat.zero_add, Nat.reduceAdd, Nat.reduceSub, Nat.reduceLT, Option.join_some, Option.join_none, Option.bind_some, Option.map_some, List.all_cons, List.all_nil, Bool.and_true, Bool.true_and, Bool.not_true, Bool.not_false, and_true, true_and, if_true, if_false, Bool.false_eq_true, decide_true, decide_false, reduceIte, Int.natCast_zero, atI_map0 Place.enc hg]
          unfold DSt.step at hq hst
          simp only [if_true] at hq hst
          revert hg hq hst
          generalize (at_ places 0).after asked = q
          intro hg hq hst
          simp only [sSeq, sNil, sAsg, sRet, sIf, sSet, sExpr, sFrz, sMove, sApp, sExt, sPar, eOp, eUn, eVar, eC, eIf, eAnd, eOr, eChain, tVal, uAnd, uOr, uNot, uTrue, eTup, eLst, eBi, eSl, partR, eIsi, eCall, eCallL, aCons, aNil, allD, dTup, dCons, dName, dNil, dSub, rho0, endD, lft, frz, stor, storAll, setAll, rtD, vIx, seqR, vII, vIC, vAdd, vSub, vMul, vFdiv, vMod, vPow, vLt, vLe, vGt, vGe, vEqS, vNeS, vIsN, vNotN, vNot, vNeg, isNo, vMin2, vMax2, vAbs, vInt1, vLen, vTuple, vList, vSum, isTy, noL, noL1, lend, scalD, R.held, R.fresh, List.map_cons, List.map_nil, List.length_cons, List.length_nil, List.cons_append, List.nil_append, List.getElem?_cons_zero, List.getElem?_cons_succ, List.set_cons_zero, List.set_cons_succ, List.replicate_succ, List.replicate_zero, Nat.zero_add, Nat.reduceAdd, Nat.reduceSub, Nat.reduceLT, Option.join_some, Option.join_none, Option.bind_some, Option.map_some, List.all_cons, List.all_nil, Bool.and_true, Bool.true_and, Bool.not_true, Bool.not_false, and_true, true_and, if_true, if_false, Bool.false_eq_true, decide_true, decide_false, reduceIte, Place.enc, atI_0, atI_1, max_lost]
          rw [ixN_zero (by rw [List.length_map, List.length_set]; exact hlt2)]
          have hm : ((places.set 0 q).map Place.enc).set 0 (PyData.tuple [.int q.hand, .tuple (q.coming.map PyData.int), .int (q.owed - lostOf q.owed c.wait)]) = (places.set 0 ⟨q.hand, q.coming, q.owed - lostOf q.owed c.wait⟩).map Place.enc := by
            rw [enc_mk ⟨q.hand, q.coming, q.owed - lostOf q.owed c.wait⟩, ← List.map_set, List.set_set]
          simp only [hm]
          refine ⟨_, 0, by rw [List.length_set]; exact hlt2, rfl, rfl, h, _, hok, rfl, hor2, ?_⟩
          simp only [List.map_append] at hq
          exact hq _ _ ⟨rfl, _, _, _, _, _, _, rfl⟩
        · have h1 : decide ((i : Int) = 0) = false := decide_eq_false (by omega)
          have e1 : (i : Int) - 1 = ((i - 1 : Nat) : Int) := by omega
          have hlt3 : i - 1 < (places.set i ((at_ places i).after asked)).length := by rw [List.length_set]; omega
          have pl2 : PlOk c.houses.length (places.set i ((at_ places i).after asked)) := pl.set i hat
          have hat2 := pl2.at (show i - 1 < c.houses.length by omega)
          unfold DSt.step at hq hst
          simp only [if_neg h0] at hq hst
          simp only [sSeq, sNil, sAsg, sRet, sIf, sSet, sExpr, sFrz, sMove, sApp, sExt, sPar, eOp, eUn, eVar, eC, eIf, eAnd, eOr, eChain, tVal, uAnd, uOr, uNot, uTrue, eTup, eLst, eBi, eSl, partR, eIsi, eCall, eCallL, aCons, aNil, allD, dTup, dCons, dName, dNil, dSub, rho0, endD, lft, frz, stor, storAll, setAll, rtD, vIx, seqR, vII, vIC, vAdd, vSub, vMul, vFdiv, vMod, vPow, vLt, vLe, vGt, vGe, vEqS, vNeS, vIsN, vNotN, vNot, vNeg, isNo, vMin2, vMax2, vAbs, vInt1, vLen, vTuple, vList, vSum, isTy, noL, noL1, lend, scalD, R.held, R.fresh, List.map_cons, List.map_nil, List.length_cons, List.length_nil, List.cons_append, List.nil_append, List.getElem?_cons_zero, List.getElem?_cons_succ, List.set_cons_zero, List.set_cons_succ, List.replicate_succ, List.replicate_zero, Nat.zero_add, Nat.reduceAdd, Nat.reduceSub, Nat.reduceLT, Option.join_some, Option.join_none, Option.bind_some, Option.map_some, List.all_cons, List.all_nil, Bool.and_true, Bool.true_and, Bool.not_true, Bool.not_false, and_true, true_and, if_true, if_false, Bool.false_eq_true, decide_true, decide_false, reduceIte, h1, e1, atI_map Place.enc (at_get hlt3)]
          refine ⟨_, _, hat2.1, hat2.2, rfl, ?_⟩
          rw [List.length_map]
          simp only [sSeq, sNil, sAsg, sRet, sIf, sSet, sExpr, sFrz, sMove, sApp, sExt, sPar, eOp, eUn, eVar, eC, eIf, eAnd, eOr, eChain, tVal, uAnd, uOr, uNot, uTrue, eTup, eLst, eBi, eSl, partR, eIsi, eCall, eCallL, aCons, aNil, allD, dTup, dCons, dName, dNil, dSub, rho0, endD, lft, frz, stor, storAll, setAll, rtD, vIx, seqR, vII, vIC, vAdd, vSub, vMul, vFdiv, vMod, vPow, vLt, vLe, vGt, vGe, vEqS, vNeS, vIsN, vNotN, vNot, vNeg, isNo, vMin2, vMax2, vAbs, vInt1, vLen, vTuple, vList, vSum, isTy, noL, noL1, lend, scalD, R.held, R.fresh, List.map_cons, List.map_nil, List.length_cons, List.length_nil, List.cons_append, List.nil_append, List.getElem?_cons_zero, List.getElem?_cons_succ, List.set_cons_zero, List.set_cons_succ, List.replicate_succ, List.replicate_zero, Nat.zero_add, Nat.reduceAdd, Nat.reduceSub, Nat.reduceLT, Option.join_some, Option.join_none, Option.bind_some, Option.map_some, List.all_cons, List.all_nil, Bool.and_true, Bool.true_and, Bool.not_true, Bool.not_false, and_true, true_and, if_true, if_false, Bool.false_eq_true, decide_true, decide_false, reduceIte, ixN_nat hlt3, ← List.map_set]
          refine ⟨_, i, by rw [List.length_set, List.length_set]; exact hlt2, rfl, rfl, h, _, hok, rfl, (by rw [List.length_map] at hor2; exact hor2), ?_⟩
          simp only [List.map_append] at hq
          exact hq _ _ ⟨rfl, _, _, _, _, _, _, rfl⟩
      · rintro ρ b' ⟨rfl, j8, j9, j10, j11, j12, j13, rfl⟩
        rw [enumD_length, List.length_map, dayI_all]
        have pl := dayI_ok (d := d) fit c.houses.length (Nat.le_refl _)
        rw [dayI_all] at pl
        have hpos : 0 < (dayEnd c s d).places.length := by rw [pl.len]; omega
        have hlast : (dayEnd c s d).places.length - 1 < (dayEnd c s d).places.length := by omega
        have hat := pl.at (show (dayEnd c s d).places.length - 1 < c.houses.length by rw [← pl.len]; exact hlast)
        simp only [sSeq, sNil, sAsg, sRet, sIf, sSet, sExpr, sFrz, sMove, sApp, sExt, sPar, eOp, eUn, eVar, eC, eIf, eAnd, eOr, eChain, tVal, uAnd, uOr, uNot, uTrue, eTup, eLst, eBi, eSl, partR, eIsi, eCall, eCallL, aCons, aNil, allD, dTup, dCons, dName, dNil, dSub, rho0, endD, lft, frz, stor, storAll, setAll, rtD, vIx, seqR, vII, vIC, vAdd, vSub, vMul, vFdiv, vMod, vPow, vLt, vLe, vGt, vGe, vEqS, vNeS, vIsN, vNotN, vNot, vNeg, isNo, vMin2, vMax2, vAbs, vInt1, vLen, vTuple, vList, vSum, isTy, noL, noL1, lend, scalD, R.held, R.fresh, List.map_cons, List.map_nil, List.length_cons, List.length_nil, List.cons_append, List.nil_append, List.getElem?_cons_zero, List.getElem?_cons_succ, List.set_cons_zero, List.set_cons_succ, List.replicate_succ, List.replicate_zero, Nat.zero_add, Nat.reduceAdd, Nat.reduceSub, Nat.reduceLT, Option.join_some, Option.join_none, Option.bind_some, Option.map_some, List.all_cons, List.all_nil, Bool.and_true, Bool.true_and, Bool.not_true, Bool.not_false, and_true, true_and, if_true, if_false, Bool.false_eq_true, decide_true, decide_false, reduceIte, atI_lastG (show 0 < ((dayEnd c s d).places.map Place.enc).length by rw [List.length_map]; exact hpos) (show ((dayEnd c s d).places.map Place.enc)[((dayEnd c s d).places.map Place.enc).length - 1]? = some (at_ (dayEnd c s d).places ((dayEnd c s d).places.length - 1)).enc by rw [List.length_map, List.getElem?_map, at_get hlast]; rfl)]
        refine ⟨_, _, hat.1, hat.2, rfl, ?_⟩
        rw [List.length_map]
        simp only [sSeq, sNil, sAsg, sRet, sIf, sSet, sExpr, sFrz, sMove, sApp, sExt, sPar, eOp, eUn, eVar, eC, eIf, eAnd, eOr, eChain, tVal, uAnd, uOr, uNot, uTrue, eTup, eLst, eBi, eSl, partR, eIsi, eCall, eCallL, aCons, aNil, allD, dTup, dCons, dName, dNil, dSub, rho0, endD, lft, frz, stor, storAll, setAll, rtD, vIx, seqR, vII, vIC, vAdd, vSub, vMul, vFdiv, vMod, vPow, vLt, vLe, vGt, vGe, vEqS, vNeS, vIsN, vNotN, vNot, vNeg, isNo, vMin2, vMax2, vAbs, vInt1, vLen, vTuple, vList, vSum, isTy, noL, noL1, lend, scalD, R.held, R.fresh, List.map_cons, List.map_nil, List.length_cons, List.length_nil, List.cons_append, List.nil_append, List.getElem?_cons_zero, List.getElem?_cons_succ, List.set_cons_zero, List.set_cons_succ, List.replicate_succ, List.replicate_zero, Nat.zero_add, Nat.reduceAdd, Nat.reduceSub, Nat.reduceLT, Option.join_some, Option.join_none, Option.bind_some, Option.map_some, List.all_cons, List.all_nil, Bool.and_true, Bool.true_and, Bool.not_true, Bool.not_false, and_true, true_and, if_true, if_false, Bool.false_eq_true, decide_true, decide_false, reduceIte, ixN_last hpos, ← List.map_set]
        exact q
      · exact ⟨rfl, none, none, none, none, none, none, by
          unfold dayI arriveS
          simp only [List.take_zero, dayGo, List.map_nil]⟩)
end
end L2.U
/-! The program's defs: pairs. -/
namespace L2.U
open PySem PySem.Spec PyProof.Rows
section
variable {P : Program} {w : World} {K : PySem.W.Frag} {mg : Str → Option Value} {base : Heap}
theorem rangeD_up (lo hi : Int) : rangeD lo hi = (upTo lo hi).map PyData.int := by
  unfold rangeD upTo
  rw [List.map_map]
  rfl
def LastOk (last : Option Int) : Prop := ∀ l, last = some l → 0 ≤ l ∧ l ≤ 9
def pt_p_demands_at : FW := fun rs b Q => ∃ (t : Band) (last : Option Int), t.Ok ∧ LastOk last ∧ rs = [.d t.enc, .d (encO last)] ∧ Q (.list ((t.may last).map PyData.int)) b
theorem mono_p_demands_at : FMono pt_p_demands_at := fun rs b Q Q' hh ⟨c, s, o, o2, e, q⟩ => ⟨c, s, o, o2, e, hh _ _ q⟩
abbrev s_p_demands_at : Stmt := topS 30
theorem sc_p_demands_at : FnScope ["band", "last", "least", "most", "turn"] ["band", "last"] (defScope s_p_demands_at) := ⟨rfl, rfl, rfl, by decide +kernel, rfl, by decide +kernel, by decide +kernel⟩
theorem ok_p_demands_at {f : Addr} {fd : FuncData} (F : Fun K "demands_at" "demands_at" s_p_demands_at f fd) (hm : mg "demands_at" = some (.ref f)) (hb : Binds K fd ["band", "last"] []) (nb : Nb mg) (kc : Kc mg) :
    Can P w K mg base 1 "demands_at" ["band", "last"] pt_p_demands_at := by
  exact fn_data F sc_p_demands_at hm hb mono_p_demands_at (fun md G cdv A outer s H E hr =>
    (pdb_cons (pds_asg (pv_ 0) (pdg_tup (n := 3) rfl (pdgs_cons (pdg_name (i := 2) sc_p_demands_at.nd rfl (by first | exact .inl rfl | exact .inr rfl)) (pdgs_cons (pdg_name (i := 3) sc_p_demands_at.nd rfl (by first | exact .inl rfl | exact .inr rfl)) (pdgs_cons (pdg_name (i := 4) sc_p_demands_at.nd rfl (by first | exact .inl rfl | exact .inr rfl)) pdgs_nil)))))
      (pdb_cons (pds_if (pdt_w (pdw_or (pdt_isN (pv_ 4) pd_non) (pdw_or1 (pdt_isN (pv_ 1) pd_non)))) (pdb_one (pds_ret (pd_listRg rfl (by rfl) nb.list (by rfl) nb.range (pv_ 2) (pd_add (pv_ 3) pd_int)))) pdb_nil)
      (pdb_one (pds_ret (pd_listRg rfl (by rfl) nb.list (by rfl) nb.range (pd_max2 rfl (by rfl) nb.max (pda_cons (pv_ 2) (pda_cons (pd_sub (pv_ 1) (pv_ 4)) pda_nil))) (pd_add (pd_min2 rfl (by rfl) nb.min (pda_cons (pv_ 3) (pda_cons (pd_add (pv_ 1) (pv_ 4)) pda_nil))) pd_int)))))))
    (by
      rintro rs b Q hl ⟨⟨least, most, turn⟩, last, ok, lok, rfl, q⟩
      have o1 := ok.least
      have o2 := ok.most
      simp only at o1 o2
      unfold Band.may at q
      rw [← rangeD_up] at q
      cases turn with
      | none =>
        simp only [sSeq, sNil, sAsg, sRet, sIf, sSet, sExpr, sFrz, sMove, sApp, sExt, sPar, eOp, eUn, eVar, eC, eIf, eAnd, eOr, eChain, tVal, uAnd, uOr, uNot, uTrue, eTup, eLst, eBi, eSl, partR, eIsi, eCall, eCallL, aCons, aNil, allD, dTup, dCons, dName, dNil, dSub, rho0, endD, lft, frz, stor, storAll, setAll, rtD, vIx, seqR, vII, vIC, vAdd, vSub, vMul, vFdiv, vMod, vPow, vLt, vLe, vGt, vGe, vEqS, vNeS, vIsN, vNotN, vNot, vNeg, isNo, vMin2, vMax2, vAbs, vInt1, vLen, vTuple, vList, vSum, isTy, noL, noL1, lend, scalD, R.held, R.fresh, List.map_cons, List.map_nil, List.length_cons, List.length_nil, List.cons_append, List.nil_append, List.getElem?_cons_zero, List.getElem?_cons_succ, List.set_cons_zero, List.set_cons_succ, List.replicate_succ, List.replicate_zero, Nat.zero_add, Nat.reduceAdd, Nat.reduceSub, Nat.reduceLT, Option.join_some, Option.join_none, Option.bind_some, Option.map_some, List.all_cons, List.all_nil, Bool.and_true, Bool.true_and, Bool.not_true, Bool.not_false, and_true, true_and, if_true, if_false, Bool.false_eq_true, decide_true, decide_false, reduceIte, Band.enc, encO, eListRg]
        exact ⟨⟨o1.1, by omega, by omega, by omega⟩, q⟩
      | some t =>
        have o3 := ok.turn t rfl
        cases last with
        | none =>
          simp only [sSeq, sNil, sAsg, sRet, sIf, sSet, sExpr, sFrz, sMove, sApp, sExt, sPar, eOp, eUn, eVar, eC, eIf, eAnd, eOr, eChain, tVal, uAnd, uOr, uNot, uTrue, eTup, eLst, eBi, eSl, partR, eIsi, eCall, eCallL, aCons, aNil, allD, dTup, dCons, dName, dNil, dSub, rho0, endD, lft, frz, stor, storAll, setAll, rtD, vIx, seqR, vII, vIC, vAdd, vSub, vMul, vFdiv, vMod, vPow, vLt, vLe, vGt, vGe, vEqS, vNeS, vIsN, vNotN, vNot, vNeg, isNo, vMin2, vMax2, vAbs, vInt1, vLen, vTuple, vList, vSum, isTy, noL, noL1, lend, scalD, R.held, R.fresh, List.map_cons, List.map_nil, List.length_cons, List.length_nil, List.cons_append, List.nil_append, List.getElem?_cons_zero, List.getElem?_cons_succ, List.set_cons_zero, List.set_cons_succ, List.replicate_succ, List.replicate_zero, Nat.zero_add, Nat.reduceAdd, Nat.reduceSub, Nat.reduceLT, Option.join_some, Option.join_none, Option.bind_some, Option.map_some, List.all_cons, List.all_nil, Bool.and_true, Bool.true_and, Bool.not_true, Bool.not_false, and_true, true_and, if_true, if_false, Bool.false_eq_true, decide_true, decide_false, reduceIte, Band.enc, encO, eListRg]
          exact ⟨⟨o1.1, by omega, by omega, by omega⟩, q⟩
        | some l =>
          have o4 := lok l rfl
          simp only [sSeq, sNil, sAsg, sRet, sIf, sSet, sExpr, sFrz, sMove, sApp, sExt, sPar, eOp, eUn, eVar, eC, eIf, eAnd, eOr, eChain, tVal, uAnd, uOr, uNot, uTrue, eTup, eLst, eBi, eSl, partR, eIsi, eCall, eCallL, aCons, aNil, allD, dTup, dCons, dName, dNil, dSub, rho0, endD, lft, frz, stor, storAll, setAll, rtD, vIx, seqR, vII, vIC, vAdd, vSub, vMul, vFdiv, vMod, vPow, vLt, vLe, vGt, vGe, vEqS, vNeS, vIsN, vNotN, vNot, vNeg, isNo, vMin2, vMax2, vAbs, vInt1, vLen, vTuple, vList, vSum, isTy, noL, noL1, lend, scalD, R.held, R.fresh, List.map_cons, List.map_nil, List.length_cons, List.length_nil, List.cons_append, List.nil_append, List.getElem?_cons_zero, List.getElem?_cons_succ, List.set_cons_zero, List.set_cons_succ, List.replicate_succ, List.replicate_zero, Nat.zero_add, Nat.reduceAdd, Nat.reduceSub, Nat.reduceLT, Option.join_some, Option.join_none, Option.bind_some, Option.map_some, List.all_cons, List.all_nil, Bool.and_true, Bool.true_and, Bool.not_true, Bool.not_false, and_true, true_and, if_true, if_false, Bool.false_eq_true, decide_true, decide_false, reduceIte, Band.enc, encO, eListRg]
          unfold Band.lo Band.hi at q
          simp only at q
          have h1 : 0 ≤ (if l - t > least then l - t else least) ∧ (if l - t > least then l - t else least) ≤ 9 := by split <;> omega
          have h2 : 0 ≤ (if l + t < most then l + t else most) ∧ (if l + t < most then l + t else most) ≤ 9 := by split <;> omega
          exact ⟨⟨h1.1, by omega, by omega, by omega⟩, q⟩)
def pt_p_need_two : FW := fun rs b Q => ∃ (c d : Chain) (t : Band), c.Ok ∧ d.Ok ∧ t.Ok ∧ rs = [.d c.enc, .d d.enc, .d t.enc] ∧ Q .none b
theorem mono_p_need_two : FMono pt_p_need_two := fun rs b Q Q' hh ⟨c, d, t, o, o2, o3, e, q⟩ => ⟨c, d, t, o, o2, o3, e, hh _ _ q⟩
abbrev s_p_need_two : Stmt := topS 34
theorem sc_p_need_two : FnScope ["one", "other", "band"] ["one", "other", "band"] (defScope s_p_need_two) := ⟨rfl, rfl, rfl, by decide +kernel, rfl, by decide +kernel, by decide +kernel⟩
theorem ok_p_need_two {f : Addr} {fd : FuncData} (F : Fun K "need_two" "need_two" s_p_need_two f fd) (hm : mg "need_two" = some (.ref f)) (hb : Binds K fd ["one", "other", "band"] []) (nb : Nb mg) (kc : Kc mg) (C_p_need_band : Can P w K mg base 2 "need_band" ["band"] pt_p_need_band) (C_p_need_chain : Can P w K mg base 4 "need_chain" ["chain"] pt_p_need_chain) :
    Can P w K mg base 5 "need_two" ["one", "other", "band"] pt_p_need_two := by
  exact fn_data F sc_p_need_two hm hb mono_p_need_two (fun md G cdv A outer s H E hr =>
    (pdb_cons (pds_expr (pd_call C_p_need_chain (hr.mono (by decide)) (by rfl) (pda_cons (pv_ 0) pda_nil)))
      (pdb_cons (pds_expr (pd_call C_p_need_chain (hr.mono (by decide)) (by rfl) (pda_cons (pv_ 1) pda_nil)))
      (pdb_one (pds_expr (pd_call C_p_need_band (hr.mono (by decide)) (by rfl) (pda_cons (pv_ 2) pda_nil)))))))
    (by
      rintro rs b Q hl ⟨c, d, t, o1, o2, o3, rfl, q⟩
      simp only [sSeq, sNil, sAsg, sRet, sIf, sSet, sExpr, sFrz, sMove, sApp, sExt, sPar, eOp, eUn, eVar, eC, eIf, eAnd, eOr, eChain, tVal, uAnd, uOr, uNot, uTrue, eTup, eLst, eBi, eSl, partR, eIsi, eCall, eCallL, aCons, aNil, allD, dTup, dCons, dName, dNil, dSub, rho0, endD, lft, frz, stor, storAll, setAll, rtD, vIx, seqR, vII, vIC, vAdd, vSub, vMul, vFdiv, vMod, vPow, vLt, vLe, vGt, vGe, vEqS, vNeS, vIsN, vNotN, vNot, vNeg, isNo, vMin2, vMax2, vAbs, vInt1, vLen, vTuple, vList, vSum, isTy, noL, noL1, lend, scalD, R.held, R.fresh, List.map_cons, List.map_nil, List.length_cons, List.length_nil, List.cons_append, List.nil_append, List.getElem?_cons_zero, List.getElem?_cons_succ, List.set_cons_zero, List.set_cons_succ, List.replicate_succ, List.replicate_zero, Nat.zero_add, Nat.reduceAdd, Nat.reduceSub, Nat.reduceLT, Option.join_some, Option.join_none, Option.bind_some, Option.map_some, List.all_cons, List.all_nil, Bool.and_true, Bool.true_and, Bool.not_true, Bool.not_false, and_true, true_and, if_true, if_false, Bool.false_eq_true, decide_true, decide_false, reduceIte]
      refine ⟨c, o1, rfl, d, o2, rfl, t, o3, rfl, ?_⟩
      simp only [sSeq, sNil, sAsg, sRet, sIf, sSet, sExpr, sFrz, sMove, sApp, sExt, sPar, eOp, eUn, eVar, eC, eIf, eAnd, eOr, eChain, tVal, uAnd, uOr, uNot, uTrue, eTup, eLst, eBi, eSl, partR, eIsi, eCall, eCallL, aCons, aNil, allD, dTup, dCons, dName, dNil, dSub, rho0, endD, lft, frz, stor, storAll, setAll, rtD, vIx, seqR, vII, vIC, vAdd, vSub, vMul, vFdiv, vMod, vPow, vLt, vLe, vGt, vGe, vEqS, vNeS, vIsN, vNotN, vNot, vNeg, isNo, vMin2, vMax2, vAbs, vInt1, vLen, vTuple, vList, vSum, isTy, noL, noL1, lend, scalD, R.held, R.fresh, List.map_cons, List.map_nil, List.length_cons, List.length_nil, List.cons_append, List.nil_append, List.getElem?_cons_zero, List.getElem?_cons_succ, List.set_cons_zero, List.set_cons_succ, List.replicate_succ, List.replicate_zero, Nat.zero_add, Nat.reduceAdd, Nat.reduceSub, Nat.reduceLT, Option.join_some, Option.join_none, Option.bind_some, Option.map_some, List.all_cons, List.all_nil, Bool.and_true, Bool.true_and, Bool.not_true, Bool.not_false, and_true, true_and, if_true, if_false, Bool.false_eq_true, decide_true, decide_false, reduceIte]
      exact q)
def pt_p_begin_pair : FW := fun rs b Q => ∃ (c d : Chain), c.Ok ∧ d.Ok ∧ rs = [.d c.enc, .d d.enc] ∧ Q (pairBegin c d).enc b
theorem mono_p_begin_pair : FMono pt_p_begin_pair := fun rs b Q Q' hh ⟨c, d, o, o2, e, q⟩ => ⟨c, d, o, o2, e, hh _ _ q⟩
abbrev s_p_begin_pair : Stmt := topS 35
theorem sc_p_begin_pair : FnScope ["one", "other"] ["one", "other"] (defScope s_p_begin_pair) := ⟨rfl, rfl, rfl, by decide +kernel, rfl, by decide +kernel, by decide +kernel⟩
theorem ok_p_begin_pair {f : Addr} {fd : FuncData} (F : Fun K "begin_pair" "begin_pair" s_p_begin_pair f fd) (hm : mg "begin_pair" = some (.ref f)) (hb : Binds K fd ["one", "other"] []) (nb : Nb mg) (kc : Kc mg) (C_p_begin_of : Can P w K mg base 2 "begin_of" ["chain"] pt_p_begin_of) :
    Can P w K mg base 3 "begin_pair" ["one", "other"] pt_p_begin_pair := by
  exact fn_data F sc_p_begin_pair hm hb mono_p_begin_pair (fun md G cdv A outer s H E hr =>
    (pdb_one (pds_ret (pd_tup (pda_cons (pd_call C_p_begin_of (hr.mono (by decide)) (by rfl) (pda_cons (pv_ 0) pda_nil)) (pda_cons (pd_call C_p_begin_of (hr.mono (by decide)) (by rfl) (pda_cons (pv_ 1) pda_nil)) (pda_cons pd_non pda_nil)))))))
    (by
      rintro rs b Q hl ⟨c, d, o1, o2, rfl, q⟩
      simp only [sSeq, sNil, sAsg, sRet, sIf, sSet, sExpr, sFrz, sMove, sApp, sExt, sPar, eOp, eUn, eVar, eC, eIf, eAnd, eOr, eChain, tVal, uAnd, uOr, uNot, uTrue, eTup, eLst, eBi, eSl, partR, eIsi, eCall, eCallL, aCons, aNil, allD, dTup, dCons, dName, dNil, dSub, rho0, endD, lft, frz, stor, storAll, setAll, rtD, vIx, seqR, vII, vIC, vAdd, vSub, vMul, vFdiv, vMod, vPow, vLt, vLe, vGt, vGe, vEqS, vNeS, vIsN, vNotN, vNot, vNeg, isNo, vMin2, vMax2, vAbs, vInt1, vLen, vTuple, vList, vSum, isTy, noL, noL1, lend, scalD, R.held, R.fresh, List.map_cons, List.map_nil, List.length_cons, List.length_nil, List.cons_append, List.nil_append, List.getElem?_cons_zero, List.getElem?_cons_succ, List.set_cons_zero, List.set_cons_succ, List.replicate_succ, List.replicate_zero, Nat.zero_add, Nat.reduceAdd, Nat.reduceSub, Nat.reduceLT, Option.join_some, Option.join_none, Option.bind_some, Option.map_some, List.all_cons, List.all_nil, Bool.and_true, Bool.true_and, Bool.not_true, Bool.not_false, and_true, true_and, if_true, if_false, Bool.false_eq_true, decide_true, decide_false, reduceIte]
      refine ⟨c, o1, rfl, d, o2, rfl, ?_⟩
      exact q)
def pt_p_pair_behind : FW := fun rs b Q => ∃ (c d : Chain) (t : Band) (p : PairS) (x : Int), c.Ok ∧ d.Ok ∧ PlOk c.houses.length p.near ∧ PlOk d.houses.length p.far ∧ rs = [.d (.tuple [c.enc, d.enc]), .d t.enc, .d p.enc, .d (.int x)] ∧
  Q (.tuple [(pairNext c d t p x).enc, (dayN c p.near x).enc, (dayN d p.far x).enc]) b
theorem mono_p_pair_behind : FMono pt_p_pair_behind := fun rs b Q Q' hh ⟨c, d, t, p, x, o, o2, o3, o4, e, q⟩ => ⟨c, d, t, p, x, o, o2, o3, o4, e, hh _ _ q⟩
theorem keep_enc (t : Band) (x : Int) (b : Nat) (Q : R → Nat → Prop) (h : Q (.d (encO (keepT t x))) b) : (if isNo (encO t.turn) = true then Q (.d .none) b else Q (.d (.int x)) b) := by
  unfold keepT at h
  cases e : t.turn with
  | none => rw [e] at h; exact h
  | some y => rw [e] at h; exact h
abbrev s_p_pair_behind : Stmt := topS 36
theorem sc_p_pair_behind : FnScope ["chains", "band", "pair", "demand", "near", "mine", "far", "yours"] ["chains", "band", "pair", "demand"] (defScope s_p_pair_behind) := ⟨rfl, rfl, rfl, by decide +kernel, rfl, by decide +kernel, by decide +kernel⟩
theorem ok_p_pair_behind {f : Addr} {fd : FuncData} (F : Fun K "pair_behind" "pair_behind" s_p_pair_behind f fd) (hm : mg "pair_behind" = some (.ref f)) (hb : Binds K fd ["chains", "band", "pair", "demand"] []) (nb : Nb mg) (kc : Kc mg) (C_p_day_of : Can P w K mg base 2 "day_of" ["chain", "stand", "demand"] pt_p_day_of) :
    Can P w K mg base 3 "pair_behind" ["chains", "band", "pair", "demand"] pt_p_pair_behind := by
  exact fn_data F sc_p_pair_behind hm hb mono_p_pair_behind (fun md G cdv A outer s H E hr =>
    (pdb_cons (pds_asg (pd_call C_p_day_of (hr.mono (by decide)) (by rfl) (pda_cons (pd_ix (pv_ 0) pd_int) (pda_cons (pd_ix (pv_ 2) pd_int) (pda_cons (pv_ 3) pda_nil)))) (pdg_tup (n := 2) rfl (pdgs_cons (pdg_name (i := 4) sc_p_pair_behind.nd rfl (by first | exact .inl rfl | exact .inr rfl)) (pdgs_cons (pdg_name (i := 5) sc_p_pair_behind.nd rfl (by first | exact .inl rfl | exact .inr rfl)) pdgs_nil))))
      (pdb_cons (pds_asg (pd_call C_p_day_of (hr.mono (by decide)) (by rfl) (pda_cons (pd_ix (pv_ 0) pd_int) (pda_cons (pd_ix (pv_ 2) pd_int) (pda_cons (pv_ 3) pda_nil)))) (pdg_tup (n := 2) rfl (pdgs_cons (pdg_name (i := 6) sc_p_pair_behind.nd rfl (by first | exact .inl rfl | exact .inr rfl)) (pdgs_cons (pdg_name (i := 7) sc_p_pair_behind.nd rfl (by first | exact .inl rfl | exact .inr rfl)) pdgs_nil))))
      (pdb_one (pds_ret (pd_tup (pda_cons (pd_tup (pda_cons (pv_ 4) (pda_cons (pv_ 6) (pda_cons (pd_if (pdt_isN (pd_ix (pv_ 1) pd_int) pd_non) pd_non (pv_ 3)) pda_nil)))) (pda_cons (pv_ 5) (pda_cons (pv_ 7) pda_nil)))))))))
    (by
      rintro rs b Q hl ⟨c, d, t, p, x, o1, o2, o3, o4, rfl, q⟩
      unfold pairNext at q
      simp only [sSeq, sNil, sAsg, sRet, sIf, sSet, sExpr, sFrz, sMove, sApp, sExt, sPar, eOp, eUn, eVar, eC, eIf, eAnd, eOr, eChain, tVal, uAnd, uOr, uNot, uTrue, eTup, eLst, eBi, eSl, partR, eIsi, eCall, eCallL, aCons, aNil, allD, dTup, dCons, dName, dNil, dSub, rho0, endD, lft, frz, stor, storAll, setAll, rtD, vIx, seqR, vII, vIC, vAdd, vSub, vMul, vFdiv, vMod, vPow, vLt, vLe, vGt, vGe, vEqS, vNeS, vIsN, vNotN, vNot, vNeg, isNo, vMin2, vMax2, vAbs, vInt1, vLen, vTuple, vList, vSum, isTy, noL, noL1, lend, scalD, R.held, R.fresh, List.map_cons, List.map_nil, List.length_cons, List.length_nil, List.cons_append, List.nil_append, List.getElem?_cons_zero, List.getElem?_cons_succ, List.set_cons_zero, List.set_cons_succ, List.replicate_succ, List.replicate_zero, Nat.zero_add, Nat.reduceAdd, Nat.reduceSub, Nat.reduceLT, Option.join_some, Option.join_none, Option.bind_some, Option.map_some, List.all_cons, List.all_nil, Bool.and_true, Bool.true_and, Bool.not_true, Bool.not_false, and_true, true_and, if_true, if_false, Bool.false_eq_true, decide_true, decide_false, reduceIte, PairS.enc, atI_0, atI_1]
      refine ⟨c, p.near, x, o1, o3, rfl, ?_⟩
      simp only [sSeq, sNil, sAsg, sRet, sIf, sSet, sExpr, sFrz, sMove, sApp, sExt, sPar, eOp, eUn, eVar, eC, eIf, eAnd, eOr, eChain, tVal, uAnd, uOr, uNot, uTrue, eTup, eLst, eBi, eSl, partR, eIsi, eCall, eCallL, aCons, aNil, allD, dTup, dCons, dName, dNil, dSub, rho0, endD, lft, frz, stor, storAll, setAll, rtD, vIx, seqR, vII, vIC, vAdd, vSub, vMul, vFdiv, vMod, vPow, vLt, vLe, vGt, vGe, vEqS, vNeS, vIsN, vNotN, vNot, vNeg, isNo, vMin2, vMax2, vAbs, vInt1, vLen, vTuple, vList, vSum, isTy, noL, noL1, lend, scalD, R.held, R.fresh, List.map_cons, List.map_nil, List.length_cons, List.length_nil, List.cons_append, List.nil_append, List.getElem?_cons_zero, List.getElem?_cons_succ, List.set_cons_zero, List.set_cons_succ, List.replicate_succ, List.replicate_zero, Nat.zero_add, Nat.reduceAdd, Nat.reduceSub, Nat.reduceLT, Option.join_some, Option.join_none, Option.bind_some, Option.map_some, List.all_cons, List.all_nil, Bool.and_true, Bool.true_and, Bool.not_true, Bool.not_false, and_true, true_and, if_true, if_false, Bool.false_eq_true, decide_true, decide_false, reduceIte, PairS.enc, atI_0, atI_1]
      refine ⟨d, p.far, x, o2, o4, rfl, ?_⟩
      simp only [sSeq, sNil, sAsg, sRet, sIf, sSet, sExpr, sFrz, sMove, sApp, sExt, sPar, eOp, eUn, eVar, eC, eIf, eAnd, eOr, eChain, tVal, uAnd, uOr, uNot, uTrue, eTup, eLst, eBi, eSl, partR, eIsi, eCall, eCallL, aCons, aNil, allD, dTup, dCons, dName, dNil, dSub, rho0, endD, lft, frz, stor, storAll, setAll, rtD, vIx, seqR, vII, vIC, vAdd, vSub, vMul, vFdiv, vMod, vPow, vLt, vLe, vGt, vGe, vEqS, vNeS, vIsN, vNotN, vNot, vNeg, isNo, vMin2, vMax2, vAbs, vInt1, vLen, vTuple, vList, vSum, isTy, noL, noL1, lend, scalD, R.held, R.fresh, List.map_cons, List.map_nil, List.length_cons, List.length_nil, List.cons_append, List.nil_append, List.getElem?_cons_zero, List.getElem?_cons_succ, List.set_cons_zero, List.set_cons_succ, List.replicate_succ, List.replicate_zero, Nat.zero_add, Nat.reduceAdd, Nat.reduceSub, Nat.reduceLT, Option.join_some, Option.join_none, Option.bind_some, Option.map_some, List.all_cons, List.all_nil, Bool.and_true, Bool.true_and, Bool.not_true, Bool.not_false, and_true, true_and, if_true, if_false, Bool.false_eq_true, decide_true, decide_false, reduceIte, PairS.enc, Band.enc, atI_0, atI_1, atI_2]
      unfold PairS.enc keepT at q
      cases e : t.turn with
      | none =>
        simp only [e, encO] at q ⊢
        exact q
      | some y =>
        simp only [e, encO] at q ⊢
        exact q)
end
end L2.U
/-! The data layer, part 11: dicts whose keys are data, all values True. -/
namespace L2.U
open PySem PySem.Spec PyProof.Rows
theorem sqTat {K : PySem.W.Frag} {P : Program} {w : World} {H : Hp} {h : Heap} {a : Addr} {xs : List V} (hok : HOk P w H h) (KX : K.In h) (q : SqT K H a xs) : ∃ (its : List Value) (o : Obj) (n : Nat), Vals xs its ∧ h.get? a = some o ∧ o.cls = .type "tuple" ∧ o.data = .seq its.toArray n := by
  rcases q with q | ⟨o, its, n, e, hc, hd, _, hv⟩
  · obtain ⟨_, its, hv, o, e, hc, n, hd⟩ := (show ObjOk P w H h a (.tup xs) from q.ok hok)
    exact ⟨its, o, n, hv, e, hc, hd⟩
  · exact ⟨its.toList, o, n, hv, KX _ _ e, hc, by simp [hd]⟩
mutual
theorem nested_of {K : PySem.W.Frag} {P : Program} {w : World} {G H : Hp} {h : Heap} (s : Same G H) (hok : HOk P w H h) (KX : K.In h) : ∀ (k : NestedKey) (v : V) (u : Value), Dp K G v k.data → RelV v u → NestedIs h k u
  | .none, _, _, d, r => by
    unfold NestedKey.data at d
    cases d
    cases r
    exact .none
  | .num i, _, _, d, r => by
    unfold NestedKey.data at d
    cases d
    obtain ⟨t, rfl⟩ := r
    exact .int i t
  | .text x, _, _, d, r => by
    unfold NestedKey.data at d
    cases d
    obtain ⟨t, rfl⟩ := r
    exact .text x t
  | .tup ks, _, _, d, r => by
    unfold NestedKey.data at d
    cases d with
    | tup h1 h2 =>
      cases r
      obtain ⟨its, o, n, hv, e, hc, hd⟩ := sqTat hok KX (sqT_mono s h1)
      exact .tup e hc hd (by simpa using nested_all s hok KX ks _ _ h2 hv)
theorem nested_all {K : PySem.W.Frag} {P : Program} {w : World} {G H : Hp} {h : Heap} (s : Same G H) (hok : HOk P w H h) (KX : K.In h) : ∀ (ks : List NestedKey) (vs : List V) (us : List Value), DpAll K G vs (NestedKey.datas ks) → Vals vs us → NestedAll h ks us
  | [], _, _, d, r => by
    unfold NestedKey.datas at d
    cases d
    cases r
    exact .nil
  | k :: ks, _, _, d, r => by
    unfold NestedKey.datas at d
    cases d with
    | cons d1 d2 =>
      cases r with
      | cons r1 r2 => exact .cons (nested_of s hok KX k _ _ d1 r1) (nested_all s hok KX ks _ _ d2 r2)
end
mutual
/-- data as a key -/
def keyOf : PyData → Option NestedKey
  | .none => some .none
  | .int i => some (.num i)
  | .str x => some (.text x)
  | .tuple ds => (keysOf ds).map .tup
  | _ => none
def keysOf : List PyData → Option (List NestedKey)
  | [] => some []
  | d :: ds => (keyOf d).bind fun k => (keysOf ds).map (k :: ·)
end
mutual
theorem keyOf_data : ∀ (d : PyData) (k : NestedKey), keyOf d = some k → k.data = d
  | .none, k, e => by unfold keyOf at e; cases e; rfl
  | .int i, k, e => by unfold keyOf at e; cases e; rfl
  | .str x, k, e => by unfold keyOf at e; cases e; rfl
  | .tuple ds, k, e => by
    unfold keyOf at e
    obtain ⟨ks, e1, rfl⟩ := Option.map_eq_some_iff.mp e
    unfold NestedKey.data
    rw [keysOf_data ds ks e1]
  | .bool _, k, e => by unfold keyOf at e; cases e
  | .list _, k, e => by unfold keyOf at e; cases e
  | .dict _, k, e => by unfold keyOf at e; cases e
theorem keysOf_data : ∀ (ds : List PyData) (ks : List NestedKey), keysOf ds = some ks → NestedKey.datas ks = ds
  | [], ks, e => by unfold keysOf at e; cases e; rfl
  | d :: ds, ks, e => by
    unfold keysOf at e
    obtain ⟨k, e1, e2⟩ := Option.bind_eq_some_iff.mp e
    obtain ⟨ks', e3, rfl⟩ := Option.map_eq_some_iff.mp e2
    unfold NestedKey.datas
    rw [keyOf_data d k e1, keysOf_data ds ks' e3]
end
/-- a tuple as a key that a dict takes -/
def keyD (ds : List PyData) : Option NestedKey := (keyOf (.tuple ds)).bind fun k => if k.depth ≤ 8 then some k else none
theorem keyD_ok {ds : List PyData} {k : NestedKey} (e : keyD ds = some k) : k.data = .tuple ds ∧ k.depth ≤ 8 := by
  unfold keyD at e
  obtain ⟨k', e1, e2⟩ := Option.bind_eq_some_iff.mp e
  split at e2
  · rename_i h
    cases e2
    exact ⟨keyOf_data _ _ e1, h⟩
  · cases e2

def triK (x : NestedKey × Addr) : NestedKey × Addr × Value := (x.1, x.2, Value.bool true)
section
variable {P : Program} {w : World} {K : PySem.W.Frag} {G H : Hp} {h : Heap} {d : Addr} {xs : List (NestedKey × Addr)}
theorem keyIs (s : Same G H) (hok : HOk P w H h) (KX : K.In h) {a : Addr} {k : NestedKey} (kd : Dp K G (.ref a) k.data) (hd : k.depth ≤ 8) : (nestedKind P w).is h k a := ⟨nested_of s hok KX k _ _ kd rfl, hd⟩
theorem dk_dict (s : Same G H) (hok : HOk P w H h) (KX : K.In h) (e : H d = some (.ext (dkObj P w d xs))) (ks : KeysAt K G xs) : (d == sysModules) = false ∧ h.DictOfH (nestedKind P w) d (xs.map triK) := by
  obtain ⟨⟨h1, o, es, ep, h2, h3, h4, h5, h6⟩, _⟩ := (show ObjOk P w H h d (.ext (dkObj P w d xs)) from hok d _ e)
  refine ⟨h1, o, es, ep, h2, h3, h4, h5, fun x hx => ?_, by simpa [triK, Function.comp_def] using h6⟩
  obtain ⟨y, hy, rfl⟩ := List.mem_map.mp hx
  exact keyIs s hok KX (ks y hy).1 (ks y hy).2
theorem dkObj_of (h1 : (d == sysModules) = false) (dd : h.DictOfH (nestedKind P w) d (xs.map triK)) : ObjOk P w H h d (.ext (dkObj P w d xs)) := by
  obtain ⟨o, es, ep, h2, h3, h4, h5, h6, h7⟩ := dd
  refine ⟨⟨h1, o, es, ep, h2, h3, h4, h5, by simpa [triK, Function.comp_def] using h7⟩, ⟨o, h2⟩, fun a b ⟨q1, o', es', ep', q2, q3⟩ hk => ⟨q1, o', es', ep', hk _ q2, q3⟩⟩
theorem atKey_tri (k : NestedKey) : ∀ xs : List (NestedKey × Addr), (atKey (xs.map triK) k).isSome = decide (k ∈ xs.map (·.1))
  | [] => by simp [atKey]
  | x :: xs => by
    have ih := atKey_tri k xs
    unfold atKey at ih ⊢
    rw [Option.isSome_map] at ih
    rw [List.map_cons, List.find?_cons, Option.isSome_map]
    by_cases hx : x.1 = k
    · have e : decide ((triK x).1 = k) = true := decide_eq_true hx
      rw [e]
      simp [hx]
    · have e : decide ((triK x).1 = k) = false := decide_eq_false hx
      rw [e]
      simp only
      rw [ih, List.map_cons]
      have hx' : ¬ k = x.1 := fun z => hx z.symm
      simp [hx']
end
section
variable {c : Ct} {X : Cx} {a b e e1 e2 e3 tg : Expr} {es : List Expr} {ta tb tc : EW} {ts : AW} {pos : Pos} {ua : TW} {iw : IW} {st : Stmt}
/-! x not in d -/
def rNotInK (P : Program) (w : World) (K : PySem.W.Frag) : R2 := fun x y H Q => ∃ a d k xs G, x = .ref a ∧ y = .ref d ∧ Same G H ∧ H d = some (.ext (dkObj P w d xs)) ∧ KeysAt K G xs ∧ Dp K G (.ref a) (NestedKey.data k) ∧ k.depth ≤ 8 ∧ Q (.bl (!decide (k ∈ xs.map (·.1)))) H
theorem in1_room {A : Around} (hu : A.units + 64 < cLine) : (nestedKind P w).room A.in1 := by
  show A.in1.units + 8 < cLine
  rw [Around.in1_units]
  omega
theorem op_notInK (hu : X.A.units + 64 < cLine) : OpR X (compareOp .NotIn) (rNotInK X.prog X.w X.K) := by
  intro pins s σ H x y v u Q I rx ry ⟨a, d, k, xs, G, ex, ey, sub, e, ks, kd, hd, q⟩
  subst ex ey
  cases rx
  cases ry
  obtain ⟨h1, dd⟩ := dk_dict sub I.hok I.kIn e ks
  refine wpAny_notIn_heap (in1_room hu) (keyIs sub I.hok I.kIn kd hd) h1 dd ?_
  rw [atKey_tri]
  exact ⟨.bl _, H, I.tok _, rfl, q⟩
def vNotInK : R → R → Option R
  | .d (.tuple ds), .k _ ks => (keyD ds).map fun k => .d (.bool (!decide (k ∈ ks)))
  | _, _ => none
theorem lf_notInK : Lf2 c (rNotInK c.P c.w c.K) vNotInK := by
  intro G H x y rx ry fx fy rr Q sub hd kx ky e q
  unfold vNotInK at e
  split at e
  · rename_i ds f ks
    obtain ⟨k, e1, rfl⟩ := Option.map_eq_some_iff.mp e
    obtain ⟨e2, e3⟩ := keyD_ok e1
    obtain ⟨a, vs, rfl, _⟩ := dp_tup kx.dat
    obtain ⟨d, xs, rfl, _, h1, rfl, h3, h4⟩ := ky.is
    exact ⟨a, d, k, xs, G, rfl, rfl, sub, h1, h4, by rw [e2]; exact kx.dat, e3, q G H _ [] (Grow.refl sub) (rk_d (.bl _)) fr_d⟩
  · cases e
theorem op_notInKc (hu : X.A.units + 64 < cLine) (fit : Fit c X) : OpR X (compareOp .NotIn) (rNotInK c.P c.w c.K) := by rw [← fit.k, ← fit.p, ← fit.w]; exact op_notInK hu
theorem pd_notInK (hu : X.A.units + 64 < cLine) (ha : PDE c X a ta) (hb : PDE c X b tb) (fit : Fit c X := by exact {}) (hm : behindInMarks .NotIn b = false := by rfl) : PDE c X (.Compare a [.NotIn] [b] pos) (eOp vNotInK ta tb) := pd_cmp (op_notInKc hu fit) lf_notInK ha hb hm
theorem pdt_notInK (hu : X.A.units + 64 < cLine) (ha : PDE c X a ta) (hb : PDE c X b tb) (fit : Fit c X := by exact {}) (hm : behindInMarks .NotIn b = false := by rfl) : PDT c X (.Compare a [.NotIn] [b] pos) (tVal (eOp vNotInK ta tb)) := pdt_cmp (op_notInKc hu fit) lf_notInK ha hb hm
/-! len(d) -/
def rLenK (P : Program) (w : World) (K : PySem.W.Frag) : List V → Hp → VK → Prop := fun vs H Q => ∃ d xs G, vs = [.ref d] ∧ Same G H ∧ H d = some (.ext (dkObj P w d xs)) ∧ KeysAt K G xs ∧ xs.length ≤ sizeLine ∧ Q (.int xs.length) H
theorem call_lenK : CallR X (.builtin "len") (rLenK X.prog X.w X.K) := by
  intro pins s σ H vs us Q I r ⟨d, xs, G, ex, sub, e, ks, hz, q⟩
  subst ex
  obtain ⟨u, rfl, rx⟩ := vals1 r
  cases rx
  obtain ⟨h1, dd⟩ := dk_dict sub I.hok I.kIn e ks
  refine call_len_dictH h1 dd (by rw [List.length_map]; rw [sizeLine_eq] at hz; omega) ⟨.int xs.length, H, I.tok _, ⟨s.toks + 1, by rw [List.length_map]⟩, q⟩
def vLenK : List R → Option R
  | [.k _ ks] => some (.d (.int ks.length))
  | _ => none
theorem lf_lenK : LfN c (rLenK c.P c.w c.K) vLenK := by
  intro G H xs rs rr Q sub hd k e q
  unfold vLenK at e
  split at e
  · cases e
    obtain ⟨v, fp, rfl, kx⟩ := rkL1 k
    obtain ⟨d, xs, rfl, _, h1, rfl, h3, h4⟩ := kx.is
    exact ⟨d, xs, G, rfl, sub, h1, h4, h3, by rw [List.length_map] at q; exact q G H _ [] (Grow.refl sub) (rk_d (.int _)) fr_d⟩
  · cases e
theorem call_lenKc (fit : Fit c X) : CallR X (.builtin "len") (rLenK c.P c.w c.K) := by rw [← fit.k, ← fit.p, ← fit.w]; exact call_lenK
theorem pd_lenK {p : Pos} (hg : Gl X "len") (hm : X.mg "len" = none) (ha : PDA c X [a] ts) (fit : Fit c X := by exact {}) (he : starEach [a] X.env = (false, eval a X.env) :: starEach [] X.env := by rfl) : PDE c X (.Call (.Name "len" p) [a] [] pos) (eBi vLenK ts) :=
  pd_bi (call_lenKc fit) lf_lenK hg hm PySem.boot_len ha (by decide) (by decide) he (by rfl)
/-! d[x] = True, of a new key -/
theorem md_put {md : Md} {bb : Nat} {H : Hp} {l : Addr} {o : HO} (hm : ¬ md.has l) (h : md.I bb H) : md.I bb (upd H l o) := by
  cases md with
  | pure => exact trivial
  | m a cl gl =>
    obtain ⟨ne, n, cells, great, h1, h2, h3, r⟩ := h
    exact ⟨ne, n, cells, great, by rw [upd_ne (fun z => hm (.inl z.symm))]; exact h1, by rw [upd_ne (fun z => hm (.inr (.inl z.symm)))]; exact h2, by rw [upd_ne (fun z => hm (.inr (.inr z.symm)))]; exact h3, r⟩
theorem DState.setK {bb : Nat} {G H : Hp} {σ : St} {ρ : DRho} (S : DState c bb G H σ ρ) {i : Nat} {f : Bool} {ks : List NestedKey} (e : ρ[i]? = some (some (.k f ks))) :
    ∃ l xs, σ[i]? = some (some (.ref l)) ∧ H l = some (.ext (dkObj c.P c.w l xs)) ∧ xs.map (·.1) = ks ∧ KeysAt c.K G xs ∧ ∀ x, Dp c.K G (.ref x.2) (NestedKey.data x.1) → NestedKey.depth x.1 ≤ 8 → (xs ++ [x]).length ≤ sizeLine → DState c bb G (upd H l (.ext (dkObj c.P c.w l (xs ++ [x])))) σ (ρ.set i (some (.k false (ks ++ [x.1])))) := by
  obtain ⟨fps, s⟩ := S.ex
  obtain ⟨v, e1, k⟩ := s.sl i _ e
  obtain ⟨l, xs, rfl, e2, e3, e4, e5, e6⟩ := k.is
  have own := k.own l (by rw [e2]; simp)
  refine ⟨l, xs, e1, e3, e4, e6, fun x hx hx2 hz => ?_⟩
  have hi : i < σ.length := (List.getElem?_eq_some_iff.mp e1).1
  have hi' : i < ρ.length := by have := S.len; omega
  have hm : ¬ c.md.has l := fun z => (S.ok l z).1 own.2.1
  refine ⟨S.ok, ⟨fun b o n q => ?_, fun b q => ?_, S.go.gg, same_put S.go.sub own.1, S.go.fz⟩, md_put hm S.inv, by simp [S.len], fps, fun j r q => ?_, fun j1 j2 r1 r2 ne q1 q2 z h1 h2 => ?_⟩
  · have : b ≠ l := fun z => by rw [z, own.2.1] at q; cases q
    rw [upd_ne this]; exact S.go.keep b o n q
  · have : b ≠ l := fun z => by rw [z, upd_same] at q; cases q
    rw [upd_ne this] at q; exact S.go.dom b q
  · by_cases hj : j = i
    · subst hj
      rw [List.getElem?_set_self hi'] at q
      cases q
      refine ⟨_, e1, ⟨fun z hz => ?_, k.nd, l, xs ++ [x], rfl, e2, upd_same, by rw [List.map_append, e4]; rfl, hz, fun y hy => ?_⟩⟩
      · have : z = l := by rw [e2] at hz; simpa using hz
        subst this
        exact ⟨own.1, own.2.1, by rw [upd_same]; exact fun z => nomatch z⟩
      · rcases List.mem_append.mp hy with hy | hy
        · exact e6 y hy
        · have : y = x := by simpa using hy
          subst this
          exact ⟨hx, hx2⟩
    · rw [List.getElem?_set_ne (Ne.symm hj)] at q
      obtain ⟨v', q1, q2⟩ := s.sl j r q
      refine ⟨v', q1, q2.keepIf (fun l' hl' o q => ?_) (.refl _) fun l' hl' => (q2.own l' hl').1⟩
      have : l' ≠ l := fun z => by
        subst z
        exact s.dis j i r _ hj (by assumption) e l' hl' (by rw [e2]; simp)
      rw [upd_ne this]; exact q
  · have key : ∀ j r, (ρ.set i (some (.k false (ks ++ [x.1]))))[j]? = some (some r) → ∃ r', ρ[j]? = some (some r') := fun j r q => by
      by_cases hj : j = i
      · subst hj; exact ⟨_, e⟩
      · rw [List.getElem?_set_ne (Ne.symm hj)] at q; exact ⟨r, q⟩
    obtain ⟨r1', q1'⟩ := key _ _ q1
    obtain ⟨r2', q2'⟩ := key _ _ q2
    exact s.dis j1 j2 r1' r2' ne q1' q2' z h1 h2
def sKPut (P : Program) (w : World) (K : PySem.W.Frag) (td ty : TE) : TS := fun D σ H => td σ H fun x H1 => ty σ H1 fun y H2 => ∃ d a k xs G, x = .ref d ∧ y = .ref a ∧ Same G H2 ∧ H2 d = some (.ext (dkObj P w d xs)) ∧ KeysAt K G xs ∧ Dp K G (.ref a) (NestedKey.data k) ∧ k.depth ≤ 8 ∧ k ∉ xs.map (·.1) ∧ xs.length < sizeLine ∧
  D.nx σ (upd H2 d (.ext (dkObj P w d (xs ++ [(k, a)]))))
theorem ps_kput {o i value : Expr} {pos' : Pos} {td ty : TE} (hu : X.A.units + 64 < cLine) (ho : PE X o td) (hi : PE X i ty) (hv : PE X value (tC (.bl true))) (hs : swapsWith value (some (.Subscript o i pos')) pos.line X.env = pure false) :
    PS X (.Assign [.Subscript o i pos'] value pos) (sKPut X.prog X.w X.K td ty) := by
  refine ⟨fun pins s σ H D I h => ?_⟩
  refine wpAny_Assign_Subscript (thn (hv.run pins s σ H (fun v H' => v = .bl true ∧ sKPut X.prog X.w X.K td ty D σ H') I ⟨rfl, h⟩) fun r s1 ⟨v, H1, I1, rv, ev, q1⟩ => thn (ho.run pins s1 σ H1 _ I1 q1) fun u s2 ⟨x, H2, I2, rx, q2⟩ => thn (hi.run pins s2 σ H2 _ I2 q2) fun iv s3 ⟨y, H3, I3, ry, d, a, k, xs, G, ex, ey, sub, e, ks, kd, hd, hnk, hz, q3⟩ => ?_) hs
  subst ex ey ev
  cases rv
  cases rx
  cases ry
  obtain ⟨h1, dd⟩ := dk_dict sub I3.hok I3.kIn e ks
  have hn : atKey (xs.map triK) k = none := by
    have := atKey_tri k xs
    rw [decide_eq_false hnk] at this
    cases h : atKey (xs.map triK) k with
    | none => rfl
    | some p => rw [h] at this; cases this
  refine wpAny_setItem_heap (hsz := by rw [List.length_map]; omega) (in1_room hu) (keyIs sub I3.hok I3.kIn kd hd) dd fun h' dd' hs' => ⟨σ, _, ?_, q3⟩
  rw [storedH_new hn] at dd'
  have dd2 : h'.DictOfH (nestedKind X.prog X.w) d ((xs ++ [(k, a)]).map triK) := by rw [List.map_append]; exact dd'
  have he : ∃ q, h'.get? d = some q := let ⟨q, _, _, hq, _⟩ := dd'; ⟨q, hq⟩
  exact d_write I3 (by rw [e]; exact True.intro) hs' he (dkObj_of h1 dd2)
/-- d[x] = True -/
def sKset (i : Nat) (t : EW) : SW := fun ρ b Q => match ρ[i]?.join with
  | some (.k _ ks) => t ρ b fun r b1 => match r with
    | .d (.tuple ds) => lft (keyD ds) fun k => (k ∉ ks ∧ ks.length < 1000000) ∧ Q (.nx (ρ.set i (some (.k false (ks ++ [k]))))) b1
    | _ => False
  | _ => False
theorem pds_kset {i : Nat} {x : Str} {p1 p2 p3 : Pos} {j} (hu : X.A.units + 64 < cLine) (ho : PE X (.Name x p1) (tVar i)) (he : PDE c X e ta) (fit : Fit c X := by exact {}) (hs : swapsWith (.Constant (.bool true) j p3) (some (.Subscript (.Name x p1) e p2)) pos.line X.env = pure false := by rfl) :
    PDS c X (.Assign [.Subscript (.Name x p1) e p2] (.Constant (.bool true) j p3) pos) (sKset i ta) := by
  refine ⟨ps_imp (ps_kput hu ho he.pe pe_bl hs) fun D σ H ⟨G, ρ, b, S, q⟩ => ?_, fun ρ b Q Q' hh q => ?_⟩
  · unfold sKset at q
    split at q
    · rename_i f ks e0
      obtain ⟨l, xs, e1, e3, e4, _⟩ := S.setK (join_some e0)
      rw [fit.k, fit.p, fit.w]
      refine ⟨_, e1, G, ρ, b, S, he.mono _ _ _ _ (fun r b1 q1 G1 H1 w fp g1 i1 k1 _ => ?_) q⟩
      split at q1
      · rename_i ds fr1
        obtain ⟨k, ek, hh, q2⟩ := lft_ex q1
        obtain ⟨l', xs', e1', e3', e4', e5', put⟩ := (S.grow g1 i1).setK (join_some e0)
        rw [e1] at e1'
        cases e1'
        obtain ⟨k1', k2'⟩ := keyD_ok ek
        obtain ⟨a, vs, rfl, _⟩ := dp_tup k1.dat
        have hlen : xs'.length = ks.length := by rw [← e4', List.length_map]
        have kd : Dp c.K G1 (.ref a) (NestedKey.data k) := by rw [k1']; exact k1.dat
        refine ⟨l, a, k, xs', G1, rfl, rfl, g1.sub, e3', e5', kd, k2', by rw [e4']; exact hh.1, by rw [hlen, sizeLine_eq]; omega, ?_⟩
        exact q2 σ G1 _ g1.gg (put (k, a) kd k2' (by rw [List.length_append, hlen, sizeLine_eq]; simp only [List.length_singleton]; omega))
      · exact q1.elim
    · exact q.elim
  · unfold sKset at q ⊢
    split at q
    · exact he.mono _ _ _ _ (fun r b1 q1 => by
        split at q1
        · exact lft_mono (fun _ z => ⟨z.1, hh _ _ z.2⟩) q1
        · exact q1) q
    · exact q
end
end L2.U
/-! The data layer, part 12: a dict's display of one key. -/
namespace L2.U
open PySem PySem.Spec PyProof.Rows
section
variable {prog : Program} {w : World} {KT : Type} [DecidableEq KT] {knd : HeapKind prog w KT} {A : Around} {E : Value → Shared → Prop} {s : Shared}
theorem dict_pairsA {env : Env} {keys : List (Option Expr)} {values : List Expr} {pos : Pos} {pairs : List (Sem Value × Sem Value)} {Q : Value → Shared → Prop} (hu : knd.room A)
    (hshape : (evalEachOpt keys env).zip ((evalEach values env).map fun v => do let x ← v; standAt pos; pure x) = pairs.map fun p => (some p.1, p.2)) (h0 : pairs ≠ []) (hlen : pairs.length ≤ 15)
    (h : wpAny (model prog w) A (evalPairs pairs) (fun vs s₁ => ∃ ps, CarriesH knd s₁.heap vs ps ∧ s₁.heap.DictOfH knd s.heap.objs.size [] ∧
      ∀ h' tk, h'.DictOfH knd s.heap.objs.size (storedAllH [] ps) → Heap.SameBut s.heap.objs.size s₁.heap h' → Q (.ref s.heap.objs.size) { s₁ with heap := h', toks := tk }) E
      { s with heap := s.heap.push { cls := .type "dict", data := .dict #[] } }) :
    wpAny (model prog w) A (eval (.Dict keys values pos) env) Q E s := by
  rw [arm_eval_Dict, hshape, dictDisplay_pairs pairs h0 (by omega)]
  exact wpAny_bind (wpAny_standAt (wpAny_bind (wpAny_subDictH (knd := knd) (Q := fun d s' => wpAny (model prog w) A (pure (Value.ref d)) Q E s') hu hlen
    (wpAny_mono h (fun vs s₁ h₁ => by obtain ⟨ps, hc, hm, hq⟩ := h₁; exact ⟨ps, hc, hm, fun h' tk a b => wpAny_pure (hq h' tk a b)⟩) fun _ _ e => e))))
end
section
variable {c : Ct} {X : Cx} {a b e e1 e2 e3 tg : Expr} {es : List Expr} {ta tb tc : EW} {ts : AW} {pos : Pos} {ua : TW} {iw : IW} {st : Stmt}
def qDict1 (P : Program) (w : World) (K : PySem.W.Frag) (p : Addr) (Q : VK) : List (V × V) → Hp → Prop := fun ps H2 => H2 p = some (.ext (dkObj P w p [])) ∧ ∃ a k G, ps = [(.ref a, .bl true)] ∧ Same G H2 ∧ Dp K G (.ref a) (NestedKey.data k) ∧ k.depth ≤ 8 ∧
  Q (.ref p) (upd H2 p (.ext (dkObj P w p [(k, a)])))
def tDict1 (P : Program) (w : World) (K : PySem.W.Frag) (te : TE) : TE := fun σ H Q => ∀ p, H p = none → te σ (upd H p (.ext (dkObj P w p []))) fun x H2 => qDict1 P w K p Q [(x, .bl true)] H2
theorem pe_dict1 {p3 : Pos} {j} {te : TE} (hu : X.A.units + 64 < cLine) (he : PE X e te) : PE X (.Dict [some e] [.Constant (.bool true) j p3] pos) (tDict1 X.prog X.w X.K te) := by
  refine ⟨fun pins s σ H Q I q => ?_⟩
  have hn := I.hok.fresh (Nat.le_refl s.heap.objs.size)
  have hms : (s.heap.objs.size == sysModules) = false := beq_eq_false_iff_ne.mpr (Ne.symm (Nat.ne_of_lt I.big))
  have I1 := I.laid (a := s.heap.objs.size) (o := .ext (dkObj X.prog X.w s.heap.objs.size [])) (h' := s.heap.push { cls := .type "dict", data := .dict #[] }) (t' := s.toks) (fun _ _ q => Heap.get?_push_of_some _ q) (Nat.le_refl _) (dkObj_of hms (Heap.DictOfH.new s.heap))
  have hs := pps_cons (pos := pos) (X := X) he (pe_bl (X := X) (b := true) (j := j) (pos := p3)) (pps_nil (X := X) (pos := pos))
  have hl := pairTrees_length [some e] [Expr.Constant (.bool true) j p3] X.env pos rfl rfl
  refine dict_pairsA (knd := nestedKind X.prog X.w) (pairs := pairTrees [some e] [.Constant (.bool true) j p3] X.env pos) (by show X.A.units + 8 < cLine; omega) (zip_pairTrees _ _ X.env pos rfl rfl) ?_ ?_ ?_
  · intro z
    rw [z] at hl
    cases hl
  · rw [hl]; show 1 ≤ 15; omega
  · refine thn (hs.run pins _ σ _ (qDict1 X.prog X.w X.K s.heap.objs.size Q) I1 (q _ hn)) fun ws s2 ⟨ps, H2, I2, rel, e2, a, k, G, ex, sub, kd, hd, q2⟩ => ?_
    subst ex
    cases rel with
    | @cons p0 w0 ps0 ws0 r1 t =>
      cases t
      obtain ⟨u1, u2⟩ := w0
      obtain ⟨r1, r2⟩ := r1
      have e1 : u1 = Value.ref a := r1
      have e3 : u2 = Value.bool true := r2
      subst e1 e3
      obtain ⟨h1, dd⟩ := dk_dict (xs := []) sub I2.hok I2.kIn e2 (fun _ z => nomatch z)
      refine ⟨[(k, a, .bool true)], ⟨rfl, rfl, keyIs sub I2.hok I2.kIn kd hd, trivial⟩, dd, fun h' tk dd' hs' => ⟨.ref s.heap.objs.size, _, ?_, rfl, q2⟩⟩
      have he : ∃ q, h'.get? s.heap.objs.size = some q := let ⟨q, _, _, hq, _⟩ := dd'; ⟨q, hq⟩
      exact d_write I2 (by rw [e2]; exact True.intro) hs' he (dkObj_of hms dd')
def eDict1 (t : EW) : EW := fun ρ b Q => t ρ b fun r b1 => match r with
  | .d (.tuple ds) => lft (keyD ds) fun k => Q (.k true [k]) b1
  | _ => False
theorem pd_dict1 {p3 : Pos} {j} (hu : X.A.units + 64 < cLine) (he : PDE c X e ta) (fit : Fit c X := by exact {}) : PDE c X (.Dict [some e] [.Constant (.bool true) j p3] pos) (eDict1 ta) := by
  refine ⟨pe_imp (pe_dict1 hu he.pe) fun σ H Q ⟨G, ρ, b, S, q⟩ p hp => ?_, fun ρ b Q Q' hh q => he.mono _ _ _ _ (fun r b1 q1 => ?_) q⟩
  · rw [fit.k, fit.p, fit.w]
    have gr : Grow G H G (upd H p (.ext (dkObj c.P c.w p []))) := Grow.new S.sub hp
    have hmd : ¬ c.md.has p := fun z => S.inv.there z hp
    refine ⟨G, ρ, b, S.grow gr.go (S.inv.same gr.keep), he.mono _ _ _ _ (fun r b1 q1 G1 H1 v fp g1 i1 k1 _ => ?_) q⟩
    split at q1
    · rename_i ds fr1
      obtain ⟨k, ek, q2⟩ := lft_ex q1
      obtain ⟨k1', k2'⟩ := keyD_ok ek
      obtain ⟨a, vs, rfl, _⟩ := dp_tup k1.dat
      have kd : Dp c.K G1 (.ref a) (NestedKey.data k) := by rw [k1']; exact k1.dat
      have ep : H1 p = some (.ext (dkObj c.P c.w p [])) := g1.keep p _ hmd upd_same
      have gp : G1 p = none := by
        rw [g1.fz p (by rw [upd_same]; exact fun z => nomatch z)]
        exact S.sub.free hp
      refine ⟨ep, a, k, G1, rfl, g1.sub, kd, k2', ?_⟩
      have g := gr.go (c := c) |>.trans g1
      refine q2 G1 _ (.ref p) [p] ⟨fun l o n e => ?_, fun l e => ?_, g.gg, same_put g1.sub gp, g.fz⟩ (md_put hmd i1) ⟨fun z hz => ?_, by simp, p, [(k, a)], rfl, rfl, upd_same, rfl, by show 1 ≤ sizeLine; exact le_line (by decide), fun y hy => ?_⟩ (fr_one hp)
      · have : l ≠ p := fun z => by rw [z, hp] at e; cases e
        rw [upd_ne this]; exact g.keep l o n e
      · have : l ≠ p := fun z => by rw [z, upd_same] at e; cases e
        rw [upd_ne this] at e; exact g.dom l e
      · have : z = p := by simpa using hz
        subst this
        exact ⟨gp, S.here hp, by rw [upd_same]; exact fun z => nomatch z⟩
      · have : y = (k, a) := by simpa using hy
        subst this
        exact ⟨kd, k2'⟩
    · exact q1.elim
  · split at q1
    · exact lft_mono (fun _ => hh _ _) q1
    · exact q1
end
end L2.U
/-! The mirror of the search, and keys. -/
namespace L2.U
open PySem PySem.Spec PyProof.Rows
/-! shapes -/
structure Sh (n : Nat) (d : PyData) : Prop where
  lay : d.canLay0 = true
  deep : d.depth ≤ n
theorem Sh.le {n m : Nat} {d : PyData} (h : Sh n d) (l : n ≤ m) : Sh m d := ⟨h.lay, Nat.le_trans h.deep l⟩
theorem Sh.shaped {n : Nat} {d : PyData} (h : Sh n d) (l : n ≤ 64) : SeqAt.shaped d = true := by
  unfold SeqAt.shaped
  rw [h.lay, decide_eq_true (Nat.le_trans h.deep l)]
  rfl
theorem sh_all {n : Nat} : ∀ {ds : List PyData}, (∀ d ∈ ds, Sh n d) → PyData.canLayAll0 ds = true ∧ PyData.depthAll ds ≤ n
  | [], _ => ⟨by unfold PyData.canLayAll0; rfl, by unfold PyData.depthAll; omega⟩
  | d :: ds, h => by
    obtain ⟨h1, h2⟩ := sh_all (fun z hz => h z (List.mem_cons_of_mem d hz))
    have h3 := h d List.mem_cons_self
    refine ⟨?_, ?_⟩
    · unfold PyData.canLayAll0; rw [h3.lay, h1]; rfl
    · unfold PyData.depthAll
      have := h3.deep
      omega
theorem sh_tup {n : Nat} {ds : List PyData} (h : ∀ d ∈ ds, Sh n d) : Sh (n + 1) (.tuple ds) := by
  obtain ⟨h1, h2⟩ := sh_all h
  exact ⟨by unfold PyData.canLay0; exact h1, by unfold PyData.depth; omega⟩
theorem sh_lst {n : Nat} {ds : List PyData} (h : ∀ d ∈ ds, Sh n d) : Sh (n + 1) (.list ds) := by
  obtain ⟨h1, h2⟩ := sh_all h
  exact ⟨by unfold PyData.canLay0; exact h1, by unfold PyData.depth; omega⟩
theorem sh_int {n : Nat} (i : Int) : Sh n (.int i) := ⟨by simp [PyData.canLay0], by simp [PyData.depth]⟩
theorem sh_bool {n : Nat} (i : Bool) : Sh n (.bool i) := ⟨by simp [PyData.canLay0], by simp [PyData.depth]⟩
theorem sh_none {n : Nat} : Sh n .none := ⟨by simp [PyData.canLay0], by simp [PyData.depth]⟩
theorem sh_word {n : Nat} (f : Bool) : Sh n (.str (wordOf f)) := ⟨by cases f <;> decide +kernel, by simp [PyData.depth]⟩
theorem sh_map {α : Type} {n : Nat} {f : α → PyData} {l : List α} (h : ∀ a ∈ l, Sh n (f a)) : ∀ d ∈ l.map f, Sh n d := fun d hd => by
  obtain ⟨a, ha, rfl⟩ := List.mem_map.mp hd
  exact h a ha
theorem sh_one {n : Nat} {a : PyData} (h : Sh n a) : ∀ d ∈ [a], Sh n d := fun d hd => by
  have : d = a := by simpa using hd
  rw [this]; exact h
theorem sh_two {n : Nat} {a b : PyData} (h : Sh n a) (h2 : Sh n b) : ∀ d ∈ [a, b], Sh n d := fun d hd => by
  rcases List.mem_cons.mp hd with z | z
  · rw [z]; exact h
  · exact sh_one h2 d z
theorem sh_three {n : Nat} {a b e : PyData} (h : Sh n a) (h2 : Sh n b) (h3 : Sh n e) : ∀ d ∈ [a, b, e], Sh n d := fun d hd => by
  rcases List.mem_cons.mp hd with z | z
  · rw [z]; exact h
  · exact sh_two h2 h3 d z
theorem sh_house {n : Nat} (h : House) : Sh (n + 2) h.enc := sh_tup (sh_two (sh_tup (sh_three (sh_word _) (sh_int _) (sh_int _))) (sh_int _))
theorem sh_chain {n : Nat} (c : Chain) : Sh (n + 4) c.enc := sh_tup (sh_two (sh_tup (sh_map fun h _ => sh_house h)) (sh_int _))
theorem sh_place {n : Nat} (p : Place) : Sh (n + 2) p.enc := sh_tup (sh_three (sh_int _) (sh_tup (sh_map fun i _ => sh_int i)) (sh_int _))
theorem sh_stand {n : Nat} (s : Stand) : Sh (n + 3) (encS s) := sh_tup (sh_map fun p _ => sh_place p)
theorem sh_o {n : Nat} (o : Option Int) : Sh n (encO o) := by
  cases o with
  | none => exact sh_none
  | some i => exact sh_int i
theorem sh_band {n : Nat} (t : Band) : Sh (n + 1) t.enc := sh_tup (sh_three (sh_int _) (sh_int _) (sh_o _))
theorem sh_pair {n : Nat} (p : PairS) : Sh (n + 4) p.enc := sh_tup (sh_three (sh_stand _) (sh_stand _) (sh_o _))
/-! eqv -/
theorem eqv_lnil (xs : List PyData) : PyData.eqv (.list xs) (.list []) = xs.isEmpty := by
  cases xs with
  | nil => simp [PyData.eqv, PyData.eqvAll]
  | cons x xs => simp [PyData.eqv, PyData.eqvAll]
theorem eqv_ii (a b e f : Int) : PyData.eqv (.tuple [.int a, .int b]) (.tuple [.int e, .int f]) = (decide (a = e) && decide (b = f)) := by
  have h1 : (a == e) = decide (a = e) := by rw [Bool.eq_iff_iff]; simp
  have h2 : (b == f) = decide (b = f) := by rw [Bool.eq_iff_iff]; simp
  simp [PyData.eqv, PyData.eqvAll, h1, h2]

/-! keys -/
theorem inj_map {α β : Type} {f : α → β} (hf : ∀ a b, f a = f b → a = b) : ∀ {l m : List α}, l.map f = m.map f → l = m
  | [], [], _ => rfl
  | [], _ :: _, h => by cases h
  | _ :: _, [], h => by cases h
  | a :: l, b :: m, h => by
    rw [List.map_cons, List.map_cons] at h
    injection h with h1 h2
    rw [hf a b h1, inj_map hf h2]
theorem keysOf_map {α : Type} {f : α → PyData} {g : α → NestedKey} (h : ∀ a, keyOf (f a) = some (g a)) : ∀ l : List α, keysOf (l.map f) = some (l.map g)
  | [] => by simp [keysOf]
  | a :: l => by
    rw [List.map_cons, List.map_cons]
    unfold keysOf
    rw [h a, keysOf_map h l]
    rfl
def Place.key (p : Place) : NestedKey := .tup [.num p.hand, .tup (p.coming.map .num), .num p.owed]
def keyS (s : Stand) : NestedKey := .tup (s.map Place.key)
def keyO : Option Int → NestedKey
  | none => .none
  | some i => .num i
def PairS.key (p : PairS) : NestedKey := .tup [keyS p.near, keyS p.far, keyO p.last]
theorem keyI (i : Int) : keyOf (.int i) = some (.num i) := by simp [keyOf]
theorem keyT {ds : List PyData} {ks : List NestedKey} (h : keysOf ds = some ks) : keyOf (.tuple ds) = some (.tup ks) := by unfold keyOf; rw [h]; rfl
theorem keys_nil : keysOf [] = some [] := by simp [keysOf]
theorem keys_cons {d : PyData} {ds : List PyData} {k : NestedKey} {ks : List NestedKey} (h : keyOf d = some k) (h2 : keysOf ds = some ks) : keysOf (d :: ds) = some (k :: ks) := by unfold keysOf; rw [h, h2]; rfl
theorem key_place (p : Place) : keyOf p.enc = some p.key := keyT (keys_cons (keyI _) (keys_cons (keyT (keysOf_map keyI _)) (keys_cons (keyI _) keys_nil)))
theorem key_stand (s : Stand) : keyOf (encS s) = some (keyS s) := keyT (keysOf_map key_place s)
theorem key_o (o : Option Int) : keyOf (encO o) = some (keyO o) := by
  cases o with
  | none => simp [encO, keyOf, keyO]
  | some i => exact keyI i
theorem key_pair (p : PairS) : keyOf p.enc = some p.key := keyT (keys_cons (key_stand _) (keys_cons (key_stand _) (keys_cons (key_o _) keys_nil)))
theorem kd_all {n : Nat} : ∀ {ks : List NestedKey}, (∀ k ∈ ks, NestedKey.depth k ≤ n) → NestedKey.depthAll ks ≤ n
  | [], _ => by unfold NestedKey.depthAll; omega
  | k :: ks, h => by
    have h1 := kd_all (fun z hz => h z (List.mem_cons_of_mem k hz))
    have h2 := h k List.mem_cons_self
    unfold NestedKey.depthAll
    omega
theorem kd_map {α : Type} {n : Nat} {f : α → NestedKey} {l : List α} (h : ∀ a ∈ l, (f a).depth ≤ n) : (NestedKey.tup (l.map f)).depth ≤ n + 1 := by
  unfold NestedKey.depth
  have := kd_all (ks := l.map f) (n := n) fun k hk => by
    obtain ⟨a, ha, rfl⟩ := List.mem_map.mp hk
    exact h a ha
  omega
theorem kd_num (i : Int) : (NestedKey.num i).depth = 0 := by simp [NestedKey.depth]
theorem kd_three {a b e : NestedKey} {n : Nat} (h1 : a.depth ≤ n) (h2 : b.depth ≤ n) (h3 : e.depth ≤ n) : (NestedKey.tup [a, b, e]).depth ≤ n + 1 := by
  unfold NestedKey.depth
  simp only [NestedKey.depthAll]
  omega
theorem kd_place (p : Place) : p.key.depth ≤ 2 := by
  have h2 : (NestedKey.tup (p.coming.map .num)).depth ≤ 1 := kd_map fun i _ => by rw [kd_num]; exact Nat.le_refl _
  exact kd_three (by rw [kd_num]; omega) h2 (by rw [kd_num]; omega)
theorem kd_stand (s : Stand) : (keyS s).depth ≤ 3 := kd_map fun p _ => kd_place p
theorem kd_o (o : Option Int) : (keyO o).depth ≤ 3 := by
  cases o with
  | none => simp [keyO, NestedKey.depth]
  | some i => simp [keyO, NestedKey.depth]
theorem kd_pair (p : PairS) : p.key.depth ≤ 4 := kd_three (kd_stand _) (kd_stand _) (kd_o _)
theorem keyD_pair (p : PairS) : keyD [encS p.near, encS p.far, encO p.last] = some p.key := by
  unfold keyD
  have h := key_pair p
  unfold PairS.enc at h
  rw [h]
  show (if p.key.depth ≤ 8 then some p.key else none) = some p.key
  rw [if_pos (Nat.le_trans (kd_pair p) (by decide))]
theorem key_inj1 : ∀ (p q : Place), p.key = q.key → p = q := by
  rintro ⟨a, b, e⟩ ⟨a', b', e'⟩ h
  unfold Place.key at h
  injection h with h
  simp only [List.cons.injEq, NestedKey.num.injEq, NestedKey.tup.injEq, and_true] at h
  obtain ⟨h1, h2, h3⟩ := h
  have := inj_map (f := NestedKey.num) (fun a b h => by injection h) h2
  subst h1 this h3
  rfl
theorem key_inj : ∀ (p q : PairS), p.key = q.key → p = q := by
  rintro ⟨a, b, e⟩ ⟨a', b', e'⟩ h
  unfold PairS.key keyS at h
  injection h with h
  simp only [List.cons.injEq, NestedKey.tup.injEq, and_true] at h
  obtain ⟨h1, h2, h3⟩ := h
  have e1 := inj_map key_inj1 h1
  have e2 := inj_map key_inj1 h2
  have e3 : e = e' := by
    cases e <;> cases e' <;> simp_all [keyO]
  subst e1 e2 e3
  rfl
theorem key_mem {p : PairS} {ks : List PairS} : p.key ∈ ks.map PairS.key ↔ p ∈ ks := by
  constructor
  · intro h
    obtain ⟨q, hq, e⟩ := List.mem_map.mp h
    rw [← key_inj q p e]; exact hq
  · exact fun h => List.mem_map_of_mem h

/-! ### the search -/
def differs (c d : Chain) (p : PairS) (x : Int) : Bool := !(decide ((dayN c p.near x).sent = (dayN d p.far x).sent) && decide ((dayN c p.near x).lost = (dayN d p.far x).lost))
abbrev Row := List Int
abbrev Res := Sum Row (List PairS × List (PairS × Row))
def inGo (c d : Chain) (t : Band) (p : PairS) (row : Row) : List Int → List PairS → List (PairS × Row) → Res
  | [], k, f => .inr (k, f)
  | x :: xs, k, f => if differs c d p x = true then .inl (row ++ [x]) else if pairNext c d t p x ∈ k then inGo c d t p row xs k f else inGo c d t p row xs (k ++ [pairNext c d t p x]) (f ++ [(pairNext c d t p x, row ++ [x])])
def layGo (c d : Chain) (t : Band) : List (PairS × Row) → List PairS → List (PairS × Row) → Res
  | [], k, f => .inr (k, f)
  | pr :: ps, k, f => match inGo c d t pr.1 pr.2 (t.may pr.1.last) k f with
    | .inl r => .inl r
    | .inr kf => layGo c d t ps kf.1 kf.2
theorem inGo_cons (c d : Chain) (t : Band) (p : PairS) (row : Row) (x : Int) (xs : List Int) (k : List PairS) (f : List (PairS × Row)) : inGo c d t p row (x :: xs) k f = if differs c d p x = true then .inl (row ++ [x]) else if pairNext c d t p x ∈ k then inGo c d t p row xs k f else inGo c d t p row xs (k ++ [pairNext c d t p x]) (f ++ [(pairNext c d t p x, row ++ [x])]) := rfl
theorem layGo_cons (c d : Chain) (t : Band) (pr : PairS × Row) (ps : List (PairS × Row)) (k : List PairS) (f : List (PairS × Row)) : layGo c d t (pr :: ps) k f = match inGo c d t pr.1 pr.2 (t.may pr.1.last) k f with
    | .inl r => .inl r
    | .inr kf => layGo c d t ps kf.1 kf.2 := rfl
/-- the search comes to this answer, with at most so many pairs known -/
inductive Run (c d : Chain) (t : Band) (most : Nat) : Nat → List PairS → List (PairS × Row) → Option Row → Prop
  | stop {k} : Run c d t most 0 k [] none
  | part {k l row} : l ≠ [] → layGo c d t l k [] = .inl row → Run c d t most 0 k l (some row)
  | next {n k l k' l' r} : l ≠ [] → layGo c d t l k [] = .inr (k', l') → k'.length ≤ most → Run c d t most n k' l' r → Run c d t most (n + 1) k l r
theorem Run.le {c d : Chain} {t : Band} {m m' n : Nat} {k l r} (h : Run c d t m n k l r) (hm : m ≤ m') : Run c d t m' n k l r := by
  induction h with
  | stop => exact .stop
  | part h1 h2 => exact .part h1 h2
  | next h1 h2 h3 _ ih => exact .next h1 h2 (Nat.le_trans h3 hm) ih
structure PairS.Ok (c d : Chain) (p : PairS) : Prop where
  near : PlOk c.houses.length p.near
  far : PlOk d.houses.length p.far
  last : LastOk p.last
theorem may_mem {t : Band} {last : Option Int} {x : Int} (ok : t.Ok) (h : x ∈ t.may last) : 0 ≤ x ∧ x ≤ 9 := by
  unfold Band.may upTo at h
  obtain ⟨i, hi, rfl⟩ := List.mem_map.mp h
  rw [List.mem_range] at hi
  have h1 := ok.least
  have h2 := ok.most
  have h3 : t.least ≤ t.lo last := by
    unfold Band.lo
    split <;> (try split) <;> omega
  have h4 : t.hi last ≤ t.most := by
    unfold Band.hi
    split <;> (try split) <;> omega
  omega
theorem may_len {t : Band} (last : Option Int) (ok : t.Ok) : (t.may last).length ≤ 10 := by
  unfold Band.may upTo
  rw [List.length_map, List.length_range]
  have h1 := ok.least
  have h2 := ok.most
  have h3 : t.least ≤ t.lo last := by
    unfold Band.lo
    split <;> (try split) <;> omega
  have h4 : t.hi last ≤ t.most := by
    unfold Band.hi
    split <;> (try split) <;> omega
  omega
theorem next_ok {c d : Chain} {t : Band} {p : PairS} {x : Int} (hc : c.Ok) (hd : d.Ok) (ok : p.Ok c d) (hx : 0 ≤ x ∧ x ≤ 9) : (pairNext c d t p x).Ok c d :=
  ⟨dayS_ok hc ok.near, dayS_ok hd ok.far, by
    unfold pairNext keepT
    intro l h
    simp only at h
    split at h
    · cases h
    · cases h; exact hx⟩
theorem begin_ok {c : Chain} (hc : c.Ok) : PlOk c.houses.length c.begin := by
  unfold Chain.begin
  refine ⟨by rw [List.length_map], fun p hp => ?_⟩
  obtain ⟨h, hh, rfl⟩ := List.mem_map.mp hp
  have := (hc.each h hh).late
  constructor
  · intro z
    have := congrArg List.length z
    simp only [List.length_replicate, List.length_nil] at this
    omega
  · simp only [List.length_replicate]; omega
theorem pair0_ok {c d : Chain} (hc : c.Ok) (hd : d.Ok) : (pairBegin c d).Ok c d := ⟨begin_ok hc, begin_ok hd, fun l h => by cases h⟩
/-- what holds of a layer -/
structure LayI (c d : Chain) (k : List PairS) (l : List (PairS × Row)) : Prop where
  len : l.length ≤ k.length
  each : ∀ pr ∈ l, pr.1.Ok c d ∧ pr.2.length + 1 ≤ k.length
theorem LayI.add {c d : Chain} {k : List PairS} {f : List (PairS × Row)} (h : LayI c d k f) {g : PairS} {row : Row} (hg : g.Ok c d) (hr : row.length + 1 ≤ k.length) (x : Int) : LayI c d (k ++ [g]) (f ++ [(g, row ++ [x])]) := by
  refine ⟨by simp only [List.length_append, List.length_singleton]; have := h.len; omega, fun pr hp => ?_⟩
  simp only [List.length_append, List.length_singleton]
  rcases List.mem_append.mp hp with z | z
  · have := h.each pr z
    exact ⟨this.1, by omega⟩
  · have : pr = (g, row ++ [x]) := by simpa using z
    subst this
    exact ⟨hg, by simp only [List.length_append, List.length_singleton]; omega⟩
theorem Run.cases {c d : Chain} {t : Band} {most n : Nat} {k l r} (h : Run c d t most n k l r) : (l = [] ∧ r = none) ∨ (l ≠ [] ∧ ((∃ row, layGo c d t l k [] = .inl row ∧ r = some row) ∨ ∃ m k' l', m < n ∧ layGo c d t l k [] = .inr (k', l') ∧ k'.length ≤ most ∧ Run c d t most m k' l' r)) := by
  cases h with
  | stop => exact .inl ⟨rfl, rfl⟩
  | part h1 h2 => exact .inr ⟨h1, .inl ⟨_, h2, rfl⟩⟩
  | next h1 h2 h3 h4 => exact .inr ⟨h1, .inr ⟨_, _, _, Nat.lt_succ_self _, h2, h3, h4⟩⟩
/-! ### loops, once more -/
theorem for_list {α : Type} (enc : α → PyData) {g : GW} {sb : SW} (I : List α → DRho → Nat → Prop) (Rt : PyData → Nat → Prop) {Q : Out → Nat → Prop}
    (hs : ∀ x xs ρ b (Q' : Out → Nat → Prop), I (x :: xs) ρ b → (∀ ρ2 b2, I xs ρ2 b2 → Q' (.nx ρ2) b2) → (∀ d b2, Rt d b2 → Q' (.rt d) b2) → g (enc x) ρ b fun ρ1 b1 => sb ρ1 b1 Q')
    (hd : ∀ ρ b, I [] ρ b → Q (.nx ρ) b) (hr : ∀ d b, Rt d b → Q (.rt d) b) : ∀ (xs : List α) {ρ : DRho} {b : Nat}, I xs ρ b → forD g sb (xs.map enc) ρ b Q
  | [], ρ, b, h => hd ρ b h
  | x :: xs, ρ, b, h => hs x xs ρ b _ h (fun ρ2 b2 h2 => for_list enc I Rt hs hd hr xs h2) fun d b2 h2 => hr d b2 h2
theorem wh_cps {t : TW} {sb : SW} (I : Nat → DRho → Nat → Prop) (Rt : PyData → Nat → Prop) {Q : Out → Nat → Prop}
    (hs : ∀ n ρ b (Q' : Out → Nat → Prop), I n ρ b → (∀ m ρ2 b2, m < n → I m ρ2 b2 → Q' (.nx ρ2) b2) → (∀ d b2, Rt d b2 → Q' (.rt d) b2) → t ρ b fun k b1 => if k = true then sb ρ b1 Q' else Q (.nx ρ) b1)
    (hr : ∀ d b, Rt d b → Q (.rt d) b) {n : Nat} {ρ : DRho} {b : Nat} (h : I n ρ b) : sWhile t sb ρ b Q := by
  have key : ∀ N n ρ b, n < N → I n ρ b → whD t sb N ρ b Q := by
    intro N
    induction N with
    | zero => intro n ρ b hn; omega
    | succ N ih =>
      intro n ρ b hn hI
      exact hs n ρ b _ hI (fun m ρ2 b2 hm h2 => ih m ρ2 b2 (by omega) h2) fun d b2 h2 => hr d b2 h2
  exact ⟨n + 1, key (n + 1) n ρ b (by omega) h⟩
end L2.U
/-! The program's defs: the search. -/
namespace L2.U
open PySem PySem.Spec PyProof.Rows
section
variable {P : Program} {w : World} {K : PySem.W.Frag} {mg : Str → Option Value} {base : Heap}
def encR (row : Row) : PyData := .tuple (row.map PyData.int)
def encPR (pr : PairS × Row) : PyData := .tuple [pr.1.enc, encR pr.2]
def encRes : Option Row → PyData
  | none => .none
  | some r => encR r
def pt_p_parted : FW := fun rs b Q => ∃ (c d : Chain) (t : Band) (n : Nat) (r : Option Row), c.Ok ∧ d.Ok ∧ t.Ok ∧ Run c d t 20000 n [pairBegin c d] [(pairBegin c d, [])] r ∧ rs = [.d c.enc, .d d.enc, .d t.enc] ∧ Q (encRes r) b
theorem mono_p_parted : FMono pt_p_parted := fun rs b Q Q' hh ⟨c, d, t, n, r, o1, o2, o3, o4, e, q⟩ => ⟨c, d, t, n, r, o1, o2, o3, o4, e, hh _ _ q⟩
abbrev s_p_parted : Stmt := topS 37
theorem sc_p_parted : FnScope ["one", "other", "band", "begin", "known", "layer", "fresh", "pair", "row", "demand", "goal", "mine", "yours"] ["one", "other", "band"] (defScope s_p_parted) := ⟨rfl, rfl, rfl, by decide +kernel, rfl, by decide +kernel, by decide +kernel⟩
theorem ok_p_parted {f : Addr} {fd : FuncData} (F : Fun K "parted" "parted" s_p_parted f fd) (hm : mg "parted" = some (.ref f)) (hb : Binds K fd ["one", "other", "band"] []) (nb : Nb mg) (kc : Kc mg) (C_p_demands_at : Can P w K mg base 1 "demands_at" ["band", "last"] pt_p_demands_at) (C_p_pair_behind : Can P w K mg base 3 "pair_behind" ["chains", "band", "pair", "demand"] pt_p_pair_behind) (C_p_begin_pair : Can P w K mg base 3 "begin_pair" ["one", "other"] pt_p_begin_pair) :
    Can P w K mg base 4 "parted" ["one", "other", "band"] pt_p_parted := by
  exact fn_data F sc_p_parted hm hb mono_p_parted (fun md G cdv A outer s H E hr =>
    (pdb_cons (pds_set (i := 3) sc_p_parted.nd rfl (by first | exact .inl rfl | exact .inr rfl) (pd_call C_p_begin_pair (hr.mono (by decide)) (by rfl) (pda_cons (pv_ 0) (pda_cons (pv_ 1) pda_nil))))
      (pdb_cons (pds_par2X (pda_cons (pd_dict1 hr.units (pv_ 3)) (pda_cons (pd_lst (pda_cons (pd_tup (pda_cons (pv_ 3) (pda_cons (pd_tup pda_nil) pda_nil))) pda_nil)) pda_nil)) (fun h => ps_par (i := 4) (j := 5) rfl sc_p_parted.nd rfl rfl (by decide) rfl rfl h (by rfl)))
      (pdb_cons (pds_while PassesOwn.never (pdt_neD hr.units (pv_ 5) (pd_lst pda_nil)) (pdb_cons (pds_if (pdt_gt (pd_lenK (by rfl) nb.len (pda_cons (pv_ 4) pda_nil)) (pd_gint kc.MOST_PAIRS (by rfl))) (pdb_one pds_never) pdb_nil)
      (pdb_cons (pds_set (i := 6) sc_p_parted.nd rfl (by first | exact .inl rfl | exact .inr rfl) (pd_lst pda_nil))
      (pdb_frz 5 (pdb_cons (pds_for PassesOwn.never rfl (pdi_list (pv_ 5)) (pdg_tup (n := 2) rfl (pdgs_cons (pdg_name (i := 7) sc_p_parted.nd rfl (by first | exact .inl rfl | exact .inr rfl)) (pdgs_cons (pdg_name (i := 8) sc_p_parted.nd rfl (by first | exact .inl rfl | exact .inr rfl)) pdgs_nil))) (pdb_one (pds_for PassesOwn.never rfl (pdi_list (pd_call C_p_demands_at (hr.mono (by decide)) (by rfl) (pda_cons (pv_ 2) (pda_cons (pd_ix (pv_ 7) pd_int) pda_nil)))) (pdg_name (i := 9) sc_p_parted.nd rfl (by first | exact .inl rfl | exact .inr rfl)) (pdb_cons (pds_asg (pd_call C_p_pair_behind (hr.mono (by decide)) (by rfl) (pda_cons (pd_tup (pda_cons (pv_ 0) (pda_cons (pv_ 1) pda_nil))) (pda_cons (pv_ 2) (pda_cons (pv_ 7) (pda_cons (pv_ 9) pda_nil))))) (pdg_tup (n := 3) rfl (pdgs_cons (pdg_name (i := 10) sc_p_parted.nd rfl (by first | exact .inl rfl | exact .inr rfl)) (pdgs_cons (pdg_name (i := 11) sc_p_parted.nd rfl (by first | exact .inl rfl | exact .inr rfl)) (pdgs_cons (pdg_name (i := 12) sc_p_parted.nd rfl (by first | exact .inl rfl | exact .inr rfl)) pdgs_nil)))))
      (pdb_cons (pds_if (pdt_neD hr.units (pd_slT (pv_ 11) pdo_none (pdo_some pd_int)) (pd_slT (pv_ 12) pdo_none (pdo_some pd_int))) (pdb_one (pds_ret (pd_catT (pv_ 8) (pd_tup (pda_cons (pv_ 9) pda_nil))))) pdb_nil)
      (pdb_one (pds_if (pdt_notInK hr.units (pv_ 10) (pv_ 4)) (pdb_cons (pds_kset (i := 4) hr.units (pv 4) (pv_ 10))
      (pdb_one (pds_app2 (pd_tup (pda_cons (pv_ 10) (pda_cons (pd_catT (pv_ 8) (pd_tup (pda_cons (pv_ 9) pda_nil))) pda_nil))) (fun h => ps_expr (pe_bm PySem.F.plainAttrs_list PySem.F.slot_list_append PySem.F.type_list_append mt_append (pv 6) (pa_cons h pa_nil)))))) pdb_nil)))))))
      (pdb_one (pds_move (i := 5) (j := 6) sc_p_parted.nd rfl (by first | exact .inl rfl | exact .inr rfl) (pv 6))))))))
      (pdb_one (pds_ret pd_non))))))
    (by
      rintro rs b Q hl ⟨c, d, t, n, r, o1, o2, o3, run, rfl, q⟩
      simp only [sSeq, sNil, sAsg, sRet, sIf, sSet, sExpr, sFrz, sMove, sApp, sExt, sPar, eOp, eUn, eVar, eC, eIf, eAnd, eOr, eChain, tVal, uAnd, uOr, uNot, uTrue, eTup, eLst, eBi, eSl, partR, eIsi, eCall, eCallL, aCons, aNil, allD, dTup, dCons, dName, dNil, dSub, rho0, endD, lft, frz, stor, storAll, setAll, rtD, vIx, seqR, vII, vIC, vAdd, vSub, vMul, vFdiv, vMod, vPow, vLt, vLe, vGt, vGe, vEqS, vNeS, vIsN, vNotN, vNot, vNeg, isNo, vMin2, vMax2, vAbs, vInt1, vLen, vTuple, vList, vSum, isTy, vNotInK, vLenK, sKset, eDict1, datR, vEqD, vNeD, vCatT, vCatL, noL, noL1, lend, scalD, R.held, R.fresh, List.map_cons, List.map_nil, List.length_cons, List.length_nil, List.cons_append, List.nil_append, List.getElem?_cons_zero, List.getElem?_cons_succ, List.set_cons_zero, List.set_cons_succ, List.replicate_succ, List.replicate_zero, Nat.zero_add, Nat.reduceAdd, Nat.reduceSub, Nat.reduceLT, Option.join_some, Option.join_none, Option.bind_some, Option.map_some, List.all_cons, List.all_nil, Bool.and_true, Bool.true_and, Bool.not_true, Bool.not_false, and_true, true_and, if_true, if_false, Bool.false_eq_true, decide_true, decide_false, reduceIte]
      refine ⟨c, d, o1, o2, rfl, ?_⟩
      simp only [sSeq, sNil, sAsg, sRet, sIf, sSet, sExpr, sFrz, sMove, sApp, sExt, sPar, eOp, eUn, eVar, eC, eIf, eAnd, eOr, eChain, tVal, uAnd, uOr, uNot, uTrue, eTup, eLst, eBi, eSl, partR, eIsi, eCall, eCallL, aCons, aNil, allD, dTup, dCons, dName, dNil, dSub, rho0, endD, lft, frz, stor, storAll, setAll, rtD, vIx, seqR, vII, vIC, vAdd, vSub, vMul, vFdiv, vMod, vPow, vLt, vLe, vGt, vGe, vEqS, vNeS, vIsN, vNotN, vNot, vNeg, isNo, vMin2, vMax2, vAbs, vInt1, vLen, vTuple, vList, vSum, isTy, vNotInK, vLenK, sKset, eDict1, datR, vEqD, vNeD, vCatT, vCatL, noL, noL1, lend, scalD, R.held, R.fresh, List.map_cons, List.map_nil, List.length_cons, List.length_nil, List.cons_append, List.nil_append, List.getElem?_cons_zero, List.getElem?_cons_succ, List.set_cons_zero, List.set_cons_succ, List.replicate_succ, List.replicate_zero, Nat.zero_add, Nat.reduceAdd, Nat.reduceSub, Nat.reduceLT, Option.join_some, Option.join_none, Option.bind_some, Option.map_some, List.all_cons, List.all_nil, Bool.and_true, Bool.true_and, Bool.not_true, Bool.not_false, and_true, true_and, if_true, if_false, Bool.false_eq_true, decide_true, decide_false, reduceIte]
      unfold PairS.enc
      simp only [keyD_pair]
      have snil : SeqAt.shaped (.list []) = true := by decide
      refine wh_cps (fun n ρ b' => ∃ (k : List PairS) (l : List (PairS × Row)) (z1 z2 z3 z4 z5 z6 z7 : Option R), Run c d t 20000 n k l r ∧ LayI c d k l ∧ k.length ≤ 20000 ∧ b' = b ∧
        ρ = [some (.d c.enc), some (.d d.enc), some (.d t.enc), some (.d (pairBegin c d).enc), some (.k false (k.map PairS.key)), some (.o false (l.map encPR)), z1, z2, z3, z4, z5, z6, z7]) (fun d' b' => d' = encRes r ∧ b' = b) ?_ ?_ (n := n) ?_
      · rintro n' ρ b' Q' ⟨k, l, z1, z2, z3, z4, z5, z6, z7, run', li, hk, rfl, rfl⟩ hnx hrt
        have slay : SeqAt.shaped (.list (l.map encPR)) = true := (sh_lst (n := 5) (sh_map fun pr _ => sh_tup (sh_two (sh_pair _) (sh_tup (sh_map fun i _ => sh_int i))))).shaped (by decide)
        simp only [sSeq, sNil, sAsg, sRet, sIf, sSet, sExpr, sFrz, sMove, sApp, sExt, sPar, eOp, eUn, eVar, eC, eIf, eAnd, eOr, eChain, tVal, uAnd, uOr, uNot, uTrue, eTup, eLst, eBi, eSl, partR, eIsi, eCall, eCallL, aCons, aNil, allD, dTup, dCons, dName, dNil, dSub, rho0, endD, lft, frz, stor, storAll, setAll, rtD, vIx, seqR, vII, vIC, vAdd, vSub, vMul, vFdiv, vMod, vPow, vLt, vLe, vGt, vGe, vEqS, vNeS, vIsN, vNotN, vNot, vNeg, isNo, vMin2, vMax2, vAbs, vInt1, vLen, vTuple, vList, vSum, isTy, vNotInK, vLenK, sKset, eDict1, datR, vEqD, vNeD, vCatT, vCatL, noL, noL1, lend, scalD, R.held, R.fresh, List.map_cons, List.map_nil, List.length_cons, List.length_nil, List.cons_append, List.nil_append, List.getElem?_cons_zero, List.getElem?_cons_succ, List.set_cons_zero, List.set_cons_succ, List.replicate_succ, List.replicate_zero, Nat.zero_add, Nat.reduceAdd, Nat.reduceSub, Nat.reduceLT, Option.join_some, Option.join_none, Option.bind_some, Option.map_some, List.all_cons, List.all_nil, Bool.and_true, Bool.true_and, Bool.not_true, Bool.not_false, and_true, true_and, if_true, if_false, Bool.false_eq_true, decide_true, decide_false, reduceIte, slay, snil, eqv_lnil]
        rcases run'.cases with ⟨rfl, rfl⟩ | ⟨hne, hres⟩
        · exact q
        have hem : (l.map encPR).isEmpty = false := by cases l with | nil => exact absurd rfl hne | cons a l => rfl
        have hlen : decide ((20000 : Int) < ((k.map PairS.key).length : Nat)) = false := decide_eq_false (by rw [List.length_map]; omega)
        simp only [sSeq, sNil, sAsg, sRet, sIf, sSet, sExpr, sFrz, sMove, sApp, sExt, sPar, eOp, eUn, eVar, eC, eIf, eAnd, eOr, eChain, tVal, uAnd, uOr, uNot, uTrue, eTup, eLst, eBi, eSl, partR, eIsi, eCall, eCallL, aCons, aNil, allD, dTup, dCons, dName, dNil, dSub, rho0, endD, lft, frz, stor, storAll, setAll, rtD, vIx, seqR, vII, vIC, vAdd, vSub, vMul, vFdiv, vMod, vPow, vLt, vLe, vGt, vGe, vEqS, vNeS, vIsN, vNotN, vNot, vNeg, isNo, vMin2, vMax2, vAbs, vInt1, vLen, vTuple, vList, vSum, isTy, vNotInK, vLenK, sKset, eDict1, datR, vEqD, vNeD, vCatT, vCatL, noL, noL1, lend, scalD, R.held, R.fresh, List.map_cons, List.map_nil, List.length_cons, List.length_nil, List.cons_append, List.nil_append, List.getElem?_cons_zero, List.getElem?_cons_succ, List.set_cons_zero, List.set_cons_succ, List.replicate_succ, List.replicate_zero, Nat.zero_add, Nat.reduceAdd, Nat.reduceSub, Nat.reduceLT, Option.join_some, Option.join_none, Option.bind_some, Option.map_some, List.all_cons, List.all_nil, Bool.and_true, Bool.true_and, Bool.not_true, Bool.not_false, and_true, true_and, if_true, if_false, Bool.false_eq_true, decide_true, decide_false, reduceIte, hem, hlen, iSeq, sFor]
        refine for_list encPR (fun rest ρ b2 => ∃ (k1 : List PairS) (f : List (PairS × Row)) (z2 z3 z4 z5 z6 z7 : Option R), ρ = [some (.d c.enc), some (.d d.enc), some (.d t.enc), some (.d (pairBegin c d).enc), some (.k false (k1.map PairS.key)), some (.d (.list (l.map encPR))), some (.o false (f.map encPR)), z2, z3, z4, z5, z6, z7] ∧ b2 = b' ∧
          LayI c d k1 f ∧ k.length ≤ k1.length ∧ k1.length + 10 * rest.length ≤ k.length + 10 * l.length ∧ layGo c d t rest k1 f = layGo c d t l k [] ∧ ∀ pr ∈ rest, pr ∈ l) (fun d' b2 => d' = encRes r ∧ b2 = b') ?_ ?_ ?_ l ?_
        · rintro pr rest ρ b2 Q2 ⟨k1, f, z2, z3, z4, z5, z6, z7, rfl, rfl, li1, hk1, hk2, hlg, hsub⟩ hnx2 hrt2
          have hpr := li.each pr (hsub pr List.mem_cons_self)
          simp only [sSeq, sNil, sAsg, sRet, sIf, sSet, sExpr, sFrz, sMove, sApp, sExt, sPar, eOp, eUn, eVar, eC, eIf, eAnd, eOr, eChain, tVal, uAnd, uOr, uNot, uTrue, eTup, eLst, eBi, eSl, partR, eIsi, eCall, eCallL, aCons, aNil, allD, dTup, dCons, dName, dNil, dSub, rho0, endD, lft, frz, stor, storAll, setAll, rtD, vIx, seqR, vII, vIC, vAdd, vSub, vMul, vFdiv, vMod, vPow, vLt, vLe, vGt, vGe, vEqS, vNeS, vIsN, vNotN, vNot, vNeg, isNo, vMin2, vMax2, vAbs, vInt1, vLen, vTuple, vList, vSum, isTy, vNotInK, vLenK, sKset, eDict1, datR, vEqD, vNeD, vCatT, vCatL, noL, noL1, lend, scalD, R.held, R.fresh, List.map_cons, List.map_nil, List.length_cons, List.length_nil, List.cons_append, List.nil_append, List.getElem?_cons_zero, List.getElem?_cons_succ, List.set_cons_zero, List.set_cons_succ, List.replicate_succ, List.replicate_zero, Nat.zero_add, Nat.reduceAdd, Nat.reduceSub, Nat.reduceLT, Option.join_some, Option.join_none, Option.bind_some, Option.map_some, List.all_cons, List.all_nil, Bool.and_true, Bool.true_and, Bool.not_true, Bool.not_false, and_true, true_and, if_true, if_false, Bool.false_eq_true, decide_true, decide_false, reduceIte, encPR, sFor, iSeq]
          unfold PairS.enc
          simp only [sSeq, sNil, sAsg, sRet, sIf, sSet, sExpr, sFrz, sMove, sApp, sExt, sPar, eOp, eUn, eVar, eC, eIf, eAnd, eOr, eChain, tVal, uAnd, uOr, uNot, uTrue, eTup, eLst, eBi, eSl, partR, eIsi, eCall, eCallL, aCons, aNil, allD, dTup, dCons, dName, dNil, dSub, rho0, endD, lft, frz, stor, storAll, setAll, rtD, vIx, seqR, vII, vIC, vAdd, vSub, vMul, vFdiv, vMod, vPow, vLt, vLe, vGt, vGe, vEqS, vNeS, vIsN, vNotN, vNot, vNeg, isNo, vMin2, vMax2, vAbs, vInt1, vLen, vTuple, vList, vSum, isTy, vNotInK, vLenK, sKset, eDict1, datR, vEqD, vNeD, vCatT, vCatL, noL, noL1, lend, scalD, R.held, R.fresh, List.map_cons, List.map_nil, List.length_cons, List.length_nil, List.cons_append, List.nil_append, List.getElem?_cons_zero, List.getElem?_cons_succ, List.set_cons_zero, List.set_cons_succ, List.replicate_succ, List.replicate_zero, Nat.zero_add, Nat.reduceAdd, Nat.reduceSub, Nat.reduceLT, Option.join_some, Option.join_none, Option.bind_some, Option.map_some, List.all_cons, List.all_nil, Bool.and_true, Bool.true_and, Bool.not_true, Bool.not_false, and_true, true_and, if_true, if_false, Bool.false_eq_true, decide_true, decide_false, reduceIte, atI_2]
          refine ⟨t, pr.1.last, o3, hpr.1.last, rfl, ?_⟩
          have hm10 := may_len pr.1.last o3
          rw [List.length_cons] at hk2
          refine for_list PyData.int (fun rest2 ρ b3 => ∃ (k2 : List PairS) (f2 : List (PairS × Row)) (z4 z5 z6 z7 : Option R), ρ = [some (.d c.enc), some (.d d.enc), some (.d t.enc), some (.d (pairBegin c d).enc), some (.k false (k2.map PairS.key)), some (.d (.list (l.map encPR))), some (.o false (f2.map encPR)), some (.d pr.1.enc), some (.d (encR pr.2)), z4, z5, z6, z7] ∧ b3 = b2 ∧
            LayI c d k2 f2 ∧ k1.length ≤ k2.length ∧ k2.length + rest2.length ≤ k1.length + (t.may pr.1.last).length ∧ inGo c d t pr.1 pr.2 rest2 k2 f2 = inGo c d t pr.1 pr.2 (t.may pr.1.last) k1 f ∧ ∀ x ∈ rest2, x ∈ t.may pr.1.last) (fun d' b3 => d' = encRes r ∧ b3 = b2) ?_ ?_ ?_ (t.may pr.1.last) ?_
          · rintro x rest2 ρ b3 Q3 ⟨k2, f2, z4, z5, z6, z7, rfl, rfl, li2, hk3, hk4, hig, hsub2⟩ hnx3 hrt3
            have hx := may_mem o3 (hsub2 x List.mem_cons_self)
            rw [List.length_cons] at hk4
            have hll := li.len
            simp only [sSeq, sNil, sAsg, sRet, sIf, sSet, sExpr, sFrz, sMove, sApp, sExt, sPar, eOp, eUn, eVar, eC, eIf, eAnd, eOr, eChain, tVal, uAnd, uOr, uNot, uTrue, eTup, eLst, eBi, eSl, partR, eIsi, eCall, eCallL, aCons, aNil, allD, dTup, dCons, dName, dNil, dSub, rho0, endD, lft, frz, stor, storAll, setAll, rtD, vIx, seqR, vII, vIC, vAdd, vSub, vMul, vFdiv, vMod, vPow, vLt, vLe, vGt, vGe, vEqS, vNeS, vIsN, vNotN, vNot, vNeg, isNo, vMin2, vMax2, vAbs, vInt1, vLen, vTuple, vList, vSum, isTy, vNotInK, vLenK, sKset, eDict1, datR, vEqD, vNeD, vCatT, vCatL, noL, noL1, lend, scalD, R.held, R.fresh, List.map_cons, List.map_nil, List.length_cons, List.length_nil, List.cons_append, List.nil_append, List.getElem?_cons_zero, List.getElem?_cons_succ, List.set_cons_zero, List.set_cons_succ, List.replicate_succ, List.replicate_zero, Nat.zero_add, Nat.reduceAdd, Nat.reduceSub, Nat.reduceLT, Option.join_some, Option.join_none, Option.bind_some, Option.map_some, List.all_cons, List.all_nil, Bool.and_true, Bool.true_and, Bool.not_true, Bool.not_false, and_true, true_and, if_true, if_false, Bool.false_eq_true, decide_true, decide_false, reduceIte]
            refine ⟨c, d, t, pr.1, x, o1, o2, hpr.1.near, hpr.1.far, rfl, ?_⟩
            unfold PairS.enc Note.enc
            have sh2 : ∀ a b : Int, SeqAt.shaped (.tuple [.int a, .int b]) = true := fun a b => (sh_tup (n := 0) (sh_two (sh_int _) (sh_int _))).shaped (by decide)
            have cut2 : ∀ a b e : PyData, cutD [a, b, e] none (some 2) = [a, b] := fun a b e => rfl
            have hdf : (!(decide ((dayN c pr.1.near x).sent = (dayN d pr.1.far x).sent) && decide ((dayN c pr.1.near x).lost = (dayN d pr.1.far x).lost))) = differs c d pr.1 x := rfl
            have hrow : (pr.2.map PyData.int).length + 1 ≤ 1000000 := by rw [List.length_map]; omega
            simp only [sSeq, sNil, sAsg, sRet, sIf, sSet, sExpr, sFrz, sMove, sApp, sExt, sPar, eOp, eUn, eVar, eC, eIf, eAnd, eOr, eChain, tVal, uAnd, uOr, uNot, uTrue, eTup, eLst, eBi, eSl, partR, eIsi, eCall, eCallL, aCons, aNil, allD, dTup, dCons, dName, dNil, dSub, rho0, endD, lft, frz, stor, storAll, setAll, rtD, vIx, seqR, vII, vIC, vAdd, vSub, vMul, vFdiv, vMod, vPow, vLt, vLe, vGt, vGe, vEqS, vNeS, vIsN, vNotN, vNot, vNeg, isNo, vMin2, vMax2, vAbs, vInt1, vLen, vTuple, vList, vSum, isTy, vNotInK, vLenK, sKset, eDict1, datR, vEqD, vNeD, vCatT, vCatL, noL, noL1, lend, scalD, R.held, R.fresh, List.map_cons, List.map_nil, List.length_cons, List.length_nil, List.cons_append, List.nil_append, List.getElem?_cons_zero, List.getElem?_cons_succ, List.set_cons_zero, List.set_cons_succ, List.replicate_succ, List.replicate_zero, Nat.zero_add, Nat.reduceAdd, Nat.reduceSub, Nat.reduceLT, Option.join_some, Option.join_none, Option.bind_some, Option.map_some, List.all_cons, List.all_nil, Bool.and_true, Bool.true_and, Bool.not_true, Bool.not_false, and_true, true_and, if_true, if_false, Bool.false_eq_true, decide_true, decide_false, reduceIte, vSlT, cut2, sh2, eqv_ii, keyD_pair, encR, hdf, hrow]
            rw [inGo_cons] at hig
            cases hb : differs c d pr.1 x with
            | true =>
              rw [hb, if_pos rfl] at hig
              simp only [sSeq, sNil, sAsg, sRet, sIf, sSet, sExpr, sFrz, sMove, sApp, sExt, sPar, eOp, eUn, eVar, eC, eIf, eAnd, eOr, eChain, tVal, uAnd, uOr, uNot, uTrue, eTup, eLst, eBi, eSl, partR, eIsi, eCall, eCallL, aCons, aNil, allD, dTup, dCons, dName, dNil, dSub, rho0, endD, lft, frz, stor, storAll, setAll, rtD, vIx, seqR, vII, vIC, vAdd, vSub, vMul, vFdiv, vMod, vPow, vLt, vLe, vGt, vGe, vEqS, vNeS, vIsN, vNotN, vNot, vNeg, isNo, vMin2, vMax2, vAbs, vInt1, vLen, vTuple, vList, vSum, isTy, vNotInK, vLenK, sKset, eDict1, datR, vEqD, vNeD, vCatT, vCatL, noL, noL1, lend, scalD, R.held, R.fresh, List.map_cons, List.map_nil, List.length_cons, List.length_nil, List.cons_append, List.nil_append, List.getElem?_cons_zero, List.getElem?_cons_succ, List.set_cons_zero, List.set_cons_succ, List.replicate_succ, List.replicate_zero, Nat.zero_add, Nat.reduceAdd, Nat.reduceSub, Nat.reduceLT, Option.join_some, Option.join_none, Option.bind_some, Option.map_some, List.all_cons, List.all_nil, Bool.and_true, Bool.true_and, Bool.not_true, Bool.not_false, and_true, true_and, if_true, if_false, Bool.false_eq_true, decide_true, decide_false, reduceIte]
              refine hrt3 _ _ ⟨?_, rfl⟩
              rw [layGo_cons, ← hig] at hlg
              rcases hres with ⟨row', h1, rfl⟩ | ⟨m, k', l', _, h1, _⟩
              · rw [h1] at hlg
                injection hlg with hlg
                rw [← hlg]
                simp only [encRes, encR, List.map_append]
                rfl
              · rw [h1] at hlg
                cases hlg
            | false =>
              rw [hb, if_neg Bool.false_ne_true] at hig
              simp only [sSeq, sNil, sAsg, sRet, sIf, sSet, sExpr, sFrz, sMove, sApp, sExt, sPar, eOp, eUn, eVar, eC, eIf, eAnd, eOr, eChain, tVal, uAnd, uOr, uNot, uTrue, eTup, eLst, eBi, eSl, partR, eIsi, eCall, eCallL, aCons, aNil, allD, dTup, dCons, dName, dNil, dSub, rho0, endD, lft, frz, stor, storAll, setAll, rtD, vIx, seqR, vII, vIC, vAdd, vSub, vMul, vFdiv, vMod, vPow, vLt, vLe, vGt, vGe, vEqS, vNeS, vIsN, vNotN, vNot, vNeg, isNo, vMin2, vMax2, vAbs, vInt1, vLen, vTuple, vList, vSum, isTy, vNotInK, vLenK, sKset, eDict1, datR, vEqD, vNeD, vCatT, vCatL, noL, noL1, lend, scalD, R.held, R.fresh, List.map_cons, List.map_nil, List.length_cons, List.length_nil, List.cons_append, List.nil_append, List.getElem?_cons_zero, List.getElem?_cons_succ, List.set_cons_zero, List.set_cons_succ, List.replicate_succ, List.replicate_zero, Nat.zero_add, Nat.reduceAdd, Nat.reduceSub, Nat.reduceLT, Option.join_some, Option.join_none, Option.bind_some, Option.map_some, List.all_cons, List.all_nil, Bool.and_true, Bool.true_and, Bool.not_true, Bool.not_false, and_true, true_and, if_true, if_false, Bool.false_eq_true, decide_true, decide_false, reduceIte]
              by_cases hmem : pairNext c d t pr.1 x ∈ k2
              · rw [if_pos hmem] at hig
                have hmem2 : decide ((pairNext c d t pr.1 x).key ∈ k2.map PairS.key) = true := decide_eq_true (key_mem.mpr hmem)
                simp only [sSeq, sNil, sAsg, sRet, sIf, sSet, sExpr, sFrz, sMove, sApp, sExt, sPar, eOp, eUn, eVar, eC, eIf, eAnd, eOr, eChain, tVal, uAnd, uOr, uNot, uTrue, eTup, eLst, eBi, eSl, partR, eIsi, eCall, eCallL, aCons, aNil, allD, dTup, dCons, dName, dNil, dSub, rho0, endD, lft, frz, stor, storAll, setAll, rtD, vIx, seqR, vII, vIC, vAdd, vSub, vMul, vFdiv, vMod, vPow, vLt, vLe, vGt, vGe, vEqS, vNeS, vIsN, vNotN, vNot, vNeg, isNo, vMin2, vMax2, vAbs, vInt1, vLen, vTuple, vList, vSum, isTy, vNotInK, vLenK, sKset, eDict1, datR, vEqD, vNeD, vCatT, vCatL, noL, noL1, lend, scalD, R.held, R.fresh, List.map_cons, List.map_nil, List.length_cons, List.length_nil, List.cons_append, List.nil_append, List.getElem?_cons_zero, List.getElem?_cons_succ, List.set_cons_zero, List.set_cons_succ, List.replicate_succ, List.replicate_zero, Nat.zero_add, Nat.reduceAdd, Nat.reduceSub, Nat.reduceLT, Option.join_some, Option.join_none, Option.bind_some, Option.map_some, List.all_cons, List.all_nil, Bool.and_true, Bool.true_and, Bool.not_true, Bool.not_false, and_true, true_and, if_true, if_false, Bool.false_eq_true, decide_true, decide_false, reduceIte, hmem2]
                exact hnx3 _ _ ⟨k2, f2, _, _, _, _, rfl, rfl, li2, hk3, by omega, hig, fun y hy => hsub2 y (List.mem_cons_of_mem _ hy)⟩
              · rw [if_neg hmem] at hig
                have hmem2 : decide ((pairNext c d t pr.1 x).key ∈ k2.map PairS.key) = false := decide_eq_false fun z => hmem (key_mem.mp z)
                have hmem3 : (pairNext c d t pr.1 x).key ∉ k2.map PairS.key := fun z => hmem (key_mem.mp z)
                have hz1 : (k2.map PairS.key).length < 1000000 := by rw [List.length_map]; omega
                have hz2 : (f2.map encPR).length < sizeLine := by
                  rw [List.length_map, sizeLine_eq]
                  have := li2.len
                  omega
                simp only [sSeq, sNil, sAsg, sRet, sIf, sSet, sExpr, sFrz, sMove, sApp, sExt, sPar, eOp, eUn, eVar, eC, eIf, eAnd, eOr, eChain, tVal, uAnd, uOr, uNot, uTrue, eTup, eLst, eBi, eSl, partR, eIsi, eCall, eCallL, aCons, aNil, allD, dTup, dCons, dName, dNil, dSub, rho0, endD, lft, frz, stor, storAll, setAll, rtD, vIx, seqR, vII, vIC, vAdd, vSub, vMul, vFdiv, vMod, vPow, vLt, vLe, vGt, vGe, vEqS, vNeS, vIsN, vNotN, vNot, vNeg, isNo, vMin2, vMax2, vAbs, vInt1, vLen, vTuple, vList, vSum, isTy, vNotInK, vLenK, sKset, eDict1, datR, vEqD, vNeD, vCatT, vCatL, noL, noL1, lend, scalD, R.held, R.fresh, List.map_cons, List.map_nil, List.length_cons, List.length_nil, List.cons_append, List.nil_append, List.getElem?_cons_zero, List.getElem?_cons_succ, List.set_cons_zero, List.set_cons_succ, List.replicate_succ, List.replicate_zero, Nat.zero_add, Nat.reduceAdd, Nat.reduceSub, Nat.reduceLT, Option.join_some, Option.join_none, Option.bind_some, Option.map_some, List.all_cons, List.all_nil, Bool.and_true, Bool.true_and, Bool.not_true, Bool.not_false, and_true, true_and, if_true, if_false, Bool.false_eq_true, decide_true, decide_false, reduceIte, hmem2, hmem3, hz1, hz2, not_false_eq_true]
                have e1 : k2.map PairS.key ++ [(pairNext c d t pr.1 x).key] = (k2 ++ [pairNext c d t pr.1 x]).map PairS.key := by rw [List.map_append]; rfl
                have e2 : f2.map encPR ++ [PyData.tuple [PyData.tuple [encS (pairNext c d t pr.1 x).near, encS (pairNext c d t pr.1 x).far, encO (pairNext c d t pr.1 x).last], PyData.tuple (pr.2.map PyData.int ++ [PyData.int x])]] = (f2 ++ [(pairNext c d t pr.1 x, pr.2 ++ [x])]).map encPR := by
                  simp only [encPR, encR, List.map_append, List.map_cons, List.map_nil]
                  rfl
                rw [e1, e2]
                refine hnx3 _ _ ⟨k2 ++ [pairNext c d t pr.1 x], f2 ++ [(pairNext c d t pr.1 x, pr.2 ++ [x])], _, _, _, _, rfl, rfl, li2.add (next_ok o1 o2 hpr.1 hx) (by omega) x, ?_, ?_, hig, fun y hy => hsub2 y (List.mem_cons_of_mem _ hy)⟩
                · simp only [List.length_append, List.length_singleton]; omega
                · simp only [List.length_append, List.length_singleton]; omega
          · rintro ρ b3 ⟨k2, f2, z4, z5, z6, z7, rfl, rfl, li2, hk3, hk4, hig, hsub2⟩
            refine hnx2 _ _ ⟨k2, f2, _, _, _, _, _, _, rfl, rfl, li2, by omega, ?_, ?_, fun y hy => hsub y (List.mem_cons_of_mem _ hy)⟩
            · simp only [List.length_nil] at hk4
              omega
            · rw [layGo_cons, ← hig] at hlg
              exact hlg
          · rintro d' b3 ⟨rfl, rfl⟩
            exact hrt2 _ _ ⟨rfl, rfl⟩
          · refine ⟨k1, f, z4, z5, z6, z7, rfl, rfl, li1, Nat.le_refl _, Nat.le_refl _, rfl, fun _ h => h⟩
        · rintro ρ b2 ⟨k1, f, z2, z3, z4, z5, z6, z7, rfl, rfl, li1, hk1, hk2, hlg, hsub⟩
          simp only [sSeq, sNil, sAsg, sRet, sIf, sSet, sExpr, sFrz, sMove, sApp, sExt, sPar, eOp, eUn, eVar, eC, eIf, eAnd, eOr, eChain, tVal, uAnd, uOr, uNot, uTrue, eTup, eLst, eBi, eSl, partR, eIsi, eCall, eCallL, aCons, aNil, allD, dTup, dCons, dName, dNil, dSub, rho0, endD, lft, frz, stor, storAll, setAll, rtD, vIx, seqR, vII, vIC, vAdd, vSub, vMul, vFdiv, vMod, vPow, vLt, vLe, vGt, vGe, vEqS, vNeS, vIsN, vNotN, vNot, vNeg, isNo, vMin2, vMax2, vAbs, vInt1, vLen, vTuple, vList, vSum, isTy, vNotInK, vLenK, sKset, eDict1, datR, vEqD, vNeD, vCatT, vCatL, noL, noL1, lend, scalD, R.held, R.fresh, List.map_cons, List.map_nil, List.length_cons, List.length_nil, List.cons_append, List.nil_append, List.getElem?_cons_zero, List.getElem?_cons_succ, List.set_cons_zero, List.set_cons_succ, List.replicate_succ, List.replicate_zero, Nat.zero_add, Nat.reduceAdd, Nat.reduceSub, Nat.reduceLT, Option.join_some, Option.join_none, Option.bind_some, Option.map_some, List.all_cons, List.all_nil, Bool.and_true, Bool.true_and, Bool.not_true, Bool.not_false, and_true, true_and, if_true, if_false, Bool.false_eq_true, decide_true, decide_false, reduceIte]
          rcases hres with ⟨row', h1, rfl⟩ | ⟨m, k', l', hm1, h1, h2, h3⟩
          · rw [h1] at hlg
            cases hlg
          · rw [h1] at hlg
            injection hlg with hlg
            injection hlg with e1 e2
            subst e1 e2
            exact hnx _ _ _ hm1 ⟨k1, f, _, _, _, _, _, _, _, h3, li1, h2, rfl, rfl⟩
        · rintro d' b2 ⟨rfl, rfl⟩
          exact hrt _ _ ⟨rfl, rfl⟩
        · exact ⟨k, [], z2, z3, z4, z5, z6, z7, rfl, rfl, ⟨Nat.zero_le _, fun _ z => nomatch z⟩, Nat.le_refl _, Nat.le_refl _, rfl, fun _ h => h⟩
      · rintro d' b' ⟨rfl, rfl⟩
        exact q
      · exact ⟨[pairBegin c d], [(pairBegin c d, [])], none, none, none, none, none, none, none, run, ⟨Nat.le_refl _, fun pr hp => by
          have : pr = (pairBegin c d, []) := by simpa using hp
          subst this
          exact ⟨pair0_ok o1 o2, Nat.le_refl _⟩⟩, (by rw [List.length_singleton]; omega), rfl, rfl⟩)
end
end L2.U
/-! The data layer, part 13: sorted. -/
namespace L2.U
open PySem PySem.Spec PyProof.Rows
def SortOk (ds : List PyData) : Prop := PySem.W.AllAlike ds ∧ PySem.W.Sortable ds ∧ (∀ d ∈ ds, d.depth ≤ 32) ∧ ds.length ≤ 1000
def sortD (ds : List PyData) : List PyData := ds.mergeSort (PySem.W.dataLe false id)
def IsD1 (K : PySem.W.Frag) (G : Hp) (u : Value) (d : PyData) : Prop := ∃ v, RelV v u ∧ Dp K G v d
theorem each_of {K : PySem.W.Frag} {G : Hp} : ∀ {vs : List V} {us : List Value} {ds : List PyData}, Vals vs us → DpAll K G vs ds → PySem.W.EachIs (IsD1 K G) us ds
  | [], _, _, r, h => by cases r; cases h; exact .nil
  | v :: vs, _, _, r, h => by
    cases r with
    | cons r1 r2 =>
      cases h with
      | cons h1 h2 => exact .cons ⟨v, r1, h1⟩ (each_of r2 h2)
theorem each_back {K : PySem.W.Frag} {G : Hp} : ∀ {us : List Value} {ds : List PyData}, PySem.W.EachIs (IsD1 K G) us ds → ∃ vs, Vals vs us ∧ DpAll K G vs ds
  | _, _, .nil => ⟨[], .nil, .nil⟩
  | _, _, .cons ⟨v, h1, h2⟩ t => by
    obtain ⟨vs, q1, q2⟩ := each_back t
    exact ⟨v :: vs, .cons h1 q1, .cons h2 q2⟩
def rSortD (K : PySem.W.Frag) : List V → Hp → VK → Prop := fun xs H Q => ∃ a ys ds G, xs = [.ref a] ∧ SqL K H a ys ∧ Same G H ∧ DpAll K G ys ds ∧ SortOk ds ∧ ∀ p ws, DpAll K G ws (sortD ds) → H p = none → Q (.ref p) (upd H p (.lst ws))
section
variable {c : Ct} {X : Cx} {a b e e1 e2 e3 tg : Expr} {es : List Expr} {ta tb tc : EW} {ts : AW} {pos : Pos} {ua : TW} {iw : IW} {st : Stmt}
theorem call_sortD (hu : X.A.units + 64 < cLine) : CallR X (.builtin "sorted") (rSortD X.K) := by
  intro pins s σ H xs us Q I r ⟨a, ys, ds, G, ex, hq, sub, hd, ⟨h1, h2, h3, h4⟩, q⟩
  subst ex
  obtain ⟨u, rfl, rx⟩ := vals1 r
  cases rx
  obtain ⟨its, rv, pl, hz⟩ := I.list hq
  have e := each_of rv hd
  have er : PySem.W.EachIs (fun v b => ∃ as, Reads s.heap v (id b) as) its ds := e.mono fun u d ⟨v, r1, d1⟩ => Dp.reads I d v u (dp_mono sub _ _ d1) r1
  refine PySem.W.sorted_data (enc := id) pl.isList e er (by rw [List.map_id]; exact h1) (by rw [List.map_id]; exact h2) (le_line h4) (fun d hd => ?_) fun out hlo heo => ?_
  · have := h3 d hd
    show X.A.units + 2 + d.depth < cLine
    omega
  · obtain ⟨ws, w1, w2⟩ := each_back heo
    obtain ⟨ep, he'⟩ := PyProof.Rows.sortedAll_at s.heap its out.toArray
    have hlen : ws.length ≤ sizeLine := by rw [w1.length, hlo]; exact le_line h4
    exact ⟨.ref _, upd H (s.heap.objs.size + 1) (.lst ws), I.laid (t' := s.toks) (fun _ _ => PyProof.Rows.sortedAll_old) (Nat.le_succ _) ⟨hlen, out, ep, w1, he'⟩, rfl, q _ _ w2 (I.hok.fresh (Nat.le_succ _))⟩
open Classical in
noncomputable def vSorted : List R → Option R
  | [.o _ ds] => if SortOk ds then some (.o true (sortD ds)) else none
  | _ => none
theorem lf_sorted : LfN c (rSortD c.K) vSorted := by
  intro G H xs rs rr Q sub hd k e q
  unfold vSorted at e
  split at e
  · split at e
    · rename_i h
      cases e
      obtain ⟨v, fp, rfl, kx⟩ := rkL1 k
      obtain ⟨l, vs, rfl, e2, e3, e4⟩ := kx.is
      exact ⟨l, vs, _, G, rfl, SqL.of e3, sub, e4, h, fun p ws hw hp => q G _ _ [p] (Grow.new sub hp) (rk_lst (sub.free hp) hp (hd p hp) hw) (fr_one hp)⟩
    · cases e
  · cases e
theorem pd_sorted {p : Pos} (hu : X.A.units + 64 < cLine) (hg : Gl X "sorted") (hm : X.mg "sorted" = none) (ha : PDA c X [a] ts) (fit : Fit c X := by exact {}) (he : starEach [a] X.env = (false, eval a X.env) :: starEach [] X.env := by rfl) : PDE c X (.Call (.Name "sorted" p) [a] [] pos) (eBi vSorted ts) :=
  pd_bi (by rw [← fit.k]; exact call_sortD hu) lf_sorted hg hm (by decide +kernel) ha (by decide) (by decide) he (by rfl)
end
/-! two lists with the same items, sorted -/
theorem sort_same {α : Type} (le : α → α → Bool) (tr : ∀ a b c, le a b = true → le b c = true → le a c = true) (to : ∀ a b, (le a b || le b a) = true) {l m : List α} (as : ∀ a ∈ l, ∀ b ∈ l, le a b = true → le b a = true → a = b) (p : l.Perm m) : l.mergeSort le = m.mergeSort le := by
  have p1 := List.mergeSort_perm l le
  have p2 := List.mergeSort_perm m le
  have s1 := List.pairwise_mergeSort tr to l
  have s2 := List.pairwise_mergeSort tr to m
  have pp : (l.mergeSort le).Perm (m.mergeSort le) := (p1.trans p).trans p2.symm
  exact pp.eq_of_pairwise (fun a b ha hb h1 h2 => as a (p1.mem_iff.mp ha) b (p.mem_iff.mpr (p2.mem_iff.mp hb)) h1 h2) s1 s2
end L2.U
/-! The lists of houses, sorted. -/
namespace L2.U
open PySem PySem.Spec PyProof.Rows
def fillsL (most late low : Int) : List House := (upTo low (most + 1)).map fun hi => ⟨true, low, hi, late.toNat⟩
def packsL (most late low : Int) : List House := (upTo 1 (most - low + 2)).map fun sz => ⟨false, low, sz, late.toNat⟩
def lowsL (most late : Int) : List House := (upTo 0 (most + 1)).flatMap fun low => fillsL most late low ++ packsL most late low
def housesA (most : Int) : List House := (upTo 1 5).flatMap (lowsL most)
def leH (a b : House) : Bool := PySem.W.dataLe false id a.enc b.enc
/-- by low, by more, by late -/
def ordH (most : Int) : List House := (upTo 0 (most + 1)).flatMap (fun low => (upTo low (most + 1)).flatMap fun hi => (upTo 1 5).map fun late => ⟨true, low, hi, late.toNat⟩) ++ (upTo 0 (most + 1)).flatMap (fun low => (upTo 1 (most - low + 2)).flatMap fun sz => (upTo 1 5).map fun late => ⟨false, low, sz, late.toNat⟩)
theorem ordH_sorted : ∀ most ∈ ([0, 1, 2, 3] : List Int), (ordH most).Pairwise (fun a b => leH a b = true) := by decide +kernel
theorem ordH_perm : ∀ most ∈ ([0, 1, 2, 3] : List Int), (ordH most).Perm (housesA most) := by decide +kernel
theorem ordH_anti : ∀ a ∈ ordH 3, ∀ b ∈ ordH 3, leH a b = true → leH b a = true → a = b := by decide +kernel
theorem ordH_sub : ∀ most ∈ ([0, 1, 2, 3] : List Int), ∀ a ∈ ordH most, a ∈ ordH 3 := by decide +kernel
def rulesB (most : Int) : List (Bool × Int × Int) := (upTo 0 (most + 1)).flatMap fun low => (upTo 0 (most + 2)).flatMap fun more => (if (decide (low ≤ more) && decide (more ≤ most)) = true then [(true, low, more)] else []) ++ (if (decide (more > 0) && decide (low + more - 1 ≤ most)) = true then [(false, low, more)] else [])
def mkH (late : Nat) (r : Bool × Int × Int) : House := ⟨r.1, r.2.1, r.2.2, late⟩
def housesB (most : Int) : List House := [1, 2, 3, 4].flatMap fun late => (rulesB most).map (mkH late)
theorem ordH_permB : ∀ most ∈ ([0, 1, 2, 3] : List Int), (ordH most).Perm (housesB most) := by decide +kernel
theorem ordH_len : ∀ most ∈ ([0, 1, 2, 3] : List Int), (ordH most).length ≤ 80 := by decide +kernel
theorem ordH_okB : ∀ most ∈ ([0, 1, 2, 3] : List Int), ∀ h ∈ ordH most, (0 ≤ h.low ∧ h.low ≤ 30) ∧ (if h.fill = true then h.low ≤ h.more ∧ h.more ≤ 30 else 1 ≤ h.more ∧ h.more ≤ 10) ∧ 1 ≤ h.late ∧ h.late ≤ 4 := by decide +kernel
theorem ordH_ok {most : Int} (hm : most ∈ ([0, 1, 2, 3] : List Int)) : ∀ h ∈ ordH most, h.Ok := fun h hh => let ⟨a, b, e⟩ := ordH_okB most hm h hh; ⟨a, b, e⟩
theorem leD_tot : PySem.W.TotalLe (PySem.W.dataLe false (id : PyData → PyData)) := PySem.W.sortLe_total _ _ _
theorem leH_tot : PySem.W.TotalLe leH := ⟨fun a b e h1 h2 => leD_tot.trans a.enc b.enc e.enc h1 h2, fun a b => leD_tot.total a.enc b.enc⟩
theorem leH_or (a b : House) : (leH a b || leH b a) = true := by
  rcases leH_tot.total a b with h | h <;> simp [h]
theorem sort_perm {most : Int} (hm : most ∈ ([0, 1, 2, 3] : List Int)) {l : List House} (p : (ordH most).Perm l) : sortD (l.map House.enc) = (ordH most).map House.enc := by
  have h1 : (l.mergeSort leH).map House.enc = (l.map House.enc).mergeSort (PySem.W.dataLe false id) := List.map_mergeSort fun a _ b _ => rfl
  have h2 : (ordH most).mergeSort leH = l.mergeSort leH := sort_same leH leH_tot.trans leH_or (fun a ha b hb => ordH_anti a (ordH_sub most hm a ha) b (ordH_sub most hm b hb)) p
  have h3 : (ordH most).mergeSort leH = ordH most := List.mergeSort_of_pairwise (ordH_sorted most hm)
  unfold sortD
  rw [← h1, ← h2, h3]
theorem sortedA {most : Int} (hm : most ∈ ([0, 1, 2, 3] : List Int)) : sortD ((housesA most).map House.enc) = (ordH most).map House.enc := sort_perm hm (ordH_perm most hm)
theorem sortedB {most : Int} (hm : most ∈ ([0, 1, 2, 3] : List Int)) : sortD ((housesB most).map House.enc) = (ordH most).map House.enc := sort_perm hm (ordH_permB most hm)
theorem alike_word (a b : Bool) : PySem.W.alike (.str (wordOf a)) (.str (wordOf b)) = true := by simp [PySem.W.alike]
theorem alike_house (a b : House) : PySem.W.alike a.enc b.enc = true := by
  unfold House.enc House.rule
  simp [PySem.W.alike, PySem.W.alikeAll]
theorem sort_ok {l : List House} (h : l.length ≤ 1000) : SortOk (l.map House.enc) :=
  ⟨PySem.W.AllAlike.of alike_house, PySem.W.Sortable.tuples fun h => ⟨_, _, rfl⟩, fun d hd => by
    obtain ⟨h, _, rfl⟩ := List.mem_map.mp hd
    exact Nat.le_trans (sh_house (n := 0) h).deep (by decide), by rw [List.length_map]; exact h⟩
/-- the first house that is alike -/
inductive Melt (c : Chain) (t : Band) (most : Nat) : List House → Option House → Prop
  | nil : Melt c t most [] none
  | here {h hs n} : Run c ⟨[h], c.wait⟩ t most n [pairBegin c ⟨[h], c.wait⟩] [(pairBegin c ⟨[h], c.wait⟩, [])] none → Melt c t most (h :: hs) (some h)
  | next {h hs n row r} : Run c ⟨[h], c.wait⟩ t most n [pairBegin c ⟨[h], c.wait⟩] [(pairBegin c ⟨[h], c.wait⟩, [])] (some row) → Melt c t most hs r → Melt c t most (h :: hs) r
theorem Melt.le {c : Chain} {t : Band} {m m' : Nat} {hs r} (h : Melt c t m hs r) (hm : m ≤ m') : Melt c t m' hs r := by
  induction h with
  | nil => exact .nil
  | here h1 => exact .here (h1.le hm)
  | next h1 _ ih => exact .next (h1.le hm) ih
def encH : Option House → PyData
  | none => .none
  | some h => h.enc
theorem one_ok {c : Chain} {h : House} (hc : c.Ok) (hh : h.Ok) : Chain.Ok ⟨[h], c.wait⟩ := ⟨⟨Nat.le_refl _, by show 1 ≤ 3; omega⟩, fun x hx => by
  have : x = h := by simpa using hx
  rw [this]; exact hh, hc.wait⟩
end L2.U
/-! The program's defs: are_alike, parting_demands, all_houses, melted. -/
namespace L2.U
open PySem PySem.Spec PyProof.Rows
section
variable {P : Program} {w : World} {K : PySem.W.Frag} {mg : Str → Option Value} {base : Heap}
def pt_p_are_alike : FW := fun rs b Q => ∃ (c d : Chain) (t : Band) (n : Nat) (r : Option Row), c.Ok ∧ d.Ok ∧ t.Ok ∧ Run c d t 20000 n [pairBegin c d] [(pairBegin c d, [])] r ∧ rs = [.d c.enc, .d d.enc, .d t.enc] ∧ Q (.bool r.isNone) b
theorem mono_p_are_alike : FMono pt_p_are_alike := fun rs b Q Q' hh ⟨c, d, t, n, r, o1, o2, o3, o4, e, q⟩ => ⟨c, d, t, n, r, o1, o2, o3, o4, e, hh _ _ q⟩
theorem isNo_res (r : Option Row) : isNo (encRes r) = r.isNone := by cases r <;> rfl
abbrev s_p_are_alike : Stmt := topS 38
theorem sc_p_are_alike : FnScope ["one", "other", "band"] ["one", "other", "band"] (defScope s_p_are_alike) := ⟨rfl, rfl, rfl, by decide +kernel, rfl, by decide +kernel, by decide +kernel⟩
theorem ok_p_are_alike {f : Addr} {fd : FuncData} (F : Fun K "are_alike" "are_alike" s_p_are_alike f fd) (hm : mg "are_alike" = some (.ref f)) (hb : Binds K fd ["one", "other", "band"] []) (nb : Nb mg) (kc : Kc mg) (C_p_parted : Can P w K mg base 4 "parted" ["one", "other", "band"] pt_p_parted) (C_p_need_two : Can P w K mg base 5 "need_two" ["one", "other", "band"] pt_p_need_two) :
    Can P w K mg base 6 "are_alike" ["one", "other", "band"] pt_p_are_alike := by
  exact fn_data F sc_p_are_alike hm hb mono_p_are_alike (fun md G cdv A outer s H E hr =>
    (pdb_cons (pds_expr (pd_call C_p_need_two (hr.mono (by decide)) (by rfl) (pda_cons (pv_ 0) (pda_cons (pv_ 1) (pda_cons (pv_ 2) pda_nil)))))
      (pdb_one (pds_ret (pd_isN (pd_call C_p_parted (hr.mono (by decide)) (by rfl) (pda_cons (pv_ 0) (pda_cons (pv_ 1) (pda_cons (pv_ 2) pda_nil)))) pd_non)))))
    (by
      rintro rs b Q hl ⟨c, d, t, n, r, o1, o2, o3, run, rfl, q⟩
      simp only [sSeq, sNil, sAsg, sRet, sIf, sSet, sExpr, sFrz, sMove, sApp, sExt, sPar, eOp, eUn, eVar, eC, eIf, eAnd, eOr, eChain, tVal, uAnd, uOr, uNot, uTrue, eTup, eLst, eBi, eSl, partR, eIsi, eCall, eCallL, aCons, aNil, allD, dTup, dCons, dName, dNil, dSub, rho0, endD, lft, frz, stor, storAll, setAll, rtD, vIx, seqR, vII, vIC, vAdd, vSub, vMul, vFdiv, vMod, vPow, vLt, vLe, vGt, vGe, vEqS, vNeS, vIsN, vNotN, vNot, vNeg, isNo, vMin2, vMax2, vAbs, vInt1, vLen, vTuple, vList, vSum, isTy, vNotInK, vLenK, sKset, eDict1, datR, vEqD, vNeD, vCatT, vCatL, iSeq, iTupW, iRg1, iRg2, sFor, noL, noL1, lend, scalD, R.held, R.fresh, List.map_cons, List.map_nil, List.length_cons, List.length_nil, List.cons_append, List.nil_append, List.getElem?_cons_zero, List.getElem?_cons_succ, List.set_cons_zero, List.set_cons_succ, List.replicate_succ, List.replicate_zero, Nat.zero_add, Nat.reduceAdd, Nat.reduceSub, Nat.reduceLT, Option.join_some, Option.join_none, Option.bind_some, Option.map_some, List.all_cons, List.all_nil, Bool.and_true, Bool.true_and, Bool.not_true, Bool.not_false, and_true, true_and, if_true, if_false, Bool.false_eq_true, decide_true, decide_false, reduceIte]
      refine ⟨c, d, t, o1, o2, o3, rfl, ?_⟩
      simp only [sSeq, sNil, sAsg, sRet, sIf, sSet, sExpr, sFrz, sMove, sApp, sExt, sPar, eOp, eUn, eVar, eC, eIf, eAnd, eOr, eChain, tVal, uAnd, uOr, uNot, uTrue, eTup, eLst, eBi, eSl, partR, eIsi, eCall, eCallL, aCons, aNil, allD, dTup, dCons, dName, dNil, dSub, rho0, endD, lft, frz, stor, storAll, setAll, rtD, vIx, seqR, vII, vIC, vAdd, vSub, vMul, vFdiv, vMod, vPow, vLt, vLe, vGt, vGe, vEqS, vNeS, vIsN, vNotN, vNot, vNeg, isNo, vMin2, vMax2, vAbs, vInt1, vLen, vTuple, vList, vSum, isTy, vNotInK, vLenK, sKset, eDict1, datR, vEqD, vNeD, vCatT, vCatL, iSeq, iTupW, iRg1, iRg2, sFor, noL, noL1, lend, scalD, R.held, R.fresh, List.map_cons, List.map_nil, List.length_cons, List.length_nil, List.cons_append, List.nil_append, List.getElem?_cons_zero, List.getElem?_cons_succ, List.set_cons_zero, List.set_cons_succ, List.replicate_succ, List.replicate_zero, Nat.zero_add, Nat.reduceAdd, Nat.reduceSub, Nat.reduceLT, Option.join_some, Option.join_none, Option.bind_some, Option.map_some, List.all_cons, List.all_nil, Bool.and_true, Bool.true_and, Bool.not_true, Bool.not_false, and_true, true_and, if_true, if_false, Bool.false_eq_true, decide_true, decide_false, reduceIte]
      refine ⟨c, d, t, n, r, o1, o2, o3, run, rfl, ?_⟩
      simp only [sSeq, sNil, sAsg, sRet, sIf, sSet, sExpr, sFrz, sMove, sApp, sExt, sPar, eOp, eUn, eVar, eC, eIf, eAnd, eOr, eChain, tVal, uAnd, uOr, uNot, uTrue, eTup, eLst, eBi, eSl, partR, eIsi, eCall, eCallL, aCons, aNil, allD, dTup, dCons, dName, dNil, dSub, rho0, endD, lft, frz, stor, storAll, setAll, rtD, vIx, seqR, vII, vIC, vAdd, vSub, vMul, vFdiv, vMod, vPow, vLt, vLe, vGt, vGe, vEqS, vNeS, vIsN, vNotN, vNot, vNeg, isNo, vMin2, vMax2, vAbs, vInt1, vLen, vTuple, vList, vSum, isTy, vNotInK, vLenK, sKset, eDict1, datR, vEqD, vNeD, vCatT, vCatL, iSeq, iTupW, iRg1, iRg2, sFor, noL, noL1, lend, scalD, R.held, R.fresh, List.map_cons, List.map_nil, List.length_cons, List.length_nil, List.cons_append, List.nil_append, List.getElem?_cons_zero, List.getElem?_cons_succ, List.set_cons_zero, List.set_cons_succ, List.replicate_succ, List.replicate_zero, Nat.zero_add, Nat.reduceAdd, Nat.reduceSub, Nat.reduceLT, Option.join_some, Option.join_none, Option.bind_some, Option.map_some, List.all_cons, List.all_nil, Bool.and_true, Bool.true_and, Bool.not_true, Bool.not_false, and_true, true_and, if_true, if_false, Bool.false_eq_true, decide_true, decide_false, reduceIte]
      cases r <;> exact q)
def pt_p_parting_demands : FW := pt_p_parted
theorem mono_p_parting_demands : FMono pt_p_parting_demands := mono_p_parted
abbrev s_p_parting_demands : Stmt := topS 39
theorem sc_p_parting_demands : FnScope ["one", "other", "band"] ["one", "other", "band"] (defScope s_p_parting_demands) := ⟨rfl, rfl, rfl, by decide +kernel, rfl, by decide +kernel, by decide +kernel⟩
theorem ok_p_parting_demands {f : Addr} {fd : FuncData} (F : Fun K "parting_demands" "parting_demands" s_p_parting_demands f fd) (hm : mg "parting_demands" = some (.ref f)) (hb : Binds K fd ["one", "other", "band"] []) (nb : Nb mg) (kc : Kc mg) (C_p_parted : Can P w K mg base 4 "parted" ["one", "other", "band"] pt_p_parted) (C_p_need_two : Can P w K mg base 5 "need_two" ["one", "other", "band"] pt_p_need_two) :
    Can P w K mg base 6 "parting_demands" ["one", "other", "band"] pt_p_parting_demands := by
  exact fn_data F sc_p_parting_demands hm hb mono_p_parting_demands (fun md G cdv A outer s H E hr =>
    (pdb_cons (pds_expr (pd_call C_p_need_two (hr.mono (by decide)) (by rfl) (pda_cons (pv_ 0) (pda_cons (pv_ 1) (pda_cons (pv_ 2) pda_nil)))))
      (pdb_one (pds_ret (pd_call C_p_parted (hr.mono (by decide)) (by rfl) (pda_cons (pv_ 0) (pda_cons (pv_ 1) (pda_cons (pv_ 2) pda_nil))))))))
    (by
      rintro rs b Q hl ⟨c, d, t, n, r, o1, o2, o3, run, rfl, q⟩
      simp only [sSeq, sNil, sAsg, sRet, sIf, sSet, sExpr, sFrz, sMove, sApp, sExt, sPar, eOp, eUn, eVar, eC, eIf, eAnd, eOr, eChain, tVal, uAnd, uOr, uNot, uTrue, eTup, eLst, eBi, eSl, partR, eIsi, eCall, eCallL, aCons, aNil, allD, dTup, dCons, dName, dNil, dSub, rho0, endD, lft, frz, stor, storAll, setAll, rtD, vIx, seqR, vII, vIC, vAdd, vSub, vMul, vFdiv, vMod, vPow, vLt, vLe, vGt, vGe, vEqS, vNeS, vIsN, vNotN, vNot, vNeg, isNo, vMin2, vMax2, vAbs, vInt1, vLen, vTuple, vList, vSum, isTy, vNotInK, vLenK, sKset, eDict1, datR, vEqD, vNeD, vCatT, vCatL, iSeq, iTupW, iRg1, iRg2, sFor, noL, noL1, lend, scalD, R.held, R.fresh, List.map_cons, List.map_nil, List.length_cons, List.length_nil, List.cons_append, List.nil_append, List.getElem?_cons_zero, List.getElem?_cons_succ, List.set_cons_zero, List.set_cons_succ, List.replicate_succ, List.replicate_zero, Nat.zero_add, Nat.reduceAdd, Nat.reduceSub, Nat.reduceLT, Option.join_some, Option.join_none, Option.bind_some, Option.map_some, List.all_cons, List.all_nil, Bool.and_true, Bool.true_and, Bool.not_true, Bool.not_false, and_true, true_and, if_true, if_false, Bool.false_eq_true, decide_true, decide_false, reduceIte]
      refine ⟨c, d, t, o1, o2, o3, rfl, ?_⟩
      simp only [sSeq, sNil, sAsg, sRet, sIf, sSet, sExpr, sFrz, sMove, sApp, sExt, sPar, eOp, eUn, eVar, eC, eIf, eAnd, eOr, eChain, tVal, uAnd, uOr, uNot, uTrue, eTup, eLst, eBi, eSl, partR, eIsi, eCall, eCallL, aCons, aNil, allD, dTup, dCons, dName, dNil, dSub, rho0, endD, lft, frz, stor, storAll, setAll, rtD, vIx, seqR, vII, vIC, vAdd, vSub, vMul, vFdiv, vMod, vPow, vLt, vLe, vGt, vGe, vEqS, vNeS, vIsN, vNotN, vNot, vNeg, isNo, vMin2, vMax2, vAbs, vInt1, vLen, vTuple, vList, vSum, isTy, vNotInK, vLenK, sKset, eDict1, datR, vEqD, vNeD, vCatT, vCatL, iSeq, iTupW, iRg1, iRg2, sFor, noL, noL1, lend, scalD, R.held, R.fresh, List.map_cons, List.map_nil, List.length_cons, List.length_nil, List.cons_append, List.nil_append, List.getElem?_cons_zero, List.getElem?_cons_succ, List.set_cons_zero, List.set_cons_succ, List.replicate_succ, List.replicate_zero, Nat.zero_add, Nat.reduceAdd, Nat.reduceSub, Nat.reduceLT, Option.join_some, Option.join_none, Option.bind_some, Option.map_some, List.all_cons, List.all_nil, Bool.and_true, Bool.true_and, Bool.not_true, Bool.not_false, and_true, true_and, if_true, if_false, Bool.false_eq_true, decide_true, decide_false, reduceIte]
      refine ⟨c, d, t, n, r, o1, o2, o3, run, rfl, ?_⟩
      exact q)
def pt_p_all_houses : FW := fun rs b Q => ∃ (most : Int), most ∈ ([0, 1, 2, 3] : List Int) ∧ rs = [.d (.int most)] ∧ Q (.list ((ordH most).map House.enc)) b
theorem mono_p_all_houses : FMono pt_p_all_houses := fun rs b Q Q' hh ⟨m, o, e, q⟩ => ⟨m, o, e, hh _ _ q⟩
abbrev s_p_all_houses : Stmt := topS 40
theorem sc_p_all_houses : FnScope ["most", "found", "delay", "low", "high", "size"] ["most"] (defScope s_p_all_houses) := ⟨rfl, rfl, rfl, by decide +kernel, rfl, by decide +kernel, by decide +kernel⟩
theorem ok_p_all_houses {f : Addr} {fd : FuncData} (F : Fun K "all_houses" "all_houses" s_p_all_houses f fd) (hm : mg "all_houses" = some (.ref f)) (hb : Binds K fd ["most"] []) (nb : Nb mg) (kc : Kc mg) :
    Can P w K mg base 1 "all_houses" ["most"] pt_p_all_houses := by
  exact fn_data F sc_p_all_houses hm hb mono_p_all_houses (fun md G cdv A outer s H E hr =>
    (pdb_cons (pds_set (i := 1) sc_p_all_houses.nd rfl (by first | exact .inl rfl | exact .inr rfl) (pd_lst pda_nil))
      (pdb_cons (pds_for PassesOwn.never rfl (pdi_range2 (by rfl) nb.range (pda_cons pd_int (pda_cons (pd_add (pd_gint kc.MOST_DELAY (by rfl)) pd_int) pda_nil))) (pdg_name (i := 2) sc_p_all_houses.nd rfl (by first | exact .inl rfl | exact .inr rfl)) (pdb_one (pds_for PassesOwn.never rfl (pdi_range1 (by rfl) nb.range (pda_cons (pd_add (pv_ 0) pd_int) pda_nil)) (pdg_name (i := 3) sc_p_all_houses.nd rfl (by first | exact .inl rfl | exact .inr rfl)) (pdb_cons (pds_ext2 (pd_lc (own := [("high", 4)]) (g := .inl 4) rfl sc_p_all_houses.nd (pdi_range2 (by rfl) nb.range (pda_cons (pv_ 3) (pda_cons (pd_add (pv_ 0) pd_int) pda_nil))) (blkOk_by (own := [("high", 4)]) (N := ["most", "found", "delay", "low", "high", "size"]) (sc := defScope s_p_all_houses) (by decide +kernel)) (fun _ _ _ _ _ => pg_name (i := 4) sc_p_all_houses.nd rfl (Or.inl rfl)) (fun _ _ _ _ _ => (pd_tup (pda_cons (pd_tup (pda_cons (pd_gstr kc.FILL (by rfl)) (pda_cons (pv_ 3) (pda_cons (pv_ 4) pda_nil)))) (pda_cons (pv_ 2) pda_nil))))) (fun h => ps_expr (pe_bm PySem.F.plainAttrs_list PySem.F.slot_list_extend PySem.F.type_list_extend mt_extend (pv 1) (pa_cons h pa_nil))))
      (pdb_one (pds_ext2 (pd_lc (own := [("size", 5)]) (g := .inl 5) rfl sc_p_all_houses.nd (pdi_range2 (by rfl) nb.range (pda_cons pd_int (pda_cons (pd_add (pd_sub (pv_ 0) (pv_ 3)) pd_int) pda_nil))) (blkOk_by (own := [("size", 5)]) (N := ["most", "found", "delay", "low", "high", "size"]) (sc := defScope s_p_all_houses) (by decide +kernel)) (fun _ _ _ _ _ => pg_name (i := 5) sc_p_all_houses.nd rfl (Or.inl rfl)) (fun _ _ _ _ _ => (pd_tup (pda_cons (pd_tup (pda_cons (pd_gstr kc.PACKS (by rfl)) (pda_cons (pv_ 3) (pda_cons (pv_ 5) pda_nil)))) (pda_cons (pv_ 2) pda_nil))))) (fun h => ps_expr (pe_bm PySem.F.plainAttrs_list PySem.F.slot_list_extend PySem.F.type_list_extend mt_extend (pv 1) (pa_cons h pa_nil)))))))))
      (pdb_one (pds_ret (pd_sorted hr.units (by rfl) nb.sorted (pda_cons (pv_ 1) pda_nil)))))))
    (by
      rintro rs b Q hl ⟨most, hm, rfl, q⟩
      have hm2 : 0 ≤ most ∧ most ≤ 3 := by
        simp only [List.mem_cons, List.not_mem_nil, or_false] at hm
        omega
      have hlen : (housesA most).length ≤ 80 := by rw [← (ordH_perm most hm).length_eq]; exact ordH_len most hm
      simp only [sSeq, sNil, sAsg, sRet, sIf, sSet, sExpr, sFrz, sMove, sApp, sExt, sPar, eOp, eUn, eVar, eC, eIf, eAnd, eOr, eChain, tVal, uAnd, uOr, uNot, uTrue, eTup, eLst, eBi, eSl, partR, eIsi, eCall, eCallL, aCons, aNil, allD, dTup, dCons, dName, dNil, dSub, rho0, endD, lft, frz, stor, storAll, setAll, rtD, vIx, seqR, vII, vIC, vAdd, vSub, vMul, vFdiv, vMod, vPow, vLt, vLe, vGt, vGe, vEqS, vNeS, vIsN, vNotN, vNot, vNeg, isNo, vMin2, vMax2, vAbs, vInt1, vLen, vTuple, vList, vSum, isTy, vNotInK, vLenK, sKset, eDict1, datR, vEqD, vNeD, vCatT, vCatL, iSeq, iTupW, iRg1, iRg2, sFor, noL, noL1, lend, scalD, R.held, R.fresh, List.map_cons, List.map_nil, List.length_cons, List.length_nil, List.cons_append, List.nil_append, List.getElem?_cons_zero, List.getElem?_cons_succ, List.set_cons_zero, List.set_cons_succ, List.replicate_succ, List.replicate_zero, Nat.zero_add, Nat.reduceAdd, Nat.reduceSub, Nat.reduceLT, Option.join_some, Option.join_none, Option.bind_some, Option.map_some, List.all_cons, List.all_nil, Bool.and_true, Bool.true_and, Bool.not_true, Bool.not_false, and_true, true_and, if_true, if_false, Bool.false_eq_true, decide_true, decide_false, reduceIte]
      refine ⟨by decide, ?_⟩
      rw [show rangeD 1 (4 + 1) = (upTo 1 5).map PyData.int from rangeD_up 1 5]
      refine for_list PyData.int (fun rest ρ b' => ∃ (done : List House) (z2 z3 z4 z5 : Option R), done ++ rest.flatMap (lowsL most) = housesA most ∧ b' = b ∧ (∀ x ∈ rest, x ∈ upTo 1 5) ∧ ρ = [some (.d (.int most)), some (.o false (done.map House.enc)), z2, z3, z4, z5]) (fun _ _ => False) ?_ ?_ (fun _ _ h => h.elim) (upTo 1 5) ⟨[], none, none, none, none, rfl, rfl, fun _ h => h, rfl⟩
      · rintro delay rest ρ b' Q' ⟨done, z2, z3, z4, z5, hd, rfl, hsub, rfl⟩ hnx hrt
        have hdel : ((delay.toNat : Nat) : Int) = delay := by
          have h1 := hsub delay List.mem_cons_self
          unfold upTo at h1
          obtain ⟨i, hi, rfl⟩ := List.mem_map.mp h1
          omega
        simp only [sSeq, sNil, sAsg, sRet, sIf, sSet, sExpr, sFrz, sMove, sApp, sExt, sPar, eOp, eUn, eVar, eC, eIf, eAnd, eOr, eChain, tVal, uAnd, uOr, uNot, uTrue, eTup, eLst, eBi, eSl, partR, eIsi, eCall, eCallL, aCons, aNil, allD, dTup, dCons, dName, dNil, dSub, rho0, endD, lft, frz, stor, storAll, setAll, rtD, vIx, seqR, vII, vIC, vAdd, vSub, vMul, vFdiv, vMod, vPow, vLt, vLe, vGt, vGe, vEqS, vNeS, vIsN, vNotN, vNot, vNeg, isNo, vMin2, vMax2, vAbs, vInt1, vLen, vTuple, vList, vSum, isTy, vNotInK, vLenK, sKset, eDict1, datR, vEqD, vNeD, vCatT, vCatL, iSeq, iTupW, iRg1, iRg2, sFor, noL, noL1, lend, scalD, R.held, R.fresh, List.map_cons, List.map_nil, List.length_cons, List.length_nil, List.cons_append, List.nil_append, List.getElem?_cons_zero, List.getElem?_cons_succ, List.set_cons_zero, List.set_cons_succ, List.replicate_succ, List.replicate_zero, Nat.zero_add, Nat.reduceAdd, Nat.reduceSub, Nat.reduceLT, Option.join_some, Option.join_none, Option.bind_some, Option.map_some, List.all_cons, List.all_nil, Bool.and_true, Bool.true_and, Bool.not_true, Bool.not_false, and_true, true_and, if_true, if_false, Bool.false_eq_true, decide_true, decide_false, reduceIte]
        refine ⟨by omega, ?_⟩
        rw [rangeD_up]
        have hd2 : done ++ ((upTo 0 (most + 1)).flatMap (fun low => fillsL most delay low ++ packsL most delay low) ++ rest.flatMap (lowsL most)) = housesA most := hd
        refine for_list PyData.int (fun rest2 ρ b2 => ∃ (done2 : List House) (z3 z4 z5 : Option R), done2 ++ (rest2.flatMap (fun low => fillsL most delay low ++ packsL most delay low) ++ rest.flatMap (lowsL most)) = housesA most ∧ b2 = b' ∧ (∀ x ∈ rest2, x ∈ upTo 0 (most + 1)) ∧ ρ = [some (.d (.int most)), some (.o false (done2.map House.enc)), some (.d (.int delay)), z3, z4, z5]) (fun _ _ => False) ?_ ?_ (fun _ _ h => h.elim) (upTo 0 (most + 1)) ⟨done, z3, z4, z5, hd2, rfl, fun _ h => h, rfl⟩
        · rintro low rest2 ρ b2 Q2 ⟨done2, z3, z4, z5, hd3, rfl, hsub2, rfl⟩ hnx2 hrt2
          have hlow : 0 ≤ low ∧ low ≤ most := by
            have h1 := hsub2 low List.mem_cons_self
            unfold upTo at h1
            obtain ⟨i, hi, rfl⟩ := List.mem_map.mp h1
            rw [List.mem_range] at hi
            omega
          have hd4 : done2 ++ ((fillsL most delay low ++ packsL most delay low) ++ rest2.flatMap (fun low => fillsL most delay low ++ packsL most delay low) ++ rest.flatMap (lowsL most)) = housesA most := hd3
          have hl4 := congrArg List.length hd4
          simp only [List.length_append] at hl4
          have hl5 : (fillsL most delay low).length = (upTo low (most + 1)).length := by unfold fillsL; rw [List.length_map]
          have hl6 : (packsL most delay low).length = (upTo 1 (most - low + 2)).length := by unfold packsL; rw [List.length_map]
          simp only [sSeq, sNil, sAsg, sRet, sIf, sSet, sExpr, sFrz, sMove, sApp, sExt, sPar, eOp, eUn, eVar, eC, eIf, eAnd, eOr, eChain, tVal, uAnd, uOr, uNot, uTrue, eTup, eLst, eBi, eSl, partR, eIsi, eCall, eCallL, aCons, aNil, allD, dTup, dCons, dName, dNil, dSub, rho0, endD, lft, frz, stor, storAll, setAll, rtD, vIx, seqR, vII, vIC, vAdd, vSub, vMul, vFdiv, vMod, vPow, vLt, vLe, vGt, vGe, vEqS, vNeS, vIsN, vNotN, vNot, vNeg, isNo, vMin2, vMax2, vAbs, vInt1, vLen, vTuple, vList, vSum, isTy, vNotInK, vLenK, sKset, eDict1, datR, vEqD, vNeD, vCatT, vCatL, iSeq, iTupW, iRg1, iRg2, sFor, noL, noL1, lend, scalD, R.held, R.fresh, List.map_cons, List.map_nil, List.length_cons, List.length_nil, List.cons_append, List.nil_append, List.getElem?_cons_zero, List.getElem?_cons_succ, List.set_cons_zero, List.set_cons_succ, List.replicate_succ, List.replicate_zero, Nat.zero_add, Nat.reduceAdd, Nat.reduceSub, Nat.reduceLT, Option.join_some, Option.join_none, Option.bind_some, Option.map_some, List.all_cons, List.all_nil, Bool.and_true, Bool.true_and, Bool.not_true, Bool.not_false, and_true, true_and, if_true, if_false, Bool.false_eq_true, decide_true, decide_false, reduceIte, eComp, wipeR]
          refine ⟨by omega, ?_⟩
          rw [rangeD_up]
          refine cmp_map PyData.int (fun hi => (⟨true, low, hi, delay.toNat⟩ : House).enc) _ _ [] _ (fun a ha b Q q => ?_) (by rw [List.length_nil]; omega) ?_
          · simp only [sSeq, sNil, sAsg, sRet, sIf, sSet, sExpr, sFrz, sMove, sApp, sExt, sPar, eOp, eUn, eVar, eC, eIf, eAnd, eOr, eChain, tVal, uAnd, uOr, uNot, uTrue, eTup, eLst, eBi, eSl, partR, eIsi, eCall, eCallL, aCons, aNil, allD, dTup, dCons, dName, dNil, dSub, rho0, endD, lft, frz, stor, storAll, setAll, rtD, vIx, seqR, vII, vIC, vAdd, vSub, vMul, vFdiv, vMod, vPow, vLt, vLe, vGt, vGe, vEqS, vNeS, vIsN, vNotN, vNot, vNeg, isNo, vMin2, vMax2, vAbs, vInt1, vLen, vTuple, vList, vSum, isTy, vNotInK, vLenK, sKset, eDict1, datR, vEqD, vNeD, vCatT, vCatL, iSeq, iTupW, iRg1, iRg2, sFor, noL, noL1, lend, scalD, R.held, R.fresh, List.map_cons, List.map_nil, List.length_cons, List.length_nil, List.cons_append, List.nil_append, List.getElem?_cons_zero, List.getElem?_cons_succ, List.set_cons_zero, List.set_cons_succ, List.replicate_succ, List.replicate_zero, Nat.zero_add, Nat.reduceAdd, Nat.reduceSub, Nat.reduceLT, Option.join_some, Option.join_none, Option.bind_some, Option.map_some, List.all_cons, List.all_nil, Bool.and_true, Bool.true_and, Bool.not_true, Bool.not_false, and_true, true_and, if_true, if_false, Bool.false_eq_true, decide_true, decide_false, reduceIte, tgD]
            unfold House.enc House.rule at q
            rw [hdel] at q
            exact q
          · have e1 : ([] : List PyData) ++ (upTo low (most + 1)).map (fun hi => (⟨true, low, hi, delay.toNat⟩ : House).enc) = (fillsL most delay low).map House.enc := by
              unfold fillsL
              rw [List.map_map]
              rfl
            rw [e1, rangeD_up]
            refine ⟨by rw [List.length_map, List.length_map, sizeLine_eq]; omega, by omega, ?_⟩
            refine cmp_map PyData.int (fun sz => (⟨false, low, sz, delay.toNat⟩ : House).enc) _ _ [] _ (fun a ha b Q q => ?_) (by rw [List.length_nil]; omega) ?_
            · simp only [sSeq, sNil, sAsg, sRet, sIf, sSet, sExpr, sFrz, sMove, sApp, sExt, sPar, eOp, eUn, eVar, eC, eIf, eAnd, eOr, eChain, tVal, uAnd, uOr, uNot, uTrue, eTup, eLst, eBi, eSl, partR, eIsi, eCall, eCallL, aCons, aNil, allD, dTup, dCons, dName, dNil, dSub, rho0, endD, lft, frz, stor, storAll, setAll, rtD, vIx, seqR, vII, vIC, vAdd, vSub, vMul, vFdiv, vMod, vPow, vLt, vLe, vGt, vGe, vEqS, vNeS, vIsN, vNotN, vNot, vNeg, isNo, vMin2, vMax2, vAbs, vInt1, vLen, vTuple, vList, vSum, isTy, vNotInK, vLenK, sKset, eDict1, datR, vEqD, vNeD, vCatT, vCatL, iSeq, iTupW, iRg1, iRg2, sFor, noL, noL1, lend, scalD, R.held, R.fresh, List.map_cons, List.map_nil, List.length_cons, List.length_nil, List.cons_append, List.nil_append, List.getElem?_cons_zero, List.getElem?_cons_succ, List.set_cons_zero, List.set_cons_succ, List.replicate_succ, List.replicate_zero, Nat.zero_add, Nat.reduceAdd, Nat.reduceSub, Nat.reduceLT, Option.join_some, Option.join_none, Option.bind_some, Option.map_some, List.all_cons, List.all_nil, Bool.and_true, Bool.true_and, Bool.not_true, Bool.not_false, and_true, true_and, if_true, if_false, Bool.false_eq_true, decide_true, decide_false, reduceIte, tgD]
              unfold House.enc House.rule at q
              rw [hdel] at q
              exact q
            · have e2 : ([] : List PyData) ++ (upTo 1 (most - low + 2)).map (fun sz => (⟨false, low, sz, delay.toNat⟩ : House).enc) = (packsL most delay low).map House.enc := by
                unfold packsL
                rw [List.map_map]
                rfl
              rw [e2, ← List.map_append, ← List.map_append]
              refine ⟨by rw [List.length_map, List.length_append, List.length_map, sizeLine_eq]; omega, hnx2 _ _ ⟨done2 ++ fillsL most delay low ++ packsL most delay low, _, _, _, ?_, rfl, fun x hx => hsub2 x (List.mem_cons_of_mem _ hx), rfl⟩⟩
              rw [← hd4]
              simp only [List.append_assoc]
        · rintro ρ b2 ⟨done2, z3, z4, z5, hd3, rfl, hsub2, rfl⟩
          exact hnx _ _ ⟨done2, _, _, _, _, hd3, rfl, fun x hx => hsub x (List.mem_cons_of_mem _ hx), rfl⟩
      · rintro ρ b' ⟨done, z2, z3, z4, z5, hd, rfl, hsub, rfl⟩
        rw [List.flatMap_nil, List.append_nil] at hd
        subst hd
        have ok : SortOk ((housesA most).map House.enc) := sort_ok (by omega)
        simp only [sSeq, sNil, sAsg, sRet, sIf, sSet, sExpr, sFrz, sMove, sApp, sExt, sPar, eOp, eUn, eVar, eC, eIf, eAnd, eOr, eChain, tVal, uAnd, uOr, uNot, uTrue, eTup, eLst, eBi, eSl, partR, eIsi, eCall, eCallL, aCons, aNil, allD, dTup, dCons, dName, dNil, dSub, rho0, endD, lft, frz, stor, storAll, setAll, rtD, vIx, seqR, vII, vIC, vAdd, vSub, vMul, vFdiv, vMod, vPow, vLt, vLe, vGt, vGe, vEqS, vNeS, vIsN, vNotN, vNot, vNeg, isNo, vMin2, vMax2, vAbs, vInt1, vLen, vTuple, vList, vSum, isTy, vNotInK, vLenK, sKset, eDict1, datR, vEqD, vNeD, vCatT, vCatL, iSeq, iTupW, iRg1, iRg2, sFor, noL, noL1, lend, scalD, R.held, R.fresh, List.map_cons, List.map_nil, List.length_cons, List.length_nil, List.cons_append, List.nil_append, List.getElem?_cons_zero, List.getElem?_cons_succ, List.set_cons_zero, List.set_cons_succ, List.replicate_succ, List.replicate_zero, Nat.zero_add, Nat.reduceAdd, Nat.reduceSub, Nat.reduceLT, Option.join_some, Option.join_none, Option.bind_some, Option.map_some, List.all_cons, List.all_nil, Bool.and_true, Bool.true_and, Bool.not_true, Bool.not_false, and_true, true_and, if_true, if_false, Bool.false_eq_true, decide_true, decide_false, reduceIte, vSorted, if_pos ok, sortedA hm]
        exact q)
def pt_p_melted : FW := fun rs b Q => ∃ (c : Chain) (t : Band) (most : Int) (r : Option House), c.Ok ∧ t.Ok ∧ most ∈ ([0, 1, 2, 3] : List Int) ∧ Melt c t 20000 (ordH most) r ∧ rs = [.d c.enc, .d t.enc, .d (.int most)] ∧ Q (encH r) b
theorem mono_p_melted : FMono pt_p_melted := fun rs b Q Q' hh ⟨m, t, x, r, o, o1, o2, o3, e, q⟩ => ⟨m, t, x, r, o, o1, o2, o3, e, hh _ _ q⟩
abbrev s_p_melted : Stmt := topS 41
theorem sc_p_melted : FnScope ["chain", "band", "most", "house"] ["chain", "band", "most"] (defScope s_p_melted) := ⟨rfl, rfl, rfl, by decide +kernel, rfl, by decide +kernel, by decide +kernel⟩
theorem ok_p_melted {f : Addr} {fd : FuncData} (F : Fun K "melted" "melted" s_p_melted f fd) (hm : mg "melted" = some (.ref f)) (hb : Binds K fd ["chain", "band", "most"] []) (nb : Nb mg) (kc : Kc mg) (C_p_all_houses : Can P w K mg base 1 "all_houses" ["most"] pt_p_all_houses) (C_p_parted : Can P w K mg base 4 "parted" ["one", "other", "band"] pt_p_parted) (C_p_is_whole : Can P w K mg base 1 "is_whole" ["value", "least", "most"] pt_p_is_whole) (C_p_need_band : Can P w K mg base 2 "need_band" ["band"] pt_p_need_band) (C_p_need_chain : Can P w K mg base 4 "need_chain" ["chain"] pt_p_need_chain) :
    Can P w K mg base 5 "melted" ["chain", "band", "most"] pt_p_melted := by
  exact fn_data F sc_p_melted hm hb mono_p_melted (fun md G cdv A outer s H E hr =>
    (pdb_cons (pds_expr (pd_call C_p_need_chain (hr.mono (by decide)) (by rfl) (pda_cons (pv_ 0) pda_nil)))
      (pdb_cons (pds_expr (pd_call C_p_need_band (hr.mono (by decide)) (by rfl) (pda_cons (pv_ 1) pda_nil)))
      (pdb_cons (pds_if (pdt_not (pdt_val (pd_call C_p_is_whole (hr.mono (by decide)) (by rfl) (pda_cons (pv_ 2) (pda_cons pd_int (pda_cons (pd_gint kc.MOST_TOP (by rfl)) pda_nil)))))) (pdb_one pds_never) pdb_nil)
      (pdb_cons (pds_for PassesOwn.never rfl (pdi_list (pd_call C_p_all_houses (hr.mono (by decide)) (by rfl) (pda_cons (pv_ 2) pda_nil))) (pdg_name (i := 3) sc_p_melted.nd rfl (by first | exact .inl rfl | exact .inr rfl)) (pdb_one (pds_if (pdt_isN (pd_call C_p_parted (hr.mono (by decide)) (by rfl) (pda_cons (pv_ 0) (pda_cons (pd_tup (pda_cons (pd_tup (pda_cons (pv_ 3) pda_nil)) (pda_cons (pd_ix (pv_ 0) pd_int) pda_nil))) (pda_cons (pv_ 1) pda_nil)))) pd_non) (pdb_one (pds_ret (pv_ 3))) pdb_nil)))
      (pdb_one (pds_ret pd_non)))))))
    (by
      rintro rs b Q hl ⟨c, t, most, r, o1, o2, hm, melt, rfl, q⟩
      have hm2 : 0 ≤ most ∧ most ≤ 3 := by
        simp only [List.mem_cons, List.not_mem_nil, or_false] at hm
        omega
      simp only [sSeq, sNil, sAsg, sRet, sIf, sSet, sExpr, sFrz, sMove, sApp, sExt, sPar, eOp, eUn, eVar, eC, eIf, eAnd, eOr, eChain, tVal, uAnd, uOr, uNot, uTrue, eTup, eLst, eBi, eSl, partR, eIsi, eCall, eCallL, aCons, aNil, allD, dTup, dCons, dName, dNil, dSub, rho0, endD, lft, frz, stor, storAll, setAll, rtD, vIx, seqR, vII, vIC, vAdd, vSub, vMul, vFdiv, vMod, vPow, vLt, vLe, vGt, vGe, vEqS, vNeS, vIsN, vNotN, vNot, vNeg, isNo, vMin2, vMax2, vAbs, vInt1, vLen, vTuple, vList, vSum, isTy, vNotInK, vLenK, sKset, eDict1, datR, vEqD, vNeD, vCatT, vCatL, iSeq, iTupW, iRg1, iRg2, sFor, noL, noL1, lend, scalD, R.held, R.fresh, List.map_cons, List.map_nil, List.length_cons, List.length_nil, List.cons_append, List.nil_append, List.getElem?_cons_zero, List.getElem?_cons_succ, List.set_cons_zero, List.set_cons_succ, List.replicate_succ, List.replicate_zero, Nat.zero_add, Nat.reduceAdd, Nat.reduceSub, Nat.reduceLT, Option.join_some, Option.join_none, Option.bind_some, Option.map_some, List.all_cons, List.all_nil, Bool.and_true, Bool.true_and, Bool.not_true, Bool.not_false, and_true, true_and, if_true, if_false, Bool.false_eq_true, decide_true, decide_false, reduceIte]
      refine ⟨c, o1, rfl, t, o2, rfl, most, 0, 8, rfl, ?_⟩
      have e1 : (decide ((0 : Int) ≤ most) && decide (most ≤ 8)) = true := by rw [decide_eq_true hm2.1, decide_eq_true (by omega)]; rfl
      simp only [sSeq, sNil, sAsg, sRet, sIf, sSet, sExpr, sFrz, sMove, sApp, sExt, sPar, eOp, eUn, eVar, eC, eIf, eAnd, eOr, eChain, tVal, uAnd, uOr, uNot, uTrue, eTup, eLst, eBi, eSl, partR, eIsi, eCall, eCallL, aCons, aNil, allD, dTup, dCons, dName, dNil, dSub, rho0, endD, lft, frz, stor, storAll, setAll, rtD, vIx, seqR, vII, vIC, vAdd, vSub, vMul, vFdiv, vMod, vPow, vLt, vLe, vGt, vGe, vEqS, vNeS, vIsN, vNotN, vNot, vNeg, isNo, vMin2, vMax2, vAbs, vInt1, vLen, vTuple, vList, vSum, isTy, vNotInK, vLenK, sKset, eDict1, datR, vEqD, vNeD, vCatT, vCatL, iSeq, iTupW, iRg1, iRg2, sFor, noL, noL1, lend, scalD, R.held, R.fresh, List.map_cons, List.map_nil, List.length_cons, List.length_nil, List.cons_append, List.nil_append, List.getElem?_cons_zero, List.getElem?_cons_succ, List.set_cons_zero, List.set_cons_succ, List.replicate_succ, List.replicate_zero, Nat.zero_add, Nat.reduceAdd, Nat.reduceSub, Nat.reduceLT, Option.join_some, Option.join_none, Option.bind_some, Option.map_some, List.all_cons, List.all_nil, Bool.and_true, Bool.true_and, Bool.not_true, Bool.not_false, and_true, true_and, if_true, if_false, Bool.false_eq_true, decide_true, decide_false, reduceIte, e1]
      refine ⟨most, hm, rfl, ?_⟩
      simp only [sSeq, sNil, sAsg, sRet, sIf, sSet, sExpr, sFrz, sMove, sApp, sExt, sPar, eOp, eUn, eVar, eC, eIf, eAnd, eOr, eChain, tVal, uAnd, uOr, uNot, uTrue, eTup, eLst, eBi, eSl, partR, eIsi, eCall, eCallL, aCons, aNil, allD, dTup, dCons, dName, dNil, dSub, rho0, endD, lft, frz, stor, storAll, setAll, rtD, vIx, seqR, vII, vIC, vAdd, vSub, vMul, vFdiv, vMod, vPow, vLt, vLe, vGt, vGe, vEqS, vNeS, vIsN, vNotN, vNot, vNeg, isNo, vMin2, vMax2, vAbs, vInt1, vLen, vTuple, vList, vSum, isTy, vNotInK, vLenK, sKset, eDict1, datR, vEqD, vNeD, vCatT, vCatL, iSeq, iTupW, iRg1, iRg2, sFor, noL, noL1, lend, scalD, R.held, R.fresh, List.map_cons, List.map_nil, List.length_cons, List.length_nil, List.cons_append, List.nil_append, List.getElem?_cons_zero, List.getElem?_cons_succ, List.set_cons_zero, List.set_cons_succ, List.replicate_succ, List.replicate_zero, Nat.zero_add, Nat.reduceAdd, Nat.reduceSub, Nat.reduceLT, Option.join_some, Option.join_none, Option.bind_some, Option.map_some, List.all_cons, List.all_nil, Bool.and_true, Bool.true_and, Bool.not_true, Bool.not_false, and_true, true_and, if_true, if_false, Bool.false_eq_true, decide_true, decide_false, reduceIte]
      refine for_list House.enc (fun rest ρ b' => ∃ (z3 : Option R), Melt c t 20000 rest r ∧ b' = b ∧ (∀ x ∈ rest, x ∈ ordH most) ∧ ρ = [some (.d c.enc), some (.d t.enc), some (.d (.int most)), z3]) (fun d' b' => d' = encH r ∧ b' = b) ?_ ?_ ?_ (ordH most) ⟨none, melt, rfl, fun _ h => h, rfl⟩
      · rintro h rest ρ b' Q' ⟨z3, melt', rfl, hsub, rfl⟩ hnx hrt
        have hok := ordH_ok hm h (hsub h List.mem_cons_self)
        unfold Chain.enc
        simp only [sSeq, sNil, sAsg, sRet, sIf, sSet, sExpr, sFrz, sMove, sApp, sExt, sPar, eOp, eUn, eVar, eC, eIf, eAnd, eOr, eChain, tVal, uAnd, uOr, uNot, uTrue, eTup, eLst, eBi, eSl, partR, eIsi, eCall, eCallL, aCons, aNil, allD, dTup, dCons, dName, dNil, dSub, rho0, endD, lft, frz, stor, storAll, setAll, rtD, vIx, seqR, vII, vIC, vAdd, vSub, vMul, vFdiv, vMod, vPow, vLt, vLe, vGt, vGe, vEqS, vNeS, vIsN, vNotN, vNot, vNeg, isNo, vMin2, vMax2, vAbs, vInt1, vLen, vTuple, vList, vSum, isTy, vNotInK, vLenK, sKset, eDict1, datR, vEqD, vNeD, vCatT, vCatL, iSeq, iTupW, iRg1, iRg2, sFor, noL, noL1, lend, scalD, R.held, R.fresh, List.map_cons, List.map_nil, List.length_cons, List.length_nil, List.cons_append, List.nil_append, List.getElem?_cons_zero, List.getElem?_cons_succ, List.set_cons_zero, List.set_cons_succ, List.replicate_succ, List.replicate_zero, Nat.zero_add, Nat.reduceAdd, Nat.reduceSub, Nat.reduceLT, Option.join_some, Option.join_none, Option.bind_some, Option.map_some, List.all_cons, List.all_nil, Bool.and_true, Bool.true_and, Bool.not_true, Bool.not_false, and_true, true_and, if_true, if_false, Bool.false_eq_true, decide_true, decide_false, reduceIte, atI_1]
        cases melt' with
        | here run =>
          refine ⟨c, ⟨[h], c.wait⟩, t, _, none, o1, one_ok o1 hok, o2, run, rfl, ?_⟩
          simp only [sSeq, sNil, sAsg, sRet, sIf, sSet, sExpr, sFrz, sMove, sApp, sExt, sPar, eOp, eUn, eVar, eC, eIf, eAnd, eOr, eChain, tVal, uAnd, uOr, uNot, uTrue, eTup, eLst, eBi, eSl, partR, eIsi, eCall, eCallL, aCons, aNil, allD, dTup, dCons, dName, dNil, dSub, rho0, endD, lft, frz, stor, storAll, setAll, rtD, vIx, seqR, vII, vIC, vAdd, vSub, vMul, vFdiv, vMod, vPow, vLt, vLe, vGt, vGe, vEqS, vNeS, vIsN, vNotN, vNot, vNeg, isNo, vMin2, vMax2, vAbs, vInt1, vLen, vTuple, vList, vSum, isTy, vNotInK, vLenK, sKset, eDict1, datR, vEqD, vNeD, vCatT, vCatL, iSeq, iTupW, iRg1, iRg2, sFor, noL, noL1, lend, scalD, R.held, R.fresh, List.map_cons, List.map_nil, List.length_cons, List.length_nil, List.cons_append, List.nil_append, List.getElem?_cons_zero, List.getElem?_cons_succ, List.set_cons_zero, List.set_cons_succ, List.replicate_succ, List.replicate_zero, Nat.zero_add, Nat.reduceAdd, Nat.reduceSub, Nat.reduceLT, Option.join_some, Option.join_none, Option.bind_some, Option.map_some, List.all_cons, List.all_nil, Bool.and_true, Bool.true_and, Bool.not_true, Bool.not_false, and_true, true_and, if_true, if_false, Bool.false_eq_true, decide_true, decide_false, reduceIte, encRes]
          exact hrt _ _ ⟨rfl, rfl⟩
        | next run melt2 =>
          refine ⟨c, ⟨[h], c.wait⟩, t, _, some _, o1, one_ok o1 hok, o2, run, rfl, ?_⟩
          simp only [sSeq, sNil, sAsg, sRet, sIf, sSet, sExpr, sFrz, sMove, sApp, sExt, sPar, eOp, eUn, eVar, eC, eIf, eAnd, eOr, eChain, tVal, uAnd, uOr, uNot, uTrue, eTup, eLst, eBi, eSl, partR, eIsi, eCall, eCallL, aCons, aNil, allD, dTup, dCons, dName, dNil, dSub, rho0, endD, lft, frz, stor, storAll, setAll, rtD, vIx, seqR, vII, vIC, vAdd, vSub, vMul, vFdiv, vMod, vPow, vLt, vLe, vGt, vGe, vEqS, vNeS, vIsN, vNotN, vNot, vNeg, isNo, vMin2, vMax2, vAbs, vInt1, vLen, vTuple, vList, vSum, isTy, vNotInK, vLenK, sKset, eDict1, datR, vEqD, vNeD, vCatT, vCatL, iSeq, iTupW, iRg1, iRg2, sFor, noL, noL1, lend, scalD, R.held, R.fresh, List.map_cons, List.map_nil, List.length_cons, List.length_nil, List.cons_append, List.nil_append, List.getElem?_cons_zero, List.getElem?_cons_succ, List.set_cons_zero, List.set_cons_succ, List.replicate_succ, List.replicate_zero, Nat.zero_add, Nat.reduceAdd, Nat.reduceSub, Nat.reduceLT, Option.join_some, Option.join_none, Option.bind_some, Option.map_some, List.all_cons, List.all_nil, Bool.and_true, Bool.true_and, Bool.not_true, Bool.not_false, and_true, true_and, if_true, if_false, Bool.false_eq_true, decide_true, decide_false, reduceIte, encRes, encR]
          exact hnx _ _ ⟨_, melt2, rfl, fun x hx => hsub x (List.mem_cons_of_mem _ hx), rfl⟩
      · rintro ρ b' ⟨z3, melt', rfl, hsub, rfl⟩
        cases melt'
        exact q
      · rintro d' b' ⟨rfl, rfl⟩
        exact q)
end
end L2.U
/-! The law's defs: draws, small chains. -/
namespace L2.U
open PySem PySem.Spec PyProof.Rows
section
variable {P : Program} {w : World} {K : PySem.W.Frag} {mg : Str → Option Value} {base : Heap}
def pt_q_mixed : FW := fun rs b Q => ∃ (cell n : Int), 0 ≤ cell ∧ cell < 2 ^ 60 ∧ 0 ≤ n ∧ n < 2 ^ 30 ∧ rs = [.d (.int cell), .d (.int n)] ∧ ∀ r : Int, 0 ≤ r → r < 2 ^ 31 → Q (.int r) b
theorem mono_q_mixed : FMono pt_q_mixed := fun rs b Q Q' hh ⟨c, n, h1, h2, h3, h4, e, q⟩ => ⟨c, n, h1, h2, h3, h4, e, fun r a1 a2 => hh _ _ (q r a1 a2)⟩
theorem small_of {i : Int} (h : -(2 ^ 64) < i ∧ i < 2 ^ 64) : smallB i = true := by
  unfold smallB
  rw [decide_eq_true h.1, decide_eq_true h.2]
  rfl
abbrev s_q_mixed : Stmt := topS 43
theorem sc_q_mixed : FnScope ["_law_cell", "_law_n", "_law_blend"] ["_law_cell", "_law_n"] (defScope s_q_mixed) := ⟨rfl, rfl, rfl, by decide +kernel, rfl, by decide +kernel, by decide +kernel⟩
theorem ok_q_mixed {f : Addr} {fd : FuncData} (F : Fun K "_law_mixed" "_law_mixed" s_q_mixed f fd) (hm : mg "_law_mixed" = some (.ref f)) (hb : Binds K fd ["_law_cell", "_law_n"] []) (nb : Nb mg) (kc : Kc mg) :
    Can P w K mg base 1 "_law_mixed" ["_law_cell", "_law_n"] pt_q_mixed := by
  exact fn_data F sc_q_mixed hm hb mono_q_mixed (fun md G cdv A outer s H E hr =>
    (pdb_cons (pds_set (i := 2) sc_q_mixed.nd rfl (by first | exact .inl rfl | exact .inr rfl) (pd_add (pd_add (pd_mod (pd_int1 (by rfl) nb.int (pda_cons (pd_mul (pd_mul (pv_ 0) (pd_add pd_int (pd_mul pd_int (pv_ 1)))) pd_int) pda_nil)) pd_int) (pd_mul (pd_mul pd_int (pv_ 1)) (pv_ 1))) (pd_mul pd_int (pv_ 1))))
      (pdb_one (pds_ret (pd_fdiv (pd_mod (pd_int1 (by rfl) nb.int (pda_cons (pd_mul (pv_ 2) pd_int) pda_nil)) pd_int) pd_int)))))
    (by
      rintro rs b Q hl ⟨cell, n, h1, h2, h3, h4, rfl, q⟩
      have s1 : smallB cell = true := small_of (by omega)
      have s2 : smallB (48271 : Int) = true := by decide +kernel
      have s3 : smallB (2 : Int) = true := by decide +kernel
      have s4 : smallB (7919 : Int) = true := by decide +kernel
      have s5 : smallB n = true := small_of (by omega)
      have s6 : smallB (69621 : Int) = true := by decide +kernel
      simp only [sSeq, sNil, sAsg, sRet, sIf, sSet, sExpr, sFrz, sMove, sApp, sExt, sPar, eOp, eUn, eVar, eC, eIf, eAnd, eOr, eChain, tVal, uAnd, uOr, uNot, uTrue, eTup, eLst, eBi, eSl, partR, eIsi, eCall, eCallL, aCons, aNil, allD, dTup, dCons, dName, dNil, dSub, rho0, endD, lft, frz, stor, storAll, setAll, rtD, vIx, seqR, vII, vIC, vAdd, vSub, vMul, vFdiv, vMod, vPow, vLt, vLe, vGt, vGe, vEqS, vNeS, vIsN, vNotN, vNot, vNeg, isNo, vMin2, vMax2, vAbs, vInt1, vLen, vTuple, vList, vSum, isTy, vNotInK, vLenK, sKset, eDict1, datR, vEqD, vNeD, vCatT, vCatL, iSeq, iTupW, iRg1, iRg2, sFor, noL, noL1, lend, scalD, R.held, R.fresh, List.map_cons, List.map_nil, List.length_cons, List.length_nil, List.cons_append, List.nil_append, List.getElem?_cons_zero, List.getElem?_cons_succ, List.set_cons_zero, List.set_cons_succ, List.replicate_succ, List.replicate_zero, Nat.zero_add, Nat.reduceAdd, Nat.reduceSub, Nat.reduceLT, Option.join_some, Option.join_none, Option.bind_some, Option.map_some, List.all_cons, List.all_nil, Bool.and_true, Bool.true_and, Bool.not_true, Bool.not_false, and_true, true_and, if_true, if_false, Bool.false_eq_true, decide_true, decide_false, reduceIte, s1, s2, s3, s4, s5, s6, Bool.or_true, Bool.true_or, show decide ((0 : Int) < 2147483647) = true by decide, show decide ((0 : Int) < 2147483629) = true by decide, show decide ((0 : Int) < 7) = true by decide, show decide ((7 : Int) < 1073741824) = true by decide]
      refine q _ ?_ ?_
      · exact Int.ediv_nonneg (Int.emod_nonneg _ (by decide)) (by decide)
      · generalize hm : (cell * (1 + 2 * n) * 48271 % 2147483647 + 7919 * n * n + 104729 * n) * 69621 = m
        have := Int.emod_lt_of_pos m (show (0 : Int) < 2147483629 by decide)
        omega)
def pt_q_draw : FW := fun rs b Q => ∃ (lim : Int), 1 ≤ lim ∧ lim ≤ 1000000 ∧ b ≤ 1000000 ∧ rs = [.m, .d (.int lim)] ∧ ∀ r : Int, 0 ≤ r → r < lim → Q (.int r) (b + 1)
theorem mono_q_draw : FMono pt_q_draw := fun rs b Q Q' hh ⟨l, h1, h2, h3, e, q⟩ => ⟨l, h1, h2, h3, e, fun r a1 a2 => hh _ _ (q r a1 a2)⟩
structure House.Sm (h : House) : Prop where
  ok : h.Ok
  low : h.low ≤ 8
  more : h.more ≤ 9
def pt_q_house : FW := fun rs b Q => ∃ (high late : Int), 1 ≤ high ∧ high ≤ 6 ∧ 1 ≤ late ∧ late ≤ 4 ∧ b ≤ 900000 ∧ rs = [.m, .d (.int high), .d (.int late)] ∧ ∀ (h : House) b', h.Sm → b' ≤ b + 4 → Q h.enc b'
theorem mono_q_house : FMono pt_q_house := fun rs b Q Q' hh ⟨l, l2, h1, h2, h3, h4, h5, e, q⟩ => ⟨l, l2, h1, h2, h3, h4, h5, e, fun r b' a1 a2 => hh _ _ (q r b' a1 a2)⟩
abbrev s_q_house : Stmt := topS 48
theorem sc_q_house : FnScope ["_law_m", "_law_high", "_law_late", "_law_low", "_law_more"] ["_law_m", "_law_high", "_law_late"] (defScope s_q_house) := ⟨rfl, rfl, rfl, by decide +kernel, rfl, by decide +kernel, by decide +kernel⟩
theorem ok_q_house {f : Addr} {fd : FuncData} (F : Fun K "_law_house" "_law_house" s_q_house f fd) (hm : mg "_law_house" = some (.ref f)) (hb : Binds K fd ["_law_m", "_law_high", "_law_late"] []) (nb : Nb mg) (kc : Kc mg) (C_q_draw : Can P w K mg base 2 "_law_draw" ["_law_m", "_law_limit"] pt_q_draw) :
    Can P w K mg base 3 "_law_house" ["_law_m", "_law_high", "_law_late"] pt_q_house := by
  exact fn_data F sc_q_house hm hb mono_q_house (fun md G cdv A outer s H E hr =>
    (pdb_cons (pds_par2X (pda_cons (pd_call C_q_draw (hr.mono (by decide)) (by rfl) (pda_cons (pv_ 0) (pda_cons (pv_ 1) pda_nil))) (pda_cons (pd_call C_q_draw (hr.mono (by decide)) (by rfl) (pda_cons (pv_ 0) (pda_cons pd_int pda_nil))) pda_nil)) (fun h => ps_par (i := 3) (j := 4) rfl sc_q_house.nd rfl rfl (by decide) rfl rfl h (by rfl)))
      (pdb_cons (pds_if (pdt_eqS (pd_call C_q_draw (hr.mono (by decide)) (by rfl) (pda_cons (pv_ 0) (pda_cons pd_int pda_nil))) pd_int) (pdb_one (pds_ret (pd_tup (pda_cons (pd_tup (pda_cons pd_str (pda_cons (pv_ 3) (pda_cons (pd_min2 rfl (by rfl) nb.min (pda_cons (pv_ 1) (pda_cons (pd_add (pv_ 3) (pv_ 4)) pda_nil))) pda_nil)))) (pda_cons (pd_add pd_int (pd_call C_q_draw (hr.mono (by decide)) (by rfl) (pda_cons (pv_ 0) (pda_cons (pv_ 2) pda_nil)))) pda_nil))))) pdb_nil)
      (pdb_one (pds_ret (pd_tup (pda_cons (pd_tup (pda_cons pd_str (pda_cons (pv_ 3) (pda_cons (pd_add pd_int (pv_ 4)) pda_nil)))) (pda_cons (pd_add pd_int (pd_call C_q_draw (hr.mono (by decide)) (by rfl) (pda_cons (pv_ 0) (pda_cons (pv_ 2) pda_nil)))) pda_nil))))))))
    (by
      rintro rs b Q hl ⟨high, late, h1, h2, h3, h4, h5, rfl, q⟩
      simp only [sSeq, sNil, sAsg, sRet, sIf, sSet, sExpr, sFrz, sMove, sApp, sExt, sPar, eOp, eUn, eVar, eC, eIf, eAnd, eOr, eChain, tVal, uAnd, uOr, uNot, uTrue, eTup, eLst, eBi, eSl, partR, eIsi, eCall, eCallL, aCons, aNil, allD, dTup, dCons, dName, dNil, dSub, rho0, endD, lft, frz, stor, storAll, setAll, rtD, vIx, seqR, vII, vIC, vAdd, vSub, vMul, vFdiv, vMod, vPow, vLt, vLe, vGt, vGe, vEqS, vNeS, vIsN, vNotN, vNot, vNeg, isNo, vMin2, vMax2, vAbs, vInt1, vLen, vTuple, vList, vSum, isTy, vNotInK, vLenK, sKset, eDict1, datR, vEqD, vNeD, vCatT, vCatL, iSeq, iTupW, iRg1, iRg2, sFor, noL, noL1, lend, scalD, R.held, R.fresh, List.map_cons, List.map_nil, List.length_cons, List.length_nil, List.cons_append, List.nil_append, List.getElem?_cons_zero, List.getElem?_cons_succ, List.set_cons_zero, List.set_cons_succ, List.replicate_succ, List.replicate_zero, Nat.zero_add, Nat.reduceAdd, Nat.reduceSub, Nat.reduceLT, Option.join_some, Option.join_none, Option.bind_some, Option.map_some, List.all_cons, List.all_nil, Bool.and_true, Bool.true_and, Bool.not_true, Bool.not_false, and_true, true_and, if_true, if_false, Bool.false_eq_true, decide_true, decide_false, reduceIte]
      refine ⟨high, by omega, by omega, by omega, rfl, fun low l1 l2 => ?_⟩
      simp only [sSeq, sNil, sAsg, sRet, sIf, sSet, sExpr, sFrz, sMove, sApp, sExt, sPar, eOp, eUn, eVar, eC, eIf, eAnd, eOr, eChain, tVal, uAnd, uOr, uNot, uTrue, eTup, eLst, eBi, eSl, partR, eIsi, eCall, eCallL, aCons, aNil, allD, dTup, dCons, dName, dNil, dSub, rho0, endD, lft, frz, stor, storAll, setAll, rtD, vIx, seqR, vII, vIC, vAdd, vSub, vMul, vFdiv, vMod, vPow, vLt, vLe, vGt, vGe, vEqS, vNeS, vIsN, vNotN, vNot, vNeg, isNo, vMin2, vMax2, vAbs, vInt1, vLen, vTuple, vList, vSum, isTy, vNotInK, vLenK, sKset, eDict1, datR, vEqD, vNeD, vCatT, vCatL, iSeq, iTupW, iRg1, iRg2, sFor, noL, noL1, lend, scalD, R.held, R.fresh, List.map_cons, List.map_nil, List.length_cons, List.length_nil, List.cons_append, List.nil_append, List.getElem?_cons_zero, List.getElem?_cons_succ, List.set_cons_zero, List.set_cons_succ, List.replicate_succ, List.replicate_zero, Nat.zero_add, Nat.reduceAdd, Nat.reduceSub, Nat.reduceLT, Option.join_some, Option.join_none, Option.bind_some, Option.map_some, List.all_cons, List.all_nil, Bool.and_true, Bool.true_and, Bool.not_true, Bool.not_false, and_true, true_and, if_true, if_false, Bool.false_eq_true, decide_true, decide_false, reduceIte]
      refine ⟨3, by omega, by omega, by omega, rfl, fun more m1 m2 => ?_⟩
      simp only [sSeq, sNil, sAsg, sRet, sIf, sSet, sExpr, sFrz, sMove, sApp, sExt, sPar, eOp, eUn, eVar, eC, eIf, eAnd, eOr, eChain, tVal, uAnd, uOr, uNot, uTrue, eTup, eLst, eBi, eSl, partR, eIsi, eCall, eCallL, aCons, aNil, allD, dTup, dCons, dName, dNil, dSub, rho0, endD, lft, frz, stor, storAll, setAll, rtD, vIx, seqR, vII, vIC, vAdd, vSub, vMul, vFdiv, vMod, vPow, vLt, vLe, vGt, vGe, vEqS, vNeS, vIsN, vNotN, vNot, vNeg, isNo, vMin2, vMax2, vAbs, vInt1, vLen, vTuple, vList, vSum, isTy, vNotInK, vLenK, sKset, eDict1, datR, vEqD, vNeD, vCatT, vCatL, iSeq, iTupW, iRg1, iRg2, sFor, noL, noL1, lend, scalD, R.held, R.fresh, List.map_cons, List.map_nil, List.length_cons, List.length_nil, List.cons_append, List.nil_append, List.getElem?_cons_zero, List.getElem?_cons_succ, List.set_cons_zero, List.set_cons_succ, List.replicate_succ, List.replicate_zero, Nat.zero_add, Nat.reduceAdd, Nat.reduceSub, Nat.reduceLT, Option.join_some, Option.join_none, Option.bind_some, Option.map_some, List.all_cons, List.all_nil, Bool.and_true, Bool.true_and, Bool.not_true, Bool.not_false, and_true, true_and, if_true, if_false, Bool.false_eq_true, decide_true, decide_false, reduceIte]
      refine ⟨2, by omega, by omega, by omega, rfl, fun r r1 r2 => ?_⟩
      simp only [sSeq, sNil, sAsg, sRet, sIf, sSet, sExpr, sFrz, sMove, sApp, sExt, sPar, eOp, eUn, eVar, eC, eIf, eAnd, eOr, eChain, tVal, uAnd, uOr, uNot, uTrue, eTup, eLst, eBi, eSl, partR, eIsi, eCall, eCallL, aCons, aNil, allD, dTup, dCons, dName, dNil, dSub, rho0, endD, lft, frz, stor, storAll, setAll, rtD, vIx, seqR, vII, vIC, vAdd, vSub, vMul, vFdiv, vMod, vPow, vLt, vLe, vGt, vGe, vEqS, vNeS, vIsN, vNotN, vNot, vNeg, isNo, vMin2, vMax2, vAbs, vInt1, vLen, vTuple, vList, vSum, isTy, vNotInK, vLenK, sKset, eDict1, datR, vEqD, vNeD, vCatT, vCatL, iSeq, iTupW, iRg1, iRg2, sFor, noL, noL1, lend, scalD, R.held, R.fresh, List.map_cons, List.map_nil, List.length_cons, List.length_nil, List.cons_append, List.nil_append, List.getElem?_cons_zero, List.getElem?_cons_succ, List.set_cons_zero, List.set_cons_succ, List.replicate_succ, List.replicate_zero, Nat.zero_add, Nat.reduceAdd, Nat.reduceSub, Nat.reduceLT, Option.join_some, Option.join_none, Option.bind_some, Option.map_some, List.all_cons, List.all_nil, Bool.and_true, Bool.true_and, Bool.not_true, Bool.not_false, and_true, true_and, if_true, if_false, Bool.false_eq_true, decide_true, decide_false, reduceIte]
      by_cases hr : r = 0
      · subst hr
        simp only [sSeq, sNil, sAsg, sRet, sIf, sSet, sExpr, sFrz, sMove, sApp, sExt, sPar, eOp, eUn, eVar, eC, eIf, eAnd, eOr, eChain, tVal, uAnd, uOr, uNot, uTrue, eTup, eLst, eBi, eSl, partR, eIsi, eCall, eCallL, aCons, aNil, allD, dTup, dCons, dName, dNil, dSub, rho0, endD, lft, frz, stor, storAll, setAll, rtD, vIx, seqR, vII, vIC, vAdd, vSub, vMul, vFdiv, vMod, vPow, vLt, vLe, vGt, vGe, vEqS, vNeS, vIsN, vNotN, vNot, vNeg, isNo, vMin2, vMax2, vAbs, vInt1, vLen, vTuple, vList, vSum, isTy, vNotInK, vLenK, sKset, eDict1, datR, vEqD, vNeD, vCatT, vCatL, iSeq, iTupW, iRg1, iRg2, sFor, noL, noL1, lend, scalD, R.held, R.fresh, List.map_cons, List.map_nil, List.length_cons, List.length_nil, List.cons_append, List.nil_append, List.getElem?_cons_zero, List.getElem?_cons_succ, List.set_cons_zero, List.set_cons_succ, List.replicate_succ, List.replicate_zero, Nat.zero_add, Nat.reduceAdd, Nat.reduceSub, Nat.reduceLT, Option.join_some, Option.join_none, Option.bind_some, Option.map_some, List.all_cons, List.all_nil, Bool.and_true, Bool.true_and, Bool.not_true, Bool.not_false, and_true, true_and, if_true, if_false, Bool.false_eq_true, decide_true, decide_false, reduceIte]
        refine ⟨late, by omega, by omega, by omega, rfl, fun y y1 y2 => ?_⟩
        simp only [sSeq, sNil, sAsg, sRet, sIf, sSet, sExpr, sFrz, sMove, sApp, sExt, sPar, eOp, eUn, eVar, eC, eIf, eAnd, eOr, eChain, tVal, uAnd, uOr, uNot, uTrue, eTup, eLst, eBi, eSl, partR, eIsi, eCall, eCallL, aCons, aNil, allD, dTup, dCons, dName, dNil, dSub, rho0, endD, lft, frz, stor, storAll, setAll, rtD, vIx, seqR, vII, vIC, vAdd, vSub, vMul, vFdiv, vMod, vPow, vLt, vLe, vGt, vGe, vEqS, vNeS, vIsN, vNotN, vNot, vNeg, isNo, vMin2, vMax2, vAbs, vInt1, vLen, vTuple, vList, vSum, isTy, vNotInK, vLenK, sKset, eDict1, datR, vEqD, vNeD, vCatT, vCatL, iSeq, iTupW, iRg1, iRg2, sFor, noL, noL1, lend, scalD, R.held, R.fresh, List.map_cons, List.map_nil, List.length_cons, List.length_nil, List.cons_append, List.nil_append, List.getElem?_cons_zero, List.getElem?_cons_succ, List.set_cons_zero, List.set_cons_succ, List.replicate_succ, List.replicate_zero, Nat.zero_add, Nat.reduceAdd, Nat.reduceSub, Nat.reduceLT, Option.join_some, Option.join_none, Option.bind_some, Option.map_some, List.all_cons, List.all_nil, Bool.and_true, Bool.true_and, Bool.not_true, Bool.not_false, and_true, true_and, if_true, if_false, Bool.false_eq_true, decide_true, decide_false, reduceIte]
        have e1 : (((1 + y).toNat : Nat) : Int) = 1 + y := Int.toNat_of_nonneg (by omega)
        have z := q ⟨true, low, if low + more < high then low + more else high, (1 + y).toNat⟩ (b + 1 + 1 + 1 + 1) ⟨⟨⟨by omega, by show low ≤ 30; omega⟩, by
          show (if true = true then _ else _)
          rw [if_pos rfl]
          show low ≤ (if low + more < high then low + more else high) ∧ (if low + more < high then low + more else high) ≤ 30
          split <;> omega, by show 1 ≤ (1 + y).toNat ∧ (1 + y).toNat ≤ 4; omega⟩, by show low ≤ 8; omega, by show (if low + more < high then low + more else high) ≤ 9; split <;> omega⟩ (by omega)
        unfold House.enc House.rule at z
        rw [e1] at z
        exact z
      · have hr2 : decide (r = 0) = false := decide_eq_false hr
        simp only [sSeq, sNil, sAsg, sRet, sIf, sSet, sExpr, sFrz, sMove, sApp, sExt, sPar, eOp, eUn, eVar, eC, eIf, eAnd, eOr, eChain, tVal, uAnd, uOr, uNot, uTrue, eTup, eLst, eBi, eSl, partR, eIsi, eCall, eCallL, aCons, aNil, allD, dTup, dCons, dName, dNil, dSub, rho0, endD, lft, frz, stor, storAll, setAll, rtD, vIx, seqR, vII, vIC, vAdd, vSub, vMul, vFdiv, vMod, vPow, vLt, vLe, vGt, vGe, vEqS, vNeS, vIsN, vNotN, vNot, vNeg, isNo, vMin2, vMax2, vAbs, vInt1, vLen, vTuple, vList, vSum, isTy, vNotInK, vLenK, sKset, eDict1, datR, vEqD, vNeD, vCatT, vCatL, iSeq, iTupW, iRg1, iRg2, sFor, noL, noL1, lend, scalD, R.held, R.fresh, List.map_cons, List.map_nil, List.length_cons, List.length_nil, List.cons_append, List.nil_append, List.getElem?_cons_zero, List.getElem?_cons_succ, List.set_cons_zero, List.set_cons_succ, List.replicate_succ, List.replicate_zero, Nat.zero_add, Nat.reduceAdd, Nat.reduceSub, Nat.reduceLT, Option.join_some, Option.join_none, Option.bind_some, Option.map_some, List.all_cons, List.all_nil, Bool.and_true, Bool.true_and, Bool.not_true, Bool.not_false, and_true, true_and, if_true, if_false, Bool.false_eq_true, decide_true, decide_false, reduceIte, hr2]
        refine ⟨late, by omega, by omega, by omega, rfl, fun y y1 y2 => ?_⟩
        simp only [sSeq, sNil, sAsg, sRet, sIf, sSet, sExpr, sFrz, sMove, sApp, sExt, sPar, eOp, eUn, eVar, eC, eIf, eAnd, eOr, eChain, tVal, uAnd, uOr, uNot, uTrue, eTup, eLst, eBi, eSl, partR, eIsi, eCall, eCallL, aCons, aNil, allD, dTup, dCons, dName, dNil, dSub, rho0, endD, lft, frz, stor, storAll, setAll, rtD, vIx, seqR, vII, vIC, vAdd, vSub, vMul, vFdiv, vMod, vPow, vLt, vLe, vGt, vGe, vEqS, vNeS, vIsN, vNotN, vNot, vNeg, isNo, vMin2, vMax2, vAbs, vInt1, vLen, vTuple, vList, vSum, isTy, vNotInK, vLenK, sKset, eDict1, datR, vEqD, vNeD, vCatT, vCatL, iSeq, iTupW, iRg1, iRg2, sFor, noL, noL1, lend, scalD, R.held, R.fresh, List.map_cons, List.map_nil, List.length_cons, List.length_nil, List.cons_append, List.nil_append, List.getElem?_cons_zero, List.getElem?_cons_succ, List.set_cons_zero, List.set_cons_succ, List.replicate_succ, List.replicate_zero, Nat.zero_add, Nat.reduceAdd, Nat.reduceSub, Nat.reduceLT, Option.join_some, Option.join_none, Option.bind_some, Option.map_some, List.all_cons, List.all_nil, Bool.and_true, Bool.true_and, Bool.not_true, Bool.not_false, and_true, true_and, if_true, if_false, Bool.false_eq_true, decide_true, decide_false, reduceIte]
        have e1 : (((1 + y).toNat : Nat) : Int) = 1 + y := Int.toNat_of_nonneg (by omega)
        have z := q ⟨false, low, 1 + more, (1 + y).toNat⟩ (b + 1 + 1 + 1 + 1) ⟨⟨⟨by omega, by show low ≤ 30; omega⟩, by
          show (if false = true then _ else _)
          rw [if_neg Bool.false_ne_true]
          show 1 ≤ 1 + more ∧ 1 + more ≤ 10
          omega, by show 1 ≤ (1 + y).toNat ∧ (1 + y).toNat ≤ 4; omega⟩, by show low ≤ 8; omega, by show 1 + more ≤ 9; omega⟩ (by omega)
        unfold House.enc House.rule at z
        rw [e1] at z
        exact z)
structure Chain.Sm (c : Chain) : Prop where
  some : 1 ≤ c.houses.length ∧ c.houses.length ≤ 2
  each : ∀ h ∈ c.houses, h.Sm
  wait : 0 ≤ c.wait ∧ c.wait ≤ 9
theorem Chain.Sm.ok {c : Chain} (h : c.Sm) : c.Ok := ⟨⟨h.some.1, by have := h.some.2; omega⟩, fun x hx => (h.each x hx).ok, h.wait⟩
theorem wait_ix {r : Int} (h1 : 0 ≤ r) (h2 : r < 4) : ∃ z : Int, 0 ≤ z ∧ z ≤ 9 ∧ atI [PyData.int 0, .int 1, .int 2, .int 9] r = some (.int z) := by
  have : r = 0 ∨ r = 1 ∨ r = 2 ∨ r = 3 := by omega
  rcases this with rfl | rfl | rfl | rfl
  · exact ⟨0, by decide, by decide, rfl⟩
  · exact ⟨1, by decide, by decide, rfl⟩
  · exact ⟨2, by decide, by decide, rfl⟩
  · exact ⟨9, by decide, by decide, rfl⟩
def pt_q_chain : FW := fun rs b Q => ∃ (high late : Int), 1 ≤ high ∧ high ≤ 6 ∧ 1 ≤ late ∧ late ≤ 4 ∧ b ≤ 800000 ∧ rs = [.m, .d (.int 1), .d (.int high), .d (.int late)] ∧ ∀ (c : Chain) b', c.Sm → b' ≤ b + 6 → Q c.enc b'
theorem mono_q_chain : FMono pt_q_chain := fun rs b Q Q' hh ⟨l, l2, h1, h2, h3, h4, h5, e, q⟩ => ⟨l, l2, h1, h2, h3, h4, h5, e, fun r b' a1 a2 => hh _ _ (q r b' a1 a2)⟩
abbrev s_q_chain : Stmt := topS 49
theorem sc_q_chain : FnScope ["_law_m", "_law_many", "_law_high", "_law_late", "_law_some", "_law_k"] ["_law_m", "_law_many", "_law_high", "_law_late"] (defScope s_q_chain) := ⟨rfl, rfl, rfl, by decide +kernel, rfl, by decide +kernel, by decide +kernel⟩
theorem ok_q_chain {f : Addr} {fd : FuncData} (F : Fun K "_law_chain" "_law_chain" s_q_chain f fd) (hm : mg "_law_chain" = some (.ref f)) (hb : Binds K fd ["_law_m", "_law_many", "_law_high", "_law_late"] []) (nb : Nb mg) (kc : Kc mg) (C_q_draw : Can P w K mg base 2 "_law_draw" ["_law_m", "_law_limit"] pt_q_draw) (C_q_house : Can P w K mg base 3 "_law_house" ["_law_m", "_law_high", "_law_late"] pt_q_house) :
    Can P w K mg base 4 "_law_chain" ["_law_m", "_law_many", "_law_high", "_law_late"] pt_q_chain := by
  exact fn_data F sc_q_chain hm hb mono_q_chain (fun md G cdv A outer s H E hr =>
    (pdb_cons (pds_setLc (i := 4) (own := [("_law_k", 5)]) (g := .inl 5) rfl sc_q_chain.nd rfl rfl (sw_true rfl rfl rfl (by decide +kernel)) (pdi_range1 (by rfl) nb.range (pda_cons (pd_add pd_int (pd_call C_q_draw (hr.mono (by decide)) (by rfl) (pda_cons (pv_ 0) (pda_cons (pv_ 1) pda_nil)))) pda_nil)) (blkOk_by (own := [("_law_k", 5)]) (N := ["_law_m", "_law_many", "_law_high", "_law_late", "_law_some", "_law_k"]) (sc := defScope s_q_chain) (by decide +kernel)) (fun _ _ _ _ _ => pg_name (i := 5) sc_q_chain.nd rfl (Or.inl rfl)) (fun _ _ _ _ _ => (pd_call C_q_house (hr.mono (by decide)) (by rfl) (pda_cons (pv_ 0) (pda_cons (pv_ 2) (pda_cons (pv_ 3) pda_nil))))))
      (pdb_one (pds_ret (pd_tup (pda_cons (pd_tuple (by rfl) nb.tuple (pda_cons (pv_ 4) pda_nil)) (pda_cons (pd_ix (pd_lst (pda_cons pd_int (pda_cons pd_int (pda_cons pd_int (pda_cons pd_int pda_nil))))) (pd_call C_q_draw (hr.mono (by decide)) (by rfl) (pda_cons (pv_ 0) (pda_cons pd_int pda_nil)))) pda_nil)))))))
    (by
      rintro rs b Q hl ⟨high, late, h1, h2, h3, h4, h5, rfl, q⟩
      simp only [sSeq, sNil, sAsg, sRet, sIf, sSet, sExpr, sFrz, sMove, sApp, sExt, sPar, eOp, eUn, eVar, eC, eIf, eAnd, eOr, eChain, tVal, uAnd, uOr, uNot, uTrue, eTup, eLst, eBi, eSl, partR, eIsi, eCall, eCallL, aCons, aNil, allD, dTup, dCons, dName, dNil, dSub, rho0, endD, lft, frz, stor, storAll, setAll, rtD, vIx, seqR, vII, vIC, vAdd, vSub, vMul, vFdiv, vMod, vPow, vLt, vLe, vGt, vGe, vEqS, vNeS, vIsN, vNotN, vNot, vNeg, isNo, vMin2, vMax2, vAbs, vInt1, vLen, vTuple, vList, vSum, isTy, vNotInK, vLenK, sKset, eDict1, datR, vEqD, vNeD, vCatT, vCatL, iSeq, iTupW, iRg1, iRg2, sFor, noL, noL1, lend, scalD, R.held, R.fresh, List.map_cons, List.map_nil, List.length_cons, List.length_nil, List.cons_append, List.nil_append, List.getElem?_cons_zero, List.getElem?_cons_succ, List.set_cons_zero, List.set_cons_succ, List.replicate_succ, List.replicate_zero, Nat.zero_add, Nat.reduceAdd, Nat.reduceSub, Nat.reduceLT, Option.join_some, Option.join_none, Option.bind_some, Option.map_some, List.all_cons, List.all_nil, Bool.and_true, Bool.true_and, Bool.not_true, Bool.not_false, and_true, true_and, if_true, if_false, Bool.false_eq_true, decide_true, decide_false, reduceIte, eComp]
      refine ⟨1, by omega, by omega, by omega, rfl, fun r r1 r2 => ?_⟩
      have hr : r = 0 := by omega
      subst hr
      simp only [sSeq, sNil, sAsg, sRet, sIf, sSet, sExpr, sFrz, sMove, sApp, sExt, sPar, eOp, eUn, eVar, eC, eIf, eAnd, eOr, eChain, tVal, uAnd, uOr, uNot, uTrue, eTup, eLst, eBi, eSl, partR, eIsi, eCall, eCallL, aCons, aNil, allD, dTup, dCons, dName, dNil, dSub, rho0, endD, lft, frz, stor, storAll, setAll, rtD, vIx, seqR, vII, vIC, vAdd, vSub, vMul, vFdiv, vMod, vPow, vLt, vLe, vGt, vGe, vEqS, vNeS, vIsN, vNotN, vNot, vNeg, isNo, vMin2, vMax2, vAbs, vInt1, vLen, vTuple, vList, vSum, isTy, vNotInK, vLenK, sKset, eDict1, datR, vEqD, vNeD, vCatT, vCatL, iSeq, iTupW, iRg1, iRg2, sFor, noL, noL1, lend, scalD, R.held, R.fresh, List.map_cons, List.map_nil, List.length_cons, List.length_nil, List.cons_append, List.nil_append, List.getElem?_cons_zero, List.getElem?_cons_succ, List.set_cons_zero, List.set_cons_succ, List.replicate_succ, List.replicate_zero, Nat.zero_add, Nat.reduceAdd, Nat.reduceSub, Nat.reduceLT, Option.join_some, Option.join_none, Option.bind_some, Option.map_some, List.all_cons, List.all_nil, Bool.and_true, Bool.true_and, Bool.not_true, Bool.not_false, and_true, true_and, if_true, if_false, Bool.false_eq_true, decide_true, decide_false, reduceIte]
      refine ⟨by decide, ?_⟩
      rw [show rangeD 0 (1 + 0) = [PyData.int 0] from rfl]
      simp only [sSeq, sNil, sAsg, sRet, sIf, sSet, sExpr, sFrz, sMove, sApp, sExt, sPar, eOp, eUn, eVar, eC, eIf, eAnd, eOr, eChain, tVal, uAnd, uOr, uNot, uTrue, eTup, eLst, eBi, eSl, partR, eIsi, eCall, eCallL, aCons, aNil, allD, dTup, dCons, dName, dNil, dSub, rho0, endD, lft, frz, stor, storAll, setAll, rtD, vIx, seqR, vII, vIC, vAdd, vSub, vMul, vFdiv, vMod, vPow, vLt, vLe, vGt, vGe, vEqS, vNeS, vIsN, vNotN, vNot, vNeg, isNo, vMin2, vMax2, vAbs, vInt1, vLen, vTuple, vList, vSum, isTy, vNotInK, vLenK, sKset, eDict1, datR, vEqD, vNeD, vCatT, vCatL, iSeq, iTupW, iRg1, iRg2, sFor, noL, noL1, lend, scalD, R.held, R.fresh, List.map_cons, List.map_nil, List.length_cons, List.length_nil, List.cons_append, List.nil_append, List.getElem?_cons_zero, List.getElem?_cons_succ, List.set_cons_zero, List.set_cons_succ, List.replicate_succ, List.replicate_zero, Nat.zero_add, Nat.reduceAdd, Nat.reduceSub, Nat.reduceLT, Option.join_some, Option.join_none, Option.bind_some, Option.map_some, List.all_cons, List.all_nil, Bool.and_true, Bool.true_and, Bool.not_true, Bool.not_false, and_true, true_and, if_true, if_false, Bool.false_eq_true, decide_true, decide_false, reduceIte, cmpD, tgD, wipeR]
      refine ⟨high, late, h1, h2, h3, h4, by omega, rfl, fun h b' hs hb' => ?_⟩
      simp only [sSeq, sNil, sAsg, sRet, sIf, sSet, sExpr, sFrz, sMove, sApp, sExt, sPar, eOp, eUn, eVar, eC, eIf, eAnd, eOr, eChain, tVal, uAnd, uOr, uNot, uTrue, eTup, eLst, eBi, eSl, partR, eIsi, eCall, eCallL, aCons, aNil, allD, dTup, dCons, dName, dNil, dSub, rho0, endD, lft, frz, stor, storAll, setAll, rtD, vIx, seqR, vII, vIC, vAdd, vSub, vMul, vFdiv, vMod, vPow, vLt, vLe, vGt, vGe, vEqS, vNeS, vIsN, vNotN, vNot, vNeg, isNo, vMin2, vMax2, vAbs, vInt1, vLen, vTuple, vList, vSum, isTy, vNotInK, vLenK, sKset, eDict1, datR, vEqD, vNeD, vCatT, vCatL, iSeq, iTupW, iRg1, iRg2, sFor, noL, noL1, lend, scalD, R.held, R.fresh, List.map_cons, List.map_nil, List.length_cons, List.length_nil, List.cons_append, List.nil_append, List.getElem?_cons_zero, List.getElem?_cons_succ, List.set_cons_zero, List.set_cons_succ, List.replicate_succ, List.replicate_zero, Nat.zero_add, Nat.reduceAdd, Nat.reduceSub, Nat.reduceLT, Option.join_some, Option.join_none, Option.bind_some, Option.map_some, List.all_cons, List.all_nil, Bool.and_true, Bool.true_and, Bool.not_true, Bool.not_false, and_true, true_and, if_true, if_false, Bool.false_eq_true, decide_true, decide_false, reduceIte]
      refine ⟨by decide, ?_⟩
      refine ⟨4, by omega, by omega, by omega, rfl, fun r r1 r2 => ?_⟩
      obtain ⟨z, z1, z2, e⟩ := wait_ix r1 r2
      simp only [sSeq, sNil, sAsg, sRet, sIf, sSet, sExpr, sFrz, sMove, sApp, sExt, sPar, eOp, eUn, eVar, eC, eIf, eAnd, eOr, eChain, tVal, uAnd, uOr, uNot, uTrue, eTup, eLst, eBi, eSl, partR, eIsi, eCall, eCallL, aCons, aNil, allD, dTup, dCons, dName, dNil, dSub, rho0, endD, lft, frz, stor, storAll, setAll, rtD, vIx, seqR, vII, vIC, vAdd, vSub, vMul, vFdiv, vMod, vPow, vLt, vLe, vGt, vGe, vEqS, vNeS, vIsN, vNotN, vNot, vNeg, isNo, vMin2, vMax2, vAbs, vInt1, vLen, vTuple, vList, vSum, isTy, vNotInK, vLenK, sKset, eDict1, datR, vEqD, vNeD, vCatT, vCatL, iSeq, iTupW, iRg1, iRg2, sFor, noL, noL1, lend, scalD, R.held, R.fresh, List.map_cons, List.map_nil, List.length_cons, List.length_nil, List.cons_append, List.nil_append, List.getElem?_cons_zero, List.getElem?_cons_succ, List.set_cons_zero, List.set_cons_succ, List.replicate_succ, List.replicate_zero, Nat.zero_add, Nat.reduceAdd, Nat.reduceSub, Nat.reduceLT, Option.join_some, Option.join_none, Option.bind_some, Option.map_some, List.all_cons, List.all_nil, Bool.and_true, Bool.true_and, Bool.not_true, Bool.not_false, and_true, true_and, if_true, if_false, Bool.false_eq_true, decide_true, decide_false, reduceIte, e]
      exact q ⟨[h], z⟩ _ ⟨⟨Nat.le_refl _, by show 1 ≤ 2; omega⟩, fun x hx => by
        have : x = h := by simpa using hx
        rw [this]; exact hs, z1, z2⟩ (by omega))
def pt_q_band : FW := fun rs b Q => ∃ (more : Int), 1 ≤ more ∧ more ≤ 4 ∧ b ≤ 900000 ∧ rs = [.m, .d (.int more)] ∧ ∀ (t : Band) b', t.Ok → t.most ≤ 4 → b' ≤ b + 3 → Q t.enc b'
theorem mono_q_band : FMono pt_q_band := fun rs b Q Q' hh ⟨l, h1, h2, h3, e, q⟩ => ⟨l, h1, h2, h3, e, fun r b' a1 a2 a3 => hh _ _ (q r b' a1 a2 a3)⟩
theorem low_ix {r : Int} (h1 : 0 ≤ r) (h2 : r < 3) : ∃ z : Int, 0 ≤ z ∧ z ≤ 1 ∧ atI [PyData.int 0, .int 0, .int 1] r = some (.int z) := by
  have : r = 0 ∨ r = 1 ∨ r = 2 := by omega
  rcases this with rfl | rfl | rfl
  · exact ⟨0, by decide, by decide, rfl⟩
  · exact ⟨0, by decide, by decide, rfl⟩
  · exact ⟨1, by decide, by decide, rfl⟩
theorem turn_ix {r : Int} (h1 : 0 ≤ r) (h2 : r < 5) : ∃ z : Option Int, (∀ t, z = some t → 0 ≤ t ∧ t ≤ 9) ∧ atI [PyData.none, .none, .int 1, .int 0, .int 2] r = some (encO z) := by
  have : r = 0 ∨ r = 1 ∨ r = 2 ∨ r = 3 ∨ r = 4 := by omega
  rcases this with rfl | rfl | rfl | rfl | rfl
  · exact ⟨none, fun t h => (nomatch h), rfl⟩
  · exact ⟨none, fun t h => (nomatch h), rfl⟩
  · exact ⟨some 1, fun t h => by cases h; decide, rfl⟩
  · exact ⟨some 0, fun t h => by cases h; decide, rfl⟩
  · exact ⟨some 2, fun t h => by cases h; decide, rfl⟩
abbrev s_q_band : Stmt := topS 50
theorem sc_q_band : FnScope ["_law_m", "_law_more", "_law_low"] ["_law_m", "_law_more"] (defScope s_q_band) := ⟨rfl, rfl, rfl, by decide +kernel, rfl, by decide +kernel, by decide +kernel⟩
theorem ok_q_band {f : Addr} {fd : FuncData} (F : Fun K "_law_band" "_law_band" s_q_band f fd) (hm : mg "_law_band" = some (.ref f)) (hb : Binds K fd ["_law_m", "_law_more"] []) (nb : Nb mg) (kc : Kc mg) (C_q_draw : Can P w K mg base 2 "_law_draw" ["_law_m", "_law_limit"] pt_q_draw) :
    Can P w K mg base 3 "_law_band" ["_law_m", "_law_more"] pt_q_band := by
  exact fn_data F sc_q_band hm hb mono_q_band (fun md G cdv A outer s H E hr =>
    (pdb_cons (pds_set (i := 2) sc_q_band.nd rfl (by first | exact .inl rfl | exact .inr rfl) (pd_ix (pd_lst (pda_cons pd_int (pda_cons pd_int (pda_cons pd_int pda_nil)))) (pd_call C_q_draw (hr.mono (by decide)) (by rfl) (pda_cons (pv_ 0) (pda_cons pd_int pda_nil)))))
      (pdb_one (pds_ret (pd_tup (pda_cons (pv_ 2) (pda_cons (pd_add (pv_ 2) (pd_call C_q_draw (hr.mono (by decide)) (by rfl) (pda_cons (pv_ 0) (pda_cons (pv_ 1) pda_nil)))) (pda_cons (pd_ix (pd_lst (pda_cons pd_non (pda_cons pd_non (pda_cons pd_int (pda_cons pd_int (pda_cons pd_int pda_nil)))))) (pd_call C_q_draw (hr.mono (by decide)) (by rfl) (pda_cons (pv_ 0) (pda_cons pd_int pda_nil)))) pda_nil))))))))
    (by
      rintro rs b Q hl ⟨more, h1, h2, h3, rfl, q⟩
      simp only [sSeq, sSet, eOp, eCall, eLst, aCons, aNil, eC, eVar]
      simp only [rho0, List.map_cons, List.map_nil, List.length_cons, List.length_nil, Nat.zero_add, Nat.reduceAdd, Nat.reduceSub, List.replicate_succ, List.replicate_zero, List.cons_append, List.nil_append]
      simp only [allD, Option.map_some, lft]
      simp only [List.getElem?_cons_zero, List.getElem?_cons_succ, Option.join_some, List.set_cons_zero, List.set_cons_succ]
      simp only [R.held, noL, noL1, List.all_cons, List.all_nil, Bool.and_true, true_and]
      simp only [sRet, eTup, eOp, eCall, aCons, aNil, eC, eVar, eLst]
      
      simp only [allD, Option.map_some, lft]
      simp only [vAdd, vII, List.getElem?_cons_zero, List.getElem?_cons_succ, Option.join_some, List.set_cons_zero, List.set_cons_succ]
      simp only [R.held, noL, noL1, List.all_cons, List.all_nil, Bool.and_true, true_and]
      simp only [endD, rtD]
      refine ⟨3, by omega, by omega, by omega, rfl, fun r r1 r2 => ?_⟩
      obtain ⟨low, l1, l2, e⟩ := low_ix r1 r2
      simp only [vIx_o, e, Option.map_some, stor_d]
      refine ⟨more, by omega, by omega, by omega, rfl, fun y y1 y2 => ?_⟩
      simp only []
      refine ⟨5, by omega, by omega, by omega, rfl, fun u u1 u2 => ?_⟩
      obtain ⟨tt, t1, e⟩ := turn_ix u1 u2
      simp only [vIx_o, e, Option.map_some]
      exact q ⟨low, low + y, tt⟩ _ ⟨⟨l1, by show low ≤ 9; omega⟩, ⟨by show low ≤ low + y; omega, by show low + y ≤ 9; omega⟩, t1⟩ (by show low + y ≤ 4; omega) (by omega))
def pt_q_small : FW := fun rs b Q => b ≤ 700000 ∧ rs = [.m] ∧ ∀ (c : Chain) (t : Band) b', c.Sm → t.Ok → b' ≤ b + 13 → Q (.tuple [c.enc, t.enc]) b'
theorem mono_q_small : FMono pt_q_small := fun rs b Q Q' hh ⟨h3, e, q⟩ => ⟨h3, e, fun r t b' a1 a2 a3 => hh _ _ (q r t b' a1 a2 a3)⟩
abbrev s_q_small : Stmt := topS 51
theorem sc_q_small : FnScope ["_law_m", "_law_some"] ["_law_m"] (defScope s_q_small) := ⟨rfl, rfl, rfl, by decide +kernel, rfl, by decide +kernel, by decide +kernel⟩
theorem ok_q_small {f : Addr} {fd : FuncData} (F : Fun K "_law_small" "_law_small" s_q_small f fd) (hm : mg "_law_small" = some (.ref f)) (hb : Binds K fd ["_law_m"] []) (nb : Nb mg) (kc : Kc mg) (C_q_band : Can P w K mg base 3 "_law_band" ["_law_m", "_law_more"] pt_q_band) (C_q_draw : Can P w K mg base 2 "_law_draw" ["_law_m", "_law_limit"] pt_q_draw) (C_q_house : Can P w K mg base 3 "_law_house" ["_law_m", "_law_high", "_law_late"] pt_q_house) (C_q_chain : Can P w K mg base 4 "_law_chain" ["_law_m", "_law_many", "_law_high", "_law_late"] pt_q_chain) :
    Can P w K mg base 5 "_law_small" ["_law_m"] pt_q_small := by
  exact fn_data F sc_q_small hm hb mono_q_small (fun md G cdv A outer s H E hr =>
    (pdb_cons (pds_if (pdt_eqS (pd_call C_q_draw (hr.mono (by decide)) (by rfl) (pda_cons (pv_ 0) (pda_cons pd_int pda_nil))) pd_int) (pdb_one (pds_ret (pd_tup (pda_cons (pd_call C_q_chain (hr.mono (by decide)) (by rfl) (pda_cons (pv_ 0) (pda_cons pd_int (pda_cons pd_int (pda_cons pd_int pda_nil))))) (pda_cons (pd_call C_q_band (hr.mono (by decide)) (by rfl) (pda_cons (pv_ 0) (pda_cons pd_int pda_nil))) pda_nil))))) pdb_nil)
      (pdb_cons (pds_set (i := 1) sc_q_small.nd rfl (by first | exact .inl rfl | exact .inr rfl) (pd_tup (pda_cons (pd_call C_q_house (hr.mono (by decide)) (by rfl) (pda_cons (pv_ 0) (pda_cons pd_int (pda_cons pd_int pda_nil)))) (pda_cons (pd_call C_q_house (hr.mono (by decide)) (by rfl) (pda_cons (pv_ 0) (pda_cons pd_int (pda_cons pd_int pda_nil)))) pda_nil))))
      (pdb_one (pds_ret (pd_tup (pda_cons (pd_tup (pda_cons (pv_ 1) (pda_cons (pd_ix (pd_lst (pda_cons pd_int (pda_cons pd_int (pda_cons pd_int (pda_cons pd_int pda_nil))))) (pd_call C_q_draw (hr.mono (by decide)) (by rfl) (pda_cons (pv_ 0) (pda_cons pd_int pda_nil)))) pda_nil))) (pda_cons (pd_call C_q_band (hr.mono (by decide)) (by rfl) (pda_cons (pv_ 0) (pda_cons pd_int pda_nil))) pda_nil))))))))
    (by
      rintro rs b Q hl ⟨h1, rfl, q⟩
      simp only [sSeq, sNil, sAsg, sRet, sIf, sSet, sExpr, sFrz, sMove, sApp, sExt, sPar, eOp, eUn, eVar, eC, eIf, eAnd, eOr, eChain, tVal, uAnd, uOr, uNot, uTrue, eTup, eLst, eBi, eSl, partR, eIsi, eCall, eCallL, aCons, aNil, allD, dTup, dCons, dName, dNil, dSub, rho0, endD, lft, frz, stor, storAll, setAll, rtD, vIx, seqR, vII, vIC, vAdd, vSub, vMul, vFdiv, vMod, vPow, vLt, vLe, vGt, vGe, vEqS, vNeS, vIsN, vNotN, vNot, vNeg, isNo, vMin2, vMax2, vAbs, vInt1, vLen, vTuple, vList, vSum, isTy, vNotInK, vLenK, sKset, eDict1, datR, vEqD, vNeD, vCatT, vCatL, iSeq, iTupW, iRg1, iRg2, sFor, noL, noL1, lend, scalD, R.held, R.fresh, List.map_cons, List.map_nil, List.length_cons, List.length_nil, List.cons_append, List.nil_append, List.getElem?_cons_zero, List.getElem?_cons_succ, List.set_cons_zero, List.set_cons_succ, List.replicate_succ, List.replicate_zero, Nat.zero_add, Nat.reduceAdd, Nat.reduceSub, Nat.reduceLT, Option.join_some, Option.join_none, Option.bind_some, Option.map_some, List.all_cons, List.all_nil, Bool.and_true, Bool.true_and, Bool.not_true, Bool.not_false, and_true, true_and, if_true, if_false, Bool.false_eq_true, decide_true, decide_false, reduceIte]
      refine ⟨2, by omega, by omega, by omega, rfl, fun r r1 r2 => ?_⟩
      simp only [sSeq, sNil, sAsg, sRet, sIf, sSet, sExpr, sFrz, sMove, sApp, sExt, sPar, eOp, eUn, eVar, eC, eIf, eAnd, eOr, eChain, tVal, uAnd, uOr, uNot, uTrue, eTup, eLst, eBi, eSl, partR, eIsi, eCall, eCallL, aCons, aNil, allD, dTup, dCons, dName, dNil, dSub, rho0, endD, lft, frz, stor, storAll, setAll, rtD, vIx, seqR, vII, vIC, vAdd, vSub, vMul, vFdiv, vMod, vPow, vLt, vLe, vGt, vGe, vEqS, vNeS, vIsN, vNotN, vNot, vNeg, isNo, vMin2, vMax2, vAbs, vInt1, vLen, vTuple, vList, vSum, isTy, vNotInK, vLenK, sKset, eDict1, datR, vEqD, vNeD, vCatT, vCatL, iSeq, iTupW, iRg1, iRg2, sFor, noL, noL1, lend, scalD, R.held, R.fresh, List.map_cons, List.map_nil, List.length_cons, List.length_nil, List.cons_append, List.nil_append, List.getElem?_cons_zero, List.getElem?_cons_succ, List.set_cons_zero, List.set_cons_succ, List.replicate_succ, List.replicate_zero, Nat.zero_add, Nat.reduceAdd, Nat.reduceSub, Nat.reduceLT, Option.join_some, Option.join_none, Option.bind_some, Option.map_some, List.all_cons, List.all_nil, Bool.and_true, Bool.true_and, Bool.not_true, Bool.not_false, and_true, true_and, if_true, if_false, Bool.false_eq_true, decide_true, decide_false, reduceIte]
      by_cases hr : r = 0
      · subst hr
        simp only [sSeq, sNil, sAsg, sRet, sIf, sSet, sExpr, sFrz, sMove, sApp, sExt, sPar, eOp, eUn, eVar, eC, eIf, eAnd, eOr, eChain, tVal, uAnd, uOr, uNot, uTrue, eTup, eLst, eBi, eSl, partR, eIsi, eCall, eCallL, aCons, aNil, allD, dTup, dCons, dName, dNil, dSub, rho0, endD, lft, frz, stor, storAll, setAll, rtD, vIx, seqR, vII, vIC, vAdd, vSub, vMul, vFdiv, vMod, vPow, vLt, vLe, vGt, vGe, vEqS, vNeS, vIsN, vNotN, vNot, vNeg, isNo, vMin2, vMax2, vAbs, vInt1, vLen, vTuple, vList, vSum, isTy, vNotInK, vLenK, sKset, eDict1, datR, vEqD, vNeD, vCatT, vCatL, iSeq, iTupW, iRg1, iRg2, sFor, noL, noL1, lend, scalD, R.held, R.fresh, List.map_cons, List.map_nil, List.length_cons, List.length_nil, List.cons_append, List.nil_append, List.getElem?_cons_zero, List.getElem?_cons_succ, List.set_cons_zero, List.set_cons_succ, List.replicate_succ, List.replicate_zero, Nat.zero_add, Nat.reduceAdd, Nat.reduceSub, Nat.reduceLT, Option.join_some, Option.join_none, Option.bind_some, Option.map_some, List.all_cons, List.all_nil, Bool.and_true, Bool.true_and, Bool.not_true, Bool.not_false, and_true, true_and, if_true, if_false, Bool.false_eq_true, decide_true, decide_false, reduceIte]
        refine ⟨6, 3, by omega, by omega, by omega, by omega, by omega, rfl, fun c b' hc hb' => ?_⟩
        simp only [sSeq, sNil, sAsg, sRet, sIf, sSet, sExpr, sFrz, sMove, sApp, sExt, sPar, eOp, eUn, eVar, eC, eIf, eAnd, eOr, eChain, tVal, uAnd, uOr, uNot, uTrue, eTup, eLst, eBi, eSl, partR, eIsi, eCall, eCallL, aCons, aNil, allD, dTup, dCons, dName, dNil, dSub, rho0, endD, lft, frz, stor, storAll, setAll, rtD, vIx, seqR, vII, vIC, vAdd, vSub, vMul, vFdiv, vMod, vPow, vLt, vLe, vGt, vGe, vEqS, vNeS, vIsN, vNotN, vNot, vNeg, isNo, vMin2, vMax2, vAbs, vInt1, vLen, vTuple, vList, vSum, isTy, vNotInK, vLenK, sKset, eDict1, datR, vEqD, vNeD, vCatT, vCatL, iSeq, iTupW, iRg1, iRg2, sFor, noL, noL1, lend, scalD, R.held, R.fresh, List.map_cons, List.map_nil, List.length_cons, List.length_nil, List.cons_append, List.nil_append, List.getElem?_cons_zero, List.getElem?_cons_succ, List.set_cons_zero, List.set_cons_succ, List.replicate_succ, List.replicate_zero, Nat.zero_add, Nat.reduceAdd, Nat.reduceSub, Nat.reduceLT, Option.join_some, Option.join_none, Option.bind_some, Option.map_some, List.all_cons, List.all_nil, Bool.and_true, Bool.true_and, Bool.not_true, Bool.not_false, and_true, true_and, if_true, if_false, Bool.false_eq_true, decide_true, decide_false, reduceIte]
        refine ⟨4, by omega, by omega, by omega, rfl, fun t b2 ht htm hb2 => ?_⟩
        simp only [sSeq, sNil, sAsg, sRet, sIf, sSet, sExpr, sFrz, sMove, sApp, sExt, sPar, eOp, eUn, eVar, eC, eIf, eAnd, eOr, eChain, tVal, uAnd, uOr, uNot, uTrue, eTup, eLst, eBi, eSl, partR, eIsi, eCall, eCallL, aCons, aNil, allD, dTup, dCons, dName, dNil, dSub, rho0, endD, lft, frz, stor, storAll, setAll, rtD, vIx, seqR, vII, vIC, vAdd, vSub, vMul, vFdiv, vMod, vPow, vLt, vLe, vGt, vGe, vEqS, vNeS, vIsN, vNotN, vNot, vNeg, isNo, vMin2, vMax2, vAbs, vInt1, vLen, vTuple, vList, vSum, isTy, vNotInK, vLenK, sKset, eDict1, datR, vEqD, vNeD, vCatT, vCatL, iSeq, iTupW, iRg1, iRg2, sFor, noL, noL1, lend, scalD, R.held, R.fresh, List.map_cons, List.map_nil, List.length_cons, List.length_nil, List.cons_append, List.nil_append, List.getElem?_cons_zero, List.getElem?_cons_succ, List.set_cons_zero, List.set_cons_succ, List.replicate_succ, List.replicate_zero, Nat.zero_add, Nat.reduceAdd, Nat.reduceSub, Nat.reduceLT, Option.join_some, Option.join_none, Option.bind_some, Option.map_some, List.all_cons, List.all_nil, Bool.and_true, Bool.true_and, Bool.not_true, Bool.not_false, and_true, true_and, if_true, if_false, Bool.false_eq_true, decide_true, decide_false, reduceIte]
        exact q c t b2 hc ht (by omega)
      · have hr2 : decide (r = 0) = false := decide_eq_false hr
        simp only [sSeq, sNil, sAsg, sRet, sIf, sSet, sExpr, sFrz, sMove, sApp, sExt, sPar, eOp, eUn, eVar, eC, eIf, eAnd, eOr, eChain, tVal, uAnd, uOr, uNot, uTrue, eTup, eLst, eBi, eSl, partR, eIsi, eCall, eCallL, aCons, aNil, allD, dTup, dCons, dName, dNil, dSub, rho0, endD, lft, frz, stor, storAll, setAll, rtD, vIx, seqR, vII, vIC, vAdd, vSub, vMul, vFdiv, vMod, vPow, vLt, vLe, vGt, vGe, vEqS, vNeS, vIsN, vNotN, vNot, vNeg, isNo, vMin2, vMax2, vAbs, vInt1, vLen, vTuple, vList, vSum, isTy, vNotInK, vLenK, sKset, eDict1, datR, vEqD, vNeD, vCatT, vCatL, iSeq, iTupW, iRg1, iRg2, sFor, noL, noL1, lend, scalD, R.held, R.fresh, List.map_cons, List.map_nil, List.length_cons, List.length_nil, List.cons_append, List.nil_append, List.getElem?_cons_zero, List.getElem?_cons_succ, List.set_cons_zero, List.set_cons_succ, List.replicate_succ, List.replicate_zero, Nat.zero_add, Nat.reduceAdd, Nat.reduceSub, Nat.reduceLT, Option.join_some, Option.join_none, Option.bind_some, Option.map_some, List.all_cons, List.all_nil, Bool.and_true, Bool.true_and, Bool.not_true, Bool.not_false, and_true, true_and, if_true, if_false, Bool.false_eq_true, decide_true, decide_false, reduceIte, hr2]
        refine ⟨3, 2, by omega, by omega, by omega, by omega, by omega, rfl, fun h b' hs hb' => ?_⟩
        simp only [sSeq, sNil, sAsg, sRet, sIf, sSet, sExpr, sFrz, sMove, sApp, sExt, sPar, eOp, eUn, eVar, eC, eIf, eAnd, eOr, eChain, tVal, uAnd, uOr, uNot, uTrue, eTup, eLst, eBi, eSl, partR, eIsi, eCall, eCallL, aCons, aNil, allD, dTup, dCons, dName, dNil, dSub, rho0, endD, lft, frz, stor, storAll, setAll, rtD, vIx, seqR, vII, vIC, vAdd, vSub, vMul, vFdiv, vMod, vPow, vLt, vLe, vGt, vGe, vEqS, vNeS, vIsN, vNotN, vNot, vNeg, isNo, vMin2, vMax2, vAbs, vInt1, vLen, vTuple, vList, vSum, isTy, vNotInK, vLenK, sKset, eDict1, datR, vEqD, vNeD, vCatT, vCatL, iSeq, iTupW, iRg1, iRg2, sFor, noL, noL1, lend, scalD, R.held, R.fresh, List.map_cons, List.map_nil, List.length_cons, List.length_nil, List.cons_append, List.nil_append, List.getElem?_cons_zero, List.getElem?_cons_succ, List.set_cons_zero, List.set_cons_succ, List.replicate_succ, List.replicate_zero, Nat.zero_add, Nat.reduceAdd, Nat.reduceSub, Nat.reduceLT, Option.join_some, Option.join_none, Option.bind_some, Option.map_some, List.all_cons, List.all_nil, Bool.and_true, Bool.true_and, Bool.not_true, Bool.not_false, and_true, true_and, if_true, if_false, Bool.false_eq_true, decide_true, decide_false, reduceIte]
        refine ⟨3, 1, by omega, by omega, by omega, by omega, by omega, rfl, fun h2 b2 hs2 hb2 => ?_⟩
        simp only [sSeq, sNil, sAsg, sRet, sIf, sSet, sExpr, sFrz, sMove, sApp, sExt, sPar, eOp, eUn, eVar, eC, eIf, eAnd, eOr, eChain, tVal, uAnd, uOr, uNot, uTrue, eTup, eLst, eBi, eSl, partR, eIsi, eCall, eCallL, aCons, aNil, allD, dTup, dCons, dName, dNil, dSub, rho0, endD, lft, frz, stor, storAll, setAll, rtD, vIx, seqR, vII, vIC, vAdd, vSub, vMul, vFdiv, vMod, vPow, vLt, vLe, vGt, vGe, vEqS, vNeS, vIsN, vNotN, vNot, vNeg, isNo, vMin2, vMax2, vAbs, vInt1, vLen, vTuple, vList, vSum, isTy, vNotInK, vLenK, sKset, eDict1, datR, vEqD, vNeD, vCatT, vCatL, iSeq, iTupW, iRg1, iRg2, sFor, noL, noL1, lend, scalD, R.held, R.fresh, List.map_cons, List.map_nil, List.length_cons, List.length_nil, List.cons_append, List.nil_append, List.getElem?_cons_zero, List.getElem?_cons_succ, List.set_cons_zero, List.set_cons_succ, List.replicate_succ, List.replicate_zero, Nat.zero_add, Nat.reduceAdd, Nat.reduceSub, Nat.reduceLT, Option.join_some, Option.join_none, Option.bind_some, Option.map_some, List.all_cons, List.all_nil, Bool.and_true, Bool.true_and, Bool.not_true, Bool.not_false, and_true, true_and, if_true, if_false, Bool.false_eq_true, decide_true, decide_false, reduceIte]
        refine ⟨4, by omega, by omega, by omega, rfl, fun r r1 r2 => ?_⟩
        obtain ⟨z, z1, z2, e⟩ := wait_ix r1 r2
        simp only [sSeq, sNil, sAsg, sRet, sIf, sSet, sExpr, sFrz, sMove, sApp, sExt, sPar, eOp, eUn, eVar, eC, eIf, eAnd, eOr, eChain, tVal, uAnd, uOr, uNot, uTrue, eTup, eLst, eBi, eSl, partR, eIsi, eCall, eCallL, aCons, aNil, allD, dTup, dCons, dName, dNil, dSub, rho0, endD, lft, frz, stor, storAll, setAll, rtD, vIx, seqR, vII, vIC, vAdd, vSub, vMul, vFdiv, vMod, vPow, vLt, vLe, vGt, vGe, vEqS, vNeS, vIsN, vNotN, vNot, vNeg, isNo, vMin2, vMax2, vAbs, vInt1, vLen, vTuple, vList, vSum, isTy, vNotInK, vLenK, sKset, eDict1, datR, vEqD, vNeD, vCatT, vCatL, iSeq, iTupW, iRg1, iRg2, sFor, noL, noL1, lend, scalD, R.held, R.fresh, List.map_cons, List.map_nil, List.length_cons, List.length_nil, List.cons_append, List.nil_append, List.getElem?_cons_zero, List.getElem?_cons_succ, List.set_cons_zero, List.set_cons_succ, List.replicate_succ, List.replicate_zero, Nat.zero_add, Nat.reduceAdd, Nat.reduceSub, Nat.reduceLT, Option.join_some, Option.join_none, Option.bind_some, Option.map_some, List.all_cons, List.all_nil, Bool.and_true, Bool.true_and, Bool.not_true, Bool.not_false, and_true, true_and, if_true, if_false, Bool.false_eq_true, decide_true, decide_false, reduceIte, e]
        refine ⟨3, by omega, by omega, by omega, rfl, fun t b3 ht htm hb3 => ?_⟩
        simp only [sSeq, sNil, sAsg, sRet, sIf, sSet, sExpr, sFrz, sMove, sApp, sExt, sPar, eOp, eUn, eVar, eC, eIf, eAnd, eOr, eChain, tVal, uAnd, uOr, uNot, uTrue, eTup, eLst, eBi, eSl, partR, eIsi, eCall, eCallL, aCons, aNil, allD, dTup, dCons, dName, dNil, dSub, rho0, endD, lft, frz, stor, storAll, setAll, rtD, vIx, seqR, vII, vIC, vAdd, vSub, vMul, vFdiv, vMod, vPow, vLt, vLe, vGt, vGe, vEqS, vNeS, vIsN, vNotN, vNot, vNeg, isNo, vMin2, vMax2, vAbs, vInt1, vLen, vTuple, vList, vSum, isTy, vNotInK, vLenK, sKset, eDict1, datR, vEqD, vNeD, vCatT, vCatL, iSeq, iTupW, iRg1, iRg2, sFor, noL, noL1, lend, scalD, R.held, R.fresh, List.map_cons, List.map_nil, List.length_cons, List.length_nil, List.cons_append, List.nil_append, List.getElem?_cons_zero, List.getElem?_cons_succ, List.set_cons_zero, List.set_cons_succ, List.replicate_succ, List.replicate_zero, Nat.zero_add, Nat.reduceAdd, Nat.reduceSub, Nat.reduceLT, Option.join_some, Option.join_none, Option.bind_some, Option.map_some, List.all_cons, List.all_nil, Bool.and_true, Bool.true_and, Bool.not_true, Bool.not_false, and_true, true_and, if_true, if_false, Bool.false_eq_true, decide_true, decide_false, reduceIte]
        exact q ⟨[h, h2], z⟩ t b3 ⟨⟨by show 1 ≤ 2; omega, Nat.le_refl _⟩, fun x hx => by
          rcases List.mem_cons.mp hx with rfl | hx
          · exact hs
          · have : x = h2 := by simpa using hx
            rw [this]; exact hs2, z1, z2⟩ ht (by omega))
end
end L2.U
/-! The data layer, part 14: lists of own lists. -/
namespace L2.U
open PySem PySem.Spec PyProof.Rows
section
variable {K : PySem.W.Frag} {G H G1 H1 : Hp}
theorem inner_get : ∀ {ls : List Addr} {xss : List (List PyData)} {j : Nat} {xs : List PyData}, Inner K G H ls xss → xss[j]? = some xs → ∃ l vs, ls[j]? = some l ∧ H l = some (.lst vs) ∧ DpAll K G vs xs
  | [], _, j, xs, h, e => by cases h; simp at e
  | l :: ls, _, 0, xs, h, e => by
    cases h with
    | cons h1 h2 h3 =>
      simp at e
      subst e
      exact ⟨l, _, rfl, h1, h2⟩
  | l :: ls, _, j + 1, xs, h, e => by
    cases h with
    | cons h1 h2 h3 =>
      obtain ⟨l', vs, q1, q2, q3⟩ := inner_get (j := j) h3 (by simpa using e)
      exact ⟨l', vs, by simpa using q1, q2, q3⟩
theorem inner_some : ∀ {ls : List Addr} {xss : List (List PyData)}, Inner K G H ls xss → ∀ l ∈ ls, H l ≠ none
  | [], _, h, l, hl => nomatch hl
  | l :: ls, _, h, l', hl => by
    cases h with
    | cons h1 h2 h3 =>
      rcases List.mem_cons.mp hl with rfl | hl
      · rw [h1]; exact fun z => nomatch z
      · exact inner_some h3 l' hl
theorem inner_snoc : ∀ {ls : List Addr} {xss : List (List PyData)} {l : Addr} {vs : List V} {xs : List PyData}, Inner K G H ls xss → H l = some (.lst vs) → DpAll K G vs xs → Inner K G H (ls ++ [l]) (xss ++ [xs])
  | [], _, l, vs, xs, h, e, k => by cases h; exact .cons e k .nil
  | l' :: ls, _, l, vs, xs, h, e, k => by
    cases h with
    | cons h1 h2 h3 => exact .cons h1 h2 (inner_snoc h3 e k)
theorem inner_put : ∀ {ls : List Addr} {xss : List (List PyData)} {j : Nat} {l : Addr} {vs : List V} {xs : List PyData}, Inner K G H ls xss → ls.Nodup → ls[j]? = some l → DpAll K G vs xs → Inner K G (upd H l (.lst vs)) ls (xss.set j xs)
  | [], _, j, l, vs, xs, h, n, e, k => by simp at e
  | l' :: ls, _, 0, l, vs, xs, h, n, e, k => by
    simp at e
    subst e
    cases h with
    | cons h1 h2 h3 =>
      refine .cons upd_same k (h3.go (.refl _) fun b hb o q => ?_)
      have : b ≠ l' := fun z => by rw [z] at hb; exact (List.nodup_cons.mp n).1 hb
      rw [upd_ne this]; exact q
  | l' :: ls, _, j + 1, l, vs, xs, h, n, e, k => by
    cases h with
    | cons h1 h2 h3 =>
      have e' : ls[j]? = some l := by simpa using e
      have hm : l ∈ ls := List.mem_of_getElem? e'
      have : l' ≠ l := fun z => by rw [z] at n; exact (List.nodup_cons.mp n).1 hm
      exact .cons (by rw [upd_ne this]; exact h1) h2 (inner_put h3 (List.nodup_cons.mp n).2 e' k)
end
theorem inj_mapV : ∀ {l m : List Addr}, l.map V.ref = m.map V.ref → l = m
  | [], [], _ => rfl
  | [], _ :: _, h => by cases h
  | _ :: _, [], h => by cases h
  | a :: l, b :: m, h => by
    rw [List.map_cons, List.map_cons] at h
    injection h with h1 h2
    injection h1 with h1
    rw [h1, inj_mapV h2]
section
variable {c : Ct} {X : Cx} {a b e e1 e2 e3 tg : Expr} {es : List Expr} {ta tb tc : EW} {ts : AW} {pos : Pos} {ua : TW} {iw : IW} {st : Stmt}
/-! x[i] -/
def vIxoo : R → R → Option R
  | .oo _ xss, .d (.int i) => (atI xss i).map (R.o false)
  | _, _ => none
theorem ixN_map {α β : Type} {xs : List α} {ys : List β} (h : xs.length = ys.length) (i : Int) : ixN xs.length i = ixN ys.length i := by rw [h]
theorem lf_Ixoo : Lf2 c (rIxL c.K) vIxoo := by
  intro G H x y rx ry fx fy rr Q sub hd kx ky e q
  unfold vIxoo at e
  split at e
  · rename_i f xss i
    obtain ⟨xs, e1, rfl⟩ := Option.map_eq_some_iff.mp e
    obtain ⟨l, ls, rfl, e2, e3, e4⟩ := kx.is
    unfold atI at e1
    obtain ⟨j, e5, e6⟩ := Option.bind_eq_some_iff.mp e1
    obtain ⟨l', vs, q1, q2, q3⟩ := inner_get e4 e6
    have hl := inner_length e4
    refine ⟨l, ls.map V.ref, i, .ref l', rfl, dp_int ky.dat, SqL.of e3, ?_, ?_⟩
    · unfold atI
      rw [List.length_map, hl, e5]
      show (ls.map V.ref)[j]? = some (V.ref l')
      rw [List.getElem?_map, q1]
      rfl
    · refine q G H (.ref l') [l'] (Grow.refl sub) ⟨fun z hz => ?_, by simp, l', vs, rfl, rfl, q2, q3⟩ (fun z => Bool.noConfusion z)
      have : z = l' := by simpa using hz
      subst this
      exact kx.own z (by rw [e2]; exact List.mem_cons_of_mem _ (List.mem_of_getElem? q1))
  · cases e
theorem pd_ixoo (ha : PDE c X a ta) (hb : PDE c X b tb) (hs : PlainIx b := by exact fun _ _ => rfl) (fit : Fit c X := by exact {}) : PDE c X (.Subscript a b pos) (eOp vIxoo ta tb) := pd_ix_ (by rw [← fit.k]; exact ix_list) lf_Ixoo ha hb hs

/-! x[i][k] = data -/
theorem DState.setOO {bb : Nat} {G H : Hp} {σ : L2.St} {ρ : DRho} (S : DState c bb G H σ ρ) {i : Nat} {f : Bool} {xss : List (List PyData)} (e : ρ[i]? = some (some (.oo f xss))) :
    ∃ (l : Addr) (ls : List Addr), σ[i]? = some (some (.ref l)) ∧ H l = some (.lst (ls.map V.ref)) ∧ ls.length = xss.length ∧ ∀ (j : Nat) (xs : List PyData), xss[j]? = some xs → ∃ lj vs, ls[j]? = some lj ∧ H lj = some (.lst vs) ∧ DpAll c.K G vs xs ∧
      ∀ ws ys, DpAll c.K G ws ys → DState c bb G (upd H lj (.lst ws)) σ (ρ.set i (some (.oo false (xss.set j ys)))) := by
  obtain ⟨fps, s⟩ := S.ex
  obtain ⟨v, e1, k⟩ := s.sl i _ e
  obtain ⟨l, ls, rfl, e2, e3, e4⟩ := k.is
  refine ⟨l, ls, e1, e3, inner_length e4, fun j xs ej => ?_⟩
  obtain ⟨lj, vs, q1, q2, q3⟩ := inner_get e4 ej
  refine ⟨lj, vs, q1, q2, q3, fun ws ys hw => ?_⟩
  have hjm : lj ∈ ls := List.mem_of_getElem? q1
  have own := k.own lj (by rw [e2]; exact List.mem_cons_of_mem _ hjm)
  have nd := k.nd
  rw [e2] at nd
  have hi : i < σ.length := (List.getElem?_eq_some_iff.mp e1).1
  have hi' : i < ρ.length := by have := S.len; omega
  have hm : ¬ c.md.has lj := fun z => (S.ok lj z).1 own.2.1
  have hll : l ≠ lj := fun z => by rw [z] at nd; exact (List.nodup_cons.mp nd).1 hjm
  refine ⟨S.ok, ⟨fun b o n q => ?_, fun b q => ?_, S.go.gg, same_put S.go.sub own.1, S.go.fz⟩, md_put hm S.inv, by simp [S.len], fps, fun j' r q => ?_, fun j1 j2 r1 r2 ne q1 q2 z h1 h2 => ?_⟩
  · have : b ≠ lj := fun z => by rw [z, own.2.1] at q; cases q
    rw [upd_ne this]; exact S.go.keep b o n q
  · have : b ≠ lj := fun z => by rw [z, upd_same] at q; cases q
    rw [upd_ne this] at q; exact S.go.dom b q
  · by_cases hj : j' = i
    · subst hj
      rw [List.getElem?_set_self hi'] at q
      cases q
      refine ⟨_, e1, ⟨fun z hz => ?_, k.nd, l, ls, rfl, e2, by rw [upd_ne hll]; exact e3, inner_put e4 (List.nodup_cons.mp nd).2 q1 hw⟩⟩
      have o := k.own z hz
      refine ⟨o.1, o.2.1, ?_⟩
      by_cases hz2 : z = lj
      · rw [hz2, upd_same]; exact fun z => nomatch z
      · rw [upd_ne hz2]; exact o.2.2
    · rw [List.getElem?_set_ne (Ne.symm hj)] at q
      obtain ⟨v', w1, w2⟩ := s.sl j' r q
      refine ⟨v', w1, w2.keepIf (fun l' hl' o q => ?_) (.refl _) fun l' hl' => (w2.own l' hl').1⟩
      have : l' ≠ lj := fun z => by
        subst z
        exact s.dis j' i r _ hj (by assumption) e l' hl' (by rw [e2]; exact List.mem_cons_of_mem _ hjm)
      rw [upd_ne this]; exact q
  · have key : ∀ j' r, (ρ.set i (some (.oo false (xss.set j ys))))[j']? = some (some r) → ∃ r', ρ[j']? = some (some r') := fun j' r q => by
      by_cases hj : j' = i
      · subst hj; exact ⟨_, e⟩
      · rw [List.getElem?_set_ne (Ne.symm hj)] at q; exact ⟨r, q⟩
    obtain ⟨r1', q1'⟩ := key _ _ q1
    obtain ⟨r2', q2'⟩ := key _ _ q2
    exact s.dis j1 j2 r1' r2' ne q1' q2' z h1 h2
def dSuboo (i : Nat) (t u : EW) : GW := fun d ρ b Q => match ρ[i]?.join with
  | some (.oo _ xss) => t ρ b fun r b1 => match r with
    | .d (.int z) => lft (ixN xss.length z) fun j => lft (xss[j]?) fun xs => u ρ b1 fun r2 b2 => match r2 with
      | .d (.int z2) => lft (ixN xs.length z2) fun k => Q (ρ.set i (some (.oo false (xss.set j (xs.set k d))))) b2
      | _ => False
    | _ => False
  | _ => False
theorem pdg_suboo {i : Nat} {x : Str} {p1 p2 tpos : Pos} (ho : PE X (.Name x p1) (tVar i)) (he : PDE c X e ta) (hu : PDE c X e2 tb) (hs1 : PlainIx e := by exact fun _ _ => rfl) (fit : Fit c X := by exact {})
    (hs : ∀ v, assign (.Subscript (.Subscript (.Name x p1) e p2) e2 tpos) X.env v = (do
      let ov ← holding [v] (eval (.Subscript (.Name x p1) e p2) X.env)
      let iv ← holding [v, ov] (eval e2 X.env)
      standAt tpos
      holding [v, ov, iv] (setItem ov iv v)
      release [v, ov, iv] []) := by intro _; rfl) : PDG c X (.Subscript (.Subscript (.Name x p1) e p2) e2 tpos) (dSuboo i ta tb) := by
  refine ⟨pg_imp (pg_sub (pe_ix ix_list ho he.pe hs1) hu.pe set_list hs) fun v σ H Q ⟨G, ρ, b, d, S, kd, q⟩ => ?_, fun d ρ b Q Q' hh q => ?_⟩
  · unfold dSuboo at q
    split at q
    · rename_i f xss e0
      obtain ⟨l, ls, e1, _, _, _⟩ := S.setOO (join_some e0)
      refine ⟨_, e1, G, ρ, b, S, he.mono _ _ _ _ (fun r b1 q1 G1 H1 w fp g1 i1 k1 _ => ?_) q⟩
      split at q1
      · rename_i z fr1
        obtain ⟨j, ej, q2⟩ := lft_ex q1
        obtain ⟨xs, ex, q3⟩ := lft_ex q2
        have S1 := S.grow g1 i1
        obtain ⟨l', ls', e1', e3', el', nx⟩ := S1.setOO (join_some e0)
        rw [e1] at e1'
        cases e1'
        obtain ⟨lj, vs, m1, m2, m3, _⟩ := nx j xs ex
        refine ⟨l, ls'.map V.ref, z, .ref lj, rfl, dp_int k1.dat, by rw [fit.k]; exact SqL.of e3', ?_, G1, ρ, b1, S1, hu.mono _ _ _ _ (fun r2 b2 q4 G2 H2 w2 fp2 g2 i2 k2 _ => ?_) q3⟩
        · unfold atI
          rw [List.length_map, el', ej]
          show (ls'.map V.ref)[j]? = some (V.ref lj)
          rw [List.getElem?_map, m1]
          rfl
        · split at q4
          · rename_i z2 fr2
            obtain ⟨kk, ek, q5⟩ := lft_ex q4
            obtain ⟨l2, ls2, e12, e32, el2, nx2⟩ := (S1.grow g2 i2).setOO (join_some e0)
            rw [e1] at e12
            cases e12
            obtain ⟨lj2, vs2, n1, n2, n3, put⟩ := nx2 j xs ex
            have hls : ls' = ls2 := by
              have h1 := g2.keep l _ (fun z => ?_) e3'
              · rw [h1] at e32
                injection e32 with e32
                injection e32 with e32
                exact (inj_mapV e32)
              · obtain ⟨fps, s⟩ := S1.ex
                obtain ⟨v', w1, w2⟩ := s.sl i _ (join_some e0)
                obtain ⟨l9, ls9, r1, r2, _⟩ := w2.is
                rw [e1] at w1
                cases w1
                cases r1
                exact (S1.ok _ z).1 (w2.own l (by rw [r2]; exact List.mem_cons_self)).2.1
            subst hls
            rw [m1] at n1
            cases n1
            refine ⟨lj, vs2, z2, kk, rfl, dp_int k2.dat, n2, by rw [dpAll_length n3]; exact ek, ?_⟩
            exact q5 σ G2 _ (g1.gg.trans g2.gg) (put _ _ (dpAll_set kk (dp_mono (g1.gg.trans g2.gg) _ _ kd) n3))
          · exact q4.elim
      · exact q1.elim
    · exact q.elim
  · unfold dSuboo at q ⊢
    split at q
    · exact he.mono _ _ _ _ (fun r b1 q1 => by
        split at q1
        · exact lft_mono (fun _ q2 => lft_mono (fun _ q3 => hu.mono _ _ _ _ (fun r2 b2 q4 => by
            split at q4
            · exact lft_mono (fun _ => hh _ _) q4
            · exact q4) q3) q2) q1
        · exact q1) q
    · exact q
/-! [a new list for ..] -/
def cmpDL (g : Sum Nat (List Nat)) (te : EW) (ρ : DRho) : List PyData → Nat → List (List PyData) → (List (List PyData) → Nat → Prop) → Prop
  | [], b, acc, Q => Q acc b
  | x :: xs, b, acc, Q => lft (tgD g x ρ) fun ρ1 => te ρ1 b fun r b2 => match r with
      | .o true ys => acc.length < sizeLine ∧ cmpDL g te ρ xs b2 (acc ++ [ys]) Q
      | _ => False
def eCompL (vs : List Nat) (iw : IW) (g : Sum Nat (List Nat)) (te : EW) : EW := fun ρ b Q => iw ρ b fun xs b1 => cmpDL g te (wipeR ρ vs) xs b1 [] fun ys b2 => Q (.oo true ys) b2
theorem cmpDL_mono {g : Sum Nat (List Nat)} {ρ : DRho} (me : EMono ta) : ∀ (xs : List PyData) (b : Nat) (acc : List (List PyData)) (Q Q' : List (List PyData) → Nat → Prop), (∀ ys b', Q ys b' → Q' ys b') → cmpDL g ta ρ xs b acc Q → cmpDL g ta ρ xs b acc Q'
  | [], b, acc, Q, Q', h, q => h _ _ q
  | x :: xs, b, acc, Q, Q', h, q => lft_mono (fun ρ1 q0 => me _ _ _ _ (fun r b2 q2 => by
      split at q2
      · exact ⟨q2.1, cmpDL_mono me xs _ _ _ _ h q2.2⟩
      · exact q2) q0) q
theorem eCompL_mono {vs : List Nat} {g : Sum Nat (List Nat)} (hi : ∀ ρ b (Q Q' : List PyData → Nat → Prop), (∀ x b', Q x b' → Q' x b') → iw ρ b Q → iw ρ b Q') (me : EMono ta) : EMono (eCompL vs iw g ta) := fun ρ b Q Q' h q =>
  hi _ _ _ _ (fun xs b1 q1 => cmpDL_mono me xs _ _ _ _ (fun ys b2 => h _ _) q1) q
theorem comp_wL {K : PySem.W.Frag} (ek : K = c.K) {vs : List Nat} {g : Sum Nat (List Nat)} {tt : TT} (hin : tgIn g vs = true) (hi : ∀ ρ b (Q Q' : List PyData → Nat → Prop), (∀ x b', Q x b' → Q' x b') → iw ρ b Q → iw ρ b Q') (me : EMono ta)
    (ht : ∀ σ H Q, tT c uTrue σ H Q → tt σ H Q) {σ : L2.St} {H : Hp} {Q : VK} (q : tE c (eCompL vs iw g ta) σ H Q) : tLc (tI c iw) (tgT K g) tt (tE c ta) vs σ H Q := by
  obtain ⟨G, ρ, b, S, q⟩ := q
  refine ⟨G, ρ, b, S, hi _ _ _ _ (fun xs b1 q1 G1 H1 J g1 i1 y D hD => ?_) q⟩
  have S1 : DState c b1 G1 H1 σ ρ := S.grow g1 i1
  have gD : G1 D = none := g1.sub.free hD
  have h0D : c.H0 D = none := S1.here hD
  have nmD : ∀ {l}, c.md.has l → l ≠ D := fun hl z => (S.ok _ hl).1 (by rw [z]; exact h0D)
  refine ⟨fun i m H' => m = xs.length - i ∧ i ≤ xs.length ∧ ∃ G' b' ls acc, Go c G1 H1 G' H' ∧ c.md.I b' H' ∧ H' D = some (.lst (ls.map V.ref)) ∧ G' D = none ∧ Inner c.K G' H' ls acc ∧ ls.Nodup ∧ (∀ l ∈ ls, G' l = none ∧ c.H0 l = none ∧ H l = none ∧ l ≠ D) ∧ cmpDL g ta (wipeR ρ vs) (xs.drop i) b' acc (fun ys b2 => EPost c G H Q (.oo true ys) b2),
    ⟨xs.length, by simp, Nat.zero_le _, G1, b1, [], [], (Grow.new g1.sub hD).go, i1.same (same_new hD), upd_same, gD, .nil, List.nodup_nil, (fun _ z => nomatch z), q1⟩, ?_⟩
  rintro i m H' ⟨rfl, hi', G', b', ls, acc, g2, i2, eD, gD', ka, nd, own, q'⟩
  by_cases hlt : i < xs.length
  · refine .inr ⟨y.go i G' H' g2.gg g2.sub hlt, fun H'' => ∃ G' b' ls acc, Go c G1 H1 G' H'' ∧ c.md.I b' H'' ∧ H'' D = some (.lst (ls.map V.ref)) ∧ G' D = none ∧ Inner c.K G' H'' ls acc ∧ ls.Nodup ∧ (∀ l ∈ ls, G' l = none ∧ c.H0 l = none ∧ H l = none ∧ l ≠ D) ∧ cmpDL g ta (wipeR ρ vs) (xs.drop (i + 1)) b' acc (fun ys b2 => EPost c G H Q (.oo true ys) b2),
      fun H'' z => ⟨xs.length - (i + 1), by omega, rfl, hlt, z⟩, fun x H'' hy => ?_⟩
    rw [List.drop_eq_getElem_cons hlt] at q'
    obtain ⟨G2, gr, kd⟩ := y.yld i G' H' x H'' xs[i] g2.gg g2.sub (List.getElem?_eq_getElem hlt) hy
    have g3 : Go c G1 H1 G2 H'' := g2.trans gr.go
    have i3 : c.md.I b' H'' := i2.same gr.keep
    have S3 : DState c b' G2 H'' (L2.wipe σ vs) (wipeR ρ vs) := (S1.wipe vs).grow g3 i3
    obtain ⟨ρ1, et, q2⟩ := lft_ex q'
    refine tg_w ek hin S3 kd et fun σ2 S4 hw => ⟨by rw [hw, wipe_idem], ?_⟩
    refine ht _ _ _ ⟨G2, ρ1, b', S4, fun G5 H5 g5 i5 => ?_⟩
    have hso := inner_some ka
    have nml : ∀ l ∈ ls, ¬ c.md.has l := fun l hl z => (S.ok l z).1 (own l hl).2.1
    have k5 : ∀ l ∈ ls, ∀ o, H' l = some o → H5 l = some o := fun l hl o q => g5.keep l o (nml l hl) (gr.keep l o q)
    have eD5 : H5 D = some (.lst (ls.map V.ref)) := g5.keep D _ (fun z => nmD z rfl) (gr.keep D _ eD)
    have gD2 : G2 D = none := (gr.fz D (by rw [eD]; exact fun z => nomatch z)).trans gD'
    have gD5 : G5 D = none := (g5.fz D (by rw [gr.keep D _ eD]; exact fun z => nomatch z)).trans gD2
    have gl5 : ∀ l ∈ ls, G5 l = none := fun l hl => by
      obtain ⟨o, ho⟩ : ∃ o, H' l = some o := by
        cases h : H' l with
        | none => exact absurd h (hso l hl)
        | some o => exact ⟨o, rfl⟩
      rw [g5.fz l (by rw [gr.keep l o ho]; exact fun z => nomatch z), gr.fz l (by rw [ho]; exact fun z => nomatch z)]
      exact (own l hl).1
    refine iteT ?_
    refine ⟨G5, ρ1, b', S4.grow g5 i5, me _ _ _ _ (fun r b6 q6 G6 H6 v fp g6 i6 k6 f6 => ?_) q2⟩
    split at q6
    · rename_i ys
      obtain ⟨l, ws, rfl, e2, e3, e4⟩ := k6.is
      have ownl := k6.own l (by rw [e2]; simp)
      have hl5 : H5 l = none := f6 rfl l (by rw [e2]; simp)
      have eD6 : H6 D = some (.lst (ls.map V.ref)) := g6.keep D _ (fun z => nmD z rfl) eD5
      have gD6 : G6 D = none := (g6.fz D (by rw [eD5]; exact fun z => nomatch z)).trans gD5
      have g7 : Go c G1 H1 G6 H6 := (g3.trans g5).trans g6
      have k6' : ∀ l ∈ ls, ∀ o, H' l = some o → H6 l = some o := fun l hl o q => g6.keep l o (nml l hl) (k5 l hl o q)
      have ka6 : Inner c.K G6 H6 ls acc := ka.go ((gr.gg.trans g5.gg).trans g6.gg) k6'
      have hlD : l ≠ D := fun z => by rw [z, eD5] at hl5; cases hl5
      have hln : l ∉ ls := fun z => by
        obtain ⟨o, ho⟩ : ∃ o, H' l = some o := by
          cases h : H' l with
          | none => exact absurd h (hso l z)
          | some o => exact ⟨o, rfl⟩
        rw [k5 l z o ho] at hl5; cases hl5
      have hHl : H l = none := g1.dom l (g3.dom l (g5.dom l hl5))
      have kall : Inner c.K G6 (upd H6 D (.lst ((ls ++ [l]).map V.ref))) (ls ++ [l]) (acc ++ [ys]) := (inner_snoc ka6 e3 e4).go (.refl _) fun b hb o q => by
        have : b ≠ D := by
          rcases List.mem_append.mp hb with z | z
          · exact (own b z).2.2.2
          · have : b = l := by simpa using z
            rw [this]; exact hlD
        rw [upd_ne this]; exact q
      refine ⟨ls.map V.ref, eD6, by rw [List.length_map, inner_length ka6]; exact q6.1, G6, b6, ls ++ [l], acc ++ [ys], ⟨fun b o n e => ?_, fun b e => ?_, g7.gg, same_put g7.sub gD6, g7.fz⟩, inv_upd i6 (fun z => nmD z rfl), by rw [upd_same, List.map_append]; rfl, gD6, by rw [List.map_append] at kall; exact kall, ?_, fun b hb => ?_, q6.2⟩
      · have : b ≠ D := ne_of_none e hD
        rw [upd_ne this]; exact g7.keep b o n e
      · have : b ≠ D := fun z => by rw [z, upd_same] at e; cases e
        rw [upd_ne this] at e; exact g7.dom b e
      · rw [List.nodup_append]
        refine ⟨nd, by simp, fun a ha b hb => ?_⟩
        have : b = l := by simpa using hb
        rw [this]
        exact fun z => hln (by rw [← z]; exact ha)
      · rcases List.mem_append.mp hb with z | z
        · refine ⟨?_, (own b z).2.1, (own b z).2.2.1, (own b z).2.2.2⟩
          obtain ⟨o, ho⟩ : ∃ o, H' b = some o := by
            cases h : H' b with
            | none => exact absurd h (hso b z)
            | some o => exact ⟨o, rfl⟩
          rw [g6.fz b (by rw [k5 b z o ho]; exact fun z => nomatch z)]
          exact gl5 b z
        · have : b = l := by simpa using z
          rw [this]
          exact ⟨ownl.1, ownl.2.1, hHl, hlD⟩
    · exact q6.elim
  · have e : i = xs.length := by omega
    subst e
    rw [List.drop_length] at q'
    refine .inl ⟨y.stop _ G' H' g2.gg g2.sub (Nat.le_refl _), ?_⟩
    refine q' G' H' (.ref D) (D :: ls) (g1.trans g2) i2 ⟨fun z hz => ?_, ?_, D, ls, rfl, rfl, eD, ka⟩ ?_
    · rcases List.mem_cons.mp hz with z' | z'
      · subst z'
        exact ⟨gD', h0D, by rw [eD]; exact fun z => nomatch z⟩
      · exact ⟨(own z z').1, (own z z').2.1, inner_some ka z z'⟩
    · rw [List.nodup_cons]
      exact ⟨fun z => (own D z).2.2.2 rfl, nd⟩
    · intro _ a ha
      rcases List.mem_cons.mp ha with z' | z'
      · rw [z']; exact g1.dom D hD
      · exact (own a z').2.2.1
theorem pd_lcL {elt iter : Expr} {scope : Scope} {own : List (Str × Nat)} {g : Sum Nat (List Nat)} (hc : X.calm = true) (hN : X.N.Nodup) (hi : PDI c X tg iter iw) (ok : BlkOk X.N X.env.scope scope own)
    (hg : ∀ (s : Shared) (H : Hp) (C : Addr) (cl : List (Str × Addr)) (fp : List Addr), PG (X.blk s H scope (compEnvC scope cl C X.env) fp) tg (tgT X.K g))
    (he : ∀ (s : Shared) (H : Hp) (C : Addr) (cl : List (Str × Addr)) (fp : List Addr), PDE c (X.blk s H scope (compEnvC scope cl C X.env) fp) elt ta)
    (hin : tgIn g (own.map (·.2)) = true := by rfl) (fit : Fit c X := by exact {}) (hs : ∀ x, foldedSetIterable iter X.env x = pure x := by intro _; rfl) :
    PDE c X (.ListComp elt [⟨tg, iter, [], 0⟩] scope pos) (eCompL (own.map (·.2)) iw g ta) := by
  have me : EMono ta := (he ({} : Shared) (fun _ => none) 0 [] []).mono
  exact ⟨pe_imp (pe_lc hc hN hi.pi ok hg (fun _ _ _ _ _ => pts_nil) (fun s H C cl fp => (he s H C cl fp).pe) hs) fun σ H Q q => comp_wL fit.k hin hi.mono me uTrue_w q, eCompL_mono hi.mono me⟩
end
end L2.U
/-! Statement by statement. -/
namespace L2.U
open PySem PySem.Spec PyProof.Rows
section
variable {e : EW} {s2 s1 s3 : SW} {ρ : DRho} {b : Nat} {Q : Out → Nat → Prop}
theorem step_set {i : Nat} (d : PyData) (h1 : ∀ Q : R → Nat → Prop, Q (.d d) b → e ρ b Q) (h2 : s2 (ρ.set i (some (.d d))) b Q) : sSeq (sSet i e) s2 ρ b Q := h1 _ h2
theorem step_gen (I : DRho → Nat → Prop) (h1 : ∀ K : Out → Nat → Prop, (∀ ρ1 b1, I ρ1 b1 → K (.nx ρ1) b1) → s1 ρ b K) (h2 : ∀ ρ1 b1, I ρ1 b1 → s2 ρ1 b1 Q) : sSeq s1 s2 ρ b Q := h1 _ h2
theorem step_asg {g : GW} (d : PyData) (ρ2 : DRho) (h1 : ∀ Q : R → Nat → Prop, Q (.d d) b → e ρ b Q) (h2 : ∀ Q : DRho → Nat → Prop, Q ρ2 b → g d ρ b Q) (h3 : s2 ρ2 b Q) : sSeq (sAsg e g) s2 ρ b Q := h1 _ (h2 _ h3)
theorem step_ifT {t : TW} (h1 : ∀ Q : Bool → Nat → Prop, Q true b → t ρ b Q) (h2 : sSeq s1 s3 ρ b Q) : sSeq (sIf t s1 s2) s3 ρ b Q := h1 _ (by rw [if_pos rfl]; exact h2)
theorem step_ifF {t : TW} (h1 : ∀ Q : Bool → Nat → Prop, Q false b → t ρ b Q) (h2 : sSeq s2 s3 ρ b Q) : sSeq (sIf t s1 s2) s3 ρ b Q := h1 _ (by rw [if_neg Bool.false_ne_true]; exact h2)
theorem step_assoc (h : sSeq s1 (sSeq s2 s3) ρ b Q) : sSeq (sSeq s1 s2) s3 ρ b Q := by
  refine Eq.mp (congrArg (s1 ρ b) ?_) h
  funext o b1
  cases o <;> rfl
theorem eIf_val {t : TW} {ta tb : EW} {Q : R → Nat → Prop} (k : Bool) (x y : PyData) (h1 : ∀ Q : Bool → Nat → Prop, Q k b → t ρ b Q) (h2 : k = true → ∀ Q : R → Nat → Prop, Q (.d x) b → ta ρ b Q) (h3 : k = false → ∀ Q : R → Nat → Prop, Q (.d y) b → tb ρ b Q)
    (h : Q (.d (if k = true then x else y)) b) : eIf t ta tb ρ b Q := by
  refine h1 _ ?_
  cases k
  · rw [if_neg Bool.false_ne_true] at h ⊢
    exact h3 rfl _ h
  · rw [if_pos rfl] at h ⊢
    exact h2 rfl _ h
/-- e has one value, and changes nothing -/
def Ev (e : EW) (ρ : DRho) (b : Nat) (r : R) : Prop := ∀ Q : R → Nat → Prop, Q r b → e ρ b Q
theorem ev_var {i : Nat} {r : R} (h : ρ[i]?.join = some r) : Ev (eVar i) ρ b r.held := fun Q q => by unfold eVar; rw [h]; exact q
theorem ev_vd {i : Nat} {d : PyData} (h : ρ[i]?.join = some (.d d)) : Ev (eVar i) ρ b (.d d) := ev_var h
theorem ev_vo {i : Nat} {f : Bool} {d : List PyData} (h : ρ[i]?.join = some (.o f d)) : Ev (eVar i) ρ b (.o false d) := ev_var h
theorem ev_voo {i : Nat} {f : Bool} {d : List (List PyData)} (h : ρ[i]?.join = some (.oo f d)) : Ev (eVar i) ρ b (.oo false d) := ev_var h
theorem ev_c {x : PyData} : Ev (eC x) ρ b (.d x) := fun Q q => q
theorem ev_op {f : R → R → Option R} {ta tb : EW} {x y r : R} (ha : Ev ta ρ b x) (hb : Ev tb ρ b y) (h : f x y = some r) : Ev (eOp f ta tb) ρ b r := fun Q q => ha _ (hb _ (by rw [h]; exact q))
theorem ev_un {f : R → Option R} {ta : EW} {x r : R} (ha : Ev ta ρ b x) (h : f x = some r) : Ev (eUn f ta) ρ b r := fun Q q => ha _ (by rw [h]; exact q)
theorem ev_bi {f : List R → Option R} {ta : EW} {x r : R} (ha : Ev ta ρ b x) (h : f [x] = some r) : Ev (eBi f (aCons ta aNil)) ρ b r := fun Q q => ha _ (by show lft (f [x]) _; rw [h]; exact q)
theorem ix_l {f : Bool} {xs : List PyData} {i : Int} {d : PyData} (h : atI xs i = some d) : vIx (.o f xs) (.d (.int i)) = some (.d d) := by rw [vIx_o, h]; rfl
theorem ix_t {xs : List PyData} {i : Int} {d : PyData} (h : atI xs i = some d) : vIx (.d (.tuple xs)) (.d (.int i)) = some (.d d) := by rw [vIx_t, h]; rfl
theorem ix_oo {f : Bool} {xs : List (List PyData)} {i : Int} {d : List PyData} (h : atI xs i = some d) : vIxoo (.oo f xs) (.d (.int i)) = some (.o false d) := by show (atI xs i).map (R.o false) = _; rw [h]; rfl
theorem sum_o {f : Bool} {ns : List Int} : vSum [.o f (ns.map PyData.int)] = some (.d (.int ns.sum)) := by
  show ((intsOf (ns.map PyData.int)).map fun ns => R.d (.int ns.sum)) = _
  rw [intsOf_map]
  rfl
theorem ii_ {g : Int → Int → PyData} {i j : Int} : vII g (.d (.int i)) (.d (.int j)) = some (.d (g i j)) := rfl
theorem cmpL_map {α : Type} {g : Sum Nat (List Nat)} {te : EW} (enc : α → PyData) (out : α → List PyData) : ∀ (l : List α) (b : Nat) (acc : List (List PyData)) (Q : List (List PyData) → Nat → Prop),
    (∀ a ∈ l, ∀ b (Q : R → Nat → Prop), Q (.o true (out a)) b → lft (tgD g (enc a) ρ) fun ρ1 => te ρ1 b Q) → acc.length + l.length ≤ 1000000 → Q (acc ++ l.map out) b → cmpDL g te ρ (l.map enc) b acc Q
  | [], b, acc, Q, _, _, q => by rw [List.map_nil, List.append_nil] at q; exact q
  | a :: l, b, acc, Q, h, hl, q => by
    have h1 := h a List.mem_cons_self b
    rw [List.length_cons] at hl
    rw [List.map_cons]
    refine h1 (fun r b2 => match r with | .o true y => acc.length < sizeLine ∧ cmpDL g te ρ (l.map enc) b2 (acc ++ [y]) Q | _ => False) ⟨by rw [sizeLine_eq]; omega, ?_⟩
    refine cmpL_map enc out l b _ Q (fun z hz => h z (List.mem_cons_of_mem _ hz)) (by rw [List.length_append, List.length_singleton]; omega) ?_
    rw [List.append_assoc]
    exact q
theorem rangeD_get {lo hi : Int} {i : Nat} {x : PyData} (h : (rangeD lo hi)[i]? = some x) : x = .int (lo + i) ∧ i < (hi - lo).toNat := by
  unfold rangeD at h
  rw [List.getElem?_map] at h
  obtain ⟨j, q1, rfl⟩ := Option.map_eq_some_iff.mp h
  obtain ⟨q3, q4⟩ := List.getElem?_eq_some_iff.mp q1
  rw [List.getElem_range] at q4
  rw [List.length_range] at q3
  subst q4
  exact ⟨rfl, q3⟩
theorem map_set_same {α β : Type} (f : α → β) {l : List α} {i : Nat} {p p0 : α} (h : l[i]? = some p0) (e : f p = f p0) : (l.set i p).map f = l.map f := by
  rw [List.map_set, e]
  obtain ⟨h1, h2⟩ := List.getElem?_eq_some_iff.mp h
  rw [← h2]
  have h3 : i < (l.map f).length := by rw [List.length_map]; exact h1
  have : f l[i] = (l.map f)[i] := by rw [List.getElem_map]
  rw [this, List.set_getElem_self]
end
end L2.U
/-! The law's defs: top, begin, order, may, houses. -/
namespace L2.U
open PySem PySem.Spec PyProof.Rows
section
variable {P : Program} {w : World} {K : PySem.W.Frag} {mg : Str → Option Value} {base : Heap}
theorem upTo_nil {lo hi : Int} (h : hi ≤ lo) : upTo lo hi = [] := by
  unfold upTo
  rw [Int.toNat_of_nonpos (by omega)]
  rfl
theorem upTo_cons {lo hi : Int} (h : lo < hi) : upTo lo hi = lo :: upTo (lo + 1) hi := by
  unfold upTo
  obtain ⟨k, hk⟩ : ∃ k : Nat, (hi - lo).toNat = k + 1 := ⟨(hi - lo).toNat - 1, by omega⟩
  have hk2 : (hi - (lo + 1)).toNat = k := by omega
  rw [hk, hk2, List.range_succ_eq_map, List.map_cons, List.map_map]
  congr 1
  · simp
  · apply List.map_congr_left
    intro i _
    show lo + ((i + 1 : Nat) : Int) = lo + 1 + i
    omega
theorem upTo_filter (a e : Int) : ∀ (k : Nat) (lo hi : Int), (hi - lo).toNat = k → (upTo lo hi).filter (fun x => decide (a ≤ x) && decide (x ≤ e)) = upTo (if a > lo then a else lo) (if e + 1 < hi then e + 1 else hi)
  | 0, lo, hi, h => by
    rw [upTo_nil (show hi ≤ lo by omega), upTo_nil]
    · rfl
    · split <;> split <;> omega
  | k + 1, lo, hi, h => by
    have ih := upTo_filter a e k (lo + 1) hi (by omega)
    rw [upTo_cons (show lo < hi by omega), List.filter_cons, ih]
    by_cases h1 : a ≤ lo
    · by_cases h2 : lo ≤ e
      · rw [decide_eq_true h1, decide_eq_true h2, if_neg (show ¬ a > lo + 1 by omega), if_neg (show ¬ a > lo by omega)]
        rw [upTo_cons (lo := lo) (by split <;> omega)]
        rfl
      · rw [decide_eq_false h2, Bool.and_false, if_neg Bool.false_ne_true, upTo_nil (by split <;> split <;> omega), upTo_nil (by split <;> split <;> omega)]
    · rw [decide_eq_false h1, Bool.false_and, if_neg Bool.false_ne_true, if_pos (show a > lo by omega)]
      by_cases h3 : a > lo + 1
      · rw [if_pos h3]
      · rw [if_neg h3, show a = lo + 1 by omega]
theorem cmp_filter {α : Type} {g : Sum Nat (List Nat)} {tw : TW} {te : EW} {ρ : DRho} (enc out : α → PyData) (p : α → Bool) : ∀ (l : List α) (b : Nat) (acc : List PyData) (Q : List PyData → Nat → Prop),
    (∀ a ∈ l, ∀ (Q1 : R → Nat → Prop) (Q2 : Nat → Prop), (p a = true → Q1 (.d (out a)) b) → (p a = false → Q2 b) → lft (tgD g (enc a) ρ) fun ρ1 => tw ρ1 b fun k b1 => if k = true then te ρ1 b1 Q1 else Q2 b1) → acc.length + l.length ≤ 1000000 → Q (acc ++ (l.filter p).map out) b → cmpD g tw te ρ (l.map enc) b acc Q
  | [], b, acc, Q, _, _, q => by rw [List.filter_nil, List.map_nil, List.append_nil] at q; exact q
  | a :: l, b, acc, Q, h, hl, q => by
    have h1 := h a List.mem_cons_self
    rw [List.length_cons] at hl
    rw [List.map_cons]
    refine h1 (fun r b2 => match r with | .d y => acc.length < sizeLine ∧ cmpD g tw te ρ (l.map enc) b2 (acc ++ [y]) Q | _ => False) (fun b1 => cmpD g tw te ρ (l.map enc) b1 acc Q) (fun hp => ⟨by rw [sizeLine_eq]; omega, ?_⟩) (fun hp => ?_)
    · refine cmp_filter enc out p l b _ Q (fun z hz => h z (List.mem_cons_of_mem _ hz)) (by rw [List.length_append, List.length_singleton]; omega) ?_
      rw [List.filter_cons, hp, if_pos rfl, List.map_cons] at q
      rw [List.append_assoc]
      exact q
    · refine cmp_filter enc out p l b _ Q (fun z hz => h z (List.mem_cons_of_mem _ hz)) (by omega) ?_
      rw [List.filter_cons, hp, if_neg Bool.false_ne_true] at q
      exact q
def pt_q_top : FW := fun rs b Q => ∃ h : House, rs = [.d h.rule] ∧ Q (.int h.top) b
theorem mono_q_top : FMono pt_q_top := fun rs b Q Q' hh ⟨h, e, q⟩ => ⟨h, e, hh _ _ q⟩
abbrev s_q_top : Stmt := topS 52
theorem sc_q_top : FnScope ["_law_rule"] ["_law_rule"] (defScope s_q_top) := ⟨rfl, rfl, rfl, by decide +kernel, rfl, by decide +kernel, by decide +kernel⟩
theorem ok_q_top {f : Addr} {fd : FuncData} (F : Fun K "_law_top" "_law_top" s_q_top f fd) (hm : mg "_law_top" = some (.ref f)) (hb : Binds K fd ["_law_rule"] []) (nb : Nb mg) (kc : Kc mg) :
    Can P w K mg base 1 "_law_top" ["_law_rule"] pt_q_top := by
  exact fn_data F sc_q_top hm hb mono_q_top (fun md G cdv A outer s H E hr =>
    (pdb_one (pds_ret (pd_if (pdt_eqS (pd_ix (pv_ 0) pd_int) pd_str) (pd_ix (pv_ 0) pd_int) (pd_sub (pd_add (pd_ix (pv_ 0) pd_int) (pd_ix (pv_ 0) pd_int)) pd_int)))))
    (by
      rintro rs b Q hl ⟨⟨f, low, more, late⟩, rfl, q⟩
      unfold House.rule House.top at *
      cases f
      · simp only [sSeq, sNil, sAsg, sRet, sIf, sSet, sExpr, sFrz, sMove, sApp, sExt, sPar, eOp, eUn, eVar, eC, eIf, eAnd, eOr, eChain, tVal, uAnd, uOr, uNot, uTrue, eTup, eLst, eBi, eSl, partR, eIsi, eCall, eCallL, aCons, aNil, allD, dTup, dCons, dName, dNil, dSub, rho0, endD, lft, frz, stor, storAll, setAll, rtD, vIx, seqR, vII, vIC, vAdd, vSub, vMul, vFdiv, vMod, vPow, vLt, vLe, vGt, vGe, vEqS, vNeS, vIsN, vNotN, vNot, vNeg, isNo, vMin2, vMax2, vAbs, vInt1, vLen, vTuple, vList, vSum, isTy, vNotInK, vLenK, sKset, eDict1, datR, vEqD, vNeD, vCatT, vCatL, iSeq, iTupW, iRg1, iRg2, sFor, noL, noL1, lend, scalD, R.held, R.fresh, List.map_cons, List.map_nil, List.length_cons, List.length_nil, List.cons_append, List.nil_append, List.getElem?_cons_zero, List.getElem?_cons_succ, List.set_cons_zero, List.set_cons_succ, List.replicate_succ, List.replicate_zero, Nat.zero_add, Nat.reduceAdd, Nat.reduceSub, Nat.reduceLT, Option.join_some, Option.join_none, Option.bind_some, Option.map_some, List.all_cons, List.all_nil, Bool.and_true, Bool.true_and, Bool.not_true, Bool.not_false, and_true, true_and, if_true, if_false, Bool.false_eq_true, decide_true, decide_false, reduceIte, atI_0, atI_1, atI_2, word_fill]
        exact q
      · simp only [sSeq, sNil, sAsg, sRet, sIf, sSet, sExpr, sFrz, sMove, sApp, sExt, sPar, eOp, eUn, eVar, eC, eIf, eAnd, eOr, eChain, tVal, uAnd, uOr, uNot, uTrue, eTup, eLst, eBi, eSl, partR, eIsi, eCall, eCallL, aCons, aNil, allD, dTup, dCons, dName, dNil, dSub, rho0, endD, lft, frz, stor, storAll, setAll, rtD, vIx, seqR, vII, vIC, vAdd, vSub, vMul, vFdiv, vMod, vPow, vLt, vLe, vGt, vGe, vEqS, vNeS, vIsN, vNotN, vNot, vNeg, isNo, vMin2, vMax2, vAbs, vInt1, vLen, vTuple, vList, vSum, isTy, vNotInK, vLenK, sKset, eDict1, datR, vEqD, vNeD, vCatT, vCatL, iSeq, iTupW, iRg1, iRg2, sFor, noL, noL1, lend, scalD, R.held, R.fresh, List.map_cons, List.map_nil, List.length_cons, List.length_nil, List.cons_append, List.nil_append, List.getElem?_cons_zero, List.getElem?_cons_succ, List.set_cons_zero, List.set_cons_succ, List.replicate_succ, List.replicate_zero, Nat.zero_add, Nat.reduceAdd, Nat.reduceSub, Nat.reduceLT, Option.join_some, Option.join_none, Option.bind_some, Option.map_some, List.all_cons, List.all_nil, Bool.and_true, Bool.true_and, Bool.not_true, Bool.not_false, and_true, true_and, if_true, if_false, Bool.false_eq_true, decide_true, decide_false, reduceIte, atI_0, atI_1, atI_2, word_fill]
        exact q)
def pt_q_begin : FW := fun rs b Q => ∃ c : Chain, c.Ok ∧ rs = [.d c.enc] ∧ Q (encS c.begin) b
theorem mono_q_begin : FMono pt_q_begin := fun rs b Q Q' hh ⟨h, o, e, q⟩ => ⟨h, o, e, hh _ _ q⟩
abbrev s_q_begin : Stmt := topS 53
theorem sc_q_begin : FnScope ["_law_chain_here", "_law_rule", "_law_late"] ["_law_chain_here"] (defScope s_q_begin) := ⟨rfl, rfl, rfl, by decide +kernel, rfl, by decide +kernel, by decide +kernel⟩
theorem ok_q_begin {f : Addr} {fd : FuncData} (F : Fun K "_law_begin" "_law_begin" s_q_begin f fd) (hm : mg "_law_begin" = some (.ref f)) (hb : Binds K fd ["_law_chain_here"] []) (nb : Nb mg) (kc : Kc mg) (C_q_top : Can P w K mg base 1 "_law_top" ["_law_rule"] pt_q_top) :
    Can P w K mg base 2 "_law_begin" ["_law_chain_here"] pt_q_begin := by
  exact fn_data F sc_q_begin hm hb mono_q_begin (fun md G cdv A outer s H E hr =>
    (pdb_one (pds_ret (pd_tuple (by rfl) nb.tuple (pda_cons (pd_lc (own := [("_law_rule", 1), ("_law_late", 2)]) (g := .inr [1, 2]) rfl sc_q_begin.nd (pdi_tup (pd_ix (pv_ 0) pd_int)) (blkOk_by (own := [("_law_rule", 1), ("_law_late", 2)]) (N := ["_law_chain_here", "_law_rule", "_law_late"]) (sc := defScope s_q_begin) (by decide +kernel)) (fun _ _ _ _ _ => pg_tup rfl (pgs_cons (pg_name (i := 1) sc_q_begin.nd rfl (Or.inl rfl)) (pgs_cons (pg_name (i := 2) sc_q_begin.nd rfl (Or.inl rfl)) pgs_nil))) (fun _ _ _ _ _ => (pd_tup (pda_cons (pd_call C_q_top (hr.mono (by decide)) (by rfl) (pda_cons (pv_ 1) pda_nil)) (pda_cons (pd_repT (pd_tup (pda_cons pd_int pda_nil)) (pv_ 2)) (pda_cons pd_int pda_nil)))))) pda_nil)))))
    (by
      rintro rs b Q hl ⟨c, ok, rfl, q⟩
      rw [begin_enc] at q
      simp only [sSeq, sNil, sAsg, sRet, sIf, sSet, sExpr, sFrz, sMove, sApp, sExt, sPar, eOp, eUn, eVar, eC, eIf, eAnd, eOr, eChain, tVal, uAnd, uOr, uNot, uTrue, eTup, eLst, eBi, eSl, partR, eIsi, eCall, eCallL, aCons, aNil, allD, dTup, dCons, dName, dNil, dSub, rho0, endD, lft, frz, stor, storAll, setAll, rtD, vIx, seqR, vII, vIC, vAdd, vSub, vMul, vFdiv, vMod, vPow, vLt, vLe, vGt, vGe, vEqS, vNeS, vIsN, vNotN, vNot, vNeg, isNo, vMin2, vMax2, vAbs, vInt1, vLen, vTuple, vList, vSum, isTy, vNotInK, vLenK, sKset, eDict1, datR, vEqD, vNeD, vCatT, vCatL, iSeq, iTupW, iRg1, iRg2, sFor, noL, noL1, lend, scalD, R.held, R.fresh, List.map_cons, List.map_nil, List.length_cons, List.length_nil, List.cons_append, List.nil_append, List.getElem?_cons_zero, List.getElem?_cons_succ, List.set_cons_zero, List.set_cons_succ, List.replicate_succ, List.replicate_zero, Nat.zero_add, Nat.reduceAdd, Nat.reduceSub, Nat.reduceLT, Option.join_some, Option.join_none, Option.bind_some, Option.map_some, List.all_cons, List.all_nil, Bool.and_true, Bool.true_and, Bool.not_true, Bool.not_false, and_true, true_and, if_true, if_false, Bool.false_eq_true, decide_true, decide_false, reduceIte, Chain.enc, atI_0, atI_1, atI_2, eComp, iTupW, wipeR]
      refine cmp_map House.enc (fun h => .tuple [.int h.top, .tuple ((List.replicate h.late (0 : Int)).map PyData.int), .int 0]) c.houses b [] _ (fun h hh b Q q => ?_) (by have := ok.some.2; simp; omega) ?_
      · have hlate := (ok.each h hh).late
        unfold House.enc
        simp only [sSeq, sNil, sAsg, sRet, sIf, sSet, sExpr, sFrz, sMove, sApp, sExt, sPar, eOp, eUn, eVar, eC, eIf, eAnd, eOr, eChain, tVal, uAnd, uOr, uNot, uTrue, eTup, eLst, eBi, eSl, partR, eIsi, eCall, eCallL, aCons, aNil, allD, dTup, dCons, dName, dNil, dSub, rho0, endD, lft, frz, stor, storAll, setAll, rtD, vIx, seqR, vII, vIC, vAdd, vSub, vMul, vFdiv, vMod, vPow, vLt, vLe, vGt, vGe, vEqS, vNeS, vIsN, vNotN, vNot, vNeg, isNo, vMin2, vMax2, vAbs, vInt1, vLen, vTuple, vList, vSum, isTy, vNotInK, vLenK, sKset, eDict1, datR, vEqD, vNeD, vCatT, vCatL, iSeq, iTupW, iRg1, iRg2, sFor, noL, noL1, lend, scalD, R.held, R.fresh, List.map_cons, List.map_nil, List.length_cons, List.length_nil, List.cons_append, List.nil_append, List.getElem?_cons_zero, List.getElem?_cons_succ, List.set_cons_zero, List.set_cons_succ, List.replicate_succ, List.replicate_zero, Nat.zero_add, Nat.reduceAdd, Nat.reduceSub, Nat.reduceLT, Option.join_some, Option.join_none, Option.bind_some, Option.map_some, List.all_cons, List.all_nil, Bool.and_true, Bool.true_and, Bool.not_true, Bool.not_false, and_true, true_and, if_true, if_false, Bool.false_eq_true, decide_true, decide_false, reduceIte, tgD]
        refine ⟨h, rfl, ?_⟩
        simp only [sSeq, sNil, sAsg, sRet, sIf, sSet, sExpr, sFrz, sMove, sApp, sExt, sPar, eOp, eUn, eVar, eC, eIf, eAnd, eOr, eChain, tVal, uAnd, uOr, uNot, uTrue, eTup, eLst, eBi, eSl, partR, eIsi, eCall, eCallL, aCons, aNil, allD, dTup, dCons, dName, dNil, dSub, rho0, endD, lft, frz, stor, storAll, setAll, rtD, vIx, seqR, vII, vIC, vAdd, vSub, vMul, vFdiv, vMod, vPow, vLt, vLe, vGt, vGe, vEqS, vNeS, vIsN, vNotN, vNot, vNeg, isNo, vMin2, vMax2, vAbs, vInt1, vLen, vTuple, vList, vSum, isTy, vNotInK, vLenK, sKset, eDict1, datR, vEqD, vNeD, vCatT, vCatL, iSeq, iTupW, iRg1, iRg2, sFor, noL, noL1, lend, scalD, R.held, R.fresh, List.map_cons, List.map_nil, List.length_cons, List.length_nil, List.cons_append, List.nil_append, List.getElem?_cons_zero, List.getElem?_cons_succ, List.set_cons_zero, List.set_cons_succ, List.replicate_succ, List.replicate_zero, Nat.zero_add, Nat.reduceAdd, Nat.reduceSub, Nat.reduceLT, Option.join_some, Option.join_none, Option.bind_some, Option.map_some, List.all_cons, List.all_nil, Bool.and_true, Bool.true_and, Bool.not_true, Bool.not_false, and_true, true_and, if_true, if_false, Bool.false_eq_true, decide_true, decide_false, reduceIte, vRepT, List.isEmpty_cons]
        rw [decide_eq_true (by omega : (1 : Int) ≤ (h.late : Int)), decide_eq_true (by omega : (h.late : Int) ≤ 1000)]
        simp only [sSeq, sNil, sAsg, sRet, sIf, sSet, sExpr, sFrz, sMove, sApp, sExt, sPar, eOp, eUn, eVar, eC, eIf, eAnd, eOr, eChain, tVal, uAnd, uOr, uNot, uTrue, eTup, eLst, eBi, eSl, partR, eIsi, eCall, eCallL, aCons, aNil, allD, dTup, dCons, dName, dNil, dSub, rho0, endD, lft, frz, stor, storAll, setAll, rtD, vIx, seqR, vII, vIC, vAdd, vSub, vMul, vFdiv, vMod, vPow, vLt, vLe, vGt, vGe, vEqS, vNeS, vIsN, vNotN, vNot, vNeg, isNo, vMin2, vMax2, vAbs, vInt1, vLen, vTuple, vList, vSum, isTy, vNotInK, vLenK, sKset, eDict1, datR, vEqD, vNeD, vCatT, vCatL, iSeq, iTupW, iRg1, iRg2, sFor, noL, noL1, lend, scalD, R.held, R.fresh, List.map_cons, List.map_nil, List.length_cons, List.length_nil, List.cons_append, List.nil_append, List.getElem?_cons_zero, List.getElem?_cons_succ, List.set_cons_zero, List.set_cons_succ, List.replicate_succ, List.replicate_zero, Nat.zero_add, Nat.reduceAdd, Nat.reduceSub, Nat.reduceLT, Option.join_some, Option.join_none, Option.bind_some, Option.map_some, List.all_cons, List.all_nil, Bool.and_true, Bool.true_and, Bool.not_true, Bool.not_false, and_true, true_and, if_true, if_false, Bool.false_eq_true, decide_true, decide_false, reduceIte, rep_zero]
        exact q
      · simp only [sSeq, sNil, sAsg, sRet, sIf, sSet, sExpr, sFrz, sMove, sApp, sExt, sPar, eOp, eUn, eVar, eC, eIf, eAnd, eOr, eChain, tVal, uAnd, uOr, uNot, uTrue, eTup, eLst, eBi, eSl, partR, eIsi, eCall, eCallL, aCons, aNil, allD, dTup, dCons, dName, dNil, dSub, rho0, endD, lft, frz, stor, storAll, setAll, rtD, vIx, seqR, vII, vIC, vAdd, vSub, vMul, vFdiv, vMod, vPow, vLt, vLe, vGt, vGe, vEqS, vNeS, vIsN, vNotN, vNot, vNeg, isNo, vMin2, vMax2, vAbs, vInt1, vLen, vTuple, vList, vSum, isTy, vNotInK, vLenK, sKset, eDict1, datR, vEqD, vNeD, vCatT, vCatL, iSeq, iTupW, iRg1, iRg2, sFor, noL, noL1, lend, scalD, R.held, R.fresh, List.map_cons, List.map_nil, List.length_cons, List.length_nil, List.cons_append, List.nil_append, List.getElem?_cons_zero, List.getElem?_cons_succ, List.set_cons_zero, List.set_cons_succ, List.replicate_succ, List.replicate_zero, Nat.zero_add, Nat.reduceAdd, Nat.reduceSub, Nat.reduceLT, Option.join_some, Option.join_none, Option.bind_some, Option.map_some, List.all_cons, List.all_nil, Bool.and_true, Bool.true_and, Bool.not_true, Bool.not_false, and_true, true_and, if_true, if_false, Bool.false_eq_true, decide_true, decide_false, reduceIte]
        exact q)
def pt_q_order : FW := fun rs b Q => ∃ (h : House) (pos : Int), h.Ok ∧ rs = [.d h.rule, .d (.int pos)] ∧ Q (.int (h.order pos)) b
theorem mono_q_order : FMono pt_q_order := fun rs b Q Q' hh ⟨h, p, o, e, q⟩ => ⟨h, p, o, e, hh _ _ q⟩
abbrev s_q_order : Stmt := topS 54
theorem sc_q_order : FnScope ["_law_rule", "_law_here", "_law_found"] ["_law_rule", "_law_here"] (defScope s_q_order) := ⟨rfl, rfl, rfl, by decide +kernel, rfl, by decide +kernel, by decide +kernel⟩
theorem ok_q_order {f : Addr} {fd : FuncData} (F : Fun K "_law_order" "_law_order" s_q_order f fd) (hm : mg "_law_order" = some (.ref f)) (hb : Binds K fd ["_law_rule", "_law_here"] []) (nb : Nb mg) (kc : Kc mg) :
    Can P w K mg base 1 "_law_order" ["_law_rule", "_law_here"] pt_q_order := by
  exact fn_data F sc_q_order hm hb mono_q_order (fun md G cdv A outer s H E hr =>
    (pdb_cons (pds_if (pdt_ge (pv_ 1) (pd_ix (pv_ 0) pd_int)) (pdb_one (pds_ret pd_int)) pdb_nil)
      (pdb_cons (pds_if (pdt_eqS (pd_ix (pv_ 0) pd_int) pd_str) (pdb_one (pds_ret (pd_sub (pd_ix (pv_ 0) pd_int) (pv_ 1)))) pdb_nil)
      (pdb_cons (pds_set (i := 2) sc_q_order.nd rfl (by first | exact .inl rfl | exact .inr rfl) pd_int)
      (pdb_cons (pds_while PassesOwn.never (pdt_lt (pd_add (pv_ 1) (pv_ 2)) (pd_ix (pv_ 0) pd_int)) (pdb_one (pds_set (i := 2) sc_q_order.nd rfl (by first | exact .inl rfl | exact .inr rfl) (pd_add (pv_ 2) (pd_ix (pv_ 0) pd_int)))))
      (pdb_one (pds_ret (pv_ 2))))))))
    (by
      rintro rs b Q hl ⟨h, pos, ok, rfl, q⟩
      unfold House.rule
      simp only [sSeq, sNil, sAsg, sRet, sIf, sSet, sExpr, sFrz, sMove, sApp, sExt, sPar, eOp, eUn, eVar, eC, eIf, eAnd, eOr, eChain, tVal, uAnd, uOr, uNot, uTrue, eTup, eLst, eBi, eSl, partR, eIsi, eCall, eCallL, aCons, aNil, allD, dTup, dCons, dName, dNil, dSub, rho0, endD, lft, frz, stor, storAll, setAll, rtD, vIx, seqR, vII, vIC, vAdd, vSub, vMul, vFdiv, vMod, vPow, vLt, vLe, vGt, vGe, vEqS, vNeS, vIsN, vNotN, vNot, vNeg, isNo, vMin2, vMax2, vAbs, vInt1, vLen, vTuple, vList, vSum, isTy, vNotInK, vLenK, sKset, eDict1, datR, vEqD, vNeD, vCatT, vCatL, iSeq, iTupW, iRg1, iRg2, sFor, noL, noL1, lend, scalD, R.held, R.fresh, List.map_cons, List.map_nil, List.length_cons, List.length_nil, List.cons_append, List.nil_append, List.getElem?_cons_zero, List.getElem?_cons_succ, List.set_cons_zero, List.set_cons_succ, List.replicate_succ, List.replicate_zero, Nat.zero_add, Nat.reduceAdd, Nat.reduceSub, Nat.reduceLT, Option.join_some, Option.join_none, Option.bind_some, Option.map_some, List.all_cons, List.all_nil, Bool.and_true, Bool.true_and, Bool.not_true, Bool.not_false, and_true, true_and, if_true, if_false, Bool.false_eq_true, decide_true, decide_false, reduceIte, atI_0, atI_1, atI_2, word_fill]
      have om := ok.more
      unfold House.order at q
      by_cases h1 : h.low ≤ pos
      · rw [if_pos h1] at q
        simp only [decide_eq_true h1, if_true]
        exact q
      rw [if_neg h1] at q
      simp only [decide_eq_false h1, Bool.false_eq_true, if_false]
      by_cases h2 : h.fill = true
      · rw [if_pos h2] at q
        simp only [if_pos h2]
        exact q
      rw [if_neg h2] at q om
      simp only [if_neg h2]
      refine wh_cps (fun n ρ b' => ∃ j : Nat, ρ = [some (R.d (PyData.tuple [PyData.str (wordOf h.fill), PyData.int h.low, PyData.int h.more])), some (R.d (PyData.int pos)), some (R.d (PyData.int (j * h.more)))] ∧ b' = b ∧ (j : Int) * h.more < h.low - pos + h.more ∧ n = (h.low - pos - j * h.more).toNat) (fun _ _ => False) ?_ (fun _ _ h => h.elim) (n := (h.low - pos).toNat) ⟨0, by simp, rfl, by simp; omega, by simp⟩
      rintro n ρ b' Q' ⟨j, rfl, rfl, hj, rfl⟩ hnx hrt
      simp only [sSeq, sNil, sAsg, sRet, sIf, sSet, sExpr, sFrz, sMove, sApp, sExt, sPar, eOp, eUn, eVar, eC, eIf, eAnd, eOr, eChain, tVal, uAnd, uOr, uNot, uTrue, eTup, eLst, eBi, eSl, partR, eIsi, eCall, eCallL, aCons, aNil, allD, dTup, dCons, dName, dNil, dSub, rho0, endD, lft, frz, stor, storAll, setAll, rtD, vIx, seqR, vII, vIC, vAdd, vSub, vMul, vFdiv, vMod, vPow, vLt, vLe, vGt, vGe, vEqS, vNeS, vIsN, vNotN, vNot, vNeg, isNo, vMin2, vMax2, vAbs, vInt1, vLen, vTuple, vList, vSum, isTy, vNotInK, vLenK, sKset, eDict1, datR, vEqD, vNeD, vCatT, vCatL, iSeq, iTupW, iRg1, iRg2, sFor, noL, noL1, lend, scalD, R.held, R.fresh, List.map_cons, List.map_nil, List.length_cons, List.length_nil, List.cons_append, List.nil_append, List.getElem?_cons_zero, List.getElem?_cons_succ, List.set_cons_zero, List.set_cons_succ, List.replicate_succ, List.replicate_zero, Nat.zero_add, Nat.reduceAdd, Nat.reduceSub, Nat.reduceLT, Option.join_some, Option.join_none, Option.bind_some, Option.map_some, List.all_cons, List.all_nil, Bool.and_true, Bool.true_and, Bool.not_true, Bool.not_false, and_true, true_and, if_true, if_false, Bool.false_eq_true, decide_true, decide_false, reduceIte, atI_1, atI_2]
      by_cases h3 : pos + (j : Int) * h.more < h.low
      · simp only [decide_eq_true h3, if_true]
        refine hnx _ _ _ ?_ ⟨j + 1, ?_, rfl, ?_, rfl⟩
        · rw [show (((j + 1 : Nat) : Int)) * h.more = (j : Int) * h.more + h.more by rw [Int.natCast_add, Int.add_mul]; simp]
          omega
        · rw [show (((j + 1 : Nat) : Int)) * h.more = (j : Int) * h.more + h.more by rw [Int.natCast_add, Int.add_mul]; simp]
        · rw [show (((j + 1 : Nat) : Int)) * h.more = (j : Int) * h.more + h.more by rw [Int.natCast_add, Int.add_mul]; simp]
          omega
      · simp only [decide_eq_false h3, Bool.false_eq_true, if_false]
        have e1 : (h.low - pos + h.more - 1) / h.more = (j : Int) := by
          apply Int.le_antisymm
          · apply Int.le_of_lt_add_one
            apply Int.ediv_lt_of_lt_mul (by omega)
            rw [Int.add_mul, Int.one_mul]
            omega
          · apply Int.le_ediv_of_mul_le (by omega)
            omega
        rw [e1] at q
        exact q)
def pt_q_may : FW := pt_p_demands_at
theorem mono_q_may : FMono pt_q_may := mono_p_demands_at
abbrev s_q_may : Stmt := topS 56
theorem sc_q_may : FnScope ["_law_band_here", "_law_last", "_law_found", "_law_one"] ["_law_band_here", "_law_last"] (defScope s_q_may) := ⟨rfl, rfl, rfl, by decide +kernel, rfl, by decide +kernel, by decide +kernel⟩
theorem ok_q_may {f : Addr} {fd : FuncData} (F : Fun K "_law_may" "_law_may" s_q_may f fd) (hm : mg "_law_may" = some (.ref f)) (hb : Binds K fd ["_law_band_here", "_law_last"] []) (nb : Nb mg) (kc : Kc mg) :
    Can P w K mg base 1 "_law_may" ["_law_band_here", "_law_last"] pt_q_may := by
  exact fn_data F sc_q_may hm hb mono_q_may (fun md G cdv A outer s H E hr =>
    (pdb_cons (pds_set (i := 2) sc_q_may.nd rfl (by first | exact .inl rfl | exact .inr rfl) (pd_listRg rfl (by rfl) nb.list (by rfl) nb.range (pd_ix (pv_ 0) pd_int) (pd_add (pd_ix (pv_ 0) pd_int) pd_int)))
      (pdb_cons (pds_if (pdt_w (pdw_or (pdt_isN (pd_ix (pv_ 0) pd_int) pd_non) (pdw_or1 (pdt_isN (pv_ 1) pd_non)))) (pdb_one (pds_ret (pv_ 2))) pdb_nil)
      (pdb_frz 2 (pdb_one (pds_ret (pd_lcIf (own := [("_law_one", 3)]) (g := .inl 3) rfl sc_q_may.nd (pdi_list (pv_ 2)) (blkOk_by (own := [("_law_one", 3)]) (N := ["_law_band_here", "_law_last", "_law_found", "_law_one"]) (sc := defScope s_q_may) (by decide +kernel)) (fun _ _ _ _ _ => pg_name (i := 3) sc_q_may.nd rfl (Or.inl rfl)) (fun _ _ _ _ _ => (pdt_le (pd_abs (by rfl) nb.abs (pda_cons (pd_sub (pv_ 3) (pv_ 1)) pda_nil)) (pd_ix (pv_ 0) pd_int))) (fun _ _ _ _ _ => (pv_ 3)))))))))
    (by
      rintro rs b Q hl ⟨⟨least, most, turn⟩, last, ok, lok, rfl, q⟩
      simp only [sSeq, sNil, sAsg, sRet, sIf, sSet, sExpr, sFrz, sMove, sApp, sExt, sPar, eOp, eUn, eVar, eC, eIf, eAnd, eOr, eChain, tVal, uAnd, uOr, uNot, uTrue, eTup, eLst, eBi, eSl, partR, eIsi, eCall, eCallL, aCons, aNil, allD, dTup, dCons, dName, dNil, dSub, rho0, endD, lft, frz, stor, storAll, setAll, rtD, vIx, seqR, vII, vIC, vAdd, vSub, vMul, vFdiv, vMod, vPow, vLt, vLe, vGt, vGe, vEqS, vNeS, vIsN, vNotN, vNot, vNeg, isNo, vMin2, vMax2, vAbs, vInt1, vLen, vTuple, vList, vSum, isTy, vNotInK, vLenK, sKset, eDict1, datR, vEqD, vNeD, vCatT, vCatL, iSeq, iTupW, iRg1, iRg2, sFor, noL, noL1, lend, scalD, R.held, R.fresh, List.map_cons, List.map_nil, List.length_cons, List.length_nil, List.cons_append, List.nil_append, List.getElem?_cons_zero, List.getElem?_cons_succ, List.set_cons_zero, List.set_cons_succ, List.replicate_succ, List.replicate_zero, Nat.zero_add, Nat.reduceAdd, Nat.reduceSub, Nat.reduceLT, Option.join_some, Option.join_none, Option.bind_some, Option.map_some, List.all_cons, List.all_nil, Bool.and_true, Bool.true_and, Bool.not_true, Bool.not_false, and_true, true_and, if_true, if_false, Bool.false_eq_true, decide_true, decide_false, reduceIte, Band.enc, atI_0, atI_1, atI_2, eListRg]
      have o1 := ok.least
      have o2 := ok.most
      simp only at o1 o2
      refine ⟨⟨o1.1, by omega, by omega, by omega⟩, ?_⟩
      cases turn with
      | none =>
        simp only [encO, if_true]
        unfold Band.may Band.lo Band.hi at q
        simp only at q
        rw [rangeD_up]
        exact q
      | some t =>
        have o3 := ok.turn t rfl
        cases last with
        | none =>
          simp only [encO, if_true, Bool.false_eq_true, if_false]
          unfold Band.may Band.lo Band.hi at q
          simp only at q
          rw [rangeD_up]
          exact q
        | some l =>
          simp only [encO, if_true, Bool.false_eq_true, if_false]
          simp only [sSeq, sNil, sAsg, sRet, sIf, sSet, sExpr, sFrz, sMove, sApp, sExt, sPar, eOp, eUn, eVar, eC, eIf, eAnd, eOr, eChain, tVal, uAnd, uOr, uNot, uTrue, eTup, eLst, eBi, eSl, partR, eIsi, eCall, eCallL, aCons, aNil, allD, dTup, dCons, dName, dNil, dSub, rho0, endD, lft, frz, stor, storAll, setAll, rtD, vIx, seqR, vII, vIC, vAdd, vSub, vMul, vFdiv, vMod, vPow, vLt, vLe, vGt, vGe, vEqS, vNeS, vIsN, vNotN, vNot, vNeg, isNo, vMin2, vMax2, vAbs, vInt1, vLen, vTuple, vList, vSum, isTy, vNotInK, vLenK, sKset, eDict1, datR, vEqD, vNeD, vCatT, vCatL, iSeq, iTupW, iRg1, iRg2, sFor, noL, noL1, lend, scalD, R.held, R.fresh, List.map_cons, List.map_nil, List.length_cons, List.length_nil, List.cons_append, List.nil_append, List.getElem?_cons_zero, List.getElem?_cons_succ, List.set_cons_zero, List.set_cons_succ, List.replicate_succ, List.replicate_zero, Nat.zero_add, Nat.reduceAdd, Nat.reduceSub, Nat.reduceLT, Option.join_some, Option.join_none, Option.bind_some, Option.map_some, List.all_cons, List.all_nil, Bool.and_true, Bool.true_and, Bool.not_true, Bool.not_false, and_true, true_and, if_true, if_false, Bool.false_eq_true, decide_true, decide_false, reduceIte, eComp, wipeR]
          rw [rangeD_up]
          refine cmp_filter PyData.int PyData.int (fun x => decide (l - t ≤ x) && decide (x ≤ l + t)) (upTo least (most + 1)) b [] _ (fun a ha Q1 Q2 q1 q2 => ?_) ?_ ?_
          · simp only [sSeq, sNil, sAsg, sRet, sIf, sSet, sExpr, sFrz, sMove, sApp, sExt, sPar, eOp, eUn, eVar, eC, eIf, eAnd, eOr, eChain, tVal, uAnd, uOr, uNot, uTrue, eTup, eLst, eBi, eSl, partR, eIsi, eCall, eCallL, aCons, aNil, allD, dTup, dCons, dName, dNil, dSub, rho0, endD, lft, frz, stor, storAll, setAll, rtD, vIx, seqR, vII, vIC, vAdd, vSub, vMul, vFdiv, vMod, vPow, vLt, vLe, vGt, vGe, vEqS, vNeS, vIsN, vNotN, vNot, vNeg, isNo, vMin2, vMax2, vAbs, vInt1, vLen, vTuple, vList, vSum, isTy, vNotInK, vLenK, sKset, eDict1, datR, vEqD, vNeD, vCatT, vCatL, iSeq, iTupW, iRg1, iRg2, sFor, noL, noL1, lend, scalD, R.held, R.fresh, List.map_cons, List.map_nil, List.length_cons, List.length_nil, List.cons_append, List.nil_append, List.getElem?_cons_zero, List.getElem?_cons_succ, List.set_cons_zero, List.set_cons_succ, List.replicate_succ, List.replicate_zero, Nat.zero_add, Nat.reduceAdd, Nat.reduceSub, Nat.reduceLT, Option.join_some, Option.join_none, Option.bind_some, Option.map_some, List.all_cons, List.all_nil, Bool.and_true, Bool.true_and, Bool.not_true, Bool.not_false, and_true, true_and, if_true, if_false, Bool.false_eq_true, decide_true, decide_false, reduceIte, tgD, atI_2]
            by_cases hp : (if a - l < 0 then -(a - l) else a - l) ≤ t
            · simp only [decide_eq_true hp, if_true]
              refine q1 ?_
              rw [Bool.and_eq_true, decide_eq_true_eq, decide_eq_true_eq]
              split at hp <;> omega
            · simp only [decide_eq_false hp, Bool.false_eq_true, if_false]
              refine q2 ?_
              rw [Bool.and_eq_false_iff, decide_eq_false_iff_not, decide_eq_false_iff_not]
              split at hp <;> omega
          · unfold upTo
            rw [List.length_map, List.length_range, List.length_nil]
            omega
          · rw [upTo_filter (l - t) (l + t) _ _ _ rfl]
            unfold Band.may Band.lo Band.hi at q
            simp only at q
            have e2 : (if l + t + 1 < most + 1 then l + t + 1 else most + 1) = (if l + t < most then l + t else most) + 1 := by
              split <;> split <;> omega
            rw [e2]
            exact q)
def encRule (r : Bool × Int × Int) : PyData := .tuple [.str (wordOf r.1), .int r.2.1, .int r.2.2]
def lowB (most low : Int) : List (Bool × Int × Int) := (upTo 0 (most + 2)).flatMap fun more => (if (decide (low ≤ more) && decide (more ≤ most)) = true then [(true, low, more)] else []) ++ (if (decide (more > 0) && decide (low + more - 1 ≤ most)) = true then [(false, low, more)] else [])
theorem rulesB_len : ∀ most ∈ ([0, 1, 2, 3] : List Int), (rulesB most).length ≤ 100 := by decide +kernel
def pt_q_houses : FW := pt_p_all_houses
theorem mono_q_houses : FMono pt_q_houses := mono_p_all_houses
abbrev s_q_houses : Stmt := topS 62
theorem sc_q_houses : FnScope ["_law_most", "_law_found", "_law_low", "_law_more", "_law_some", "_law_late", "_law_rule"] ["_law_most"] (defScope s_q_houses) := ⟨rfl, rfl, rfl, by decide +kernel, rfl, by decide +kernel, by decide +kernel⟩
theorem ok_q_houses {f : Addr} {fd : FuncData} (F : Fun K "_law_houses" "_law_houses" s_q_houses f fd) (hm : mg "_law_houses" = some (.ref f)) (hb : Binds K fd ["_law_most"] []) (nb : Nb mg) (kc : Kc mg) :
    Can P w K mg base 1 "_law_houses" ["_law_most"] pt_q_houses := by
  exact fn_data F sc_q_houses hm hb mono_q_houses (fun md G cdv A outer s H E hr =>
    (pdb_cons (pds_set (i := 1) sc_q_houses.nd rfl (by first | exact .inl rfl | exact .inr rfl) (pd_lst pda_nil))
      (pdb_cons (pds_for PassesOwn.never rfl (pdi_range1 (by rfl) nb.range (pda_cons (pd_add (pv_ 0) pd_int) pda_nil)) (pdg_name (i := 2) sc_q_houses.nd rfl (by first | exact .inl rfl | exact .inr rfl)) (pdb_one (pds_for PassesOwn.never rfl (pdi_range1 (by rfl) nb.range (pda_cons (pd_add (pv_ 0) pd_int) pda_nil)) (pdg_name (i := 3) sc_q_houses.nd rfl (by first | exact .inl rfl | exact .inr rfl)) (pdb_cons (pds_if (pdt_chainLL (pv_ 2) (pv_ 3) (pv_ 0)) (pdb_one (pds_app2 (pd_tup (pda_cons pd_str (pda_cons (pv_ 2) (pda_cons (pv_ 3) pda_nil)))) (fun h => ps_expr (pe_bm PySem.F.plainAttrs_list PySem.F.slot_list_append PySem.F.type_list_append mt_append (pv 1) (pa_cons h pa_nil))))) pdb_nil)
      (pdb_one (pds_if (pdt_w (pdw_and (pdt_gt (pv_ 3) pd_int) (pdw_and1 (pdt_le (pd_sub (pd_add (pv_ 2) (pv_ 3)) pd_int) (pv_ 0))))) (pdb_one (pds_app2 (pd_tup (pda_cons pd_str (pda_cons (pv_ 2) (pda_cons (pv_ 3) pda_nil)))) (fun h => ps_expr (pe_bm PySem.F.plainAttrs_list PySem.F.slot_list_append PySem.F.type_list_append mt_append (pv 1) (pa_cons h pa_nil))))) pdb_nil))))))
      (pdb_cons (pds_set (i := 4) sc_q_houses.nd rfl (by first | exact .inl rfl | exact .inr rfl) (pd_lst pda_nil))
      (pdb_frz 1 (pdb_cons (pds_for PassesOwn.never rfl (pdi_tup (pd_tup (pda_cons pd_int (pda_cons pd_int (pda_cons pd_int (pda_cons pd_int pda_nil)))))) (pdg_name (i := 5) sc_q_houses.nd rfl (by first | exact .inl rfl | exact .inr rfl)) (pdb_one (pds_set (i := 4) sc_q_houses.nd rfl (by first | exact .inl rfl | exact .inr rfl) (pd_catL (pv_ 4) (pd_lc (own := [("_law_rule", 6)]) (g := .inl 6) rfl sc_q_houses.nd (pdi_list (pv_ 1)) (blkOk_by (own := [("_law_rule", 6)]) (N := ["_law_most", "_law_found", "_law_low", "_law_more", "_law_some", "_law_late", "_law_rule"]) (sc := defScope s_q_houses) (by decide +kernel)) (fun _ _ _ _ _ => pg_name (i := 6) sc_q_houses.nd rfl (Or.inl rfl)) (fun _ _ _ _ _ => (pd_tup (pda_cons (pv_ 6) (pda_cons (pv_ 5) pda_nil)))))))))
      (pdb_one (pds_ret (pd_sorted hr.units (by rfl) nb.sorted (pda_cons (pv_ 4) pda_nil))))))))))
    (by
      rintro rs b Q hl ⟨most, hm, rfl, q⟩
      simp only [sSeq, sNil, sAsg, sRet, sIf, sSet, sExpr, sFrz, sMove, sApp, sExt, sPar, eOp, eUn, eVar, eC, eIf, eAnd, eOr, eChain, tVal, uAnd, uOr, uNot, uTrue, eTup, eLst, eBi, eSl, partR, eIsi, eCall, eCallL, aCons, aNil, allD, dTup, dCons, dName, dNil, dSub, rho0, endD, lft, frz, stor, storAll, setAll, rtD, vIx, seqR, vII, vIC, vAdd, vSub, vMul, vFdiv, vMod, vPow, vLt, vLe, vGt, vGe, vEqS, vNeS, vIsN, vNotN, vNot, vNeg, isNo, vMin2, vMax2, vAbs, vInt1, vLen, vTuple, vList, vSum, isTy, vNotInK, vLenK, sKset, eDict1, datR, vEqD, vNeD, vCatT, vCatL, iSeq, iTupW, iRg1, iRg2, sFor, noL, noL1, lend, scalD, R.held, R.fresh, List.map_cons, List.map_nil, List.length_cons, List.length_nil, List.cons_append, List.nil_append, List.getElem?_cons_zero, List.getElem?_cons_succ, List.set_cons_zero, List.set_cons_succ, List.replicate_succ, List.replicate_zero, Nat.zero_add, Nat.reduceAdd, Nat.reduceSub, Nat.reduceLT, Option.join_some, Option.join_none, Option.bind_some, Option.map_some, List.all_cons, List.all_nil, Bool.and_true, Bool.true_and, Bool.not_true, Bool.not_false, and_true, true_and, if_true, if_false, Bool.false_eq_true, decide_true, decide_false, reduceIte]
      have hm2 : 0 ≤ most ∧ most ≤ 3 := by
        simp only [List.mem_cons, List.not_mem_nil, or_false] at hm
        omega
      have hlen := rulesB_len most hm
      refine ⟨by omega, ?_⟩
      rw [rangeD_up]
      refine for_list PyData.int (fun rest ρ b' => ∃ (done : List (Bool × Int × Int)) (z2 z3 : Option R), done ++ rest.flatMap (lowB most) = rulesB most ∧ b' = b ∧ (∀ x ∈ rest, x ∈ upTo 0 (most + 1)) ∧ ρ = [some (.d (.int most)), some (.o false (done.map encRule)), z2, z3, none, none, none]) (fun _ _ => False) ?_ ?_ (fun _ _ h => h.elim) (upTo 0 (most + 1)) ⟨[], none, none, rfl, rfl, fun _ h => h, rfl⟩
      · rintro low rest ρ b' Q' ⟨done, z2, z3, hd, rfl, hsub, rfl⟩ hnx hrt
        have hd2 : done ++ ((upTo 0 (most + 2)).flatMap (fun more => (if (decide (low ≤ more) && decide (more ≤ most)) = true then [(true, low, more)] else []) ++ (if (decide (more > 0) && decide (low + more - 1 ≤ most)) = true then [(false, low, more)] else [])) ++ rest.flatMap (lowB most)) = rulesB most := hd
        simp only [sSeq, sNil, sAsg, sRet, sIf, sSet, sExpr, sFrz, sMove, sApp, sExt, sPar, eOp, eUn, eVar, eC, eIf, eAnd, eOr, eChain, tVal, uAnd, uOr, uNot, uTrue, eTup, eLst, eBi, eSl, partR, eIsi, eCall, eCallL, aCons, aNil, allD, dTup, dCons, dName, dNil, dSub, rho0, endD, lft, frz, stor, storAll, setAll, rtD, vIx, seqR, vII, vIC, vAdd, vSub, vMul, vFdiv, vMod, vPow, vLt, vLe, vGt, vGe, vEqS, vNeS, vIsN, vNotN, vNot, vNeg, isNo, vMin2, vMax2, vAbs, vInt1, vLen, vTuple, vList, vSum, isTy, vNotInK, vLenK, sKset, eDict1, datR, vEqD, vNeD, vCatT, vCatL, iSeq, iTupW, iRg1, iRg2, sFor, noL, noL1, lend, scalD, R.held, R.fresh, List.map_cons, List.map_nil, List.length_cons, List.length_nil, List.cons_append, List.nil_append, List.getElem?_cons_zero, List.getElem?_cons_succ, List.set_cons_zero, List.set_cons_succ, List.replicate_succ, List.replicate_zero, Nat.zero_add, Nat.reduceAdd, Nat.reduceSub, Nat.reduceLT, Option.join_some, Option.join_none, Option.bind_some, Option.map_some, List.all_cons, List.all_nil, Bool.and_true, Bool.true_and, Bool.not_true, Bool.not_false, and_true, true_and, if_true, if_false, Bool.false_eq_true, decide_true, decide_false, reduceIte]
        refine ⟨by omega, ?_⟩
        rw [rangeD_up]
        refine for_list PyData.int (fun rest2 ρ b2 => ∃ (done2 : List (Bool × Int × Int)) (z3 : Option R), done2 ++ (rest2.flatMap (fun more => (if (decide (low ≤ more) && decide (more ≤ most)) = true then [(true, low, more)] else []) ++ (if (decide (more > 0) && decide (low + more - 1 ≤ most)) = true then [(false, low, more)] else [])) ++ rest.flatMap (lowB most)) = rulesB most ∧ b2 = b' ∧ ρ = [some (.d (.int most)), some (.o false (done2.map encRule)), some (.d (.int low)), z3, none, none, none]) (fun _ _ => False) ?_ ?_ (fun _ _ h => h.elim) (upTo 0 (most + 2)) ⟨done, z3, hd2, rfl, rfl⟩
        · rintro more rest2 ρ b2 Q2 ⟨done2, z3, hd3, rfl, rfl⟩ hnx2 hrt2
          rw [List.flatMap_cons] at hd3
          have hl3 := congrArg List.length hd3
          simp only [List.length_append] at hl3
          have z1 : (done2.map encRule).length < sizeLine := by rw [List.length_map, sizeLine_eq]; omega
          have z2 : ∀ r, (done2.map encRule ++ [r]).length < sizeLine := fun r => by rw [List.length_append, List.length_map, sizeLine_eq, List.length_singleton]; omega
          have fin : ∀ (l1 : List (Bool × Int × Int)), (done2 ++ l1) ++ (rest2.flatMap (fun more => (if (decide (low ≤ more) && decide (more ≤ most)) = true then [(true, low, more)] else []) ++ (if (decide (more > 0) && decide (low + more - 1 ≤ most)) = true then [(false, low, more)] else [])) ++ rest.flatMap (lowB most)) = rulesB most → Q2 (.nx [some (.d (.int most)), some (.o false (done2.map encRule ++ l1.map encRule)), some (.d (.int low)), some (.d (.int more)), none, none, none]) b2 := fun l1 h => by
            rw [← List.map_append]
            exact hnx2 _ _ ⟨done2 ++ l1, _, h, rfl, rfl⟩
          have hd4 : ∀ l1, (if (decide (low ≤ more) && decide (more ≤ most)) = true then [(true, low, more)] else []) ++ (if (decide (more > 0) && decide (low + more - 1 ≤ most)) = true then [(false, low, more)] else []) = l1 → (done2 ++ l1) ++ (rest2.flatMap (fun more => (if (decide (low ≤ more) && decide (more ≤ most)) = true then [(true, low, more)] else []) ++ (if (decide (more > 0) && decide (low + more - 1 ≤ most)) = true then [(false, low, more)] else [])) ++ rest.flatMap (lowB most)) = rulesB most := fun l1 e => by
            rw [← e, ← hd3]
            simp only [List.append_assoc]
          by_cases a1 : low ≤ more <;> by_cases a2 : more ≤ most <;> by_cases a3 : 0 < more <;> by_cases a4 : low + more - 1 ≤ most <;>
          · have e1 := fin _ (hd4 _ rfl)
            simp only [gt_iff_lt, a1, a2, a3, a4, decide_true, decide_false, Bool.and_true, Bool.and_false, Bool.true_and, Bool.false_and, Bool.false_eq_true, if_true, if_false, List.append_nil, List.nil_append, List.cons_append, List.map_cons, List.map_nil] at e1
            simp only [sSeq, sNil, sAsg, sRet, sIf, sSet, sExpr, sFrz, sMove, sApp, sExt, sPar, eOp, eUn, eVar, eC, eIf, eAnd, eOr, eChain, tVal, uAnd, uOr, uNot, uTrue, eTup, eLst, eBi, eSl, partR, eIsi, eCall, eCallL, aCons, aNil, allD, dTup, dCons, dName, dNil, dSub, rho0, endD, lft, frz, stor, storAll, setAll, rtD, vIx, seqR, vII, vIC, vAdd, vSub, vMul, vFdiv, vMod, vPow, vLt, vLe, vGt, vGe, vEqS, vNeS, vIsN, vNotN, vNot, vNeg, isNo, vMin2, vMax2, vAbs, vInt1, vLen, vTuple, vList, vSum, isTy, vNotInK, vLenK, sKset, eDict1, datR, vEqD, vNeD, vCatT, vCatL, iSeq, iTupW, iRg1, iRg2, sFor, noL, noL1, lend, scalD, R.held, R.fresh, List.map_cons, List.map_nil, List.length_cons, List.length_nil, List.cons_append, List.nil_append, List.getElem?_cons_zero, List.getElem?_cons_succ, List.set_cons_zero, List.set_cons_succ, List.replicate_succ, List.replicate_zero, Nat.zero_add, Nat.reduceAdd, Nat.reduceSub, Nat.reduceLT, Option.join_some, Option.join_none, Option.bind_some, Option.map_some, List.all_cons, List.all_nil, Bool.and_true, Bool.true_and, Bool.not_true, Bool.not_false, and_true, true_and, if_true, if_false, Bool.false_eq_true, decide_true, decide_false, reduceIte, gt_iff_lt, a1, a2, a3, a4, decide_true, decide_false, z1, z2]
            first
              | exact e1
              | exact (by simpa [encRule, wordOf] using e1)
        · rintro ρ b2 ⟨done2, z3, hd3, rfl, rfl⟩
          exact hnx _ _ ⟨done2, _, _, hd3, rfl, fun x hx => hsub x (List.mem_cons_of_mem _ hx), rfl⟩
      · rintro ρ b' ⟨done, z2, z3, hd, rfl, hsub, rfl⟩
        rw [List.flatMap_nil, List.append_nil] at hd
        subst hd
        simp only [sSeq, sNil, sAsg, sRet, sIf, sSet, sExpr, sFrz, sMove, sApp, sExt, sPar, eOp, eUn, eVar, eC, eIf, eAnd, eOr, eChain, tVal, uAnd, uOr, uNot, uTrue, eTup, eLst, eBi, eSl, partR, eIsi, eCall, eCallL, aCons, aNil, allD, dTup, dCons, dName, dNil, dSub, rho0, endD, lft, frz, stor, storAll, setAll, rtD, vIx, seqR, vII, vIC, vAdd, vSub, vMul, vFdiv, vMod, vPow, vLt, vLe, vGt, vGe, vEqS, vNeS, vIsN, vNotN, vNot, vNeg, isNo, vMin2, vMax2, vAbs, vInt1, vLen, vTuple, vList, vSum, isTy, vNotInK, vLenK, sKset, eDict1, datR, vEqD, vNeD, vCatT, vCatL, iSeq, iTupW, iRg1, iRg2, sFor, noL, noL1, lend, scalD, R.held, R.fresh, List.map_cons, List.map_nil, List.length_cons, List.length_nil, List.cons_append, List.nil_append, List.getElem?_cons_zero, List.getElem?_cons_succ, List.set_cons_zero, List.set_cons_succ, List.replicate_succ, List.replicate_zero, Nat.zero_add, Nat.reduceAdd, Nat.reduceSub, Nat.reduceLT, Option.join_some, Option.join_none, Option.bind_some, Option.map_some, List.all_cons, List.all_nil, Bool.and_true, Bool.true_and, Bool.not_true, Bool.not_false, and_true, true_and, if_true, if_false, Bool.false_eq_true, decide_true, decide_false, reduceIte]
        have e4 : [PyData.int 1, PyData.int 2, PyData.int 3, PyData.int 4] = ([1, 2, 3, 4] : List Nat).map (fun n => PyData.int ((n : Nat) : Int)) := rfl
        rw [e4]
        refine for_list (fun n : Nat => PyData.int ((n : Nat) : Int)) (fun rest ρ b2 => ∃ (done : List House) (z5 : Option R), done ++ rest.flatMap (fun late => (rulesB most).map (mkH late)) = housesB most ∧ b2 = b' ∧ ρ = [some (.d (.int most)), some (.d (.list ((rulesB most).map encRule))), z2, z3, some (.o false (done.map House.enc)), z5, none]) (fun _ _ => False) ?_ ?_ (fun _ _ h => h.elim) [1, 2, 3, 4] ⟨[], none, rfl, rfl, rfl⟩
        · rintro late rest ρ b2 Q2 ⟨done, z5, hd, rfl, rfl⟩ hnx2 hrt2
          rw [List.flatMap_cons] at hd
          have hl3 := congrArg List.length hd
          have hb : (housesB most).length ≤ 80 := by rw [← (ordH_permB most hm).length_eq]; exact ordH_len most hm
          simp only [List.length_append, List.length_map] at hl3
          simp only [sSeq, sNil, sAsg, sRet, sIf, sSet, sExpr, sFrz, sMove, sApp, sExt, sPar, eOp, eUn, eVar, eC, eIf, eAnd, eOr, eChain, tVal, uAnd, uOr, uNot, uTrue, eTup, eLst, eBi, eSl, partR, eIsi, eCall, eCallL, aCons, aNil, allD, dTup, dCons, dName, dNil, dSub, rho0, endD, lft, frz, stor, storAll, setAll, rtD, vIx, seqR, vII, vIC, vAdd, vSub, vMul, vFdiv, vMod, vPow, vLt, vLe, vGt, vGe, vEqS, vNeS, vIsN, vNotN, vNot, vNeg, isNo, vMin2, vMax2, vAbs, vInt1, vLen, vTuple, vList, vSum, isTy, vNotInK, vLenK, sKset, eDict1, datR, vEqD, vNeD, vCatT, vCatL, iSeq, iTupW, iRg1, iRg2, sFor, noL, noL1, lend, scalD, R.held, R.fresh, List.map_cons, List.map_nil, List.length_cons, List.length_nil, List.cons_append, List.nil_append, List.getElem?_cons_zero, List.getElem?_cons_succ, List.set_cons_zero, List.set_cons_succ, List.replicate_succ, List.replicate_zero, Nat.zero_add, Nat.reduceAdd, Nat.reduceSub, Nat.reduceLT, Option.join_some, Option.join_none, Option.bind_some, Option.map_some, List.all_cons, List.all_nil, Bool.and_true, Bool.true_and, Bool.not_true, Bool.not_false, and_true, true_and, if_true, if_false, Bool.false_eq_true, decide_true, decide_false, reduceIte, eComp, wipeR]
          refine cmp_map encRule (fun r => (mkH late r).enc) (rulesB most) b2 [] _ (fun r hr b Q q => ?_) (by rw [List.length_nil]; omega) ?_
          · simp only [sSeq, sNil, sAsg, sRet, sIf, sSet, sExpr, sFrz, sMove, sApp, sExt, sPar, eOp, eUn, eVar, eC, eIf, eAnd, eOr, eChain, tVal, uAnd, uOr, uNot, uTrue, eTup, eLst, eBi, eSl, partR, eIsi, eCall, eCallL, aCons, aNil, allD, dTup, dCons, dName, dNil, dSub, rho0, endD, lft, frz, stor, storAll, setAll, rtD, vIx, seqR, vII, vIC, vAdd, vSub, vMul, vFdiv, vMod, vPow, vLt, vLe, vGt, vGe, vEqS, vNeS, vIsN, vNotN, vNot, vNeg, isNo, vMin2, vMax2, vAbs, vInt1, vLen, vTuple, vList, vSum, isTy, vNotInK, vLenK, sKset, eDict1, datR, vEqD, vNeD, vCatT, vCatL, iSeq, iTupW, iRg1, iRg2, sFor, noL, noL1, lend, scalD, R.held, R.fresh, List.map_cons, List.map_nil, List.length_cons, List.length_nil, List.cons_append, List.nil_append, List.getElem?_cons_zero, List.getElem?_cons_succ, List.set_cons_zero, List.set_cons_succ, List.replicate_succ, List.replicate_zero, Nat.zero_add, Nat.reduceAdd, Nat.reduceSub, Nat.reduceLT, Option.join_some, Option.join_none, Option.bind_some, Option.map_some, List.all_cons, List.all_nil, Bool.and_true, Bool.true_and, Bool.not_true, Bool.not_false, and_true, true_and, if_true, if_false, Bool.false_eq_true, decide_true, decide_false, reduceIte, tgD]
            exact q
          · have e5 : ([] : List PyData) ++ (rulesB most).map (fun r => (mkH late r).enc) = ((rulesB most).map (mkH late)).map House.enc := by rw [List.map_map]; rfl
            have z1 : (done.map House.enc).length + (((rulesB most).map (mkH late)).map House.enc).length ≤ 1000000 := by rw [List.length_map, List.length_map, List.length_map]; omega
            rw [e5]
            simp only [sSeq, sNil, sAsg, sRet, sIf, sSet, sExpr, sFrz, sMove, sApp, sExt, sPar, eOp, eUn, eVar, eC, eIf, eAnd, eOr, eChain, tVal, uAnd, uOr, uNot, uTrue, eTup, eLst, eBi, eSl, partR, eIsi, eCall, eCallL, aCons, aNil, allD, dTup, dCons, dName, dNil, dSub, rho0, endD, lft, frz, stor, storAll, setAll, rtD, vIx, seqR, vII, vIC, vAdd, vSub, vMul, vFdiv, vMod, vPow, vLt, vLe, vGt, vGe, vEqS, vNeS, vIsN, vNotN, vNot, vNeg, isNo, vMin2, vMax2, vAbs, vInt1, vLen, vTuple, vList, vSum, isTy, vNotInK, vLenK, sKset, eDict1, datR, vEqD, vNeD, vCatT, vCatL, iSeq, iTupW, iRg1, iRg2, sFor, noL, noL1, lend, scalD, R.held, R.fresh, List.map_cons, List.map_nil, List.length_cons, List.length_nil, List.cons_append, List.nil_append, List.getElem?_cons_zero, List.getElem?_cons_succ, List.set_cons_zero, List.set_cons_succ, List.replicate_succ, List.replicate_zero, Nat.zero_add, Nat.reduceAdd, Nat.reduceSub, Nat.reduceLT, Option.join_some, Option.join_none, Option.bind_some, Option.map_some, List.all_cons, List.all_nil, Bool.and_true, Bool.true_and, Bool.not_true, Bool.not_false, and_true, true_and, if_true, if_false, Bool.false_eq_true, decide_true, decide_false, reduceIte, z1]
            rw [← List.map_append]
            exact hnx2 _ _ ⟨done ++ (rulesB most).map (mkH late), _, by rw [← hd]; simp only [List.append_assoc], rfl, rfl⟩
        · rintro ρ b2 ⟨done, z5, hd, rfl, rfl⟩
          rw [List.flatMap_nil, List.append_nil] at hd
          subst hd
          have hb : (housesB most).length ≤ 80 := by rw [← (ordH_permB most hm).length_eq]; exact ordH_len most hm
          have ok : SortOk ((housesB most).map House.enc) := sort_ok (by omega)
          simp only [sSeq, sNil, sAsg, sRet, sIf, sSet, sExpr, sFrz, sMove, sApp, sExt, sPar, eOp, eUn, eVar, eC, eIf, eAnd, eOr, eChain, tVal, uAnd, uOr, uNot, uTrue, eTup, eLst, eBi, eSl, partR, eIsi, eCall, eCallL, aCons, aNil, allD, dTup, dCons, dName, dNil, dSub, rho0, endD, lft, frz, stor, storAll, setAll, rtD, vIx, seqR, vII, vIC, vAdd, vSub, vMul, vFdiv, vMod, vPow, vLt, vLe, vGt, vGe, vEqS, vNeS, vIsN, vNotN, vNot, vNeg, isNo, vMin2, vMax2, vAbs, vInt1, vLen, vTuple, vList, vSum, isTy, vNotInK, vLenK, sKset, eDict1, datR, vEqD, vNeD, vCatT, vCatL, iSeq, iTupW, iRg1, iRg2, sFor, noL, noL1, lend, scalD, R.held, R.fresh, List.map_cons, List.map_nil, List.length_cons, List.length_nil, List.cons_append, List.nil_append, List.getElem?_cons_zero, List.getElem?_cons_succ, List.set_cons_zero, List.set_cons_succ, List.replicate_succ, List.replicate_zero, Nat.zero_add, Nat.reduceAdd, Nat.reduceSub, Nat.reduceLT, Option.join_some, Option.join_none, Option.bind_some, Option.map_some, List.all_cons, List.all_nil, Bool.and_true, Bool.true_and, Bool.not_true, Bool.not_false, and_true, true_and, if_true, if_false, Bool.false_eq_true, decide_true, decide_false, reduceIte, vSorted, if_pos ok, sortedB hm]
          exact q)
end
end L2.U
/-! The law's defs: a day. -/
namespace L2.U
open PySem PySem.Spec PyProof.Rows
section
variable {P : Program} {w : World} {K : PySem.W.Frag} {mg : Str → Option Value} {base : Heap}
theorem last_ints {l : List Int} (v : Int) (h : l ≠ []) : atI (l.map PyData.int) (-1) = some (.int (l.getLastD 0)) ∧ (l.map PyData.int).set (l.length - 1) (.int (l.getLastD 0 + v)) = (l.dropLast ++ [l.getLastD 0 + v]).map PyData.int := by
  obtain ⟨x, hx⟩ : ∃ x, l = l.dropLast ++ [x] := ⟨l.getLast h, (List.dropLast_concat_getLast h).symm⟩
  generalize l.dropLast = m at hx
  subst hx
  have e1 : (m ++ [x]).getLastD 0 = x := by simp
  rw [e1]
  constructor
  · refine atI_lastG (by simp) ?_
    rw [List.length_map, List.getElem?_map]
    simp
  · simp
def pt_q_day : FW := fun rs b Q => ∃ (c : Chain) (s : Stand) (d : Int), c.Ok ∧ PlOk c.houses.length s ∧ rs = [.d c.enc, .d (encS s), .d (.int d)] ∧ ∀ full, Q (.tuple [encS (dayS c s d), (dayN c s d).enc, full]) b
theorem mono_q_day : FMono pt_q_day := fun rs b Q Q' hh ⟨c, s, d, o, o2, e, q⟩ => ⟨c, s, d, o, o2, e, fun f => hh _ _ (q f)⟩
abbrev s_q_day : Stmt := topS 55
theorem sc_q_day : FnScope ["_law_chain_here", "_law_stand", "_law_demand", "_law_piles", "_law_owed", "_law_place", "_law_roads", "_law_full", "_law_asked", "_law_orders", "_law_told", "_law_k", "_law_due", "_law_sent", "_law_above", "_law_gone", "_law_behind"] ["_law_chain_here", "_law_stand", "_law_demand"] (defScope s_q_day) := ⟨rfl, rfl, rfl, by decide +kernel, rfl, by decide +kernel, by decide +kernel⟩
theorem ok_q_day {f : Addr} {fd : FuncData} (F : Fun K "_law_day" "_law_day" s_q_day f fd) (hm : mg "_law_day" = some (.ref f)) (hb : Binds K fd ["_law_chain_here", "_law_stand", "_law_demand"] []) (nb : Nb mg) (kc : Kc mg) (C_q_order : Can P w K mg base 1 "_law_order" ["_law_rule", "_law_here"] pt_q_order) :
    Can P w K mg base 2 "_law_day" ["_law_chain_here", "_law_stand", "_law_demand"] pt_q_day := by
  exact fn_data F sc_q_day hm hb mono_q_day (fun md G cdv A outer s H E hr =>
    (pdb_cons (pds_parNX (is := [3, 4]) (n := 2) (pda_cons (pd_lc (own := [("_law_place", 5)]) (g := .inl 5) rfl sc_q_day.nd (pdi_tup (pv_ 1)) (blkOk_by (own := [("_law_place", 5)]) (N := ["_law_chain_here", "_law_stand", "_law_demand", "_law_piles", "_law_owed", "_law_place", "_law_roads", "_law_full", "_law_asked", "_law_orders", "_law_told", "_law_k", "_law_due", "_law_sent", "_law_above", "_law_gone", "_law_behind"]) (sc := defScope s_q_day) (by decide +kernel)) (fun _ _ _ _ _ => pg_name (i := 5) sc_q_day.nd rfl (Or.inl rfl)) (fun _ _ _ _ _ => (pd_add (pd_ix (pv_ 5) pd_int) (pd_ix (pd_ix (pv_ 5) pd_int) pd_int)))) (pda_cons (pd_lc (own := [("_law_place", 5)]) (g := .inl 5) rfl sc_q_day.nd (pdi_tup (pv_ 1)) (blkOk_by (own := [("_law_place", 5)]) (N := ["_law_chain_here", "_law_stand", "_law_demand", "_law_piles", "_law_owed", "_law_place", "_law_roads", "_law_full", "_law_asked", "_law_orders", "_law_told", "_law_k", "_law_due", "_law_sent", "_law_above", "_law_gone", "_law_behind"]) (sc := defScope s_q_day) (by decide +kernel)) (fun _ _ _ _ _ => pg_name (i := 5) sc_q_day.nd rfl (Or.inl rfl)) (fun _ _ _ _ _ => (pd_ix (pv_ 5) pd_int))) pda_nil)) (fun h => ps_asg (pe_tup h) (pg_tup (n := 2) rfl (pgs_cons (pg_name (i := 3) sc_q_day.nd rfl (by first | exact .inl rfl | exact .inr rfl)) (pgs_cons (pg_name (i := 4) sc_q_day.nd rfl (by first | exact .inl rfl | exact .inr rfl)) pgs_nil)))))
      (pdb_cons (pds_set (i := 6) sc_q_day.nd rfl (by first | exact .inl rfl | exact .inr rfl) (pd_lcL (own := [("_law_place", 5)]) (g := .inl 5) rfl sc_q_day.nd (pdi_tup (pv_ 1)) (blkOk_by (own := [("_law_place", 5)]) (N := ["_law_chain_here", "_law_stand", "_law_demand", "_law_piles", "_law_owed", "_law_place", "_law_roads", "_law_full", "_law_asked", "_law_orders", "_law_told", "_law_k", "_law_due", "_law_sent", "_law_above", "_law_gone", "_law_behind"]) (sc := defScope s_q_day) (by decide +kernel)) (fun _ _ _ _ _ => pg_name (i := 5) sc_q_day.nd rfl (Or.inl rfl)) (fun _ _ _ _ _ => (pd_catL (pd_list (by rfl) nb.list (pda_cons (pd_slT (pd_ix (pv_ 5) pd_int) (pdo_some pd_int) pdo_none) pda_nil)) (pd_lst (pda_cons pd_int pda_nil))))))
      (pdb_cons (pds_parNX (is := [7, 8, 9, 10]) (n := 4) (pda_cons (pd_tuple (by rfl) nb.tuple (pda_cons (pv_ 3) pda_nil)) (pda_cons (pv_ 2) (pda_cons (pd_lst pda_nil) (pda_cons (pd_tup (pda_cons pd_int (pda_cons pd_int pda_nil))) pda_nil)))) (fun h => ps_asg (pe_tup h) (pg_tup (n := 4) rfl (pgs_cons (pg_name (i := 7) sc_q_day.nd rfl (by first | exact .inl rfl | exact .inr rfl)) (pgs_cons (pg_name (i := 8) sc_q_day.nd rfl (by first | exact .inl rfl | exact .inr rfl)) (pgs_cons (pg_name (i := 9) sc_q_day.nd rfl (by first | exact .inl rfl | exact .inr rfl)) (pgs_cons (pg_name (i := 10) sc_q_day.nd rfl (by first | exact .inl rfl | exact .inr rfl)) pgs_nil)))))))
      (pdb_cons (pds_for PassesOwn.never rfl (pdi_range1 (by rfl) nb.range (pda_cons (pd_len (by rfl) nb.len (pda_cons (pv_ 3) pda_nil)) pda_nil)) (pdg_name (i := 11) sc_q_day.nd rfl (by first | exact .inl rfl | exact .inr rfl)) (pdb_cons (pds_set (i := 12) sc_q_day.nd rfl (by first | exact .inl rfl | exact .inr rfl) (pd_add (pd_ix (pv_ 4) (pv_ 11)) (pv_ 8)))
      (pdb_cons (pds_set (i := 13) sc_q_day.nd rfl (by first | exact .inl rfl | exact .inr rfl) (pd_if (pdt_le (pv_ 12) (pd_ix (pv_ 3) (pv_ 11))) (pv_ 12) (pd_ix (pv_ 3) (pv_ 11))))
      (pdb_cons (pds_asg (pd_sub (pd_ix (pv_ 3) (pv_ 11)) (pv_ 13)) (pdg_sub (pv 3) (pv_ 11)))
      (pdb_cons (pds_asg (pd_sub (pv_ 12) (pv_ 13)) (pdg_sub (pv 4) (pv_ 11)))
      (pdb_cons (pds_if (pdt_eqS (pv_ 11) pd_int) (pdb_cons (pds_set (i := 15) sc_q_day.nd rfl (by first | exact .inl rfl | exact .inr rfl) (pd_if (pdt_gt (pd_ix (pv_ 4) pd_int) (pd_ix (pv_ 0) pd_int)) (pd_sub (pd_ix (pv_ 4) pd_int) (pd_ix (pv_ 0) pd_int)) pd_int))
      (pdb_one (pds_asg (pd_tup (pda_cons (pd_sub (pd_ix (pv_ 4) pd_int) (pv_ 15)) (pda_cons (pd_tup (pda_cons (pv_ 13) (pda_cons (pv_ 15) pda_nil))) pda_nil))) (pdg_tup (n := 2) rfl (pdgs_cons (pdg_sub (pv 4) pd_int) (pdgs_cons (pdg_name (i := 10) sc_q_day.nd rfl (by first | exact .inl rfl | exact .inr rfl)) pdgs_nil)))))) (pdb_one (pds_asg (pd_add (pd_ix (pd_ixoo (pv_ 6) (pd_sub (pv_ 11) pd_int)) (pd_neg pd_int)) (pv_ 13)) (pdg_suboo (pv 6) (pd_sub (pv_ 11) pd_int) (pd_neg pd_int)))))
      (pdb_cons (pds_set (i := 14) sc_q_day.nd rfl (by first | exact .inl rfl | exact .inr rfl) (pd_if (pdt_lt (pd_add (pv_ 11) pd_int) (pd_len (by rfl) nb.len (pda_cons (pv_ 3) pda_nil))) (pd_ix (pv_ 4) (pd_add (pv_ 11) pd_int)) pd_int))
      (pdb_cons (pds_set (i := 8) sc_q_day.nd rfl (by first | exact .inl rfl | exact .inr rfl) (pd_call C_q_order (hr.mono (by decide)) (by rfl) (pda_cons (pd_ix (pd_ix (pd_ix (pv_ 0) pd_int) (pv_ 11)) pd_int) (pda_cons (pd_sub (pd_add (pd_add (pd_ix (pv_ 3) (pv_ 11)) (pd_sum rfl (by rfl) nb.sum (pda_cons (pd_ixoo (pv_ 6) (pv_ 11)) pda_nil))) (pv_ 14)) (pd_ix (pv_ 4) (pv_ 11))) pda_nil))))
      (pdb_one (pds_app2 (pv_ 8) (fun h => ps_expr (pe_bm PySem.F.plainAttrs_list PySem.F.slot_list_append PySem.F.type_list_append mt_append (pv 9) (pa_cons h pa_nil)))))))))))))
      (pdb_cons (pds_asg (pd_add (pd_ix (pd_ixoo (pv_ 6) (pd_neg pd_int)) (pd_neg pd_int)) (pv_ 8)) (pdg_suboo (pv 6) (pd_neg pd_int) (pd_neg pd_int)))
      (pdb_cons (pds_set (i := 16) sc_q_day.nd rfl (by first | exact .inl rfl | exact .inr rfl) (pd_tuple (by rfl) nb.tuple (pda_cons (pd_lc (own := [("_law_k", 11)]) (g := .inl 11) rfl sc_q_day.nd (pdi_range1 (by rfl) nb.range (pda_cons (pd_len (by rfl) nb.len (pda_cons (pv_ 3) pda_nil)) pda_nil)) (blkOk_by (own := [("_law_k", 11)]) (N := ["_law_chain_here", "_law_stand", "_law_demand", "_law_piles", "_law_owed", "_law_place", "_law_roads", "_law_full", "_law_asked", "_law_orders", "_law_told", "_law_k", "_law_due", "_law_sent", "_law_above", "_law_gone", "_law_behind"]) (sc := defScope s_q_day) (by decide +kernel)) (fun _ _ _ _ _ => pg_name (i := 11) sc_q_day.nd rfl (Or.inl rfl)) (fun _ _ _ _ _ => (pd_tup (pda_cons (pd_ix (pv_ 3) (pv_ 11)) (pda_cons (pd_tuple (by rfl) nb.tuple (pda_cons (pd_ixoo (pv_ 6) (pv_ 11)) pda_nil)) (pda_cons (pd_ix (pv_ 4) (pv_ 11)) pda_nil)))))) pda_nil)))
      (pdb_one (pds_ret (pd_tup (pda_cons (pv_ 16) (pda_cons (pd_tup (pda_cons (pd_ix (pv_ 10) pd_int) (pda_cons (pd_ix (pv_ 10) pd_int) (pda_cons (pd_tuple (by rfl) nb.tuple (pda_cons (pv_ 9) pda_nil)) pda_nil)))) (pda_cons (pv_ 7) pda_nil)))))))))))))
    (by
      rintro rs b Q hl ⟨c, s, d, ok, pl0, rfl, q⟩
      have hn := ok.some
      have hz : s.length ≤ 3 := by rw [pl0.len]; exact hn.2
      unfold encS
      simp only [sSeq, sNil, sAsg, sRet, sIf, sSet, sExpr, sFrz, sMove, sApp, sExt, sPar, eOp, eUn, eVar, eC, eIf, eAnd, eOr, eChain, tVal, uAnd, uOr, uNot, uTrue, eTup, eLst, eBi, eSl, partR, eIsi, eCall, eCallL, aCons, aNil, allD, dTup, dCons, dName, dNil, dSub, rho0, endD, lft, frz, stor, storAll, setAll, rtD, vIx, seqR, vII, vIC, vAdd, vSub, vMul, vFdiv, vMod, vPow, vLt, vLe, vGt, vGe, vEqS, vNeS, vIsN, vNotN, vNot, vNeg, isNo, vMin2, vMax2, vAbs, vInt1, vLen, vTuple, vList, vSum, isTy, vNotInK, vLenK, sKset, vIxoo, dSuboo, eCompL, eDict1, datR, vEqD, vNeD, vCatT, vCatL, iSeq, iTupW, iRg1, iRg2, sFor, noL, noL1, lend, scalD, R.held, R.fresh, List.map_cons, List.map_nil, List.length_cons, List.length_nil, List.cons_append, List.nil_append, List.getElem?_cons_zero, List.getElem?_cons_succ, List.set_cons_zero, List.set_cons_succ, List.replicate_succ, List.replicate_zero, Nat.zero_add, Nat.reduceAdd, Nat.reduceSub, Nat.reduceLT, Option.join_some, Option.join_none, Option.bind_some, Option.map_some, List.all_cons, List.all_nil, Bool.and_true, Bool.true_and, Bool.not_true, Bool.not_false, and_true, true_and, if_true, if_false, Bool.false_eq_true, decide_true, decide_false, reduceIte, eComp, wipeR, iTupW]
      refine cmp_map Place.enc (fun p => .int p.arrive.hand) s b [] _ (fun p hp b Q q => ?_) (by rw [List.length_nil]; omega) ?_
      · have hp2 := (pl0.each p hp).1
        obtain ⟨hand, coming, owed⟩ := p
        obtain ⟨x, xs, rfl⟩ : ∃ x xs, coming = x :: xs := by
          cases coming with
          | nil => exact absurd rfl hp2
          | cons x xs => exact ⟨x, xs, rfl⟩
        simp only [sSeq, sNil, sAsg, sRet, sIf, sSet, sExpr, sFrz, sMove, sApp, sExt, sPar, eOp, eUn, eVar, eC, eIf, eAnd, eOr, eChain, tVal, uAnd, uOr, uNot, uTrue, eTup, eLst, eBi, eSl, partR, eIsi, eCall, eCallL, aCons, aNil, allD, dTup, dCons, dName, dNil, dSub, rho0, endD, lft, frz, stor, storAll, setAll, rtD, vIx, seqR, vII, vIC, vAdd, vSub, vMul, vFdiv, vMod, vPow, vLt, vLe, vGt, vGe, vEqS, vNeS, vIsN, vNotN, vNot, vNeg, isNo, vMin2, vMax2, vAbs, vInt1, vLen, vTuple, vList, vSum, isTy, vNotInK, vLenK, sKset, vIxoo, dSuboo, eCompL, eDict1, datR, vEqD, vNeD, vCatT, vCatL, iSeq, iTupW, iRg1, iRg2, sFor, noL, noL1, lend, scalD, R.held, R.fresh, List.map_cons, List.map_nil, List.length_cons, List.length_nil, List.cons_append, List.nil_append, List.getElem?_cons_zero, List.getElem?_cons_succ, List.set_cons_zero, List.set_cons_succ, List.replicate_succ, List.replicate_zero, Nat.zero_add, Nat.reduceAdd, Nat.reduceSub, Nat.reduceLT, Option.join_some, Option.join_none, Option.bind_some, Option.map_some, List.all_cons, List.all_nil, Bool.and_true, Bool.true_and, Bool.not_true, Bool.not_false, and_true, true_and, if_true, if_false, Bool.false_eq_true, decide_true, decide_false, reduceIte, tgD, Place.enc, atI_0, atI_1, atI_2]
        exact q
      refine cmp_map Place.enc (fun p => .int p.owed) s b [] _ (fun p hp b Q q => ?_) (by rw [List.length_nil]; omega) ?_
      · simp only [sSeq, sNil, sAsg, sRet, sIf, sSet, sExpr, sFrz, sMove, sApp, sExt, sPar, eOp, eUn, eVar, eC, eIf, eAnd, eOr, eChain, tVal, uAnd, uOr, uNot, uTrue, eTup, eLst, eBi, eSl, partR, eIsi, eCall, eCallL, aCons, aNil, allD, dTup, dCons, dName, dNil, dSub, rho0, endD, lft, frz, stor, storAll, setAll, rtD, vIx, seqR, vII, vIC, vAdd, vSub, vMul, vFdiv, vMod, vPow, vLt, vLe, vGt, vGe, vEqS, vNeS, vIsN, vNotN, vNot, vNeg, isNo, vMin2, vMax2, vAbs, vInt1, vLen, vTuple, vList, vSum, isTy, vNotInK, vLenK, sKset, vIxoo, dSuboo, eCompL, eDict1, datR, vEqD, vNeD, vCatT, vCatL, iSeq, iTupW, iRg1, iRg2, sFor, noL, noL1, lend, scalD, R.held, R.fresh, List.map_cons, List.map_nil, List.length_cons, List.length_nil, List.cons_append, List.nil_append, List.getElem?_cons_zero, List.getElem?_cons_succ, List.set_cons_zero, List.set_cons_succ, List.replicate_succ, List.replicate_zero, Nat.zero_add, Nat.reduceAdd, Nat.reduceSub, Nat.reduceLT, Option.join_some, Option.join_none, Option.bind_some, Option.map_some, List.all_cons, List.all_nil, Bool.and_true, Bool.true_and, Bool.not_true, Bool.not_false, and_true, true_and, if_true, if_false, Bool.false_eq_true, decide_true, decide_false, reduceIte, tgD, Place.enc, atI_0, atI_1, atI_2]
        exact q
      refine cmpL_map Place.enc (fun p => p.arrive.coming.map PyData.int) s b [] _ (fun p hp b Q q => ?_) (by rw [List.length_nil]; omega) ?_
      · have hp2 := pl0.each p hp
        obtain ⟨hand, coming, owed⟩ := p
        obtain ⟨x, xs, rfl⟩ : ∃ x xs, coming = x :: xs := by
          cases coming with
          | nil => exact absurd rfl hp2.1
          | cons x xs => exact ⟨x, xs, rfl⟩
        have hxs : (xs.map PyData.int).length + 1 ≤ 1000000 := by
          have := hp2.2
          simp only [List.length_cons] at this
          rw [List.length_map]
          omega
        simp only [sSeq, sNil, sAsg, sRet, sIf, sSet, sExpr, sFrz, sMove, sApp, sExt, sPar, eOp, eUn, eVar, eC, eIf, eAnd, eOr, eChain, tVal, uAnd, uOr, uNot, uTrue, eTup, eLst, eBi, eSl, partR, eIsi, eCall, eCallL, aCons, aNil, allD, dTup, dCons, dName, dNil, dSub, rho0, endD, lft, frz, stor, storAll, setAll, rtD, vIx, seqR, vII, vIC, vAdd, vSub, vMul, vFdiv, vMod, vPow, vLt, vLe, vGt, vGe, vEqS, vNeS, vIsN, vNotN, vNot, vNeg, isNo, vMin2, vMax2, vAbs, vInt1, vLen, vTuple, vList, vSum, isTy, vNotInK, vLenK, sKset, vIxoo, dSuboo, eCompL, eDict1, datR, vEqD, vNeD, vCatT, vCatL, iSeq, iTupW, iRg1, iRg2, sFor, noL, noL1, lend, scalD, R.held, R.fresh, List.map_cons, List.map_nil, List.length_cons, List.length_nil, List.cons_append, List.nil_append, List.getElem?_cons_zero, List.getElem?_cons_succ, List.set_cons_zero, List.set_cons_succ, List.replicate_succ, List.replicate_zero, Nat.zero_add, Nat.reduceAdd, Nat.reduceSub, Nat.reduceLT, Option.join_some, Option.join_none, Option.bind_some, Option.map_some, List.all_cons, List.all_nil, Bool.and_true, Bool.true_and, Bool.not_true, Bool.not_false, and_true, true_and, if_true, if_false, Bool.false_eq_true, decide_true, decide_false, reduceIte, tgD, Place.enc, atI_0, atI_1, atI_2, vSlT, cutD_1, hxs]
        unfold Place.arrive at q
        simp only [List.tail_cons, List.map_append] at q
        exact q
      have ea1 : s.map (fun p => PyData.int p.arrive.hand) = (arriveS s).map (fun p => PyData.int p.hand) := by unfold arriveS; rw [List.map_map]; rfl
      have ea2 : s.map (fun p => PyData.int p.owed) = (arriveS s).map (fun p => PyData.int p.owed) := by unfold arriveS; rw [List.map_map]; rfl
      have ea3 : s.map (fun p => p.arrive.coming.map PyData.int) = (arriveS s).map (fun p => p.coming.map PyData.int) := by unfold arriveS; rw [List.map_map]; rfl
      rw [List.nil_append, List.nil_append, List.nil_append, ea1, ea2, ea3, List.length_map]
      have hal : (arriveS s).length = c.houses.length := (arrive_ok pl0).len
      rw [hal]
      refine ⟨by omega, ?_⟩
      refine for_cps (fun i ρ b' => b' = b ∧ ∃ z5 z7 z11 z12 z13 z14 z15, ρ = [some (.d c.enc), some (.d (.tuple (s.map Place.enc))), some (.d (.int d)), some (.o false ((dayI c s d i).places.map fun p => PyData.int p.hand)), some (.o false ((dayI c s d i).places.map fun p => PyData.int p.owed)), z5, some (.oo false ((dayI c s d i).places.map fun p => p.coming.map PyData.int)), some (.d (.tuple z7)), some (.d (.int (dayI c s d i).asked)), some (.o false ((dayI c s d i).orders.map PyData.int)), some (.d (.tuple [.int (dayI c s d i).first, .int (dayI c s d i).lost])), z11, z12, z13, z14, z15, none]) (fun _ _ => False) _ ?_ ?_ (fun _ _ z => z.elim) ⟨rfl, none, _, none, none, none, none, none, rfl⟩
      · rintro i x ρ b' Q' hx ⟨rfl, z5, z7, z11, z12, z13, z14, z15, rfl⟩ hq _
        obtain ⟨rfl, hi⟩ := rangeD_get hx
        have hlt : i < c.houses.length := by omega
        have e : c.houses[i]? = some c.houses[i] := List.getElem?_eq_getElem hlt
        have hok := ok.each c.houses[i] (List.getElem_mem hlt)
        generalize c.houses[i] = h at e hok
        have pl := dayI_ok (d := d) pl0 i (Nat.le_of_lt hlt)
        rw [dayI_succ e] at hq
        have hst := step_ok c.wait i h pl hlt
        have hlt2 : i < (dayI c s d i).places.length := by rw [pl.len]; exact hlt
        have hor := dayI_orders (c := c) (s := s) (d := d) i (Nat.le_of_lt hlt)
        revert hst hq pl hlt2 hor
        generalize dayI c s d i = st
        intro hq pl hst hlt2 hor
        obtain ⟨places, asked, orders, first, lost⟩ := st
        simp only at pl hst hlt2 hor hq ⊢
        have hor2 : (orders.map PyData.int).length < sizeLine := by rw [List.length_map]; exact small_line (by omega)
        rw [Int.zero_add]
        have gi := at_get hlt2
        have aH : atI (places.map fun p => PyData.int p.hand) (i : Int) = some (.int (at_ places i).hand) := atI_map (fun p => PyData.int p.hand) gi
        have aO : atI (places.map fun p => PyData.int p.owed) (i : Int) = some (.int (at_ places i).owed) := atI_map (fun p => PyData.int p.owed) gi
        simp only [dName, List.set_cons_zero, List.set_cons_succ]
        refine step_set (.int ((at_ places i).owed + asked)) (fun Q q => by simp only [sSeq, sNil, sAsg, sRet, sIf, sSet, sExpr, sFrz, sMove, sApp, sExt, sPar, eOp, eUn, eVar, eC, eIf, eAnd, eOr, eChain, tVal, uAnd, uOr, uNot, uTrue, eTup, eLst, eBi, eSl, partR, eIsi, eCall, eCallL, aCons, aNil, allD, dTup, dCons, dName, dNil, dSub, rho0, endD, lft, frz, stor, storAll, setAll, rtD, vIx, seqR, vII, vIC, vAdd, vSub, vMul, vFdiv, vMod, vPow, vLt, vLe, vGt, vGe, vEqS, vNeS, vIsN, vNotN, vNot, vNeg, isNo, vMin2, vMax2, vAbs, vInt1, vLen, vTuple, vList, vSum, isTy, vNotInK, vLenK, sKset, vIxoo, dSuboo, eCompL, eDict1, datR, vEqD, vNeD, vCatT, vCatL, iSeq, iTupW, iRg1, iRg2, sFor, noL, noL1, lend, scalD, R.held, R.fresh, List.map_cons, List.map_nil, List.length_cons, List.length_nil, List.cons_append, List.nil_append, List.getElem?_cons_zero, List.getElem?_cons_succ, List.set_cons_zero, List.set_cons_succ, List.replicate_succ, List.replicate_zero, Nat.zero_add, Nat.reduceAdd, Nat.reduceSub, Nat.reduceLT, Option.join_some, Option.join_none, Option.bind_some, Option.map_some, List.all_cons, List.all_nil, Bool.and_true, Bool.true_and, Bool.not_true, Bool.not_false, and_true, true_and, if_true, if_false, Bool.false_eq_true, decide_true, decide_false, reduceIte, aO]; exact q) ?_
        simp only [List.set_cons_zero, List.set_cons_succ]
        refine step_set (.int ((at_ places i).sent asked)) (fun Q q => ?_) ?_
        · refine eIf_val (decide ((at_ places i).owed + asked ≤ (at_ places i).hand)) (.int ((at_ places i).owed + asked)) (.int (at_ places i).hand) (fun Q q => by simp only [sSeq, sNil, sAsg, sRet, sIf, sSet, sExpr, sFrz, sMove, sApp, sExt, sPar, eOp, eUn, eVar, eC, eIf, eAnd, eOr, eChain, tVal, uAnd, uOr, uNot, uTrue, eTup, eLst, eBi, eSl, partR, eIsi, eCall, eCallL, aCons, aNil, allD, dTup, dCons, dName, dNil, dSub, rho0, endD, lft, frz, stor, storAll, setAll, rtD, vIx, seqR, vII, vIC, vAdd, vSub, vMul, vFdiv, vMod, vPow, vLt, vLe, vGt, vGe, vEqS, vNeS, vIsN, vNotN, vNot, vNeg, isNo, vMin2, vMax2, vAbs, vInt1, vLen, vTuple, vList, vSum, isTy, vNotInK, vLenK, sKset, vIxoo, dSuboo, eCompL, eDict1, datR, vEqD, vNeD, vCatT, vCatL, iSeq, iTupW, iRg1, iRg2, sFor, noL, noL1, lend, scalD, R.held, R.fresh, List.map_cons, List.map_nil, List.length_cons, List.length_nil, List.cons_append, List.nil_append, List.getElem?_cons_zero, List.getElem?_cons_succ, List.set_cons_zero, List.set_cons_succ, List.replicate_succ, List.replicate_zero, Nat.zero_add, Nat.reduceAdd, Nat.reduceSub, Nat.reduceLT, Option.join_some, Option.join_none, Option.bind_some, Option.map_some, List.all_cons, List.all_nil, Bool.and_true, Bool.true_and, Bool.not_true, Bool.not_false, and_true, true_and, if_true, if_false, Bool.false_eq_true, decide_true, decide_false, reduceIte, aH]; exact q) (fun _ Q q => by simp only [sSeq, sNil, sAsg, sRet, sIf, sSet, sExpr, sFrz, sMove, sApp, sExt, sPar, eOp, eUn, eVar, eC, eIf, eAnd, eOr, eChain, tVal, uAnd, uOr, uNot, uTrue, eTup, eLst, eBi, eSl, partR, eIsi, eCall, eCallL, aCons, aNil, allD, dTup, dCons, dName, dNil, dSub, rho0, endD, lft, frz, stor, storAll, setAll, rtD, vIx, seqR, vII, vIC, vAdd, vSub, vMul, vFdiv, vMod, vPow, vLt, vLe, vGt, vGe, vEqS, vNeS, vIsN, vNotN, vNot, vNeg, isNo, vMin2, vMax2, vAbs, vInt1, vLen, vTuple, vList, vSum, isTy, vNotInK, vLenK, sKset, vIxoo, dSuboo, eCompL, eDict1, datR, vEqD, vNeD, vCatT, vCatL, iSeq, iTupW, iRg1, iRg2, sFor, noL, noL1, lend, scalD, R.held, R.fresh, List.map_cons, List.map_nil, List.length_cons, List.length_nil, List.cons_append, List.nil_append, List.getElem?_cons_zero, List.getElem?_cons_succ, List.set_cons_zero, List.set_cons_succ, List.replicate_succ, List.replicate_zero, Nat.zero_add, Nat.reduceAdd, Nat.reduceSub, Nat.reduceLT, Option.join_some, Option.join_none, Option.bind_some, Option.map_some, List.all_cons, List.all_nil, Bool.and_true, Bool.true_and, Bool.not_true, Bool.not_false, and_true, true_and, if_true, if_false, Bool.false_eq_true, decide_true, decide_false, reduceIte]; exact q) (fun _ Q q => by simp only [sSeq, sNil, sAsg, sRet, sIf, sSet, sExpr, sFrz, sMove, sApp, sExt, sPar, eOp, eUn, eVar, eC, eIf, eAnd, eOr, eChain, tVal, uAnd, uOr, uNot, uTrue, eTup, eLst, eBi, eSl, partR, eIsi, eCall, eCallL, aCons, aNil, allD, dTup, dCons, dName, dNil, dSub, rho0, endD, lft, frz, stor, storAll, setAll, rtD, vIx, seqR, vII, vIC, vAdd, vSub, vMul, vFdiv, vMod, vPow, vLt, vLe, vGt, vGe, vEqS, vNeS, vIsN, vNotN, vNot, vNeg, isNo, vMin2, vMax2, vAbs, vInt1, vLen, vTuple, vList, vSum, isTy, vNotInK, vLenK, sKset, vIxoo, dSuboo, eCompL, eDict1, datR, vEqD, vNeD, vCatT, vCatL, iSeq, iTupW, iRg1, iRg2, sFor, noL, noL1, lend, scalD, R.held, R.fresh, List.map_cons, List.map_nil, List.length_cons, List.length_nil, List.cons_append, List.nil_append, List.getElem?_cons_zero, List.getElem?_cons_succ, List.set_cons_zero, List.set_cons_succ, List.replicate_succ, List.replicate_zero, Nat.zero_add, Nat.reduceAdd, Nat.reduceSub, Nat.reduceLT, Option.join_some, Option.join_none, Option.bind_some, Option.map_some, List.all_cons, List.all_nil, Bool.and_true, Bool.true_and, Bool.not_true, Bool.not_false, and_true, true_and, if_true, if_false, Bool.false_eq_true, decide_true, decide_false, reduceIte, aH]; exact q) ?_
          have e0 : (if decide ((at_ places i).owed + asked ≤ (at_ places i).hand) = true then PyData.int ((at_ places i).owed + asked) else PyData.int (at_ places i).hand) = .int ((at_ places i).sent asked) := by
            unfold Place.sent
            by_cases h1 : (at_ places i).owed + asked ≤ (at_ places i).hand
            · rw [if_pos (decide_eq_true h1)]
              split
              · rfl
              · congr 1; omega
            · rw [if_neg (by rw [decide_eq_false h1]; exact Bool.false_ne_true), if_neg (by omega)]
          rw [e0]
          exact q
        simp only [List.set_cons_zero, List.set_cons_succ]
        have hl1 : i < (places.map fun p => PyData.int p.hand).length := by rw [List.length_map]; exact hlt2
        have hl2 : i < (places.map fun p => PyData.int p.owed).length := by rw [List.length_map]; exact hlt2
        have eh : (places.map fun p => PyData.int p.hand).set i (.int ((at_ places i).hand - (at_ places i).sent asked)) = (places.set i ((at_ places i).after asked)).map fun p => PyData.int p.hand := by rw [List.map_set]; rfl
        have eo : (places.map fun p => PyData.int p.owed).set i (.int ((at_ places i).owed + asked - (at_ places i).sent asked)) = (places.set i ((at_ places i).after asked)).map fun p => PyData.int p.owed := by rw [List.map_set]; rfl
        have ec : (places.map fun p => p.coming.map PyData.int) = (places.set i ((at_ places i).after asked)).map fun p => p.coming.map PyData.int := (map_set_same (p := (at_ places i).after asked) (fun p => p.coming.map PyData.int) gi rfl).symm
        refine step_asg (.int ((at_ places i).hand - (at_ places i).sent asked)) _ (fun Q q => by simp only [sSeq, sNil, sAsg, sRet, sIf, sSet, sExpr, sFrz, sMove, sApp, sExt, sPar, eOp, eUn, eVar, eC, eIf, eAnd, eOr, eChain, tVal, uAnd, uOr, uNot, uTrue, eTup, eLst, eBi, eSl, partR, eIsi, eCall, eCallL, aCons, aNil, allD, dTup, dCons, dName, dNil, dSub, rho0, endD, lft, frz, stor, storAll, setAll, rtD, vIx, seqR, vII, vIC, vAdd, vSub, vMul, vFdiv, vMod, vPow, vLt, vLe, vGt, vGe, vEqS, vNeS, vIsN, vNotN, vNot, vNeg, isNo, vMin2, vMax2, vAbs, vInt1, vLen, vTuple, vList, vSum, isTy, vNotInK, vLenK, sKset, vIxoo, dSuboo, eCompL, eDict1, datR, vEqD, vNeD, vCatT, vCatL, iSeq, iTupW, iRg1, iRg2, sFor, noL, noL1, lend, scalD, R.held, R.fresh, List.map_cons, List.map_nil, List.length_cons, List.length_nil, List.cons_append, List.nil_append, List.getElem?_cons_zero, List.getElem?_cons_succ, List.set_cons_zero, List.set_cons_succ, List.replicate_succ, List.replicate_zero, Nat.zero_add, Nat.reduceAdd, Nat.reduceSub, Nat.reduceLT, Option.join_some, Option.join_none, Option.bind_some, Option.map_some, List.all_cons, List.all_nil, Bool.and_true, Bool.true_and, Bool.not_true, Bool.not_false, and_true, true_and, if_true, if_false, Bool.false_eq_true, decide_true, decide_false, reduceIte, aH]; exact q) (fun Q q => by simp only [dSub, eVar, List.getElem?_cons_zero, List.getElem?_cons_succ, Option.join_some, lft, R.held, ixN_nat hl1]; exact q) ?_
        simp only [List.set_cons_zero, List.set_cons_succ]
        refine step_asg (.int ((at_ places i).owed + asked - (at_ places i).sent asked)) _ (fun Q q => by simp only [sSeq, sNil, sAsg, sRet, sIf, sSet, sExpr, sFrz, sMove, sApp, sExt, sPar, eOp, eUn, eVar, eC, eIf, eAnd, eOr, eChain, tVal, uAnd, uOr, uNot, uTrue, eTup, eLst, eBi, eSl, partR, eIsi, eCall, eCallL, aCons, aNil, allD, dTup, dCons, dName, dNil, dSub, rho0, endD, lft, frz, stor, storAll, setAll, rtD, vIx, seqR, vII, vIC, vAdd, vSub, vMul, vFdiv, vMod, vPow, vLt, vLe, vGt, vGe, vEqS, vNeS, vIsN, vNotN, vNot, vNeg, isNo, vMin2, vMax2, vAbs, vInt1, vLen, vTuple, vList, vSum, isTy, vNotInK, vLenK, sKset, vIxoo, dSuboo, eCompL, eDict1, datR, vEqD, vNeD, vCatT, vCatL, iSeq, iTupW, iRg1, iRg2, sFor, noL, noL1, lend, scalD, R.held, R.fresh, List.map_cons, List.map_nil, List.length_cons, List.length_nil, List.cons_append, List.nil_append, List.getElem?_cons_zero, List.getElem?_cons_succ, List.set_cons_zero, List.set_cons_succ, List.replicate_succ, List.replicate_zero, Nat.zero_add, Nat.reduceAdd, Nat.reduceSub, Nat.reduceLT, Option.join_some, Option.join_none, Option.bind_some, Option.map_some, List.all_cons, List.all_nil, Bool.and_true, Bool.true_and, Bool.not_true, Bool.not_false, and_true, true_and, if_true, if_false, Bool.false_eq_true, decide_true, decide_false, reduceIte]; exact q) (fun Q q => by simp only [dSub, eVar, List.getElem?_cons_zero, List.getElem?_cons_succ, Option.join_some, lft, R.held, ixN_nat hl2]; exact q) ?_
        simp only [List.set_cons_zero, List.set_cons_succ]
        rw [eh, eo, ec]
        have hq2 : i < (places.set i ((at_ places i).after asked)).length := by rw [List.length_set]; exact hlt2
        have hgs := get_set (p := (at_ places i).after asked) hlt2
        have hat := pl.at hlt
        have pl2 : PlOk c.houses.length (places.set i ((at_ places i).after asked)) := pl.set i hat
        by_cases h0 : i = 0
        · subst h0
          refine step_ifT (fun Q q => by simp only [sSeq, sNil, sAsg, sRet, sIf, sSet, sExpr, sFrz, sMove, sApp, sExt, sPar, eOp, eUn, eVar, eC, eIf, eAnd, eOr, eChain, tVal, uAnd, uOr, uNot, uTrue, eTup, eLst, eBi, eSl, partR, eIsi, eCall, eCallL, aCons, aNil, allD, dTup, dCons, dName, dNil, dSub, rho0, endD, lft, frz, stor, storAll, setAll, rtD, vIx, seqR, vII, vIC, vAdd, vSub, vMul, vFdiv, vMod, vPow, vLt, vLe, vGt, vGe, vEqS, vNeS, vIsN, vNotN, vNot, vNeg, isNo, vMin2, vMax2, vAbs, vInt1, vLen, vTuple, vList, vSum, isTy, vNotInK, vLenK, sKset, vIxoo, dSuboo, eCompL, eDict1, datR, vEqD, vNeD, vCatT, vCatL, iSeq, iTupW, iRg1, iRg2, sFor, noL, noL1, lend, scalD, R.held, R.fresh, List.map_cons, List.map_nil, List.length_cons, List.length_nil, List.cons_append, List.nil_append, List.getElem?_cons_zero, List.getElem?_cons_succ, List.set_cons_zero, List.set_cons_succ, List.replicate_succ, List.replicate_zero, Nat.zero_add, Nat.reduceAdd, Nat.reduceSub, Nat.reduceLT, Option.join_some, Option.join_none, Option.bind_some, Option.map_some, List.all_cons, List.all_nil, Bool.and_true, Bool.true_and, Bool.not_true, Bool.not_false, and_true, true_and, if_true, if_false, Bool.false_eq_true, decide_true, decide_false, reduceIte, Int.natCast_zero]; exact q) ?_
          unfold DSt.step at hq
          simp only [if_true] at hq
          have hsent : (at_ places 0).sent asked = (at_ places 0).sent asked := rfl
          revert hq hgs pl2 hq2
          generalize (at_ places 0).after asked = qq
          generalize (at_ places 0).sent asked = sn
          intro hq2 hgs pl2 hq
          have cO : atI ((places.set 0 qq).map fun p => PyData.int p.owed) 0 = some (.int qq.owed) := atI_map0 (fun p => PyData.int p.owed) hgs
          refine step_assoc (step_set (.int (lostOf qq.owed c.wait)) (fun Q q => ?_) ?_)
          · refine eIf_val (decide (c.wait < qq.owed)) (.int (qq.owed - c.wait)) (.int 0) (fun Q q => by simp only [sSeq, sNil, sAsg, sRet, sIf, sSet, sExpr, sFrz, sMove, sApp, sExt, sPar, eOp, eUn, eVar, eC, eIf, eAnd, eOr, eChain, tVal, uAnd, uOr, uNot, uTrue, eTup, eLst, eBi, eSl, partR, eIsi, eCall, eCallL, aCons, aNil, allD, dTup, dCons, dName, dNil, dSub, rho0, endD, lft, frz, stor, storAll, setAll, rtD, vIx, seqR, vII, vIC, vAdd, vSub, vMul, vFdiv, vMod, vPow, vLt, vLe, vGt, vGe, vEqS, vNeS, vIsN, vNotN, vNot, vNeg, isNo, vMin2, vMax2, vAbs, vInt1, vLen, vTuple, vList, vSum, isTy, vNotInK, vLenK, sKset, vIxoo, dSuboo, eCompL, eDict1, datR, vEqD, vNeD, vCatT, vCatL, iSeq, iTupW, iRg1, iRg2, sFor, noL, noL1, lend, scalD, R.held, R.fresh, List.map_cons, List.map_nil, List.length_cons, List.length_nil, List.cons_append, List.nil_append, List.getElem?_cons_zero, List.getElem?_cons_succ, List.set_cons_zero, List.set_cons_succ, List.replicate_succ, List.replicate_zero, Nat.zero_add, Nat.reduceAdd, Nat.reduceSub, Nat.reduceLT, Option.join_some, Option.join_none, Option.bind_some, Option.map_some, List.all_cons, List.all_nil, Bool.and_true, Bool.true_and, Bool.not_true, Bool.not_false, and_true, true_and, if_true, if_false, Bool.false_eq_true, decide_true, decide_false, reduceIte, cO, Chain.enc, atI_1]; exact q) (fun _ Q q => by simp only [sSeq, sNil, sAsg, sRet, sIf, sSet, sExpr, sFrz, sMove, sApp, sExt, sPar, eOp, eUn, eVar, eC, eIf, eAnd, eOr, eChain, tVal, uAnd, uOr, uNot, uTrue, eTup, eLst, eBi, eSl, partR, eIsi, eCall, eCallL, aCons, aNil, allD, dTup, dCons, dName, dNil, dSub, rho0, endD, lft, frz, stor, storAll, setAll, rtD, vIx, seqR, vII, vIC, vAdd, vSub, vMul, vFdiv, vMod, vPow, vLt, vLe, vGt, vGe, vEqS, vNeS, vIsN, vNotN, vNot, vNeg, isNo, vMin2, vMax2, vAbs, vInt1, vLen, vTuple, vList, vSum, isTy, vNotInK, vLenK, sKset, vIxoo, dSuboo, eCompL, eDict1, datR, vEqD, vNeD, vCatT, vCatL, iSeq, iTupW, iRg1, iRg2, sFor, noL, noL1, lend, scalD, R.held, R.fresh, List.map_cons, List.map_nil, List.length_cons, List.length_nil, List.cons_append, List.nil_append, List.getElem?_cons_zero, List.getElem?_cons_succ, List.set_cons_zero, List.set_cons_succ, List.replicate_succ, List.replicate_zero, Nat.zero_add, Nat.reduceAdd, Nat.reduceSub, Nat.reduceLT, Option.join_some, Option.join_none, Option.bind_some, Option.map_some, List.all_cons, List.all_nil, Bool.and_true, Bool.true_and, Bool.not_true, Bool.not_false, and_true, true_and, if_true, if_false, Bool.false_eq_true, decide_true, decide_false, reduceIte, cO, Chain.enc, atI_1]; exact q) (fun _ Q q => by simp only [sSeq, sNil, sAsg, sRet, sIf, sSet, sExpr, sFrz, sMove, sApp, sExt, sPar, eOp, eUn, eVar, eC, eIf, eAnd, eOr, eChain, tVal, uAnd, uOr, uNot, uTrue, eTup, eLst, eBi, eSl, partR, eIsi, eCall, eCallL, aCons, aNil, allD, dTup, dCons, dName, dNil, dSub, rho0, endD, lft, frz, stor, storAll, setAll, rtD, vIx, seqR, vII, vIC, vAdd, vSub, vMul, vFdiv, vMod, vPow, vLt, vLe, vGt, vGe, vEqS, vNeS, vIsN, vNotN, vNot, vNeg, isNo, vMin2, vMax2, vAbs, vInt1, vLen, vTuple, vList, vSum, isTy, vNotInK, vLenK, sKset, vIxoo, dSuboo, eCompL, eDict1, datR, vEqD, vNeD, vCatT, vCatL, iSeq, iTupW, iRg1, iRg2, sFor, noL, noL1, lend, scalD, R.held, R.fresh, List.map_cons, List.map_nil, List.length_cons, List.length_nil, List.cons_append, List.nil_append, List.getElem?_cons_zero, List.getElem?_cons_succ, List.set_cons_zero, List.set_cons_succ, List.replicate_succ, List.replicate_zero, Nat.zero_add, Nat.reduceAdd, Nat.reduceSub, Nat.reduceLT, Option.join_some, Option.join_none, Option.bind_some, Option.map_some, List.all_cons, List.all_nil, Bool.and_true, Bool.true_and, Bool.not_true, Bool.not_false, and_true, true_and, if_true, if_false, Bool.false_eq_true, decide_true, decide_false, reduceIte]; exact q) ?_
            have e0 : (if decide (c.wait < qq.owed) = true then PyData.int (qq.owed - c.wait) else PyData.int 0) = .int (lostOf qq.owed c.wait) := by
              unfold lostOf
              by_cases h1 : c.wait < qq.owed
              · rw [if_pos (decide_eq_true h1), if_pos (by omega)]
              · rw [if_neg (by rw [decide_eq_false h1]; exact Bool.false_ne_true), if_neg (by omega)]
            rw [e0]
            exact q
          simp only [List.set_cons_zero, List.set_cons_succ]
          have hl3 : 0 < ((places.set 0 qq).map fun p => PyData.int p.owed).length := by rw [List.length_map]; exact hq2
          refine step_asg (.tuple [.int (qq.owed - lostOf qq.owed c.wait), .tuple [.int sn, .int (lostOf qq.owed c.wait)]]) _ (fun Q q => by simp only [sSeq, sNil, sAsg, sRet, sIf, sSet, sExpr, sFrz, sMove, sApp, sExt, sPar, eOp, eUn, eVar, eC, eIf, eAnd, eOr, eChain, tVal, uAnd, uOr, uNot, uTrue, eTup, eLst, eBi, eSl, partR, eIsi, eCall, eCallL, aCons, aNil, allD, dTup, dCons, dName, dNil, dSub, rho0, endD, lft, frz, stor, storAll, setAll, rtD, vIx, seqR, vII, vIC, vAdd, vSub, vMul, vFdiv, vMod, vPow, vLt, vLe, vGt, vGe, vEqS, vNeS, vIsN, vNotN, vNot, vNeg, isNo, vMin2, vMax2, vAbs, vInt1, vLen, vTuple, vList, vSum, isTy, vNotInK, vLenK, sKset, vIxoo, dSuboo, eCompL, eDict1, datR, vEqD, vNeD, vCatT, vCatL, iSeq, iTupW, iRg1, iRg2, sFor, noL, noL1, lend, scalD, R.held, R.fresh, List.map_cons, List.map_nil, List.length_cons, List.length_nil, List.cons_append, List.nil_append, List.getElem?_cons_zero, List.getElem?_cons_succ, List.set_cons_zero, List.set_cons_succ, List.replicate_succ, List.replicate_zero, Nat.zero_add, Nat.reduceAdd, Nat.reduceSub, Nat.reduceLT, Option.join_some, Option.join_none, Option.bind_some, Option.map_some, List.all_cons, List.all_nil, Bool.and_true, Bool.true_and, Bool.not_true, Bool.not_false, and_true, true_and, if_true, if_false, Bool.false_eq_true, decide_true, decide_false, reduceIte, cO]; exact q) (fun Q q => by simp only [sSeq, sNil, sAsg, sRet, sIf, sSet, sExpr, sFrz, sMove, sApp, sExt, sPar, eOp, eUn, eVar, eC, eIf, eAnd, eOr, eChain, tVal, uAnd, uOr, uNot, uTrue, eTup, eLst, eBi, eSl, partR, eIsi, eCall, eCallL, aCons, aNil, allD, dTup, dCons, dName, dNil, dSub, rho0, endD, lft, frz, stor, storAll, setAll, rtD, vIx, seqR, vII, vIC, vAdd, vSub, vMul, vFdiv, vMod, vPow, vLt, vLe, vGt, vGe, vEqS, vNeS, vIsN, vNotN, vNot, vNeg, isNo, vMin2, vMax2, vAbs, vInt1, vLen, vTuple, vList, vSum, isTy, vNotInK, vLenK, sKset, vIxoo, dSuboo, eCompL, eDict1, datR, vEqD, vNeD, vCatT, vCatL, iSeq, iTupW, iRg1, iRg2, sFor, noL, noL1, lend, scalD, R.held, R.fresh, List.map_cons, List.map_nil, List.length_cons, List.length_nil, List.cons_append, List.nil_append, List.getElem?_cons_zero, List.getElem?_cons_succ, List.set_cons_zero, List.set_cons_succ, List.replicate_succ, List.replicate_zero, Nat.zero_add, Nat.reduceAdd, Nat.reduceSub, Nat.reduceLT, Option.join_some, Option.join_none, Option.bind_some, Option.map_some, List.all_cons, List.all_nil, Bool.and_true, Bool.true_and, Bool.not_true, Bool.not_false, and_true, true_and, if_true, if_false, Bool.false_eq_true, decide_true, decide_false, reduceIte, ixN_zero hl3]; exact q) ?_
          have ep1 : ((places.set 0 qq).map fun p => PyData.int p.owed).set 0 (.int (qq.owed - lostOf qq.owed c.wait)) = (places.set 0 ⟨qq.hand, qq.coming, qq.owed - lostOf qq.owed c.wait⟩).map fun p => PyData.int p.owed := by rw [List.map_set, List.map_set, List.set_set]
          have ep2 : ((places.set 0 qq).map fun p => PyData.int p.hand) = (places.set 0 ⟨qq.hand, qq.coming, qq.owed - lostOf qq.owed c.wait⟩).map fun p => PyData.int p.hand := by rw [List.map_set, List.map_set]
          have ep3 : ((places.set 0 qq).map fun p => p.coming.map PyData.int) = (places.set 0 ⟨qq.hand, qq.coming, qq.owed - lostOf qq.owed c.wait⟩).map fun p => p.coming.map PyData.int := by rw [List.map_set, List.map_set]
          rw [ep1, ep2, ep3]
          have pl3 : PlOk c.houses.length (places.set 0 ⟨qq.hand, qq.coming, qq.owed - lostOf qq.owed c.wait⟩) := by
            have hc2 := pl2.each qq (List.mem_of_getElem? hgs)
            exact pl.set 0 hc2
          revert hq
          generalize places.set 0 ⟨qq.hand, qq.coming, qq.owed - lostOf qq.owed c.wait⟩ = ps at pl3 ⊢
          generalize lostOf qq.owed c.wait = ll
          intro hq
          let i : Nat := 0
          have plp : PlOk c.houses.length ps := pl3
          have hip : 0 < ps.length := by rw [plp.len]; exact hlt
          have gip := at_get hip
          have bH : atI (ps.map fun p => PyData.int p.hand) ((0 : Nat) : Int) = some (.int (at_ ps 0).hand) := atI_map (fun p => PyData.int p.hand) gip
          have bO : atI (ps.map fun p => PyData.int p.owed) ((0 : Nat) : Int) = some (.int (at_ ps 0).owed) := atI_map (fun p => PyData.int p.owed) gip
          have bC : atI (ps.map fun p => p.coming.map PyData.int) ((0 : Nat) : Int) = some ((at_ ps 0).coming.map PyData.int) := atI_map (fun p => p.coming.map PyData.int) gip
          refine step_set (.int (if 0 + 1 < ps.length then (at_ ps (i + 1)).owed else 0)) (fun Q q => ?_) ?_
          · refine eIf_val (decide (i + 1 < ps.length)) (.int (at_ ps (i + 1)).owed) (.int 0) (fun Q q => ?_) (fun hk Q q => ?_) (fun _ Q q => by simp only [sSeq, sNil, sAsg, sRet, sIf, sSet, sExpr, sFrz, sMove, sApp, sExt, sPar, eOp, eUn, eVar, eC, eIf, eAnd, eOr, eChain, tVal, uAnd, uOr, uNot, uTrue, eTup, eLst, eBi, eSl, partR, eIsi, eCall, eCallL, aCons, aNil, allD, dTup, dCons, dName, dNil, dSub, rho0, endD, lft, frz, stor, storAll, setAll, rtD, vIx, seqR, vII, vIC, vAdd, vSub, vMul, vFdiv, vMod, vPow, vLt, vLe, vGt, vGe, vEqS, vNeS, vIsN, vNotN, vNot, vNeg, isNo, vMin2, vMax2, vAbs, vInt1, vLen, vTuple, vList, vSum, isTy, vNotInK, vLenK, sKset, vIxoo, dSuboo, eCompL, eDict1, datR, vEqD, vNeD, vCatT, vCatL, iSeq, iTupW, iRg1, iRg2, sFor, noL, noL1, lend, scalD, R.held, R.fresh, List.map_cons, List.map_nil, List.length_cons, List.length_nil, List.cons_append, List.nil_append, List.getElem?_cons_zero, List.getElem?_cons_succ, List.set_cons_zero, List.set_cons_succ, List.replicate_succ, List.replicate_zero, Nat.zero_add, Nat.reduceAdd, Nat.reduceSub, Nat.reduceLT, Option.join_some, Option.join_none, Option.bind_some, Option.map_some, List.all_cons, List.all_nil, Bool.and_true, Bool.true_and, Bool.not_true, Bool.not_false, and_true, true_and, if_true, if_false, Bool.false_eq_true, decide_true, decide_false, reduceIte]; exact q) ?_
            · simp only [sSeq, sNil, sAsg, sRet, sIf, sSet, sExpr, sFrz, sMove, sApp, sExt, sPar, eOp, eUn, eVar, eC, eIf, eAnd, eOr, eChain, tVal, uAnd, uOr, uNot, uTrue, eTup, eLst, eBi, eSl, partR, eIsi, eCall, eCallL, aCons, aNil, allD, dTup, dCons, dName, dNil, dSub, rho0, endD, lft, frz, stor, storAll, setAll, rtD, vIx, seqR, vII, vIC, vAdd, vSub, vMul, vFdiv, vMod, vPow, vLt, vLe, vGt, vGe, vEqS, vNeS, vIsN, vNotN, vNot, vNeg, isNo, vMin2, vMax2, vAbs, vInt1, vLen, vTuple, vList, vSum, isTy, vNotInK, vLenK, sKset, vIxoo, dSuboo, eCompL, eDict1, datR, vEqD, vNeD, vCatT, vCatL, iSeq, iTupW, iRg1, iRg2, sFor, noL, noL1, lend, scalD, R.held, R.fresh, List.map_cons, List.map_nil, List.length_cons, List.length_nil, List.cons_append, List.nil_append, List.getElem?_cons_zero, List.getElem?_cons_succ, List.set_cons_zero, List.set_cons_succ, List.replicate_succ, List.replicate_zero, Nat.zero_add, Nat.reduceAdd, Nat.reduceSub, Nat.reduceLT, Option.join_some, Option.join_none, Option.bind_some, Option.map_some, List.all_cons, List.all_nil, Bool.and_true, Bool.true_and, Bool.not_true, Bool.not_false, and_true, true_and, if_true, if_false, Bool.false_eq_true, decide_true, decide_false, reduceIte, List.length_map]
              have e1 : decide (((0 : Nat) : Int) + 1 < (ps.length : Int)) = decide (i + 1 < ps.length) := decide_eq_decide.mpr (by omega)
              rw [e1]
              exact q
            · have e1 : ((0 : Nat) : Int) + 1 = ((i + 1 : Nat) : Int) := rfl
              have e2 := atI_map (fun p => PyData.int p.owed) (at_get (of_decide_eq_true hk))
              simp only [sSeq, sNil, sAsg, sRet, sIf, sSet, sExpr, sFrz, sMove, sApp, sExt, sPar, eOp, eUn, eVar, eC, eIf, eAnd, eOr, eChain, tVal, uAnd, uOr, uNot, uTrue, eTup, eLst, eBi, eSl, partR, eIsi, eCall, eCallL, aCons, aNil, allD, dTup, dCons, dName, dNil, dSub, rho0, endD, lft, frz, stor, storAll, setAll, rtD, vIx, seqR, vII, vIC, vAdd, vSub, vMul, vFdiv, vMod, vPow, vLt, vLe, vGt, vGe, vEqS, vNeS, vIsN, vNotN, vNot, vNeg, isNo, vMin2, vMax2, vAbs, vInt1, vLen, vTuple, vList, vSum, isTy, vNotInK, vLenK, sKset, vIxoo, dSuboo, eCompL, eDict1, datR, vEqD, vNeD, vCatT, vCatL, iSeq, iTupW, iRg1, iRg2, sFor, noL, noL1, lend, scalD, R.held, R.fresh, List.map_cons, List.map_nil, List.length_cons, List.length_nil, List.cons_append, List.nil_append, List.getElem?_cons_zero, List.getElem?_cons_succ, List.set_cons_zero, List.set_cons_succ, List.replicate_succ, List.replicate_zero, Nat.zero_add, Nat.reduceAdd, Nat.reduceSub, Nat.reduceLT, Option.join_some, Option.join_none, Option.bind_some, Option.map_some, List.all_cons, List.all_nil, Bool.and_true, Bool.true_and, Bool.not_true, Bool.not_false, and_true, true_and, if_true, if_false, Bool.false_eq_true, decide_true, decide_false, reduceIte, e1, e2]
              exact q
            · have e0 : (if decide (i + 1 < ps.length) = true then PyData.int (at_ ps (i + 1)).owed else PyData.int 0) = .int (if 0 + 1 < ps.length then (at_ ps (i + 1)).owed else 0) := by
                by_cases h1 : 0 + 1 < ps.length
                · rw [if_pos (decide_eq_true h1), if_pos h1]
                · rw [if_neg (by rw [decide_eq_false h1]; exact Bool.false_ne_true), if_neg h1]
              rw [e0]
              exact q
          simp only [List.set_cons_zero, List.set_cons_succ]
          have hch : atI (c.houses.map House.enc) ((0 : Nat) : Int) = some h.enc := atI_map House.enc e
          refine step_set (.int (h.order (posOf ps 0))) (fun Q q => ?_) ?_
          · refine (ev_op (ev_op (ev_op (ev_vd rfl) ev_c rfl) (ev_vd rfl) (ix_t hch)) ev_c rfl : Ev _ _ _ (R.d h.rule)) _ ?_
            refine (ev_op (ev_op (ev_op (ev_op (ev_vo rfl) (ev_vd rfl) (ix_l bH)) (ev_bi (ev_op (ev_voo rfl) (ev_vd rfl) (ix_oo bC)) sum_o) ii_) (ev_vd rfl) ii_) (ev_op (ev_vo rfl) (ev_vd rfl) (ix_l bO)) ii_ : Ev _ _ _ (R.d (.int (posOf ps 0)))) _ ?_
            exact ⟨rfl, h, _, hok, rfl, q⟩
          simp only [List.set_cons_zero, List.set_cons_succ]
          simp only [sSeq, sNil, sAsg, sRet, sIf, sSet, sExpr, sFrz, sMove, sApp, sExt, sPar, eOp, eUn, eVar, eC, eIf, eAnd, eOr, eChain, tVal, uAnd, uOr, uNot, uTrue, eTup, eLst, eBi, eSl, partR, eIsi, eCall, eCallL, aCons, aNil, allD, dTup, dCons, dName, dNil, dSub, rho0, endD, lft, frz, stor, storAll, setAll, rtD, vIx, seqR, vII, vIC, vAdd, vSub, vMul, vFdiv, vMod, vPow, vLt, vLe, vGt, vGe, vEqS, vNeS, vIsN, vNotN, vNot, vNeg, isNo, vMin2, vMax2, vAbs, vInt1, vLen, vTuple, vList, vSum, isTy, vNotInK, vLenK, sKset, vIxoo, dSuboo, eCompL, eDict1, datR, vEqD, vNeD, vCatT, vCatL, iSeq, iTupW, iRg1, iRg2, sFor, noL, noL1, lend, scalD, R.held, R.fresh, List.map_cons, List.map_nil, List.length_cons, List.length_nil, List.cons_append, List.nil_append, List.getElem?_cons_zero, List.getElem?_cons_succ, List.set_cons_zero, List.set_cons_succ, List.replicate_succ, List.replicate_zero, Nat.zero_add, Nat.reduceAdd, Nat.reduceSub, Nat.reduceLT, Option.join_some, Option.join_none, Option.bind_some, Option.map_some, List.all_cons, List.all_nil, Bool.and_true, Bool.true_and, Bool.not_true, Bool.not_false, and_true, true_and, if_true, if_false, Bool.false_eq_true, decide_true, decide_false, reduceIte, hor2]
          simp only [List.map_append] at hq
          exact hq _ _ ⟨rfl, _, _, _, _, _, _, _, rfl⟩
        · have h1 : decide ((i : Int) = 0) = false := decide_eq_false (by omega)
          have e1 : (i : Int) - 1 = ((i - 1 : Nat) : Int) := by omega
          refine step_ifF (fun Q q => by simp only [sSeq, sNil, sAsg, sRet, sIf, sSet, sExpr, sFrz, sMove, sApp, sExt, sPar, eOp, eUn, eVar, eC, eIf, eAnd, eOr, eChain, tVal, uAnd, uOr, uNot, uTrue, eTup, eLst, eBi, eSl, partR, eIsi, eCall, eCallL, aCons, aNil, allD, dTup, dCons, dName, dNil, dSub, rho0, endD, lft, frz, stor, storAll, setAll, rtD, vIx, seqR, vII, vIC, vAdd, vSub, vMul, vFdiv, vMod, vPow, vLt, vLe, vGt, vGe, vEqS, vNeS, vIsN, vNotN, vNot, vNeg, isNo, vMin2, vMax2, vAbs, vInt1, vLen, vTuple, vList, vSum, isTy, vNotInK, vLenK, sKset, vIxoo, dSuboo, eCompL, eDict1, datR, vEqD, vNeD, vCatT, vCatL, iSeq, iTupW, iRg1, iRg2, sFor, noL, noL1, lend, scalD, R.held, R.fresh, List.map_cons, List.map_nil, List.length_cons, List.length_nil, List.cons_append, List.nil_append, List.getElem?_cons_zero, List.getElem?_cons_succ, List.set_cons_zero, List.set_cons_succ, List.replicate_succ, List.replicate_zero, Nat.zero_add, Nat.reduceAdd, Nat.reduceSub, Nat.reduceLT, Option.join_some, Option.join_none, Option.bind_some, Option.map_some, List.all_cons, List.all_nil, Bool.and_true, Bool.true_and, Bool.not_true, Bool.not_false, and_true, true_and, if_true, if_false, Bool.false_eq_true, decide_true, decide_false, reduceIte, h1]; exact q) ?_
          unfold DSt.step at hq
          simp only [if_neg h0] at hq
          revert hq hgs pl2 hq2
          generalize (at_ places i).after asked = qq
          generalize (at_ places i).sent asked = sn
          intro hq2 hgs pl2 hq
          have hi1 : i - 1 < (places.set i qq).length := by rw [List.length_set]; omega
          have gi1 := at_get hi1
          have hc1 := pl2.at (show i - 1 < c.houses.length by omega)
          have dC : atI ((places.set i qq).map fun p => p.coming.map PyData.int) ((i - 1 : Nat) : Int) = some ((at_ (places.set i qq) (i - 1)).coming.map PyData.int) := atI_map (fun p => p.coming.map PyData.int) gi1
          have hi2 : i - 1 < ((places.set i qq).map fun p => p.coming.map PyData.int).length := by rw [List.length_map]; exact hi1
          have gC : ((places.set i qq).map fun p => p.coming.map PyData.int)[i - 1]? = some ((at_ (places.set i qq) (i - 1)).coming.map PyData.int) := by rw [List.getElem?_map, gi1]; rfl
          obtain ⟨dL, dS⟩ := last_ints sn hc1.1
          have hlp : 0 < ((at_ (places.set i qq) (i - 1)).coming.map PyData.int).length := by rw [List.length_map]; exact List.length_pos_iff.mpr hc1.1
          refine step_asg (.int ((at_ (places.set i qq) (i - 1)).coming.getLastD 0 + sn)) _ (fun Q q => by simp only [sSeq, sNil, sAsg, sRet, sIf, sSet, sExpr, sFrz, sMove, sApp, sExt, sPar, eOp, eUn, eVar, eC, eIf, eAnd, eOr, eChain, tVal, uAnd, uOr, uNot, uTrue, eTup, eLst, eBi, eSl, partR, eIsi, eCall, eCallL, aCons, aNil, allD, dTup, dCons, dName, dNil, dSub, rho0, endD, lft, frz, stor, storAll, setAll, rtD, vIx, seqR, vII, vIC, vAdd, vSub, vMul, vFdiv, vMod, vPow, vLt, vLe, vGt, vGe, vEqS, vNeS, vIsN, vNotN, vNot, vNeg, isNo, vMin2, vMax2, vAbs, vInt1, vLen, vTuple, vList, vSum, isTy, vNotInK, vLenK, sKset, vIxoo, dSuboo, eCompL, eDict1, datR, vEqD, vNeD, vCatT, vCatL, iSeq, iTupW, iRg1, iRg2, sFor, noL, noL1, lend, scalD, R.held, R.fresh, List.map_cons, List.map_nil, List.length_cons, List.length_nil, List.cons_append, List.nil_append, List.getElem?_cons_zero, List.getElem?_cons_succ, List.set_cons_zero, List.set_cons_succ, List.replicate_succ, List.replicate_zero, Nat.zero_add, Nat.reduceAdd, Nat.reduceSub, Nat.reduceLT, Option.join_some, Option.join_none, Option.bind_some, Option.map_some, List.all_cons, List.all_nil, Bool.and_true, Bool.true_and, Bool.not_true, Bool.not_false, and_true, true_and, if_true, if_false, Bool.false_eq_true, decide_true, decide_false, reduceIte, e1, dC, dL]; exact q) (fun Q q => by simp only [sSeq, sNil, sAsg, sRet, sIf, sSet, sExpr, sFrz, sMove, sApp, sExt, sPar, eOp, eUn, eVar, eC, eIf, eAnd, eOr, eChain, tVal, uAnd, uOr, uNot, uTrue, eTup, eLst, eBi, eSl, partR, eIsi, eCall, eCallL, aCons, aNil, allD, dTup, dCons, dName, dNil, dSub, rho0, endD, lft, frz, stor, storAll, setAll, rtD, vIx, seqR, vII, vIC, vAdd, vSub, vMul, vFdiv, vMod, vPow, vLt, vLe, vGt, vGe, vEqS, vNeS, vIsN, vNotN, vNot, vNeg, isNo, vMin2, vMax2, vAbs, vInt1, vLen, vTuple, vList, vSum, isTy, vNotInK, vLenK, sKset, vIxoo, dSuboo, eCompL, eDict1, datR, vEqD, vNeD, vCatT, vCatL, iSeq, iTupW, iRg1, iRg2, sFor, noL, noL1, lend, scalD, R.held, R.fresh, List.map_cons, List.map_nil, List.length_cons, List.length_nil, List.cons_append, List.nil_append, List.getElem?_cons_zero, List.getElem?_cons_succ, List.set_cons_zero, List.set_cons_succ, List.replicate_succ, List.replicate_zero, Nat.zero_add, Nat.reduceAdd, Nat.reduceSub, Nat.reduceLT, Option.join_some, Option.join_none, Option.bind_some, Option.map_some, List.all_cons, List.all_nil, Bool.and_true, Bool.true_and, Bool.not_true, Bool.not_false, and_true, true_and, if_true, if_false, Bool.false_eq_true, decide_true, decide_false, reduceIte, e1, ixN_nat hi2, gC, ixN_last hlp]; exact q) ?_
          rw [List.length_map, dS]
          have ep1 : ((places.set i qq).map fun p => p.coming.map PyData.int).set (i - 1) (((at_ (places.set i qq) (i - 1)).coming.dropLast ++ [(at_ (places.set i qq) (i - 1)).coming.getLastD 0 + sn]).map PyData.int) = ((places.set i qq).set (i - 1) ((at_ (places.set i qq) (i - 1)).plus sn)).map fun p => p.coming.map PyData.int := by rw [List.map_set (l := places.set i qq)]; rfl
          have ep2 : ((places.set i qq).map fun p => PyData.int p.hand) = ((places.set i qq).set (i - 1) ((at_ (places.set i qq) (i - 1)).plus sn)).map fun p => PyData.int p.hand := (map_set_same (p := (at_ (places.set i qq) (i - 1)).plus sn) (fun p => PyData.int p.hand) gi1 rfl).symm
          have ep3 : ((places.set i qq).map fun p => PyData.int p.owed) = ((places.set i qq).set (i - 1) ((at_ (places.set i qq) (i - 1)).plus sn)).map fun p => PyData.int p.owed := (map_set_same (p := (at_ (places.set i qq) (i - 1)).plus sn) (fun p => PyData.int p.owed) gi1 rfl).symm
          rw [ep1, ep2, ep3]
          have pl3 : PlOk c.houses.length ((places.set i qq).set (i - 1) ((at_ (places.set i qq) (i - 1)).plus sn)) := pl2.set (i - 1) (plus_ok hc1)
          revert hq
          generalize (places.set i qq).set (i - 1) ((at_ (places.set i qq) (i - 1)).plus sn) = ps at pl3 ⊢
          intro hq
          have plp : PlOk c.houses.length ps := pl3
          have hip : i < ps.length := by rw [plp.len]; exact hlt
          have gip := at_get hip
          have bH : atI (ps.map fun p => PyData.int p.hand) (i : Int) = some (.int (at_ ps i).hand) := atI_map (fun p => PyData.int p.hand) gip
          have bO : atI (ps.map fun p => PyData.int p.owed) (i : Int) = some (.int (at_ ps i).owed) := atI_map (fun p => PyData.int p.owed) gip
          have bC : atI (ps.map fun p => p.coming.map PyData.int) (i : Int) = some ((at_ ps i).coming.map PyData.int) := atI_map (fun p => p.coming.map PyData.int) gip
          refine step_set (.int (if i + 1 < ps.length then (at_ ps (i + 1)).owed else 0)) (fun Q q => ?_) ?_
          · refine eIf_val (decide (i + 1 < ps.length)) (.int (at_ ps (i + 1)).owed) (.int 0) (fun Q q => ?_) (fun hk Q q => ?_) (fun _ Q q => by simp only [sSeq, sNil, sAsg, sRet, sIf, sSet, sExpr, sFrz, sMove, sApp, sExt, sPar, eOp, eUn, eVar, eC, eIf, eAnd, eOr, eChain, tVal, uAnd, uOr, uNot, uTrue, eTup, eLst, eBi, eSl, partR, eIsi, eCall, eCallL, aCons, aNil, allD, dTup, dCons, dName, dNil, dSub, rho0, endD, lft, frz, stor, storAll, setAll, rtD, vIx, seqR, vII, vIC, vAdd, vSub, vMul, vFdiv, vMod, vPow, vLt, vLe, vGt, vGe, vEqS, vNeS, vIsN, vNotN, vNot, vNeg, isNo, vMin2, vMax2, vAbs, vInt1, vLen, vTuple, vList, vSum, isTy, vNotInK, vLenK, sKset, vIxoo, dSuboo, eCompL, eDict1, datR, vEqD, vNeD, vCatT, vCatL, iSeq, iTupW, iRg1, iRg2, sFor, noL, noL1, lend, scalD, R.held, R.fresh, List.map_cons, List.map_nil, List.length_cons, List.length_nil, List.cons_append, List.nil_append, List.getElem?_cons_zero, List.getElem?_cons_succ, List.set_cons_zero, List.set_cons_succ, List.replicate_succ, List.replicate_zero, Nat.zero_add, Nat.reduceAdd, Nat.reduceSub, Nat.reduceLT, Option.join_some, Option.join_none, Option.bind_some, Option.map_some, List.all_cons, List.all_nil, Bool.and_true, Bool.true_and, Bool.not_true, Bool.not_false, and_true, true_and, if_true, if_false, Bool.false_eq_true, decide_true, decide_false, reduceIte]; exact q) ?_
            · simp only [sSeq, sNil, sAsg, sRet, sIf, sSet, sExpr, sFrz, sMove, sApp, sExt, sPar, eOp, eUn, eVar, eC, eIf, eAnd, eOr, eChain, tVal, uAnd, uOr, uNot, uTrue, eTup, eLst, eBi, eSl, partR, eIsi, eCall, eCallL, aCons, aNil, allD, dTup, dCons, dName, dNil, dSub, rho0, endD, lft, frz, stor, storAll, setAll, rtD, vIx, seqR, vII, vIC, vAdd, vSub, vMul, vFdiv, vMod, vPow, vLt, vLe, vGt, vGe, vEqS, vNeS, vIsN, vNotN, vNot, vNeg, isNo, vMin2, vMax2, vAbs, vInt1, vLen, vTuple, vList, vSum, isTy, vNotInK, vLenK, sKset, vIxoo, dSuboo, eCompL, eDict1, datR, vEqD, vNeD, vCatT, vCatL, iSeq, iTupW, iRg1, iRg2, sFor, noL, noL1, lend, scalD, R.held, R.fresh, List.map_cons, List.map_nil, List.length_cons, List.length_nil, List.cons_append, List.nil_append, List.getElem?_cons_zero, List.getElem?_cons_succ, List.set_cons_zero, List.set_cons_succ, List.replicate_succ, List.replicate_zero, Nat.zero_add, Nat.reduceAdd, Nat.reduceSub, Nat.reduceLT, Option.join_some, Option.join_none, Option.bind_some, Option.map_some, List.all_cons, List.all_nil, Bool.and_true, Bool.true_and, Bool.not_true, Bool.not_false, and_true, true_and, if_true, if_false, Bool.false_eq_true, decide_true, decide_false, reduceIte, List.length_map]
              have e1 : decide ((i : Int) + 1 < (ps.length : Int)) = decide (i + 1 < ps.length) := decide_eq_decide.mpr (by omega)
              rw [e1]
              exact q
            · have e1 : (i : Int) + 1 = ((i + 1 : Nat) : Int) := rfl
              have e2 := atI_map (fun p => PyData.int p.owed) (at_get (of_decide_eq_true hk))
              simp only [sSeq, sNil, sAsg, sRet, sIf, sSet, sExpr, sFrz, sMove, sApp, sExt, sPar, eOp, eUn, eVar, eC, eIf, eAnd, eOr, eChain, tVal, uAnd, uOr, uNot, uTrue, eTup, eLst, eBi, eSl, partR, eIsi, eCall, eCallL, aCons, aNil, allD, dTup, dCons, dName, dNil, dSub, rho0, endD, lft, frz, stor, storAll, setAll, rtD, vIx, seqR, vII, vIC, vAdd, vSub, vMul, vFdiv, vMod, vPow, vLt, vLe, vGt, vGe, vEqS, vNeS, vIsN, vNotN, vNot, vNeg, isNo, vMin2, vMax2, vAbs, vInt1, vLen, vTuple, vList, vSum, isTy, vNotInK, vLenK, sKset, vIxoo, dSuboo, eCompL, eDict1, datR, vEqD, vNeD, vCatT, vCatL, iSeq, iTupW, iRg1, iRg2, sFor, noL, noL1, lend, scalD, R.held, R.fresh, List.map_cons, List.map_nil, List.length_cons, List.length_nil, List.cons_append, List.nil_append, List.getElem?_cons_zero, List.getElem?_cons_succ, List.set_cons_zero, List.set_cons_succ, List.replicate_succ, List.replicate_zero, Nat.zero_add, Nat.reduceAdd, Nat.reduceSub, Nat.reduceLT, Option.join_some, Option.join_none, Option.bind_some, Option.map_some, List.all_cons, List.all_nil, Bool.and_true, Bool.true_and, Bool.not_true, Bool.not_false, and_true, true_and, if_true, if_false, Bool.false_eq_true, decide_true, decide_false, reduceIte, e1, e2]
              exact q
            · have e0 : (if decide (i + 1 < ps.length) = true then PyData.int (at_ ps (i + 1)).owed else PyData.int 0) = .int (if i + 1 < ps.length then (at_ ps (i + 1)).owed else 0) := by
                by_cases h1 : i + 1 < ps.length
                · rw [if_pos (decide_eq_true h1), if_pos h1]
                · rw [if_neg (by rw [decide_eq_false h1]; exact Bool.false_ne_true), if_neg h1]
              rw [e0]
              exact q
          simp only [List.set_cons_zero, List.set_cons_succ]
          have hch : atI (c.houses.map House.enc) (i : Int) = some h.enc := atI_map House.enc e
          refine step_set (.int (h.order (posOf ps i))) (fun Q q => ?_) ?_
          · refine (ev_op (ev_op (ev_op (ev_vd rfl) ev_c rfl) (ev_vd rfl) (ix_t hch)) ev_c rfl : Ev _ _ _ (R.d h.rule)) _ ?_
            refine (ev_op (ev_op (ev_op (ev_op (ev_vo rfl) (ev_vd rfl) (ix_l bH)) (ev_bi (ev_op (ev_voo rfl) (ev_vd rfl) (ix_oo bC)) sum_o) ii_) (ev_vd rfl) ii_) (ev_op (ev_vo rfl) (ev_vd rfl) (ix_l bO)) ii_ : Ev _ _ _ (R.d (.int (posOf ps i)))) _ ?_
            exact ⟨rfl, h, _, hok, rfl, q⟩
          simp only [List.set_cons_zero, List.set_cons_succ]
          simp only [sSeq, sNil, sAsg, sRet, sIf, sSet, sExpr, sFrz, sMove, sApp, sExt, sPar, eOp, eUn, eVar, eC, eIf, eAnd, eOr, eChain, tVal, uAnd, uOr, uNot, uTrue, eTup, eLst, eBi, eSl, partR, eIsi, eCall, eCallL, aCons, aNil, allD, dTup, dCons, dName, dNil, dSub, rho0, endD, lft, frz, stor, storAll, setAll, rtD, vIx, seqR, vII, vIC, vAdd, vSub, vMul, vFdiv, vMod, vPow, vLt, vLe, vGt, vGe, vEqS, vNeS, vIsN, vNotN, vNot, vNeg, isNo, vMin2, vMax2, vAbs, vInt1, vLen, vTuple, vList, vSum, isTy, vNotInK, vLenK, sKset, vIxoo, dSuboo, eCompL, eDict1, datR, vEqD, vNeD, vCatT, vCatL, iSeq, iTupW, iRg1, iRg2, sFor, noL, noL1, lend, scalD, R.held, R.fresh, List.map_cons, List.map_nil, List.length_cons, List.length_nil, List.cons_append, List.nil_append, List.getElem?_cons_zero, List.getElem?_cons_succ, List.set_cons_zero, List.set_cons_succ, List.replicate_succ, List.replicate_zero, Nat.zero_add, Nat.reduceAdd, Nat.reduceSub, Nat.reduceLT, Option.join_some, Option.join_none, Option.bind_some, Option.map_some, List.all_cons, List.all_nil, Bool.and_true, Bool.true_and, Bool.not_true, Bool.not_false, and_true, true_and, if_true, if_false, Bool.false_eq_true, decide_true, decide_false, reduceIte, hor2]
          simp only [List.map_append] at hq
          exact hq _ _ ⟨rfl, _, _, _, _, _, _, _, rfl⟩
      · rintro ρ b' ⟨rfl, z5, z7, z11, z12, z13, z14, z15, rfl⟩
        rw [rangeD_length, show ((c.houses.length : Int) - 0).toNat = c.houses.length by omega, dayI_all]
        have pl := dayI_ok (d := d) pl0 c.houses.length (Nat.le_refl _)
        rw [dayI_all] at pl
        simp only [sSeq, sNil, sAsg, sRet, sIf, sSet, sExpr, sFrz, sMove, sApp, sExt, sPar, eOp, eUn, eVar, eC, eIf, eAnd, eOr, eChain, tVal, uAnd, uOr, uNot, uTrue, eTup, eLst, eBi, eSl, partR, eIsi, eCall, eCallL, aCons, aNil, allD, dTup, dCons, dName, dNil, dSub, rho0, endD, lft, frz, storAll, setAll, rtD, vIx_t, vIx_l, vIx_o, vLen_t, vLen_l, vLen_o, vTuple_o, stor_d, stor_o, vII, vIC, vAdd, vSub, vMul, vFdiv, vMod, vPow, vLt, vLe, vGt, vGe, vEqS, vNeS, vIsN, vNotN, vNot, vNeg, isNo, vMin2, vMax2, vAbs, vInt1, vList, vSum, isTy, vNotInK, vLenK, sKset, vIxoo, dSuboo, eCompL, eDict1, datR, vEqD, vNeD, vCatT, vCatL, iSeq, iTupW, iRg1, iRg2, sFor, noL, noL1, lend, scalD, R.held, R.fresh, List.map_cons, List.map_nil, List.length_cons, List.length_nil, List.cons_append, List.nil_append, List.getElem?_cons_zero, List.getElem?_cons_succ, List.set_cons_zero, List.set_cons_succ, List.replicate_succ, List.replicate_zero, Nat.zero_add, Nat.reduceAdd, Nat.reduceSub, Nat.reduceLT, Option.join_some, Option.join_none, Option.bind_some, Option.map_some, List.all_cons, List.all_nil, Bool.and_true, Bool.true_and, Bool.not_true, Bool.not_false, and_true, true_and, if_true, if_false, Bool.false_eq_true, decide_true, decide_false, reduceIte]
        have hpos : 0 < (dayEnd c s d).places.length := by rw [pl.len]; omega
        have hlast : (dayEnd c s d).places.length - 1 < (dayEnd c s d).places.length := by omega
        have hat := pl.at (show (dayEnd c s d).places.length - 1 < c.houses.length by rw [← pl.len]; exact hlast)
        have q2 : ∀ full, Q (.tuple [.tuple ((dayS c s d).map Place.enc), .tuple [.int (dayEnd c s d).first, .int (dayEnd c s d).lost, .tuple ((dayEnd c s d).orders.map PyData.int)], full]) b' := q
        clear q
        unfold dayS at q2
        simp only at q2
        revert hpos hlast hat pl q2
        generalize dayEnd c s d = st
        intro pl hpos hlast hat q2
        obtain ⟨ps, asked, orders, first, lost⟩ := st
        simp only at pl hpos hlast hat q2 ⊢
        have gl := at_get hlast
        have gC : (ps.map fun p => p.coming.map PyData.int)[(ps.map fun p => p.coming.map PyData.int).length - 1]? = some ((at_ ps (ps.length - 1)).coming.map PyData.int) := by rw [List.length_map, List.getElem?_map, gl]; rfl
        have hposC : 0 < (ps.map fun p => p.coming.map PyData.int).length := by rw [List.length_map]; exact hpos
        have dC : atI (ps.map fun p => p.coming.map PyData.int) (-1) = some ((at_ ps (ps.length - 1)).coming.map PyData.int) := atI_lastG hposC gC
        obtain ⟨dL, dS⟩ := last_ints asked hat.1
        have hlp : 0 < ((at_ ps (ps.length - 1)).coming.map PyData.int).length := by rw [List.length_map]; exact List.length_pos_iff.mpr hat.1
        simp only [dC, Option.map_some, Option.bind_some, dL, ixN_last hposC, gC, ixN_last hlp]
        rw [List.length_map, List.length_map, List.length_map, dS]
        have ep1 : (ps.map fun p => p.coming.map PyData.int).set (ps.length - 1) (((at_ ps (ps.length - 1)).coming.dropLast ++ [(at_ ps (ps.length - 1)).coming.getLastD 0 + asked]).map PyData.int) = (ps.set (ps.length - 1) ((at_ ps (ps.length - 1)).plus asked)).map fun p => p.coming.map PyData.int := by rw [List.map_set (l := ps)]; rfl
        have ep2 : (ps.map fun p => PyData.int p.hand) = (ps.set (ps.length - 1) ((at_ ps (ps.length - 1)).plus asked)).map fun p => PyData.int p.hand := (map_set_same (p := (at_ ps (ps.length - 1)).plus asked) (fun p => PyData.int p.hand) gl rfl).symm
        have ep3 : (ps.map fun p => PyData.int p.owed) = (ps.set (ps.length - 1) ((at_ ps (ps.length - 1)).plus asked)).map fun p => PyData.int p.owed := (map_set_same (p := (at_ ps (ps.length - 1)).plus asked) (fun p => PyData.int p.owed) gl rfl).symm
        rw [ep1, ep2, ep3]
        have hlen2 : ps.length = (ps.set (ps.length - 1) ((at_ ps (ps.length - 1)).plus asked)).length := by rw [List.length_set]
        have h3 : ps.length ≤ 3 := by rw [pl.len]; exact hn.2
        rw [hlen2] at h3
        revert q2 h3
        rw [show rangeD 0 (ps.length : Int) = (upTo 0 ((ps.set (ps.length - 1) ((at_ ps (ps.length - 1)).plus asked)).length : Int)).map PyData.int by rw [← hlen2]; exact rangeD_up _ _]
        refine fun q2 h3 => ⟨by omega, ?_⟩
        revert q2 h3
        generalize ps.set (ps.length - 1) ((at_ ps (ps.length - 1)).plus asked) = p2
        intro q2 h3
        refine cmp_map PyData.int (fun k => (at_ p2 k.toNat).enc) (upTo 0 (p2.length : Int)) b' [] _ (fun a ha b Q q => ?_) ?_ ?_
        · unfold upTo at ha
          obtain ⟨i, hi, rfl⟩ := List.mem_map.mp ha
          rw [List.mem_range] at hi
          have hi2 : i < p2.length := by omega
          have gi := at_get hi2
          have e0 : (0 : Int) + (i : Int) = (i : Int) := Int.zero_add _
          rw [e0] at q ⊢
          rw [Int.toNat_natCast] at q
          have bH : atI (p2.map fun p => PyData.int p.hand) (i : Int) = some (.int (at_ p2 i).hand) := atI_map (fun p => PyData.int p.hand) gi
          have bO : atI (p2.map fun p => PyData.int p.owed) (i : Int) = some (.int (at_ p2 i).owed) := atI_map (fun p => PyData.int p.owed) gi
          have bC : atI (p2.map fun p => p.coming.map PyData.int) (i : Int) = some ((at_ p2 i).coming.map PyData.int) := atI_map (fun p => p.coming.map PyData.int) gi
          simp only [tgD, lft, List.set_cons_succ, List.set_cons_zero, eTup, aCons, aNil]
          refine (ev_op (ev_vo rfl) (ev_vd rfl) (ix_l bH) : Ev _ _ _ (R.d (.int (at_ p2 i).hand))) _ ?_
          refine (ev_bi (ev_op (ev_voo rfl) (ev_vd rfl) (ix_oo bC)) rfl : Ev _ _ _ (R.d (.tuple ((at_ p2 i).coming.map PyData.int)))) _ ?_
          refine (ev_op (ev_vo rfl) (ev_vd rfl) (ix_l bO) : Ev _ _ _ (R.d (.int (at_ p2 i).owed))) _ ?_
          exact q
        · unfold upTo
          rw [List.length_map, List.length_range, List.length_nil]
          omega
        · have e9 : ([] : List PyData) ++ (upTo 0 (p2.length : Int)).map (fun k => (at_ p2 k.toNat).enc) = p2.map Place.enc := by
            rw [List.nil_append]
            unfold upTo
            rw [List.map_map]
            refine List.ext_getElem (by simp) fun i h1 h2 => ?_
            rw [List.length_map] at h2
            rw [List.getElem_map, List.getElem_map, List.getElem_range]
            have g := at_get h2
            rw [List.getElem?_eq_getElem h2] at g
            injection g with g
            rw [g]
            show (at_ p2 ((0 : Int) + (i : Int)).toNat).enc = _
            rw [Int.zero_add, Int.toNat_natCast]
          rw [e9]
          simp only [atI_0, atI_1, Option.map_some]
          exact q2 _)
end
end L2.U
/-! The law's defs: pairs, the search. -/
namespace L2.U
open PySem PySem.Spec PyProof.Rows
section
variable {P : Program} {w : World} {K : PySem.W.Frag} {mg : Str → Option Value} {base : Heap}
def pt_q_pair_behind : FW := fun rs b Q => ∃ (c d : Chain) (t : Band) (p : PairS) (x : Int), c.Ok ∧ d.Ok ∧ PlOk c.houses.length p.near ∧ PlOk d.houses.length p.far ∧ rs = [.d (.tuple [c.enc, d.enc]), .d t.enc, .d p.enc, .d (.int x)] ∧
  Q (.tuple [(pairNext c d t p x).enc, (dayN c p.near x).enc, (dayN d p.far x).enc]) b
theorem mono_q_pair_behind : FMono pt_q_pair_behind := fun rs b Q Q' hh ⟨c, d, t, p, x, o, o2, o3, o4, e, q⟩ => ⟨c, d, t, p, x, o, o2, o3, o4, e, hh _ _ q⟩
abbrev s_q_pair_behind : Stmt := topS 57
theorem sc_q_pair_behind : FnScope ["_law_chains", "_law_band_here", "_law_pair", "_law_demand", "_law_near_here", "_law_mine", "_law_full", "_law_far", "_law_yours", "_law_rest"] ["_law_chains", "_law_band_here", "_law_pair", "_law_demand"] (defScope s_q_pair_behind) := ⟨rfl, rfl, rfl, by decide +kernel, rfl, by decide +kernel, by decide +kernel⟩
theorem ok_q_pair_behind {f : Addr} {fd : FuncData} (F : Fun K "_law_pair_behind" "_law_pair_behind" s_q_pair_behind f fd) (hm : mg "_law_pair_behind" = some (.ref f)) (hb : Binds K fd ["_law_chains", "_law_band_here", "_law_pair", "_law_demand"] []) (nb : Nb mg) (kc : Kc mg) (C_q_day : Can P w K mg base 2 "_law_day" ["_law_chain_here", "_law_stand", "_law_demand"] pt_q_day) :
    Can P w K mg base 3 "_law_pair_behind" ["_law_chains", "_law_band_here", "_law_pair", "_law_demand"] pt_q_pair_behind := by
  exact fn_data F sc_q_pair_behind hm hb mono_q_pair_behind (fun md G cdv A outer s H E hr =>
    (pdb_cons (pds_asg (pd_call C_q_day (hr.mono (by decide)) (by rfl) (pda_cons (pd_ix (pv_ 0) pd_int) (pda_cons (pd_ix (pv_ 2) pd_int) (pda_cons (pv_ 3) pda_nil)))) (pdg_tup (n := 3) rfl (pdgs_cons (pdg_name (i := 4) sc_q_pair_behind.nd rfl (by first | exact .inl rfl | exact .inr rfl)) (pdgs_cons (pdg_name (i := 5) sc_q_pair_behind.nd rfl (by first | exact .inl rfl | exact .inr rfl)) (pdgs_cons (pdg_name (i := 6) sc_q_pair_behind.nd rfl (by first | exact .inl rfl | exact .inr rfl)) pdgs_nil)))))
      (pdb_cons (pds_asg (pd_call C_q_day (hr.mono (by decide)) (by rfl) (pda_cons (pd_ix (pv_ 0) pd_int) (pda_cons (pd_ix (pv_ 2) pd_int) (pda_cons (pv_ 3) pda_nil)))) (pdg_tup (n := 3) rfl (pdgs_cons (pdg_name (i := 7) sc_q_pair_behind.nd rfl (by first | exact .inl rfl | exact .inr rfl)) (pdgs_cons (pdg_name (i := 8) sc_q_pair_behind.nd rfl (by first | exact .inl rfl | exact .inr rfl)) (pdgs_cons (pdg_name (i := 9) sc_q_pair_behind.nd rfl (by first | exact .inl rfl | exact .inr rfl)) pdgs_nil)))))
      (pdb_one (pds_ret (pd_tup (pda_cons (pd_tup (pda_cons (pv_ 4) (pda_cons (pv_ 7) (pda_cons (pd_if (pdt_isN (pd_ix (pv_ 1) pd_int) pd_non) pd_non (pv_ 3)) pda_nil)))) (pda_cons (pv_ 5) (pda_cons (pv_ 8) pda_nil)))))))))
    (by
      rintro rs b Q hl ⟨c, d, t, p, x, o1, o2, o3, o4, rfl, q⟩
      unfold pairNext at q
      simp only [sSeq, sNil, sAsg, sRet, sIf, sSet, sExpr, sFrz, sMove, sApp, sExt, sPar, eOp, eUn, eVar, eC, eIf, eAnd, eOr, eChain, tVal, uAnd, uOr, uNot, uTrue, eTup, eLst, eBi, eSl, partR, eIsi, eCall, eCallL, aCons, aNil, allD, dTup, dCons, dName, dNil, dSub, rho0, endD, lft, frz, stor, storAll, setAll, rtD, vIx, seqR, vII, vIC, vAdd, vSub, vMul, vFdiv, vMod, vPow, vLt, vLe, vGt, vGe, vEqS, vNeS, vIsN, vNotN, vNot, vNeg, isNo, vMin2, vMax2, vAbs, vInt1, vLen, vTuple, vList, vSum, isTy, vNotInK, vLenK, sKset, vIxoo, dSuboo, eCompL, eDict1, datR, vEqD, vNeD, vCatT, vCatL, iSeq, iTupW, iRg1, iRg2, sFor, noL, noL1, lend, scalD, R.held, R.fresh, List.map_cons, List.map_nil, List.length_cons, List.length_nil, List.cons_append, List.nil_append, List.getElem?_cons_zero, List.getElem?_cons_succ, List.set_cons_zero, List.set_cons_succ, List.replicate_succ, List.replicate_zero, Nat.zero_add, Nat.reduceAdd, Nat.reduceSub, Nat.reduceLT, Option.join_some, Option.join_none, Option.bind_some, Option.map_some, List.all_cons, List.all_nil, Bool.and_true, Bool.true_and, Bool.not_true, Bool.not_false, and_true, true_and, if_true, if_false, Bool.false_eq_true, decide_true, decide_false, reduceIte, PairS.enc, atI_0, atI_1]
      refine ⟨c, p.near, x, o1, o3, rfl, fun full => ?_⟩
      simp only [sSeq, sNil, sAsg, sRet, sIf, sSet, sExpr, sFrz, sMove, sApp, sExt, sPar, eOp, eUn, eVar, eC, eIf, eAnd, eOr, eChain, tVal, uAnd, uOr, uNot, uTrue, eTup, eLst, eBi, eSl, partR, eIsi, eCall, eCallL, aCons, aNil, allD, dTup, dCons, dName, dNil, dSub, rho0, endD, lft, frz, stor, storAll, setAll, rtD, vIx, seqR, vII, vIC, vAdd, vSub, vMul, vFdiv, vMod, vPow, vLt, vLe, vGt, vGe, vEqS, vNeS, vIsN, vNotN, vNot, vNeg, isNo, vMin2, vMax2, vAbs, vInt1, vLen, vTuple, vList, vSum, isTy, vNotInK, vLenK, sKset, vIxoo, dSuboo, eCompL, eDict1, datR, vEqD, vNeD, vCatT, vCatL, iSeq, iTupW, iRg1, iRg2, sFor, noL, noL1, lend, scalD, R.held, R.fresh, List.map_cons, List.map_nil, List.length_cons, List.length_nil, List.cons_append, List.nil_append, List.getElem?_cons_zero, List.getElem?_cons_succ, List.set_cons_zero, List.set_cons_succ, List.replicate_succ, List.replicate_zero, Nat.zero_add, Nat.reduceAdd, Nat.reduceSub, Nat.reduceLT, Option.join_some, Option.join_none, Option.bind_some, Option.map_some, List.all_cons, List.all_nil, Bool.and_true, Bool.true_and, Bool.not_true, Bool.not_false, and_true, true_and, if_true, if_false, Bool.false_eq_true, decide_true, decide_false, reduceIte, PairS.enc, atI_0, atI_1]
      refine ⟨d, p.far, x, o2, o4, rfl, fun full => ?_⟩
      simp only [sSeq, sNil, sAsg, sRet, sIf, sSet, sExpr, sFrz, sMove, sApp, sExt, sPar, eOp, eUn, eVar, eC, eIf, eAnd, eOr, eChain, tVal, uAnd, uOr, uNot, uTrue, eTup, eLst, eBi, eSl, partR, eIsi, eCall, eCallL, aCons, aNil, allD, dTup, dCons, dName, dNil, dSub, rho0, endD, lft, frz, stor, storAll, setAll, rtD, vIx, seqR, vII, vIC, vAdd, vSub, vMul, vFdiv, vMod, vPow, vLt, vLe, vGt, vGe, vEqS, vNeS, vIsN, vNotN, vNot, vNeg, isNo, vMin2, vMax2, vAbs, vInt1, vLen, vTuple, vList, vSum, isTy, vNotInK, vLenK, sKset, vIxoo, dSuboo, eCompL, eDict1, datR, vEqD, vNeD, vCatT, vCatL, iSeq, iTupW, iRg1, iRg2, sFor, noL, noL1, lend, scalD, R.held, R.fresh, List.map_cons, List.map_nil, List.length_cons, List.length_nil, List.cons_append, List.nil_append, List.getElem?_cons_zero, List.getElem?_cons_succ, List.set_cons_zero, List.set_cons_succ, List.replicate_succ, List.replicate_zero, Nat.zero_add, Nat.reduceAdd, Nat.reduceSub, Nat.reduceLT, Option.join_some, Option.join_none, Option.bind_some, Option.map_some, List.all_cons, List.all_nil, Bool.and_true, Bool.true_and, Bool.not_true, Bool.not_false, and_true, true_and, if_true, if_false, Bool.false_eq_true, decide_true, decide_false, reduceIte, PairS.enc, Band.enc, atI_0, atI_1, atI_2]
      unfold PairS.enc keepT at q
      cases e : t.turn with
      | none =>
        simp only [e, encO] at q ⊢
        exact q
      | some y =>
        simp only [e, encO] at q ⊢
        exact q)
theorem inGo_len {c d : Chain} {t : Band} {p : PairS} {row : Row} {N : Nat} (hr : row.length = N) : ∀ (xs : List Int) (k : List PairS) (f : List (PairS × Row)), (∀ r, inGo c d t p row xs k f = .inl r → r.length = N + 1) ∧ ((∀ pr ∈ f, pr.2.length = N + 1) → ∀ kf, inGo c d t p row xs k f = .inr kf → ∀ pr ∈ kf.2, pr.2.length = N + 1)
  | [], k, f => ⟨(fun r h => by cases h), (fun hf kf h => by cases h; exact hf)⟩
  | x :: xs, k, f => by
    rw [inGo_cons]
    split
    · refine ⟨fun r h => ?_, (fun hf kf h => by cases h)⟩
      injection h with h
      rw [← h, List.length_append, List.length_singleton, hr]
    · split
      · exact inGo_len hr xs k f
      · obtain ⟨h1, h2⟩ := inGo_len hr xs (k ++ [pairNext c d t p x]) (f ++ [(pairNext c d t p x, row ++ [x])])
        refine ⟨h1, fun hf kf h => h2 (fun pr hp => ?_) kf h⟩
        rcases List.mem_append.mp hp with z | z
        · exact hf pr z
        · have : pr = (pairNext c d t p x, row ++ [x]) := by simpa using z
          rw [this, List.length_append, List.length_singleton, hr]
theorem layGo_len {c d : Chain} {t : Band} {N : Nat} : ∀ (l : List (PairS × Row)) (k : List PairS) (f : List (PairS × Row)), (∀ pr ∈ l, pr.2.length = N) → (∀ r, layGo c d t l k f = .inl r → (∀ pr ∈ f, pr.2.length = N + 1) → r.length = N + 1) ∧ ((∀ pr ∈ f, pr.2.length = N + 1) → ∀ kf, layGo c d t l k f = .inr kf → ∀ pr ∈ kf.2, pr.2.length = N + 1)
  | [], k, f, _ => ⟨(fun r h => by cases h), (fun hf kf h => by cases h; exact hf)⟩
  | pr :: ps, k, f, hl => by
    rw [layGo_cons]
    have hi := inGo_len (c := c) (d := d) (t := t) (p := pr.1) (hl pr List.mem_cons_self) (t.may pr.1.last) k f
    cases e : inGo c d t pr.1 pr.2 (t.may pr.1.last) k f with
    | inl r' =>
      refine ⟨fun r h _ => ?_, fun hf kf h => by cases h⟩
      injection h with h
      rw [← h]
      exact hi.1 r' e
    | inr kf' =>
      have ih := layGo_len (c := c) (d := d) (t := t) ps kf'.1 kf'.2 fun z hz => hl z (List.mem_cons_of_mem _ hz)
      exact ⟨fun r h hf => ih.1 r h (hi.2 hf kf' e), fun hf kf h => ih.2 (hi.2 hf kf' e) kf h⟩
def encP1 (pr : PairS × Row) : PyData := pr.1.enc
def pt_q_parts_in : FW := fun rs b Q => ∃ (c d : Chain) (t : Band) (most : Nat), c.Ok ∧ d.Ok ∧ t.Ok ∧ 1 ≤ most ∧ most ≤ 1000 ∧ rs = [.d c.enc, .d d.enc, .d t.enc, .d (.int (most : Int))] ∧ Q .none b ∧
  ∀ n r, Run c d t most n [pairBegin c d] [(pairBegin c d, [])] r → Q (.int (match r with | none => 0 | some row => (row.length : Int))) b
theorem mono_q_parts_in : FMono pt_q_parts_in := fun rs b Q Q' hh ⟨c, d, t, m, o, o2, o3, o4, o5, e, q, q2⟩ => ⟨c, d, t, m, o, o2, o3, o4, o5, e, hh _ _ q, fun n r h => hh _ _ (q2 n r h)⟩
abbrev s_q_parts_in : Stmt := topS 59
theorem sc_q_parts_in : FnScope ["_law_one", "_law_other", "_law_band_here", "_law_most_so", "_law_first", "_law_known", "_law_layer", "_law_total", "_law_pair", "_law_fresh", "_law_demand", "_law_goal", "_law_mine", "_law_yours"] ["_law_one", "_law_other", "_law_band_here", "_law_most_so"] (defScope s_q_parts_in) := ⟨rfl, rfl, rfl, by decide +kernel, rfl, by decide +kernel, by decide +kernel⟩
theorem ok_q_parts_in {f : Addr} {fd : FuncData} (F : Fun K "_law_parts_in" "_law_parts_in" s_q_parts_in f fd) (hm : mg "_law_parts_in" = some (.ref f)) (hb : Binds K fd ["_law_one", "_law_other", "_law_band_here", "_law_most_so"] []) (nb : Nb mg) (kc : Kc mg) (C_q_may : Can P w K mg base 1 "_law_may" ["_law_band_here", "_law_last"] pt_q_may) (C_q_pair_behind : Can P w K mg base 3 "_law_pair_behind" ["_law_chains", "_law_band_here", "_law_pair", "_law_demand"] pt_q_pair_behind) (C_q_begin : Can P w K mg base 2 "_law_begin" ["_law_chain_here"] pt_q_begin) :
    Can P w K mg base 4 "_law_parts_in" ["_law_one", "_law_other", "_law_band_here", "_law_most_so"] pt_q_parts_in := by
  exact fn_data F sc_q_parts_in hm hb mono_q_parts_in (fun md G cdv A outer s H E hr =>
    (pdb_cons (pds_set (i := 4) sc_q_parts_in.nd rfl (by first | exact .inl rfl | exact .inr rfl) (pd_tup (pda_cons (pd_call C_q_begin (hr.mono (by decide)) (by rfl) (pda_cons (pv_ 0) pda_nil)) (pda_cons (pd_call C_q_begin (hr.mono (by decide)) (by rfl) (pda_cons (pv_ 1) pda_nil)) (pda_cons pd_non pda_nil)))))
      (pdb_cons (pds_par3X (pda_cons (pd_dict1 hr.units (pv_ 4)) (pda_cons (pd_lst (pda_cons (pv_ 4) pda_nil)) (pda_cons pd_int pda_nil))) (fun h => ps_par3 (i := 5) (j := 6) (l := 7) rfl sc_q_parts_in.nd rfl rfl rfl (by decide) (by decide) (by decide) rfl rfl rfl h (by rfl)))
      (pdb_cons (pds_while PassesOwn.never (pdt_neD hr.units (pv_ 6) (pd_lst pda_nil)) (pdb_cons (pds_par2X (pda_cons (pd_lst pda_nil) (pda_cons (pd_add (pv_ 7) pd_int) pda_nil)) (fun h => ps_par (i := 9) (j := 7) rfl sc_q_parts_in.nd rfl rfl (by decide) rfl rfl h (by rfl)))
      (pdb_frz 6 (pdb_cons (pds_for PassesOwn.never rfl (pdi_list (pv_ 6)) (pdg_name (i := 8) sc_q_parts_in.nd rfl (by first | exact .inl rfl | exact .inr rfl)) (pdb_one (pds_for PassesOwn.never rfl (pdi_list (pd_call C_q_may (hr.mono (by decide)) (by rfl) (pda_cons (pv_ 2) (pda_cons (pd_ix (pv_ 8) pd_int) pda_nil)))) (pdg_name (i := 10) sc_q_parts_in.nd rfl (by first | exact .inl rfl | exact .inr rfl)) (pdb_cons (pds_asg (pd_call C_q_pair_behind (hr.mono (by decide)) (by rfl) (pda_cons (pd_tup (pda_cons (pv_ 0) (pda_cons (pv_ 1) pda_nil))) (pda_cons (pv_ 2) (pda_cons (pv_ 8) (pda_cons (pv_ 10) pda_nil))))) (pdg_tup (n := 3) rfl (pdgs_cons (pdg_name (i := 11) sc_q_parts_in.nd rfl (by first | exact .inl rfl | exact .inr rfl)) (pdgs_cons (pdg_name (i := 12) sc_q_parts_in.nd rfl (by first | exact .inl rfl | exact .inr rfl)) (pdgs_cons (pdg_name (i := 13) sc_q_parts_in.nd rfl (by first | exact .inl rfl | exact .inr rfl)) pdgs_nil)))))
      (pdb_cons (pds_if (pdt_neD hr.units (pd_slT (pv_ 12) pdo_none (pdo_some pd_int)) (pd_slT (pv_ 13) pdo_none (pdo_some pd_int))) (pdb_one (pds_ret (pv_ 7))) pdb_nil)
      (pdb_one (pds_if (pdt_notInK hr.units (pv_ 11) (pv_ 5)) (pdb_cons (pds_kset (i := 5) hr.units (pv 5) (pv_ 11))
      (pdb_one (pds_app2 (pv_ 11) (fun h => ps_expr (pe_bm PySem.F.plainAttrs_list PySem.F.slot_list_append PySem.F.type_list_append mt_append (pv 9) (pa_cons h pa_nil)))))) pdb_nil)))))))
      (pdb_cons (pds_if (pdt_gt (pd_lenK (by rfl) nb.len (pda_cons (pv_ 5) pda_nil)) (pv_ 3)) (pdb_one (pds_ret pd_non)) pdb_nil)
      (pdb_one (pds_move (i := 6) (j := 9) sc_q_parts_in.nd rfl (by first | exact .inl rfl | exact .inr rfl) (pv 9))))))))
      (pdb_one (pds_ret pd_int))))))
    (by
      rintro rs b Q hl ⟨c, d, t, most, o1, o2, o3, m1, m2, rfl, q, q2⟩
      simp only [sSeq, sNil, sAsg, sRet, sIf, sSet, sExpr, sFrz, sMove, sApp, sExt, sPar, eOp, eUn, eVar, eC, eIf, eAnd, eOr, eChain, tVal, uAnd, uOr, uNot, uTrue, eTup, eLst, eBi, eSl, partR, eIsi, eCall, eCallL, aCons, aNil, allD, dTup, dCons, dName, dNil, dSub, rho0, endD, lft, frz, stor, storAll, setAll, rtD, vIx, seqR, vII, vIC, vAdd, vSub, vMul, vFdiv, vMod, vPow, vLt, vLe, vGt, vGe, vEqS, vNeS, vIsN, vNotN, vNot, vNeg, isNo, vMin2, vMax2, vAbs, vInt1, vLen, vTuple, vList, vSum, isTy, vNotInK, vLenK, sKset, vIxoo, dSuboo, eCompL, eDict1, datR, vEqD, vNeD, vCatT, vCatL, iSeq, iTupW, iRg1, iRg2, sFor, noL, noL1, lend, scalD, R.held, R.fresh, List.map_cons, List.map_nil, List.length_cons, List.length_nil, List.cons_append, List.nil_append, List.getElem?_cons_zero, List.getElem?_cons_succ, List.set_cons_zero, List.set_cons_succ, List.replicate_succ, List.replicate_zero, Nat.zero_add, Nat.reduceAdd, Nat.reduceSub, Nat.reduceLT, Option.join_some, Option.join_none, Option.bind_some, Option.map_some, List.all_cons, List.all_nil, Bool.and_true, Bool.true_and, Bool.not_true, Bool.not_false, and_true, true_and, if_true, if_false, Bool.false_eq_true, decide_true, decide_false, reduceIte]
      refine ⟨c, o1, rfl, ?_⟩
      simp only [sSeq, sNil, sAsg, sRet, sIf, sSet, sExpr, sFrz, sMove, sApp, sExt, sPar, eOp, eUn, eVar, eC, eIf, eAnd, eOr, eChain, tVal, uAnd, uOr, uNot, uTrue, eTup, eLst, eBi, eSl, partR, eIsi, eCall, eCallL, aCons, aNil, allD, dTup, dCons, dName, dNil, dSub, rho0, endD, lft, frz, stor, storAll, setAll, rtD, vIx, seqR, vII, vIC, vAdd, vSub, vMul, vFdiv, vMod, vPow, vLt, vLe, vGt, vGe, vEqS, vNeS, vIsN, vNotN, vNot, vNeg, isNo, vMin2, vMax2, vAbs, vInt1, vLen, vTuple, vList, vSum, isTy, vNotInK, vLenK, sKset, vIxoo, dSuboo, eCompL, eDict1, datR, vEqD, vNeD, vCatT, vCatL, iSeq, iTupW, iRg1, iRg2, sFor, noL, noL1, lend, scalD, R.held, R.fresh, List.map_cons, List.map_nil, List.length_cons, List.length_nil, List.cons_append, List.nil_append, List.getElem?_cons_zero, List.getElem?_cons_succ, List.set_cons_zero, List.set_cons_succ, List.replicate_succ, List.replicate_zero, Nat.zero_add, Nat.reduceAdd, Nat.reduceSub, Nat.reduceLT, Option.join_some, Option.join_none, Option.bind_some, Option.map_some, List.all_cons, List.all_nil, Bool.and_true, Bool.true_and, Bool.not_true, Bool.not_false, and_true, true_and, if_true, if_false, Bool.false_eq_true, decide_true, decide_false, reduceIte]
      refine ⟨d, o2, rfl, ?_⟩
      simp only [sSeq, sNil, sAsg, sRet, sIf, sSet, sExpr, sFrz, sMove, sApp, sExt, sPar, eOp, eUn, eVar, eC, eIf, eAnd, eOr, eChain, tVal, uAnd, uOr, uNot, uTrue, eTup, eLst, eBi, eSl, partR, eIsi, eCall, eCallL, aCons, aNil, allD, dTup, dCons, dName, dNil, dSub, rho0, endD, lft, frz, stor, storAll, setAll, rtD, vIx, seqR, vII, vIC, vAdd, vSub, vMul, vFdiv, vMod, vPow, vLt, vLe, vGt, vGe, vEqS, vNeS, vIsN, vNotN, vNot, vNeg, isNo, vMin2, vMax2, vAbs, vInt1, vLen, vTuple, vList, vSum, isTy, vNotInK, vLenK, sKset, vIxoo, dSuboo, eCompL, eDict1, datR, vEqD, vNeD, vCatT, vCatL, iSeq, iTupW, iRg1, iRg2, sFor, noL, noL1, lend, scalD, R.held, R.fresh, List.map_cons, List.map_nil, List.length_cons, List.length_nil, List.cons_append, List.nil_append, List.getElem?_cons_zero, List.getElem?_cons_succ, List.set_cons_zero, List.set_cons_succ, List.replicate_succ, List.replicate_zero, Nat.zero_add, Nat.reduceAdd, Nat.reduceSub, Nat.reduceLT, Option.join_some, Option.join_none, Option.bind_some, Option.map_some, List.all_cons, List.all_nil, Bool.and_true, Bool.true_and, Bool.not_true, Bool.not_false, and_true, true_and, if_true, if_false, Bool.false_eq_true, decide_true, decide_false, reduceIte]
      have ebeg : keyD [encS c.begin, encS d.begin, PyData.none] = some (pairBegin c d).key := keyD_pair (pairBegin c d)
      simp only [ebeg]
      have snil : SeqAt.shaped (.list []) = true := by decide
      refine wh_cps (fun n ρ b' => ∃ (k : List PairS) (l : List (PairS × Row)) (total : Nat) (z8 z9 z10 z11 z12 z13 : Option R), LayI c d k l ∧ k.length ≤ most ∧ (∀ pr ∈ l, pr.2.length = total) ∧ (∀ m r, Run c d t most m k l r → ∃ m', Run c d t most m' [pairBegin c d] [(pairBegin c d, [])] r) ∧ b' = b ∧ n = (if l = [] then 0 else most + 1 - k.length) ∧
        ρ = [some (.d c.enc), some (.d d.enc), some (.d t.enc), some (.d (.int (most : Int))), some (.d (pairBegin c d).enc), some (.k false (k.map PairS.key)), some (.o false (l.map encP1)), some (.d (.int (total : Int))), z8, z9, z10, z11, z12, z13]) (fun d' b' => Q d' b') ?_ (fun _ _ h => h) (n := if [(pairBegin c d, ([] : Row))] = [] then 0 else most + 1 - 1) ?_
      · rintro n' ρ b' Q' ⟨k, l, total, z8, z9, z10, z11, z12, z13, li, hk, hrows, hreach, rfl, hn, rfl⟩ hnx hrt
        have slay : SeqAt.shaped (.list (l.map encP1)) = true := (sh_lst (n := 4) (sh_map fun pr _ => sh_pair _)).shaped (by decide)
        simp only [sSeq, sNil, sAsg, sRet, sIf, sSet, sExpr, sFrz, sMove, sApp, sExt, sPar, eOp, eUn, eVar, eC, eIf, eAnd, eOr, eChain, tVal, uAnd, uOr, uNot, uTrue, eTup, eLst, eBi, eSl, partR, eIsi, eCall, eCallL, aCons, aNil, allD, dTup, dCons, dName, dNil, dSub, rho0, endD, lft, frz, stor, storAll, setAll, rtD, vIx, seqR, vII, vIC, vAdd, vSub, vMul, vFdiv, vMod, vPow, vLt, vLe, vGt, vGe, vEqS, vNeS, vIsN, vNotN, vNot, vNeg, isNo, vMin2, vMax2, vAbs, vInt1, vLen, vTuple, vList, vSum, isTy, vNotInK, vLenK, sKset, vIxoo, dSuboo, eCompL, eDict1, datR, vEqD, vNeD, vCatT, vCatL, iSeq, iTupW, iRg1, iRg2, sFor, noL, noL1, lend, scalD, R.held, R.fresh, List.map_cons, List.map_nil, List.length_cons, List.length_nil, List.cons_append, List.nil_append, List.getElem?_cons_zero, List.getElem?_cons_succ, List.set_cons_zero, List.set_cons_succ, List.replicate_succ, List.replicate_zero, Nat.zero_add, Nat.reduceAdd, Nat.reduceSub, Nat.reduceLT, Option.join_some, Option.join_none, Option.bind_some, Option.map_some, List.all_cons, List.all_nil, Bool.and_true, Bool.true_and, Bool.not_true, Bool.not_false, and_true, true_and, if_true, if_false, Bool.false_eq_true, decide_true, decide_false, reduceIte, slay, snil, eqv_lnil]
        by_cases hle : l = []
        · subst hle
          obtain ⟨m', h⟩ := hreach 0 none .stop
          exact q2 _ _ h
        have hem : (l.map encP1).isEmpty = false := by cases l with | nil => exact absurd rfl hle | cons a l => rfl
        rw [if_neg hle] at hn
        obtain ⟨hlenL, hlenR⟩ := layGo_len (c := c) (d := d) (t := t) l k [] hrows
        simp only [sSeq, sNil, sAsg, sRet, sIf, sSet, sExpr, sFrz, sMove, sApp, sExt, sPar, eOp, eUn, eVar, eC, eIf, eAnd, eOr, eChain, tVal, uAnd, uOr, uNot, uTrue, eTup, eLst, eBi, eSl, partR, eIsi, eCall, eCallL, aCons, aNil, allD, dTup, dCons, dName, dNil, dSub, rho0, endD, lft, frz, stor, storAll, setAll, rtD, vIx, seqR, vII, vIC, vAdd, vSub, vMul, vFdiv, vMod, vPow, vLt, vLe, vGt, vGe, vEqS, vNeS, vIsN, vNotN, vNot, vNeg, isNo, vMin2, vMax2, vAbs, vInt1, vLen, vTuple, vList, vSum, isTy, vNotInK, vLenK, sKset, vIxoo, dSuboo, eCompL, eDict1, datR, vEqD, vNeD, vCatT, vCatL, iSeq, iTupW, iRg1, iRg2, sFor, noL, noL1, lend, scalD, R.held, R.fresh, List.map_cons, List.map_nil, List.length_cons, List.length_nil, List.cons_append, List.nil_append, List.getElem?_cons_zero, List.getElem?_cons_succ, List.set_cons_zero, List.set_cons_succ, List.replicate_succ, List.replicate_zero, Nat.zero_add, Nat.reduceAdd, Nat.reduceSub, Nat.reduceLT, Option.join_some, Option.join_none, Option.bind_some, Option.map_some, List.all_cons, List.all_nil, Bool.and_true, Bool.true_and, Bool.not_true, Bool.not_false, and_true, true_and, if_true, if_false, Bool.false_eq_true, decide_true, decide_false, reduceIte, hem]
        refine for_list encP1 (fun rest ρ b2 => ∃ (k1 : List PairS) (f : List (PairS × Row)) (z8 z10 z11 z12 z13 : Option R), ρ = [some (.d c.enc), some (.d d.enc), some (.d t.enc), some (.d (.int (most : Int))), some (.d (pairBegin c d).enc), some (.k false (k1.map PairS.key)), some (.d (.list (l.map encP1))), some (.d (.int ((total : Int) + 1))), z8, some (.o false (f.map encP1)), z10, z11, z12, z13] ∧ b2 = b' ∧
          LayI c d k1 f ∧ k1.length = k.length + f.length ∧ k1.length + 10 * rest.length ≤ k.length + 10 * l.length ∧ layGo c d t rest k1 f = layGo c d t l k [] ∧ ∀ pr ∈ rest, pr ∈ l) (fun d' b2 => Q' (.rt d') b2) ?_ ?_ ?_ l ?_
        · rintro pr rest ρ b2 Q2 ⟨k1, f, z8, z10, z11, z12, z13, rfl, rfl, li1, hk1, hk2, hlg, hsub⟩ hnx2 hrt2
          have hpr := li.each pr (hsub pr List.mem_cons_self)
          simp only [sSeq, sNil, sAsg, sRet, sIf, sSet, sExpr, sFrz, sMove, sApp, sExt, sPar, eOp, eUn, eVar, eC, eIf, eAnd, eOr, eChain, tVal, uAnd, uOr, uNot, uTrue, eTup, eLst, eBi, eSl, partR, eIsi, eCall, eCallL, aCons, aNil, allD, dTup, dCons, dName, dNil, dSub, rho0, endD, lft, frz, stor, storAll, setAll, rtD, vIx, seqR, vII, vIC, vAdd, vSub, vMul, vFdiv, vMod, vPow, vLt, vLe, vGt, vGe, vEqS, vNeS, vIsN, vNotN, vNot, vNeg, isNo, vMin2, vMax2, vAbs, vInt1, vLen, vTuple, vList, vSum, isTy, vNotInK, vLenK, sKset, vIxoo, dSuboo, eCompL, eDict1, datR, vEqD, vNeD, vCatT, vCatL, iSeq, iTupW, iRg1, iRg2, sFor, noL, noL1, lend, scalD, R.held, R.fresh, List.map_cons, List.map_nil, List.length_cons, List.length_nil, List.cons_append, List.nil_append, List.getElem?_cons_zero, List.getElem?_cons_succ, List.set_cons_zero, List.set_cons_succ, List.replicate_succ, List.replicate_zero, Nat.zero_add, Nat.reduceAdd, Nat.reduceSub, Nat.reduceLT, Option.join_some, Option.join_none, Option.bind_some, Option.map_some, List.all_cons, List.all_nil, Bool.and_true, Bool.true_and, Bool.not_true, Bool.not_false, and_true, true_and, if_true, if_false, Bool.false_eq_true, decide_true, decide_false, reduceIte, encP1]
          unfold PairS.enc
          simp only [sSeq, sNil, sAsg, sRet, sIf, sSet, sExpr, sFrz, sMove, sApp, sExt, sPar, eOp, eUn, eVar, eC, eIf, eAnd, eOr, eChain, tVal, uAnd, uOr, uNot, uTrue, eTup, eLst, eBi, eSl, partR, eIsi, eCall, eCallL, aCons, aNil, allD, dTup, dCons, dName, dNil, dSub, rho0, endD, lft, frz, stor, storAll, setAll, rtD, vIx, seqR, vII, vIC, vAdd, vSub, vMul, vFdiv, vMod, vPow, vLt, vLe, vGt, vGe, vEqS, vNeS, vIsN, vNotN, vNot, vNeg, isNo, vMin2, vMax2, vAbs, vInt1, vLen, vTuple, vList, vSum, isTy, vNotInK, vLenK, sKset, vIxoo, dSuboo, eCompL, eDict1, datR, vEqD, vNeD, vCatT, vCatL, iSeq, iTupW, iRg1, iRg2, sFor, noL, noL1, lend, scalD, R.held, R.fresh, List.map_cons, List.map_nil, List.length_cons, List.length_nil, List.cons_append, List.nil_append, List.getElem?_cons_zero, List.getElem?_cons_succ, List.set_cons_zero, List.set_cons_succ, List.replicate_succ, List.replicate_zero, Nat.zero_add, Nat.reduceAdd, Nat.reduceSub, Nat.reduceLT, Option.join_some, Option.join_none, Option.bind_some, Option.map_some, List.all_cons, List.all_nil, Bool.and_true, Bool.true_and, Bool.not_true, Bool.not_false, and_true, true_and, if_true, if_false, Bool.false_eq_true, decide_true, decide_false, reduceIte, atI_2]
          refine ⟨t, pr.1.last, o3, hpr.1.last, rfl, ?_⟩
          have hm10 := may_len pr.1.last o3
          rw [List.length_cons] at hk2
          refine for_list PyData.int (fun rest2 ρ b3 => ∃ (k2 : List PairS) (f2 : List (PairS × Row)) (z10 z11 z12 z13 : Option R), ρ = [some (.d c.enc), some (.d d.enc), some (.d t.enc), some (.d (.int (most : Int))), some (.d (pairBegin c d).enc), some (.k false (k2.map PairS.key)), some (.d (.list (l.map encP1))), some (.d (.int ((total : Int) + 1))), some (.d pr.1.enc), some (.o false (f2.map encP1)), z10, z11, z12, z13] ∧ b3 = b2 ∧
            LayI c d k2 f2 ∧ k2.length = k.length + f2.length ∧ k2.length + rest2.length ≤ k1.length + (t.may pr.1.last).length ∧ inGo c d t pr.1 pr.2 rest2 k2 f2 = inGo c d t pr.1 pr.2 (t.may pr.1.last) k1 f ∧ ∀ x ∈ rest2, x ∈ t.may pr.1.last) (fun d' b3 => Q2 (.rt d') b3) ?_ ?_ ?_ (t.may pr.1.last) ?_
          · rintro x rest2 ρ b3 Q3 ⟨k2, f2, z10, z11, z12, z13, rfl, rfl, li2, hk3, hk4, hig, hsub2⟩ hnx3 hrt3
            have hx := may_mem o3 (hsub2 x List.mem_cons_self)
            rw [List.length_cons] at hk4
            have hll := li.len
            simp only [sSeq, sNil, sAsg, sRet, sIf, sSet, sExpr, sFrz, sMove, sApp, sExt, sPar, eOp, eUn, eVar, eC, eIf, eAnd, eOr, eChain, tVal, uAnd, uOr, uNot, uTrue, eTup, eLst, eBi, eSl, partR, eIsi, eCall, eCallL, aCons, aNil, allD, dTup, dCons, dName, dNil, dSub, rho0, endD, lft, frz, stor, storAll, setAll, rtD, vIx, seqR, vII, vIC, vAdd, vSub, vMul, vFdiv, vMod, vPow, vLt, vLe, vGt, vGe, vEqS, vNeS, vIsN, vNotN, vNot, vNeg, isNo, vMin2, vMax2, vAbs, vInt1, vLen, vTuple, vList, vSum, isTy, vNotInK, vLenK, sKset, vIxoo, dSuboo, eCompL, eDict1, datR, vEqD, vNeD, vCatT, vCatL, iSeq, iTupW, iRg1, iRg2, sFor, noL, noL1, lend, scalD, R.held, R.fresh, List.map_cons, List.map_nil, List.length_cons, List.length_nil, List.cons_append, List.nil_append, List.getElem?_cons_zero, List.getElem?_cons_succ, List.set_cons_zero, List.set_cons_succ, List.replicate_succ, List.replicate_zero, Nat.zero_add, Nat.reduceAdd, Nat.reduceSub, Nat.reduceLT, Option.join_some, Option.join_none, Option.bind_some, Option.map_some, List.all_cons, List.all_nil, Bool.and_true, Bool.true_and, Bool.not_true, Bool.not_false, and_true, true_and, if_true, if_false, Bool.false_eq_true, decide_true, decide_false, reduceIte]
            refine ⟨c, d, t, pr.1, x, o1, o2, hpr.1.near, hpr.1.far, rfl, ?_⟩
            unfold PairS.enc Note.enc
            have sh2 : ∀ a b : Int, SeqAt.shaped (.tuple [.int a, .int b]) = true := fun a b => (sh_tup (n := 0) (sh_two (sh_int _) (sh_int _))).shaped (by decide)
            have cut2 : ∀ a b e : PyData, cutD [a, b, e] none (some 2) = [a, b] := fun a b e => rfl
            have hdf : (!(decide ((dayN c pr.1.near x).sent = (dayN d pr.1.far x).sent) && decide ((dayN c pr.1.near x).lost = (dayN d pr.1.far x).lost))) = differs c d pr.1 x := rfl
            simp only [sSeq, sNil, sAsg, sRet, sIf, sSet, sExpr, sFrz, sMove, sApp, sExt, sPar, eOp, eUn, eVar, eC, eIf, eAnd, eOr, eChain, tVal, uAnd, uOr, uNot, uTrue, eTup, eLst, eBi, eSl, partR, eIsi, eCall, eCallL, aCons, aNil, allD, dTup, dCons, dName, dNil, dSub, rho0, endD, lft, frz, stor, storAll, setAll, rtD, vIx, seqR, vII, vIC, vAdd, vSub, vMul, vFdiv, vMod, vPow, vLt, vLe, vGt, vGe, vEqS, vNeS, vIsN, vNotN, vNot, vNeg, isNo, vMin2, vMax2, vAbs, vInt1, vLen, vTuple, vList, vSum, isTy, vNotInK, vLenK, sKset, vIxoo, dSuboo, eCompL, eDict1, datR, vEqD, vNeD, vCatT, vCatL, iSeq, iTupW, iRg1, iRg2, sFor, noL, noL1, lend, scalD, R.held, R.fresh, List.map_cons, List.map_nil, List.length_cons, List.length_nil, List.cons_append, List.nil_append, List.getElem?_cons_zero, List.getElem?_cons_succ, List.set_cons_zero, List.set_cons_succ, List.replicate_succ, List.replicate_zero, Nat.zero_add, Nat.reduceAdd, Nat.reduceSub, Nat.reduceLT, Option.join_some, Option.join_none, Option.bind_some, Option.map_some, List.all_cons, List.all_nil, Bool.and_true, Bool.true_and, Bool.not_true, Bool.not_false, and_true, true_and, if_true, if_false, Bool.false_eq_true, decide_true, decide_false, reduceIte, vSlT, cut2, sh2, eqv_ii, keyD_pair, hdf]
            rw [inGo_cons] at hig
            cases hb : differs c d pr.1 x with
            | true =>
              rw [hb, if_pos rfl] at hig
              simp only [sSeq, sNil, sAsg, sRet, sIf, sSet, sExpr, sFrz, sMove, sApp, sExt, sPar, eOp, eUn, eVar, eC, eIf, eAnd, eOr, eChain, tVal, uAnd, uOr, uNot, uTrue, eTup, eLst, eBi, eSl, partR, eIsi, eCall, eCallL, aCons, aNil, allD, dTup, dCons, dName, dNil, dSub, rho0, endD, lft, frz, stor, storAll, setAll, rtD, vIx, seqR, vII, vIC, vAdd, vSub, vMul, vFdiv, vMod, vPow, vLt, vLe, vGt, vGe, vEqS, vNeS, vIsN, vNotN, vNot, vNeg, isNo, vMin2, vMax2, vAbs, vInt1, vLen, vTuple, vList, vSum, isTy, vNotInK, vLenK, sKset, vIxoo, dSuboo, eCompL, eDict1, datR, vEqD, vNeD, vCatT, vCatL, iSeq, iTupW, iRg1, iRg2, sFor, noL, noL1, lend, scalD, R.held, R.fresh, List.map_cons, List.map_nil, List.length_cons, List.length_nil, List.cons_append, List.nil_append, List.getElem?_cons_zero, List.getElem?_cons_succ, List.set_cons_zero, List.set_cons_succ, List.replicate_succ, List.replicate_zero, Nat.zero_add, Nat.reduceAdd, Nat.reduceSub, Nat.reduceLT, Option.join_some, Option.join_none, Option.bind_some, Option.map_some, List.all_cons, List.all_nil, Bool.and_true, Bool.true_and, Bool.not_true, Bool.not_false, and_true, true_and, if_true, if_false, Bool.false_eq_true, decide_true, decide_false, reduceIte]
              refine hrt3 _ _ (hrt2 _ _ (hrt _ _ ?_))
              rw [layGo_cons, ← hig] at hlg
              have h1 := hlenL _ hlg.symm (fun _ z => nomatch z)
              obtain ⟨m', h⟩ := hreach 0 _ (.part hle hlg.symm)
              have z := q2 _ _ h
              simp only at z
              rw [h1, Int.natCast_add] at z
              exact z
            | false =>
              rw [hb, if_neg Bool.false_ne_true] at hig
              simp only [sSeq, sNil, sAsg, sRet, sIf, sSet, sExpr, sFrz, sMove, sApp, sExt, sPar, eOp, eUn, eVar, eC, eIf, eAnd, eOr, eChain, tVal, uAnd, uOr, uNot, uTrue, eTup, eLst, eBi, eSl, partR, eIsi, eCall, eCallL, aCons, aNil, allD, dTup, dCons, dName, dNil, dSub, rho0, endD, lft, frz, stor, storAll, setAll, rtD, vIx, seqR, vII, vIC, vAdd, vSub, vMul, vFdiv, vMod, vPow, vLt, vLe, vGt, vGe, vEqS, vNeS, vIsN, vNotN, vNot, vNeg, isNo, vMin2, vMax2, vAbs, vInt1, vLen, vTuple, vList, vSum, isTy, vNotInK, vLenK, sKset, vIxoo, dSuboo, eCompL, eDict1, datR, vEqD, vNeD, vCatT, vCatL, iSeq, iTupW, iRg1, iRg2, sFor, noL, noL1, lend, scalD, R.held, R.fresh, List.map_cons, List.map_nil, List.length_cons, List.length_nil, List.cons_append, List.nil_append, List.getElem?_cons_zero, List.getElem?_cons_succ, List.set_cons_zero, List.set_cons_succ, List.replicate_succ, List.replicate_zero, Nat.zero_add, Nat.reduceAdd, Nat.reduceSub, Nat.reduceLT, Option.join_some, Option.join_none, Option.bind_some, Option.map_some, List.all_cons, List.all_nil, Bool.and_true, Bool.true_and, Bool.not_true, Bool.not_false, and_true, true_and, if_true, if_false, Bool.false_eq_true, decide_true, decide_false, reduceIte]
              by_cases hmem : pairNext c d t pr.1 x ∈ k2
              · rw [if_pos hmem] at hig
                have hmem2 : decide ((pairNext c d t pr.1 x).key ∈ k2.map PairS.key) = true := decide_eq_true (key_mem.mpr hmem)
                simp only [sSeq, sNil, sAsg, sRet, sIf, sSet, sExpr, sFrz, sMove, sApp, sExt, sPar, eOp, eUn, eVar, eC, eIf, eAnd, eOr, eChain, tVal, uAnd, uOr, uNot, uTrue, eTup, eLst, eBi, eSl, partR, eIsi, eCall, eCallL, aCons, aNil, allD, dTup, dCons, dName, dNil, dSub, rho0, endD, lft, frz, stor, storAll, setAll, rtD, vIx, seqR, vII, vIC, vAdd, vSub, vMul, vFdiv, vMod, vPow, vLt, vLe, vGt, vGe, vEqS, vNeS, vIsN, vNotN, vNot, vNeg, isNo, vMin2, vMax2, vAbs, vInt1, vLen, vTuple, vList, vSum, isTy, vNotInK, vLenK, sKset, vIxoo, dSuboo, eCompL, eDict1, datR, vEqD, vNeD, vCatT, vCatL, iSeq, iTupW, iRg1, iRg2, sFor, noL, noL1, lend, scalD, R.held, R.fresh, List.map_cons, List.map_nil, List.length_cons, List.length_nil, List.cons_append, List.nil_append, List.getElem?_cons_zero, List.getElem?_cons_succ, List.set_cons_zero, List.set_cons_succ, List.replicate_succ, List.replicate_zero, Nat.zero_add, Nat.reduceAdd, Nat.reduceSub, Nat.reduceLT, Option.join_some, Option.join_none, Option.bind_some, Option.map_some, List.all_cons, List.all_nil, Bool.and_true, Bool.true_and, Bool.not_true, Bool.not_false, and_true, true_and, if_true, if_false, Bool.false_eq_true, decide_true, decide_false, reduceIte, hmem2]
                exact hnx3 _ _ ⟨k2, f2, _, _, _, _, rfl, rfl, li2, hk3, by omega, hig, fun y hy => hsub2 y (List.mem_cons_of_mem _ hy)⟩
              · rw [if_neg hmem] at hig
                have hmem2 : decide ((pairNext c d t pr.1 x).key ∈ k2.map PairS.key) = false := decide_eq_false fun z => hmem (key_mem.mp z)
                have hmem3 : (pairNext c d t pr.1 x).key ∉ k2.map PairS.key := fun z => hmem (key_mem.mp z)
                have hz1 : (k2.map PairS.key).length < 1000000 := by rw [List.length_map]; omega
                have hz2 : (f2.map encP1).length < sizeLine := by
                  rw [List.length_map, sizeLine_eq]
                  have := li2.len
                  omega
                simp only [sSeq, sNil, sAsg, sRet, sIf, sSet, sExpr, sFrz, sMove, sApp, sExt, sPar, eOp, eUn, eVar, eC, eIf, eAnd, eOr, eChain, tVal, uAnd, uOr, uNot, uTrue, eTup, eLst, eBi, eSl, partR, eIsi, eCall, eCallL, aCons, aNil, allD, dTup, dCons, dName, dNil, dSub, rho0, endD, lft, frz, stor, storAll, setAll, rtD, vIx, seqR, vII, vIC, vAdd, vSub, vMul, vFdiv, vMod, vPow, vLt, vLe, vGt, vGe, vEqS, vNeS, vIsN, vNotN, vNot, vNeg, isNo, vMin2, vMax2, vAbs, vInt1, vLen, vTuple, vList, vSum, isTy, vNotInK, vLenK, sKset, vIxoo, dSuboo, eCompL, eDict1, datR, vEqD, vNeD, vCatT, vCatL, iSeq, iTupW, iRg1, iRg2, sFor, noL, noL1, lend, scalD, R.held, R.fresh, List.map_cons, List.map_nil, List.length_cons, List.length_nil, List.cons_append, List.nil_append, List.getElem?_cons_zero, List.getElem?_cons_succ, List.set_cons_zero, List.set_cons_succ, List.replicate_succ, List.replicate_zero, Nat.zero_add, Nat.reduceAdd, Nat.reduceSub, Nat.reduceLT, Option.join_some, Option.join_none, Option.bind_some, Option.map_some, List.all_cons, List.all_nil, Bool.and_true, Bool.true_and, Bool.not_true, Bool.not_false, and_true, true_and, if_true, if_false, Bool.false_eq_true, decide_true, decide_false, reduceIte, hmem2, hmem3, hz1, hz2, not_false_eq_true]
                have e1 : k2.map PairS.key ++ [(pairNext c d t pr.1 x).key] = (k2 ++ [pairNext c d t pr.1 x]).map PairS.key := by rw [List.map_append]; rfl
                have e2 : f2.map encP1 ++ [PyData.tuple [encS (pairNext c d t pr.1 x).near, encS (pairNext c d t pr.1 x).far, encO (pairNext c d t pr.1 x).last]] = (f2 ++ [(pairNext c d t pr.1 x, pr.2 ++ [x])]).map encP1 := by rw [List.map_append]; rfl
                rw [e1, e2]
                refine hnx3 _ _ ⟨k2 ++ [pairNext c d t pr.1 x], f2 ++ [(pairNext c d t pr.1 x, pr.2 ++ [x])], _, _, _, _, rfl, rfl, li2.add (next_ok o1 o2 hpr.1 hx) (by omega) x, ?_, ?_, hig, fun y hy => hsub2 y (List.mem_cons_of_mem _ hy)⟩
                · simp only [List.length_append, List.length_singleton]; omega
                · simp only [List.length_append, List.length_singleton]; omega
          · rintro ρ b3 ⟨k2, f2, z10, z11, z12, z13, rfl, rfl, li2, hk3, hk4, hig, hsub2⟩
            refine hnx2 _ _ ⟨k2, f2, _, _, _, _, _, rfl, rfl, li2, hk3, ?_, ?_, fun y hy => hsub y (List.mem_cons_of_mem _ hy)⟩
            · simp only [List.length_nil] at hk4
              omega
            · rw [layGo_cons, ← hig] at hlg
              exact hlg
          · exact fun _ _ h => h
          · refine ⟨k1, f, z10, z11, z12, z13, rfl, rfl, li1, hk1, Nat.le_refl _, rfl, fun _ h => h⟩
        · rintro ρ b2 ⟨k1, f, z8, z10, z11, z12, z13, rfl, rfl, li1, hk1, hk2, hlg, hsub⟩
          simp only [sSeq, sNil, sAsg, sRet, sIf, sSet, sExpr, sFrz, sMove, sApp, sExt, sPar, eOp, eUn, eVar, eC, eIf, eAnd, eOr, eChain, tVal, uAnd, uOr, uNot, uTrue, eTup, eLst, eBi, eSl, partR, eIsi, eCall, eCallL, aCons, aNil, allD, dTup, dCons, dName, dNil, dSub, rho0, endD, lft, frz, stor, storAll, setAll, rtD, vIx, seqR, vII, vIC, vAdd, vSub, vMul, vFdiv, vMod, vPow, vLt, vLe, vGt, vGe, vEqS, vNeS, vIsN, vNotN, vNot, vNeg, isNo, vMin2, vMax2, vAbs, vInt1, vLen, vTuple, vList, vSum, isTy, vNotInK, vLenK, sKset, vIxoo, dSuboo, eCompL, eDict1, datR, vEqD, vNeD, vCatT, vCatL, iSeq, iTupW, iRg1, iRg2, sFor, noL, noL1, lend, scalD, R.held, R.fresh, List.map_cons, List.map_nil, List.length_cons, List.length_nil, List.cons_append, List.nil_append, List.getElem?_cons_zero, List.getElem?_cons_succ, List.set_cons_zero, List.set_cons_succ, List.replicate_succ, List.replicate_zero, Nat.zero_add, Nat.reduceAdd, Nat.reduceSub, Nat.reduceLT, Option.join_some, Option.join_none, Option.bind_some, Option.map_some, List.all_cons, List.all_nil, Bool.and_true, Bool.true_and, Bool.not_true, Bool.not_false, and_true, true_and, if_true, if_false, Bool.false_eq_true, decide_true, decide_false, reduceIte]
          by_cases hm : most < k1.length
          · have e1 : decide ((most : Int) < ((k1.map PairS.key).length : Nat)) = true := decide_eq_true (by rw [List.length_map]; omega)
            simp only [sSeq, sNil, sAsg, sRet, sIf, sSet, sExpr, sFrz, sMove, sApp, sExt, sPar, eOp, eUn, eVar, eC, eIf, eAnd, eOr, eChain, tVal, uAnd, uOr, uNot, uTrue, eTup, eLst, eBi, eSl, partR, eIsi, eCall, eCallL, aCons, aNil, allD, dTup, dCons, dName, dNil, dSub, rho0, endD, lft, frz, stor, storAll, setAll, rtD, vIx, seqR, vII, vIC, vAdd, vSub, vMul, vFdiv, vMod, vPow, vLt, vLe, vGt, vGe, vEqS, vNeS, vIsN, vNotN, vNot, vNeg, isNo, vMin2, vMax2, vAbs, vInt1, vLen, vTuple, vList, vSum, isTy, vNotInK, vLenK, sKset, vIxoo, dSuboo, eCompL, eDict1, datR, vEqD, vNeD, vCatT, vCatL, iSeq, iTupW, iRg1, iRg2, sFor, noL, noL1, lend, scalD, R.held, R.fresh, List.map_cons, List.map_nil, List.length_cons, List.length_nil, List.cons_append, List.nil_append, List.getElem?_cons_zero, List.getElem?_cons_succ, List.set_cons_zero, List.set_cons_succ, List.replicate_succ, List.replicate_zero, Nat.zero_add, Nat.reduceAdd, Nat.reduceSub, Nat.reduceLT, Option.join_some, Option.join_none, Option.bind_some, Option.map_some, List.all_cons, List.all_nil, Bool.and_true, Bool.true_and, Bool.not_true, Bool.not_false, and_true, true_and, if_true, if_false, Bool.false_eq_true, decide_true, decide_false, reduceIte, e1]
            exact hrt _ _ q
          · have e1 : decide ((most : Int) < ((k1.map PairS.key).length : Nat)) = false := decide_eq_false (by rw [List.length_map]; omega)
            simp only [sSeq, sNil, sAsg, sRet, sIf, sSet, sExpr, sFrz, sMove, sApp, sExt, sPar, eOp, eUn, eVar, eC, eIf, eAnd, eOr, eChain, tVal, uAnd, uOr, uNot, uTrue, eTup, eLst, eBi, eSl, partR, eIsi, eCall, eCallL, aCons, aNil, allD, dTup, dCons, dName, dNil, dSub, rho0, endD, lft, frz, stor, storAll, setAll, rtD, vIx, seqR, vII, vIC, vAdd, vSub, vMul, vFdiv, vMod, vPow, vLt, vLe, vGt, vGe, vEqS, vNeS, vIsN, vNotN, vNot, vNeg, isNo, vMin2, vMax2, vAbs, vInt1, vLen, vTuple, vList, vSum, isTy, vNotInK, vLenK, sKset, vIxoo, dSuboo, eCompL, eDict1, datR, vEqD, vNeD, vCatT, vCatL, iSeq, iTupW, iRg1, iRg2, sFor, noL, noL1, lend, scalD, R.held, R.fresh, List.map_cons, List.map_nil, List.length_cons, List.length_nil, List.cons_append, List.nil_append, List.getElem?_cons_zero, List.getElem?_cons_succ, List.set_cons_zero, List.set_cons_succ, List.replicate_succ, List.replicate_zero, Nat.zero_add, Nat.reduceAdd, Nat.reduceSub, Nat.reduceLT, Option.join_some, Option.join_none, Option.bind_some, Option.map_some, List.all_cons, List.all_nil, Bool.and_true, Bool.true_and, Bool.not_true, Bool.not_false, and_true, true_and, if_true, if_false, Bool.false_eq_true, decide_true, decide_false, reduceIte, e1]
            have hlg2 : layGo c d t l k [] = .inr (k1, f) := hlg.symm
            refine hnx (if f = [] then 0 else most + 1 - k1.length) _ _ ?_ ⟨k1, f, total + 1, _, _, _, _, _, _, li1, by omega, hlenR (fun _ z => nomatch z) _ hlg2, fun m r h => hreach (m + 1) r (.next hle hlg2 (by omega) h), rfl, rfl, rfl⟩
            rw [hn]
            split
            · omega
            · rename_i hf
              have : 0 < f.length := List.length_pos_iff.mpr hf
              omega
        · exact fun _ _ h => h
        · exact ⟨k, [], z8, z10, z11, z12, z13, rfl, rfl, ⟨Nat.zero_le _, fun _ z => nomatch z⟩, rfl, Nat.le_refl _, rfl, fun _ h => h⟩
      · exact ⟨[pairBegin c d], [(pairBegin c d, [])], 0, none, none, none, none, none, none, ⟨Nat.le_refl _, fun pr hp => by
          have : pr = (pairBegin c d, []) := by simpa using hp
          subst this
          exact ⟨pair0_ok o1 o2, Nat.le_refl _⟩⟩, m1, fun pr hp => by
          have : pr = (pairBegin c d, []) := by simpa using hp
          rw [this]; rfl, fun m r h => ⟨m, h⟩, rfl, rfl, rfl⟩)
end
end L2.U
/-! The plain law: the row that the search gives parts the pair. -/
namespace L2.U
open PySem PySem.Spec PyProof.Rows
section
variable {c d : Chain} {t : Band}
def walkP (c d : Chain) (t : Band) (row : Row) : PairS := row.foldl (pairNext c d t) (pairBegin c d)
theorem walkP_snoc (row : Row) (x : Int) : walkP c d t (row ++ [x]) = pairNext c d t (walkP c d t row) x := by
  unfold walkP
  rw [List.foldl_append]
  rfl
structure WalkI (c d : Chain) (t : Band) (p : PairS) (row : Row) : Prop where
  is : p = walkP c d t row
  at_ : ∀ (i : Nat) (x : Int), row[i]? = some x → x ∈ t.may (walkP c d t (row.take i)).last ∧ differs c d (walkP c d t (row.take i)) x = false
structure Parts (c d : Chain) (t : Band) (row : Row) : Prop where
  ne : row ≠ []
  at_ : ∀ (i : Nat) (x : Int), row[i]? = some x → x ∈ t.may (walkP c d t (row.take i)).last ∧ differs c d (walkP c d t (row.take i)) x = decide (i + 1 = row.length)
theorem take_snoc {α : Type} (l : List α) (x : α) {i : Nat} (h : i ≤ l.length) : (l ++ [x]).take i = l.take i := by
  rw [List.take_append_of_le_length h]
theorem WalkI.snoc {p : PairS} {row : Row} {x : Int} (h : WalkI c d t p row) (hx : x ∈ t.may p.last) (hd : differs c d p x = false) : WalkI c d t (pairNext c d t p x) (row ++ [x]) := by
  refine ⟨by rw [walkP_snoc, h.is], fun i y hy => ?_⟩
  by_cases hi : i < row.length
  · rw [List.getElem?_append_left hi] at hy
    rw [take_snoc _ _ (Nat.le_of_lt hi)]
    exact h.at_ i y hy
  · have hi2 : i = row.length := by
      have := (List.getElem?_eq_some_iff.mp hy).1
      rw [List.length_append, List.length_singleton] at this
      omega
    subst hi2
    rw [take_snoc _ _ (Nat.le_refl _), List.take_length]
    simp at hy
    subst hy
    rw [← h.is]
    exact ⟨hx, hd⟩
theorem WalkI.part {p : PairS} {row : Row} {x : Int} (h : WalkI c d t p row) (hx : x ∈ t.may p.last) (hd : differs c d p x = true) : Parts c d t (row ++ [x]) := by
  refine ⟨by simp, fun i y hy => ?_⟩
  by_cases hi : i < row.length
  · rw [List.getElem?_append_left hi] at hy
    rw [take_snoc _ _ (Nat.le_of_lt hi)]
    have := h.at_ i y hy
    refine ⟨this.1, this.2.trans ?_⟩
    rw [decide_eq_false]
    rw [List.length_append, List.length_singleton]
    omega
  · have hi2 : i = row.length := by
      have := (List.getElem?_eq_some_iff.mp hy).1
      rw [List.length_append, List.length_singleton] at this
      omega
    subst hi2
    rw [take_snoc _ _ (Nat.le_refl _), List.take_length]
    simp at hy
    subst hy
    rw [← h.is]
    refine ⟨hx, hd.trans ?_⟩
    rw [decide_eq_true]
    rw [List.length_append, List.length_singleton]
theorem inGo_walk {p : PairS} {row : Row} (hw : WalkI c d t p row) : ∀ (xs : List Int) (k : List PairS) (f : List (PairS × Row)), (∀ x ∈ xs, x ∈ t.may p.last) → (∀ r, inGo c d t p row xs k f = .inl r → Parts c d t r) ∧ ((∀ pr ∈ f, WalkI c d t pr.1 pr.2) → ∀ kf, inGo c d t p row xs k f = .inr kf → ∀ pr ∈ kf.2, WalkI c d t pr.1 pr.2)
  | [], k, f, _ => ⟨(fun r h => by cases h), (fun hf kf h => by cases h; exact hf)⟩
  | x :: xs, k, f, hs => by
    have hx := hs x List.mem_cons_self
    have hs' := fun y hy => hs y (List.mem_cons_of_mem _ hy)
    rw [inGo_cons]
    split
    · rename_i hd
      refine ⟨fun r h => ?_, (fun hf kf h => by cases h)⟩
      injection h with h
      rw [← h]
      exact hw.part hx hd
    · rename_i hd
      split
      · exact inGo_walk hw xs k f hs'
      · obtain ⟨h1, h2⟩ := inGo_walk hw xs (k ++ [pairNext c d t p x]) (f ++ [(pairNext c d t p x, row ++ [x])]) hs'
        refine ⟨h1, fun hf kf h => h2 (fun pr hp => ?_) kf h⟩
        rcases List.mem_append.mp hp with z | z
        · exact hf pr z
        · have : pr = (pairNext c d t p x, row ++ [x]) := by simpa using z
          rw [this]
          exact hw.snoc hx (by simpa using hd)
theorem layGo_walk : ∀ (l : List (PairS × Row)) (k : List PairS) (f : List (PairS × Row)), (∀ pr ∈ l, WalkI c d t pr.1 pr.2) → (∀ pr ∈ f, WalkI c d t pr.1 pr.2) → (∀ r, layGo c d t l k f = .inl r → Parts c d t r) ∧ (∀ kf, layGo c d t l k f = .inr kf → ∀ pr ∈ kf.2, WalkI c d t pr.1 pr.2)
  | [], k, f, _, hf => ⟨(fun r h => by cases h), (fun kf h => by cases h; exact hf)⟩
  | pr :: ps, k, f, hl, hf => by
    rw [layGo_cons]
    have hi := inGo_walk (c := c) (d := d) (t := t) (hl pr List.mem_cons_self) (t.may pr.1.last) k f fun _ h => h
    cases e : inGo c d t pr.1 pr.2 (t.may pr.1.last) k f with
    | inl r' =>
      refine ⟨fun r h => ?_, (fun kf h => by cases h)⟩
      injection h with h
      rw [← h]
      exact hi.1 r' e
    | inr kf' => exact layGo_walk ps kf'.1 kf'.2 (fun z hz => hl z (List.mem_cons_of_mem _ hz)) (hi.2 hf kf' e)
theorem Run.parts {most n : Nat} {k l r} (h : Run c d t most n k l r) : (∀ pr ∈ l, WalkI c d t pr.1 pr.2) → ∀ row, r = some row → Parts c d t row := by
  induction h with
  | stop => intro _ row e; cases e
  | part h1 h2 =>
    intro hl row e
    cases e
    exact (layGo_walk _ _ [] hl (fun _ z => nomatch z)).1 _ h2
  | next h1 h2 h3 _ ih =>
    intro hl row e
    exact ih ((layGo_walk _ _ [] hl (fun _ z => nomatch z)).2 _ h2) row e
theorem run_parts {most n : Nat} {row : Row} (h : Run c d t most n [pairBegin c d] [(pairBegin c d, [])] (some row)) : Parts c d t row := h.parts (fun pr hp => by
  have : pr = (pairBegin c d, []) := by simpa using hp
  subst this
  exact ⟨rfl, fun i x h => by simp at h⟩) row rfl
theorem may_keep (t : Band) (x : Int) : t.may (some x) = t.may (keepT t x) := by
  unfold Band.may Band.lo Band.hi keepT
  cases t.turn <;> rfl
theorem Parts.ok (hc : c.Ok) (hd : d.Ok) (ht : t.Ok) {row : Row} (h : Parts c d t row) : ∀ i, i ≤ row.length → (walkP c d t (row.take i)).Ok c d
  | 0, _ => pair0_ok hc hd
  | i + 1, hi => by
    have hlt : i < row.length := hi
    have e : row[i]? = some row[i] := List.getElem?_eq_getElem hlt
    rw [List.take_succ_eq_append_getElem hlt, walkP_snoc]
    exact next_ok hc hd (h.ok hc hd ht i (Nat.le_of_lt hlt)) (may_mem ht (h.at_ i _ e).1)
/-- the same search, one answer -/
theorem Run.one {m m' n : Nat} {k : List PairS} {l : List (PairS × Row)} {r : Option Row} (h : Run c d t m n k l r) : ∀ {n' : Nat} {r' : Option Row}, Run c d t m' n' k l r' → r = r' := by
  induction h with
  | stop =>
    intro n' r' h'
    rcases h'.cases with ⟨_, rfl⟩ | ⟨h, _⟩
    · rfl
    · exact absurd rfl h
  | part h1 h2 =>
    intro n' r' h'
    rcases h'.cases with ⟨h, _⟩ | ⟨_, ⟨row', e, rfl⟩ | ⟨_, k', l', _, e, _⟩⟩
    · exact absurd h h1
    · rw [h2] at e; injection e with e; rw [e]
    · rw [h2] at e; cases e
  | next h1 h2 h3 _ ih =>
    intro n' r' h'
    rcases h'.cases with ⟨h, _⟩ | ⟨_, ⟨row', e, rfl⟩ | ⟨_, k', l', _, e, _, h4⟩⟩
    · exact absurd h h1
    · rw [h2] at e; cases e
    · rw [h2] at e
      injection e with e
      injection e with e1 e2
      subst e1 e2
      exact ih h4
end
end L2.U
/-! The law's defs: the row is tried. -/
namespace L2.U
open PySem PySem.Spec PyProof.Rows
section
variable {P : Program} {w : World} {K : PySem.W.Frag} {mg : Str → Option Value} {base : Heap}
theorem notin_mem {y : Int} {l : List Int} (h : y ∈ l) : (l.map PyData.int).all isI = true ∧ (l.map PyData.int).any (eqI y) = true := by
  constructor
  · rw [List.all_map]
    exact List.all_eq_true.mpr fun _ _ => rfl
  · rw [List.any_map]
    exact List.any_eq_true.mpr ⟨y, h, decide_eq_true rfl⟩
def pt_q_do_part : FW := fun rs b Q => ∃ (c d : Chain) (t : Band) (row : Row), c.Ok ∧ d.Ok ∧ t.Ok ∧ Parts c d t row ∧ rs = [.d c.enc, .d d.enc, .d t.enc, .d (encR row)] ∧ Q (.bool true) b
theorem mono_q_do_part : FMono pt_q_do_part := fun rs b Q Q' hh ⟨c, d, t, row, o, o2, o3, o4, e, q⟩ => ⟨c, d, t, row, o, o2, o3, o4, e, hh _ _ q⟩
abbrev s_q_do_part : Stmt := topS 60
theorem sc_q_do_part : FnScope ["_law_one", "_law_other", "_law_band_here", "_law_row", "_law_pair", "_law_last", "_law_k", "_law_demand", "_law_mine", "_law_yours"] ["_law_one", "_law_other", "_law_band_here", "_law_row"] (defScope s_q_do_part) := ⟨rfl, rfl, rfl, by decide +kernel, rfl, by decide +kernel, by decide +kernel⟩
theorem ok_q_do_part {f : Addr} {fd : FuncData} (F : Fun K "_law_do_part" "_law_do_part" s_q_do_part f fd) (hm : mg "_law_do_part" = some (.ref f)) (hb : Binds K fd ["_law_one", "_law_other", "_law_band_here", "_law_row"] []) (nb : Nb mg) (kc : Kc mg) (C_q_pair_behind : Can P w K mg base 3 "_law_pair_behind" ["_law_chains", "_law_band_here", "_law_pair", "_law_demand"] pt_q_pair_behind) (C_q_may : Can P w K mg base 1 "_law_may" ["_law_band_here", "_law_last"] pt_q_may) (C_q_begin : Can P w K mg base 2 "_law_begin" ["_law_chain_here"] pt_q_begin) :
    Can P w K mg base 4 "_law_do_part" ["_law_one", "_law_other", "_law_band_here", "_law_row"] pt_q_do_part := by
  exact fn_data F sc_q_do_part hm hb mono_q_do_part (fun md G cdv A outer s H E hr =>
    (pdb_cons (pds_par2X (pda_cons (pd_tup (pda_cons (pd_call C_q_begin (hr.mono (by decide)) (by rfl) (pda_cons (pv_ 0) pda_nil)) (pda_cons (pd_call C_q_begin (hr.mono (by decide)) (by rfl) (pda_cons (pv_ 1) pda_nil)) (pda_cons pd_non pda_nil)))) (pda_cons pd_non pda_nil)) (fun h => ps_par (i := 4) (j := 5) rfl sc_q_do_part.nd rfl rfl (by decide) rfl rfl h (by rfl)))
      (pdb_cons (pds_for PassesOwn.never rfl (pdi_enumT (by rfl) nb.enumerate (pda_cons (pv_ 3) pda_nil)) (pdg_tup (n := 2) rfl (pdgs_cons (pdg_name (i := 6) sc_q_do_part.nd rfl (by first | exact .inl rfl | exact .inr rfl)) (pdgs_cons (pdg_name (i := 7) sc_q_do_part.nd rfl (by first | exact .inl rfl | exact .inr rfl)) pdgs_nil))) (pdb_cons (pds_if (pdt_notInI (pv_ 7) (pd_call C_q_may (hr.mono (by decide)) (by rfl) (pda_cons (pv_ 2) (pda_cons (pv_ 5) pda_nil)))) (pdb_one (pds_ret pd_bl)) pdb_nil)
      (pdb_cons (pds_asg (pd_call C_q_pair_behind (hr.mono (by decide)) (by rfl) (pda_cons (pd_tup (pda_cons (pv_ 0) (pda_cons (pv_ 1) pda_nil))) (pda_cons (pv_ 2) (pda_cons (pv_ 4) (pda_cons (pv_ 7) pda_nil))))) (pdg_tup (n := 3) rfl (pdgs_cons (pdg_name (i := 4) sc_q_do_part.nd rfl (by first | exact .inl rfl | exact .inr rfl)) (pdgs_cons (pdg_name (i := 8) sc_q_do_part.nd rfl (by first | exact .inl rfl | exact .inr rfl)) (pdgs_cons (pdg_name (i := 9) sc_q_do_part.nd rfl (by first | exact .inl rfl | exact .inr rfl)) pdgs_nil)))))
      (pdb_cons (pds_set (i := 5) sc_q_do_part.nd rfl (by first | exact .inl rfl | exact .inr rfl) (pv_ 7))
      (pdb_one (pds_if (pdt_neS (pd_neD hr.units (pd_slT (pv_ 8) pdo_none (pdo_some pd_int)) (pd_slT (pv_ 9) pdo_none (pdo_some pd_int))) (pd_eqS (pv_ 6) (pd_sub (pd_len (by rfl) nb.len (pda_cons (pv_ 3) pda_nil)) pd_int))) (pdb_one (pds_ret pd_bl)) pdb_nil))))))
      (pdb_one (pds_ret (pd_neD hr.units (pv_ 3) (pd_tup pda_nil)))))))
    (by
      rintro rs b Q hl ⟨c, d, t, row, o1, o2, o3, hp, rfl, q⟩
      unfold encR
      simp only [sSeq, sNil, sAsg, sRet, sIf, sSet, sExpr, sFrz, sMove, sApp, sExt, sPar, eOp, eUn, eVar, eC, eIf, eAnd, eOr, eChain, tVal, uAnd, uOr, uNot, uTrue, eTup, eLst, eBi, eSl, partR, eIsi, eCall, eCallL, aCons, aNil, allD, dTup, dCons, dName, dNil, dSub, rho0, endD, lft, frz, stor, storAll, setAll, rtD, vIx, seqR, vII, vIC, vAdd, vSub, vMul, vFdiv, vMod, vPow, vLt, vLe, vGt, vGe, vEqS, vNeS, vIsN, vNotN, vNot, vNeg, isNo, vMin2, vMax2, vAbs, vInt1, vLen, vTuple, vList, vSum, isTy, vNotInK, vLenK, sKset, vIxoo, dSuboo, eCompL, eDict1, datR, vEqD, vNeD, vCatT, vCatL, iSeq, iTupW, iRg1, iRg2, sFor, noL, noL1, lend, scalD, R.held, R.fresh, List.map_cons, List.map_nil, List.length_cons, List.length_nil, List.cons_append, List.nil_append, List.getElem?_cons_zero, List.getElem?_cons_succ, List.set_cons_zero, List.set_cons_succ, List.replicate_succ, List.replicate_zero, Nat.zero_add, Nat.reduceAdd, Nat.reduceSub, Nat.reduceLT, Option.join_some, Option.join_none, Option.bind_some, Option.map_some, List.all_cons, List.all_nil, Bool.and_true, Bool.true_and, Bool.not_true, Bool.not_false, and_true, true_and, if_true, if_false, Bool.false_eq_true, decide_true, decide_false, reduceIte]
      refine ⟨c, o1, rfl, ?_⟩
      simp only [sSeq, sNil, sAsg, sRet, sIf, sSet, sExpr, sFrz, sMove, sApp, sExt, sPar, eOp, eUn, eVar, eC, eIf, eAnd, eOr, eChain, tVal, uAnd, uOr, uNot, uTrue, eTup, eLst, eBi, eSl, partR, eIsi, eCall, eCallL, aCons, aNil, allD, dTup, dCons, dName, dNil, dSub, rho0, endD, lft, frz, stor, storAll, setAll, rtD, vIx, seqR, vII, vIC, vAdd, vSub, vMul, vFdiv, vMod, vPow, vLt, vLe, vGt, vGe, vEqS, vNeS, vIsN, vNotN, vNot, vNeg, isNo, vMin2, vMax2, vAbs, vInt1, vLen, vTuple, vList, vSum, isTy, vNotInK, vLenK, sKset, vIxoo, dSuboo, eCompL, eDict1, datR, vEqD, vNeD, vCatT, vCatL, iSeq, iTupW, iRg1, iRg2, sFor, noL, noL1, lend, scalD, R.held, R.fresh, List.map_cons, List.map_nil, List.length_cons, List.length_nil, List.cons_append, List.nil_append, List.getElem?_cons_zero, List.getElem?_cons_succ, List.set_cons_zero, List.set_cons_succ, List.replicate_succ, List.replicate_zero, Nat.zero_add, Nat.reduceAdd, Nat.reduceSub, Nat.reduceLT, Option.join_some, Option.join_none, Option.bind_some, Option.map_some, List.all_cons, List.all_nil, Bool.and_true, Bool.true_and, Bool.not_true, Bool.not_false, and_true, true_and, if_true, if_false, Bool.false_eq_true, decide_true, decide_false, reduceIte]
      refine ⟨d, o2, rfl, ?_⟩
      simp only [sSeq, sNil, sAsg, sRet, sIf, sSet, sExpr, sFrz, sMove, sApp, sExt, sPar, eOp, eUn, eVar, eC, eIf, eAnd, eOr, eChain, tVal, uAnd, uOr, uNot, uTrue, eTup, eLst, eBi, eSl, partR, eIsi, eCall, eCallL, aCons, aNil, allD, dTup, dCons, dName, dNil, dSub, rho0, endD, lft, frz, stor, storAll, setAll, rtD, vIx, seqR, vII, vIC, vAdd, vSub, vMul, vFdiv, vMod, vPow, vLt, vLe, vGt, vGe, vEqS, vNeS, vIsN, vNotN, vNot, vNeg, isNo, vMin2, vMax2, vAbs, vInt1, vLen, vTuple, vList, vSum, isTy, vNotInK, vLenK, sKset, vIxoo, dSuboo, eCompL, eDict1, datR, vEqD, vNeD, vCatT, vCatL, iSeq, iTupW, iRg1, iRg2, sFor, noL, noL1, lend, scalD, R.held, R.fresh, List.map_cons, List.map_nil, List.length_cons, List.length_nil, List.cons_append, List.nil_append, List.getElem?_cons_zero, List.getElem?_cons_succ, List.set_cons_zero, List.set_cons_succ, List.replicate_succ, List.replicate_zero, Nat.zero_add, Nat.reduceAdd, Nat.reduceSub, Nat.reduceLT, Option.join_some, Option.join_none, Option.bind_some, Option.map_some, List.all_cons, List.all_nil, Bool.and_true, Bool.true_and, Bool.not_true, Bool.not_false, and_true, true_and, if_true, if_false, Bool.false_eq_true, decide_true, decide_false, reduceIte, iEnumT]
      refine for_cps (fun i ρ b' => b' = b ∧ ∃ (last : Option Int) (z6 z7 z8 z9 : Option R), LastOk last ∧ t.may last = t.may (walkP c d t (row.take i)).last ∧ ρ = [some (.d c.enc), some (.d d.enc), some (.d t.enc), some (.d (.tuple (row.map PyData.int))), some (.d (walkP c d t (row.take i)).enc), some (.d (encO last)), z6, z7, z8, z9]) (fun _ _ => False) _ ?_ ?_ (fun _ _ z => z.elim) ⟨rfl, none, none, none, none, none, (fun _ h => nomatch h), rfl, rfl⟩
      · rintro i x ρ b' Q' hx ⟨rfl, last, z6, z7, z8, z9, lok, hmay, rfl⟩ hq _
        rw [enumD_get, List.getElem?_map, Option.map_map] at hx
        obtain ⟨y, ey, rfl⟩ := Option.map_eq_some_iff.mp hx
        have hlt := (List.getElem?_eq_some_iff.mp ey).1
        obtain ⟨h1, h2⟩ := hp.at_ i y ey
        have hok := hp.ok o1 o2 o3 i (Nat.le_of_lt hlt)
        have hy := may_mem o3 h1
        have hin : y ∈ t.may last := by rw [hmay]; exact h1
        obtain ⟨n1, n2⟩ := notin_mem hin
        rw [List.take_succ_eq_append_getElem hlt, walkP_snoc] at hq
        rw [List.getElem?_eq_getElem hlt] at ey
        injection ey with ey
        rw [ey] at hq
        simp only [Function.comp_apply, Nat.zero_add]
        simp only [sSeq, sNil, sAsg, sRet, sIf, sSet, sExpr, sFrz, sMove, sApp, sExt, sPar, eOp, eUn, eVar, eC, eIf, eAnd, eOr, eChain, tVal, uAnd, uOr, uNot, uTrue, eTup, eLst, eBi, eSl, partR, eIsi, eCall, eCallL, aCons, aNil, allD, dTup, dCons, dName, dNil, dSub, rho0, endD, lft, frz, stor, storAll, setAll, rtD, vIx, seqR, vII, vIC, vAdd, vSub, vMul, vFdiv, vMod, vPow, vLt, vLe, vGt, vGe, vEqS, vNeS, vIsN, vNotN, vNot, vNeg, isNo, vMin2, vMax2, vAbs, vInt1, vLen, vTuple, vList, vSum, isTy, vNotInK, vLenK, sKset, vIxoo, dSuboo, eCompL, eDict1, datR, vEqD, vNeD, vCatT, vCatL, iSeq, iTupW, iRg1, iRg2, sFor, noL, noL1, lend, scalD, R.held, R.fresh, List.map_cons, List.map_nil, List.length_cons, List.length_nil, List.cons_append, List.nil_append, List.getElem?_cons_zero, List.getElem?_cons_succ, List.set_cons_zero, List.set_cons_succ, List.replicate_succ, List.replicate_zero, Nat.zero_add, Nat.reduceAdd, Nat.reduceSub, Nat.reduceLT, Option.join_some, Option.join_none, Option.bind_some, Option.map_some, List.all_cons, List.all_nil, Bool.and_true, Bool.true_and, Bool.not_true, Bool.not_false, and_true, true_and, if_true, if_false, Bool.false_eq_true, decide_true, decide_false, reduceIte]
        refine ⟨t, last, o3, lok, rfl, ?_⟩
        simp only [sSeq, sNil, sAsg, sRet, sIf, sSet, sExpr, sFrz, sMove, sApp, sExt, sPar, eOp, eUn, eVar, eC, eIf, eAnd, eOr, eChain, tVal, uAnd, uOr, uNot, uTrue, eTup, eLst, eBi, eSl, partR, eIsi, eCall, eCallL, aCons, aNil, allD, dTup, dCons, dName, dNil, dSub, rho0, endD, lft, frz, stor, storAll, setAll, rtD, vIx, seqR, vII, vIC, vAdd, vSub, vMul, vFdiv, vMod, vPow, vLt, vLe, vGt, vGe, vEqS, vNeS, vIsN, vNotN, vNot, vNeg, isNo, vMin2, vMax2, vAbs, vInt1, vLen, vTuple, vList, vSum, isTy, vNotInK, vLenK, sKset, vIxoo, dSuboo, eCompL, eDict1, datR, vEqD, vNeD, vCatT, vCatL, iSeq, iTupW, iRg1, iRg2, sFor, noL, noL1, lend, scalD, R.held, R.fresh, List.map_cons, List.map_nil, List.length_cons, List.length_nil, List.cons_append, List.nil_append, List.getElem?_cons_zero, List.getElem?_cons_succ, List.set_cons_zero, List.set_cons_succ, List.replicate_succ, List.replicate_zero, Nat.zero_add, Nat.reduceAdd, Nat.reduceSub, Nat.reduceLT, Option.join_some, Option.join_none, Option.bind_some, Option.map_some, List.all_cons, List.all_nil, Bool.and_true, Bool.true_and, Bool.not_true, Bool.not_false, and_true, true_and, if_true, if_false, Bool.false_eq_true, decide_true, decide_false, reduceIte, vNotInI, n1, n2]
        refine ⟨c, d, t, walkP c d t (row.take i), y, o1, o2, hok.near, hok.far, rfl, ?_⟩
        unfold Note.enc
        have sh2 : ∀ a b : Int, SeqAt.shaped (.tuple [.int a, .int b]) = true := fun a b => (sh_tup (n := 0) (sh_two (sh_int _) (sh_int _))).shaped (by decide)
        have cut2 : ∀ a b e : PyData, cutD [a, b, e] none (some 2) = [a, b] := fun a b e => rfl
        have hdf : (!(decide ((dayN c (walkP c d t (row.take i)).near y).sent = (dayN d (walkP c d t (row.take i)).far y).sent) && decide ((dayN c (walkP c d t (row.take i)).near y).lost = (dayN d (walkP c d t (row.take i)).far y).lost))) = differs c d (walkP c d t (row.take i)) y := rfl
        have hlen : decide ((i : Int) = ((row.map PyData.int).length : Int) - 1) = decide (i + 1 = row.length) := decide_eq_decide.mpr (by rw [List.length_map]; omega)
        simp only [sSeq, sNil, sAsg, sRet, sIf, sSet, sExpr, sFrz, sMove, sApp, sExt, sPar, eOp, eUn, eVar, eC, eIf, eAnd, eOr, eChain, tVal, uAnd, uOr, uNot, uTrue, eTup, eLst, eBi, eSl, partR, eIsi, eCall, eCallL, aCons, aNil, allD, dTup, dCons, dName, dNil, dSub, rho0, endD, lft, frz, stor, storAll, setAll, rtD, vIx, seqR, vII, vIC, vAdd, vSub, vMul, vFdiv, vMod, vPow, vLt, vLe, vGt, vGe, vEqS, vNeS, vIsN, vNotN, vNot, vNeg, isNo, vMin2, vMax2, vAbs, vInt1, vLen, vTuple, vList, vSum, isTy, vNotInK, vLenK, sKset, vIxoo, dSuboo, eCompL, eDict1, datR, vEqD, vNeD, vCatT, vCatL, iSeq, iTupW, iRg1, iRg2, sFor, noL, noL1, lend, scalD, R.held, R.fresh, List.map_cons, List.map_nil, List.length_cons, List.length_nil, List.cons_append, List.nil_append, List.getElem?_cons_zero, List.getElem?_cons_succ, List.set_cons_zero, List.set_cons_succ, List.replicate_succ, List.replicate_zero, Nat.zero_add, Nat.reduceAdd, Nat.reduceSub, Nat.reduceLT, Option.join_some, Option.join_none, Option.bind_some, Option.map_some, List.all_cons, List.all_nil, Bool.and_true, Bool.true_and, Bool.not_true, Bool.not_false, and_true, true_and, if_true, if_false, Bool.false_eq_true, decide_true, decide_false, reduceIte, vSlT, cut2, sh2, eqv_ii, hdf, h2, hlen]
        refine hq _ _ ⟨rfl, some y, _, _, _, _, (fun l h => by cases h; exact hy), ?_, rfl⟩
        exact may_keep t y
      · rintro ρ b' ⟨rfl, last, z6, z7, z8, z9, lok, hmay, rfl⟩
        have s1 : SeqAt.shaped (.tuple (row.map PyData.int)) = true := (sh_tup (n := 0) (sh_map fun i _ => sh_int i)).shaped (by decide)
        have s2 : SeqAt.shaped (.tuple []) = true := by decide
        have s3 : PyData.eqv (.tuple (row.map PyData.int)) (.tuple []) = false := by
          have := hp.ne
          cases row with
          | nil => exact absurd rfl this
          | cons x xs => simp [PyData.eqv, PyData.eqvAll]
        simp only [sSeq, sNil, sAsg, sRet, sIf, sSet, sExpr, sFrz, sMove, sApp, sExt, sPar, eOp, eUn, eVar, eC, eIf, eAnd, eOr, eChain, tVal, uAnd, uOr, uNot, uTrue, eTup, eLst, eBi, eSl, partR, eIsi, eCall, eCallL, aCons, aNil, allD, dTup, dCons, dName, dNil, dSub, rho0, endD, lft, frz, stor, storAll, setAll, rtD, vIx, seqR, vII, vIC, vAdd, vSub, vMul, vFdiv, vMod, vPow, vLt, vLe, vGt, vGe, vEqS, vNeS, vIsN, vNotN, vNot, vNeg, isNo, vMin2, vMax2, vAbs, vInt1, vLen, vTuple, vList, vSum, isTy, vNotInK, vLenK, sKset, vIxoo, dSuboo, eCompL, eDict1, datR, vEqD, vNeD, vCatT, vCatL, iSeq, iTupW, iRg1, iRg2, sFor, noL, noL1, lend, scalD, R.held, R.fresh, List.map_cons, List.map_nil, List.length_cons, List.length_nil, List.cons_append, List.nil_append, List.getElem?_cons_zero, List.getElem?_cons_succ, List.set_cons_zero, List.set_cons_succ, List.replicate_succ, List.replicate_zero, Nat.zero_add, Nat.reduceAdd, Nat.reduceSub, Nat.reduceLT, Option.join_some, Option.join_none, Option.bind_some, Option.map_some, List.all_cons, List.all_nil, Bool.and_true, Bool.true_and, Bool.not_true, Bool.not_false, and_true, true_and, if_true, if_false, Bool.false_eq_true, decide_true, decide_false, reduceIte, s1, s2, s3]
        exact q)
end
end L2.U
/-! The data layer, part 15: defs that are called where no repr is under way (for repr). -/
namespace L2.U
open PySem PySem.Spec PyProof.Rows
/-- a def's promise, kept where no guard is up -/
structure FnG (P : Program) (w : World) (K : PySem.W.Frag) (mg : Str → Option Value) (base : Heap) (k : Nat) (f : Addr) (fd : FuncData) (ps : List Str) (sp : Sp) : Prop where
  len : ∀ vs H Q E, sp vs H Q E → vs.length = ps.length
  run : ∀ (A : Around) (outer : List Env) (s : Shared) (H : Hp) (args : Args) (us : List Value) (vs : List V) (Q : VK) (E : XK), A.guards = some [] → Room k A → Env0 P w K mg base A outer s H → BindsTo s fd args (ps.zip us) → Vals vs us → sp vs H Q E →
    codeAny (model P w) A (.call (.ref f) args) (CR CX0 outer P w H s Q E) s
section
variable {P : Program} {w : World} {K : PySem.W.Frag} {mg : Str → Option Value} {base : Heap} {k : Nat}
/-- the rule for such a def -/
theorem fn_guard {x : Str} {st : Stmt} {f : Addr} {fd : FuncData} {N ps : List Str} {sp : Sp} (F : Fun K x x st f fd) (S : FnScope N ps (defScope st)) (len : ∀ vs H Q E, sp vs H Q E → vs.length = ps.length)
    (hbody : ∀ (cdv : Value) (A : Around) (outer : List Env) (s : Shared) (H : Hp) (vs : List V) (Q : VK) (E : XK), A.guards = some [] → Room k (A.deeper (envOfC x (defScope st) s.heap.objs.size f cdv)) → sp vs H Q E →
      ∃ t, PSs (cxOf CX0 P w K mg base N x (defScope st) f cdv A outer s H E).nox (defBody st) t ∧ t { nx := fun _ H' => Q .non H', rt := Q } (start N vs) H) : FnG P w K mg base (k + 1) f fd ps sp := by
  obtain ⟨oc, od, kV, doc, pm, an, cdv, ct, osl, rfl, lk, hcd⟩ := F.ex
  refine ⟨len, fun A outer s H args us vs Q E hgd hr e0 hb r hsp => ?_⟩
  have KX : K.In s.heap := e0.mod.kin.keeps fun b o e => (e0.bs b o e).1
  have lim : s.heap.NoLimit := e0.mod.nolimit.keeps fun b o e => (e0.bs b o e).1
  have kinds : ∀ y ∈ ps.zip us, (defScope st).names.lookup y.1 = some .local ∨ ((defScope st).names.lookup y.1 = some .cell ∧ ((cellsFrom (s.heap.objs.size + 1) (defScope st).names []).lookup y.1).isSome = true) := fun y hy =>
    (S.par y.1 (List.of_mem_zip hy).1).imp id fun q => ⟨q, PySem.W.cellsFrom_some _ _ _ (.inl q)⟩
  refine codeAny_call_function hr.depth (KX _ _ lk) rfl S.co S.gen rfl (PySem.W.codeRec_of KX hcd) (hb _ _ _ _ ?_)
  refine wpAny_newFunctionEnv_cells S.kind kinds fun env he s1 x1 => ?_
  subst he
  refine ⟨lim.keeps x1.toInCall.keep, codeAny_func ?_⟩
  obtain ⟨t, ht, hq⟩ := hbody cdv A outer s H vs Q E hgd (hr.deeper _) hsp
  have I : Inv (cxOf CX0 P w K mg base N x (defScope st) f cdv A outer s H E) [] (start N vs) H s1 := inv_start S hr.hd e0 (len _ _ _ _ hsp) r x1
  refine wpAny_mono (ht.nox.run [] s1 (start N vs) H _ I hq) (fun fl s' hs => ?_) fun e s' hs => hs
  cases fl with
  | ret u =>
    obtain ⟨v, σ', H', J, rv, q⟩ := hs
    exact ⟨v, H', J.os, J.bare, J.base, J.hok, rv, q⟩
  | next =>
    obtain ⟨σ', H', J, q⟩ := hs
    exact ⟨V.non, H', J.os, J.bare, J.base, J.hok, rfl, q⟩
  | brk => obtain ⟨_, _, _, q⟩ := hs; exact False.elim q
  | cont => obtain ⟨_, _, _, q⟩ := hs; exact False.elim q
end
section
variable {X : Cx} {k : Nat} {f : Addr} {fd : FuncData} {ps : List Str} {sp : Sp} {x : Str} {p pos : Pos} {e : Expr} {es : List Expr} {t : TA}
theorem run_guard {pins : List (Addr × Obj)} {σ : St} {H : Hp} {s : Shared} {Q : VK} {us : List Value} {vs : List V} (F : FnG X.prog X.w X.K X.mg X.base k f fd ps sp) (hgd : X.A.guards = some []) (hr : Room k X.A) (hb : Binds X.K fd ps [])
    (I : Inv X pins σ H s) (r : Vals vs us) (h : sp vs H Q E0) : wpAny (model X.prog X.w) X.A (call (.ref f) us) (EP X pins σ Q) X.xe s := by
  have hl : (us ++ []).length = ps.length := by rw [List.append_nil, ← r.length]; exact F.len _ _ _ _ h
  refine wpAny_call (codeAny_mono (F.run X.A X.stack s H ⟨us, []⟩ (us ++ []) vs Q E0 hgd hr I.env0 (hb s us I.kIn hl) (by rw [List.append_nil]; exact r) h) fun r s' hq => ?_)
  cases r with
  | error e => exact pass0 pins σ H s e s' I hq
  | ok fl =>
    cases fl with
    | ret u => exact I.after hq
    | next => exact False.elim hq
    | brk => exact False.elim hq
    | cont => exact False.elim hq
theorem pe_callG (F : FnG X.prog X.w X.K X.mg X.base k f fd ps sp) (hgd : X.A.guards = some []) (hr : Room k X.A) (hg : Gl X x) (hm : X.mg x = some (.ref f)) (hk : PySem.W.keepIn X.K (.ref f) = true) (hb : Binds X.K fd ps [])
    (ha : PA X (e :: es) t) (hdb : (x == ("__debug__" : Str)) = false := by decide) (he : starEach (e :: es) X.env = (false, eval e X.env) :: starEach es X.env := by rfl) (hpl : (backTo pos (starEach es X.env)).any (·.1) = false := by rfl) :
    PE X (.Call (.Name x p) (e :: es) [] pos) (fun σ H Q => t σ H fun vs H1 => sp vs H1 Q E0) := by
  refine ⟨fun pins s σ H Q I h => ?_⟩
  refine wpAny_Call_Name_kw (ld_glob I hg hm ?_ hdb)
  refine PySem.W.callWith_K (h₀ := X.base) I.ok.mod.kin hk (thn (ha.run pos pins s σ H _ I h) fun us s1 ⟨vs, H1, I1, r, q⟩ => ⟨I1.kIn, ?_⟩) he hpl
  exact run_guard F hgd hr hb I1 r q
end
structure CanG (P : Program) (w : World) (K : PySem.W.Frag) (mg : Str → Option Value) (base : Heap) (k : Nat) (x : Str) (ps : List Str) (pt : FW) : Prop where
  ex : ∃ f fd, mg x = some (.ref f) ∧ PySem.W.keepIn K (.ref f) = true ∧ Binds K fd ps [] ∧ FnG P w K mg base k f fd ps (spT P w K ps.length pt)
  mono : FMono pt
section
variable {c : Ct} {X : Cx} {a b e e1 e2 e3 tg : Expr} {es : List Expr} {ta tb tc : EW} {ts : AW} {pos : Pos} {ua : TW} {iw : IW} {st : Stmt} {sts : List Stmt} {sa : SW}
theorem pd_callG {k : Nat} {x : Str} {p : Pos} {ps : List Str} {pt : FW} (C : CanG X.prog X.w X.K X.mg X.base k x ps pt) (hgd : X.A.guards = some []) (hr : Room k X.A) (hg : Gl X x) (ha : PDA c X (e :: es) ts) (hn : (e :: es).length = ps.length := by rfl) (fit : Fit c X := by exact {})
    (hdb : (x == ("__debug__" : Str)) = false := by decide) (he : starEach (e :: es) X.env = (false, eval e X.env) :: starEach es X.env := by rfl) (hpl : (backTo pos (starEach es X.env)).any (·.1) = false := by rfl) :
    PDE c X (.Call (.Name x p) (e :: es) [] pos) (eCallL pt ts) := by
  obtain ⟨⟨f, fd, hm, hk, hb, F⟩, mono⟩ := C
  refine ⟨pe_imp (pe_callG F hgd hr hg hm hk hb ha.pa hdb he hpl) fun σ H Q q => ?_, fun ρ b Q Q' h q => ha.mono _ _ _ _ (fun rs b1 q1 => ⟨q1.1, mono _ _ _ _ (fun d b2 z => ⟨z.1, h _ _ z.2⟩) q1.2⟩) q⟩
  obtain ⟨G, ρ, b0, S, q⟩ := q
  refine ⟨G, ρ, b0, S, ha.mono _ _ _ _ (fun rs b1 q1 => ?_) (ha.len _ _ _ q)⟩
  intro G1 H1 vs fps g1 i1 k1
  obtain ⟨hl, hnl, q2⟩ := q1
  have z1 : ∀ l, c.md.has l → G1 l = none := fun l hl => ((S.go.trans g1).fz l (S.ok l hl).1).trans (S.ok l hl).2
  obtain ⟨G2, s1, s2, z2, k2⟩ := lent S.ok g1.sub z1 k1.l hnl (H1 := H1)
  rw [fit.k, fit.p, fit.w]
  refine ⟨by rw [k1.length.1, hl, hn], c.md, G2, b1, rs.map lend, s2, fun l hl => ⟨i1.there hl, z2 l hl⟩, i1, k2, hnl, mono _ _ _ _ (fun d b2 q3 => ?_) q2⟩
  intro G' H' v g i kd
  refine q3.2 G1 H' v [] (g1.trans ⟨g.keep, g.dom, .refl _, s1.trans (g.gg.trans g.sub), fun _ _ => rfl⟩) i (rk_d (dp_scal kd q3.1)) fr_d
/-- the rule for such a def, over data -/
theorem fn_dataG {P : Program} {w : World} {K : PySem.W.Frag} {mg : Str → Option Value} {base : Heap} {x : Str} {st : Stmt} {f : Addr} {fd : FuncData} {N ps : List Str} {k : Nat} {pt : FW} (F : Fun K x x st f fd) (S : FnScope N ps (defScope st)) (hm : mg x = some (.ref f)) (hb : Binds K fd ps [])
    (mono : FMono pt) {t : SW}
    (body : ∀ (md : Md) (G : Hp) (cdv : Value) (A : Around) (outer : List Env) (s : Shared) (H : Hp) (E : XK), Room k (A.deeper (envOfC x (defScope st) s.heap.objs.size f cdv)) → (cxOf CX0 P w K mg base N x (defScope st) f cdv A outer s H E).nox.A.guards = some [] →
      PDB ⟨K, P, w, md, G, H⟩ (cxOf CX0 P w K mg base N x (defScope st) f cdv A outer s H E).nox (defBody st) t)
    (sem : ∀ rs b Q, rs.length = ps.length → pt rs b Q → t (rho0 N rs) b (endD Q)) : CanG P w K mg base (k + 1) x ps pt := by
  refine ⟨⟨f, fd, hm, F.kp, hb, fn_guard F S (fun vs H Q E h => h.1) fun cdv A outer s H vs Q E hgd hr h => ?_⟩, mono⟩
  obtain ⟨hl, md, G, b, rs, sub, ok, i, kk, hn, q⟩ := h
  have B := body md G cdv A outer s H E hr hgd
  refine ⟨_, B.ps, G, rho0 N rs, b, start_state sub ok i kk hn, B.mono _ _ _ _ (fun o b' q1 => ?_) (sem rs b _ (by rw [← kk.length]; exact hl) q)⟩
  cases o with
  | rt d => exact fun G' H' v g i' kd => q1 G' H' v g i' kd
  | nx ρ => exact fun σ' G' H' s' S' => q1 G' H' .non S'.go S'.inv .non
  | bk ρ => exact False.elim q1
  | ct ρ => exact False.elim q1
/-! repr -/
def ReprOk (d : PyData) : Prop := d.showable = true ∧ d.hasDict = false ∧ d.depth ≤ 32 ∧ d.shown.length ≤ sizeLine ∧ ∃ xs, d = .list xs ∨ d = .tuple xs
def rRepr (K : PySem.W.Frag) : List V → Hp → VK → Prop := fun xs H Q => ∃ a d, xs = [.ref a] ∧ Dp K H (.ref a) d ∧ ReprOk d ∧ Q (.str d.shown) H
theorem call_reprD (hgd : X.A.guards = some []) (hu : X.A.units + 64 < cLine) : CallR X (.builtin "repr") (rRepr X.K) := by
  intro pins s σ H xs us Q I r ⟨a, d, ex, hd, ⟨h1, h2, h3, h4, _⟩, q⟩
  subst ex
  obtain ⟨u, rfl, rx⟩ := vals1 r
  cases rx
  obtain ⟨as, rd⟩ := Dp.reads I d (.ref a) (.ref a) hd rfl
  refine repr_of_reads' rd h1 (PyData.noDict_hsm h2) hgd (by omega) (fun b o e => e) (fun h' u tk hk => ⟨.str d.shown, H, I.kept (t' := tk) hk, ⟨u, rfl⟩, q⟩) h4
open Classical in
noncomputable def vRepr : List R → Option R
  | [r] => (datR r).bind fun d => if ReprOk d then some (.d (.str d.shown)) else none
  | _ => none
theorem lf_repr : LfN c (rRepr c.K) vRepr := by
  intro G H xs rs rr Q sub hd k e q
  unfold vRepr at e
  split at e
  · obtain ⟨d, e1, e2⟩ := Option.bind_eq_some_iff.mp e
    split at e2
    · rename_i h
      cases e2
      obtain ⟨v, fp, rfl, kx⟩ := rkL1 k
      have kd := datR_dp sub kx e1
      obtain ⟨a, rfl⟩ : ∃ a, v = .ref a := by
        obtain ⟨_, _, _, _, ys, z | z⟩ := h
        · subst z; obtain ⟨a, _, e, _⟩ := dp_lst kd; exact ⟨a, e⟩
        · subst z; obtain ⟨a, _, e, _⟩ := dp_tup kd; exact ⟨a, e⟩
      exact ⟨a, d, rfl, kd, h, q G H _ [] (Grow.refl sub) (rk_d (.str _)) fr_d⟩
    · cases e2
  · cases e
theorem pd_repr {p : Pos} (hgd : X.A.guards = some []) (hu : X.A.units + 64 < cLine) (hg : Gl X "repr") (hm : X.mg "repr" = none) (ha : PDA c X [a] ts) (fit : Fit c X := by exact {}) (he : starEach [a] X.env = (false, eval a X.env) :: starEach [] X.env := by rfl) : PDE c X (.Call (.Name "repr" p) [a] [] pos) (eBi vRepr ts) :=
  pd_bi (by rw [← fit.k]; exact call_reprD hgd hu) lf_repr hg hm (by decide +kernel) ha (by decide) (by decide) he (by rfl)
/-! try, where nothing is raised -/
theorem pds_try {h₀ : ExceptHandler} {hs : List ExceptHandler} (hb : PDB c X.nox sts sa) : PDS c X (.Try sts (h₀ :: hs) [] [] pos) sa := ⟨ps_try_thru0 hb.ps, hb.mono⟩
end
end L2.U
/-! The law's defs: like, right, melts. -/
namespace L2.U
open PySem PySem.Spec PyProof.Rows
section
variable {P : Program} {w : World} {K : PySem.W.Frag} {mg : Str → Option Value} {base : Heap}
def pt_q_like : FW := fun rs b Q => ∃ d, ReprOk d ∧ rs = [.d d, .d d] ∧ Q (.bool true) b
theorem mono_q_like : FMono pt_q_like := fun rs b Q Q' hh ⟨d, o, e, q⟩ => ⟨d, o, e, hh _ _ q⟩
abbrev s_q_like : Stmt := topS 47
theorem sc_q_like : FnScope ["_law_heard", "_law_due"] ["_law_heard", "_law_due"] (defScope s_q_like) := ⟨rfl, rfl, rfl, by decide +kernel, rfl, by decide +kernel, by decide +kernel⟩
theorem ok_q_like {f : Addr} {fd : FuncData} (F : Fun K "_law_like" "_law_like" s_q_like f fd) (hm : mg "_law_like" = some (.ref f)) (hb : Binds K fd ["_law_heard", "_law_due"] []) (nb : Nb mg) (kc : Kc mg) :
    CanG P w K mg base 1 "_law_like" ["_law_heard", "_law_due"] pt_q_like := by
  exact fn_dataG F sc_q_like hm hb mono_q_like (fun md G cdv A outer s H E hr hgd =>
    (pdb_one (pds_ret (pd_eqS (pd_repr hgd hr.units (by rfl) nb.repr (pda_cons (pv_ 0) pda_nil)) (pd_repr hgd hr.units (by rfl) nb.repr (pda_cons (pv_ 1) pda_nil))))))
    (by
      rintro rs b Q hl ⟨d, ok, rfl, q⟩
      simp only [sSeq, sNil, sAsg, sRet, sIf, sSet, sExpr, sFrz, sMove, sApp, sExt, sPar, eOp, eUn, eVar, eC, eIf, eAnd, eOr, eChain, tVal, uAnd, uOr, uNot, uTrue, eTup, eLst, eBi, eSl, partR, eIsi, eCall, eCallL, aCons, aNil, allD, dTup, dCons, dName, dNil, dSub, rho0, endD, lft, frz, stor, storAll, setAll, rtD, vIx, seqR, vII, vIC, vAdd, vSub, vMul, vFdiv, vMod, vPow, vLt, vLe, vGt, vGe, vEqS, vNeS, vIsN, vNotN, vNot, vNeg, isNo, vMin2, vMax2, vAbs, vInt1, vLen, vTuple, vList, vSum, isTy, vNotInK, vLenK, sKset, vIxoo, dSuboo, eCompL, eDict1, datR, vEqD, vNeD, vCatT, vCatL, iSeq, iTupW, iRg1, iRg2, sFor, noL, noL1, lend, scalD, R.held, R.fresh, List.map_cons, List.map_nil, List.length_cons, List.length_nil, List.cons_append, List.nil_append, List.getElem?_cons_zero, List.getElem?_cons_succ, List.set_cons_zero, List.set_cons_succ, List.replicate_succ, List.replicate_zero, Nat.zero_add, Nat.reduceAdd, Nat.reduceSub, Nat.reduceLT, Option.join_some, Option.join_none, Option.bind_some, Option.map_some, List.all_cons, List.all_nil, Bool.and_true, Bool.true_and, Bool.not_true, Bool.not_false, and_true, true_and, if_true, if_false, Bool.false_eq_true, decide_true, decide_false, reduceIte, vRepr, if_pos ok]
      exact q)
theorem repr_bools (a : Bool) : ReprOk (.list [.bool a, .bool a]) := by
  refine ⟨by cases a <;> decide +kernel, by cases a <;> decide +kernel, by cases a <;> decide +kernel, ?_, _, .inl rfl⟩
  exact le_line (by cases a <;> decide +kernel)
theorem eqv_ints : ∀ l : List Int, PyData.eqvAll (l.map PyData.int) (l.map PyData.int) = true
  | [] => by simp [PyData.eqvAll]
  | x :: l => by simp [PyData.eqvAll, PyData.eqv, eqv_ints l]
theorem eqv_row (l : List Int) : PyData.eqv (.tuple (l.map PyData.int)) (.tuple (l.map PyData.int)) = true := by
  unfold PyData.eqv
  exact eqv_ints l
theorem rep_two (x : PyData) : vRepL (.o true [x]) (.d (.int 2)) = some (.o true [x, x]) := rfl
def pt_q_right : FW := fun rs b Q => ∃ (c d : Chain) (t : Band), c.Ok ∧ d.Ok ∧ t.Ok ∧ rs = [.d c.enc, .d d.enc, .d t.enc] ∧ Q (.bool true) b
theorem mono_q_right : FMono pt_q_right := fun rs b Q Q' hh ⟨c, d, t, o, o2, o3, e, q⟩ => ⟨c, d, t, o, o2, o3, e, hh _ _ q⟩
abbrev s_q_right : Stmt := topS 61
theorem sc_q_right : FnScope ["_law_one", "_law_other", "_law_band_here", "_law_total", "_law_row", "_law_told"] ["_law_one", "_law_other", "_law_band_here"] (defScope s_q_right) := ⟨rfl, rfl, rfl, by decide +kernel, rfl, by decide +kernel, by decide +kernel⟩
theorem ok_q_right {f : Addr} {fd : FuncData} (F : Fun K "_law_right" "_law_right" s_q_right f fd) (hm : mg "_law_right" = some (.ref f)) (hb : Binds K fd ["_law_one", "_law_other", "_law_band_here"] []) (nb : Nb mg) (kc : Kc mg) (C_q_do_part : Can P w K mg base 4 "_law_do_part" ["_law_one", "_law_other", "_law_band_here", "_law_row"] pt_q_do_part) (C_q_like : CanG P w K mg base 1 "_law_like" ["_law_heard", "_law_due"] pt_q_like) (C_p_parting_demands : Can P w K mg base 6 "parting_demands" ["one", "other", "band"] pt_p_parting_demands) (C_p_are_alike : Can P w K mg base 6 "are_alike" ["one", "other", "band"] pt_p_are_alike) (C_q_parts_in : Can P w K mg base 4 "_law_parts_in" ["_law_one", "_law_other", "_law_band_here", "_law_most_so"] pt_q_parts_in) :
    CanG P w K mg base 7 "_law_right" ["_law_one", "_law_other", "_law_band_here"] pt_q_right := by
  exact fn_dataG F sc_q_right hm hb mono_q_right (fun md G cdv A outer s H E hr hgd =>
    (pdb_cons (pds_set (i := 3) sc_q_right.nd rfl (by first | exact .inl rfl | exact .inr rfl) (pd_call C_q_parts_in (hr.mono (by decide)) (by rfl) (pda_cons (pv_ 0) (pda_cons (pv_ 1) (pda_cons (pv_ 2) (pda_cons pd_int pda_nil))))))
      (pdb_cons (pds_if (pdt_isN (pv_ 3) pd_non) (pdb_one (pds_ret pd_bl)) pdb_nil)
      (pdb_cons (pds_set (i := 4) sc_q_right.nd rfl (by first | exact .inl rfl | exact .inr rfl) (pd_call C_p_parting_demands (hr.mono (by decide)) (by rfl) (pda_cons (pv_ 0) (pda_cons (pv_ 1) (pda_cons (pv_ 2) pda_nil)))))
      (pdb_cons (pds_set (i := 5) sc_q_right.nd rfl (by first | exact .inl rfl | exact .inr rfl) (pd_lst (pda_cons (pd_call C_p_are_alike (hr.mono (by decide)) (by rfl) (pda_cons (pv_ 0) (pda_cons (pv_ 1) (pda_cons (pv_ 2) pda_nil)))) (pda_cons (pd_call C_p_are_alike (hr.mono (by decide)) (by rfl) (pda_cons (pv_ 0) (pda_cons (pv_ 1) (pda_cons (pv_ 2) pda_nil)))) pda_nil))))
      (pdb_cons (pds_if (pdt_w (pdw_or (pdt_not (pdt_val (pd_callG C_q_like hgd (hr.mono (by decide)) (by rfl) (pda_cons (pv_ 5) (pda_cons (pd_repL (pd_lst (pda_cons (pd_eqS (pv_ 3) pd_int) pda_nil)) pd_int) pda_nil))))) (pdw_or1 (pdt_neD hr.units (pd_call C_p_parting_demands (hr.mono (by decide)) (by rfl) (pda_cons (pv_ 0) (pda_cons (pv_ 1) (pda_cons (pv_ 2) pda_nil)))) (pv_ 4))))) (pdb_one (pds_ret pd_bl)) pdb_nil)
      (pdb_cons (pds_if (pdt_eqS (pv_ 3) pd_int) (pdb_one (pds_ret (pd_isN (pv_ 4) pd_non))) pdb_nil)
      (pdb_one (pds_ret (pd_and (pd_isi .tuple rfl (by decide +kernel) (by rfl) nb.isinstance (by rfl) nb.tuple (pv_ 4)) (pd_and (pd_eqS (pd_len (by rfl) nb.len (pda_cons (pv_ 4) pda_nil)) (pv_ 3)) (pd_one (pd_call C_q_do_part (hr.mono (by decide)) (by rfl) (pda_cons (pv_ 0) (pda_cons (pv_ 1) (pda_cons (pv_ 2) (pda_cons (pv_ 4) pda_nil)))))))))))))))))
    (by
      rintro rs b Q hl ⟨c, d, t, o1, o2, o3, rfl, q⟩
      simp only [sSeq, sNil, sAsg, sRet, sIf, sSet, sExpr, sFrz, sMove, sApp, sExt, sPar, eOp, eUn, eVar, eC, eIf, eAnd, eOr, eChain, tVal, uAnd, uOr, uNot, uTrue, eTup, eLst, eBi, eSl, partR, eIsi, eCall, eCallL, aCons, aNil, allD, dTup, dCons, dName, dNil, dSub, rho0, endD, lft, frz, stor, storAll, setAll, rtD, vIx, seqR, vII, vIC, vAdd, vSub, vMul, vFdiv, vMod, vPow, vLt, vLe, vGt, vGe, vEqS, vNeS, vIsN, vNotN, vNot, vNeg, isNo, vMin2, vMax2, vAbs, vInt1, vLen, vTuple, vList, vSum, isTy, vNotInK, vLenK, sKset, vIxoo, dSuboo, eCompL, eDict1, datR, vEqD, vNeD, vCatT, vCatL, iSeq, iTupW, iRg1, iRg2, sFor, noL, noL1, lend, scalD, R.held, R.fresh, List.map_cons, List.map_nil, List.length_cons, List.length_nil, List.cons_append, List.nil_append, List.getElem?_cons_zero, List.getElem?_cons_succ, List.set_cons_zero, List.set_cons_succ, List.replicate_succ, List.replicate_zero, Nat.zero_add, Nat.reduceAdd, Nat.reduceSub, Nat.reduceLT, Option.join_some, Option.join_none, Option.bind_some, Option.map_some, List.all_cons, List.all_nil, Bool.and_true, Bool.true_and, Bool.not_true, Bool.not_false, and_true, true_and, if_true, if_false, Bool.false_eq_true, decide_true, decide_false, reduceIte]
      refine ⟨c, d, t, 250, o1, o2, o3, by decide, by decide, rfl, ?_, fun n r run => ?_⟩
      · simp only [sSeq, sNil, sAsg, sRet, sIf, sSet, sExpr, sFrz, sMove, sApp, sExt, sPar, eOp, eUn, eVar, eC, eIf, eAnd, eOr, eChain, tVal, uAnd, uOr, uNot, uTrue, eTup, eLst, eBi, eSl, partR, eIsi, eCall, eCallL, aCons, aNil, allD, dTup, dCons, dName, dNil, dSub, rho0, endD, lft, frz, stor, storAll, setAll, rtD, vIx, seqR, vII, vIC, vAdd, vSub, vMul, vFdiv, vMod, vPow, vLt, vLe, vGt, vGe, vEqS, vNeS, vIsN, vNotN, vNot, vNeg, isNo, vMin2, vMax2, vAbs, vInt1, vLen, vTuple, vList, vSum, isTy, vNotInK, vLenK, sKset, vIxoo, dSuboo, eCompL, eDict1, datR, vEqD, vNeD, vCatT, vCatL, iSeq, iTupW, iRg1, iRg2, sFor, noL, noL1, lend, scalD, R.held, R.fresh, List.map_cons, List.map_nil, List.length_cons, List.length_nil, List.cons_append, List.nil_append, List.getElem?_cons_zero, List.getElem?_cons_succ, List.set_cons_zero, List.set_cons_succ, List.replicate_succ, List.replicate_zero, Nat.zero_add, Nat.reduceAdd, Nat.reduceSub, Nat.reduceLT, Option.join_some, Option.join_none, Option.bind_some, Option.map_some, List.all_cons, List.all_nil, Bool.and_true, Bool.true_and, Bool.not_true, Bool.not_false, and_true, true_and, if_true, if_false, Bool.false_eq_true, decide_true, decide_false, reduceIte]
        exact q
      cases r with
      | none =>
        simp only [sSeq, sNil, sAsg, sRet, sIf, sSet, sExpr, sFrz, sMove, sApp, sExt, sPar, eOp, eUn, eVar, eC, eIf, eAnd, eOr, eChain, tVal, uAnd, uOr, uNot, uTrue, eTup, eLst, eBi, eSl, partR, eIsi, eCall, eCallL, aCons, aNil, allD, dTup, dCons, dName, dNil, dSub, rho0, endD, lft, frz, stor, storAll, setAll, rtD, vIx, seqR, vII, vIC, vAdd, vSub, vMul, vFdiv, vMod, vPow, vLt, vLe, vGt, vGe, vEqS, vNeS, vIsN, vNotN, vNot, vNeg, isNo, vMin2, vMax2, vAbs, vInt1, vLen, vTuple, vList, vSum, isTy, vNotInK, vLenK, sKset, vIxoo, dSuboo, eCompL, eDict1, datR, vEqD, vNeD, vCatT, vCatL, iSeq, iTupW, iRg1, iRg2, sFor, noL, noL1, lend, scalD, R.held, R.fresh, List.map_cons, List.map_nil, List.length_cons, List.length_nil, List.cons_append, List.nil_append, List.getElem?_cons_zero, List.getElem?_cons_succ, List.set_cons_zero, List.set_cons_succ, List.replicate_succ, List.replicate_zero, Nat.zero_add, Nat.reduceAdd, Nat.reduceSub, Nat.reduceLT, Option.join_some, Option.join_none, Option.bind_some, Option.map_some, List.all_cons, List.all_nil, Bool.and_true, Bool.true_and, Bool.not_true, Bool.not_false, and_true, true_and, if_true, if_false, Bool.false_eq_true, decide_true, decide_false, reduceIte]
        refine ⟨c, d, t, n, none, o1, o2, o3, run.le (by decide), rfl, ?_⟩
        refine ⟨c, d, t, n, none, o1, o2, o3, run.le (by decide), rfl, ?_⟩
        refine ⟨c, d, t, n, none, o1, o2, o3, run.le (by decide), rfl, ?_⟩
        have s1 : SeqAt.shaped PyData.none = true := by decide
        have s2 : PyData.eqv PyData.none PyData.none = true := by decide
        simp only [sSeq, sNil, sAsg, sRet, sIf, sSet, sExpr, sFrz, sMove, sApp, sExt, sPar, eOp, eUn, eVar, eC, eIf, eAnd, eOr, eChain, tVal, uAnd, uOr, uNot, uTrue, eTup, eLst, eBi, eSl, partR, eIsi, eCall, eCallL, aCons, aNil, allD, dTup, dCons, dName, dNil, dSub, rho0, endD, lft, frz, stor, storAll, setAll, rtD, vIx, seqR, vII, vIC, vAdd, vSub, vMul, vFdiv, vMod, vPow, vLt, vLe, vGt, vGe, vEqS, vNeS, vIsN, vNotN, vNot, vNeg, isNo, vMin2, vMax2, vAbs, vInt1, vLen, vTuple, vList, vSum, isTy, vNotInK, vLenK, sKset, vIxoo, dSuboo, eCompL, eDict1, datR, vEqD, vNeD, vCatT, vCatL, iSeq, iTupW, iRg1, iRg2, sFor, noL, noL1, lend, scalD, R.held, R.fresh, List.map_cons, List.map_nil, List.length_cons, List.length_nil, List.cons_append, List.nil_append, List.getElem?_cons_zero, List.getElem?_cons_succ, List.set_cons_zero, List.set_cons_succ, List.replicate_succ, List.replicate_zero, Nat.zero_add, Nat.reduceAdd, Nat.reduceSub, Nat.reduceLT, Option.join_some, Option.join_none, Option.bind_some, Option.map_some, List.all_cons, List.all_nil, Bool.and_true, Bool.true_and, Bool.not_true, Bool.not_false, and_true, true_and, if_true, if_false, Bool.false_eq_true, decide_true, decide_false, reduceIte, rep_two]
        refine ⟨.list [.bool true, .bool true], repr_bools true, rfl, ?_⟩
        simp only [sSeq, sNil, sAsg, sRet, sIf, sSet, sExpr, sFrz, sMove, sApp, sExt, sPar, eOp, eUn, eVar, eC, eIf, eAnd, eOr, eChain, tVal, uAnd, uOr, uNot, uTrue, eTup, eLst, eBi, eSl, partR, eIsi, eCall, eCallL, aCons, aNil, allD, dTup, dCons, dName, dNil, dSub, rho0, endD, lft, frz, stor, storAll, setAll, rtD, vIx, seqR, vII, vIC, vAdd, vSub, vMul, vFdiv, vMod, vPow, vLt, vLe, vGt, vGe, vEqS, vNeS, vIsN, vNotN, vNot, vNeg, isNo, vMin2, vMax2, vAbs, vInt1, vLen, vTuple, vList, vSum, isTy, vNotInK, vLenK, sKset, vIxoo, dSuboo, eCompL, eDict1, datR, vEqD, vNeD, vCatT, vCatL, iSeq, iTupW, iRg1, iRg2, sFor, noL, noL1, lend, scalD, R.held, R.fresh, List.map_cons, List.map_nil, List.length_cons, List.length_nil, List.cons_append, List.nil_append, List.getElem?_cons_zero, List.getElem?_cons_succ, List.set_cons_zero, List.set_cons_succ, List.replicate_succ, List.replicate_zero, Nat.zero_add, Nat.reduceAdd, Nat.reduceSub, Nat.reduceLT, Option.join_some, Option.join_none, Option.bind_some, Option.map_some, List.all_cons, List.all_nil, Bool.and_true, Bool.true_and, Bool.not_true, Bool.not_false, and_true, true_and, if_true, if_false, Bool.false_eq_true, decide_true, decide_false, reduceIte]
        refine ⟨c, d, t, n, none, o1, o2, o3, run.le (by decide), rfl, ?_⟩
        simp only [sSeq, sNil, sAsg, sRet, sIf, sSet, sExpr, sFrz, sMove, sApp, sExt, sPar, eOp, eUn, eVar, eC, eIf, eAnd, eOr, eChain, tVal, uAnd, uOr, uNot, uTrue, eTup, eLst, eBi, eSl, partR, eIsi, eCall, eCallL, aCons, aNil, allD, dTup, dCons, dName, dNil, dSub, rho0, endD, lft, frz, stor, storAll, setAll, rtD, vIx, seqR, vII, vIC, vAdd, vSub, vMul, vFdiv, vMod, vPow, vLt, vLe, vGt, vGe, vEqS, vNeS, vIsN, vNotN, vNot, vNeg, isNo, vMin2, vMax2, vAbs, vInt1, vLen, vTuple, vList, vSum, isTy, vNotInK, vLenK, sKset, vIxoo, dSuboo, eCompL, eDict1, datR, vEqD, vNeD, vCatT, vCatL, iSeq, iTupW, iRg1, iRg2, sFor, noL, noL1, lend, scalD, R.held, R.fresh, List.map_cons, List.map_nil, List.length_cons, List.length_nil, List.cons_append, List.nil_append, List.getElem?_cons_zero, List.getElem?_cons_succ, List.set_cons_zero, List.set_cons_succ, List.replicate_succ, List.replicate_zero, Nat.zero_add, Nat.reduceAdd, Nat.reduceSub, Nat.reduceLT, Option.join_some, Option.join_none, Option.bind_some, Option.map_some, List.all_cons, List.all_nil, Bool.and_true, Bool.true_and, Bool.not_true, Bool.not_false, and_true, true_and, if_true, if_false, Bool.false_eq_true, decide_true, decide_false, reduceIte, encRes, s1, s2]
        exact q
      | some row =>
        have hp := run_parts run
        have h0 : decide ((row.length : Int) = 0) = false := decide_eq_false (by
          have := List.length_pos_iff.mpr hp.ne
          omega)
        simp only [sSeq, sNil, sAsg, sRet, sIf, sSet, sExpr, sFrz, sMove, sApp, sExt, sPar, eOp, eUn, eVar, eC, eIf, eAnd, eOr, eChain, tVal, uAnd, uOr, uNot, uTrue, eTup, eLst, eBi, eSl, partR, eIsi, eCall, eCallL, aCons, aNil, allD, dTup, dCons, dName, dNil, dSub, rho0, endD, lft, frz, stor, storAll, setAll, rtD, vIx, seqR, vII, vIC, vAdd, vSub, vMul, vFdiv, vMod, vPow, vLt, vLe, vGt, vGe, vEqS, vNeS, vIsN, vNotN, vNot, vNeg, isNo, vMin2, vMax2, vAbs, vInt1, vLen, vTuple, vList, vSum, isTy, vNotInK, vLenK, sKset, vIxoo, dSuboo, eCompL, eDict1, datR, vEqD, vNeD, vCatT, vCatL, iSeq, iTupW, iRg1, iRg2, sFor, noL, noL1, lend, scalD, R.held, R.fresh, List.map_cons, List.map_nil, List.length_cons, List.length_nil, List.cons_append, List.nil_append, List.getElem?_cons_zero, List.getElem?_cons_succ, List.set_cons_zero, List.set_cons_succ, List.replicate_succ, List.replicate_zero, Nat.zero_add, Nat.reduceAdd, Nat.reduceSub, Nat.reduceLT, Option.join_some, Option.join_none, Option.bind_some, Option.map_some, List.all_cons, List.all_nil, Bool.and_true, Bool.true_and, Bool.not_true, Bool.not_false, and_true, true_and, if_true, if_false, Bool.false_eq_true, decide_true, decide_false, reduceIte]
        refine ⟨c, d, t, n, some row, o1, o2, o3, run.le (by decide), rfl, ?_⟩
        refine ⟨c, d, t, n, some row, o1, o2, o3, run.le (by decide), rfl, ?_⟩
        refine ⟨c, d, t, n, some row, o1, o2, o3, run.le (by decide), rfl, ?_⟩
        have s1 : SeqAt.shaped (.tuple (row.map PyData.int)) = true := (sh_tup (n := 0) (sh_map fun i _ => sh_int i)).shaped (by decide)
        simp only [sSeq, sNil, sAsg, sRet, sIf, sSet, sExpr, sFrz, sMove, sApp, sExt, sPar, eOp, eUn, eVar, eC, eIf, eAnd, eOr, eChain, tVal, uAnd, uOr, uNot, uTrue, eTup, eLst, eBi, eSl, partR, eIsi, eCall, eCallL, aCons, aNil, allD, dTup, dCons, dName, dNil, dSub, rho0, endD, lft, frz, stor, storAll, setAll, rtD, vIx, seqR, vII, vIC, vAdd, vSub, vMul, vFdiv, vMod, vPow, vLt, vLe, vGt, vGe, vEqS, vNeS, vIsN, vNotN, vNot, vNeg, isNo, vMin2, vMax2, vAbs, vInt1, vLen, vTuple, vList, vSum, isTy, vNotInK, vLenK, sKset, vIxoo, dSuboo, eCompL, eDict1, datR, vEqD, vNeD, vCatT, vCatL, iSeq, iTupW, iRg1, iRg2, sFor, noL, noL1, lend, scalD, R.held, R.fresh, List.map_cons, List.map_nil, List.length_cons, List.length_nil, List.cons_append, List.nil_append, List.getElem?_cons_zero, List.getElem?_cons_succ, List.set_cons_zero, List.set_cons_succ, List.replicate_succ, List.replicate_zero, Nat.zero_add, Nat.reduceAdd, Nat.reduceSub, Nat.reduceLT, Option.join_some, Option.join_none, Option.bind_some, Option.map_some, List.all_cons, List.all_nil, Bool.and_true, Bool.true_and, Bool.not_true, Bool.not_false, and_true, true_and, if_true, if_false, Bool.false_eq_true, decide_true, decide_false, reduceIte, h0, rep_two]
        refine ⟨.list [.bool false, .bool false], repr_bools false, rfl, ?_⟩
        simp only [sSeq, sNil, sAsg, sRet, sIf, sSet, sExpr, sFrz, sMove, sApp, sExt, sPar, eOp, eUn, eVar, eC, eIf, eAnd, eOr, eChain, tVal, uAnd, uOr, uNot, uTrue, eTup, eLst, eBi, eSl, partR, eIsi, eCall, eCallL, aCons, aNil, allD, dTup, dCons, dName, dNil, dSub, rho0, endD, lft, frz, stor, storAll, setAll, rtD, vIx, seqR, vII, vIC, vAdd, vSub, vMul, vFdiv, vMod, vPow, vLt, vLe, vGt, vGe, vEqS, vNeS, vIsN, vNotN, vNot, vNeg, isNo, vMin2, vMax2, vAbs, vInt1, vLen, vTuple, vList, vSum, isTy, vNotInK, vLenK, sKset, vIxoo, dSuboo, eCompL, eDict1, datR, vEqD, vNeD, vCatT, vCatL, iSeq, iTupW, iRg1, iRg2, sFor, noL, noL1, lend, scalD, R.held, R.fresh, List.map_cons, List.map_nil, List.length_cons, List.length_nil, List.cons_append, List.nil_append, List.getElem?_cons_zero, List.getElem?_cons_succ, List.set_cons_zero, List.set_cons_succ, List.replicate_succ, List.replicate_zero, Nat.zero_add, Nat.reduceAdd, Nat.reduceSub, Nat.reduceLT, Option.join_some, Option.join_none, Option.bind_some, Option.map_some, List.all_cons, List.all_nil, Bool.and_true, Bool.true_and, Bool.not_true, Bool.not_false, and_true, true_and, if_true, if_false, Bool.false_eq_true, decide_true, decide_false, reduceIte]
        refine ⟨c, d, t, n, some row, o1, o2, o3, run.le (by decide), rfl, ?_⟩
        simp only [sSeq, sNil, sAsg, sRet, sIf, sSet, sExpr, sFrz, sMove, sApp, sExt, sPar, eOp, eUn, eVar, eC, eIf, eAnd, eOr, eChain, tVal, uAnd, uOr, uNot, uTrue, eTup, eLst, eBi, eSl, partR, eIsi, eCall, eCallL, aCons, aNil, allD, dTup, dCons, dName, dNil, dSub, rho0, endD, lft, frz, stor, storAll, setAll, rtD, vIx, seqR, vII, vIC, vAdd, vSub, vMul, vFdiv, vMod, vPow, vLt, vLe, vGt, vGe, vEqS, vNeS, vIsN, vNotN, vNot, vNeg, isNo, vMin2, vMax2, vAbs, vInt1, vLen, vTuple, vList, vSum, isTy, vNotInK, vLenK, sKset, vIxoo, dSuboo, eCompL, eDict1, datR, vEqD, vNeD, vCatT, vCatL, iSeq, iTupW, iRg1, iRg2, sFor, noL, noL1, lend, scalD, R.held, R.fresh, List.map_cons, List.map_nil, List.length_cons, List.length_nil, List.cons_append, List.nil_append, List.getElem?_cons_zero, List.getElem?_cons_succ, List.set_cons_zero, List.set_cons_succ, List.replicate_succ, List.replicate_zero, Nat.zero_add, Nat.reduceAdd, Nat.reduceSub, Nat.reduceLT, Option.join_some, Option.join_none, Option.bind_some, Option.map_some, List.all_cons, List.all_nil, Bool.and_true, Bool.true_and, Bool.not_true, Bool.not_false, and_true, true_and, if_true, if_false, Bool.false_eq_true, decide_true, decide_false, reduceIte, encRes, encR, s1, eqv_row, h0, List.length_map]
        exact ⟨c, d, t, row, o1, o2, o3, hp, rfl, q⟩)
theorem repr_house (r : Option House) (h : ∀ x, r = some x → x ∈ ordH 3) : ReprOk (.list [encH r, encH r]) := by
  have key : ∀ x ∈ ordH 3, (PyData.list [x.enc, x.enc]).showable = true ∧ (PyData.list [x.enc, x.enc]).hasDict = false ∧ (PyData.list [x.enc, x.enc]).depth ≤ 32 ∧ (PyData.list [x.enc, x.enc]).shown.length ≤ 1000 := by decide +kernel
  cases r with
  | none => exact ⟨by decide +kernel, by decide +kernel, by decide +kernel, le_line (by decide +kernel), _, .inl rfl⟩
  | some x =>
    obtain ⟨a, b, e, f⟩ := key x (h x rfl)
    exact ⟨a, b, e, le_line f, _, .inl rfl⟩
theorem melt_mem {c : Chain} {t : Band} {most : Nat} {hs : List House} {r : Option House} (h : Melt c t most hs r) : ∀ x, r = some x → x ∈ hs := by
  induction h with
  | nil => intro x e; cases e
  | here h1 => intro x e; cases e; exact List.mem_cons_self
  | next h1 h2 ih => intro x e; exact List.mem_cons_of_mem _ (ih x e)
def pt_q_melts_right : FW := fun rs b Q => ∃ (c : Chain) (t : Band) (most : Int), c.Ok ∧ t.Ok ∧ most ∈ ([0, 1, 2, 3] : List Int) ∧ rs = [.d c.enc, .d t.enc, .d (.int most)] ∧ Q (.bool true) b
theorem mono_q_melts_right : FMono pt_q_melts_right := fun rs b Q Q' hh ⟨c, t, m, o, o2, o3, e, q⟩ => ⟨c, t, m, o, o2, o3, e, hh _ _ q⟩
abbrev s_q_melts_right : Stmt := topS 63
theorem sc_q_melts_right : FnScope ["_law_chain_here", "_law_band_here", "_law_most", "_law_due", "_law_house_here", "_law_total"] ["_law_chain_here", "_law_band_here", "_law_most"] (defScope s_q_melts_right) := ⟨rfl, rfl, rfl, by decide +kernel, rfl, by decide +kernel, by decide +kernel⟩
theorem ok_q_melts_right {f : Addr} {fd : FuncData} (F : Fun K "_law_melts_right" "_law_melts_right" s_q_melts_right f fd) (hm : mg "_law_melts_right" = some (.ref f)) (hb : Binds K fd ["_law_chain_here", "_law_band_here", "_law_most"] []) (nb : Nb mg) (kc : Kc mg) (C_q_like : CanG P w K mg base 1 "_law_like" ["_law_heard", "_law_due"] pt_q_like) (C_p_melted : Can P w K mg base 5 "melted" ["chain", "band", "most"] pt_p_melted) (C_q_houses : Can P w K mg base 1 "_law_houses" ["_law_most"] pt_q_houses) (C_q_parts_in : Can P w K mg base 4 "_law_parts_in" ["_law_one", "_law_other", "_law_band_here", "_law_most_so"] pt_q_parts_in) :
    CanG P w K mg base 6 "_law_melts_right" ["_law_chain_here", "_law_band_here", "_law_most"] pt_q_melts_right := by
  exact fn_dataG F sc_q_melts_right hm hb mono_q_melts_right (fun md G cdv A outer s H E hr hgd =>
    (pdb_cons (pds_set (i := 3) sc_q_melts_right.nd rfl (by first | exact .inl rfl | exact .inr rfl) pd_non)
      (pdb_cons (pds_for PassesOwn.never rfl (pdi_list (pd_call C_q_houses (hr.mono (by decide)) (by rfl) (pda_cons (pv_ 2) pda_nil))) (pdg_name (i := 4) sc_q_melts_right.nd rfl (by first | exact .inl rfl | exact .inr rfl)) (pdb_one (pds_if (pdt_isN (pv_ 3) pd_non) (pdb_cons (pds_set (i := 5) sc_q_melts_right.nd rfl (by first | exact .inl rfl | exact .inr rfl) (pd_call C_q_parts_in (hr.mono (by decide)) (by rfl) (pda_cons (pv_ 0) (pda_cons (pd_tup (pda_cons (pd_tup (pda_cons (pv_ 4) pda_nil)) (pda_cons (pd_ix (pv_ 0) pd_int) pda_nil))) (pda_cons (pv_ 1) (pda_cons pd_int pda_nil))))))
      (pdb_cons (pds_if (pdt_isN (pv_ 5) pd_non) (pdb_one (pds_ret pd_bl)) pdb_nil)
      (pdb_one (pds_set (i := 3) sc_q_melts_right.nd rfl (by first | exact .inl rfl | exact .inr rfl) (pd_if (pdt_eqS (pv_ 5) pd_int) (pv_ 4) pd_non))))) pdb_nil)))
      (pdb_one (pds_ret (pd_callG C_q_like hgd (hr.mono (by decide)) (by rfl) (pda_cons (pd_lst (pda_cons (pd_call C_p_melted (hr.mono (by decide)) (by rfl) (pda_cons (pv_ 0) (pda_cons (pv_ 1) (pda_cons (pv_ 2) pda_nil)))) (pda_cons (pd_call C_p_melted (hr.mono (by decide)) (by rfl) (pda_cons (pv_ 0) (pda_cons (pv_ 1) (pda_cons (pv_ 2) pda_nil)))) pda_nil))) (pda_cons (pd_lst (pda_cons (pv_ 3) (pda_cons (pv_ 3) pda_nil))) pda_nil))))))))
    (by
      rintro rs b Q hl ⟨c, t, most, o1, o2, hm, rfl, q⟩
      simp only [sSeq, sNil, sAsg, sRet, sIf, sSet, sExpr, sFrz, sMove, sApp, sExt, sPar, eOp, eUn, eVar, eC, eIf, eAnd, eOr, eChain, tVal, uAnd, uOr, uNot, uTrue, eTup, eLst, eBi, eSl, partR, eIsi, eCall, eCallL, aCons, aNil, allD, dTup, dCons, dName, dNil, dSub, rho0, endD, lft, frz, stor, storAll, setAll, rtD, vIx, seqR, vII, vIC, vAdd, vSub, vMul, vFdiv, vMod, vPow, vLt, vLe, vGt, vGe, vEqS, vNeS, vIsN, vNotN, vNot, vNeg, isNo, vMin2, vMax2, vAbs, vInt1, vLen, vTuple, vList, vSum, isTy, vNotInK, vLenK, sKset, vIxoo, dSuboo, eCompL, eDict1, datR, vEqD, vNeD, vCatT, vCatL, iSeq, iTupW, iRg1, iRg2, sFor, noL, noL1, lend, scalD, R.held, R.fresh, List.map_cons, List.map_nil, List.length_cons, List.length_nil, List.cons_append, List.nil_append, List.getElem?_cons_zero, List.getElem?_cons_succ, List.set_cons_zero, List.set_cons_succ, List.replicate_succ, List.replicate_zero, Nat.zero_add, Nat.reduceAdd, Nat.reduceSub, Nat.reduceLT, Option.join_some, Option.join_none, Option.bind_some, Option.map_some, List.all_cons, List.all_nil, Bool.and_true, Bool.true_and, Bool.not_true, Bool.not_false, and_true, true_and, if_true, if_false, Bool.false_eq_true, decide_true, decide_false, reduceIte]
      refine ⟨most, hm, rfl, ?_⟩
      simp only [sSeq, sNil, sAsg, sRet, sIf, sSet, sExpr, sFrz, sMove, sApp, sExt, sPar, eOp, eUn, eVar, eC, eIf, eAnd, eOr, eChain, tVal, uAnd, uOr, uNot, uTrue, eTup, eLst, eBi, eSl, partR, eIsi, eCall, eCallL, aCons, aNil, allD, dTup, dCons, dName, dNil, dSub, rho0, endD, lft, frz, stor, storAll, setAll, rtD, vIx, seqR, vII, vIC, vAdd, vSub, vMul, vFdiv, vMod, vPow, vLt, vLe, vGt, vGe, vEqS, vNeS, vIsN, vNotN, vNot, vNeg, isNo, vMin2, vMax2, vAbs, vInt1, vLen, vTuple, vList, vSum, isTy, vNotInK, vLenK, sKset, vIxoo, dSuboo, eCompL, eDict1, datR, vEqD, vNeD, vCatT, vCatL, iSeq, iTupW, iRg1, iRg2, sFor, noL, noL1, lend, scalD, R.held, R.fresh, List.map_cons, List.map_nil, List.length_cons, List.length_nil, List.cons_append, List.nil_append, List.getElem?_cons_zero, List.getElem?_cons_succ, List.set_cons_zero, List.set_cons_succ, List.replicate_succ, List.replicate_zero, Nat.zero_add, Nat.reduceAdd, Nat.reduceSub, Nat.reduceLT, Option.join_some, Option.join_none, Option.bind_some, Option.map_some, List.all_cons, List.all_nil, Bool.and_true, Bool.true_and, Bool.not_true, Bool.not_false, and_true, true_and, if_true, if_false, Bool.false_eq_true, decide_true, decide_false, reduceIte]
      refine for_list House.enc (fun rest ρ b' => ∃ (due : Option House) (z4 z5 : Option R), b' = b ∧ (∀ x ∈ rest, x ∈ ordH most) ∧ (match due with | none => ∀ r, Melt c t 300 rest r → Melt c t 300 (ordH most) r | some h => Melt c t 300 (ordH most) (some h)) ∧ ρ = [some (.d c.enc), some (.d t.enc), some (.d (.int most)), some (.d (encH due)), z4, z5]) (fun d' b' => Q d' b') ?_ ?_ ?_ (ordH most) ⟨none, none, none, rfl, fun _ h => h, fun _ h => h, rfl⟩
      · rintro h rest ρ b' Q' ⟨due, z4, z5, rfl, hsub, hdue, rfl⟩ hnx hrt
        have hok := ordH_ok hm h (hsub h List.mem_cons_self)
        have hsub' := fun x hx => hsub x (List.mem_cons_of_mem h hx)
        cases due with
        | some h' =>
          simp only [sSeq, sNil, sAsg, sRet, sIf, sSet, sExpr, sFrz, sMove, sApp, sExt, sPar, eOp, eUn, eVar, eC, eIf, eAnd, eOr, eChain, tVal, uAnd, uOr, uNot, uTrue, eTup, eLst, eBi, eSl, partR, eIsi, eCall, eCallL, aCons, aNil, allD, dTup, dCons, dName, dNil, dSub, rho0, endD, lft, frz, stor, storAll, setAll, rtD, vIx, seqR, vII, vIC, vAdd, vSub, vMul, vFdiv, vMod, vPow, vLt, vLe, vGt, vGe, vEqS, vNeS, vIsN, vNotN, vNot, vNeg, isNo, vMin2, vMax2, vAbs, vInt1, vLen, vTuple, vList, vSum, isTy, vNotInK, vLenK, sKset, vIxoo, dSuboo, eCompL, eDict1, datR, vEqD, vNeD, vCatT, vCatL, iSeq, iTupW, iRg1, iRg2, sFor, noL, noL1, lend, scalD, R.held, R.fresh, List.map_cons, List.map_nil, List.length_cons, List.length_nil, List.cons_append, List.nil_append, List.getElem?_cons_zero, List.getElem?_cons_succ, List.set_cons_zero, List.set_cons_succ, List.replicate_succ, List.replicate_zero, Nat.zero_add, Nat.reduceAdd, Nat.reduceSub, Nat.reduceLT, Option.join_some, Option.join_none, Option.bind_some, Option.map_some, List.all_cons, List.all_nil, Bool.and_true, Bool.true_and, Bool.not_true, Bool.not_false, and_true, true_and, if_true, if_false, Bool.false_eq_true, decide_true, decide_false, reduceIte, encH, House.enc]
          exact hnx _ _ ⟨some h', _, _, rfl, hsub', hdue, rfl⟩
        | none =>
          simp only [sSeq, sNil, sAsg, sRet, sIf, sSet, sExpr, sFrz, sMove, sApp, sExt, sPar, eOp, eUn, eVar, eC, eIf, eAnd, eOr, eChain, tVal, uAnd, uOr, uNot, uTrue, eTup, eLst, eBi, eSl, partR, eIsi, eCall, eCallL, aCons, aNil, allD, dTup, dCons, dName, dNil, dSub, rho0, endD, lft, frz, stor, storAll, setAll, rtD, vIx, seqR, vII, vIC, vAdd, vSub, vMul, vFdiv, vMod, vPow, vLt, vLe, vGt, vGe, vEqS, vNeS, vIsN, vNotN, vNot, vNeg, isNo, vMin2, vMax2, vAbs, vInt1, vLen, vTuple, vList, vSum, isTy, vNotInK, vLenK, sKset, vIxoo, dSuboo, eCompL, eDict1, datR, vEqD, vNeD, vCatT, vCatL, iSeq, iTupW, iRg1, iRg2, sFor, noL, noL1, lend, scalD, R.held, R.fresh, List.map_cons, List.map_nil, List.length_cons, List.length_nil, List.cons_append, List.nil_append, List.getElem?_cons_zero, List.getElem?_cons_succ, List.set_cons_zero, List.set_cons_succ, List.replicate_succ, List.replicate_zero, Nat.zero_add, Nat.reduceAdd, Nat.reduceSub, Nat.reduceLT, Option.join_some, Option.join_none, Option.bind_some, Option.map_some, List.all_cons, List.all_nil, Bool.and_true, Bool.true_and, Bool.not_true, Bool.not_false, and_true, true_and, if_true, if_false, Bool.false_eq_true, decide_true, decide_false, reduceIte, encH]
          unfold Chain.enc
          simp only [sSeq, sNil, sAsg, sRet, sIf, sSet, sExpr, sFrz, sMove, sApp, sExt, sPar, eOp, eUn, eVar, eC, eIf, eAnd, eOr, eChain, tVal, uAnd, uOr, uNot, uTrue, eTup, eLst, eBi, eSl, partR, eIsi, eCall, eCallL, aCons, aNil, allD, dTup, dCons, dName, dNil, dSub, rho0, endD, lft, frz, stor, storAll, setAll, rtD, vIx, seqR, vII, vIC, vAdd, vSub, vMul, vFdiv, vMod, vPow, vLt, vLe, vGt, vGe, vEqS, vNeS, vIsN, vNotN, vNot, vNeg, isNo, vMin2, vMax2, vAbs, vInt1, vLen, vTuple, vList, vSum, isTy, vNotInK, vLenK, sKset, vIxoo, dSuboo, eCompL, eDict1, datR, vEqD, vNeD, vCatT, vCatL, iSeq, iTupW, iRg1, iRg2, sFor, noL, noL1, lend, scalD, R.held, R.fresh, List.map_cons, List.map_nil, List.length_cons, List.length_nil, List.cons_append, List.nil_append, List.getElem?_cons_zero, List.getElem?_cons_succ, List.set_cons_zero, List.set_cons_succ, List.replicate_succ, List.replicate_zero, Nat.zero_add, Nat.reduceAdd, Nat.reduceSub, Nat.reduceLT, Option.join_some, Option.join_none, Option.bind_some, Option.map_some, List.all_cons, List.all_nil, Bool.and_true, Bool.true_and, Bool.not_true, Bool.not_false, and_true, true_and, if_true, if_false, Bool.false_eq_true, decide_true, decide_false, reduceIte, atI_1]
          refine ⟨c, ⟨[h], c.wait⟩, t, 300, o1, one_ok o1 hok, o2, by decide, by decide, rfl, ?_, fun n r run => ?_⟩
          · simp only [sSeq, sNil, sAsg, sRet, sIf, sSet, sExpr, sFrz, sMove, sApp, sExt, sPar, eOp, eUn, eVar, eC, eIf, eAnd, eOr, eChain, tVal, uAnd, uOr, uNot, uTrue, eTup, eLst, eBi, eSl, partR, eIsi, eCall, eCallL, aCons, aNil, allD, dTup, dCons, dName, dNil, dSub, rho0, endD, lft, frz, stor, storAll, setAll, rtD, vIx, seqR, vII, vIC, vAdd, vSub, vMul, vFdiv, vMod, vPow, vLt, vLe, vGt, vGe, vEqS, vNeS, vIsN, vNotN, vNot, vNeg, isNo, vMin2, vMax2, vAbs, vInt1, vLen, vTuple, vList, vSum, isTy, vNotInK, vLenK, sKset, vIxoo, dSuboo, eCompL, eDict1, datR, vEqD, vNeD, vCatT, vCatL, iSeq, iTupW, iRg1, iRg2, sFor, noL, noL1, lend, scalD, R.held, R.fresh, List.map_cons, List.map_nil, List.length_cons, List.length_nil, List.cons_append, List.nil_append, List.getElem?_cons_zero, List.getElem?_cons_succ, List.set_cons_zero, List.set_cons_succ, List.replicate_succ, List.replicate_zero, Nat.zero_add, Nat.reduceAdd, Nat.reduceSub, Nat.reduceLT, Option.join_some, Option.join_none, Option.bind_some, Option.map_some, List.all_cons, List.all_nil, Bool.and_true, Bool.true_and, Bool.not_true, Bool.not_false, and_true, true_and, if_true, if_false, Bool.false_eq_true, decide_true, decide_false, reduceIte]
            exact hrt _ _ q
          · cases r with
            | none =>
              simp only [sSeq, sNil, sAsg, sRet, sIf, sSet, sExpr, sFrz, sMove, sApp, sExt, sPar, eOp, eUn, eVar, eC, eIf, eAnd, eOr, eChain, tVal, uAnd, uOr, uNot, uTrue, eTup, eLst, eBi, eSl, partR, eIsi, eCall, eCallL, aCons, aNil, allD, dTup, dCons, dName, dNil, dSub, rho0, endD, lft, frz, stor, storAll, setAll, rtD, vIx, seqR, vII, vIC, vAdd, vSub, vMul, vFdiv, vMod, vPow, vLt, vLe, vGt, vGe, vEqS, vNeS, vIsN, vNotN, vNot, vNeg, isNo, vMin2, vMax2, vAbs, vInt1, vLen, vTuple, vList, vSum, isTy, vNotInK, vLenK, sKset, vIxoo, dSuboo, eCompL, eDict1, datR, vEqD, vNeD, vCatT, vCatL, iSeq, iTupW, iRg1, iRg2, sFor, noL, noL1, lend, scalD, R.held, R.fresh, List.map_cons, List.map_nil, List.length_cons, List.length_nil, List.cons_append, List.nil_append, List.getElem?_cons_zero, List.getElem?_cons_succ, List.set_cons_zero, List.set_cons_succ, List.replicate_succ, List.replicate_zero, Nat.zero_add, Nat.reduceAdd, Nat.reduceSub, Nat.reduceLT, Option.join_some, Option.join_none, Option.bind_some, Option.map_some, List.all_cons, List.all_nil, Bool.and_true, Bool.true_and, Bool.not_true, Bool.not_false, and_true, true_and, if_true, if_false, Bool.false_eq_true, decide_true, decide_false, reduceIte]
              exact hnx _ _ ⟨some h, _, _, rfl, hsub', hdue _ (.here run), rfl⟩
            | some row =>
              have h0 : decide ((row.length : Int) = 0) = false := decide_eq_false (by
                have := List.length_pos_iff.mpr (run_parts run).ne
                omega)
              simp only [sSeq, sNil, sAsg, sRet, sIf, sSet, sExpr, sFrz, sMove, sApp, sExt, sPar, eOp, eUn, eVar, eC, eIf, eAnd, eOr, eChain, tVal, uAnd, uOr, uNot, uTrue, eTup, eLst, eBi, eSl, partR, eIsi, eCall, eCallL, aCons, aNil, allD, dTup, dCons, dName, dNil, dSub, rho0, endD, lft, frz, stor, storAll, setAll, rtD, vIx, seqR, vII, vIC, vAdd, vSub, vMul, vFdiv, vMod, vPow, vLt, vLe, vGt, vGe, vEqS, vNeS, vIsN, vNotN, vNot, vNeg, isNo, vMin2, vMax2, vAbs, vInt1, vLen, vTuple, vList, vSum, isTy, vNotInK, vLenK, sKset, vIxoo, dSuboo, eCompL, eDict1, datR, vEqD, vNeD, vCatT, vCatL, iSeq, iTupW, iRg1, iRg2, sFor, noL, noL1, lend, scalD, R.held, R.fresh, List.map_cons, List.map_nil, List.length_cons, List.length_nil, List.cons_append, List.nil_append, List.getElem?_cons_zero, List.getElem?_cons_succ, List.set_cons_zero, List.set_cons_succ, List.replicate_succ, List.replicate_zero, Nat.zero_add, Nat.reduceAdd, Nat.reduceSub, Nat.reduceLT, Option.join_some, Option.join_none, Option.bind_some, Option.map_some, List.all_cons, List.all_nil, Bool.and_true, Bool.true_and, Bool.not_true, Bool.not_false, and_true, true_and, if_true, if_false, Bool.false_eq_true, decide_true, decide_false, reduceIte, h0]
              exact hnx _ _ ⟨none, _, _, rfl, hsub', fun r hr => hdue r (.next run hr), rfl⟩
      · rintro ρ b' ⟨due, z4, z5, rfl, hsub, hdue, rfl⟩
        have hmelt : Melt c t 300 (ordH most) due := by
          cases due with
          | none => exact hdue none .nil
          | some h => exact hdue
        simp only [sSeq, sNil, sAsg, sRet, sIf, sSet, sExpr, sFrz, sMove, sApp, sExt, sPar, eOp, eUn, eVar, eC, eIf, eAnd, eOr, eChain, tVal, uAnd, uOr, uNot, uTrue, eTup, eLst, eBi, eSl, partR, eIsi, eCall, eCallL, aCons, aNil, allD, dTup, dCons, dName, dNil, dSub, rho0, endD, lft, frz, stor, storAll, setAll, rtD, vIx, seqR, vII, vIC, vAdd, vSub, vMul, vFdiv, vMod, vPow, vLt, vLe, vGt, vGe, vEqS, vNeS, vIsN, vNotN, vNot, vNeg, isNo, vMin2, vMax2, vAbs, vInt1, vLen, vTuple, vList, vSum, isTy, vNotInK, vLenK, sKset, vIxoo, dSuboo, eCompL, eDict1, datR, vEqD, vNeD, vCatT, vCatL, iSeq, iTupW, iRg1, iRg2, sFor, noL, noL1, lend, scalD, R.held, R.fresh, List.map_cons, List.map_nil, List.length_cons, List.length_nil, List.cons_append, List.nil_append, List.getElem?_cons_zero, List.getElem?_cons_succ, List.set_cons_zero, List.set_cons_succ, List.replicate_succ, List.replicate_zero, Nat.zero_add, Nat.reduceAdd, Nat.reduceSub, Nat.reduceLT, Option.join_some, Option.join_none, Option.bind_some, Option.map_some, List.all_cons, List.all_nil, Bool.and_true, Bool.true_and, Bool.not_true, Bool.not_false, and_true, true_and, if_true, if_false, Bool.false_eq_true, decide_true, decide_false, reduceIte]
        refine ⟨c, t, most, due, o1, o2, hm, hmelt.le (by decide), rfl, ?_⟩
        refine ⟨c, t, most, due, o1, o2, hm, hmelt.le (by decide), rfl, ?_⟩
        refine ⟨.list [encH due, encH due], repr_house due fun x hx => ordH_sub most hm x (melt_mem hmelt x hx), rfl, ?_⟩
        simp only [sSeq, sNil, sAsg, sRet, sIf, sSet, sExpr, sFrz, sMove, sApp, sExt, sPar, eOp, eUn, eVar, eC, eIf, eAnd, eOr, eChain, tVal, uAnd, uOr, uNot, uTrue, eTup, eLst, eBi, eSl, partR, eIsi, eCall, eCallL, aCons, aNil, allD, dTup, dCons, dName, dNil, dSub, rho0, endD, lft, frz, stor, storAll, setAll, rtD, vIx, seqR, vII, vIC, vAdd, vSub, vMul, vFdiv, vMod, vPow, vLt, vLe, vGt, vGe, vEqS, vNeS, vIsN, vNotN, vNot, vNeg, isNo, vMin2, vMax2, vAbs, vInt1, vLen, vTuple, vList, vSum, isTy, vNotInK, vLenK, sKset, vIxoo, dSuboo, eCompL, eDict1, datR, vEqD, vNeD, vCatT, vCatL, iSeq, iTupW, iRg1, iRg2, sFor, noL, noL1, lend, scalD, R.held, R.fresh, List.map_cons, List.map_nil, List.length_cons, List.length_nil, List.cons_append, List.nil_append, List.getElem?_cons_zero, List.getElem?_cons_succ, List.set_cons_zero, List.set_cons_succ, List.replicate_succ, List.replicate_zero, Nat.zero_add, Nat.reduceAdd, Nat.reduceSub, Nat.reduceLT, Option.join_some, Option.join_none, Option.bind_some, Option.map_some, List.all_cons, List.all_nil, Bool.and_true, Bool.true_and, Bool.not_true, Bool.not_false, and_true, true_and, if_true, if_false, Bool.false_eq_true, decide_true, decide_false, reduceIte]
        exact q
      · exact fun _ _ h => h)
def wideC : Chain := ⟨[⟨true, 24, 24, 4⟩], 0⟩
def wideT : Band := ⟨0, 6, none⟩
theorem wideC_ok : wideC.Ok := ⟨⟨Nat.le_refl _, by decide⟩, fun h hh => by
  have : h = ⟨true, 24, 24, 4⟩ := by simpa [wideC] using hh
  subst this
  exact ⟨by decide, by decide, by decide⟩, by decide⟩
theorem wideT_ok : wideT.Ok := ⟨by decide, by decide, fun t h => by cases h⟩
def pt_q_wide_right : FW := fun rs b Q => (∃ n, Run wideC wideC wideT 20000 n [pairBegin wideC wideC] [(pairBegin wideC wideC, [])] none) ∧ rs = [] ∧ Q (.bool true) b
theorem mono_q_wide_right : FMono pt_q_wide_right := fun rs b Q Q' hh ⟨h, e, q⟩ => ⟨h, e, hh _ _ q⟩
abbrev s_q_wide_right : Stmt := topS 64
theorem sc_q_wide_right : FnScope ["_law_wide"] [] (defScope s_q_wide_right) := ⟨rfl, rfl, rfl, by decide +kernel, rfl, by decide +kernel, by decide +kernel⟩
theorem ok_q_wide_right {f : Addr} {fd : FuncData} (F : Fun K "_law_wide_right" "_law_wide_right" s_q_wide_right f fd) (hm : mg "_law_wide_right" = some (.ref f)) (hb : Binds K fd [] []) (nb : Nb mg) (kc : Kc mg) (C_p_are_alike : Can P w K mg base 6 "are_alike" ["one", "other", "band"] pt_p_are_alike) :
    Can P w K mg base 7 "_law_wide_right" [] pt_q_wide_right := by
  exact fn_data F sc_q_wide_right hm hb mono_q_wide_right (fun md G cdv A outer s H E hr =>
    (pdb_cons (pds_set (i := 0) sc_q_wide_right.nd rfl (by first | exact .inl rfl | exact .inr rfl) (pd_tup (pda_cons (pd_tup (pda_cons (pd_tup (pda_cons (pd_tup (pda_cons pd_str (pda_cons pd_int (pda_cons pd_int pda_nil)))) (pda_cons pd_int pda_nil))) pda_nil)) (pda_cons pd_int pda_nil))))
      (pdb_one (pds_try (pdb_one (pds_ret (pd_isB (pd_call C_p_are_alike (hr.mono (by decide)) (by rfl) (pda_cons (pv_ 0) (pda_cons (pv_ 0) (pda_cons (pd_tup (pda_cons pd_int (pda_cons pd_int (pda_cons pd_non pda_nil)))) pda_nil)))) pd_bl)))))))
    (by
      rintro rs b Q hl ⟨⟨n, run⟩, rfl, q⟩
      simp only [sSeq, sNil, sAsg, sRet, sIf, sSet, sExpr, sFrz, sMove, sApp, sExt, sPar, eOp, eUn, eVar, eC, eIf, eAnd, eOr, eChain, tVal, uAnd, uOr, uNot, uTrue, eTup, eLst, eBi, eSl, partR, eIsi, eCall, eCallL, aCons, aNil, allD, dTup, dCons, dName, dNil, dSub, rho0, endD, lft, frz, stor, storAll, setAll, rtD, vIx, seqR, vII, vIC, vAdd, vSub, vMul, vFdiv, vMod, vPow, vLt, vLe, vGt, vGe, vEqS, vNeS, vIsN, vNotN, vNot, vNeg, isNo, vMin2, vMax2, vAbs, vInt1, vLen, vTuple, vList, vSum, isTy, vNotInK, vLenK, sKset, vIxoo, dSuboo, eCompL, eDict1, datR, vEqD, vNeD, vCatT, vCatL, iSeq, iTupW, iRg1, iRg2, sFor, noL, noL1, lend, scalD, R.held, R.fresh, List.map_cons, List.map_nil, List.length_cons, List.length_nil, List.cons_append, List.nil_append, List.getElem?_cons_zero, List.getElem?_cons_succ, List.set_cons_zero, List.set_cons_succ, List.replicate_succ, List.replicate_zero, Nat.zero_add, Nat.reduceAdd, Nat.reduceSub, Nat.reduceLT, Option.join_some, Option.join_none, Option.bind_some, Option.map_some, List.all_cons, List.all_nil, Bool.and_true, Bool.true_and, Bool.not_true, Bool.not_false, and_true, true_and, if_true, if_false, Bool.false_eq_true, decide_true, decide_false, reduceIte]
      refine ⟨wideC, wideC, wideT, n, none, wideC_ok, wideC_ok, wideT_ok, run, rfl, ?_⟩
      simp only [sSeq, sNil, sAsg, sRet, sIf, sSet, sExpr, sFrz, sMove, sApp, sExt, sPar, eOp, eUn, eVar, eC, eIf, eAnd, eOr, eChain, tVal, uAnd, uOr, uNot, uTrue, eTup, eLst, eBi, eSl, partR, eIsi, eCall, eCallL, aCons, aNil, allD, dTup, dCons, dName, dNil, dSub, rho0, endD, lft, frz, stor, storAll, setAll, rtD, vIx, seqR, vII, vIC, vAdd, vSub, vMul, vFdiv, vMod, vPow, vLt, vLe, vGt, vGe, vEqS, vNeS, vIsN, vNotN, vNot, vNeg, isNo, vMin2, vMax2, vAbs, vInt1, vLen, vTuple, vList, vSum, isTy, vNotInK, vLenK, sKset, vIxoo, dSuboo, eCompL, eDict1, datR, vEqD, vNeD, vCatT, vCatL, iSeq, iTupW, iRg1, iRg2, sFor, noL, noL1, lend, scalD, R.held, R.fresh, List.map_cons, List.map_nil, List.length_cons, List.length_nil, List.cons_append, List.nil_append, List.getElem?_cons_zero, List.getElem?_cons_succ, List.set_cons_zero, List.set_cons_succ, List.replicate_succ, List.replicate_zero, Nat.zero_add, Nat.reduceAdd, Nat.reduceSub, Nat.reduceLT, Option.join_some, Option.join_none, Option.bind_some, Option.map_some, List.all_cons, List.all_nil, Bool.and_true, Bool.true_and, Bool.not_true, Bool.not_false, and_true, true_and, if_true, if_false, Bool.false_eq_true, decide_true, decide_false, reduceIte, vIsB]
      exact q)
end
end L2.U
/-! The law's defs: near. -/
namespace L2.U
open PySem PySem.Spec PyProof.Rows
section
variable {P : Program} {w : World} {K : PySem.W.Frag} {mg : Str → Option Value} {base : Heap}
theorem cut_to {l : List House} {i : Nat} (h : i < l.length) : cutD (l.map House.enc) none (some (i : Int)) = (l.map House.enc).take i := by
  have hl : (l.map House.enc).length = l.length := List.length_map _
  unfold cutD
  have e1 : HT.sIx (l.map House.enc).length 0 none = 0 := rfl
  have e2 : HT.sIx (l.map House.enc).length (l.map House.enc).length (some (i : Int)) = i := by
    rw [HT.sIx_nat, hl]
    omega
  rw [e1, e2]
  simp
theorem cut_from {l : List House} {i : Nat} (h : i < l.length) : cutD (l.map House.enc) (some ((i : Int) + 1)) none = (l.map House.enc).drop (i + 1) := by
  have hl : (l.map House.enc).length = l.length := List.length_map _
  unfold cutD
  have e1 : HT.sIx (l.map House.enc).length (l.map House.enc).length none = (l.map House.enc).length := rfl
  have e2 : HT.sIx (l.map House.enc).length 0 (some ((i : Int) + 1)) = i + 1 := by
    show HT.sIx (l.map House.enc).length 0 (some ((i + 1 : Nat) : Int)) = i + 1
    rw [HT.sIx_nat, hl]
    omega
  rw [e1, e2]
  rw [List.take_of_length_le]
  rw [List.length_drop]
  omega
def pt_q_near : FW := fun rs b Q => ∃ c : Chain, c.Sm ∧ b ≤ 600000 ∧ rs = [.m, .d c.enc] ∧ ∀ (d : Chain) b', d.Ok → b' ≤ b + 4 → Q d.enc b'
theorem mono_q_near : FMono pt_q_near := fun rs b Q Q' hh ⟨c, o, h, e, q⟩ => ⟨c, o, h, e, fun d b' a1 a2 => hh _ _ (q d b' a1 a2)⟩
abbrev s_q_near : Stmt := topS 58
theorem sc_q_near : FnScope ["_law_m", "_law_chain_here", "_law_some", "_law_wait", "_law_k", "_law_way", "_law_late", "_law_word", "_law_low", "_law_more"] ["_law_m", "_law_chain_here"] (defScope s_q_near) := ⟨rfl, rfl, rfl, by decide +kernel, rfl, by decide +kernel, by decide +kernel⟩
theorem ok_q_near {f : Addr} {fd : FuncData} (F : Fun K "_law_near" "_law_near" s_q_near f fd) (hm : mg "_law_near" = some (.ref f)) (hb : Binds K fd ["_law_m", "_law_chain_here"] []) (nb : Nb mg) (kc : Kc mg) (C_q_draw : Can P w K mg base 2 "_law_draw" ["_law_m", "_law_limit"] pt_q_draw) :
    Can P w K mg base 3 "_law_near" ["_law_m", "_law_chain_here"] pt_q_near := by
  exact fn_data F sc_q_near hm hb mono_q_near (fun md G cdv A outer s H E hr =>
    (pdb_cons (pds_asg (pv_ 1) (pdg_tup (n := 2) rfl (pdgs_cons (pdg_name (i := 2) sc_q_near.nd rfl (by first | exact .inl rfl | exact .inr rfl)) (pdgs_cons (pdg_name (i := 3) sc_q_near.nd rfl (by first | exact .inl rfl | exact .inr rfl)) pdgs_nil))))
      (pdb_cons (pds_par2X (pda_cons (pd_call C_q_draw (hr.mono (by decide)) (by rfl) (pda_cons (pv_ 0) (pda_cons (pd_len (by rfl) nb.len (pda_cons (pv_ 2) pda_nil)) pda_nil))) (pda_cons (pd_call C_q_draw (hr.mono (by decide)) (by rfl) (pda_cons (pv_ 0) (pda_cons pd_int pda_nil))) pda_nil)) (fun h => ps_par (i := 4) (j := 5) rfl sc_q_near.nd rfl rfl (by decide) rfl rfl h (by rfl)))
      (pdb_cons (pds_asg (pd_ix (pv_ 2) (pv_ 4)) (pdg_tup (n := 2) rfl (pdgs_cons (pdg_tup (n := 3) rfl (pdgs_cons (pdg_name (i := 7) sc_q_near.nd rfl (by first | exact .inl rfl | exact .inr rfl)) (pdgs_cons (pdg_name (i := 8) sc_q_near.nd rfl (by first | exact .inl rfl | exact .inr rfl)) (pdgs_cons (pdg_name (i := 9) sc_q_near.nd rfl (by first | exact .inl rfl | exact .inr rfl)) pdgs_nil)))) (pdgs_cons (pdg_name (i := 6) sc_q_near.nd rfl (by first | exact .inl rfl | exact .inr rfl)) pdgs_nil))))
      (pdb_cons (pds_if (pdt_lt (pv_ 5) pd_int) (pdb_one (pds_set (i := 8) sc_q_near.nd rfl (by first | exact .inl rfl | exact .inr rfl) (pd_if (pdt_w (pdw_or (pdt_eqS (pv_ 5) pd_int) (pdw_or1 (pdt_eqS (pv_ 8) pd_int)))) (pd_add (pv_ 8) pd_int) (pd_sub (pv_ 8) pd_int)))) pdb_nil)
      (pdb_cons (pds_if (pdt_eqS (pv_ 5) pd_int) (pdb_one (pds_set (i := 9) sc_q_near.nd rfl (by first | exact .inl rfl | exact .inr rfl) (pd_add (pv_ 9) pd_int))) pdb_nil)
      (pdb_cons (pds_if (pdt_eqS (pv_ 5) pd_int) (pdb_one (pds_set (i := 6) sc_q_near.nd rfl (by first | exact .inl rfl | exact .inr rfl) (pd_if (pdt_lt (pv_ 6) pd_int) (pd_sub pd_int (pv_ 6)) pd_int))) pdb_nil)
      (pdb_cons (pds_if (pdt_eqS (pv_ 5) pd_int) (pdb_one (pds_set (i := 3) sc_q_near.nd rfl (by first | exact .inl rfl | exact .inr rfl) (pd_ix (pd_lst (pda_cons pd_int (pda_cons pd_int (pda_cons pd_int (pda_cons pd_int pda_nil))))) (pd_call C_q_draw (hr.mono (by decide)) (by rfl) (pda_cons (pv_ 0) (pda_cons pd_int pda_nil)))))) pdb_nil)
      (pdb_cons (pds_if (pdt_eqS (pv_ 5) pd_int) (pdb_one (pds_asg (pd_if (pdt_eqS (pv_ 7) pd_str) (pd_tup (pda_cons pd_str (pda_cons (pd_add pd_int (pd_call C_q_draw (hr.mono (by decide)) (by rfl) (pda_cons (pv_ 0) (pda_cons pd_int pda_nil)))) pda_nil))) (pd_tup (pda_cons pd_str (pda_cons (pd_add (pv_ 8) (pd_call C_q_draw (hr.mono (by decide)) (by rfl) (pda_cons (pv_ 0) (pda_cons pd_int pda_nil)))) pda_nil)))) (pdg_tup (n := 2) rfl (pdgs_cons (pdg_name (i := 7) sc_q_near.nd rfl (by first | exact .inl rfl | exact .inr rfl)) (pdgs_cons (pdg_name (i := 9) sc_q_near.nd rfl (by first | exact .inl rfl | exact .inr rfl)) pdgs_nil))))) pdb_nil)
      (pdb_cons (pds_set (i := 9) sc_q_near.nd rfl (by first | exact .inl rfl | exact .inr rfl) (pd_if (pdt_eqS (pv_ 7) pd_str) (pd_max2 rfl (by rfl) nb.max (pda_cons (pv_ 9) (pda_cons (pv_ 8) pda_nil))) (pd_max2 rfl (by rfl) nb.max (pda_cons (pv_ 9) (pda_cons pd_int pda_nil)))))
      (pdb_one (pds_ret (pd_tup (pda_cons (pd_catT (pd_catT (pd_slT (pv_ 2) pdo_none (pdo_some (pv_ 4))) (pd_tup (pda_cons (pd_tup (pda_cons (pd_tup (pda_cons (pv_ 7) (pda_cons (pv_ 8) (pda_cons (pv_ 9) pda_nil)))) (pda_cons (pv_ 6) pda_nil))) pda_nil))) (pd_slT (pv_ 2) (pdo_some (pd_add (pv_ 4) pd_int)) pdo_none)) (pda_cons (pv_ 3) pda_nil)))))))))))))))
    (by
      rintro rs b Q hl ⟨c, sm, hb, rfl, q⟩
      unfold Chain.enc
      have hsm := sm.some
      have hwait := sm.wait
      refine step_gen (fun ρ1 b1 => b1 = b ∧ ρ1 = [some .m, some (.d (.tuple [.tuple (c.houses.map House.enc), .int c.wait])), some (.d (.tuple (c.houses.map House.enc))), some (.d (.int c.wait)), none, none, none, none, none, none]) (fun K hK => ?_) ?_
      · simp only [sSeq, sNil, sAsg, sRet, sIf, sSet, sExpr, sFrz, sMove, sApp, sExt, sPar, eOp, eUn, eVar, eC, eIf, eAnd, eOr, eChain, tVal, uAnd, uOr, uNot, uTrue, eTup, eLst, eBi, eSl, partR, eIsi, eCall, eCallL, aCons, aNil, allD, dTup, dCons, dName, dNil, dSub, rho0, endD, lft, frz, stor, storAll, setAll, rtD, vIx, seqR, vII, vIC, vAdd, vSub, vMul, vFdiv, vMod, vPow, vLt, vLe, vGt, vGe, vEqS, vNeS, vIsN, vNotN, vNot, vNeg, isNo, vMin2, vMax2, vAbs, vInt1, vLen, vTuple, vList, vSum, isTy, vNotInK, vLenK, sKset, vIxoo, dSuboo, eCompL, eDict1, datR, vEqD, vNeD, vCatT, vCatL, iSeq, iTupW, iRg1, iRg2, sFor, noL, noL1, lend, scalD, R.held, R.fresh, List.map_cons, List.map_nil, List.length_cons, List.length_nil, List.cons_append, List.nil_append, List.getElem?_cons_zero, List.getElem?_cons_succ, List.set_cons_zero, List.set_cons_succ, List.replicate_succ, List.replicate_zero, Nat.zero_add, Nat.reduceAdd, Nat.reduceSub, Nat.reduceLT, Option.join_some, Option.join_none, Option.bind_some, Option.map_some, List.all_cons, List.all_nil, Bool.and_true, Bool.true_and, Bool.not_true, Bool.not_false, and_true, true_and, if_true, if_false, Bool.false_eq_true, decide_true, decide_false, reduceIte]
        exact hK _ _ ⟨rfl, rfl⟩
      rintro ρ1 b1 ⟨rfl, rfl⟩
      refine step_gen (fun ρ1 b2 => ∃ (k way : Int), 0 ≤ k ∧ k < c.houses.length ∧ 0 ≤ way ∧ way < 7 ∧ b2 = b1 + 1 + 1 ∧ ρ1 = [some .m, some (.d (.tuple [.tuple (c.houses.map House.enc), .int c.wait])), some (.d (.tuple (c.houses.map House.enc))), some (.d (.int c.wait)), some (.d (.int k)), some (.d (.int way)), none, none, none, none]) (fun K hK => ?_) ?_
      · simp only [sSeq, sNil, sAsg, sRet, sIf, sSet, sExpr, sFrz, sMove, sApp, sExt, sPar, eOp, eUn, eVar, eC, eIf, eAnd, eOr, eChain, tVal, uAnd, uOr, uNot, uTrue, eTup, eLst, eBi, eSl, partR, eIsi, eCall, eCallL, aCons, aNil, allD, dTup, dCons, dName, dNil, dSub, rho0, endD, lft, frz, stor, storAll, setAll, rtD, vIx, seqR, vII, vIC, vAdd, vSub, vMul, vFdiv, vMod, vPow, vLt, vLe, vGt, vGe, vEqS, vNeS, vIsN, vNotN, vNot, vNeg, isNo, vMin2, vMax2, vAbs, vInt1, vLen, vTuple, vList, vSum, isTy, vNotInK, vLenK, sKset, vIxoo, dSuboo, eCompL, eDict1, datR, vEqD, vNeD, vCatT, vCatL, iSeq, iTupW, iRg1, iRg2, sFor, noL, noL1, lend, scalD, R.held, R.fresh, List.map_cons, List.map_nil, List.length_cons, List.length_nil, List.cons_append, List.nil_append, List.getElem?_cons_zero, List.getElem?_cons_succ, List.set_cons_zero, List.set_cons_succ, List.replicate_succ, List.replicate_zero, Nat.zero_add, Nat.reduceAdd, Nat.reduceSub, Nat.reduceLT, Option.join_some, Option.join_none, Option.bind_some, Option.map_some, List.all_cons, List.all_nil, Bool.and_true, Bool.true_and, Bool.not_true, Bool.not_false, and_true, true_and, if_true, if_false, Bool.false_eq_true, decide_true, decide_false, reduceIte, List.length_map]
        refine ⟨(c.houses.length : Int), by omega, by omega, by omega, rfl, fun k k1 k2 => ?_⟩
        simp only [sSeq, sNil, sAsg, sRet, sIf, sSet, sExpr, sFrz, sMove, sApp, sExt, sPar, eOp, eUn, eVar, eC, eIf, eAnd, eOr, eChain, tVal, uAnd, uOr, uNot, uTrue, eTup, eLst, eBi, eSl, partR, eIsi, eCall, eCallL, aCons, aNil, allD, dTup, dCons, dName, dNil, dSub, rho0, endD, lft, frz, stor, storAll, setAll, rtD, vIx, seqR, vII, vIC, vAdd, vSub, vMul, vFdiv, vMod, vPow, vLt, vLe, vGt, vGe, vEqS, vNeS, vIsN, vNotN, vNot, vNeg, isNo, vMin2, vMax2, vAbs, vInt1, vLen, vTuple, vList, vSum, isTy, vNotInK, vLenK, sKset, vIxoo, dSuboo, eCompL, eDict1, datR, vEqD, vNeD, vCatT, vCatL, iSeq, iTupW, iRg1, iRg2, sFor, noL, noL1, lend, scalD, R.held, R.fresh, List.map_cons, List.map_nil, List.length_cons, List.length_nil, List.cons_append, List.nil_append, List.getElem?_cons_zero, List.getElem?_cons_succ, List.set_cons_zero, List.set_cons_succ, List.replicate_succ, List.replicate_zero, Nat.zero_add, Nat.reduceAdd, Nat.reduceSub, Nat.reduceLT, Option.join_some, Option.join_none, Option.bind_some, Option.map_some, List.all_cons, List.all_nil, Bool.and_true, Bool.true_and, Bool.not_true, Bool.not_false, and_true, true_and, if_true, if_false, Bool.false_eq_true, decide_true, decide_false, reduceIte]
        refine ⟨7, by omega, by omega, by omega, rfl, fun way w1 w2 => ?_⟩
        simp only [sSeq, sNil, sAsg, sRet, sIf, sSet, sExpr, sFrz, sMove, sApp, sExt, sPar, eOp, eUn, eVar, eC, eIf, eAnd, eOr, eChain, tVal, uAnd, uOr, uNot, uTrue, eTup, eLst, eBi, eSl, partR, eIsi, eCall, eCallL, aCons, aNil, allD, dTup, dCons, dName, dNil, dSub, rho0, endD, lft, frz, stor, storAll, setAll, rtD, vIx, seqR, vII, vIC, vAdd, vSub, vMul, vFdiv, vMod, vPow, vLt, vLe, vGt, vGe, vEqS, vNeS, vIsN, vNotN, vNot, vNeg, isNo, vMin2, vMax2, vAbs, vInt1, vLen, vTuple, vList, vSum, isTy, vNotInK, vLenK, sKset, vIxoo, dSuboo, eCompL, eDict1, datR, vEqD, vNeD, vCatT, vCatL, iSeq, iTupW, iRg1, iRg2, sFor, noL, noL1, lend, scalD, R.held, R.fresh, List.map_cons, List.map_nil, List.length_cons, List.length_nil, List.cons_append, List.nil_append, List.getElem?_cons_zero, List.getElem?_cons_succ, List.set_cons_zero, List.set_cons_succ, List.replicate_succ, List.replicate_zero, Nat.zero_add, Nat.reduceAdd, Nat.reduceSub, Nat.reduceLT, Option.join_some, Option.join_none, Option.bind_some, Option.map_some, List.all_cons, List.all_nil, Bool.and_true, Bool.true_and, Bool.not_true, Bool.not_false, and_true, true_and, if_true, if_false, Bool.false_eq_true, decide_true, decide_false, reduceIte]
        exact hK _ _ ⟨k, way, k1, k2, w1, w2, rfl, rfl⟩
      rintro ρ1 b2 ⟨k, way, k1, k2, w1, w2, rfl, rfl⟩
      obtain ⟨i, rfl⟩ : ∃ i : Nat, k = i := ⟨k.toNat, (Int.toNat_of_nonneg k1).symm⟩
      have hi : i < c.houses.length := by omega
      have gi : c.houses[i]? = some c.houses[i] := List.getElem?_eq_getElem hi
      have hh := sm.each c.houses[i] (List.getElem_mem hi)
      generalize c.houses[i] = h at gi hh
      have hat : atI (c.houses.map House.enc) (i : Int) = some h.enc := atI_map House.enc gi
      have hlow := hh.ok.low
      have hlow8 := hh.low
      have hmore9 := hh.more
      have hlate := hh.ok.late
      have hmore0 : 0 ≤ h.more := by
        have := hh.ok.more
        split at this <;> omega
      refine step_gen (fun ρ1 b3 => b3 = b1 + 1 + 1 ∧ ρ1 = [some .m, some (.d (.tuple [.tuple (c.houses.map House.enc), .int c.wait])), some (.d (.tuple (c.houses.map House.enc))), some (.d (.int c.wait)), some (.d (.int (i : Int))), some (.d (.int way)), some (.d (.int h.late)), some (.d (.str (wordOf h.fill))), some (.d (.int h.low)), some (.d (.int h.more))]) (fun K hK => ?_) ?_
      · simp only [sSeq, sNil, sAsg, sRet, sIf, sSet, sExpr, sFrz, sMove, sApp, sExt, sPar, eOp, eUn, eVar, eC, eIf, eAnd, eOr, eChain, tVal, uAnd, uOr, uNot, uTrue, eTup, eLst, eBi, eSl, partR, eIsi, eCall, eCallL, aCons, aNil, allD, dTup, dCons, dName, dNil, dSub, rho0, endD, lft, frz, stor, storAll, setAll, rtD, vIx, seqR, vII, vIC, vAdd, vSub, vMul, vFdiv, vMod, vPow, vLt, vLe, vGt, vGe, vEqS, vNeS, vIsN, vNotN, vNot, vNeg, isNo, vMin2, vMax2, vAbs, vInt1, vLen, vTuple, vList, vSum, isTy, vNotInK, vLenK, sKset, vIxoo, dSuboo, eCompL, eDict1, datR, vEqD, vNeD, vCatT, vCatL, iSeq, iTupW, iRg1, iRg2, sFor, noL, noL1, lend, scalD, R.held, R.fresh, List.map_cons, List.map_nil, List.length_cons, List.length_nil, List.cons_append, List.nil_append, List.getElem?_cons_zero, List.getElem?_cons_succ, List.set_cons_zero, List.set_cons_succ, List.replicate_succ, List.replicate_zero, Nat.zero_add, Nat.reduceAdd, Nat.reduceSub, Nat.reduceLT, Option.join_some, Option.join_none, Option.bind_some, Option.map_some, List.all_cons, List.all_nil, Bool.and_true, Bool.true_and, Bool.not_true, Bool.not_false, and_true, true_and, if_true, if_false, Bool.false_eq_true, decide_true, decide_false, reduceIte, hat, House.enc, House.rule]
        exact hK _ _ ⟨rfl, rfl⟩
      rintro ρ1 b3 ⟨rfl, rfl⟩
      refine step_gen (fun ρ1 b3 => ∃ low : Int, 0 ≤ low ∧ low ≤ 9 ∧ b3 = b1 + 1 + 1 ∧ ρ1 = [some .m, some (.d (.tuple [.tuple (c.houses.map House.enc), .int c.wait])), some (.d (.tuple (c.houses.map House.enc))), some (.d (.int c.wait)), some (.d (.int (i : Int))), some (.d (.int way)), some (.d (.int h.late)), some (.d (.str (wordOf h.fill))), some (.d (.int low)), some (.d (.int h.more))]) (fun K hK => ?_) ?_
      · simp only [sSeq, sNil, sAsg, sRet, sIf, sSet, sExpr, sFrz, sMove, sApp, sExt, sPar, eOp, eUn, eVar, eC, eIf, eAnd, eOr, eChain, tVal, uAnd, uOr, uNot, uTrue, eTup, eLst, eBi, eSl, partR, eIsi, eCall, eCallL, aCons, aNil, allD, dTup, dCons, dName, dNil, dSub, rho0, endD, lft, frz, stor, storAll, setAll, rtD, vIx, seqR, vII, vIC, vAdd, vSub, vMul, vFdiv, vMod, vPow, vLt, vLe, vGt, vGe, vEqS, vNeS, vIsN, vNotN, vNot, vNeg, isNo, vMin2, vMax2, vAbs, vInt1, vLen, vTuple, vList, vSum, isTy, vNotInK, vLenK, sKset, vIxoo, dSuboo, eCompL, eDict1, datR, vEqD, vNeD, vCatT, vCatL, iSeq, iTupW, iRg1, iRg2, sFor, noL, noL1, lend, scalD, R.held, R.fresh, List.map_cons, List.map_nil, List.length_cons, List.length_nil, List.cons_append, List.nil_append, List.getElem?_cons_zero, List.getElem?_cons_succ, List.set_cons_zero, List.set_cons_succ, List.replicate_succ, List.replicate_zero, Nat.zero_add, Nat.reduceAdd, Nat.reduceSub, Nat.reduceLT, Option.join_some, Option.join_none, Option.bind_some, Option.map_some, List.all_cons, List.all_nil, Bool.and_true, Bool.true_and, Bool.not_true, Bool.not_false, and_true, true_and, if_true, if_false, Bool.false_eq_true, decide_true, decide_false, reduceIte]
        by_cases a1 : way < 2
        · by_cases a2 : way = 0
          · simp only [a1, a2, decide_true, if_true]
            exact hK _ _ ⟨h.low + 1, by omega, by omega, rfl, by rw [a2]⟩
          · by_cases a3 : h.low = 0
            · simp only [a1, a2, a3, decide_true, decide_false, if_true, if_false, Bool.false_eq_true]
              exact hK _ _ ⟨0 + 1, by omega, by omega, rfl, rfl⟩
            · simp only [a1, a2, a3, decide_true, decide_false, if_true, if_false, Bool.false_eq_true]
              exact hK _ _ ⟨h.low - 1, by omega, by omega, rfl, rfl⟩
        · simp only [a1, decide_false, if_false, Bool.false_eq_true]
          exact hK _ _ ⟨h.low, by omega, by omega, rfl, rfl⟩
      rintro ρ1 b3 ⟨low, l1, l2, rfl, rfl⟩
      refine step_gen (fun ρ1 b3 => ∃ more : Int, 0 ≤ more ∧ more ≤ 10 ∧ b3 = b1 + 1 + 1 ∧ ρ1 = [some .m, some (.d (.tuple [.tuple (c.houses.map House.enc), .int c.wait])), some (.d (.tuple (c.houses.map House.enc))), some (.d (.int c.wait)), some (.d (.int (i : Int))), some (.d (.int way)), some (.d (.int h.late)), some (.d (.str (wordOf h.fill))), some (.d (.int low)), some (.d (.int more))]) (fun K hK => ?_) ?_
      · simp only [sSeq, sNil, sAsg, sRet, sIf, sSet, sExpr, sFrz, sMove, sApp, sExt, sPar, eOp, eUn, eVar, eC, eIf, eAnd, eOr, eChain, tVal, uAnd, uOr, uNot, uTrue, eTup, eLst, eBi, eSl, partR, eIsi, eCall, eCallL, aCons, aNil, allD, dTup, dCons, dName, dNil, dSub, rho0, endD, lft, frz, stor, storAll, setAll, rtD, vIx, seqR, vII, vIC, vAdd, vSub, vMul, vFdiv, vMod, vPow, vLt, vLe, vGt, vGe, vEqS, vNeS, vIsN, vNotN, vNot, vNeg, isNo, vMin2, vMax2, vAbs, vInt1, vLen, vTuple, vList, vSum, isTy, vNotInK, vLenK, sKset, vIxoo, dSuboo, eCompL, eDict1, datR, vEqD, vNeD, vCatT, vCatL, iSeq, iTupW, iRg1, iRg2, sFor, noL, noL1, lend, scalD, R.held, R.fresh, List.map_cons, List.map_nil, List.length_cons, List.length_nil, List.cons_append, List.nil_append, List.getElem?_cons_zero, List.getElem?_cons_succ, List.set_cons_zero, List.set_cons_succ, List.replicate_succ, List.replicate_zero, Nat.zero_add, Nat.reduceAdd, Nat.reduceSub, Nat.reduceLT, Option.join_some, Option.join_none, Option.bind_some, Option.map_some, List.all_cons, List.all_nil, Bool.and_true, Bool.true_and, Bool.not_true, Bool.not_false, and_true, true_and, if_true, if_false, Bool.false_eq_true, decide_true, decide_false, reduceIte]
        by_cases a1 : way = 2
        · simp only [a1, decide_true, if_true]
          exact hK _ _ ⟨h.more + 1, by omega, by omega, rfl, by rw [a1]⟩
        · simp only [a1, decide_false, if_false, Bool.false_eq_true]
          exact hK _ _ ⟨h.more, by omega, by omega, rfl, rfl⟩
      rintro ρ1 b3 ⟨more, m1, m2, rfl, rfl⟩
      refine step_gen (fun ρ1 b3 => ∃ late : Nat, 1 ≤ late ∧ late ≤ 4 ∧ b3 = b1 + 1 + 1 ∧ ρ1 = [some .m, some (.d (.tuple [.tuple (c.houses.map House.enc), .int c.wait])), some (.d (.tuple (c.houses.map House.enc))), some (.d (.int c.wait)), some (.d (.int (i : Int))), some (.d (.int way)), some (.d (.int (late : Int))), some (.d (.str (wordOf h.fill))), some (.d (.int low)), some (.d (.int more))]) (fun K hK => ?_) ?_
      · simp only [sSeq, sNil, sAsg, sRet, sIf, sSet, sExpr, sFrz, sMove, sApp, sExt, sPar, eOp, eUn, eVar, eC, eIf, eAnd, eOr, eChain, tVal, uAnd, uOr, uNot, uTrue, eTup, eLst, eBi, eSl, partR, eIsi, eCall, eCallL, aCons, aNil, allD, dTup, dCons, dName, dNil, dSub, rho0, endD, lft, frz, stor, storAll, setAll, rtD, vIx, seqR, vII, vIC, vAdd, vSub, vMul, vFdiv, vMod, vPow, vLt, vLe, vGt, vGe, vEqS, vNeS, vIsN, vNotN, vNot, vNeg, isNo, vMin2, vMax2, vAbs, vInt1, vLen, vTuple, vList, vSum, isTy, vNotInK, vLenK, sKset, vIxoo, dSuboo, eCompL, eDict1, datR, vEqD, vNeD, vCatT, vCatL, iSeq, iTupW, iRg1, iRg2, sFor, noL, noL1, lend, scalD, R.held, R.fresh, List.map_cons, List.map_nil, List.length_cons, List.length_nil, List.cons_append, List.nil_append, List.getElem?_cons_zero, List.getElem?_cons_succ, List.set_cons_zero, List.set_cons_succ, List.replicate_succ, List.replicate_zero, Nat.zero_add, Nat.reduceAdd, Nat.reduceSub, Nat.reduceLT, Option.join_some, Option.join_none, Option.bind_some, Option.map_some, List.all_cons, List.all_nil, Bool.and_true, Bool.true_and, Bool.not_true, Bool.not_false, and_true, true_and, if_true, if_false, Bool.false_eq_true, decide_true, decide_false, reduceIte]
        by_cases a1 : way = 3
        · by_cases a2 : (h.late : Int) < 3
          · simp only [a1, a2, decide_true, if_true]
            exact hK _ _ ⟨3 - h.late, by omega, by omega, rfl, by rw [a1, show ((3 - h.late : Nat) : Int) = 3 - (h.late : Int) by omega]⟩
          · simp only [a1, a2, decide_true, decide_false, if_true, if_false, Bool.false_eq_true]
            exact hK _ _ ⟨2, by omega, by omega, rfl, by rw [a1]; rfl⟩
        · simp only [a1, decide_false, if_false, Bool.false_eq_true]
          exact hK _ _ ⟨h.late, hlate.1, hlate.2, rfl, rfl⟩
      rintro ρ1 b3 ⟨late, t1, t2, rfl, rfl⟩
      refine step_gen (fun ρ1 b3 => ∃ wait : Int, 0 ≤ wait ∧ wait ≤ 9 ∧ b3 ≤ b1 + 3 ∧ ρ1 = [some .m, some (.d (.tuple [.tuple (c.houses.map House.enc), .int c.wait])), some (.d (.tuple (c.houses.map House.enc))), some (.d (.int wait)), some (.d (.int (i : Int))), some (.d (.int way)), some (.d (.int (late : Int))), some (.d (.str (wordOf h.fill))), some (.d (.int low)), some (.d (.int more))]) (fun K hK => ?_) ?_
      · simp only [sSeq, sNil, sAsg, sRet, sIf, sSet, sExpr, sFrz, sMove, sApp, sExt, sPar, eOp, eUn, eVar, eC, eIf, eAnd, eOr, eChain, tVal, uAnd, uOr, uNot, uTrue, eTup, eLst, eBi, eSl, partR, eIsi, eCall, eCallL, aCons, aNil, allD, dTup, dCons, dName, dNil, dSub, rho0, endD, lft, frz, storAll, setAll, rtD, vIx_t, vIx_l, vIx_o, vLen_t, vLen_l, vLen_o, vTuple_o, stor_d, stor_o, vII, vIC, vAdd, vSub, vMul, vFdiv, vMod, vPow, vLt, vLe, vGt, vGe, vEqS, vNeS, vIsN, vNotN, vNot, vNeg, isNo, vMin2, vMax2, vAbs, vInt1, vList, vSum, isTy, vNotInK, vLenK, sKset, vIxoo, dSuboo, eCompL, eDict1, datR, vEqD, vNeD, vCatT, vCatL, iSeq, iTupW, iRg1, iRg2, sFor, noL, noL1, lend, scalD, R.held, R.fresh, List.map_cons, List.map_nil, List.length_cons, List.length_nil, List.cons_append, List.nil_append, List.getElem?_cons_zero, List.getElem?_cons_succ, List.set_cons_zero, List.set_cons_succ, List.replicate_succ, List.replicate_zero, Nat.zero_add, Nat.reduceAdd, Nat.reduceSub, Nat.reduceLT, Option.join_some, Option.join_none, Option.bind_some, Option.map_some, List.all_cons, List.all_nil, Bool.and_true, Bool.true_and, Bool.not_true, Bool.not_false, and_true, true_and, if_true, if_false, Bool.false_eq_true, decide_true, decide_false, reduceIte]
        by_cases a1 : way = 4
        · simp only [a1, decide_true, if_true]
          refine ⟨4, by omega, by omega, by omega, rfl, fun r r1 r2 => ?_⟩
          obtain ⟨z, z1, z2, ez⟩ := wait_ix r1 r2
          simp only [vIx_o, ez, Option.map_some, stor_d]
          exact hK _ _ ⟨z, z1, z2, by omega, by rw [a1]⟩
        · simp only [a1, decide_false, if_false, Bool.false_eq_true]
          exact hK _ _ ⟨c.wait, hwait.1, hwait.2, by omega, rfl⟩
      rintro ρ1 b3 ⟨wait, wt1, wt2, hb3, rfl⟩
      refine step_gen (fun ρ1 b4 => ∃ (f : Bool) (more : Int), 0 ≤ more ∧ more ≤ 12 ∧ (f = false → more ≤ 10) ∧ b4 ≤ b1 + 4 ∧ ρ1 = [some .m, some (.d (.tuple [.tuple (c.houses.map House.enc), .int c.wait])), some (.d (.tuple (c.houses.map House.enc))), some (.d (.int wait)), some (.d (.int (i : Int))), some (.d (.int way)), some (.d (.int (late : Int))), some (.d (.str (wordOf f))), some (.d (.int low)), some (.d (.int more))]) (fun K hK => ?_) ?_
      · simp only [sSeq, sNil, sAsg, sRet, sIf, sSet, sExpr, sFrz, sMove, sApp, sExt, sPar, eOp, eUn, eVar, eC, eIf, eAnd, eOr, eChain, tVal, uAnd, uOr, uNot, uTrue, eTup, eLst, eBi, eSl, partR, eIsi, eCall, eCallL, aCons, aNil, allD, dTup, dCons, dName, dNil, dSub, rho0, endD, lft, frz, stor, storAll, setAll, rtD, vIx, seqR, vII, vIC, vAdd, vSub, vMul, vFdiv, vMod, vPow, vLt, vLe, vGt, vGe, vEqS, vNeS, vIsN, vNotN, vNot, vNeg, isNo, vMin2, vMax2, vAbs, vInt1, vLen, vTuple, vList, vSum, isTy, vNotInK, vLenK, sKset, vIxoo, dSuboo, eCompL, eDict1, datR, vEqD, vNeD, vCatT, vCatL, iSeq, iTupW, iRg1, iRg2, sFor, noL, noL1, lend, scalD, R.held, R.fresh, List.map_cons, List.map_nil, List.length_cons, List.length_nil, List.cons_append, List.nil_append, List.getElem?_cons_zero, List.getElem?_cons_succ, List.set_cons_zero, List.set_cons_succ, List.replicate_succ, List.replicate_zero, Nat.zero_add, Nat.reduceAdd, Nat.reduceSub, Nat.reduceLT, Option.join_some, Option.join_none, Option.bind_some, Option.map_some, List.all_cons, List.all_nil, Bool.and_true, Bool.true_and, Bool.not_true, Bool.not_false, and_true, true_and, if_true, if_false, Bool.false_eq_true, decide_true, decide_false, reduceIte, word_fill]
        by_cases a1 : way = 5
        · simp only [a1, decide_true, if_true]
          cases hf : h.fill with
          | true =>
            simp only [if_true]
            refine ⟨2, by omega, by omega, by omega, rfl, fun r r1 r2 => ?_⟩
            simp only [sSeq, sNil, sAsg, sRet, sIf, sSet, sExpr, sFrz, sMove, sApp, sExt, sPar, eOp, eUn, eVar, eC, eIf, eAnd, eOr, eChain, tVal, uAnd, uOr, uNot, uTrue, eTup, eLst, eBi, eSl, partR, eIsi, eCall, eCallL, aCons, aNil, allD, dTup, dCons, dName, dNil, dSub, rho0, endD, lft, frz, stor, storAll, setAll, rtD, vIx, seqR, vII, vIC, vAdd, vSub, vMul, vFdiv, vMod, vPow, vLt, vLe, vGt, vGe, vEqS, vNeS, vIsN, vNotN, vNot, vNeg, isNo, vMin2, vMax2, vAbs, vInt1, vLen, vTuple, vList, vSum, isTy, vNotInK, vLenK, sKset, vIxoo, dSuboo, eCompL, eDict1, datR, vEqD, vNeD, vCatT, vCatL, iSeq, iTupW, iRg1, iRg2, sFor, noL, noL1, lend, scalD, R.held, R.fresh, List.map_cons, List.map_nil, List.length_cons, List.length_nil, List.cons_append, List.nil_append, List.getElem?_cons_zero, List.getElem?_cons_succ, List.set_cons_zero, List.set_cons_succ, List.replicate_succ, List.replicate_zero, Nat.zero_add, Nat.reduceAdd, Nat.reduceSub, Nat.reduceLT, Option.join_some, Option.join_none, Option.bind_some, Option.map_some, List.all_cons, List.all_nil, Bool.and_true, Bool.true_and, Bool.not_true, Bool.not_false, and_true, true_and, if_true, if_false, Bool.false_eq_true, decide_true, decide_false, reduceIte]
            exact hK _ _ ⟨false, 1 + r, by omega, by omega, fun _ => by omega, by omega, by rw [a1]; rfl⟩
          | false =>
            simp only [if_false, Bool.false_eq_true]
            refine ⟨3, by omega, by omega, by omega, rfl, fun r r1 r2 => ?_⟩
            simp only [sSeq, sNil, sAsg, sRet, sIf, sSet, sExpr, sFrz, sMove, sApp, sExt, sPar, eOp, eUn, eVar, eC, eIf, eAnd, eOr, eChain, tVal, uAnd, uOr, uNot, uTrue, eTup, eLst, eBi, eSl, partR, eIsi, eCall, eCallL, aCons, aNil, allD, dTup, dCons, dName, dNil, dSub, rho0, endD, lft, frz, stor, storAll, setAll, rtD, vIx, seqR, vII, vIC, vAdd, vSub, vMul, vFdiv, vMod, vPow, vLt, vLe, vGt, vGe, vEqS, vNeS, vIsN, vNotN, vNot, vNeg, isNo, vMin2, vMax2, vAbs, vInt1, vLen, vTuple, vList, vSum, isTy, vNotInK, vLenK, sKset, vIxoo, dSuboo, eCompL, eDict1, datR, vEqD, vNeD, vCatT, vCatL, iSeq, iTupW, iRg1, iRg2, sFor, noL, noL1, lend, scalD, R.held, R.fresh, List.map_cons, List.map_nil, List.length_cons, List.length_nil, List.cons_append, List.nil_append, List.getElem?_cons_zero, List.getElem?_cons_succ, List.set_cons_zero, List.set_cons_succ, List.replicate_succ, List.replicate_zero, Nat.zero_add, Nat.reduceAdd, Nat.reduceSub, Nat.reduceLT, Option.join_some, Option.join_none, Option.bind_some, Option.map_some, List.all_cons, List.all_nil, Bool.and_true, Bool.true_and, Bool.not_true, Bool.not_false, and_true, true_and, if_true, if_false, Bool.false_eq_true, decide_true, decide_false, reduceIte]
            exact hK _ _ ⟨true, low + r, by omega, by omega, (fun z => Bool.noConfusion z), by omega, by rw [a1]; rfl⟩
        · simp only [a1, decide_false, if_false, Bool.false_eq_true]
          exact hK _ _ ⟨h.fill, more, by omega, by omega, fun _ => by omega, by omega, rfl⟩
      rintro ρ1 b4 ⟨f, mor, mo1, mo2, mo3, hb4, rfl⟩
      refine step_gen (fun ρ1 b5 => ∃ more2 : Int, (if f = true then low ≤ more2 ∧ more2 ≤ 30 else 1 ≤ more2 ∧ more2 ≤ 10) ∧ b5 = b4 ∧ ρ1 = [some .m, some (.d (.tuple [.tuple (c.houses.map House.enc), .int c.wait])), some (.d (.tuple (c.houses.map House.enc))), some (.d (.int wait)), some (.d (.int (i : Int))), some (.d (.int way)), some (.d (.int (late : Int))), some (.d (.str (wordOf f))), some (.d (.int low)), some (.d (.int more2))]) (fun K hK => ?_) ?_
      · simp only [sSeq, sNil, sAsg, sRet, sIf, sSet, sExpr, sFrz, sMove, sApp, sExt, sPar, eOp, eUn, eVar, eC, eIf, eAnd, eOr, eChain, tVal, uAnd, uOr, uNot, uTrue, eTup, eLst, eBi, eSl, partR, eIsi, eCall, eCallL, aCons, aNil, allD, dTup, dCons, dName, dNil, dSub, rho0, endD, lft, frz, stor, storAll, setAll, rtD, vIx, seqR, vII, vIC, vAdd, vSub, vMul, vFdiv, vMod, vPow, vLt, vLe, vGt, vGe, vEqS, vNeS, vIsN, vNotN, vNot, vNeg, isNo, vMin2, vMax2, vAbs, vInt1, vLen, vTuple, vList, vSum, isTy, vNotInK, vLenK, sKset, vIxoo, dSuboo, eCompL, eDict1, datR, vEqD, vNeD, vCatT, vCatL, iSeq, iTupW, iRg1, iRg2, sFor, noL, noL1, lend, scalD, R.held, R.fresh, List.map_cons, List.map_nil, List.length_cons, List.length_nil, List.cons_append, List.nil_append, List.getElem?_cons_zero, List.getElem?_cons_succ, List.set_cons_zero, List.set_cons_succ, List.replicate_succ, List.replicate_zero, Nat.zero_add, Nat.reduceAdd, Nat.reduceSub, Nat.reduceLT, Option.join_some, Option.join_none, Option.bind_some, Option.map_some, List.all_cons, List.all_nil, Bool.and_true, Bool.true_and, Bool.not_true, Bool.not_false, and_true, true_and, if_true, if_false, Bool.false_eq_true, decide_true, decide_false, reduceIte, word_fill]
        cases f with
        | true =>
          simp only [if_true]
          exact hK _ _ ⟨if low > mor then low else mor, by rw [if_pos rfl]; split <;> omega, rfl, rfl⟩
        | false =>
          have := mo3 rfl
          simp only [if_false, Bool.false_eq_true]
          exact hK _ _ ⟨if 1 > mor then 1 else mor, by rw [if_neg Bool.false_ne_true]; split <;> omega, rfl, rfl⟩
      rintro ρ1 b5 ⟨more2, hmo, rfl, rfl⟩
      have fin := q ⟨c.houses.set i ⟨f, low, more2, late⟩, wait⟩ b5 ⟨⟨by rw [List.length_set]; exact hsm.1, by rw [List.length_set]; omega⟩, fun x hx => by
        rcases List.mem_or_eq_of_mem_set hx with z | z
        · exact (sm.each x z).ok
        · rw [z]; exact ⟨⟨l1, (show low ≤ 30 by omega)⟩, hmo, t1, t2⟩, wt1, wt2⟩ hb4
      unfold Chain.enc at fin
      simp only at fin
      have ecut1 : cutD (c.houses.map House.enc) none (some (i : Int)) = (c.houses.take i).map House.enc := by rw [cut_to hi, List.map_take]
      have ecut2 : cutD (c.houses.map House.enc) (some ((i : Int) + 1)) none = (c.houses.drop (i + 1)).map House.enc := by rw [cut_from hi, List.map_drop]
      have hl1 : ((c.houses.take i).map House.enc).length + 1 ≤ 1000000 := by rw [List.length_map, List.length_take]; omega
      have hl2 : ∀ y, ((c.houses.take i).map House.enc ++ [y]).length + ((c.houses.drop (i + 1)).map House.enc).length ≤ 1000000 := fun y => by rw [List.length_append, List.length_map, List.length_map, List.length_singleton, List.length_take, List.length_drop]; omega
      have eset : (c.houses.set i ⟨f, low, more2, late⟩).map House.enc = (c.houses.take i).map House.enc ++ [House.enc ⟨f, low, more2, late⟩] ++ (c.houses.drop (i + 1)).map House.enc := by
        rw [List.set_eq_take_append_cons_drop, if_pos hi, List.map_append, List.map_cons, List.append_assoc]
        rfl
      rw [eset] at fin
      simp only [sSeq, sNil, sAsg, sRet, sIf, sSet, sExpr, sFrz, sMove, sApp, sExt, sPar, eOp, eUn, eVar, eC, eIf, eAnd, eOr, eChain, tVal, uAnd, uOr, uNot, uTrue, eTup, eLst, eBi, eSl, partR, eIsi, eCall, eCallL, aCons, aNil, allD, dTup, dCons, dName, dNil, dSub, rho0, endD, lft, frz, stor, storAll, setAll, rtD, vIx, seqR, vII, vIC, vAdd, vSub, vMul, vFdiv, vMod, vPow, vLt, vLe, vGt, vGe, vEqS, vNeS, vIsN, vNotN, vNot, vNeg, isNo, vMin2, vMax2, vAbs, vInt1, vLen, vTuple, vList, vSum, isTy, vNotInK, vLenK, sKset, vIxoo, dSuboo, eCompL, eDict1, datR, vEqD, vNeD, vCatT, vCatL, iSeq, iTupW, iRg1, iRg2, sFor, noL, noL1, lend, scalD, R.held, R.fresh, List.map_cons, List.map_nil, List.length_cons, List.length_nil, List.cons_append, List.nil_append, List.getElem?_cons_zero, List.getElem?_cons_succ, List.set_cons_zero, List.set_cons_succ, List.replicate_succ, List.replicate_zero, Nat.zero_add, Nat.reduceAdd, Nat.reduceSub, Nat.reduceLT, Option.join_some, Option.join_none, Option.bind_some, Option.map_some, List.all_cons, List.all_nil, Bool.and_true, Bool.true_and, Bool.not_true, Bool.not_false, and_true, true_and, if_true, if_false, Bool.false_eq_true, decide_true, decide_false, reduceIte, vSlT, ecut1, ecut2, hl1, hl2]
      exact fin)
end
end L2.U
/-! The dict of draws, by hand. -/
namespace L2.U
open PySem PySem.Spec PyProof.Rows
/-- one value, nothing changed -/
def Vt (te : TE) (σ : L2.St) (H : Hp) (v : V) : Prop := ∀ Q : VK, Q v H → te σ H Q
section
variable {σ : L2.St} {H : Hp} {ta tb : TE}
theorem vt_var {i : Nat} {v : V} (h : σ[i]? = some (some v)) : Vt (tVar i) σ H v := fun Q q => ⟨v, h, q⟩
theorem vt_c {v : V} : Vt (tC v) σ H v := fun Q q => q
theorem vt_op0 {g : Int → Int → V} {i j : Int} (ha : Vt ta σ H (.int i)) (hb : Vt tb σ H (.int j)) : Vt (tOp (rI0 g) ta tb) σ H (g i j) := fun Q q => ha _ (hb _ ⟨i, j, rfl, rfl, q⟩)
theorem vt_opC {C : Int → Int → Prop} {g : Int → Int → V} {i j : Int} (ha : Vt ta σ H (.int i)) (hb : Vt tb σ H (.int j)) (hc : C i j) : Vt (tOp (rI C g) ta tb) σ H (g i j) := fun Q q => ha _ (hb _ ⟨i, j, rfl, rfl, hc, q⟩)
theorem vt_add {i j : Int} (ha : Vt ta σ H (.int i)) (hb : Vt tb σ H (.int j)) : Vt (tOp (rI0 fun i j => .int (i + j)) ta tb) σ H (.int (i + j)) := vt_op0 ha hb
theorem vt_gt {i j : Int} (ha : Vt ta σ H (.int i)) (hb : Vt tb σ H (.int j)) : Vt (tOp (rI0 fun i j => .bl (decide (j < i))) ta tb) σ H (.bl (decide (j < i))) := vt_op0 ha hb
theorem vt_mod {i j : Int} (ha : Vt ta σ H (.int i)) (hb : Vt tb σ H (.int j)) (h : 0 < j) : Vt (tOp (rI (fun _ j => 0 < j) fun i j => .int (i % j)) ta tb) σ H (.int (i % j)) := vt_opC ha hb h
theorem vt_fdiv {i j : Int} (ha : Vt ta σ H (.int i)) (hb : Vt tb σ H (.int j)) (h : CDiv i j) : Vt (tOp (rI CDiv fun i j => .int (i / j)) ta tb) σ H (.int (i / j)) := vt_opC ha hb h
theorem vt_mul {i j : Int} (ha : Vt ta σ H (.int i)) (hb : Vt tb σ H (.int j)) (h : CMul i j) : Vt (tOp (rI CMul fun i j => .int (i * j)) ta tb) σ H (.int (i * j)) := vt_opC ha hb h
theorem vt_int1 {i : Int} (ha : Vt ta σ H (.int i)) : Vt (tCB (fun xs H Q => (∃ i, xs = [.int i] ∧ Q (.int i) H) ∨ ∃ k, xs = [.bl k] ∧ Q (.int (if k then 1 else 0)) H) (tCons ta tNil)) σ H (.int i) := fun Q q => ha _ (.inl ⟨i, rfl, q⟩)
theorem vt_len {K : PySem.W.Frag} {p : Addr} {ys : List V} (ha : Vt ta σ H (.ref p)) (hp : H p = some (.lst ys)) : Vt (tCB (fun xs H Q => ∃ p ys, xs = [.ref p] ∧ (SqL K H p ys ∨ SqT K H p ys) ∧ Q (.int ys.length) H) (tCons ta tNil)) σ H (.int ys.length) := fun Q q => ha _ ⟨p, ys, rfl, .inl (SqL.of hp), q⟩
theorem vt_ix {K : PySem.W.Frag} {p : Addr} {ys : List V} {i : Int} {v : V} (ha : Vt ta σ H (.ref p)) (hb : Vt tb σ H (.int i)) (hp : H p = some (.lst ys)) (e : atI ys i = some v) : Vt (tOp (rIxL K) ta tb) σ H v := fun Q q => ha _ (hb _ ⟨p, ys, i, v, rfl, rfl, SqL.of hp, e, q⟩)
theorem vt_get {a : Addr} {kvs : List (Key × V)} {k : Str} {v : V} (ha : Vt ta σ H (.ref a)) (hp : H a = some (.dK kvs)) (e : valV kvs (.inr k) = some v) : Vt (tDGet ta (tC (.str k))) σ H v := fun Q q => ha _ ⟨a, v, rfl, by rw [← e]; exact DGet.k (k := .inr k) hp, q⟩
end
/-- the dict of draws by its parts -/
abbrev mK (cl gl : Addr) (n : Int) : List (Key × V) := [(.inr "cells", .ref cl), (.inr "great", .ref gl), (.inr "spot", .int n)]
theorem mK_cells (cl gl : Addr) (n : Int) : valV (mK cl gl n) (.inr "cells") = some (.ref cl) := by
  simp [valV, List.find?_cons]
theorem ne_cg : ¬ (("cells" : Str) = "great") := by decide +kernel
theorem ne_cs : ¬ (("cells" : Str) = "spot") := by decide +kernel
theorem ne_gs : ¬ (("great" : Str) = "spot") := by decide +kernel
theorem mK_great (cl gl : Addr) (n : Int) : valV (mK cl gl n) (.inr "great") = some (.ref gl) := by
  simp [valV, List.find?_cons, ne_cg]
theorem mK_spot (cl gl : Addr) (n : Int) : valV (mK cl gl n) (.inr "spot") = some (.int n) := by
  simp [valV, List.find?_cons, ne_cs, ne_gs]
theorem mK_put (cl gl : Addr) (n m : Int) : putK (mK cl gl n) (.inr "spot") (.int m) = mK cl gl m := by
  simp [putK, ne_cs, ne_gs]
theorem go_m {K : PySem.W.Frag} {P : Program} {w : World} {a cl gl : Addr} {G H H' : Hp} (ok : Ct.Ok ⟨K, P, w, .m a cl gl, G, H⟩) (sub : Same G H) (keep : ∀ l o, l ≠ a → l ≠ cl → l ≠ gl → H l = some o → H' l = some o) (dom : ∀ l, H' l = none → H l = none) : Go ⟨K, P, w, .m a cl gl, G, H⟩ G H G H' := by
  refine ⟨fun l o n e => keep l o (fun z => n (.inl z)) (fun z => n (.inr (.inl z))) (fun z => n (.inr (.inr z))) e, dom, .refl _, fun l o e => ?_, fun _ _ => rfl⟩
  have g : ∀ b, Md.has (.m a cl gl) b → G b = none := fun b hb => (ok b hb).2
  refine keep l o (fun z => ?_) (fun z => ?_) (fun z => ?_) (sub _ _ e)
  · rw [z, g a (.inl rfl)] at e; cases e
  · rw [z, g cl (.inr (.inl rfl))] at e; cases e
  · rw [z, g gl (.inr (.inr rfl))] at e; cases e
end L2.U
/-! The law's draw, by hand. -/
namespace L2.U
open PySem PySem.Spec PyProof.Rows
section
variable {P : Program} {w : World} {K : PySem.W.Frag} {mg : Str → Option Value} {base : Heap}
abbrev s_q_draw : Stmt := topS 45
theorem sc_q_draw : FnScope ["_law_m", "_law_limit", "_law_n", "_law_lot", "_law_here", "_law_cell"] ["_law_m", "_law_limit"] (defScope s_q_draw) := ⟨rfl, rfl, rfl, by decide +kernel, rfl, by decide +kernel, by decide +kernel⟩
theorem units1 {k : Nat} {A : Around} (r : Room k A) : A.units + 1 < cLine := by have := r.units; omega
/-- one call of the mixing def, from a raw heap -/
theorem mixed_at {H : Hp} {Q : VK} {cell n : Int} (h1 : 0 ≤ cell) (h2 : cell < 2 ^ 60) (h3 : 0 ≤ n) (h4 : n < 2 ^ 30) (q : ∀ H' (r : Int), Same H H' → 0 ≤ r → r < 2 ^ 31 → Q (.int r) H') : spT P w K 2 pt_q_mixed [.int cell, .int n] H Q E0 := by
  refine ⟨rfl, .pure, fun _ => none, 0, [.d (.int cell), .d (.int n)], fun b o e => (nomatch e), fun l hl => hl.elim, trivial, .cons (fp := []) (rk_d (.int cell)) (.cons (fp := []) (rk_d (.int n)) .nil), rfl, cell, n, h1, h2, h3, h4, rfl, fun r r1 r2 G' H' v g _ kd => ?_⟩
  rw [dp_int kd]
  exact q H' r (fun b o e => g.keep b o (fun z => z.elim) e) r1 r2
theorem ok_q_draw {f : Addr} {fd : FuncData} (F : Fun K "_law_draw" "_law_draw" s_q_draw f fd) (hm : mg "_law_draw" = some (.ref f)) (hb : Binds K fd ["_law_m", "_law_limit"] []) (nb : Nb mg) (kc : Kc mg) (C_q_mixed : Can P w K mg base 1 "_law_mixed" ["_law_cell", "_law_n"] pt_q_mixed) :
    Can P w K mg base 2 "_law_draw" ["_law_m", "_law_limit"] pt_q_draw := by
  obtain ⟨⟨fm, fdm, mm, mk, mbd, Fm⟩, _⟩ := C_q_mixed
  refine ⟨⟨f, fd, hm, F.kp, hb, F.ok sc_q_draw (fun vs H Q E h => h.1) fun cdv A outer s H vs Q E hr h => ?_⟩, mono_q_draw⟩
  obtain ⟨hl, md, G, b, rs, sub, ok, inv, kk, hn, lim, l1, l2, hb6, rfl, q⟩ := h
  obtain ⟨v0, v1, fp0, fp1, rfl, k0, k1⟩ := rkL2 kk
  obtain ⟨_, a, cl, gl, emd, rfl⟩ := k0.is
  have e1 := dp_int k1.dat
  subst e1
  have emd' : md = .m a cl gl := emd
  subst emd'
  obtain ⟨ne, n, cells, great, hA, hC, hG, hlen, hcell, hglen, hgr, hnb⟩ := (inv : MInv a cl gl b H)
  have hA' : H a = some (.dK (mK cl gl n)) := hA
  have nac : a ≠ cl := fun z => by rw [z, hC] at hA; cases hA
  have nag : a ≠ gl := fun z => by rw [z, hG] at hA; cases hA
  refine ⟨_, pss_cons (ps_set (i := 2) sc_q_draw.nd rfl (by first | exact .inl rfl | exact .inr rfl) (pe_dget (units1 hr) (pv 0) pe_str (fun _ _ => rfl)))
    (pss_cons (ps_dput (units1 hr) (pv 0) pe_str (pe_op op_add (pv 2) pe_int) (by rfl))
    (pss_cons (ps_if (pt_cmpR (op_neD hr.units) (pe_dget (units1 hr) (pv 0) pe_str (fun _ _ => rfl)) (pe_lst pa_nil) (nomark _))
      (pss_cons (ps_set (i := 3) sc_q_draw.nd rfl (by first | exact .inl rfl | exact .inr rfl) (pe_dget (units1 hr) (pv 0) pe_str (fun _ _ => rfl)))
      (pss_cons (ps_set (i := 4) sc_q_draw.nd rfl (by first | exact .inl rfl | exact .inr rfl) (pe_op op_mod (pe_callTy call_int1 (by rfl) nb.int (by decide +kernel) (pa_cons (pv 2) pa_nil)) (pe_callB call_len_seq (by rfl) nb.len PySem.boot_len (pa_cons (pv 3) pa_nil))))
      (pss_cons (ps_set (i := 5) sc_q_draw.nd rfl (by first | exact .inl rfl | exact .inr rfl) (pe_ix ix_list (pv 3) (pv 4) (fun _ _ => rfl)))
      (pss_one (ps_if (pt_cmpR op_gt (pv 5) pe_int (nomark _))
        (pss_cons (ps_asg (pe_op op_fdiv (pv 5) (pv 1)) (pg_sub (pv 3) (pv 4) set_list))
        (pss_one (ps_ret (pe_op op_mod (pe_callTy call_int1 (by rfl) nb.int (by decide +kernel) (pa_cons (pv 5) pa_nil)) (pv 1)))))
        pss_nil)))))
      pss_nil)
    (pss_cons (ps_set (i := 3) sc_q_draw.nd rfl (by first | exact .inl rfl | exact .inr rfl) (pe_dget (units1 hr) (pv 0) pe_str (fun _ _ => rfl)))
    (pss_one (ps_ret (pe_op op_mod (pe_callTy call_int1 (by rfl) nb.int (by decide +kernel) (pa_cons
      (pe_call Fm (hr.mono (by decide)) (by rfl) mm mk mbd .nil pass0 (pa_cons
        (pe_call Fm (hr.mono (by decide)) (by rfl) mm mk mbd .nil pass0 (pa_cons
          (pe_op op_add (pe_ix ix_list (pv 3) (pe_op op_mod (pe_callTy call_int1 (by rfl) nb.int (by decide +kernel) (pa_cons (pv 2) pa_nil)) pe_int) (fun _ _ => rfl)) (pe_op op_mul pe_int (pe_op op_fdiv (pv 2) pe_int)))
          (pa_cons (pv 2) pa_nil)))
        (pa_cons (pe_op op_add (pv 2) pe_int) pa_nil))) pa_nil)) (pv 1))))))), ?_⟩
  have eP : putK (mK cl gl n) (.inr "spot") (.int ((n : Int) + 1)) = mK cl gl ((n : Int) + 1) := mK_put cl gl _ _
  -- what is left at the end
  have fin : ∀ (H' : Hp) (x : Int) (great' : List Int), (∀ l o, l ≠ a → l ≠ cl → l ≠ gl → H l = some o → H' l = some o) → (∀ l, H' l = none → H l = none) → H' a = some (.dK (mK cl gl ((n : Int) + 1))) → H' cl = some (.lst (cells.map V.int)) → H' gl = some (.lst (great'.map V.int)) → great'.length ≤ 63 → (∀ z ∈ great', 0 ≤ z) → Q (.int (x % lim)) H' := fun H' x great' k1 k2 k3 k4 k5 k6 k7 =>
    q (x % lim) (Int.emod_nonneg _ (by omega)) (Int.emod_lt_of_pos _ (by omega)) G H' (.int (x % lim)) (go_m ok sub k1 k2) ⟨ne, n + 1, cells, great', k3, k4, k5, hlen, hcell, k6, k7, by omega⟩ (.int _)
  refine (vt_get (vt_var rfl) hA' (mK_spot cl gl n) : Vt _ _ _ _) _ ?_
  refine (vt_add (vt_var rfl) vt_c : Vt _ _ _ (.int ((n : Int) + 1))) _ ?_
  refine ⟨_, rfl, ?_⟩
  refine ⟨a, _, rfl, DPut.k (k := .inr "spot") hA' (by show 3 < sizeLine; decide), ?_⟩
  rw [eP]
  have hA1 : upd H a (.dK (mK cl gl ((n : Int) + 1))) a = some (.dK (mK cl gl ((n : Int) + 1))) := upd_same
  refine (vt_get (vt_var rfl) hA1 (mK_great cl gl _) : Vt _ _ _ _) _ ?_
  refine ⟨Nat.zero_le _, fun p hp => ?_⟩
  have npa : a ≠ p := fun z => by rw [← z, hA1] at hp; cases hp
  have hp0 : H p = none := by rw [upd_ne npa.symm] at hp; exact hp
  have npc : cl ≠ p := fun z => by rw [← z, hC] at hp0; cases hp0
  have npg : gl ≠ p := fun z => by rw [← z, hG] at hp0; cases hp0
  have hA2 : upd (upd H a (.dK (mK cl gl ((n : Int) + 1)))) p (.lst []) a = some (.dK (mK cl gl ((n : Int) + 1))) := by rw [upd_ne npa]; exact hA1
  have hC2 : upd (upd H a (.dK (mK cl gl ((n : Int) + 1)))) p (.lst []) cl = some (.lst (cells.map V.int)) := by rw [upd_ne npc, upd_ne nac.symm]; exact hC
  have hG2 : upd (upd H a (.dK (mK cl gl ((n : Int) + 1)))) p (.lst []) gl = some (.lst (great.map V.int)) := by rw [upd_ne npg, upd_ne nag.symm]; exact hG
  have keep2 : ∀ l o, l ≠ a → l ≠ cl → l ≠ gl → H l = some o → upd (upd H a (.dK (mK cl gl ((n : Int) + 1)))) p (.lst []) l = some o := fun l o e1 e2 e3 e => by
    have : l ≠ p := fun z => by rw [z, hp0] at e; cases e
    rw [upd_ne this, upd_ne e1]; exact e
  have dom2 : ∀ l, upd (upd H a (.dK (mK cl gl ((n : Int) + 1)))) p (.lst []) l = none → H l = none := fun l e => by
    have e1 : l ≠ p := fun z => by rw [z, upd_same] at e; cases e
    have e2 : l ≠ a := fun z => by rw [z, hA2] at e; cases e
    rw [upd_ne e1, upd_ne e2] at e; exact e
  have sG : SeqAt.shaped (.list (great.map PyData.int)) = true := (sh_lst (n := 0) (sh_map fun i _ => sh_int i)).shaped (by decide)
  refine ⟨.list (great.map PyData.int), .list [], .lst (SqL.of hG2) (ints_dpAll great), .lst (SqL.of upd_same) .nil, sG, by decide, ⟨_, rfl, ?_⟩⟩
  rw [eqv_lnil]
  revert hA2 hC2 hG2 keep2 dom2
  generalize upd (upd H a (.dK (mK cl gl ((n : Int) + 1)))) p (.lst []) = H2
  intro hA2 hC2 hG2 keep2 dom2
  -- a cell
  obtain ⟨cc, eC, cc0, cc1⟩ : ∃ cc : Int, atI (cells.map V.int) ((n : Int) % 64) = some (.int cc) ∧ 0 ≤ cc ∧ cc < 2147483647 := by
    have hj : n % 64 < cells.length := by rw [hlen]; omega
    have ej : (n : Int) % 64 = ((n % 64 : Nat) : Int) := by omega
    refine ⟨cells[n % 64], ?_, hcell _ (List.getElem_mem hj)⟩
    rw [ej]
    exact atI_map V.int (List.getElem?_eq_getElem hj)
  have cdiv : CDiv (n : Int) 64 := ⟨by decide, by decide⟩
  have cmul : CMul 31 ((n : Int) / 64) := .inl ⟨by decide, by decide⟩
  cases great with
  | nil =>
    refine (?_ : if false = true then _ else _)
    rw [if_neg Bool.false_ne_true]
    refine (vt_get (vt_var rfl) hA2 (mK_cells cl gl _) : Vt _ _ _ _) _ ?_
    refine (vt_add (vt_ix (vt_var rfl) (vt_mod (vt_int1 (vt_var rfl)) vt_c (by decide)) hC2 eC) (vt_mul vt_c (vt_fdiv (vt_var rfl) vt_c cdiv) cmul) : Vt _ _ _ (.int (cc + 31 * ((n : Int) / 64)))) _ ?_
    refine ⟨_, rfl, ?_⟩
    refine mixed_at (by omega) (by omega) (by omega) (by omega) fun H3 r3 s3 a3 b3 => ?_
    refine (vt_add (vt_var rfl) vt_c : Vt _ _ _ (.int ((n : Int) + 7))) _ ?_
    refine mixed_at (by omega) (by omega) (by omega) (by omega) fun H4 r4 s4 a4 b4 => ?_
    refine .inl ⟨r4, rfl, ⟨_, rfl, ⟨r4, lim, rfl, rfl, by omega, ?_⟩⟩⟩
    have sHF : Same H2 H4 := s3.trans s4
    exact fin H4 r4 [] (fun l o e1 e2 e3 e => sHF _ _ (keep2 l o e1 e2 e3 e)) (fun l e => dom2 l (sHF.free e)) (sHF _ _ hA2) (sHF _ _ hC2) (sHF _ _ hG2) hglen hgr
  | cons g0 gs =>
    refine (?_ : if true = true then _ else _)
    rw [if_pos rfl]
    refine (vt_get (vt_var rfl) hA2 (mK_great cl gl _) : Vt _ _ _ _) _ ?_
    have hgl : 0 < (((g0 :: gs).map V.int).length : Int) := by rw [List.length_map, List.length_cons]; omega
    refine (vt_mod (vt_int1 (vt_var rfl)) (vt_len (vt_var rfl) hG2) hgl : Vt _ _ _ (.int ((n : Int) % (((g0 :: gs).map V.int).length : Int)))) _ ?_
    obtain ⟨j, ej, hj⟩ : ∃ j : Nat, (n : Int) % (((g0 :: gs).map V.int).length : Int) = j ∧ j < (g0 :: gs).length := by
      refine ⟨n % (g0 :: gs).length, by rw [List.length_map]; rfl, Nat.mod_lt _ (by simp)⟩
    rw [ej]
    have eg := List.getElem?_eq_getElem hj
    have hgj : 0 ≤ (g0 :: gs)[j] := hgr _ (List.getElem_mem hj)
    generalize (g0 :: gs)[j] = gv at eg hgj
    refine (vt_ix (vt_var rfl) (vt_var rfl) hG2 (atI_map V.int eg) : Vt _ _ _ _) _ ?_
    refine (vt_gt (vt_var rfl) vt_c : Vt _ _ _ (.bl (decide (0 < gv)))) _ ⟨_, rfl, ?_⟩
    by_cases hgp : 0 < gv
    · rw [decide_eq_true hgp]
      refine (?_ : if true = true then _ else _)
      rw [if_pos rfl]
      refine (vt_fdiv (vt_var rfl) (vt_var rfl) ⟨by omega, by omega⟩ : Vt _ _ _ (.int (gv / lim))) _ ?_
      refine ⟨_, rfl, ⟨_, rfl, ⟨gl, _, j, j, rfl, rfl, hG2, ixN_nat (by rw [List.length_map]; exact hj), ?_⟩⟩⟩
      refine (vt_mod (vt_int1 (vt_var rfl)) (vt_var rfl) (by omega) : Vt _ _ _ (.int (gv % lim))) _ ?_
      refine fin _ gv ((g0 :: gs).set j (gv / lim)) (fun l o e1 e2 e3 e => by rw [upd_ne e3]; exact keep2 l o e1 e2 e3 e) (fun l e => ?_) (by rw [upd_ne nag]; exact hA2) (by rw [upd_ne ne]; exact hC2) (by rw [upd_same, List.map_set]) (by rw [List.length_set]; exact hglen) (fun z hz => ?_)
      · have : l ≠ gl := fun z => by rw [z, upd_same] at e; cases e
        rw [upd_ne this] at e; exact dom2 l e
      · rcases List.mem_or_eq_of_mem_set hz with y | y
        · exact hgr z y
        · rw [y]; exact Int.ediv_nonneg hgj (by omega)
    · rw [decide_eq_false hgp]
      refine (?_ : if false = true then _ else _)
      rw [if_neg Bool.false_ne_true]
      refine (vt_get (vt_var rfl) hA2 (mK_cells cl gl _) : Vt _ _ _ _) _ ?_
      refine (vt_add (vt_ix (vt_var rfl) (vt_mod (vt_int1 (vt_var rfl)) vt_c (by decide)) hC2 eC) (vt_mul vt_c (vt_fdiv (vt_var rfl) vt_c cdiv) cmul) : Vt _ _ _ (.int (cc + 31 * ((n : Int) / 64)))) _ ?_
      refine ⟨_, rfl, ?_⟩
      refine mixed_at (by omega) (by omega) (by omega) (by omega) fun H3 r3 s3 a3 b3 => ?_
      refine (vt_add (vt_var rfl) vt_c : Vt _ _ _ (.int ((n : Int) + 7))) _ ?_
      refine mixed_at (by omega) (by omega) (by omega) (by omega) fun H4 r4 s4 a4 b4 => ?_
      refine .inl ⟨r4, rfl, ⟨_, rfl, ⟨r4, lim, rfl, rfl, by omega, ?_⟩⟩⟩
      have sHF : Same H2 H4 := s3.trans s4
      exact fin H4 r4 (g0 :: gs) (fun l o e1 e2 e3 e => sHF _ _ (keep2 l o e1 e2 e3 e)) (fun l e => dom2 l (sHF.free e)) (sHF _ _ hA2) (sHF _ _ hC2) (sHF _ _ hG2) hglen hgr
end
end L2.U
/-! The law's fold of the script, its dict of draws, by hand. -/
namespace L2.U
open PySem PySem.Spec PyProof.Rows
section
variable {P : Program} {w : World} {K : PySem.W.Frag} {mg : Str → Option Value} {base : Heap}
theorem ts_seq {c : Ct} {sa : SW} {R : TS} {D : Ends} {G H : Hp} {σ : L2.St} {ρ : DRho} {b : Nat} (S : DState c b G H σ ρ) (ρ1 : DRho) (b1 : Nat) (h : ∀ Q : Out → Nat → Prop, Q (.nx ρ1) b1 → sa ρ b Q)
    (hr : ∀ σ' G' H', Same G G' → DState c b1 G' H' σ' ρ1 → R D σ' H') : tSeq (tS c sa) R D σ H := ⟨G, ρ, b, S, h _ hr⟩
theorem ts_seqI {c : Ct} {sa : SW} {R : TS} {D : Ends} {G H : Hp} {σ : L2.St} {ρ : DRho} {b : Nat} (I : DRho → Nat → Prop) (S : DState c b G H σ ρ) (h : ∀ Q : Out → Nat → Prop, (∀ ρ1 b1, I ρ1 b1 → Q (.nx ρ1) b1) → sa ρ b Q)
    (hr : ∀ ρ1 b1 σ' G' H', I ρ1 b1 → Same G G' → DState c b1 G' H' σ' ρ1 → R D σ' H') : tSeq (tS c sa) R D σ H := ⟨G, ρ, b, S, h _ fun ρ1 b1 i σ' G' H' s1 S1 => hr ρ1 b1 σ' G' H' i s1 S1⟩
def InB (z : Int) : Prop := 0 ≤ z ∧ z < 2147483647
def spFolded (K : PySem.W.Frag) : Sp := fun vs H Q _ => ∃ (l : Addr) (ns : List Int), vs = [.ref l] ∧ SqL K H l (ns.map V.int) ∧ ns.length ≤ 63 ∧ ∀ (H' : Hp) (cl : Addr) (cells : List Int), Same H H' → H cl = none → H' cl = some (.lst (cells.map V.int)) → cells.length = 64 → (∀ z ∈ cells, InB z) → Q (.ref cl) H'
abbrev s_q_folded : Stmt := topS 44
theorem sc_q_folded : FnScope ["_law_script", "_law_found", "_law_n", "_law_cell"] ["_law_script"] (defScope s_q_folded) := ⟨rfl, rfl, rfl, by decide +kernel, rfl, by decide +kernel, by decide +kernel⟩
theorem inb_mod (x : Int) : InB (x % 2147483647) := ⟨Int.emod_nonneg _ (by decide), Int.emod_lt_of_pos _ (by decide)⟩
theorem inb_set {cells : List Int} {j : Nat} {z : Int} (h : ∀ y ∈ cells, InB y) (hz : InB z) : ∀ y ∈ cells.set j z, InB y := fun y hy => by
  rcases List.mem_or_eq_of_mem_set hy with q | q
  · exact h y q
  · rw [q]; exact hz
theorem inb_small {z : Int} (h : InB z) : smallB z = true := small_of (by have := h.1; have := h.2; omega)
theorem ok_q_folded {f : Addr} {fd : FuncData} (F : Fun K "_law_folded" "_law_folded" s_q_folded f fd) (nb : Nb mg) (kc : Kc mg) : FnOk P w K mg base CX0 1 f fd ["_law_script"] (spFolded K) := by
  refine F.ok sc_q_folded (fun vs H Q E h => ?_) fun cdv A outer s H vs Q E hr h => ?_
  · obtain ⟨l, ns, rfl, _⟩ := h
    rfl
  obtain ⟨l, ns, rfl, hl, hlen, q⟩ := h
  have ok : Ct.Ok ⟨K, P, w, .pure, H, H⟩ := fun l hl => hl.elim
  have S0 : DState ⟨K, P, w, .pure, H, H⟩ 0 H H (start ["_law_script", "_law_found", "_law_n", "_law_cell"] [.ref l]) (rho0 ["_law_script", "_law_found", "_law_n", "_law_cell"] [.d (.list (ns.map PyData.int))]) :=
    start_state (.refl _) ok trivial (.cons (fp := []) (rk_d (.lst hl (ints_dpAll ns))) .nil) rfl
  refine ⟨_, pss_cons (PDS.ps (c := ⟨K, P, w, .pure, H, H⟩) (pds_setLc (i := 1) (own := [("_law_n", 2)]) (g := .inl 2) rfl sc_q_folded.nd rfl rfl (sw_true rfl rfl rfl (by decide +kernel)) (pdi_range1 (by rfl) nb.range (pda_cons pd_int pda_nil)) (blkOk_by (own := [("_law_n", 2)]) (N := ["_law_script", "_law_found", "_law_n", "_law_cell"]) (sc := defScope s_q_folded) (by decide +kernel)) (fun _ _ _ _ _ => pg_name (i := 2) sc_q_folded.nd rfl (Or.inl rfl)) (fun _ _ _ _ _ => (pd_add pd_int (pv_ 2))))) (pss_cons (PDS.ps (c := ⟨K, P, w, .pure, H, H⟩) (pds_for PassesOwn.never rfl (pdi_enumL (by rfl) nb.enumerate (pda_cons (pv_ 0) pda_nil)) (pdg_tup (n := 2) rfl (pdgs_cons (pdg_name (i := 2) sc_q_folded.nd rfl (by first | exact .inl rfl | exact .inr rfl)) (pdgs_cons (pdg_name (i := 3) sc_q_folded.nd rfl (by first | exact .inl rfl | exact .inr rfl)) pdgs_nil))) (pdb_one (pds_asg (pd_mod (pd_int1 (by rfl) nb.int (pda_cons (pd_add (pd_mul (pd_ix (pv_ 1) (pd_mod (pd_int1 (by rfl) nb.int (pda_cons (pv_ 2) pda_nil)) pd_int)) pd_int) (pv_ 3)) pda_nil)) pd_int) (pdg_sub (pv 1) (pd_mod (pd_int1 (by rfl) nb.int (pda_cons (pv_ 2) pda_nil)) pd_int)))))) (pss_cons (PDS.ps (c := ⟨K, P, w, .pure, H, H⟩) (pds_for PassesOwn.never rfl (pdi_range2 (by rfl) nb.range (pda_cons pd_int (pda_cons pd_int pda_nil))) (pdg_name (i := 2) sc_q_folded.nd rfl (by first | exact .inl rfl | exact .inr rfl)) (pdb_one (pds_asg (pd_mod (pd_int1 (by rfl) nb.int (pda_cons (pd_add (pd_ix (pv_ 1) (pv_ 2)) (pd_mul (pd_ix (pv_ 1) (pd_sub (pv_ 2) pd_int)) pd_int)) pda_nil)) pd_int) (pdg_sub (pv 1) (pv_ 2)))))) (pss_one (ps_ret (pv 1))))), ?_⟩
  have m1 : smallB (48271 : Int) = true := by decide +kernel
  have m2 : smallB (16807 : Int) = true := by decide +kernel
  have m3 : decide ((0 : Int) < 64) = true := by decide
  have m4 : decide ((0 : Int) < 2147483647) = true := by decide
  refine ts_seq S0 [some (.d (.list (ns.map PyData.int))), some (.o false (((upTo 0 64).map fun n => 17 + n).map PyData.int)), none, none] 0 (fun Q q => ?_) fun σ1 G1 H1 s1 S1 => ?_
  · simp only [sSeq, sNil, sAsg, sRet, sIf, sSet, sExpr, sFrz, sMove, sApp, sExt, sPar, eOp, eUn, eVar, eC, eIf, eAnd, eOr, eChain, tVal, uAnd, uOr, uNot, uTrue, eTup, eLst, eBi, eSl, partR, eIsi, eCall, eCallL, aCons, aNil, allD, dTup, dCons, dName, dNil, dSub, rho0, endD, lft, frz, stor, storAll, setAll, rtD, vIx, seqR, vII, vIC, vAdd, vSub, vMul, vFdiv, vMod, vPow, vLt, vLe, vGt, vGe, vEqS, vNeS, vIsN, vNotN, vNot, vNeg, isNo, vMin2, vMax2, vAbs, vInt1, vLen, vTuple, vList, vSum, isTy, vNotInK, vLenK, sKset, vIxoo, dSuboo, eCompL, eDict1, datR, vEqD, vNeD, vCatT, vCatL, iSeq, iTupW, iRg1, iRg2, sFor, noL, noL1, lend, scalD, R.held, R.fresh, List.map_cons, List.map_nil, List.length_cons, List.length_nil, List.cons_append, List.nil_append, List.getElem?_cons_zero, List.getElem?_cons_succ, List.set_cons_zero, List.set_cons_succ, List.replicate_succ, List.replicate_zero, Nat.zero_add, Nat.reduceAdd, Nat.reduceSub, Nat.reduceLT, Option.join_some, Option.join_none, Option.bind_some, Option.map_some, List.all_cons, List.all_nil, Bool.and_true, Bool.true_and, Bool.not_true, Bool.not_false, and_true, true_and, if_true, if_false, Bool.false_eq_true, decide_true, decide_false, reduceIte, eComp, wipeR]
    refine ⟨by decide, ?_⟩
    rw [show rangeD 0 64 = (upTo 0 64).map PyData.int from rangeD_up 0 64]
    refine cmp_map PyData.int (fun n => .int (17 + n)) (upTo 0 64) 0 [] _ (fun a ha b Q q => ?_) (by decide) ?_
    · simp only [sSeq, sNil, sAsg, sRet, sIf, sSet, sExpr, sFrz, sMove, sApp, sExt, sPar, eOp, eUn, eVar, eC, eIf, eAnd, eOr, eChain, tVal, uAnd, uOr, uNot, uTrue, eTup, eLst, eBi, eSl, partR, eIsi, eCall, eCallL, aCons, aNil, allD, dTup, dCons, dName, dNil, dSub, rho0, endD, lft, frz, stor, storAll, setAll, rtD, vIx, seqR, vII, vIC, vAdd, vSub, vMul, vFdiv, vMod, vPow, vLt, vLe, vGt, vGe, vEqS, vNeS, vIsN, vNotN, vNot, vNeg, isNo, vMin2, vMax2, vAbs, vInt1, vLen, vTuple, vList, vSum, isTy, vNotInK, vLenK, sKset, vIxoo, dSuboo, eCompL, eDict1, datR, vEqD, vNeD, vCatT, vCatL, iSeq, iTupW, iRg1, iRg2, sFor, noL, noL1, lend, scalD, R.held, R.fresh, List.map_cons, List.map_nil, List.length_cons, List.length_nil, List.cons_append, List.nil_append, List.getElem?_cons_zero, List.getElem?_cons_succ, List.set_cons_zero, List.set_cons_succ, List.replicate_succ, List.replicate_zero, Nat.zero_add, Nat.reduceAdd, Nat.reduceSub, Nat.reduceLT, Option.join_some, Option.join_none, Option.bind_some, Option.map_some, List.all_cons, List.all_nil, Bool.and_true, Bool.true_and, Bool.not_true, Bool.not_false, and_true, true_and, if_true, if_false, Bool.false_eq_true, decide_true, decide_false, reduceIte, tgD]
      exact q
    · rw [List.map_map] at q
      exact q
  have hc0 : ((upTo 0 64).map fun n => 17 + n).length = 64 := by decide
  have hb0 : ∀ z ∈ (upTo 0 64).map fun n => 17 + n, InB z := by
    intro z hz
    obtain ⟨n, hn, rfl⟩ := List.mem_map.mp hz
    unfold upTo at hn
    obtain ⟨i, hi, rfl⟩ := List.mem_map.mp hn
    rw [List.mem_range] at hi
    have : i < 64 := by omega
    exact ⟨by omega, by omega⟩
  revert S1
  generalize ((upTo 0 64).map fun n => 17 + n) = c0 at hc0 hb0
  intro S1
  refine ts_seqI (fun ρ1 b1 => ∃ (cells : List Int) (z2 z3 : Option R), cells.length = 64 ∧ (∀ z ∈ cells, InB z) ∧ b1 = 0 ∧ ρ1 = [some (.d (.list (ns.map PyData.int))), some (.o false (cells.map PyData.int)), z2, z3]) S1 (fun Q q => ?_) ?_
  · simp only [sSeq, sNil, sAsg, sRet, sIf, sSet, sExpr, sFrz, sMove, sApp, sExt, sPar, eOp, eUn, eVar, eC, eIf, eAnd, eOr, eChain, tVal, uAnd, uOr, uNot, uTrue, eTup, eLst, eBi, eSl, partR, eIsi, eCall, eCallL, aCons, aNil, allD, dTup, dCons, dName, dNil, dSub, rho0, endD, lft, frz, stor, storAll, setAll, rtD, vIx, seqR, vII, vIC, vAdd, vSub, vMul, vFdiv, vMod, vPow, vLt, vLe, vGt, vGe, vEqS, vNeS, vIsN, vNotN, vNot, vNeg, isNo, vMin2, vMax2, vAbs, vInt1, vLen, vTuple, vList, vSum, isTy, vNotInK, vLenK, sKset, vIxoo, dSuboo, eCompL, eDict1, datR, vEqD, vNeD, vCatT, vCatL, iSeq, iTupW, iRg1, iRg2, sFor, noL, noL1, lend, scalD, R.held, R.fresh, List.map_cons, List.map_nil, List.length_cons, List.length_nil, List.cons_append, List.nil_append, List.getElem?_cons_zero, List.getElem?_cons_succ, List.set_cons_zero, List.set_cons_succ, List.replicate_succ, List.replicate_zero, Nat.zero_add, Nat.reduceAdd, Nat.reduceSub, Nat.reduceLT, Option.join_some, Option.join_none, Option.bind_some, Option.map_some, List.all_cons, List.all_nil, Bool.and_true, Bool.true_and, Bool.not_true, Bool.not_false, and_true, true_and, if_true, if_false, Bool.false_eq_true, decide_true, decide_false, reduceIte, iEnumL]
    refine for_cps (fun i ρ b' => b' = 0 ∧ ∃ (cells : List Int) (z2 z3 : Option R), cells.length = 64 ∧ (∀ z ∈ cells, InB z) ∧ ρ = [some (.d (.list (ns.map PyData.int))), some (.o false (cells.map PyData.int)), z2, z3]) (fun _ _ => False) _ ?_ ?_ (fun _ _ z => z.elim) ⟨rfl, c0, none, none, hc0, hb0, rfl⟩
    · rintro i x ρ b' Q' hx ⟨rfl, cells, z2, z3, hc, hb, rfl⟩ hq _
      rw [enumD_get, List.getElem?_map, Option.map_map] at hx
      obtain ⟨y, ey, rfl⟩ := Option.map_eq_some_iff.mp hx
      have hj : i % 64 < cells.length := by rw [hc]; omega
      have ej : ((0 + i : Nat) : Int) % 64 = ((i % 64 : Nat) : Int) := by omega
      have ea : atI (cells.map PyData.int) ((i % 64 : Nat) : Int) = some (.int cells[i % 64]) := atI_map PyData.int (List.getElem?_eq_getElem hj)
      have hin := hb _ (List.getElem_mem hj)
      have sm := inb_small hin
      generalize cells[i % 64] = cv at ea hin sm
      have hj2 : i % 64 < (cells.map PyData.int).length := by rw [List.length_map]; exact hj
      simp only [Function.comp_apply]
      simp only [sSeq, sNil, sAsg, sRet, sIf, sSet, sExpr, sFrz, sMove, sApp, sExt, sPar, eOp, eUn, eVar, eC, eIf, eAnd, eOr, eChain, tVal, uAnd, uOr, uNot, uTrue, eTup, eLst, eBi, eSl, partR, eIsi, eCall, eCallL, aCons, aNil, allD, dTup, dCons, dName, dNil, dSub, rho0, endD, lft, frz, stor, storAll, setAll, rtD, vIx, seqR, vII, vIC, vAdd, vSub, vMul, vFdiv, vMod, vPow, vLt, vLe, vGt, vGe, vEqS, vNeS, vIsN, vNotN, vNot, vNeg, isNo, vMin2, vMax2, vAbs, vInt1, vLen, vTuple, vList, vSum, isTy, vNotInK, vLenK, sKset, vIxoo, dSuboo, eCompL, eDict1, datR, vEqD, vNeD, vCatT, vCatL, iSeq, iTupW, iRg1, iRg2, sFor, noL, noL1, lend, scalD, R.held, R.fresh, List.map_cons, List.map_nil, List.length_cons, List.length_nil, List.cons_append, List.nil_append, List.getElem?_cons_zero, List.getElem?_cons_succ, List.set_cons_zero, List.set_cons_succ, List.replicate_succ, List.replicate_zero, Nat.zero_add, Nat.reduceAdd, Nat.reduceSub, Nat.reduceLT, Option.join_some, Option.join_none, Option.bind_some, Option.map_some, List.all_cons, List.all_nil, Bool.and_true, Bool.true_and, Bool.not_true, Bool.not_false, and_true, true_and, if_true, if_false, Bool.false_eq_true, decide_true, decide_false, reduceIte, m3, m4]
      simp only [Nat.zero_add] at ej
      rw [ej]
      simp only [ea, sm, m1, Option.bind_some, Option.map_some, Bool.true_or, Bool.or_true, if_true, ixN_nat hj2, m4]
      rw [← List.map_set]
      exact hq _ _ ⟨rfl, cells.set (i % 64) ((cv * 48271 + y) % 2147483647), _, _, by rw [List.length_set]; exact hc, inb_set hb (inb_mod _), rfl⟩
    · rintro ρ b' ⟨rfl, cells, z2, z3, hc, hb, rfl⟩
      exact q _ _ ⟨cells, z2, z3, hc, hb, rfl, rfl⟩
  rintro ρ1 b1 σ2 G2 H2 ⟨cells, z2, z3, hc, hb, rfl, rfl⟩ s2 S2
  refine ts_seqI (fun ρ1 b1 => ∃ (cells : List Int) (z2 z3 : Option R), cells.length = 64 ∧ (∀ z ∈ cells, InB z) ∧ b1 = 0 ∧ ρ1 = [some (.d (.list (ns.map PyData.int))), some (.o false (cells.map PyData.int)), z2, z3]) S2 (fun Q q => ?_) ?_
  · simp only [sSeq, sNil, sAsg, sRet, sIf, sSet, sExpr, sFrz, sMove, sApp, sExt, sPar, eOp, eUn, eVar, eC, eIf, eAnd, eOr, eChain, tVal, uAnd, uOr, uNot, uTrue, eTup, eLst, eBi, eSl, partR, eIsi, eCall, eCallL, aCons, aNil, allD, dTup, dCons, dName, dNil, dSub, rho0, endD, lft, frz, stor, storAll, setAll, rtD, vIx, seqR, vII, vIC, vAdd, vSub, vMul, vFdiv, vMod, vPow, vLt, vLe, vGt, vGe, vEqS, vNeS, vIsN, vNotN, vNot, vNeg, isNo, vMin2, vMax2, vAbs, vInt1, vLen, vTuple, vList, vSum, isTy, vNotInK, vLenK, sKset, vIxoo, dSuboo, eCompL, eDict1, datR, vEqD, vNeD, vCatT, vCatL, iSeq, iTupW, iRg1, iRg2, sFor, noL, noL1, lend, scalD, R.held, R.fresh, List.map_cons, List.map_nil, List.length_cons, List.length_nil, List.cons_append, List.nil_append, List.getElem?_cons_zero, List.getElem?_cons_succ, List.set_cons_zero, List.set_cons_succ, List.replicate_succ, List.replicate_zero, Nat.zero_add, Nat.reduceAdd, Nat.reduceSub, Nat.reduceLT, Option.join_some, Option.join_none, Option.bind_some, Option.map_some, List.all_cons, List.all_nil, Bool.and_true, Bool.true_and, Bool.not_true, Bool.not_false, and_true, true_and, if_true, if_false, Bool.false_eq_true, decide_true, decide_false, reduceIte]
    refine ⟨by decide, ?_⟩
    refine for_cps (fun i ρ b' => b' = 0 ∧ ∃ (cells : List Int) (z2 z3 : Option R), cells.length = 64 ∧ (∀ z ∈ cells, InB z) ∧ ρ = [some (.d (.list (ns.map PyData.int))), some (.o false (cells.map PyData.int)), z2, z3]) (fun _ _ => False) _ ?_ ?_ (fun _ _ z => z.elim) ⟨rfl, cells, _, _, hc, hb, rfl⟩
    · rintro i x ρ b' Q' hx ⟨rfl, cells, z2, z3, hc, hb, rfl⟩ hq _
      obtain ⟨rfl, hi⟩ := rangeD_get hx
      have hi63 : i < 63 := hi
      have hj : i + 1 < cells.length := by rw [hc]; omega
      have hj0 : i < cells.length := by omega
      have ej : (1 : Int) + (i : Int) = ((i + 1 : Nat) : Int) := by omega
      have ej0 : ((i + 1 : Nat) : Int) - 1 = (i : Int) := by omega
      have ea : atI (cells.map PyData.int) ((i + 1 : Nat) : Int) = some (.int cells[i + 1]) := atI_map PyData.int (List.getElem?_eq_getElem hj)
      have ea0 : atI (cells.map PyData.int) (i : Int) = some (.int cells[i]) := atI_map PyData.int (List.getElem?_eq_getElem hj0)
      have sm := inb_small (hb _ (List.getElem_mem hj0))
      generalize cells[i + 1] = cv at ea
      generalize cells[i] = cw at ea0 sm
      have hj2 : i + 1 < (cells.map PyData.int).length := by rw [List.length_map]; exact hj
      rw [ej]
      simp only [sSeq, sNil, sAsg, sRet, sIf, sSet, sExpr, sFrz, sMove, sApp, sExt, sPar, eOp, eUn, eVar, eC, eIf, eAnd, eOr, eChain, tVal, uAnd, uOr, uNot, uTrue, eTup, eLst, eBi, eSl, partR, eIsi, eCall, eCallL, aCons, aNil, allD, dTup, dCons, dName, dNil, dSub, rho0, endD, lft, frz, stor, storAll, setAll, rtD, vIx, seqR, vII, vIC, vAdd, vSub, vMul, vFdiv, vMod, vPow, vLt, vLe, vGt, vGe, vEqS, vNeS, vIsN, vNotN, vNot, vNeg, isNo, vMin2, vMax2, vAbs, vInt1, vLen, vTuple, vList, vSum, isTy, vNotInK, vLenK, sKset, vIxoo, dSuboo, eCompL, eDict1, datR, vEqD, vNeD, vCatT, vCatL, iSeq, iTupW, iRg1, iRg2, sFor, noL, noL1, lend, scalD, R.held, R.fresh, List.map_cons, List.map_nil, List.length_cons, List.length_nil, List.cons_append, List.nil_append, List.getElem?_cons_zero, List.getElem?_cons_succ, List.set_cons_zero, List.set_cons_succ, List.replicate_succ, List.replicate_zero, Nat.zero_add, Nat.reduceAdd, Nat.reduceSub, Nat.reduceLT, Option.join_some, Option.join_none, Option.bind_some, Option.map_some, List.all_cons, List.all_nil, Bool.and_true, Bool.true_and, Bool.not_true, Bool.not_false, and_true, true_and, if_true, if_false, Bool.false_eq_true, decide_true, decide_false, reduceIte, m4, ea, ej0, ea0, sm, m2, Bool.true_or, Bool.or_true, ixN_nat hj2]
      rw [← List.map_set]
      exact hq _ _ ⟨rfl, cells.set (i + 1) ((cv + cw * 16807) % 2147483647), _, _, by rw [List.length_set]; exact hc, inb_set hb (inb_mod _), rfl⟩
    · rintro ρ b' ⟨rfl, cells, z2, z3, hc, hb, rfl⟩
      exact q _ _ ⟨cells, z2, z3, hc, hb, rfl, rfl⟩
  rintro ρ1 b1 σ3 G3 H3 ⟨cells, z2, z3, hc, hb, rfl, rfl⟩ s3 S3
  obtain ⟨fps, sl⟩ := S3.ex
  obtain ⟨v, ev, kv⟩ := sl.sl 1 _ rfl
  obtain ⟨cl, vs, rfl, e2, e3, e4⟩ := kv.is
  have own := kv.own cl (by rw [e2]; simp)
  refine ⟨.ref cl, ev, ?_⟩
  exact q H3 cl cells (fun b o e => S3.go.keep b o (fun z => z.elim) e) own.2.1 (by rw [e3, dpAll_ints e4]) hc hb
end
end L2.U
/-! The law's dict of draws is begun, by hand. -/
namespace L2.U
open PySem PySem.Spec PyProof.Rows
section
variable {P : Program} {w : World} {K : PySem.W.Frag} {mg : Str → Option Value} {base : Heap}
def spBegun (K : PySem.W.Frag) : Sp := fun vs H Q _ => ∃ (l : Addr) (ns : List Int), vs = [.ref l] ∧ SqL K H l (ns.map V.int) ∧ ns.length ≤ 63 ∧ ∀ (H' : Hp) (a cl gl : Addr), Same H H' → H a = none → H cl = none → H gl = none → MInv a cl gl 0 H' → Q (.ref a) H'
abbrev s_q_begun : Stmt := topS 46
theorem sc_q_begun : FnScope ["_law_script", "_law_m", "_law_cell"] ["_law_script"] (defScope s_q_begun) := ⟨rfl, rfl, rfl, by decide +kernel, rfl, by decide +kernel, by decide +kernel⟩
theorem mK_merge (cl gl : Addr) : mergeK [] (mK cl gl 0) = mK cl gl 0 := by
  simp [mergeK, putK, ne_cg, ne_cs, ne_gs]
theorem mK_putg (cl gl gl2 : Addr) (n : Int) : putK (mK cl gl n) (.inr "great") (.ref gl2) = mK cl gl2 n := by
  have h1 : ¬ (("spot" : Str) = "great") := by decide +kernel
  simp [putK, ne_cg, h1]
theorem pow18 : vPow (.d (.int 10)) (.d (.int 18)) = some (.d (.int ((10 : Int) ^ 18))) := by
  show (if (decide ((0 : Int) ≤ 18) && (decide ((18 : Int) ≤ 1000000) && decide ((10 : Int).natAbs < 2 ^ 64))) = true then some (R.d (PyData.int ((10 : Int) ^ (18 : Int).toNat))) else none) = _
  rw [if_pos (by decide)]
  rfl
def gcell (z : Int) : Int := if 10 ^ 18 ≤ z then z else 0
theorem ok_q_begun {f ff : Addr} {fd ffd : FuncData} (F : Fun K "_law_begun" "_law_begun" s_q_begun f fd) (nb : Nb mg) (kc : Kc mg) (FF : FnOk P w K mg base CX0 1 ff ffd ["_law_script"] (spFolded K)) (fm : mg "_law_folded" = some (.ref ff)) (fk : PySem.W.keepIn K (.ref ff) = true) (fb : Binds K ffd ["_law_script"] []) :
    FnOk P w K mg base CX0 2 f fd ["_law_script"] (spBegun K) := by
  refine F.ok sc_q_begun (fun vs H Q E h => ?_) fun cdv A outer s H vs Q E hr h => ?_
  · obtain ⟨l, ns, rfl, _⟩ := h
    rfl
  obtain ⟨l, ns, rfl, hl, hlen, q⟩ := h
  have ok : Ct.Ok ⟨K, P, w, .pure, H, H⟩ := fun l hl => hl.elim
  refine ⟨_, pss_cons (ps_set (i := 1) sc_q_begun.nd rfl (by first | exact .inl rfl | exact .inr rfl) (pe_disp (pps_cons pe_str (pe_call FF (hr.mono (by decide)) (by rfl) fm fk fb .nil pass0 (pa_cons (pv 0) pa_nil)) (pps_cons pe_str (pe_lst pa_nil) (pps_cons pe_str pe_int pps_nil))) rfl rfl (by decide) (by decide)))
    (pss_cons (ps_dput (units1 hr) (pv 1) pe_str (PDE.pe (c := ⟨K, P, w, .pure, H, H⟩) (pd_lc (own := [("_law_cell", 2)]) (g := .inl 2) rfl sc_q_begun.nd (pdi_list (pv_ 0)) (blkOk_by (own := [("_law_cell", 2)]) (N := ["_law_script", "_law_m", "_law_cell"]) (sc := defScope s_q_begun) (by decide +kernel)) (fun _ _ _ _ _ => pg_name (i := 2) sc_q_begun.nd rfl (Or.inl rfl)) (fun _ _ _ _ _ => (pd_if (pdt_ge (pv_ 2) (pd_pow pd_int pd_int)) (pv_ 2) pd_int)))) (by rfl))
    (pss_one (ps_ret (pv 1)))), ?_⟩
  intro a ha
  -- the first dict
  refine ⟨_, rfl, ?_⟩
  have hla : ∀ {b : Addr} {o : HO}, H b = some o → b ≠ a := fun e z => by rw [z, ha] at e; cases e
  have sA : Same H (upd H a (.dK [])) := same_new ha
  refine ⟨l, ns, rfl, sA.seq hl, hlen, fun H1 cl cells s1 hcl hC hc hb => ?_⟩
  have hA1 : H1 a = some (.dK []) := s1 _ _ upd_same
  refine ⟨Nat.zero_le _, fun g0 hg0 => ?_⟩
  have nga : g0 ≠ a := fun z => by rw [z, hA1] at hg0; cases hg0
  have nca : cl ≠ a := fun z => by rw [z, upd_same] at hcl; cases hcl
  have hcl0 : H cl = none := by rw [upd_ne nca] at hcl; exact hcl
  have ngc : g0 ≠ cl := fun z => by rw [z, hC] at hg0; cases hg0
  refine ⟨by rw [upd_ne nga.symm]; exact hA1, mK cl g0 0, rfl, by show 3 ≤ 15; decide, ?_⟩
  rw [mK_merge]
  have s2 : Same H (upd (upd H1 g0 (.lst [])) a (.dK (mK cl g0 0))) := fun b o e => by
    have e1 : H1 b = some o := s1 _ _ (sA _ _ e)
    have n1 : b ≠ g0 := fun z => by rw [z, hg0] at e1; cases e1
    rw [upd_ne (hla e), upd_ne n1]; exact e1
  have hA2 : upd (upd H1 g0 (.lst [])) a (.dK (mK cl g0 0)) a = some (.dK (mK cl g0 0)) := upd_same
  have hC2 : upd (upd H1 g0 (.lst [])) a (.dK (mK cl g0 0)) cl = some (.lst (cells.map V.int)) := by rw [upd_ne nca, upd_ne ngc.symm]; exact hC
  revert hA2 hC2 s2
  generalize upd (upd H1 g0 (.lst [])) a (.dK (mK cl g0 0)) = H2
  intro s2 hA2 hC2
  -- the great cells
  have S2 : DState ⟨K, P, w, .pure, H, H⟩ 0 H H2 [some (.ref l), some (.ref a), none] [some (.d (.list (ns.map PyData.int))), none, none] := by
    refine ⟨ok, ⟨fun b o _ e => s2 b o e, fun b e => s2.free e, .refl _, s2, fun _ _ => rfl⟩, trivial, rfl, fun _ => [], fun i r e => ?_, fun _ _ _ _ _ _ _ z hz => nomatch hz⟩
    match i, e with
    | 0, e =>
      cases e
      exact ⟨.ref l, rfl, rk_d (.lst hl (ints_dpAll ns))⟩
    | 1, e => cases e
    | 2, e => cases e
    | i + 3, e => cases e
  refine ⟨H, _, 0, S2, ?_⟩
  simp only [sSeq, sNil, sAsg, sRet, sIf, sSet, sExpr, sFrz, sMove, sApp, sExt, sPar, eOp, eUn, eVar, eC, eIf, eAnd, eOr, eChain, tVal, uAnd, uOr, uNot, uTrue, eTup, eLst, eBi, eSl, partR, eIsi, eCall, eCallL, aCons, aNil, allD, dTup, dCons, dName, dNil, dSub, rho0, endD, lft, frz, stor, storAll, setAll, rtD, vIx, seqR, vII, vIC, vAdd, vSub, vMul, vFdiv, vMod, vPow, vLt, vLe, vGt, vGe, vEqS, vNeS, vIsN, vNotN, vNot, vNeg, isNo, vMin2, vMax2, vAbs, vInt1, vLen, vTuple, vList, vSum, isTy, vNotInK, vLenK, sKset, vIxoo, dSuboo, eCompL, eDict1, datR, vEqD, vNeD, vCatT, vCatL, iSeq, iTupW, iRg1, iRg2, sFor, noL, noL1, lend, scalD, R.held, R.fresh, List.map_cons, List.map_nil, List.length_cons, List.length_nil, List.cons_append, List.nil_append, List.getElem?_cons_zero, List.getElem?_cons_succ, List.set_cons_zero, List.set_cons_succ, List.replicate_succ, List.replicate_zero, Nat.zero_add, Nat.reduceAdd, Nat.reduceSub, Nat.reduceLT, Option.join_some, Option.join_none, Option.bind_some, Option.map_some, List.all_cons, List.all_nil, Bool.and_true, Bool.true_and, Bool.not_true, Bool.not_false, and_true, true_and, if_true, if_false, Bool.false_eq_true, decide_true, decide_false, reduceIte, eComp, wipeR]
  refine cmp_map PyData.int (fun z => .int (gcell z)) ns 0 [] _ (fun z hz b Q q => ?_) (by rw [List.length_nil]; omega) ?_
  · simp only [tgD, lft, List.set_cons_succ, List.set_cons_zero]
    refine eIf_val (decide ((10 : Int) ^ 18 ≤ z)) (.int z) (.int 0) (fun Q q => ?_) (fun _ Q q => q) (fun _ Q q => q) ?_
    · exact (ev_op (ev_vd rfl) (ev_op ev_c ev_c pow18) ii_ : Ev _ _ _ (R.d (.bool (decide ((10 : Int) ^ 18 ≤ z))))) _ q
    · have e0 : (if decide ((10 : Int) ^ 18 ≤ z) = true then PyData.int z else PyData.int 0) = .int (gcell z) := by
        unfold gcell
        by_cases hz2 : (10 : Int) ^ 18 ≤ z
        · rw [if_pos (decide_eq_true hz2), if_pos hz2]
        · rw [if_neg (by rw [decide_eq_false hz2]; exact Bool.false_ne_true), if_neg hz2]
      rw [e0]
      exact q
  intro G3 H3 v fp g3 i3 k3 f3
  obtain ⟨gl, ws, rfl, e2, e3, e4⟩ := k3.is
  have own := k3.own gl (by rw [e2]; simp)
  have hgl2 : H2 gl = none := f3 rfl gl (by rw [e2]; simp)
  have s3 : Same H2 H3 := fun b o e => g3.keep b o (fun z => z.elim) e
  refine ⟨_, rfl, ?_⟩
  refine ⟨a, _, rfl, DPut.k (k := .inr "great") (s3 _ _ hA2) (by show 3 < sizeLine; decide), ?_⟩
  rw [mK_putg]
  have nga2 : gl ≠ a := fun z => by rw [z, hA2] at hgl2; cases hgl2
  have ngc2 : gl ≠ cl := fun z => by rw [z, hC2] at hgl2; cases hgl2
  refine ⟨_, rfl, ?_⟩
  have ews : ws = (ns.map gcell).map V.int := dpAll_ints (by rw [List.map_map]; exact e4)
  refine q _ a cl gl (fun b o e => by rw [upd_ne (hla e)]; exact s3 _ _ (s2 _ _ e)) ha hcl0 own.2.1 ⟨fun z => ngc2 z.symm, 0, cells, ns.map gcell, upd_same, by rw [upd_ne nca]; exact s3 _ _ hC2, by rw [upd_ne nga2, ← ews]; exact e3, hc, hb, by rw [List.length_map]; exact hlen, fun z hz => ?_, Nat.le_refl _⟩
  obtain ⟨y, hy, rfl⟩ := List.mem_map.mp hz
  unfold gcell
  split
  · rename_i h18
    exact Int.le_trans (show (0 : Int) ≤ 10 ^ 18 by decide) h18
  · exact Int.le_refl _
end
end L2.U
/-! The plain law: runs that are reckoned, and the wide chain. -/
namespace L2.U
open PySem PySem.Spec PyProof.Rows
def runF (c d : Chain) (t : Band) (most : Nat) : Nat → List PairS → List (PairS × Row) → Option (Option Row)
  | 0, _, _ => none
  | n + 1, k, l => if l.isEmpty = true then some none else match layGo c d t l k [] with
    | .inl row => some (some row)
    | .inr kl => if kl.1.length ≤ most then runF c d t most n kl.1 kl.2 else none
theorem runF_run {c d : Chain} {t : Band} {most : Nat} : ∀ (f : Nat) (k : List PairS) (l : List (PairS × Row)) (r : Option Row), runF c d t most f k l = some r → ∃ n, Run c d t most n k l r
  | 0, k, l, r, h => by cases h
  | f + 1, k, l, r, h => by
    unfold runF at h
    split at h
    · rename_i hl
      cases h
      have : l = [] := List.isEmpty_iff.mp hl
      subst this
      exact ⟨0, .stop⟩
    · rename_i hl
      have hne : l ≠ [] := fun z => hl (by rw [z]; rfl)
      split at h
      · rename_i row e
        cases h
        exact ⟨0, .part hne e⟩
      · rename_i kl e
        split at h
        · rename_i hk
          obtain ⟨n, hr⟩ := runF_run f kl.1 kl.2 r h
          exact ⟨n + 1, .next hne e hk hr⟩
        · cases h
def runA (c d : Chain) (t : Band) : Option (Option Row) := runF c d t 20000 64 [pairBegin c d] [(pairBegin c d, [])]
theorem runA_run {c d : Chain} {t : Band} {r : Option Row} (h : runA c d t = some r) : ∃ n, Run c d t 20000 n [pairBegin c d] [(pairBegin c d, [])] r := runF_run _ _ _ _ h
/-- the first that is alike, reckoned -/
def meltF (c : Chain) (t : Band) : List House → Option (Option House)
  | [] => some none
  | h :: hs => match runA c ⟨[h], c.wait⟩ t with
    | some none => some (some h)
    | some (some _) => meltF c t hs
    | none => none
theorem meltF_melt {c : Chain} {t : Band} : ∀ (hs : List House) (r : Option House), meltF c t hs = some r → Melt c t 20000 hs r
  | [], r, h => by cases h; exact .nil
  | h :: hs, r, e => by
    unfold meltF at e
    split at e
    · rename_i h1
      cases e
      obtain ⟨n, hr⟩ := runA_run h1
      exact .here hr
    · rename_i row h1
      obtain ⟨n, hr⟩ := runA_run h1
      exact .next hr (meltF_melt hs r e)
    · cases e
def oneC : Chain := ⟨[⟨true, 2, 2, 1⟩], 1⟩
def otherC : Chain := ⟨[⟨false, 2, 1, 1⟩], 1⟩
def lateC : Chain := ⟨[⟨true, 2, 2, 4⟩], 0⟩
def twoC : Chain := ⟨[⟨true, 1, 1, 1⟩, ⟨true, 9, 9, 2⟩], 0⟩
theorem one_alike : runA oneC otherC ⟨0, 9, none⟩ = some none := by decide +kernel
theorem other_melt : meltF otherC ⟨0, 3, some 1⟩ (ordH 2) = some (some ⟨true, 2, 2, 1⟩) := by decide +kernel
theorem late_melt : meltF lateC ⟨0, 3, none⟩ (ordH 2) = some (some ⟨true, 2, 2, 4⟩) := by decide +kernel
theorem two_melt1 : meltF twoC ⟨0, 4, none⟩ (ordH 1) = some (some ⟨true, 1, 1, 1⟩) := by decide +kernel
theorem two_melt0 : meltF twoC ⟨0, 4, none⟩ (ordH 0) = some none := by decide +kernel
theorem nodup_le {α : Type} [DecidableEq α] : ∀ (k U : List α), k.Nodup → (∀ x ∈ k, x ∈ U) → k.length ≤ U.length
  | [], U, _, _ => Nat.zero_le _
  | a :: k, U, hn, hs => by
    have hn' := List.nodup_cons.mp hn
    have ha := hs a List.mem_cons_self
    have ih := nodup_le k (U.erase a) hn'.2 fun x hx => (List.mem_erase_of_ne (fun z => hn'.1 (by rw [← z]; exact hx))).mpr (hs x (List.mem_cons_of_mem _ hx))
    have hl := List.length_erase_of_mem ha
    have hp := List.length_pos_of_mem ha
    rw [List.length_cons]
    omega
section
variable {c d : Chain} {t : Band} {U : List PairS}
theorem inGo_univ (closed : ∀ p ∈ U, ∀ x ∈ t.may p.last, differs c d p x = false ∧ pairNext c d t p x ∈ U) {p : PairS} {row : Row} (hp : p ∈ U) : ∀ (xs : List Int) (k : List PairS) (f : List (PairS × Row)), (∀ x ∈ xs, x ∈ t.may p.last) → k.Nodup → (∀ q ∈ k, q ∈ U) → (∀ pr ∈ f, pr.1 ∈ U) →
    ∃ kf : List PairS × List (PairS × Row), inGo c d t p row xs k f = .inr kf ∧ kf.1.Nodup ∧ (∀ q ∈ kf.1, q ∈ U) ∧ (∀ pr ∈ kf.2, pr.1 ∈ U) ∧ kf.1.length + f.length = k.length + kf.2.length
  | [], k, f, _, hn, hk, hf => ⟨(k, f), rfl, hn, hk, hf, rfl⟩
  | x :: xs, k, f, hx, hn, hk, hf => by
    obtain ⟨h1, h2⟩ := closed p hp x (hx x List.mem_cons_self)
    have hx' := fun y hy => hx y (List.mem_cons_of_mem _ hy)
    rw [inGo_cons, h1, if_neg Bool.false_ne_true]
    split
    · exact inGo_univ closed hp xs k f hx' hn hk hf
    · rename_i hnk
      obtain ⟨kf, e, a, b, g, l⟩ := inGo_univ closed hp xs (k ++ [pairNext c d t p x]) (f ++ [(pairNext c d t p x, row ++ [x])]) hx' (by
        rw [List.nodup_append]
        refine ⟨hn, by simp, fun a ha b hb z => ?_⟩
        have : b = pairNext c d t p x := by simpa using hb
        rw [this] at z
        exact hnk (by rw [← z]; exact ha)) (fun q hq => by
        rcases List.mem_append.mp hq with z | z
        · exact hk q z
        · have : q = pairNext c d t p x := by simpa using z
          rw [this]; exact h2) (fun pr hq => by
        rcases List.mem_append.mp hq with z | z
        · exact hf pr z
        · have : pr = (pairNext c d t p x, row ++ [x]) := by simpa using z
          rw [this]; exact h2)
      refine ⟨kf, e, a, b, g, ?_⟩
      simp only [List.length_append, List.length_singleton] at l
      omega
theorem layGo_univ (closed : ∀ p ∈ U, ∀ x ∈ t.may p.last, differs c d p x = false ∧ pairNext c d t p x ∈ U) : ∀ (l : List (PairS × Row)) (k : List PairS) (f : List (PairS × Row)), (∀ pr ∈ l, pr.1 ∈ U) → k.Nodup → (∀ q ∈ k, q ∈ U) → (∀ pr ∈ f, pr.1 ∈ U) →
    ∃ kf : List PairS × List (PairS × Row), layGo c d t l k f = .inr kf ∧ kf.1.Nodup ∧ (∀ q ∈ kf.1, q ∈ U) ∧ (∀ pr ∈ kf.2, pr.1 ∈ U) ∧ kf.1.length + f.length = k.length + kf.2.length
  | [], k, f, _, hn, hk, hf => ⟨(k, f), rfl, hn, hk, hf, rfl⟩
  | pr :: ps, k, f, hl, hn, hk, hf => by
    obtain ⟨kf, e, a, b, g, l⟩ := inGo_univ closed (row := pr.2) (hl pr List.mem_cons_self) (t.may pr.1.last) k f (fun _ h => h) hn hk hf
    obtain ⟨kf2, e2, a2, b2, g2, l2⟩ := layGo_univ closed ps kf.1 kf.2 (fun z hz => hl z (List.mem_cons_of_mem _ hz)) a b g
    rw [layGo_cons, e]
    exact ⟨kf2, e2, a2, b2, g2, by omega⟩
theorem univ_run {most : Nat} (closed : ∀ p ∈ U, ∀ x ∈ t.may p.last, differs c d p x = false ∧ pairNext c d t p x ∈ U) (hb : pairBegin c d ∈ U) (hm : U.length ≤ most) : ∃ n, Run c d t most n [pairBegin c d] [(pairBegin c d, [])] none := by
  have key : ∀ (m : Nat) (k : List PairS) (l : List (PairS × Row)), U.length - k.length < m → k.Nodup → (∀ q ∈ k, q ∈ U) → (∀ pr ∈ l, pr.1 ∈ U) → ∃ n, Run c d t most n k l none := by
    intro m
    induction m with
    | zero => intro k l h; omega
    | succ m ih =>
      intro k l h hn hk hl
      by_cases hle : l = []
      · subst hle
        exact ⟨0, .stop⟩
      · obtain ⟨kf, e, a, b, g, len⟩ := layGo_univ closed l k [] hl hn hk (fun _ z => nomatch z)
        have hle2 := nodup_le kf.1 U a b
        simp only [List.length_nil] at len
        by_cases hf : kf.2 = []
        · refine ⟨1, .next hle (k' := kf.1) (l' := kf.2) e (Nat.le_trans hle2 hm) ?_⟩
          rw [hf]
          exact .stop
        · have hpos := List.length_pos_iff.mpr hf
          obtain ⟨n, hr⟩ := ih kf.1 kf.2 (by omega) a b g
          exact ⟨n + 1, .next hle (k' := kf.1) (l' := kf.2) e (Nat.le_trans hle2 hm) hr⟩
  exact key (U.length + 1) _ _ (by omega) (by simp) (fun q hq => by
    have : q = pairBegin c d := by simpa using hq
    rw [this]; exact hb) fun pr hp => by
    have : pr = (pairBegin c d, []) := by simpa using hp
    rw [this]; exact hb
end
/-! the wide chain -/
def wst (a b e f : Int) : Stand := [⟨24 - a - b - e - f, [a, b, e, f], 0⟩]
def wpr (a b e f : Int) : PairS := ⟨wst a b e f, wst a b e f, none⟩
def sevens : List Int := upTo 0 7
def wideU : List PairS := sevens.flatMap fun a => sevens.flatMap fun b => sevens.flatMap fun e => sevens.map fun f => wpr a b e f
theorem sev_mem {x : Int} : x ∈ sevens ↔ 0 ≤ x ∧ x ≤ 6 := by
  unfold sevens upTo
  rw [List.mem_map]
  constructor
  · rintro ⟨i, hi, rfl⟩
    rw [List.mem_range] at hi
    omega
  · intro h
    exact ⟨x.toNat, by rw [List.mem_range]; omega, by omega⟩
theorem wideU_mem {p : PairS} : p ∈ wideU ↔ ∃ a b e f, (0 ≤ a ∧ a ≤ 6) ∧ (0 ≤ b ∧ b ≤ 6) ∧ (0 ≤ e ∧ e ≤ 6) ∧ (0 ≤ f ∧ f ≤ 6) ∧ p = wpr a b e f := by
  unfold wideU
  simp only [List.mem_flatMap, List.mem_map, sev_mem]
  constructor
  · rintro ⟨a, ha, b, hb, e, he, f, hf, rfl⟩
    exact ⟨a, b, e, f, ha, hb, he, hf, rfl⟩
  · rintro ⟨a, b, e, f, ha, hb, he, hf, rfl⟩
    exact ⟨a, ha, b, hb, e, he, f, hf, rfl⟩
theorem wide_day {a b e f x : Int} (ha : 0 ≤ a ∧ a ≤ 6) (hb : 0 ≤ b ∧ b ≤ 6) (he : 0 ≤ e ∧ e ≤ 6) (hf : 0 ≤ f ∧ f ≤ 6) (hx : 0 ≤ x ∧ x ≤ 6) : dayS wideC (wst a b e f) x = wst b e f x := by
  have hs : ∀ h : Int, h = 24 - a - b - e - f + a → Place.sent ⟨h, [b, e, f, 0], 0⟩ x = x := by
    intro h hh
    unfold Place.sent
    simp only
    split <;> omega
  have ho : ∀ pos : Int, pos = 24 - x → House.order ⟨true, 24, 24, 4⟩ pos = x := by
    intro pos hp
    unfold House.order
    simp only [if_true]
    split <;> omega
  simp only [dayS, dayEnd, dayGo, DSt.step, wideC, wst, arriveS, List.map_cons, List.map_nil, Place.arrive, List.headD_cons, List.tail_cons, List.cons_append, List.nil_append, at_, List.getD_cons_zero, Place.after, if_true, List.set_cons_zero, List.length_cons, List.length_nil, Nat.zero_add, Nat.sub_self, hs _ rfl, posOf]
  have hl : lostOf (0 + x - x) 0 = 0 := by
    unfold lostOf
    split <;> omega
  have e0 : (0 : Int) + x - x - 0 = 0 := by omega
  rw [hl, e0, if_neg (by decide), ho _ (by simp only [List.sum_cons, List.sum_nil]; omega)]
  unfold Place.plus
  simp only [List.dropLast, List.getLastD_cons, List.getLastD_nil, List.cons_append, List.nil_append]
  congr 2
  · omega
  · simp
theorem wide_len : wideU.length = 2401 := by decide +kernel
theorem wide_run : ∃ n, Run wideC wideC wideT 20000 n [pairBegin wideC wideC] [(pairBegin wideC wideC, [])] none := by
  refine univ_run (U := wideU) ?_ (wideU_mem.mpr ⟨0, 0, 0, 0, by decide, by decide, by decide, by decide, by decide⟩) (by rw [wide_len]; decide)
  intro p hp x hx
  obtain ⟨a, b, e, f, ha, hb, he, hf, rfl⟩ := wideU_mem.mp hp
  have hx6 : 0 ≤ x ∧ x ≤ 6 := by
    have hx' : x ∈ upTo 0 (6 + 1) := hx
    unfold upTo at hx'
    obtain ⟨i, hi, rfl⟩ := List.mem_map.mp hx'
    rw [List.mem_range] at hi
    omega
  refine ⟨?_, ?_⟩
  · unfold differs wpr
    simp
  · refine wideU_mem.mpr ⟨b, e, f, x, hb, he, hf, hx6, ?_⟩
    unfold pairNext wpr
    simp only [wide_day ha hb he hf hx6]
    rfl
end L2.U
/-! The law itself. -/
namespace L2.U
open PySem PySem.Spec PyProof.Rows
section
variable {P : Program} {w : World} {K : PySem.W.Frag} {mg : Str → Option Value} {base : Heap}
/-! what repr takes -/
structure Lw (n : Nat) (d : PyData) : Prop where
  leaf : d.leavesShort 13 = true
  show_ : d.showable = true
  wt : d.weight ≤ n
theorem Lw.le {n m : Nat} {d : PyData} (h : Lw n d) (l : n ≤ m) : Lw m d := ⟨h.leaf, h.show_, Nat.le_trans h.wt l⟩
theorem lw_int {i : Int} (h : 0 ≤ i ∧ i ≤ 30) : Lw 31 (.int i) := by
  have h1 : i.natAbs ≤ 30 := by omega
  have h2 : i.natAbs.log2 ≤ 30 := Nat.le_trans (Nat.log2_le_self _) h1
  refine ⟨?_, ?_, ?_⟩
  · unfold PyData.leavesShort
    exact decide_eq_true (PyData.shown_int_le (by omega))
  · unfold PyData.showable
    exact decide_eq_true (by omega)
  · unfold PyData.weight
    split <;> omega
theorem lw_none : Lw 31 .none := ⟨by simp [PyData.leavesShort], by simp [PyData.showable], by simp [PyData.weight]⟩
theorem lw_word (f : Bool) : Lw 31 (.str (wordOf f)) := by cases f <;> exact ⟨by decide +kernel, by decide +kernel, by decide +kernel⟩
theorem lw_all {n : Nat} : ∀ {ds : List PyData}, (∀ d ∈ ds, Lw n d) → PyData.leavesShortAll 13 ds = true ∧ PyData.showableAll ds = true ∧ PyData.weightAll ds ≤ (n + 1) * ds.length
  | [], _ => ⟨by simp [PyData.leavesShortAll], by simp [PyData.showableAll], by simp [PyData.weightAll]⟩
  | d :: ds, h => by
    obtain ⟨h1, h2, h3⟩ := lw_all (fun z hz => h z (List.mem_cons_of_mem d hz))
    have h4 := h d List.mem_cons_self
    refine ⟨?_, ?_, ?_⟩
    · unfold PyData.leavesShortAll; rw [h4.leaf, h1]; rfl
    · unfold PyData.showableAll; rw [h4.show_, h2]; rfl
    · unfold PyData.weightAll
      have := h4.wt
      rw [List.length_cons, Nat.mul_add, Nat.mul_one]
      omega
theorem lw_tup {n : Nat} {ds : List PyData} (h : ∀ d ∈ ds, Lw n d) : Lw ((n + 1) * ds.length) (.tuple ds) := by
  obtain ⟨h1, h2, h3⟩ := lw_all h
  exact ⟨by unfold PyData.leavesShort; exact h1, by unfold PyData.showable; exact h2, by unfold PyData.weight; exact h3⟩
theorem lw_lst {n : Nat} {ds : List PyData} (h : ∀ d ∈ ds, Lw n d) : Lw ((n + 1) * ds.length) (.list ds) := by
  obtain ⟨h1, h2, h3⟩ := lw_all h
  exact ⟨by unfold PyData.leavesShort; exact h1, by unfold PyData.showable; exact h2, by unfold PyData.weight; exact h3⟩
theorem lw_two {n : Nat} {a b : PyData} (h : Lw n a) (h2 : Lw n b) : ∀ d ∈ [a, b], Lw n d := fun d hd => by
  rcases List.mem_cons.mp hd with z | z
  · rw [z]; exact h
  · have : d = b := by simpa using z
    rw [this]; exact h2
theorem lw_three {n : Nat} {a b e : PyData} (h : Lw n a) (h2 : Lw n b) (h3 : Lw n e) : ∀ d ∈ [a, b, e], Lw n d := fun d hd => by
  rcases List.mem_cons.mp hd with z | z
  · rw [z]; exact h
  · exact lw_two h2 h3 d z
theorem lw_house {h : House} (ok : h.Ok) : Lw 200 h.enc := by
  have h1 := ok.low
  have h2 := ok.more
  have h3 := ok.late
  have hm : 0 ≤ h.more ∧ h.more ≤ 30 := by split at h2 <;> omega
  exact (lw_tup (lw_two ((lw_tup (lw_three (lw_word h.fill) (lw_int h1) (lw_int hm))).le (Nat.le_refl 96)) ((lw_int (by omega)).le (by decide)))).le (by show (96 + 1) * 2 ≤ 200; decide)
theorem lw_chain {c : Chain} (ok : c.Ok) : Lw 1300 c.enc := by
  have h1 := ok.wait
  have h2 := ok.some.2
  have e1 : Lw 603 (.tuple (c.houses.map House.enc)) := (lw_tup (n := 200) fun d hd => by
    obtain ⟨h, hh, rfl⟩ := List.mem_map.mp hd
    exact lw_house (ok.each h hh)).le (by rw [List.length_map]; omega)
  exact (lw_tup (lw_two e1 ((lw_int (by omega)).le (by decide)))).le (by show (603 + 1) * 2 ≤ 1300; decide)
theorem lw_band {t : Band} (ok : t.Ok) : Lw 1300 t.enc := by
  have h1 := ok.least
  have h2 := ok.most
  have h3 : Lw 31 (encO t.turn) := by
    cases e : t.turn with
    | none => exact lw_none
    | some x => exact lw_int (by have := ok.turn x e; omega)
  exact (lw_tup (lw_three (lw_int (by omega)) (lw_int (by omega)) h3)).le (by show (31 + 1) * 3 ≤ 1300; decide)
theorem repr_cb {c : Chain} {t : Band} (oc : c.Ok) (ot : t.Ok) : ReprOk (.list [c.enc, t.enc]) := by
  have h := lw_lst (lw_two (lw_chain oc) (lw_band ot))
  have sh : Sh 6 (.list [c.enc, t.enc]) := sh_lst (sh_two (sh_chain (n := 1) c) ((sh_band (n := 1) t).le (by decide)))
  refine ⟨h.show_, PyData.hasDict_of_canLay _ sh.lay, Nat.le_trans sh.deep (by decide), PyData.shown_fits (B := 13) (by decide) (by decide) h.leaf (Nat.le_trans h.wt (by show (1300 + 1) * 2 ≤ 2 ^ 20; decide)), _, .inl rfl⟩
theorem oneC_ok : oneC.Ok := ⟨⟨Nat.le_refl _, by decide⟩, fun h hh => by
  have : h = ⟨true, 2, 2, 1⟩ := by simpa [oneC] using hh
  subst this
  exact ⟨by decide, by decide, by decide⟩, by decide⟩
theorem otherC_ok : otherC.Ok := ⟨⟨Nat.le_refl _, by decide⟩, fun h hh => by
  have : h = ⟨false, 2, 1, 1⟩ := by simpa [otherC] using hh
  subst this
  exact ⟨by decide, by decide, by decide⟩, by decide⟩
theorem lateC_ok : lateC.Ok := ⟨⟨Nat.le_refl _, by decide⟩, fun h hh => by
  have : h = ⟨true, 2, 2, 4⟩ := by simpa [lateC] using hh
  subst this
  exact ⟨by decide, by decide, by decide⟩, by decide⟩
theorem twoC_ok : twoC.Ok := ⟨⟨by decide, by decide⟩, fun h hh => by
  have : h = ⟨true, 1, 1, 1⟩ ∨ h = ⟨true, 9, 9, 2⟩ := by simpa [twoC] using hh
  rcases this with this | this
  · subst this
    exact ⟨by decide, by decide, by decide⟩
  · subst this
    exact ⟨by decide, by decide, by decide⟩, by decide⟩
/-- what the law compares at the end -/
abbrev litH (a b e : Int) : PyData := .tuple [.tuple [.str "fill", .int a, .int b], .int e]
theorem due_1 : (if (SeqAt.shaped (encH (some ⟨true, 2, 2, 1⟩)) && SeqAt.shaped (litH 2 2 1)) = true then some (R.d (PyData.bool (!PyData.eqv (encH (some ⟨true, 2, 2, 1⟩)) (litH 2 2 1)))) else none) = some (R.d (.bool false)) := by
  rw [if_pos (by decide +kernel), show PyData.eqv (encH (some ⟨true, 2, 2, 1⟩)) (litH 2 2 1) = true by decide +kernel]
  rfl
theorem due_2 : (if (SeqAt.shaped (encH (some ⟨true, 2, 2, 4⟩)) && SeqAt.shaped (litH 2 2 4)) = true then some (R.d (PyData.bool (!PyData.eqv (encH (some ⟨true, 2, 2, 4⟩)) (litH 2 2 4)))) else none) = some (R.d (.bool false)) := by
  rw [if_pos (by decide +kernel), show PyData.eqv (encH (some ⟨true, 2, 2, 4⟩)) (litH 2 2 4) = true by decide +kernel]
  rfl
theorem due_3 : (if (SeqAt.shaped (encH (some ⟨true, 1, 1, 1⟩)) && SeqAt.shaped (litH 1 1 1)) = true then some (R.d (PyData.bool (PyData.eqv (encH (some ⟨true, 1, 1, 1⟩)) (litH 1 1 1)))) else none) = some (R.d (.bool true)) := by
  rw [if_pos (by decide +kernel), show PyData.eqv (encH (some ⟨true, 1, 1, 1⟩)) (litH 1 1 1) = true by decide +kernel]
theorem pss_ex {X : Cx} {P : Program} {w : World} {K : PySem.W.Frag} {sts : List Stmt} {sa : SW} (h : ∀ md G H, PDB ⟨K, P, w, md, G, H⟩ X sts sa) : PSs X sts (fun D σ H => ∃ md G0 H0, tS ⟨K, P, w, md, G0, H0⟩ sa D σ H) :=
  ⟨fun pins s σ H D I ⟨md, G0, H0, q⟩ => (h md G0 H0).ps.run pins s σ H D I q⟩
def spLaw (K : PySem.W.Frag) : Sp := fun vs H Q _ => ∃ (l : Addr) (ns : List Int), vs = [.ref l] ∧ SqL K H l (ns.map V.int) ∧ ns.length ≤ 63 ∧ ∀ H', Q (.bl true) H'
abbrev s_p_law : Stmt := topS 65
theorem sc_p_law : FnScope ["_law_script", "_law_m", "_law_turn", "_law_some", "_law_short", "_law_one", "_law_band_here", "_law_other", "_law_kept_so", "_law_late", "_law_pair"] ["_law_script"] (defScope s_p_law) := ⟨rfl, rfl, rfl, by decide +kernel, rfl, by decide +kernel, by decide +kernel⟩
theorem ok_p_law {f fb : Addr} {fd fbd : FuncData} (F : Fun K "law" "law" s_p_law f fd) (nb : Nb mg) (kc : Kc mg) (FB : FnOk P w K mg base CX0 2 fb fbd ["_law_script"] (spBegun K)) (bm : mg "_law_begun" = some (.ref fb)) (bk : PySem.W.keepIn K (.ref fb) = true) (bb : Binds K fbd ["_law_script"] [])
    (C_p_melted : Can P w K mg base 5 "melted" ["chain", "band", "most"] pt_p_melted) (C_p_are_alike : Can P w K mg base 6 "are_alike" ["one", "other", "band"] pt_p_are_alike) (C_q_melts_right : CanG P w K mg base 6 "_law_melts_right" ["_law_chain_here", "_law_band_here", "_law_most"] pt_q_melts_right) (C_q_draw : Can P w K mg base 2 "_law_draw" ["_law_m", "_law_limit"] pt_q_draw) (C_q_band : Can P w K mg base 3 "_law_band" ["_law_m", "_law_more"] pt_q_band) (C_q_house : Can P w K mg base 3 "_law_house" ["_law_m", "_law_high", "_law_late"] pt_q_house) (C_q_right : CanG P w K mg base 7 "_law_right" ["_law_one", "_law_other", "_law_band_here"] pt_q_right) (C_q_near : Can P w K mg base 3 "_law_near" ["_law_m", "_law_chain_here"] pt_q_near) (C_q_small : Can P w K mg base 5 "_law_small" ["_law_m"] pt_q_small) (C_q_wide_right : Can P w K mg base 7 "_law_wide_right" [] pt_q_wide_right) : FnG P w K mg base 8 f fd ["_law_script"] (spLaw K) := by
  refine fn_guard F sc_p_law (fun vs H Q E h => ?_) fun cdv A outer s H vs Q E hgd hr h => ?_
  · obtain ⟨l, ns, rfl, _⟩ := h
    rfl
  obtain ⟨l, ns, rfl, hl, hlen, q⟩ := h
  refine ⟨_, pss_cons (ps_set (i := 1) sc_p_law.nd rfl (by first | exact .inl rfl | exact .inr rfl) (pe_call FB (hr.mono (by decide)) (by rfl) bm bk bb .nil pass0 (pa_cons (pv 0) pa_nil)))
    (pss_ex (P := P) (w := w) (K := K) fun md G H =>
      (pdb_cons (pds_if (pdt_w (pdw_and (pdt_eqD hr.units (pv_ 0) (pd_lst pda_nil)) (pdw_and1 (pdt_not (pdt_val (pd_call0 C_q_wide_right (hr.mono (by decide)) (by rfl))))))) (pdb_one (pds_ret pd_bl)) pdb_nil)
      (pdb_cons (pds_for PassesOwn.never rfl (pdi_range1 (by rfl) nb.range (pda_cons pd_int pda_nil)) (pdg_name (i := 2) sc_p_law.nd rfl (by first | exact .inl rfl | exact .inr rfl)) (pdb_cons (pds_asg (pd_call C_q_small (hr.mono (by decide)) (by rfl) (pda_cons (pv_ 1) pda_nil)) (pdg_tup (n := 2) rfl (pdgs_cons (pdg_name (i := 5) sc_p_law.nd rfl (by first | exact .inl rfl | exact .inr rfl)) (pdgs_cons (pdg_name (i := 6) sc_p_law.nd rfl (by first | exact .inl rfl | exact .inr rfl)) pdgs_nil))))
      (pdb_cons (pds_par2X (pda_cons (pd_call C_q_near (hr.mono (by decide)) (by rfl) (pda_cons (pv_ 1) (pda_cons (pv_ 5) pda_nil))) (pda_cons (pd_repr hgd hr.units (by rfl) nb.repr (pda_cons (pd_lst (pda_cons (pv_ 5) (pda_cons (pv_ 6) pda_nil))) pda_nil)) pda_nil)) (fun h => ps_par (i := 7) (j := 8) rfl sc_p_law.nd rfl rfl (by decide) rfl rfl h (by rfl)))
      (pdb_cons (pds_if (pdt_w (pdw_or (pdt_not (pdt_val (pd_callG C_q_right hgd (hr.mono (by decide)) (by rfl) (pda_cons (pv_ 5) (pda_cons (pv_ 7) (pda_cons (pv_ 6) pda_nil)))))) (pdw_or1 (pdt_not (pdt_val (pd_callG C_q_right hgd (hr.mono (by decide)) (by rfl) (pda_cons (pv_ 5) (pda_cons (pv_ 5) (pda_cons (pv_ 6) pda_nil))))))))) (pdb_one (pds_ret pd_bl)) pdb_nil)
      (pdb_cons (pds_set (i := 3) sc_p_law.nd rfl (by first | exact .inl rfl | exact .inr rfl) (pd_slL (pd_lst (pda_cons (pd_call C_q_house (hr.mono (by decide)) (by rfl) (pda_cons (pv_ 1) (pda_cons pd_int (pda_cons pd_int pda_nil)))) (pda_cons (pd_call C_q_house (hr.mono (by decide)) (by rfl) (pda_cons (pv_ 1) (pda_cons pd_int (pda_cons pd_int pda_nil)))) pda_nil))) pdo_none (pdo_some (pd_add pd_int (pd_call C_q_draw (hr.mono (by decide)) (by rfl) (pda_cons (pv_ 1) (pda_cons pd_int pda_nil)))))))
      (pdb_cons (pds_set (i := 4) sc_p_law.nd rfl (by first | exact .inl rfl | exact .inr rfl) (pd_call C_q_band (hr.mono (by decide)) (by rfl) (pda_cons (pv_ 1) (pda_cons pd_int pda_nil))))
      (pdb_cons (pds_if (pdt_not (pdt_val (pd_callG C_q_melts_right hgd (hr.mono (by decide)) (by rfl) (pda_cons (pd_tup (pda_cons (pd_tuple (by rfl) nb.tuple (pda_cons (pv_ 3) pda_nil)) (pda_cons (pd_call C_q_draw (hr.mono (by decide)) (by rfl) (pda_cons (pv_ 1) (pda_cons pd_int pda_nil))) pda_nil))) (pda_cons (pd_tup (pda_cons (pd_ix (pv_ 4) pd_int) (pda_cons (pd_ix (pv_ 4) pd_int) (pda_cons pd_non pda_nil)))) (pda_cons (pd_call C_q_draw (hr.mono (by decide)) (by rfl) (pda_cons (pv_ 1) (pda_cons pd_int pda_nil))) pda_nil)))))) (pdb_one (pds_ret pd_bl)) pdb_nil)
      (pdb_one (pds_if (pdt_neS (pd_repr hgd hr.units (by rfl) nb.repr (pda_cons (pd_lst (pda_cons (pv_ 5) (pda_cons (pv_ 6) pda_nil))) pda_nil)) (pv_ 8)) (pdb_one (pds_ret pd_bl)) pdb_nil)))))))))
      (pdb_cons (pds_parNX (is := [5, 7]) (n := 2) (pda_cons (pd_tup (pda_cons (pd_tup (pda_cons (pd_tup (pda_cons (pd_tup (pda_cons pd_str (pda_cons pd_int (pda_cons pd_int pda_nil)))) (pda_cons pd_int pda_nil))) pda_nil)) (pda_cons pd_int pda_nil))) (pda_cons (pd_tup (pda_cons (pd_tup (pda_cons (pd_tup (pda_cons (pd_tup (pda_cons pd_str (pda_cons pd_int (pda_cons pd_int pda_nil)))) (pda_cons pd_int pda_nil))) pda_nil)) (pda_cons pd_int pda_nil))) pda_nil)) (fun h => ps_asg (pe_tup h) (pg_tup (n := 2) rfl (pgs_cons (pg_name (i := 5) sc_p_law.nd rfl (by first | exact .inl rfl | exact .inr rfl)) (pgs_cons (pg_name (i := 7) sc_p_law.nd rfl (by first | exact .inl rfl | exact .inr rfl)) pgs_nil)))))
      (pdb_cons (pds_if (pdt_w (pdw_or (pdt_not (pdt_val (pd_call C_p_are_alike (hr.mono (by decide)) (by rfl) (pda_cons (pv_ 5) (pda_cons (pv_ 7) (pda_cons (pd_tup (pda_cons pd_int (pda_cons pd_int (pda_cons pd_non pda_nil)))) pda_nil)))))) (pdw_or1 (pdt_neD hr.units (pd_call C_p_melted (hr.mono (by decide)) (by rfl) (pda_cons (pv_ 7) (pda_cons (pd_tup (pda_cons pd_int (pda_cons pd_int (pda_cons pd_int pda_nil)))) (pda_cons pd_int pda_nil)))) (pd_tup (pda_cons (pd_tup (pda_cons pd_str (pda_cons pd_int (pda_cons pd_int pda_nil)))) (pda_cons pd_int pda_nil))))))) (pdb_one (pds_ret pd_bl)) pdb_nil)
      (pdb_cons (pds_set (i := 9) sc_p_law.nd rfl (by first | exact .inl rfl | exact .inr rfl) (pd_tup (pda_cons (pd_tup (pda_cons (pd_tup (pda_cons (pd_tup (pda_cons pd_str (pda_cons pd_int (pda_cons pd_int pda_nil)))) (pda_cons pd_int pda_nil))) pda_nil)) (pda_cons pd_int pda_nil))))
      (pdb_cons (pds_if (pdt_neD hr.units (pd_call C_p_melted (hr.mono (by decide)) (by rfl) (pda_cons (pv_ 9) (pda_cons (pd_tup (pda_cons pd_int (pda_cons pd_int (pda_cons pd_non pda_nil)))) (pda_cons pd_int pda_nil)))) (pd_tup (pda_cons (pd_tup (pda_cons pd_str (pda_cons pd_int (pda_cons pd_int pda_nil)))) (pda_cons pd_int pda_nil)))) (pdb_one (pds_ret pd_bl)) pdb_nil)
      (pdb_cons (pds_set (i := 10) sc_p_law.nd rfl (by first | exact .inl rfl | exact .inr rfl) (pd_tup (pda_cons (pd_tup (pda_cons (pd_tup (pda_cons (pd_tup (pda_cons pd_str (pda_cons pd_int (pda_cons pd_int pda_nil)))) (pda_cons pd_int pda_nil))) (pda_cons (pd_tup (pda_cons (pd_tup (pda_cons pd_str (pda_cons pd_int (pda_cons pd_int pda_nil)))) (pda_cons pd_int pda_nil))) pda_nil))) (pda_cons pd_int pda_nil))))
      (pdb_one (pds_ret (pd_and (pd_eqD hr.units (pd_call C_p_melted (hr.mono (by decide)) (by rfl) (pda_cons (pv_ 10) (pda_cons (pd_tup (pda_cons pd_int (pda_cons pd_int (pda_cons pd_non pda_nil)))) (pda_cons pd_int pda_nil)))) (pd_tup (pda_cons (pd_tup (pda_cons pd_str (pda_cons pd_int (pda_cons pd_int pda_nil)))) (pda_cons pd_int pda_nil)))) (pd_one (pd_isN (pd_call C_p_melted (hr.mono (by decide)) (by rfl) (pda_cons (pv_ 10) (pda_cons (pd_tup (pda_cons pd_int (pda_cons pd_int (pda_cons pd_non pda_nil)))) (pda_cons pd_int pda_nil)))) pd_non))))))))))))), ?_⟩
  refine ⟨_, rfl, ?_⟩
  refine ⟨l, ns, rfl, hl, hlen, fun H1 a cl gl s1 ha hcl hgl inv => ?_⟩
  have inv' := inv
  obtain ⟨ne, n0, cells, great, hA, hC, hG, _⟩ := inv'
  have ok : Ct.Ok ⟨K, P, w, .m a cl gl, H, H1⟩ := fun b hb => by
    rcases hb with rfl | rfl | rfl
    · exact ⟨(by show H1 _ ≠ none; rw [hA]; exact fun z => nomatch z), ha⟩
    · exact ⟨(by show H1 _ ≠ none; rw [hC]; exact fun z => nomatch z), hcl⟩
    · exact ⟨(by show H1 _ ≠ none; rw [hG]; exact fun z => nomatch z), hgl⟩
  have S1 : DState ⟨K, P, w, .m a cl gl, H, H1⟩ 0 H H1 [some (.ref l), some (.ref a), none, none, none, none, none, none, none, none, none] [some (.d (.list (ns.map PyData.int))), some .m, none, none, none, none, none, none, none, none, none] := by
    refine ⟨ok, Go.refl s1, inv, rfl, fun _ => [], fun i r e => ?_, fun _ _ _ _ _ _ _ z hz => nomatch hz⟩
    match i, e with
    | 0, e =>
      cases e
      exact ⟨.ref l, rfl, rk_d (.lst hl (ints_dpAll ns))⟩
    | 1, e =>
      cases e
      exact ⟨.ref a, rfl, (fun _ z => nomatch z), List.nodup_nil, rfl, a, cl, gl, rfl, rfl⟩
    | 2, e => cases e
    | 3, e => cases e
    | 4, e => cases e
    | 5, e => cases e
    | 6, e => cases e
    | 7, e => cases e
    | 8, e => cases e
    | 9, e => cases e
    | 10, e => cases e
    | i + 11, e => cases e
  refine ⟨.m a cl gl, H, H1, H, _, 0, S1, ?_⟩
  -- what the rest reckons
  have goal : ∀ b', OutP ⟨K, P, w, .m a cl gl, H, H1⟩ H { nx := fun x H' => Q V.non H', rt := Q } (.rt (.bool true)) b' := fun b' G' H' v _ _ kd => by
    rw [dp_bool kd]
    exact q H'
  revert goal
  generalize OutP ⟨K, P, w, .m a cl gl, H, H1⟩ H { nx := fun x H' => Q V.non H', rt := Q } = Q0
  intro goal
  refine step_gen (fun ρ1 b1 => b1 = 0 ∧ ρ1 = [some (.d (.list (ns.map PyData.int))), some .m, none, none, none, none, none, none, none, none, none]) (fun K0 hK => ?_) ?_
  · have sG : SeqAt.shaped (.list (ns.map PyData.int)) = true := (sh_lst (n := 0) (sh_map fun i _ => sh_int i)).shaped (by decide)
    have snil : SeqAt.shaped (.list []) = true := by decide
    simp only [sSeq, sNil, sAsg, sRet, sIf, sSet, sExpr, sFrz, sMove, sApp, sExt, sPar, eOp, eUn, eVar, eC, eIf, eAnd, eOr, eChain, tVal, uAnd, uOr, uNot, uTrue, eTup, eLst, eBi, eSl, partR, eIsi, eCall, eCallL, aCons, aNil, allD, dTup, dCons, dName, dNil, dSub, rho0, endD, lft, frz, stor, storAll, setAll, rtD, vIx, seqR, vII, vIC, vAdd, vSub, vMul, vFdiv, vMod, vPow, vLt, vLe, vGt, vGe, vEqS, vNeS, vIsN, vNotN, vNot, vNeg, isNo, vMin2, vMax2, vAbs, vInt1, vLen, vTuple, vList, vSum, isTy, vNotInK, vLenK, sKset, vIxoo, dSuboo, eCompL, eDict1, datR, vEqD, vNeD, vCatT, vCatL, iSeq, iTupW, iRg1, iRg2, sFor, noL, noL1, lend, scalD, R.held, R.fresh, List.map_cons, List.map_nil, List.length_cons, List.length_nil, List.cons_append, List.nil_append, List.getElem?_cons_zero, List.getElem?_cons_succ, List.set_cons_zero, List.set_cons_succ, List.replicate_succ, List.replicate_zero, Nat.zero_add, Nat.reduceAdd, Nat.reduceSub, Nat.reduceLT, Option.join_some, Option.join_none, Option.bind_some, Option.map_some, List.all_cons, List.all_nil, Bool.and_true, Bool.true_and, Bool.not_true, Bool.not_false, and_true, true_and, if_true, if_false, Bool.false_eq_true, decide_true, decide_false, reduceIte, sG, snil, eqv_lnil]
    cases ns with
    | nil =>
      simp only [sSeq, sNil, sAsg, sRet, sIf, sSet, sExpr, sFrz, sMove, sApp, sExt, sPar, eOp, eUn, eVar, eC, eIf, eAnd, eOr, eChain, tVal, uAnd, uOr, uNot, uTrue, eTup, eLst, eBi, eSl, partR, eIsi, eCall, eCallL, aCons, aNil, allD, dTup, dCons, dName, dNil, dSub, rho0, endD, lft, frz, stor, storAll, setAll, rtD, vIx, seqR, vII, vIC, vAdd, vSub, vMul, vFdiv, vMod, vPow, vLt, vLe, vGt, vGe, vEqS, vNeS, vIsN, vNotN, vNot, vNeg, isNo, vMin2, vMax2, vAbs, vInt1, vLen, vTuple, vList, vSum, isTy, vNotInK, vLenK, sKset, vIxoo, dSuboo, eCompL, eDict1, datR, vEqD, vNeD, vCatT, vCatL, iSeq, iTupW, iRg1, iRg2, sFor, noL, noL1, lend, scalD, R.held, R.fresh, List.map_cons, List.map_nil, List.length_cons, List.length_nil, List.cons_append, List.nil_append, List.getElem?_cons_zero, List.getElem?_cons_succ, List.set_cons_zero, List.set_cons_succ, List.replicate_succ, List.replicate_zero, Nat.zero_add, Nat.reduceAdd, Nat.reduceSub, Nat.reduceLT, Option.join_some, Option.join_none, Option.bind_some, Option.map_some, List.all_cons, List.all_nil, Bool.and_true, Bool.true_and, Bool.not_true, Bool.not_false, and_true, true_and, if_true, if_false, Bool.false_eq_true, decide_true, decide_false, reduceIte, List.isEmpty_nil]
      refine ⟨wide_run, rfl, ?_⟩
      simp only [sSeq, sNil, sAsg, sRet, sIf, sSet, sExpr, sFrz, sMove, sApp, sExt, sPar, eOp, eUn, eVar, eC, eIf, eAnd, eOr, eChain, tVal, uAnd, uOr, uNot, uTrue, eTup, eLst, eBi, eSl, partR, eIsi, eCall, eCallL, aCons, aNil, allD, dTup, dCons, dName, dNil, dSub, rho0, endD, lft, frz, stor, storAll, setAll, rtD, vIx, seqR, vII, vIC, vAdd, vSub, vMul, vFdiv, vMod, vPow, vLt, vLe, vGt, vGe, vEqS, vNeS, vIsN, vNotN, vNot, vNeg, isNo, vMin2, vMax2, vAbs, vInt1, vLen, vTuple, vList, vSum, isTy, vNotInK, vLenK, sKset, vIxoo, dSuboo, eCompL, eDict1, datR, vEqD, vNeD, vCatT, vCatL, iSeq, iTupW, iRg1, iRg2, sFor, noL, noL1, lend, scalD, R.held, R.fresh, List.map_cons, List.map_nil, List.length_cons, List.length_nil, List.cons_append, List.nil_append, List.getElem?_cons_zero, List.getElem?_cons_succ, List.set_cons_zero, List.set_cons_succ, List.replicate_succ, List.replicate_zero, Nat.zero_add, Nat.reduceAdd, Nat.reduceSub, Nat.reduceLT, Option.join_some, Option.join_none, Option.bind_some, Option.map_some, List.all_cons, List.all_nil, Bool.and_true, Bool.true_and, Bool.not_true, Bool.not_false, and_true, true_and, if_true, if_false, Bool.false_eq_true, decide_true, decide_false, reduceIte]
      exact hK _ _ ⟨rfl, rfl⟩
    | cons x xs =>
      simp only [sSeq, sNil, sAsg, sRet, sIf, sSet, sExpr, sFrz, sMove, sApp, sExt, sPar, eOp, eUn, eVar, eC, eIf, eAnd, eOr, eChain, tVal, uAnd, uOr, uNot, uTrue, eTup, eLst, eBi, eSl, partR, eIsi, eCall, eCallL, aCons, aNil, allD, dTup, dCons, dName, dNil, dSub, rho0, endD, lft, frz, stor, storAll, setAll, rtD, vIx, seqR, vII, vIC, vAdd, vSub, vMul, vFdiv, vMod, vPow, vLt, vLe, vGt, vGe, vEqS, vNeS, vIsN, vNotN, vNot, vNeg, isNo, vMin2, vMax2, vAbs, vInt1, vLen, vTuple, vList, vSum, isTy, vNotInK, vLenK, sKset, vIxoo, dSuboo, eCompL, eDict1, datR, vEqD, vNeD, vCatT, vCatL, iSeq, iTupW, iRg1, iRg2, sFor, noL, noL1, lend, scalD, R.held, R.fresh, List.map_cons, List.map_nil, List.length_cons, List.length_nil, List.cons_append, List.nil_append, List.getElem?_cons_zero, List.getElem?_cons_succ, List.set_cons_zero, List.set_cons_succ, List.replicate_succ, List.replicate_zero, Nat.zero_add, Nat.reduceAdd, Nat.reduceSub, Nat.reduceLT, Option.join_some, Option.join_none, Option.bind_some, Option.map_some, List.all_cons, List.all_nil, Bool.and_true, Bool.true_and, Bool.not_true, Bool.not_false, and_true, true_and, if_true, if_false, Bool.false_eq_true, decide_true, decide_false, reduceIte, List.isEmpty_cons]
      exact hK _ _ ⟨rfl, rfl⟩
  rintro ρ1 b1 ⟨rfl, rfl⟩
  refine step_gen (fun ρ1 b1 => ∃ z2 z3 z4 z5 z6 z7 z8, ρ1 = [some (.d (.list (ns.map PyData.int))), some .m, z2, z3, z4, z5, z6, z7, z8, none, none]) (fun K0 hK => ?_) ?_
  · simp only [sFor, iRg1, aCons, aNil, eC]
    refine ⟨by decide, ?_⟩
    refine for_cps (fun i ρ b' => b' ≤ 60 * i ∧ ∃ z2 z3 z4 z5 z6 z7 z8, ρ = [some (.d (.list (ns.map PyData.int))), some .m, z2, z3, z4, z5, z6, z7, z8, none, none]) (fun _ _ => False) _ ?_ ?_ (fun _ _ z => z.elim) ⟨Nat.zero_le _, none, none, none, none, none, none, none, rfl⟩
    · rintro i x ρ b' Q' hx ⟨hb', z2, z3, z4, z5, z6, z7, z8, rfl⟩ hq _
      obtain ⟨rfl, hi⟩ := rangeD_get hx
      have hi4 : i < 4 := hi
      simp only [dName, List.set_cons_zero, List.set_cons_succ]
      refine step_gen (fun ρ1 b1 => ∃ (c : Chain) (t : Band), c.Sm ∧ t.Ok ∧ b1 ≤ b' + 13 ∧ ρ1 = [some (.d (.list (ns.map PyData.int))), some .m, some (.d (.int (0 + (i : Int)))), z3, z4, some (.d c.enc), some (.d t.enc), z7, z8, none, none]) (fun K0 hK => ?_) ?_
      · simp only [sSeq, sNil, sAsg, sRet, sIf, sSet, sExpr, sFrz, sMove, sApp, sExt, sPar, eOp, eUn, eVar, eC, eIf, eAnd, eOr, eChain, tVal, uAnd, uOr, uNot, uTrue, eTup, eLst, eBi, eSl, partR, eIsi, eCall, eCallL, aCons, aNil, allD, dTup, dCons, dName, dNil, dSub, rho0, endD, lft, frz, stor, storAll, setAll, rtD, vIx, seqR, vII, vIC, vAdd, vSub, vMul, vFdiv, vMod, vPow, vLt, vLe, vGt, vGe, vEqS, vNeS, vIsN, vNotN, vNot, vNeg, isNo, vMin2, vMax2, vAbs, vInt1, vLen, vTuple, vList, vSum, isTy, vNotInK, vLenK, sKset, vIxoo, dSuboo, eCompL, eDict1, datR, vEqD, vNeD, vCatT, vCatL, iSeq, iTupW, iRg1, iRg2, sFor, noL, noL1, lend, scalD, R.held, R.fresh, List.map_cons, List.map_nil, List.length_cons, List.length_nil, List.cons_append, List.nil_append, List.getElem?_cons_zero, List.getElem?_cons_succ, List.set_cons_zero, List.set_cons_succ, List.replicate_succ, List.replicate_zero, Nat.zero_add, Nat.reduceAdd, Nat.reduceSub, Nat.reduceLT, Option.join_some, Option.join_none, Option.bind_some, Option.map_some, List.all_cons, List.all_nil, Bool.and_true, Bool.true_and, Bool.not_true, Bool.not_false, and_true, true_and, if_true, if_false, Bool.false_eq_true, decide_true, decide_false, reduceIte]
        refine ⟨by omega, rfl, fun c t b1 hc ht hb1 => ?_⟩
        simp only [sSeq, sNil, sAsg, sRet, sIf, sSet, sExpr, sFrz, sMove, sApp, sExt, sPar, eOp, eUn, eVar, eC, eIf, eAnd, eOr, eChain, tVal, uAnd, uOr, uNot, uTrue, eTup, eLst, eBi, eSl, partR, eIsi, eCall, eCallL, aCons, aNil, allD, dTup, dCons, dName, dNil, dSub, rho0, endD, lft, frz, stor, storAll, setAll, rtD, vIx, seqR, vII, vIC, vAdd, vSub, vMul, vFdiv, vMod, vPow, vLt, vLe, vGt, vGe, vEqS, vNeS, vIsN, vNotN, vNot, vNeg, isNo, vMin2, vMax2, vAbs, vInt1, vLen, vTuple, vList, vSum, isTy, vNotInK, vLenK, sKset, vIxoo, dSuboo, eCompL, eDict1, datR, vEqD, vNeD, vCatT, vCatL, iSeq, iTupW, iRg1, iRg2, sFor, noL, noL1, lend, scalD, R.held, R.fresh, List.map_cons, List.map_nil, List.length_cons, List.length_nil, List.cons_append, List.nil_append, List.getElem?_cons_zero, List.getElem?_cons_succ, List.set_cons_zero, List.set_cons_succ, List.replicate_succ, List.replicate_zero, Nat.zero_add, Nat.reduceAdd, Nat.reduceSub, Nat.reduceLT, Option.join_some, Option.join_none, Option.bind_some, Option.map_some, List.all_cons, List.all_nil, Bool.and_true, Bool.true_and, Bool.not_true, Bool.not_false, and_true, true_and, if_true, if_false, Bool.false_eq_true, decide_true, decide_false, reduceIte]
        exact hK _ _ ⟨c, t, hc, ht, hb1, rfl⟩
      rintro ρ1 b1 ⟨c, t, hc, ht, hb1, rfl⟩
      have hrep := repr_cb hc.ok ht
      refine step_gen (fun ρ1 b2 => ∃ (d : Chain), d.Ok ∧ b2 ≤ b1 + 4 ∧ ρ1 = [some (.d (.list (ns.map PyData.int))), some .m, some (.d (.int (0 + (i : Int)))), z3, z4, some (.d c.enc), some (.d t.enc), some (.d d.enc), some (.d (.str (PyData.list [c.enc, t.enc]).shown)), none, none]) (fun K0 hK => ?_) ?_
      · simp only [sSeq, sNil, sAsg, sRet, sIf, sSet, sExpr, sFrz, sMove, sApp, sExt, sPar, eOp, eUn, eVar, eC, eIf, eAnd, eOr, eChain, tVal, uAnd, uOr, uNot, uTrue, eTup, eLst, eBi, eSl, partR, eIsi, eCall, eCallL, aCons, aNil, allD, dTup, dCons, dName, dNil, dSub, rho0, endD, lft, frz, stor, storAll, setAll, rtD, vIx, seqR, vII, vIC, vAdd, vSub, vMul, vFdiv, vMod, vPow, vLt, vLe, vGt, vGe, vEqS, vNeS, vIsN, vNotN, vNot, vNeg, isNo, vMin2, vMax2, vAbs, vInt1, vLen, vTuple, vList, vSum, isTy, vNotInK, vLenK, sKset, vIxoo, dSuboo, eCompL, eDict1, datR, vEqD, vNeD, vCatT, vCatL, iSeq, iTupW, iRg1, iRg2, sFor, noL, noL1, lend, scalD, R.held, R.fresh, List.map_cons, List.map_nil, List.length_cons, List.length_nil, List.cons_append, List.nil_append, List.getElem?_cons_zero, List.getElem?_cons_succ, List.set_cons_zero, List.set_cons_succ, List.replicate_succ, List.replicate_zero, Nat.zero_add, Nat.reduceAdd, Nat.reduceSub, Nat.reduceLT, Option.join_some, Option.join_none, Option.bind_some, Option.map_some, List.all_cons, List.all_nil, Bool.and_true, Bool.true_and, Bool.not_true, Bool.not_false, and_true, true_and, if_true, if_false, Bool.false_eq_true, decide_true, decide_false, reduceIte]
        refine ⟨c, hc, by omega, rfl, fun d b2 hd hb2 => ?_⟩
        simp only [sSeq, sNil, sAsg, sRet, sIf, sSet, sExpr, sFrz, sMove, sApp, sExt, sPar, eOp, eUn, eVar, eC, eIf, eAnd, eOr, eChain, tVal, uAnd, uOr, uNot, uTrue, eTup, eLst, eBi, eSl, partR, eIsi, eCall, eCallL, aCons, aNil, allD, dTup, dCons, dName, dNil, dSub, rho0, endD, lft, frz, stor, storAll, setAll, rtD, vIx, seqR, vII, vIC, vAdd, vSub, vMul, vFdiv, vMod, vPow, vLt, vLe, vGt, vGe, vEqS, vNeS, vIsN, vNotN, vNot, vNeg, isNo, vMin2, vMax2, vAbs, vInt1, vLen, vTuple, vList, vSum, isTy, vNotInK, vLenK, sKset, vIxoo, dSuboo, eCompL, eDict1, datR, vEqD, vNeD, vCatT, vCatL, iSeq, iTupW, iRg1, iRg2, sFor, noL, noL1, lend, scalD, R.held, R.fresh, List.map_cons, List.map_nil, List.length_cons, List.length_nil, List.cons_append, List.nil_append, List.getElem?_cons_zero, List.getElem?_cons_succ, List.set_cons_zero, List.set_cons_succ, List.replicate_succ, List.replicate_zero, Nat.zero_add, Nat.reduceAdd, Nat.reduceSub, Nat.reduceLT, Option.join_some, Option.join_none, Option.bind_some, Option.map_some, List.all_cons, List.all_nil, Bool.and_true, Bool.true_and, Bool.not_true, Bool.not_false, and_true, true_and, if_true, if_false, Bool.false_eq_true, decide_true, decide_false, reduceIte, vRepr, if_pos hrep]
        exact hK _ _ ⟨d, hd, hb2, rfl⟩
      rintro ρ1 b2 ⟨d, hd, hb2, rfl⟩
      refine step_gen (fun ρ1 b3 => b3 = b2 ∧ ρ1 = [some (.d (.list (ns.map PyData.int))), some .m, some (.d (.int (0 + (i : Int)))), z3, z4, some (.d c.enc), some (.d t.enc), some (.d d.enc), some (.d (.str (PyData.list [c.enc, t.enc]).shown)), none, none]) (fun K0 hK => ?_) ?_
      · simp only [sSeq, sNil, sAsg, sRet, sIf, sSet, sExpr, sFrz, sMove, sApp, sExt, sPar, eOp, eUn, eVar, eC, eIf, eAnd, eOr, eChain, tVal, uAnd, uOr, uNot, uTrue, eTup, eLst, eBi, eSl, partR, eIsi, eCall, eCallL, aCons, aNil, allD, dTup, dCons, dName, dNil, dSub, rho0, endD, lft, frz, stor, storAll, setAll, rtD, vIx, seqR, vII, vIC, vAdd, vSub, vMul, vFdiv, vMod, vPow, vLt, vLe, vGt, vGe, vEqS, vNeS, vIsN, vNotN, vNot, vNeg, isNo, vMin2, vMax2, vAbs, vInt1, vLen, vTuple, vList, vSum, isTy, vNotInK, vLenK, sKset, vIxoo, dSuboo, eCompL, eDict1, datR, vEqD, vNeD, vCatT, vCatL, iSeq, iTupW, iRg1, iRg2, sFor, noL, noL1, lend, scalD, R.held, R.fresh, List.map_cons, List.map_nil, List.length_cons, List.length_nil, List.cons_append, List.nil_append, List.getElem?_cons_zero, List.getElem?_cons_succ, List.set_cons_zero, List.set_cons_succ, List.replicate_succ, List.replicate_zero, Nat.zero_add, Nat.reduceAdd, Nat.reduceSub, Nat.reduceLT, Option.join_some, Option.join_none, Option.bind_some, Option.map_some, List.all_cons, List.all_nil, Bool.and_true, Bool.true_and, Bool.not_true, Bool.not_false, and_true, true_and, if_true, if_false, Bool.false_eq_true, decide_true, decide_false, reduceIte]
        refine ⟨c, d, t, hc.ok, hd, ht, rfl, ?_⟩
        simp only [sSeq, sNil, sAsg, sRet, sIf, sSet, sExpr, sFrz, sMove, sApp, sExt, sPar, eOp, eUn, eVar, eC, eIf, eAnd, eOr, eChain, tVal, uAnd, uOr, uNot, uTrue, eTup, eLst, eBi, eSl, partR, eIsi, eCall, eCallL, aCons, aNil, allD, dTup, dCons, dName, dNil, dSub, rho0, endD, lft, frz, stor, storAll, setAll, rtD, vIx, seqR, vII, vIC, vAdd, vSub, vMul, vFdiv, vMod, vPow, vLt, vLe, vGt, vGe, vEqS, vNeS, vIsN, vNotN, vNot, vNeg, isNo, vMin2, vMax2, vAbs, vInt1, vLen, vTuple, vList, vSum, isTy, vNotInK, vLenK, sKset, vIxoo, dSuboo, eCompL, eDict1, datR, vEqD, vNeD, vCatT, vCatL, iSeq, iTupW, iRg1, iRg2, sFor, noL, noL1, lend, scalD, R.held, R.fresh, List.map_cons, List.map_nil, List.length_cons, List.length_nil, List.cons_append, List.nil_append, List.getElem?_cons_zero, List.getElem?_cons_succ, List.set_cons_zero, List.set_cons_succ, List.replicate_succ, List.replicate_zero, Nat.zero_add, Nat.reduceAdd, Nat.reduceSub, Nat.reduceLT, Option.join_some, Option.join_none, Option.bind_some, Option.map_some, List.all_cons, List.all_nil, Bool.and_true, Bool.true_and, Bool.not_true, Bool.not_false, and_true, true_and, if_true, if_false, Bool.false_eq_true, decide_true, decide_false, reduceIte]
        refine ⟨c, c, t, hc.ok, hc.ok, ht, rfl, ?_⟩
        simp only [sSeq, sNil, sAsg, sRet, sIf, sSet, sExpr, sFrz, sMove, sApp, sExt, sPar, eOp, eUn, eVar, eC, eIf, eAnd, eOr, eChain, tVal, uAnd, uOr, uNot, uTrue, eTup, eLst, eBi, eSl, partR, eIsi, eCall, eCallL, aCons, aNil, allD, dTup, dCons, dName, dNil, dSub, rho0, endD, lft, frz, stor, storAll, setAll, rtD, vIx, seqR, vII, vIC, vAdd, vSub, vMul, vFdiv, vMod, vPow, vLt, vLe, vGt, vGe, vEqS, vNeS, vIsN, vNotN, vNot, vNeg, isNo, vMin2, vMax2, vAbs, vInt1, vLen, vTuple, vList, vSum, isTy, vNotInK, vLenK, sKset, vIxoo, dSuboo, eCompL, eDict1, datR, vEqD, vNeD, vCatT, vCatL, iSeq, iTupW, iRg1, iRg2, sFor, noL, noL1, lend, scalD, R.held, R.fresh, List.map_cons, List.map_nil, List.length_cons, List.length_nil, List.cons_append, List.nil_append, List.getElem?_cons_zero, List.getElem?_cons_succ, List.set_cons_zero, List.set_cons_succ, List.replicate_succ, List.replicate_zero, Nat.zero_add, Nat.reduceAdd, Nat.reduceSub, Nat.reduceLT, Option.join_some, Option.join_none, Option.bind_some, Option.map_some, List.all_cons, List.all_nil, Bool.and_true, Bool.true_and, Bool.not_true, Bool.not_false, and_true, true_and, if_true, if_false, Bool.false_eq_true, decide_true, decide_false, reduceIte]
        exact hK _ _ ⟨rfl, rfl⟩
      rintro ρ1 b3 ⟨rfl, rfl⟩
      refine step_gen (fun ρ1 b4 => ∃ (hs : List House), 1 ≤ hs.length ∧ hs.length ≤ 2 ∧ (∀ h ∈ hs, h.Ok) ∧ b4 ≤ b3 + 9 ∧ ρ1 = [some (.d (.list (ns.map PyData.int))), some .m, some (.d (.int (0 + (i : Int)))), some (.o false (hs.map House.enc)), z4, some (.d c.enc), some (.d t.enc), some (.d d.enc), some (.d (.str (PyData.list [c.enc, t.enc]).shown)), none, none]) (fun K0 hK => ?_) ?_
      · simp only [sSeq, sNil, sAsg, sRet, sIf, sSet, sExpr, sFrz, sMove, sApp, sExt, sPar, eOp, eUn, eVar, eC, eIf, eAnd, eOr, eChain, tVal, uAnd, uOr, uNot, uTrue, eTup, eLst, eBi, eSl, partR, eIsi, eCall, eCallL, aCons, aNil, allD, dTup, dCons, dName, dNil, dSub, rho0, endD, lft, frz, stor, storAll, setAll, rtD, vIx, seqR, vII, vIC, vAdd, vSub, vMul, vFdiv, vMod, vPow, vLt, vLe, vGt, vGe, vEqS, vNeS, vIsN, vNotN, vNot, vNeg, isNo, vMin2, vMax2, vAbs, vInt1, vLen, vTuple, vList, vSum, isTy, vNotInK, vLenK, sKset, vIxoo, dSuboo, eCompL, eDict1, datR, vEqD, vNeD, vCatT, vCatL, iSeq, iTupW, iRg1, iRg2, sFor, noL, noL1, lend, scalD, R.held, R.fresh, List.map_cons, List.map_nil, List.length_cons, List.length_nil, List.cons_append, List.nil_append, List.getElem?_cons_zero, List.getElem?_cons_succ, List.set_cons_zero, List.set_cons_succ, List.replicate_succ, List.replicate_zero, Nat.zero_add, Nat.reduceAdd, Nat.reduceSub, Nat.reduceLT, Option.join_some, Option.join_none, Option.bind_some, Option.map_some, List.all_cons, List.all_nil, Bool.and_true, Bool.true_and, Bool.not_true, Bool.not_false, and_true, true_and, if_true, if_false, Bool.false_eq_true, decide_true, decide_false, reduceIte]
        refine ⟨2, 1, by omega, by omega, by omega, by omega, by omega, rfl, fun h b4 hh hb4 => ?_⟩
        simp only [sSeq, sNil, sAsg, sRet, sIf, sSet, sExpr, sFrz, sMove, sApp, sExt, sPar, eOp, eUn, eVar, eC, eIf, eAnd, eOr, eChain, tVal, uAnd, uOr, uNot, uTrue, eTup, eLst, eBi, eSl, partR, eIsi, eCall, eCallL, aCons, aNil, allD, dTup, dCons, dName, dNil, dSub, rho0, endD, lft, frz, stor, storAll, setAll, rtD, vIx, seqR, vII, vIC, vAdd, vSub, vMul, vFdiv, vMod, vPow, vLt, vLe, vGt, vGe, vEqS, vNeS, vIsN, vNotN, vNot, vNeg, isNo, vMin2, vMax2, vAbs, vInt1, vLen, vTuple, vList, vSum, isTy, vNotInK, vLenK, sKset, vIxoo, dSuboo, eCompL, eDict1, datR, vEqD, vNeD, vCatT, vCatL, iSeq, iTupW, iRg1, iRg2, sFor, noL, noL1, lend, scalD, R.held, R.fresh, List.map_cons, List.map_nil, List.length_cons, List.length_nil, List.cons_append, List.nil_append, List.getElem?_cons_zero, List.getElem?_cons_succ, List.set_cons_zero, List.set_cons_succ, List.replicate_succ, List.replicate_zero, Nat.zero_add, Nat.reduceAdd, Nat.reduceSub, Nat.reduceLT, Option.join_some, Option.join_none, Option.bind_some, Option.map_some, List.all_cons, List.all_nil, Bool.and_true, Bool.true_and, Bool.not_true, Bool.not_false, and_true, true_and, if_true, if_false, Bool.false_eq_true, decide_true, decide_false, reduceIte]
        refine ⟨5, 1, by omega, by omega, by omega, by omega, by omega, rfl, fun h2 b5 hh2 hb5 => ?_⟩
        simp only [sSeq, sNil, sAsg, sRet, sIf, sSet, sExpr, sFrz, sMove, sApp, sExt, sPar, eOp, eUn, eVar, eC, eIf, eAnd, eOr, eChain, tVal, uAnd, uOr, uNot, uTrue, eTup, eLst, eBi, eSl, partR, eIsi, eCall, eCallL, aCons, aNil, allD, dTup, dCons, dName, dNil, dSub, rho0, endD, lft, frz, stor, storAll, setAll, rtD, vIx, seqR, vII, vIC, vAdd, vSub, vMul, vFdiv, vMod, vPow, vLt, vLe, vGt, vGe, vEqS, vNeS, vIsN, vNotN, vNot, vNeg, isNo, vMin2, vMax2, vAbs, vInt1, vLen, vTuple, vList, vSum, isTy, vNotInK, vLenK, sKset, vIxoo, dSuboo, eCompL, eDict1, datR, vEqD, vNeD, vCatT, vCatL, iSeq, iTupW, iRg1, iRg2, sFor, noL, noL1, lend, scalD, R.held, R.fresh, List.map_cons, List.map_nil, List.length_cons, List.length_nil, List.cons_append, List.nil_append, List.getElem?_cons_zero, List.getElem?_cons_succ, List.set_cons_zero, List.set_cons_succ, List.replicate_succ, List.replicate_zero, Nat.zero_add, Nat.reduceAdd, Nat.reduceSub, Nat.reduceLT, Option.join_some, Option.join_none, Option.bind_some, Option.map_some, List.all_cons, List.all_nil, Bool.and_true, Bool.true_and, Bool.not_true, Bool.not_false, and_true, true_and, if_true, if_false, Bool.false_eq_true, decide_true, decide_false, reduceIte]
        refine ⟨2, by omega, by omega, by omega, rfl, fun r r1 r2 => ?_⟩
        simp only [sSeq, sNil, sAsg, sRet, sIf, sSet, sExpr, sFrz, sMove, sApp, sExt, sPar, eOp, eUn, eVar, eC, eIf, eAnd, eOr, eChain, tVal, uAnd, uOr, uNot, uTrue, eTup, eLst, eBi, eSl, partR, eIsi, eCall, eCallL, aCons, aNil, allD, dTup, dCons, dName, dNil, dSub, rho0, endD, lft, frz, stor, storAll, setAll, rtD, vIx, seqR, vII, vIC, vAdd, vSub, vMul, vFdiv, vMod, vPow, vLt, vLe, vGt, vGe, vEqS, vNeS, vIsN, vNotN, vNot, vNeg, isNo, vMin2, vMax2, vAbs, vInt1, vLen, vTuple, vList, vSum, isTy, vNotInK, vLenK, sKset, vIxoo, dSuboo, eCompL, eDict1, datR, vEqD, vNeD, vCatT, vCatL, iSeq, iTupW, iRg1, iRg2, sFor, noL, noL1, lend, scalD, R.held, R.fresh, List.map_cons, List.map_nil, List.length_cons, List.length_nil, List.cons_append, List.nil_append, List.getElem?_cons_zero, List.getElem?_cons_succ, List.set_cons_zero, List.set_cons_succ, List.replicate_succ, List.replicate_zero, Nat.zero_add, Nat.reduceAdd, Nat.reduceSub, Nat.reduceLT, Option.join_some, Option.join_none, Option.bind_some, Option.map_some, List.all_cons, List.all_nil, Bool.and_true, Bool.true_and, Bool.not_true, Bool.not_false, and_true, true_and, if_true, if_false, Bool.false_eq_true, decide_true, decide_false, reduceIte]
        have hr2 : r = 0 ∨ r = 1 := by omega
        rcases hr2 with rfl | rfl
        · exact hK _ _ ⟨[h], Nat.le_refl _, (by show 1 ≤ 2; decide), fun x hx => by
            have : x = h := by simpa using hx
            rw [this]; exact hh.ok, by omega, rfl⟩
        · exact hK _ _ ⟨[h, h2], (by show 1 ≤ 2; decide), Nat.le_refl _, fun x hx => by
            rcases List.mem_cons.mp hx with rfl | hx
            · exact hh.ok
            · have : x = h2 := by simpa using hx
              rw [this]; exact hh2.ok, by omega, rfl⟩
      rintro ρ1 b4 ⟨hs, hs1, hs2, hso, hb4, rfl⟩
      refine step_gen (fun ρ1 b5 => ∃ (t2 : Band), t2.Ok ∧ b5 ≤ b4 + 3 ∧ ρ1 = [some (.d (.list (ns.map PyData.int))), some .m, some (.d (.int (0 + (i : Int)))), some (.o false (hs.map House.enc)), some (.d t2.enc), some (.d c.enc), some (.d t.enc), some (.d d.enc), some (.d (.str (PyData.list [c.enc, t.enc]).shown)), none, none]) (fun K0 hK => ?_) ?_
      · simp only [sSeq, sNil, sAsg, sRet, sIf, sSet, sExpr, sFrz, sMove, sApp, sExt, sPar, eOp, eUn, eVar, eC, eIf, eAnd, eOr, eChain, tVal, uAnd, uOr, uNot, uTrue, eTup, eLst, eBi, eSl, partR, eIsi, eCall, eCallL, aCons, aNil, allD, dTup, dCons, dName, dNil, dSub, rho0, endD, lft, frz, stor, storAll, setAll, rtD, vIx, seqR, vII, vIC, vAdd, vSub, vMul, vFdiv, vMod, vPow, vLt, vLe, vGt, vGe, vEqS, vNeS, vIsN, vNotN, vNot, vNeg, isNo, vMin2, vMax2, vAbs, vInt1, vLen, vTuple, vList, vSum, isTy, vNotInK, vLenK, sKset, vIxoo, dSuboo, eCompL, eDict1, datR, vEqD, vNeD, vCatT, vCatL, iSeq, iTupW, iRg1, iRg2, sFor, noL, noL1, lend, scalD, R.held, R.fresh, List.map_cons, List.map_nil, List.length_cons, List.length_nil, List.cons_append, List.nil_append, List.getElem?_cons_zero, List.getElem?_cons_succ, List.set_cons_zero, List.set_cons_succ, List.replicate_succ, List.replicate_zero, Nat.zero_add, Nat.reduceAdd, Nat.reduceSub, Nat.reduceLT, Option.join_some, Option.join_none, Option.bind_some, Option.map_some, List.all_cons, List.all_nil, Bool.and_true, Bool.true_and, Bool.not_true, Bool.not_false, and_true, true_and, if_true, if_false, Bool.false_eq_true, decide_true, decide_false, reduceIte]
        refine ⟨2, by omega, by omega, by omega, rfl, fun t2 b5 ht2 _ hb5 => ?_⟩
        simp only [sSeq, sNil, sAsg, sRet, sIf, sSet, sExpr, sFrz, sMove, sApp, sExt, sPar, eOp, eUn, eVar, eC, eIf, eAnd, eOr, eChain, tVal, uAnd, uOr, uNot, uTrue, eTup, eLst, eBi, eSl, partR, eIsi, eCall, eCallL, aCons, aNil, allD, dTup, dCons, dName, dNil, dSub, rho0, endD, lft, frz, stor, storAll, setAll, rtD, vIx, seqR, vII, vIC, vAdd, vSub, vMul, vFdiv, vMod, vPow, vLt, vLe, vGt, vGe, vEqS, vNeS, vIsN, vNotN, vNot, vNeg, isNo, vMin2, vMax2, vAbs, vInt1, vLen, vTuple, vList, vSum, isTy, vNotInK, vLenK, sKset, vIxoo, dSuboo, eCompL, eDict1, datR, vEqD, vNeD, vCatT, vCatL, iSeq, iTupW, iRg1, iRg2, sFor, noL, noL1, lend, scalD, R.held, R.fresh, List.map_cons, List.map_nil, List.length_cons, List.length_nil, List.cons_append, List.nil_append, List.getElem?_cons_zero, List.getElem?_cons_succ, List.set_cons_zero, List.set_cons_succ, List.replicate_succ, List.replicate_zero, Nat.zero_add, Nat.reduceAdd, Nat.reduceSub, Nat.reduceLT, Option.join_some, Option.join_none, Option.bind_some, Option.map_some, List.all_cons, List.all_nil, Bool.and_true, Bool.true_and, Bool.not_true, Bool.not_false, and_true, true_and, if_true, if_false, Bool.false_eq_true, decide_true, decide_false, reduceIte]
        exact hK _ _ ⟨t2, ht2, hb5, rfl⟩
      rintro ρ1 b5 ⟨t2, ht2, hb5, rfl⟩
      refine step_gen (fun ρ1 b6 => b6 ≤ b5 + 2 ∧ ρ1 = [some (.d (.list (ns.map PyData.int))), some .m, some (.d (.int (0 + (i : Int)))), some (.o false (hs.map House.enc)), some (.d t2.enc), some (.d c.enc), some (.d t.enc), some (.d d.enc), some (.d (.str (PyData.list [c.enc, t.enc]).shown)), none, none]) (fun K0 hK => ?_) ?_
      · unfold Band.enc
        simp only [sSeq, sNil, sAsg, sRet, sIf, sSet, sExpr, sFrz, sMove, sApp, sExt, sPar, eOp, eUn, eVar, eC, eIf, eAnd, eOr, eChain, tVal, uAnd, uOr, uNot, uTrue, eTup, eLst, eBi, eSl, partR, eIsi, eCall, eCallL, aCons, aNil, allD, dTup, dCons, dName, dNil, dSub, rho0, endD, lft, frz, storAll, setAll, rtD, vIx_t, vIx_l, vIx_o, vLen_t, vLen_l, vLen_o, vTuple_o, stor_d, stor_o, vII, vIC, vAdd, vSub, vMul, vFdiv, vMod, vPow, vLt, vLe, vGt, vGe, vEqS, vNeS, vIsN, vNotN, vNot, vNeg, isNo, vMin2, vMax2, vAbs, vInt1, vList, vSum, isTy, vNotInK, vLenK, sKset, vIxoo, dSuboo, eCompL, eDict1, datR, vEqD, vNeD, vCatT, vCatL, iSeq, iTupW, iRg1, iRg2, sFor, noL, noL1, lend, scalD, R.held, R.fresh, List.map_cons, List.map_nil, List.length_cons, List.length_nil, List.cons_append, List.nil_append, List.getElem?_cons_zero, List.getElem?_cons_succ, List.set_cons_zero, List.set_cons_succ, List.replicate_succ, List.replicate_zero, Nat.zero_add, Nat.reduceAdd, Nat.reduceSub, Nat.reduceLT, Option.join_some, Option.join_none, Option.bind_some, Option.map_some, List.all_cons, List.all_nil, Bool.and_true, Bool.true_and, Bool.not_true, Bool.not_false, and_true, true_and, if_true, if_false, Bool.false_eq_true, decide_true, decide_false, reduceIte]
        refine ⟨3, by omega, by omega, by omega, rfl, fun r r1 r2 => ?_⟩
        simp only [sSeq, sNil, sAsg, sRet, sIf, sSet, sExpr, sFrz, sMove, sApp, sExt, sPar, eOp, eUn, eVar, eC, eIf, eAnd, eOr, eChain, tVal, uAnd, uOr, uNot, uTrue, eTup, eLst, eBi, eSl, partR, eIsi, eCall, eCallL, aCons, aNil, allD, dTup, dCons, dName, dNil, dSub, rho0, endD, lft, frz, storAll, setAll, rtD, vIx_t, vIx_l, vIx_o, vLen_t, vLen_l, vLen_o, vTuple_o, stor_d, stor_o, vII, vIC, vAdd, vSub, vMul, vFdiv, vMod, vPow, vLt, vLe, vGt, vGe, vEqS, vNeS, vIsN, vNotN, vNot, vNeg, isNo, vMin2, vMax2, vAbs, vInt1, vList, vSum, isTy, vNotInK, vLenK, sKset, vIxoo, dSuboo, eCompL, eDict1, datR, vEqD, vNeD, vCatT, vCatL, iSeq, iTupW, iRg1, iRg2, sFor, noL, noL1, lend, scalD, R.held, R.fresh, List.map_cons, List.map_nil, List.length_cons, List.length_nil, List.cons_append, List.nil_append, List.getElem?_cons_zero, List.getElem?_cons_succ, List.set_cons_zero, List.set_cons_succ, List.replicate_succ, List.replicate_zero, Nat.zero_add, Nat.reduceAdd, Nat.reduceSub, Nat.reduceLT, Option.join_some, Option.join_none, Option.bind_some, Option.map_some, List.all_cons, List.all_nil, Bool.and_true, Bool.true_and, Bool.not_true, Bool.not_false, and_true, true_and, if_true, if_false, Bool.false_eq_true, decide_true, decide_false, reduceIte, atI_0, atI_1]
        refine ⟨4, by omega, by omega, by omega, rfl, fun r3 r4 r5 => ?_⟩
        simp only [sSeq, sNil, sAsg, sRet, sIf, sSet, sExpr, sFrz, sMove, sApp, sExt, sPar, eOp, eUn, eVar, eC, eIf, eAnd, eOr, eChain, tVal, uAnd, uOr, uNot, uTrue, eTup, eLst, eBi, eSl, partR, eIsi, eCall, eCallL, aCons, aNil, allD, dTup, dCons, dName, dNil, dSub, rho0, endD, lft, frz, storAll, setAll, rtD, vIx_t, vIx_l, vIx_o, vLen_t, vLen_l, vLen_o, vTuple_o, stor_d, stor_o, vII, vIC, vAdd, vSub, vMul, vFdiv, vMod, vPow, vLt, vLe, vGt, vGe, vEqS, vNeS, vIsN, vNotN, vNot, vNeg, isNo, vMin2, vMax2, vAbs, vInt1, vList, vSum, isTy, vNotInK, vLenK, sKset, vIxoo, dSuboo, eCompL, eDict1, datR, vEqD, vNeD, vCatT, vCatL, iSeq, iTupW, iRg1, iRg2, sFor, noL, noL1, lend, scalD, R.held, R.fresh, List.map_cons, List.map_nil, List.length_cons, List.length_nil, List.cons_append, List.nil_append, List.getElem?_cons_zero, List.getElem?_cons_succ, List.set_cons_zero, List.set_cons_succ, List.replicate_succ, List.replicate_zero, Nat.zero_add, Nat.reduceAdd, Nat.reduceSub, Nat.reduceLT, Option.join_some, Option.join_none, Option.bind_some, Option.map_some, List.all_cons, List.all_nil, Bool.and_true, Bool.true_and, Bool.not_true, Bool.not_false, and_true, true_and, if_true, if_false, Bool.false_eq_true, decide_true, decide_false, reduceIte]
        refine ⟨⟨hs, r⟩, ⟨t2.least, t2.most, none⟩, r3, ⟨⟨hs1, Nat.le_trans hs2 (by decide)⟩, hso, r1, by show r ≤ 9; omega⟩, ⟨ht2.least, ht2.most, fun t h => by cases h⟩, ?_, rfl, ?_⟩
        · simp only [List.mem_cons, List.not_mem_nil, or_false]
          omega
        · simp only [sSeq, sNil, sAsg, sRet, sIf, sSet, sExpr, sFrz, sMove, sApp, sExt, sPar, eOp, eUn, eVar, eC, eIf, eAnd, eOr, eChain, tVal, uAnd, uOr, uNot, uTrue, eTup, eLst, eBi, eSl, partR, eIsi, eCall, eCallL, aCons, aNil, allD, dTup, dCons, dName, dNil, dSub, rho0, endD, lft, frz, storAll, setAll, rtD, vIx_t, vIx_l, vIx_o, vLen_t, vLen_l, vLen_o, vTuple_o, stor_d, stor_o, vII, vIC, vAdd, vSub, vMul, vFdiv, vMod, vPow, vLt, vLe, vGt, vGe, vEqS, vNeS, vIsN, vNotN, vNot, vNeg, isNo, vMin2, vMax2, vAbs, vInt1, vList, vSum, isTy, vNotInK, vLenK, sKset, vIxoo, dSuboo, eCompL, eDict1, datR, vEqD, vNeD, vCatT, vCatL, iSeq, iTupW, iRg1, iRg2, sFor, noL, noL1, lend, scalD, R.held, R.fresh, List.map_cons, List.map_nil, List.length_cons, List.length_nil, List.cons_append, List.nil_append, List.getElem?_cons_zero, List.getElem?_cons_succ, List.set_cons_zero, List.set_cons_succ, List.replicate_succ, List.replicate_zero, Nat.zero_add, Nat.reduceAdd, Nat.reduceSub, Nat.reduceLT, Option.join_some, Option.join_none, Option.bind_some, Option.map_some, List.all_cons, List.all_nil, Bool.and_true, Bool.true_and, Bool.not_true, Bool.not_false, and_true, true_and, if_true, if_false, Bool.false_eq_true, decide_true, decide_false, reduceIte]
          exact hK _ _ ⟨by omega, rfl⟩
      rintro ρ1 b6 ⟨hb6, rfl⟩
      simp only [sSeq, sNil, sAsg, sRet, sIf, sSet, sExpr, sFrz, sMove, sApp, sExt, sPar, eOp, eUn, eVar, eC, eIf, eAnd, eOr, eChain, tVal, uAnd, uOr, uNot, uTrue, eTup, eLst, eBi, eSl, partR, eIsi, eCall, eCallL, aCons, aNil, allD, dTup, dCons, dName, dNil, dSub, rho0, endD, lft, frz, stor, storAll, setAll, rtD, vIx, seqR, vII, vIC, vAdd, vSub, vMul, vFdiv, vMod, vPow, vLt, vLe, vGt, vGe, vEqS, vNeS, vIsN, vNotN, vNot, vNeg, isNo, vMin2, vMax2, vAbs, vInt1, vLen, vTuple, vList, vSum, isTy, vNotInK, vLenK, sKset, vIxoo, dSuboo, eCompL, eDict1, datR, vEqD, vNeD, vCatT, vCatL, iSeq, iTupW, iRg1, iRg2, sFor, noL, noL1, lend, scalD, R.held, R.fresh, List.map_cons, List.map_nil, List.length_cons, List.length_nil, List.cons_append, List.nil_append, List.getElem?_cons_zero, List.getElem?_cons_succ, List.set_cons_zero, List.set_cons_succ, List.replicate_succ, List.replicate_zero, Nat.zero_add, Nat.reduceAdd, Nat.reduceSub, Nat.reduceLT, Option.join_some, Option.join_none, Option.bind_some, Option.map_some, List.all_cons, List.all_nil, Bool.and_true, Bool.true_and, Bool.not_true, Bool.not_false, and_true, true_and, if_true, if_false, Bool.false_eq_true, decide_true, decide_false, reduceIte, vRepr, if_pos hrep]
      exact hq _ _ ⟨by omega, _, _, _, _, _, _, _, rfl⟩
    · rintro ρ b' ⟨hb', z2, z3, z4, z5, z6, z7, z8, rfl⟩
      exact hK _ _ ⟨z2, z3, z4, z5, z6, z7, z8, rfl⟩
  rintro ρ1 b1 ⟨z2, z3, z4, z5, z6, z7, z8, rfl⟩
  refine step_gen (fun ρ1 b2 => b2 = b1 ∧ ρ1 = [some (.d (.list (ns.map PyData.int))), some .m, z2, z3, z4, some (.d oneC.enc), z6, some (.d otherC.enc), z8, none, none]) (fun K0 hK => ?_) ?_
  · simp only [sSeq, sNil, sAsg, sRet, sIf, sSet, sExpr, sFrz, sMove, sApp, sExt, sPar, eOp, eUn, eVar, eC, eIf, eAnd, eOr, eChain, tVal, uAnd, uOr, uNot, uTrue, eTup, eLst, eBi, eSl, partR, eIsi, eCall, eCallL, aCons, aNil, allD, dTup, dCons, dName, dNil, dSub, rho0, endD, lft, frz, stor, storAll, setAll, rtD, vIx, seqR, vII, vIC, vAdd, vSub, vMul, vFdiv, vMod, vPow, vLt, vLe, vGt, vGe, vEqS, vNeS, vIsN, vNotN, vNot, vNeg, isNo, vMin2, vMax2, vAbs, vInt1, vLen, vTuple, vList, vSum, isTy, vNotInK, vLenK, sKset, vIxoo, dSuboo, eCompL, eDict1, datR, vEqD, vNeD, vCatT, vCatL, iSeq, iTupW, iRg1, iRg2, sFor, noL, noL1, lend, scalD, R.held, R.fresh, List.map_cons, List.map_nil, List.length_cons, List.length_nil, List.cons_append, List.nil_append, List.getElem?_cons_zero, List.getElem?_cons_succ, List.set_cons_zero, List.set_cons_succ, List.replicate_succ, List.replicate_zero, Nat.zero_add, Nat.reduceAdd, Nat.reduceSub, Nat.reduceLT, Option.join_some, Option.join_none, Option.bind_some, Option.map_some, List.all_cons, List.all_nil, Bool.and_true, Bool.true_and, Bool.not_true, Bool.not_false, and_true, true_and, if_true, if_false, Bool.false_eq_true, decide_true, decide_false, reduceIte]
    exact hK _ _ ⟨rfl, rfl⟩
  rintro ρ1 b2 ⟨rfl, rfl⟩
  refine step_gen (fun ρ1 b3 => b3 = b2 ∧ ρ1 = [some (.d (.list (ns.map PyData.int))), some .m, z2, z3, z4, some (.d oneC.enc), z6, some (.d otherC.enc), z8, none, none]) (fun K0 hK => ?_) ?_
  · simp only [sSeq, sNil, sAsg, sRet, sIf, sSet, sExpr, sFrz, sMove, sApp, sExt, sPar, eOp, eUn, eVar, eC, eIf, eAnd, eOr, eChain, tVal, uAnd, uOr, uNot, uTrue, eTup, eLst, eBi, eSl, partR, eIsi, eCall, eCallL, aCons, aNil, allD, dTup, dCons, dName, dNil, dSub, rho0, endD, lft, frz, stor, storAll, setAll, rtD, vIx, seqR, vII, vIC, vAdd, vSub, vMul, vFdiv, vMod, vPow, vLt, vLe, vGt, vGe, vEqS, vNeS, vIsN, vNotN, vNot, vNeg, isNo, vMin2, vMax2, vAbs, vInt1, vLen, vTuple, vList, vSum, isTy, vNotInK, vLenK, sKset, vIxoo, dSuboo, eCompL, eDict1, datR, vEqD, vNeD, vCatT, vCatL, iSeq, iTupW, iRg1, iRg2, sFor, noL, noL1, lend, scalD, R.held, R.fresh, List.map_cons, List.map_nil, List.length_cons, List.length_nil, List.cons_append, List.nil_append, List.getElem?_cons_zero, List.getElem?_cons_succ, List.set_cons_zero, List.set_cons_succ, List.replicate_succ, List.replicate_zero, Nat.zero_add, Nat.reduceAdd, Nat.reduceSub, Nat.reduceLT, Option.join_some, Option.join_none, Option.bind_some, Option.map_some, List.all_cons, List.all_nil, Bool.and_true, Bool.true_and, Bool.not_true, Bool.not_false, and_true, true_and, if_true, if_false, Bool.false_eq_true, decide_true, decide_false, reduceIte]
    obtain ⟨n, run⟩ := runA_run one_alike
    refine ⟨oneC, otherC, ⟨0, 9, none⟩, n, none, oneC_ok, otherC_ok, ⟨by decide, by decide, fun t h => by cases h⟩, run, rfl, ?_⟩
    simp only [sSeq, sNil, sAsg, sRet, sIf, sSet, sExpr, sFrz, sMove, sApp, sExt, sPar, eOp, eUn, eVar, eC, eIf, eAnd, eOr, eChain, tVal, uAnd, uOr, uNot, uTrue, eTup, eLst, eBi, eSl, partR, eIsi, eCall, eCallL, aCons, aNil, allD, dTup, dCons, dName, dNil, dSub, rho0, endD, lft, frz, stor, storAll, setAll, rtD, vIx, seqR, vII, vIC, vAdd, vSub, vMul, vFdiv, vMod, vPow, vLt, vLe, vGt, vGe, vEqS, vNeS, vIsN, vNotN, vNot, vNeg, isNo, vMin2, vMax2, vAbs, vInt1, vLen, vTuple, vList, vSum, isTy, vNotInK, vLenK, sKset, vIxoo, dSuboo, eCompL, eDict1, datR, vEqD, vNeD, vCatT, vCatL, iSeq, iTupW, iRg1, iRg2, sFor, noL, noL1, lend, scalD, R.held, R.fresh, List.map_cons, List.map_nil, List.length_cons, List.length_nil, List.cons_append, List.nil_append, List.getElem?_cons_zero, List.getElem?_cons_succ, List.set_cons_zero, List.set_cons_succ, List.replicate_succ, List.replicate_zero, Nat.zero_add, Nat.reduceAdd, Nat.reduceSub, Nat.reduceLT, Option.join_some, Option.join_none, Option.bind_some, Option.map_some, List.all_cons, List.all_nil, Bool.and_true, Bool.true_and, Bool.not_true, Bool.not_false, and_true, true_and, if_true, if_false, Bool.false_eq_true, decide_true, decide_false, reduceIte, Option.isNone_none]
    refine ⟨otherC, ⟨0, 3, some 1⟩, 2, _, otherC_ok, ⟨by decide, by decide, fun t h => by cases h; decide⟩, by decide, meltF_melt _ _ other_melt, rfl, ?_⟩
    simp only [sSeq, sNil, sAsg, sRet, sIf, sSet, sExpr, sFrz, sMove, sApp, sExt, sPar, eOp, eUn, eVar, eC, eIf, eAnd, eOr, eChain, tVal, uAnd, uOr, uNot, uTrue, eTup, eLst, eBi, eSl, partR, eIsi, eCall, eCallL, aCons, aNil, allD, dTup, dCons, dName, dNil, dSub, rho0, endD, lft, frz, stor, storAll, setAll, rtD, vIx, seqR, vII, vIC, vAdd, vSub, vMul, vFdiv, vMod, vPow, vLt, vLe, vGt, vGe, vEqS, vNeS, vIsN, vNotN, vNot, vNeg, isNo, vMin2, vMax2, vAbs, vInt1, vLen, vTuple, vList, vSum, isTy, vNotInK, vLenK, sKset, vIxoo, dSuboo, eCompL, eDict1, datR, vEqD, vNeD, vCatT, vCatL, iSeq, iTupW, iRg1, iRg2, sFor, noL, noL1, lend, scalD, R.held, R.fresh, List.map_cons, List.map_nil, List.length_cons, List.length_nil, List.cons_append, List.nil_append, List.getElem?_cons_zero, List.getElem?_cons_succ, List.set_cons_zero, List.set_cons_succ, List.replicate_succ, List.replicate_zero, Nat.zero_add, Nat.reduceAdd, Nat.reduceSub, Nat.reduceLT, Option.join_some, Option.join_none, Option.bind_some, Option.map_some, List.all_cons, List.all_nil, Bool.and_true, Bool.true_and, Bool.not_true, Bool.not_false, and_true, true_and, if_true, if_false, Bool.false_eq_true, decide_true, decide_false, reduceIte, due_1]
    exact hK _ _ ⟨rfl, rfl⟩
  rintro ρ1 b3 ⟨rfl, rfl⟩
  refine step_gen (fun ρ1 b4 => b4 = b3 ∧ ρ1 = [some (.d (.list (ns.map PyData.int))), some .m, z2, z3, z4, some (.d oneC.enc), z6, some (.d otherC.enc), z8, some (.d lateC.enc), none]) (fun K0 hK => ?_) ?_
  · simp only [sSeq, sNil, sAsg, sRet, sIf, sSet, sExpr, sFrz, sMove, sApp, sExt, sPar, eOp, eUn, eVar, eC, eIf, eAnd, eOr, eChain, tVal, uAnd, uOr, uNot, uTrue, eTup, eLst, eBi, eSl, partR, eIsi, eCall, eCallL, aCons, aNil, allD, dTup, dCons, dName, dNil, dSub, rho0, endD, lft, frz, stor, storAll, setAll, rtD, vIx, seqR, vII, vIC, vAdd, vSub, vMul, vFdiv, vMod, vPow, vLt, vLe, vGt, vGe, vEqS, vNeS, vIsN, vNotN, vNot, vNeg, isNo, vMin2, vMax2, vAbs, vInt1, vLen, vTuple, vList, vSum, isTy, vNotInK, vLenK, sKset, vIxoo, dSuboo, eCompL, eDict1, datR, vEqD, vNeD, vCatT, vCatL, iSeq, iTupW, iRg1, iRg2, sFor, noL, noL1, lend, scalD, R.held, R.fresh, List.map_cons, List.map_nil, List.length_cons, List.length_nil, List.cons_append, List.nil_append, List.getElem?_cons_zero, List.getElem?_cons_succ, List.set_cons_zero, List.set_cons_succ, List.replicate_succ, List.replicate_zero, Nat.zero_add, Nat.reduceAdd, Nat.reduceSub, Nat.reduceLT, Option.join_some, Option.join_none, Option.bind_some, Option.map_some, List.all_cons, List.all_nil, Bool.and_true, Bool.true_and, Bool.not_true, Bool.not_false, and_true, true_and, if_true, if_false, Bool.false_eq_true, decide_true, decide_false, reduceIte]
    exact hK _ _ ⟨rfl, rfl⟩
  rintro ρ1 b4 ⟨rfl, rfl⟩
  refine step_gen (fun ρ1 b5 => b5 = b4 ∧ ρ1 = [some (.d (.list (ns.map PyData.int))), some .m, z2, z3, z4, some (.d oneC.enc), z6, some (.d otherC.enc), z8, some (.d lateC.enc), none]) (fun K0 hK => ?_) ?_
  · simp only [sSeq, sNil, sAsg, sRet, sIf, sSet, sExpr, sFrz, sMove, sApp, sExt, sPar, eOp, eUn, eVar, eC, eIf, eAnd, eOr, eChain, tVal, uAnd, uOr, uNot, uTrue, eTup, eLst, eBi, eSl, partR, eIsi, eCall, eCallL, aCons, aNil, allD, dTup, dCons, dName, dNil, dSub, rho0, endD, lft, frz, stor, storAll, setAll, rtD, vIx, seqR, vII, vIC, vAdd, vSub, vMul, vFdiv, vMod, vPow, vLt, vLe, vGt, vGe, vEqS, vNeS, vIsN, vNotN, vNot, vNeg, isNo, vMin2, vMax2, vAbs, vInt1, vLen, vTuple, vList, vSum, isTy, vNotInK, vLenK, sKset, vIxoo, dSuboo, eCompL, eDict1, datR, vEqD, vNeD, vCatT, vCatL, iSeq, iTupW, iRg1, iRg2, sFor, noL, noL1, lend, scalD, R.held, R.fresh, List.map_cons, List.map_nil, List.length_cons, List.length_nil, List.cons_append, List.nil_append, List.getElem?_cons_zero, List.getElem?_cons_succ, List.set_cons_zero, List.set_cons_succ, List.replicate_succ, List.replicate_zero, Nat.zero_add, Nat.reduceAdd, Nat.reduceSub, Nat.reduceLT, Option.join_some, Option.join_none, Option.bind_some, Option.map_some, List.all_cons, List.all_nil, Bool.and_true, Bool.true_and, Bool.not_true, Bool.not_false, and_true, true_and, if_true, if_false, Bool.false_eq_true, decide_true, decide_false, reduceIte]
    refine ⟨lateC, ⟨0, 3, none⟩, 2, _, lateC_ok, ⟨by decide, by decide, fun t h => by cases h⟩, by decide, meltF_melt _ _ late_melt, rfl, ?_⟩
    simp only [sSeq, sNil, sAsg, sRet, sIf, sSet, sExpr, sFrz, sMove, sApp, sExt, sPar, eOp, eUn, eVar, eC, eIf, eAnd, eOr, eChain, tVal, uAnd, uOr, uNot, uTrue, eTup, eLst, eBi, eSl, partR, eIsi, eCall, eCallL, aCons, aNil, allD, dTup, dCons, dName, dNil, dSub, rho0, endD, lft, frz, stor, storAll, setAll, rtD, vIx, seqR, vII, vIC, vAdd, vSub, vMul, vFdiv, vMod, vPow, vLt, vLe, vGt, vGe, vEqS, vNeS, vIsN, vNotN, vNot, vNeg, isNo, vMin2, vMax2, vAbs, vInt1, vLen, vTuple, vList, vSum, isTy, vNotInK, vLenK, sKset, vIxoo, dSuboo, eCompL, eDict1, datR, vEqD, vNeD, vCatT, vCatL, iSeq, iTupW, iRg1, iRg2, sFor, noL, noL1, lend, scalD, R.held, R.fresh, List.map_cons, List.map_nil, List.length_cons, List.length_nil, List.cons_append, List.nil_append, List.getElem?_cons_zero, List.getElem?_cons_succ, List.set_cons_zero, List.set_cons_succ, List.replicate_succ, List.replicate_zero, Nat.zero_add, Nat.reduceAdd, Nat.reduceSub, Nat.reduceLT, Option.join_some, Option.join_none, Option.bind_some, Option.map_some, List.all_cons, List.all_nil, Bool.and_true, Bool.true_and, Bool.not_true, Bool.not_false, and_true, true_and, if_true, if_false, Bool.false_eq_true, decide_true, decide_false, reduceIte, due_2]
    exact hK _ _ ⟨rfl, rfl⟩
  rintro ρ1 b5 ⟨rfl, rfl⟩
  refine step_gen (fun ρ1 b6 => b6 = b5 ∧ ρ1 = [some (.d (.list (ns.map PyData.int))), some .m, z2, z3, z4, some (.d oneC.enc), z6, some (.d otherC.enc), z8, some (.d lateC.enc), some (.d twoC.enc)]) (fun K0 hK => ?_) ?_
  · simp only [sSeq, sNil, sAsg, sRet, sIf, sSet, sExpr, sFrz, sMove, sApp, sExt, sPar, eOp, eUn, eVar, eC, eIf, eAnd, eOr, eChain, tVal, uAnd, uOr, uNot, uTrue, eTup, eLst, eBi, eSl, partR, eIsi, eCall, eCallL, aCons, aNil, allD, dTup, dCons, dName, dNil, dSub, rho0, endD, lft, frz, stor, storAll, setAll, rtD, vIx, seqR, vII, vIC, vAdd, vSub, vMul, vFdiv, vMod, vPow, vLt, vLe, vGt, vGe, vEqS, vNeS, vIsN, vNotN, vNot, vNeg, isNo, vMin2, vMax2, vAbs, vInt1, vLen, vTuple, vList, vSum, isTy, vNotInK, vLenK, sKset, vIxoo, dSuboo, eCompL, eDict1, datR, vEqD, vNeD, vCatT, vCatL, iSeq, iTupW, iRg1, iRg2, sFor, noL, noL1, lend, scalD, R.held, R.fresh, List.map_cons, List.map_nil, List.length_cons, List.length_nil, List.cons_append, List.nil_append, List.getElem?_cons_zero, List.getElem?_cons_succ, List.set_cons_zero, List.set_cons_succ, List.replicate_succ, List.replicate_zero, Nat.zero_add, Nat.reduceAdd, Nat.reduceSub, Nat.reduceLT, Option.join_some, Option.join_none, Option.bind_some, Option.map_some, List.all_cons, List.all_nil, Bool.and_true, Bool.true_and, Bool.not_true, Bool.not_false, and_true, true_and, if_true, if_false, Bool.false_eq_true, decide_true, decide_false, reduceIte]
    exact hK _ _ ⟨rfl, rfl⟩
  rintro ρ1 b6 ⟨rfl, rfl⟩
  simp only [sSeq, sNil, sAsg, sRet, sIf, sSet, sExpr, sFrz, sMove, sApp, sExt, sPar, eOp, eUn, eVar, eC, eIf, eAnd, eOr, eChain, tVal, uAnd, uOr, uNot, uTrue, eTup, eLst, eBi, eSl, partR, eIsi, eCall, eCallL, aCons, aNil, allD, dTup, dCons, dName, dNil, dSub, rho0, endD, lft, frz, stor, storAll, setAll, rtD, vIx, seqR, vII, vIC, vAdd, vSub, vMul, vFdiv, vMod, vPow, vLt, vLe, vGt, vGe, vEqS, vNeS, vIsN, vNotN, vNot, vNeg, isNo, vMin2, vMax2, vAbs, vInt1, vLen, vTuple, vList, vSum, isTy, vNotInK, vLenK, sKset, vIxoo, dSuboo, eCompL, eDict1, datR, vEqD, vNeD, vCatT, vCatL, iSeq, iTupW, iRg1, iRg2, sFor, noL, noL1, lend, scalD, R.held, R.fresh, List.map_cons, List.map_nil, List.length_cons, List.length_nil, List.cons_append, List.nil_append, List.getElem?_cons_zero, List.getElem?_cons_succ, List.set_cons_zero, List.set_cons_succ, List.replicate_succ, List.replicate_zero, Nat.zero_add, Nat.reduceAdd, Nat.reduceSub, Nat.reduceLT, Option.join_some, Option.join_none, Option.bind_some, Option.map_some, List.all_cons, List.all_nil, Bool.and_true, Bool.true_and, Bool.not_true, Bool.not_false, and_true, true_and, if_true, if_false, Bool.false_eq_true, decide_true, decide_false, reduceIte]
  refine ⟨twoC, ⟨0, 4, none⟩, 1, _, twoC_ok, ⟨by decide, by decide, fun t h => by cases h⟩, by decide, meltF_melt _ _ two_melt1, rfl, ?_⟩
  simp only [sSeq, sNil, sAsg, sRet, sIf, sSet, sExpr, sFrz, sMove, sApp, sExt, sPar, eOp, eUn, eVar, eC, eIf, eAnd, eOr, eChain, tVal, uAnd, uOr, uNot, uTrue, eTup, eLst, eBi, eSl, partR, eIsi, eCall, eCallL, aCons, aNil, allD, dTup, dCons, dName, dNil, dSub, rho0, endD, lft, frz, stor, storAll, setAll, rtD, vIx, seqR, vII, vIC, vAdd, vSub, vMul, vFdiv, vMod, vPow, vLt, vLe, vGt, vGe, vEqS, vNeS, vIsN, vNotN, vNot, vNeg, isNo, vMin2, vMax2, vAbs, vInt1, vLen, vTuple, vList, vSum, isTy, vNotInK, vLenK, sKset, vIxoo, dSuboo, eCompL, eDict1, datR, vEqD, vNeD, vCatT, vCatL, iSeq, iTupW, iRg1, iRg2, sFor, noL, noL1, lend, scalD, R.held, R.fresh, List.map_cons, List.map_nil, List.length_cons, List.length_nil, List.cons_append, List.nil_append, List.getElem?_cons_zero, List.getElem?_cons_succ, List.set_cons_zero, List.set_cons_succ, List.replicate_succ, List.replicate_zero, Nat.zero_add, Nat.reduceAdd, Nat.reduceSub, Nat.reduceLT, Option.join_some, Option.join_none, Option.bind_some, Option.map_some, List.all_cons, List.all_nil, Bool.and_true, Bool.true_and, Bool.not_true, Bool.not_false, and_true, true_and, if_true, if_false, Bool.false_eq_true, decide_true, decide_false, reduceIte, due_3]
  refine ⟨twoC, ⟨0, 4, none⟩, 0, _, twoC_ok, ⟨by decide, by decide, fun t h => by cases h⟩, by decide, meltF_melt _ _ two_melt0, rfl, ?_⟩
  simp only [sSeq, sNil, sAsg, sRet, sIf, sSet, sExpr, sFrz, sMove, sApp, sExt, sPar, eOp, eUn, eVar, eC, eIf, eAnd, eOr, eChain, tVal, uAnd, uOr, uNot, uTrue, eTup, eLst, eBi, eSl, partR, eIsi, eCall, eCallL, aCons, aNil, allD, dTup, dCons, dName, dNil, dSub, rho0, endD, lft, frz, stor, storAll, setAll, rtD, vIx, seqR, vII, vIC, vAdd, vSub, vMul, vFdiv, vMod, vPow, vLt, vLe, vGt, vGe, vEqS, vNeS, vIsN, vNotN, vNot, vNeg, isNo, vMin2, vMax2, vAbs, vInt1, vLen, vTuple, vList, vSum, isTy, vNotInK, vLenK, sKset, vIxoo, dSuboo, eCompL, eDict1, datR, vEqD, vNeD, vCatT, vCatL, iSeq, iTupW, iRg1, iRg2, sFor, noL, noL1, lend, scalD, R.held, R.fresh, List.map_cons, List.map_nil, List.length_cons, List.length_nil, List.cons_append, List.nil_append, List.getElem?_cons_zero, List.getElem?_cons_succ, List.set_cons_zero, List.set_cons_succ, List.replicate_succ, List.replicate_zero, Nat.zero_add, Nat.reduceAdd, Nat.reduceSub, Nat.reduceLT, Option.join_some, Option.join_none, Option.bind_some, Option.map_some, List.all_cons, List.all_nil, Bool.and_true, Bool.true_and, Bool.not_true, Bool.not_false, and_true, true_and, if_true, if_false, Bool.false_eq_true, decide_true, decide_false, reduceIte, encH]
  exact goal _
end
end L2.U
/-! The end of the row, for a law whose def is promised where no guard is up. -/
namespace L2.U
open PySem PySem.Spec PyProof.Rows
section
variable {P : Program} {w : World} {K : PySem.W.Frag} {mg mb : Str → Option Value} {k : Nat} {fa a : Addr} {fd : FuncData} {x : Str} {sp : Sp} {s1 : Shared} {vs : List Value} {ns : List Int}
/-- from an abstract heap in which nothing but the script may be tracked -/
theorem guard_core (KX : K.In s1.heap) (hns : s1.heap.Ns mainGlobals mg) (hb : s1.heap.Ns builtinsNs mb) (hbb : ∀ x : Str, x ≠ "__name__" → mb x = bootBuiltins x) (hlim : s1.heap.NoLimit) (hg : s1.gens = #[])
    (ha : s1.heap.get? a = some { cls := .type "list", data := .seq vs.toArray }) (hr : Room k callerA)
    (F : ∀ base : Heap, K.In base → base.Ns mainGlobals mg → FnG P w K mg base k fa fd [x] sp) (hbind : ∀ (s : Shared) (u : Value), BindsTo s fd ⟨[u], []⟩ [(x, u)])
    {H : Hp} (hsp : sp [.ref a] H (fun v _ => v = .bl true) fun _ _ _ => False) (hok : HOk P w H s1.heap) (hA : ∀ b, H b = none ∨ (b = a ∧ ∃ o xs, H b = some (.frz o (.lst xs)))) (hK : H a ≠ none → K.lookup a = none) :
    codeAny (model P w) callerA (.call (.ref fa) ⟨[.ref a], []⟩) (fun r s' => r = .ok (.ret (.bool true)) ∧ OldK s1.heap s'.heap ∧ s'.os = s1.os ∧ AllBare s'.gens) s1 := by
  have onlyA : ∀ {b : Addr}, b ≠ a → H b = none := fun {b} n => (hA b).elim id fun z => absurd z.1 n
  have keepD : ∀ {b : Addr} {o : Obj} {es : Array DictEntry} {ep : Nat}, s1.heap.get? b = some o → o.data = .dict es ep → (hidT s1.heap H).get? b = some o := fun {b o es ep} e d => by
    refine hidT_get e (onlyA fun z => ?_)
    rw [z, ha] at e
    cases e
    cases d
  have nsK : ∀ {b : Addr} {m : Str → Option Value}, s1.heap.Ns b m → (hidT s1.heap H).Ns b m := fun ⟨o, es, ep, e, d, r⟩ => ⟨o, es, ep, keepD e d, d, r⟩
  have hKb : K.In (hidT s1.heap H) := fun b o e => by
    refine hidT_get (KX b o e) ((hA b).elim id fun z => ?_)
    obtain ⟨rfl, o', xs, z⟩ := z
    rw [hK (by rw [z]; exact fun q => nomatch q)] at e
    cases e
  have hM : Mod K mg (hidT s1.heap H) := ⟨hKb, nsK hns, ⟨mb, nsK hb, hbb⟩, let ⟨mc, h1, h2⟩ := hlim; ⟨mc, nsK h1, h2⟩⟩
  have e0 : Env0 P w K mg (hidT s1.heap H) callerA [] s1 H := ⟨rfl, hM, fun b o e => of_hidT e, Nat.le_of_eq (hidT_size _ _), trivial, (fun b hb => nomatch hb), hok, .of_eq hg⟩
  refine codeAny_mono ((F _ hKb (nsK hns)).run callerA [] s1 H ⟨[.ref a], []⟩ [.ref a] [.ref a] _ _ rfl hr e0 (hbind s1 (.ref a)) (.cons rfl .nil) hsp) fun r s' h => ?_
  cases r with
  | error e => exact False.elim h
  | ok fl =>
    cases fl with
    | next => exact False.elim h
    | brk => exact False.elim h
    | cont => exact False.elim h
    | ret u =>
      obtain ⟨v, H', os, bare, un, hok', r', q⟩ := h
      have q' : v = .bl true := q
      subst q'
      obtain rfl : u = Value.bool true := r'
      refine ⟨rfl, OldK.of_keep fun b o e => ?_, os, bare⟩
      rcases hA b with z | ⟨_, ob, xs, z⟩
      · exact un.keep b o e z (fun q => nomatch q) (fun q => nomatch q)
      · obtain ⟨e1, _⟩ := hok b _ z
        obtain ⟨e2, _⟩ := hok' b _ (un.frzs b ob _ z)
        rw [e] at e1
        cases e1
        exact e2
theorem law_guard (KX : K.In s1.heap) (hns : s1.heap.Ns mainGlobals mg) (hb : s1.heap.Ns builtinsNs mb) (hbb : ∀ x : Str, x ≠ "__name__" → mb x = bootBuiltins x) (hlim : s1.heap.NoLimit) (hg : s1.gens = #[])
    (ha : s1.heap.get? a = some { cls := .type "list", data := .seq vs.toArray }) (hi : IntsAre vs ns) (hl : ns.length ≤ sizeLine) (hr : Room k callerA)
    (F : ∀ base : Heap, K.In base → base.Ns mainGlobals mg → FnG P w K mg base k fa fd [x] sp) (hbind : ∀ (s : Shared) (u : Value), BindsTo s fd ⟨[u], []⟩ [(x, u)])
    (hsp : ∀ H : Hp, SqL K H a (ns.map V.int) → sp [.ref a] H (fun v _ => v = .bl true) fun _ _ _ => False) :
    codeAny (model P w) callerA (.call (.ref fa) ⟨[.ref a], []⟩) (fun r s' => r = .ok (.ret (.bool true)) ∧ OldK s1.heap s'.heap ∧ s'.os = s1.os ∧ AllBare s'.gens) s1 := by
  have rv := vals_ints hi
  cases hk : K.lookup a with
  | some o =>
    have e := KX a o hk
    rw [ha] at e
    cases e
    exact guard_core KX hns hb hbb hlim hg ha hr F hbind (H := fun _ => none) (hsp _ (.inr ⟨_, vs.toArray, _, hk, rfl, rfl, rfl, by rw [List.size_toArray, hi.length]; exact hl, by simpa using rv⟩)) (fun b u z => nomatch z) (fun b => .inl rfl) fun z => absurd rfl z
  | none =>
    have e1 : upd (fun _ => none) a (.frz { cls := .type "list", data := .seq vs.toArray } (.lst (ns.map V.int))) a = some (.frz { cls := .type "list", data := .seq vs.toArray } (.lst (ns.map V.int))) := upd_same
    refine guard_core KX hns hb hbb hlim hg ha hr F hbind (H := upd (fun _ => none) a (.frz { cls := .type "list", data := .seq vs.toArray } (.lst (ns.map V.int)))) (hsp _ (.inl (.inr ⟨_, e1⟩))) (fun b u z => ?_) (fun b => ?_) fun _ => hk
    · by_cases hba : b = a
      · subst hba
        rw [e1] at z
        cases z
        exact ⟨ha, by rw [List.length_map]; exact hl, vs, _, rv, ha⟩
      · rw [upd_ne hba] at z
        cases z
    · by_cases hba : b = a
      · subst hba
        exact .inr ⟨rfl, _, _, e1⟩
      · exact .inl (upd_ne hba)
end
theorem walk_guard {l : PySem.W.OpenLaw} {n k : Nat} {q : Program} {loose : List Str} {XP : (Str → Option Value) → Heap → Prop} {YP : World → Heap → Prop} {d : DefRec} {K : Params → PySem.W.Frag} {sp : World → Sp} {x : Str}
    (hn : l.most = some n) (hn2 : n ≤ sizeLine) (hdf : d.params.defaults = []) (hr : Room k callerA)
    (hY : ∀ (w : World) (h : Heap), YP w h → (K w.params).In h)
    (F : ∀ (w : World) (mg : Str → Option Value) (fa : Addr) (h : Heap), (K w.params).In h → h.Ns mainGlobals mg → mg d.name = some (.ref fa) →
      ∃ fd : FuncData, (∀ (s : Shared) (u : Value), BindsTo s fd ⟨[u], []⟩ [(x, u)]) ∧
        ∀ base : Heap, (K w.params).In base → base.Ns mainGlobals mg → FnG l.prog w (K w.params) mg base k fa fd [x] (sp w))
    (hsp : ∀ (w : World) (H : Hp) (a : Addr) (ns : List Int), ns.length ≤ n → SqL (K w.params) H a (ns.map V.int) → sp w [.ref a] H (fun v _ => v = .bl true) fun _ _ _ => False) :
    PySem.W.WalkO q loose XP YP l.row.toRowW d [] (fun f vs => PySem.call f vs) := by
  refine Att.attach_call hn hdf fun w s₀ s1 mg mb fa o pm cd doc a vs ns G Y ho hd hcd hmg hobj hints hlen hg => ?_
  obtain ⟨fd, hb, hF⟩ := F w mg fa _ (hY w _ Y) G.T.g hmg
  exact law_guard (hY w _ Y) G.T.g G.T.b G.T.builtins G.T.nolimit hg hobj hints (Nat.le_trans hlen hn2) hr hF hb fun H hS => hsp w H a ns hlen hS
end L2.U
/-! What the top has written; the law. -/
namespace L2.U
open PySem PySem.Spec PyProof.Rows
/-- a def stands at its name -/
structure DefAt (K : PySem.W.Frag) (mg : Str → Option Value) (x : Str) (st : Stmt) : Prop where
  ex : ∃ f fd, mg x = some (.ref f) ∧ Fun K x x st f fd
theorem def_mk {K : PySem.W.Frag} {h : Heap} {mg : Str → Option Value} {x : Str} {st : Stmt} {f : Addr} {oc : Value} {od an : Option Addr} {osl : Array (Option Value)} {kV doc pm cdv ct : Value} (X : K.In h) (G : h.Ns mainGlobals mg) (a : PySem.W.nsIn K mainGlobals x = some (some (.ref f)))
    (l : K.lookup f = some ⟨oc, od, .func (PySem.W.fnOf x x (defArgs st) (defBody st) (defScope st) .none kV doc pm an cdv ct), osl⟩) (c : PySem.W.codeIn K cdv x = true) (k : PySem.W.keepIn K (.ref f) = true) : DefAt K mg x st :=
  ⟨_, _, PySem.W.mg_of X G a, fun_mk l c k⟩
section
variable {w : World} {K : PySem.W.Frag} {h : Heap} {mg : Str → Option Value} {fa : Addr}
theorem all_mk {P : Program} (hfa : mg "law" = some (.ref fa))
    (d_p_top_of : DefAt K mg "top_of" s_p_top_of)
    (d_p_order_of : DefAt K mg "order_of" s_p_order_of)
    (d_p_is_whole : DefAt K mg "is_whole" s_p_is_whole)
    (d_p_is_rule : DefAt K mg "is_rule" s_p_is_rule)
    (d_p_is_house : DefAt K mg "is_house" s_p_is_house)
    (d_p_need_chain : DefAt K mg "need_chain" s_p_need_chain)
    (d_p_need_band : DefAt K mg "need_band" s_p_need_band)
    (d_p_begin_of : DefAt K mg "begin_of" s_p_begin_of)
    (d_p_arrived : DefAt K mg "arrived" s_p_arrived)
    (d_p_position_of : DefAt K mg "position_of" s_p_position_of)
    (d_p_with_coming : DefAt K mg "with_coming" s_p_with_coming)
    (d_p_asked_of : DefAt K mg "asked_of" s_p_asked_of)
    (d_p_day_of : DefAt K mg "day_of" s_p_day_of)
    (d_p_demands_at : DefAt K mg "demands_at" s_p_demands_at)
    (d_p_need_two : DefAt K mg "need_two" s_p_need_two)
    (d_p_begin_pair : DefAt K mg "begin_pair" s_p_begin_pair)
    (d_p_pair_behind : DefAt K mg "pair_behind" s_p_pair_behind)
    (d_p_parted : DefAt K mg "parted" s_p_parted)
    (d_p_are_alike : DefAt K mg "are_alike" s_p_are_alike)
    (d_p_parting_demands : DefAt K mg "parting_demands" s_p_parting_demands)
    (d_p_all_houses : DefAt K mg "all_houses" s_p_all_houses)
    (d_p_melted : DefAt K mg "melted" s_p_melted)
    (d_q_mixed : DefAt K mg "_law_mixed" s_q_mixed)
    (d_q_folded : DefAt K mg "_law_folded" s_q_folded)
    (d_q_draw : DefAt K mg "_law_draw" s_q_draw)
    (d_q_begun : DefAt K mg "_law_begun" s_q_begun)
    (d_q_like : DefAt K mg "_law_like" s_q_like)
    (d_q_house : DefAt K mg "_law_house" s_q_house)
    (d_q_chain : DefAt K mg "_law_chain" s_q_chain)
    (d_q_band : DefAt K mg "_law_band" s_q_band)
    (d_q_small : DefAt K mg "_law_small" s_q_small)
    (d_q_top : DefAt K mg "_law_top" s_q_top)
    (d_q_begin : DefAt K mg "_law_begin" s_q_begin)
    (d_q_order : DefAt K mg "_law_order" s_q_order)
    (d_q_day : DefAt K mg "_law_day" s_q_day)
    (d_q_may : DefAt K mg "_law_may" s_q_may)
    (d_q_pair_behind : DefAt K mg "_law_pair_behind" s_q_pair_behind)
    (d_q_near : DefAt K mg "_law_near" s_q_near)
    (d_q_parts_in : DefAt K mg "_law_parts_in" s_q_parts_in)
    (d_q_do_part : DefAt K mg "_law_do_part" s_q_do_part)
    (d_q_right : DefAt K mg "_law_right" s_q_right)
    (d_q_houses : DefAt K mg "_law_houses" s_q_houses)
    (d_q_melts_right : DefAt K mg "_law_melts_right" s_q_melts_right)
    (d_q_wide_right : DefAt K mg "_law_wide_right" s_q_wide_right)
    (d_p_law : DefAt K mg "law" s_p_law)
    (nb : Nb mg) (kc : Kc mg) :
    ∃ fd : FuncData, (∀ (s : Shared) (v : Value), BindsTo s fd ⟨[v], []⟩ [("_law_script", v)]) ∧ ∀ base : Heap, K.In base → base.Ns mainGlobals mg → FnG P w K mg base 8 fa fd ["_law_script"] (spLaw K) := by
  obtain ⟨f_p_top_of, fd_p_top_of, m_p_top_of, F_p_top_of⟩ := d_p_top_of
  have b_p_top_of := F_p_top_of.binds (ps := ["house"]) fun _ _ _ _ _ _ us hl => match us, hl with | [_], _ => rfl
  obtain ⟨f_p_order_of, fd_p_order_of, m_p_order_of, F_p_order_of⟩ := d_p_order_of
  have b_p_order_of := F_p_order_of.binds (ps := ["house", "position"]) fun _ _ _ _ _ _ us hl => match us, hl with | [_, _], _ => rfl
  obtain ⟨f_p_is_whole, fd_p_is_whole, m_p_is_whole, F_p_is_whole⟩ := d_p_is_whole
  have b_p_is_whole := F_p_is_whole.binds (ps := ["value", "least", "most"]) fun _ _ _ _ _ _ us hl => match us, hl with | [_, _, _], _ => rfl
  obtain ⟨f_p_is_rule, fd_p_is_rule, m_p_is_rule, F_p_is_rule⟩ := d_p_is_rule
  have b_p_is_rule := F_p_is_rule.binds (ps := ["value"]) fun _ _ _ _ _ _ us hl => match us, hl with | [_], _ => rfl
  obtain ⟨f_p_is_house, fd_p_is_house, m_p_is_house, F_p_is_house⟩ := d_p_is_house
  have b_p_is_house := F_p_is_house.binds (ps := ["value"]) fun _ _ _ _ _ _ us hl => match us, hl with | [_], _ => rfl
  obtain ⟨f_p_need_chain, fd_p_need_chain, m_p_need_chain, F_p_need_chain⟩ := d_p_need_chain
  have b_p_need_chain := F_p_need_chain.binds (ps := ["chain"]) fun _ _ _ _ _ _ us hl => match us, hl with | [_], _ => rfl
  obtain ⟨f_p_need_band, fd_p_need_band, m_p_need_band, F_p_need_band⟩ := d_p_need_band
  have b_p_need_band := F_p_need_band.binds (ps := ["band"]) fun _ _ _ _ _ _ us hl => match us, hl with | [_], _ => rfl
  obtain ⟨f_p_begin_of, fd_p_begin_of, m_p_begin_of, F_p_begin_of⟩ := d_p_begin_of
  have b_p_begin_of := F_p_begin_of.binds (ps := ["chain"]) fun _ _ _ _ _ _ us hl => match us, hl with | [_], _ => rfl
  obtain ⟨f_p_arrived, fd_p_arrived, m_p_arrived, F_p_arrived⟩ := d_p_arrived
  have b_p_arrived := F_p_arrived.binds (ps := ["stand"]) fun _ _ _ _ _ _ us hl => match us, hl with | [_], _ => rfl
  obtain ⟨f_p_position_of, fd_p_position_of, m_p_position_of, F_p_position_of⟩ := d_p_position_of
  have b_p_position_of := F_p_position_of.binds (ps := ["stand", "number"]) fun _ _ _ _ _ _ us hl => match us, hl with | [_, _], _ => rfl
  obtain ⟨f_p_with_coming, fd_p_with_coming, m_p_with_coming, F_p_with_coming⟩ := d_p_with_coming
  have b_p_with_coming := F_p_with_coming.binds (ps := ["place", "more"]) fun _ _ _ _ _ _ us hl => match us, hl with | [_, _], _ => rfl
  obtain ⟨f_p_asked_of, fd_p_asked_of, m_p_asked_of, F_p_asked_of⟩ := d_p_asked_of
  have b_p_asked_of := F_p_asked_of.binds (ps := ["place", "asked"]) fun _ _ _ _ _ _ us hl => match us, hl with | [_, _], _ => rfl
  obtain ⟨f_p_day_of, fd_p_day_of, m_p_day_of, F_p_day_of⟩ := d_p_day_of
  have b_p_day_of := F_p_day_of.binds (ps := ["chain", "stand", "demand"]) fun _ _ _ _ _ _ us hl => match us, hl with | [_, _, _], _ => rfl
  obtain ⟨f_p_demands_at, fd_p_demands_at, m_p_demands_at, F_p_demands_at⟩ := d_p_demands_at
  have b_p_demands_at := F_p_demands_at.binds (ps := ["band", "last"]) fun _ _ _ _ _ _ us hl => match us, hl with | [_, _], _ => rfl
  obtain ⟨f_p_need_two, fd_p_need_two, m_p_need_two, F_p_need_two⟩ := d_p_need_two
  have b_p_need_two := F_p_need_two.binds (ps := ["one", "other", "band"]) fun _ _ _ _ _ _ us hl => match us, hl with | [_, _, _], _ => rfl
  obtain ⟨f_p_begin_pair, fd_p_begin_pair, m_p_begin_pair, F_p_begin_pair⟩ := d_p_begin_pair
  have b_p_begin_pair := F_p_begin_pair.binds (ps := ["one", "other"]) fun _ _ _ _ _ _ us hl => match us, hl with | [_, _], _ => rfl
  obtain ⟨f_p_pair_behind, fd_p_pair_behind, m_p_pair_behind, F_p_pair_behind⟩ := d_p_pair_behind
  have b_p_pair_behind := F_p_pair_behind.binds (ps := ["chains", "band", "pair", "demand"]) fun _ _ _ _ _ _ us hl => match us, hl with | [_, _, _, _], _ => rfl
  obtain ⟨f_p_parted, fd_p_parted, m_p_parted, F_p_parted⟩ := d_p_parted
  have b_p_parted := F_p_parted.binds (ps := ["one", "other", "band"]) fun _ _ _ _ _ _ us hl => match us, hl with | [_, _, _], _ => rfl
  obtain ⟨f_p_are_alike, fd_p_are_alike, m_p_are_alike, F_p_are_alike⟩ := d_p_are_alike
  have b_p_are_alike := F_p_are_alike.binds (ps := ["one", "other", "band"]) fun _ _ _ _ _ _ us hl => match us, hl with | [_, _, _], _ => rfl
  obtain ⟨f_p_parting_demands, fd_p_parting_demands, m_p_parting_demands, F_p_parting_demands⟩ := d_p_parting_demands
  have b_p_parting_demands := F_p_parting_demands.binds (ps := ["one", "other", "band"]) fun _ _ _ _ _ _ us hl => match us, hl with | [_, _, _], _ => rfl
  obtain ⟨f_p_all_houses, fd_p_all_houses, m_p_all_houses, F_p_all_houses⟩ := d_p_all_houses
  have b_p_all_houses := F_p_all_houses.binds (ps := ["most"]) fun _ _ _ _ _ _ us hl => match us, hl with | [_], _ => rfl
  obtain ⟨f_p_melted, fd_p_melted, m_p_melted, F_p_melted⟩ := d_p_melted
  have b_p_melted := F_p_melted.binds (ps := ["chain", "band", "most"]) fun _ _ _ _ _ _ us hl => match us, hl with | [_, _, _], _ => rfl
  obtain ⟨f_q_mixed, fd_q_mixed, m_q_mixed, F_q_mixed⟩ := d_q_mixed
  have b_q_mixed := F_q_mixed.binds (ps := ["_law_cell", "_law_n"]) fun _ _ _ _ _ _ us hl => match us, hl with | [_, _], _ => rfl
  obtain ⟨f_q_folded, fd_q_folded, m_q_folded, F_q_folded⟩ := d_q_folded
  have b_q_folded := F_q_folded.binds (ps := ["_law_script"]) fun _ _ _ _ _ _ us hl => match us, hl with | [_], _ => rfl
  obtain ⟨f_q_draw, fd_q_draw, m_q_draw, F_q_draw⟩ := d_q_draw
  have b_q_draw := F_q_draw.binds (ps := ["_law_m", "_law_limit"]) fun _ _ _ _ _ _ us hl => match us, hl with | [_, _], _ => rfl
  obtain ⟨f_q_begun, fd_q_begun, m_q_begun, F_q_begun⟩ := d_q_begun
  have b_q_begun := F_q_begun.binds (ps := ["_law_script"]) fun _ _ _ _ _ _ us hl => match us, hl with | [_], _ => rfl
  obtain ⟨f_q_like, fd_q_like, m_q_like, F_q_like⟩ := d_q_like
  have b_q_like := F_q_like.binds (ps := ["_law_heard", "_law_due"]) fun _ _ _ _ _ _ us hl => match us, hl with | [_, _], _ => rfl
  obtain ⟨f_q_house, fd_q_house, m_q_house, F_q_house⟩ := d_q_house
  have b_q_house := F_q_house.binds (ps := ["_law_m", "_law_high", "_law_late"]) fun _ _ _ _ _ _ us hl => match us, hl with | [_, _, _], _ => rfl
  obtain ⟨f_q_chain, fd_q_chain, m_q_chain, F_q_chain⟩ := d_q_chain
  have b_q_chain := F_q_chain.binds (ps := ["_law_m", "_law_many", "_law_high", "_law_late"]) fun _ _ _ _ _ _ us hl => match us, hl with | [_, _, _, _], _ => rfl
  obtain ⟨f_q_band, fd_q_band, m_q_band, F_q_band⟩ := d_q_band
  have b_q_band := F_q_band.binds (ps := ["_law_m", "_law_more"]) fun _ _ _ _ _ _ us hl => match us, hl with | [_, _], _ => rfl
  obtain ⟨f_q_small, fd_q_small, m_q_small, F_q_small⟩ := d_q_small
  have b_q_small := F_q_small.binds (ps := ["_law_m"]) fun _ _ _ _ _ _ us hl => match us, hl with | [_], _ => rfl
  obtain ⟨f_q_top, fd_q_top, m_q_top, F_q_top⟩ := d_q_top
  have b_q_top := F_q_top.binds (ps := ["_law_rule"]) fun _ _ _ _ _ _ us hl => match us, hl with | [_], _ => rfl
  obtain ⟨f_q_begin, fd_q_begin, m_q_begin, F_q_begin⟩ := d_q_begin
  have b_q_begin := F_q_begin.binds (ps := ["_law_chain_here"]) fun _ _ _ _ _ _ us hl => match us, hl with | [_], _ => rfl
  obtain ⟨f_q_order, fd_q_order, m_q_order, F_q_order⟩ := d_q_order
  have b_q_order := F_q_order.binds (ps := ["_law_rule", "_law_here"]) fun _ _ _ _ _ _ us hl => match us, hl with | [_, _], _ => rfl
  obtain ⟨f_q_day, fd_q_day, m_q_day, F_q_day⟩ := d_q_day
  have b_q_day := F_q_day.binds (ps := ["_law_chain_here", "_law_stand", "_law_demand"]) fun _ _ _ _ _ _ us hl => match us, hl with | [_, _, _], _ => rfl
  obtain ⟨f_q_may, fd_q_may, m_q_may, F_q_may⟩ := d_q_may
  have b_q_may := F_q_may.binds (ps := ["_law_band_here", "_law_last"]) fun _ _ _ _ _ _ us hl => match us, hl with | [_, _], _ => rfl
  obtain ⟨f_q_pair_behind, fd_q_pair_behind, m_q_pair_behind, F_q_pair_behind⟩ := d_q_pair_behind
  have b_q_pair_behind := F_q_pair_behind.binds (ps := ["_law_chains", "_law_band_here", "_law_pair", "_law_demand"]) fun _ _ _ _ _ _ us hl => match us, hl with | [_, _, _, _], _ => rfl
  obtain ⟨f_q_near, fd_q_near, m_q_near, F_q_near⟩ := d_q_near
  have b_q_near := F_q_near.binds (ps := ["_law_m", "_law_chain_here"]) fun _ _ _ _ _ _ us hl => match us, hl with | [_, _], _ => rfl
  obtain ⟨f_q_parts_in, fd_q_parts_in, m_q_parts_in, F_q_parts_in⟩ := d_q_parts_in
  have b_q_parts_in := F_q_parts_in.binds (ps := ["_law_one", "_law_other", "_law_band_here", "_law_most_so"]) fun _ _ _ _ _ _ us hl => match us, hl with | [_, _, _, _], _ => rfl
  obtain ⟨f_q_do_part, fd_q_do_part, m_q_do_part, F_q_do_part⟩ := d_q_do_part
  have b_q_do_part := F_q_do_part.binds (ps := ["_law_one", "_law_other", "_law_band_here", "_law_row"]) fun _ _ _ _ _ _ us hl => match us, hl with | [_, _, _, _], _ => rfl
  obtain ⟨f_q_right, fd_q_right, m_q_right, F_q_right⟩ := d_q_right
  have b_q_right := F_q_right.binds (ps := ["_law_one", "_law_other", "_law_band_here"]) fun _ _ _ _ _ _ us hl => match us, hl with | [_, _, _], _ => rfl
  obtain ⟨f_q_houses, fd_q_houses, m_q_houses, F_q_houses⟩ := d_q_houses
  have b_q_houses := F_q_houses.binds (ps := ["_law_most"]) fun _ _ _ _ _ _ us hl => match us, hl with | [_], _ => rfl
  obtain ⟨f_q_melts_right, fd_q_melts_right, m_q_melts_right, F_q_melts_right⟩ := d_q_melts_right
  have b_q_melts_right := F_q_melts_right.binds (ps := ["_law_chain_here", "_law_band_here", "_law_most"]) fun _ _ _ _ _ _ us hl => match us, hl with | [_, _, _], _ => rfl
  obtain ⟨f_q_wide_right, fd_q_wide_right, m_q_wide_right, F_q_wide_right⟩ := d_q_wide_right
  have b_q_wide_right := F_q_wide_right.binds (ps := []) fun _ _ _ _ _ _ us hl => match us, hl with | [], _ => rfl
  obtain ⟨f_p_law, fd_p_law, m_p_law, F_p_law⟩ := d_p_law
  have b_p_law := F_p_law.binds (ps := ["_law_script"]) fun _ _ _ _ _ _ us hl => match us, hl with | [_], _ => rfl
  have e := m_p_law.symm.trans hfa
  cases e
  refine ⟨fd_p_law, fun s v => ?_, fun base _ _ => ?_⟩
  · obtain ⟨oc, od, kV, doc, pm, an, cdv, ct, osl, rfl, lk, hcd⟩ := F_p_law.ex
    exact .of_eq rfl
  have C_p_top_of : Can P w K mg base 1 "top_of" ["house"] pt_p_top_of := ok_p_top_of F_p_top_of m_p_top_of b_p_top_of nb kc 
  have C_p_order_of : Can P w K mg base 1 "order_of" ["house", "position"] pt_p_order_of := ok_p_order_of F_p_order_of m_p_order_of b_p_order_of nb kc 
  have C_p_is_whole : Can P w K mg base 1 "is_whole" ["value", "least", "most"] pt_p_is_whole := ok_p_is_whole F_p_is_whole m_p_is_whole b_p_is_whole nb kc 
  have C_p_is_rule : Can P w K mg base 2 "is_rule" ["value"] pt_p_is_rule := ok_p_is_rule F_p_is_rule m_p_is_rule b_p_is_rule nb kc C_p_is_whole
  have C_p_is_house : Can P w K mg base 3 "is_house" ["value"] pt_p_is_house := ok_p_is_house F_p_is_house m_p_is_house b_p_is_house nb kc C_p_is_rule C_p_is_whole
  have C_p_need_chain : Can P w K mg base 4 "need_chain" ["chain"] pt_p_need_chain := ok_p_need_chain F_p_need_chain m_p_need_chain b_p_need_chain nb kc C_p_is_whole C_p_is_house
  have C_p_need_band : Can P w K mg base 2 "need_band" ["band"] pt_p_need_band := ok_p_need_band F_p_need_band m_p_need_band b_p_need_band nb kc C_p_is_whole
  have C_p_begin_of : Can P w K mg base 2 "begin_of" ["chain"] pt_p_begin_of := ok_p_begin_of F_p_begin_of m_p_begin_of b_p_begin_of nb kc C_p_top_of
  have C_p_arrived : Can P w K mg base 1 "arrived" ["stand"] pt_p_arrived := ok_p_arrived F_p_arrived m_p_arrived b_p_arrived nb kc 
  have C_p_position_of : Can P w K mg base 1 "position_of" ["stand", "number"] pt_p_position_of := ok_p_position_of F_p_position_of m_p_position_of b_p_position_of nb kc 
  have C_p_with_coming : Can P w K mg base 1 "with_coming" ["place", "more"] pt_p_with_coming := ok_p_with_coming F_p_with_coming m_p_with_coming b_p_with_coming nb kc 
  have C_p_asked_of : Can P w K mg base 1 "asked_of" ["place", "asked"] pt_p_asked_of := ok_p_asked_of F_p_asked_of m_p_asked_of b_p_asked_of nb kc 
  have C_p_day_of : Can P w K mg base 2 "day_of" ["chain", "stand", "demand"] pt_p_day_of := ok_p_day_of F_p_day_of m_p_day_of b_p_day_of nb kc C_p_with_coming C_p_order_of C_p_position_of C_p_asked_of C_p_arrived
  have C_p_demands_at : Can P w K mg base 1 "demands_at" ["band", "last"] pt_p_demands_at := ok_p_demands_at F_p_demands_at m_p_demands_at b_p_demands_at nb kc 
  have C_p_need_two : Can P w K mg base 5 "need_two" ["one", "other", "band"] pt_p_need_two := ok_p_need_two F_p_need_two m_p_need_two b_p_need_two nb kc C_p_need_band C_p_need_chain
  have C_p_begin_pair : Can P w K mg base 3 "begin_pair" ["one", "other"] pt_p_begin_pair := ok_p_begin_pair F_p_begin_pair m_p_begin_pair b_p_begin_pair nb kc C_p_begin_of
  have C_p_pair_behind : Can P w K mg base 3 "pair_behind" ["chains", "band", "pair", "demand"] pt_p_pair_behind := ok_p_pair_behind F_p_pair_behind m_p_pair_behind b_p_pair_behind nb kc C_p_day_of
  have C_p_parted : Can P w K mg base 4 "parted" ["one", "other", "band"] pt_p_parted := ok_p_parted F_p_parted m_p_parted b_p_parted nb kc C_p_demands_at C_p_pair_behind C_p_begin_pair
  have C_p_are_alike : Can P w K mg base 6 "are_alike" ["one", "other", "band"] pt_p_are_alike := ok_p_are_alike F_p_are_alike m_p_are_alike b_p_are_alike nb kc C_p_parted C_p_need_two
  have C_p_parting_demands : Can P w K mg base 6 "parting_demands" ["one", "other", "band"] pt_p_parting_demands := ok_p_parting_demands F_p_parting_demands m_p_parting_demands b_p_parting_demands nb kc C_p_parted C_p_need_two
  have C_p_all_houses : Can P w K mg base 1 "all_houses" ["most"] pt_p_all_houses := ok_p_all_houses F_p_all_houses m_p_all_houses b_p_all_houses nb kc 
  have C_p_melted : Can P w K mg base 5 "melted" ["chain", "band", "most"] pt_p_melted := ok_p_melted F_p_melted m_p_melted b_p_melted nb kc C_p_all_houses C_p_parted C_p_is_whole C_p_need_band C_p_need_chain
  have C_q_mixed : Can P w K mg base 1 "_law_mixed" ["_law_cell", "_law_n"] pt_q_mixed := ok_q_mixed F_q_mixed m_q_mixed b_q_mixed nb kc 
  have C_q_folded : FnOk P w K mg base CX0 1 f_q_folded fd_q_folded ["_law_script"] (spFolded K) := ok_q_folded F_q_folded nb kc
  have C_q_draw : Can P w K mg base 2 "_law_draw" ["_law_m", "_law_limit"] pt_q_draw := ok_q_draw F_q_draw m_q_draw b_q_draw nb kc C_q_mixed
  have C_q_begun : FnOk P w K mg base CX0 2 f_q_begun fd_q_begun ["_law_script"] (spBegun K) := ok_q_begun F_q_begun nb kc C_q_folded m_q_folded F_q_folded.kp b_q_folded
  have C_q_like : CanG P w K mg base 1 "_law_like" ["_law_heard", "_law_due"] pt_q_like := ok_q_like F_q_like m_q_like b_q_like nb kc 
  have C_q_house : Can P w K mg base 3 "_law_house" ["_law_m", "_law_high", "_law_late"] pt_q_house := ok_q_house F_q_house m_q_house b_q_house nb kc C_q_draw
  have C_q_chain : Can P w K mg base 4 "_law_chain" ["_law_m", "_law_many", "_law_high", "_law_late"] pt_q_chain := ok_q_chain F_q_chain m_q_chain b_q_chain nb kc C_q_draw C_q_house
  have C_q_band : Can P w K mg base 3 "_law_band" ["_law_m", "_law_more"] pt_q_band := ok_q_band F_q_band m_q_band b_q_band nb kc C_q_draw
  have C_q_small : Can P w K mg base 5 "_law_small" ["_law_m"] pt_q_small := ok_q_small F_q_small m_q_small b_q_small nb kc C_q_band C_q_draw C_q_house C_q_chain
  have C_q_top : Can P w K mg base 1 "_law_top" ["_law_rule"] pt_q_top := ok_q_top F_q_top m_q_top b_q_top nb kc 
  have C_q_begin : Can P w K mg base 2 "_law_begin" ["_law_chain_here"] pt_q_begin := ok_q_begin F_q_begin m_q_begin b_q_begin nb kc C_q_top
  have C_q_order : Can P w K mg base 1 "_law_order" ["_law_rule", "_law_here"] pt_q_order := ok_q_order F_q_order m_q_order b_q_order nb kc 
  have C_q_day : Can P w K mg base 2 "_law_day" ["_law_chain_here", "_law_stand", "_law_demand"] pt_q_day := ok_q_day F_q_day m_q_day b_q_day nb kc C_q_order
  have C_q_may : Can P w K mg base 1 "_law_may" ["_law_band_here", "_law_last"] pt_q_may := ok_q_may F_q_may m_q_may b_q_may nb kc 
  have C_q_pair_behind : Can P w K mg base 3 "_law_pair_behind" ["_law_chains", "_law_band_here", "_law_pair", "_law_demand"] pt_q_pair_behind := ok_q_pair_behind F_q_pair_behind m_q_pair_behind b_q_pair_behind nb kc C_q_day
  have C_q_near : Can P w K mg base 3 "_law_near" ["_law_m", "_law_chain_here"] pt_q_near := ok_q_near F_q_near m_q_near b_q_near nb kc C_q_draw
  have C_q_parts_in : Can P w K mg base 4 "_law_parts_in" ["_law_one", "_law_other", "_law_band_here", "_law_most_so"] pt_q_parts_in := ok_q_parts_in F_q_parts_in m_q_parts_in b_q_parts_in nb kc C_q_may C_q_pair_behind C_q_begin
  have C_q_do_part : Can P w K mg base 4 "_law_do_part" ["_law_one", "_law_other", "_law_band_here", "_law_row"] pt_q_do_part := ok_q_do_part F_q_do_part m_q_do_part b_q_do_part nb kc C_q_pair_behind C_q_may C_q_begin
  have C_q_right : CanG P w K mg base 7 "_law_right" ["_law_one", "_law_other", "_law_band_here"] pt_q_right := ok_q_right F_q_right m_q_right b_q_right nb kc C_q_do_part C_q_like C_p_parting_demands C_p_are_alike C_q_parts_in
  have C_q_houses : Can P w K mg base 1 "_law_houses" ["_law_most"] pt_q_houses := ok_q_houses F_q_houses m_q_houses b_q_houses nb kc 
  have C_q_melts_right : CanG P w K mg base 6 "_law_melts_right" ["_law_chain_here", "_law_band_here", "_law_most"] pt_q_melts_right := ok_q_melts_right F_q_melts_right m_q_melts_right b_q_melts_right nb kc C_q_like C_p_melted C_q_houses C_q_parts_in
  have C_q_wide_right : Can P w K mg base 7 "_law_wide_right" [] pt_q_wide_right := ok_q_wide_right F_q_wide_right m_q_wide_right b_q_wide_right nb kc C_p_are_alike
  exact ok_p_law F_p_law nb kc C_q_begun m_q_begun F_q_begun.kp b_q_begun C_p_melted C_p_are_alike C_q_melts_right C_q_draw C_q_band C_q_house C_q_right C_q_near C_q_small C_q_wide_right
end
theorem nb_mk {K : PySem.W.Frag} {h : Heap} {mg : Str → Option Value} (X : K.In h) (G : h.Ns mainGlobals mg) (z_len : PySem.W.nsIn K mainGlobals "len" = some none) (z_tuple : PySem.W.nsIn K mainGlobals "tuple" = some none) (z_list : PySem.W.nsIn K mainGlobals "list" = some none) (z_range : PySem.W.nsIn K mainGlobals "range" = some none) (z_int : PySem.W.nsIn K mainGlobals "int" = some none) (z_str : PySem.W.nsIn K mainGlobals "str" = some none) (z_bool : PySem.W.nsIn K mainGlobals "bool" = some none) (z_isinstance : PySem.W.nsIn K mainGlobals "isinstance" = some none) (z_enumerate : PySem.W.nsIn K mainGlobals "enumerate" = some none) (z_min : PySem.W.nsIn K mainGlobals "min" = some none) (z_max : PySem.W.nsIn K mainGlobals "max" = some none) (z_sum : PySem.W.nsIn K mainGlobals "sum" = some none) (z_abs : PySem.W.nsIn K mainGlobals "abs" = some none) (z_sorted : PySem.W.nsIn K mainGlobals "sorted" = some none) (z_repr : PySem.W.nsIn K mainGlobals "repr" = some none) : Nb mg := ⟨PySem.W.mg_none_of X G z_len, PySem.W.mg_none_of X G z_tuple, PySem.W.mg_none_of X G z_list, PySem.W.mg_none_of X G z_range, PySem.W.mg_none_of X G z_int, PySem.W.mg_none_of X G z_str, PySem.W.mg_none_of X G z_bool, PySem.W.mg_none_of X G z_isinstance, PySem.W.mg_none_of X G z_enumerate, PySem.W.mg_none_of X G z_min, PySem.W.mg_none_of X G z_max, PySem.W.mg_none_of X G z_sum, PySem.W.mg_none_of X G z_abs, PySem.W.mg_none_of X G z_sorted, PySem.W.mg_none_of X G z_repr⟩
theorem kc_mk {K : PySem.W.Frag} {h : Heap} {mg : Str → Option Value} {t_FILL t_PACKS t_MOST_LEVEL t_MOST_SIZE t_MOST_DELAY t_MOST_HOUSES t_MOST_WAIT t_MOST_DEMAND t_MOST_PAIRS t_MOST_TOP : Tok} (X : K.In h) (G : h.Ns mainGlobals mg) (y_FILL : PySem.W.nsIn K mainGlobals "FILL" = some (some (.str "fill" t_FILL))) (y_PACKS : PySem.W.nsIn K mainGlobals "PACKS" = some (some (.str "packs" t_PACKS))) (y_MOST_LEVEL : PySem.W.nsIn K mainGlobals "MOST_LEVEL" = some (some (.int 30 t_MOST_LEVEL))) (y_MOST_SIZE : PySem.W.nsIn K mainGlobals "MOST_SIZE" = some (some (.int 10 t_MOST_SIZE))) (y_MOST_DELAY : PySem.W.nsIn K mainGlobals "MOST_DELAY" = some (some (.int 4 t_MOST_DELAY))) (y_MOST_HOUSES : PySem.W.nsIn K mainGlobals "MOST_HOUSES" = some (some (.int 3 t_MOST_HOUSES))) (y_MOST_WAIT : PySem.W.nsIn K mainGlobals "MOST_WAIT" = some (some (.int 9 t_MOST_WAIT))) (y_MOST_DEMAND : PySem.W.nsIn K mainGlobals "MOST_DEMAND" = some (some (.int 9 t_MOST_DEMAND))) (y_MOST_PAIRS : PySem.W.nsIn K mainGlobals "MOST_PAIRS" = some (some (.int 20000 t_MOST_PAIRS))) (y_MOST_TOP : PySem.W.nsIn K mainGlobals "MOST_TOP" = some (some (.int 8 t_MOST_TOP))) : Kc mg := ⟨⟨_, PySem.W.mg_of X G y_FILL, ⟨_, rfl⟩⟩, ⟨_, PySem.W.mg_of X G y_PACKS, ⟨_, rfl⟩⟩, ⟨_, PySem.W.mg_of X G y_MOST_LEVEL, ⟨_, rfl⟩⟩, ⟨_, PySem.W.mg_of X G y_MOST_SIZE, ⟨_, rfl⟩⟩, ⟨_, PySem.W.mg_of X G y_MOST_DELAY, ⟨_, rfl⟩⟩, ⟨_, PySem.W.mg_of X G y_MOST_HOUSES, ⟨_, rfl⟩⟩, ⟨_, PySem.W.mg_of X G y_MOST_WAIT, ⟨_, rfl⟩⟩, ⟨_, PySem.W.mg_of X G y_MOST_DEMAND, ⟨_, rfl⟩⟩, ⟨_, PySem.W.mg_of X G y_MOST_PAIRS, ⟨_, rfl⟩⟩, ⟨_, PySem.W.mg_of X G y_MOST_TOP, ⟨_, rfl⟩⟩⟩
theorem walk {l : PySem.W.OpenLaw} {q : Program} {loose : List Str} {XP : (Str → Option Value) → Heap → Prop} {YP : World → Heap → Prop} {d : DefRec} {K : Params → PySem.W.Frag} (hn : l.most = some 63) (hdf : d.params.defaults = [])
    (hY : ∀ (w : World) (h : Heap), YP w h → (K w.params).In h)
    (F : ∀ (w : World) (mg : Str → Option Value) (fa : Addr) (h : Heap), (K w.params).In h → h.Ns mainGlobals mg → mg d.name = some (.ref fa) →
      ∃ fd : FuncData, (∀ (s : Shared) (u : Value), BindsTo s fd ⟨[u], []⟩ [("_law_script", u)]) ∧ ∀ base : Heap, (K w.params).In base → base.Ns mainGlobals mg → FnG l.prog w (K w.params) mg base 8 fa fd ["_law_script"] (spLaw (K w.params))) :
    PySem.W.WalkO q loose XP YP l.row.toRowW d [] (fun f vs => PySem.call f vs) :=
  walk_guard (n := 63) (k := 8) (x := "_law_script") (sp := fun w => spLaw (K w.params)) hn (by decide) hdf ⟨rfl, by decide, by decide⟩ hY F (fun _ _ a ns hl hS => ⟨a, ns, rfl, hS, hl, fun _ => rfl⟩)
end L2.U

open PySem PySem.W PyProof.Rows in
set_option maxRecDepth 100000 in
set_option maxHeartbeats 0 in
theorem PySem.Challenge.cw_uporders_k42_whole_alike_and_melted_holds : PySem.Challenge.rw_uporders_k42_whole_alike_and_melted.Holds := by
  w_on; o_law; k_head; (case hw => w_witness2)
  k_fill
  refine L2.U.walk (l := PySem.Challenge.rw_uporders_k42_whole_alike_and_melted) rfl rfl (fun w h Y => PySem.W.kIn_of Y) ?F
  case F =>
    intro w mg fa h KX G hmg
    refine' L2.U.all_mk hmg ?d_p_top_of ?d_p_order_of ?d_p_is_whole ?d_p_is_rule ?d_p_is_house ?d_p_need_chain ?d_p_need_band ?d_p_begin_of ?d_p_arrived ?d_p_position_of ?d_p_with_coming ?d_p_asked_of ?d_p_day_of ?d_p_demands_at ?d_p_need_two ?d_p_begin_pair ?d_p_pair_behind ?d_p_parted ?d_p_are_alike ?d_p_parting_demands ?d_p_all_houses ?d_p_melted ?d_q_mixed ?d_q_folded ?d_q_draw ?d_q_begun ?d_q_like ?d_q_house ?d_q_chain ?d_q_band ?d_q_small ?d_q_top ?d_q_begin ?d_q_order ?d_q_day ?d_q_may ?d_q_pair_behind ?d_q_near ?d_q_parts_in ?d_q_do_part ?d_q_right ?d_q_houses ?d_q_melts_right ?d_q_wide_right ?d_p_law ?nb ?kc
    case d_p_top_of =>
      refine' L2.U.def_mk KX G ?a ?l ?c ?k
      (case a => k_is)
      (case l => k_is)
      (case c => k_is)
      (case k => k_is)
    case d_p_order_of =>
      refine' L2.U.def_mk KX G ?a ?l ?c ?k
      (case a => k_is)
      (case l => k_is)
      (case c => k_is)
      (case k => k_is)
    case d_p_is_whole =>
      refine' L2.U.def_mk KX G ?a ?l ?c ?k
      (case a => k_is)
      (case l => k_is)
      (case c => k_is)
      (case k => k_is)
    case d_p_is_rule =>
      refine' L2.U.def_mk KX G ?a ?l ?c ?k
      (case a => k_is)
      (case l => k_is)
      (case c => k_is)
      (case k => k_is)
    case d_p_is_house =>
      refine' L2.U.def_mk KX G ?a ?l ?c ?k
      (case a => k_is)
      (case l => k_is)
      (case c => k_is)
      (case k => k_is)
    case d_p_need_chain =>
      refine' L2.U.def_mk KX G ?a ?l ?c ?k
      (case a => k_is)
      (case l => k_is)
      (case c => k_is)
      (case k => k_is)
    case d_p_need_band =>
      refine' L2.U.def_mk KX G ?a ?l ?c ?k
      (case a => k_is)
      (case l => k_is)
      (case c => k_is)
      (case k => k_is)
    case d_p_begin_of =>
      refine' L2.U.def_mk KX G ?a ?l ?c ?k
      (case a => k_is)
      (case l => k_is)
      (case c => k_is)
      (case k => k_is)
    case d_p_arrived =>
      refine' L2.U.def_mk KX G ?a ?l ?c ?k
      (case a => k_is)
      (case l => k_is)
      (case c => k_is)
      (case k => k_is)
    case d_p_position_of =>
      refine' L2.U.def_mk KX G ?a ?l ?c ?k
      (case a => k_is)
      (case l => k_is)
      (case c => k_is)
      (case k => k_is)
    case d_p_with_coming =>
      refine' L2.U.def_mk KX G ?a ?l ?c ?k
      (case a => k_is)
      (case l => k_is)
      (case c => k_is)
      (case k => k_is)
    case d_p_asked_of =>
      refine' L2.U.def_mk KX G ?a ?l ?c ?k
      (case a => k_is)
      (case l => k_is)
      (case c => k_is)
      (case k => k_is)
    case d_p_day_of =>
      refine' L2.U.def_mk KX G ?a ?l ?c ?k
      (case a => k_is)
      (case l => k_is)
      (case c => k_is)
      (case k => k_is)
    case d_p_demands_at =>
      refine' L2.U.def_mk KX G ?a ?l ?c ?k
      (case a => k_is)
      (case l => k_is)
      (case c => k_is)
      (case k => k_is)
    case d_p_need_two =>
      refine' L2.U.def_mk KX G ?a ?l ?c ?k
      (case a => k_is)
      (case l => k_is)
      (case c => k_is)
      (case k => k_is)
    case d_p_begin_pair =>
      refine' L2.U.def_mk KX G ?a ?l ?c ?k
      (case a => k_is)
      (case l => k_is)
      (case c => k_is)
      (case k => k_is)
    case d_p_pair_behind =>
      refine' L2.U.def_mk KX G ?a ?l ?c ?k
      (case a => k_is)
      (case l => k_is)
      (case c => k_is)
      (case k => k_is)
    case d_p_parted =>
      refine' L2.U.def_mk KX G ?a ?l ?c ?k
      (case a => k_is)
      (case l => k_is)
      (case c => k_is)
      (case k => k_is)
    case d_p_are_alike =>
      refine' L2.U.def_mk KX G ?a ?l ?c ?k
      (case a => k_is)
      (case l => k_is)
      (case c => k_is)
      (case k => k_is)
    case d_p_parting_demands =>
      refine' L2.U.def_mk KX G ?a ?l ?c ?k
      (case a => k_is)
      (case l => k_is)
      (case c => k_is)
      (case k => k_is)
    case d_p_all_houses =>
      refine' L2.U.def_mk KX G ?a ?l ?c ?k
      (case a => k_is)
      (case l => k_is)
      (case c => k_is)
      (case k => k_is)
    case d_p_melted =>
      refine' L2.U.def_mk KX G ?a ?l ?c ?k
      (case a => k_is)
      (case l => k_is)
      (case c => k_is)
      (case k => k_is)
    case d_q_mixed =>
      refine' L2.U.def_mk KX G ?a ?l ?c ?k
      (case a => k_is)
      (case l => k_is)
      (case c => k_is)
      (case k => k_is)
    case d_q_folded =>
      refine' L2.U.def_mk KX G ?a ?l ?c ?k
      (case a => k_is)
      (case l => k_is)
      (case c => k_is)
      (case k => k_is)
    case d_q_draw =>
      refine' L2.U.def_mk KX G ?a ?l ?c ?k
      (case a => k_is)
      (case l => k_is)
      (case c => k_is)
      (case k => k_is)
    case d_q_begun =>
      refine' L2.U.def_mk KX G ?a ?l ?c ?k
      (case a => k_is)
      (case l => k_is)
      (case c => k_is)
      (case k => k_is)
    case d_q_like =>
      refine' L2.U.def_mk KX G ?a ?l ?c ?k
      (case a => k_is)
      (case l => k_is)
      (case c => k_is)
      (case k => k_is)
    case d_q_house =>
      refine' L2.U.def_mk KX G ?a ?l ?c ?k
      (case a => k_is)
      (case l => k_is)
      (case c => k_is)
      (case k => k_is)
    case d_q_chain =>
      refine' L2.U.def_mk KX G ?a ?l ?c ?k
      (case a => k_is)
      (case l => k_is)
      (case c => k_is)
      (case k => k_is)
    case d_q_band =>
      refine' L2.U.def_mk KX G ?a ?l ?c ?k
      (case a => k_is)
      (case l => k_is)
      (case c => k_is)
      (case k => k_is)
    case d_q_small =>
      refine' L2.U.def_mk KX G ?a ?l ?c ?k
      (case a => k_is)
      (case l => k_is)
      (case c => k_is)
      (case k => k_is)
    case d_q_top =>
      refine' L2.U.def_mk KX G ?a ?l ?c ?k
      (case a => k_is)
      (case l => k_is)
      (case c => k_is)
      (case k => k_is)
    case d_q_begin =>
      refine' L2.U.def_mk KX G ?a ?l ?c ?k
      (case a => k_is)
      (case l => k_is)
      (case c => k_is)
      (case k => k_is)
    case d_q_order =>
      refine' L2.U.def_mk KX G ?a ?l ?c ?k
      (case a => k_is)
      (case l => k_is)
      (case c => k_is)
      (case k => k_is)
    case d_q_day =>
      refine' L2.U.def_mk KX G ?a ?l ?c ?k
      (case a => k_is)
      (case l => k_is)
      (case c => k_is)
      (case k => k_is)
    case d_q_may =>
      refine' L2.U.def_mk KX G ?a ?l ?c ?k
      (case a => k_is)
      (case l => k_is)
      (case c => k_is)
      (case k => k_is)
    case d_q_pair_behind =>
      refine' L2.U.def_mk KX G ?a ?l ?c ?k
      (case a => k_is)
      (case l => k_is)
      (case c => k_is)
      (case k => k_is)
    case d_q_near =>
      refine' L2.U.def_mk KX G ?a ?l ?c ?k
      (case a => k_is)
      (case l => k_is)
      (case c => k_is)
      (case k => k_is)
    case d_q_parts_in =>
      refine' L2.U.def_mk KX G ?a ?l ?c ?k
      (case a => k_is)
      (case l => k_is)
      (case c => k_is)
      (case k => k_is)
    case d_q_do_part =>
      refine' L2.U.def_mk KX G ?a ?l ?c ?k
      (case a => k_is)
      (case l => k_is)
      (case c => k_is)
      (case k => k_is)
    case d_q_right =>
      refine' L2.U.def_mk KX G ?a ?l ?c ?k
      (case a => k_is)
      (case l => k_is)
      (case c => k_is)
      (case k => k_is)
    case d_q_houses =>
      refine' L2.U.def_mk KX G ?a ?l ?c ?k
      (case a => k_is)
      (case l => k_is)
      (case c => k_is)
      (case k => k_is)
    case d_q_melts_right =>
      refine' L2.U.def_mk KX G ?a ?l ?c ?k
      (case a => k_is)
      (case l => k_is)
      (case c => k_is)
      (case k => k_is)
    case d_q_wide_right =>
      refine' L2.U.def_mk KX G ?a ?l ?c ?k
      (case a => k_is)
      (case l => k_is)
      (case c => k_is)
      (case k => k_is)
    case d_p_law =>
      refine' L2.U.def_mk KX G ?a ?l ?c ?k
      (case a => k_is)
      (case l => k_is)
      (case c => k_is)
      (case k => k_is)
    case nb =>
      refine' L2.U.nb_mk KX G ?z_len ?z_tuple ?z_list ?z_range ?z_int ?z_str ?z_bool ?z_isinstance ?z_enumerate ?z_min ?z_max ?z_sum ?z_abs ?z_sorted ?z_repr
      (case z_len => k_is)
      (case z_tuple => k_is)
      (case z_list => k_is)
      (case z_range => k_is)
      (case z_int => k_is)
      (case z_str => k_is)
      (case z_bool => k_is)
      (case z_isinstance => k_is)
      (case z_enumerate => k_is)
      (case z_min => k_is)
      (case z_max => k_is)
      (case z_sum => k_is)
      (case z_abs => k_is)
      (case z_sorted => k_is)
      (case z_repr => k_is)
    case kc =>
      refine' L2.U.kc_mk KX G ?y_FILL ?y_PACKS ?y_MOST_LEVEL ?y_MOST_SIZE ?y_MOST_DELAY ?y_MOST_HOUSES ?y_MOST_WAIT ?y_MOST_DEMAND ?y_MOST_PAIRS ?y_MOST_TOP
      (case y_FILL => k_is)
      (case y_PACKS => k_is)
      (case y_MOST_LEVEL => k_is)
      (case y_MOST_SIZE => k_is)
      (case y_MOST_DELAY => k_is)
      (case y_MOST_HOUSES => k_is)
      (case y_MOST_WAIT => k_is)
      (case y_MOST_DEMAND => k_is)
      (case y_MOST_PAIRS => k_is)
      (case y_MOST_TOP => k_is)
