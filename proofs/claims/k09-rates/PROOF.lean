import PyProof.Rows.All
import Wide.All
import OpenK.AllK
import Wide.FinOn
import HandS.ForMost
import HandS.NoneIn
import HandS.Zip
import KE.GoesNew
import KE.DataEq
import HandS.TupAny
import HandS.Text
import HandS.Set
import HandS.SetFor
import KE.SortData
import HandS.More
import HandS.Conv
import HandS.ExcValue
import HandS.WordsDict
import HandS.TupLen
import PySem.Challenge.RW_amendwarrant_k09_whole_all_rates_by_part
set_option Elab.async false
set_option linter.all false
set_option maxRecDepth 100000
set_option maxHeartbeats 4000000
set_option autoImplicit false
/-! Pd: a layer of pure data over HandS. -/
namespace Pd
open PySem L2

abbrev D := PyData
inductive Cell where
  | un | val (d : D) | own (d : D) | wd
abbrev Loc := List Cell
abbrev EM := Loc → Nat → Option (D × Nat)
abbrev TM := Loc → Nat → Option (Bool × Nat)
abbrev AM := Loc → Nat → Option (List D × Nat)
inductive Out where
  | nx | bk | ct | ret (d : D)
abbrev SM := Loc → Nat → Option (Out × Loc × Nat)

def kD : Key → D
  | .inl i => .int i
  | .inr x => .str x

/-! ### v stands for d, in the pure part P -/
mutual
inductive Hd (K : PySem.W.Frag) (P : Hp) : V → D → Prop
  | non : Hd K P .non .none
  | bl (b : Bool) : Hd K P (.bl b) (.bool b)
  | int (i : Int) : Hd K P (.int i) (.int i)
  | str (x : Str) : Hd K P (.str x) (.str x)
  | lst {a : Addr} {vs : List V} {ds : List D} : SqL K P a vs → HdAll K P vs ds → Hd K P (.ref a) (.list ds)
  | tup {a : Addr} {vs : List V} {ds : List D} : SqT K P a vs → HdAll K P vs ds → Hd K P (.ref a) (.tuple ds)
  | dK {a : Addr} {o : Obj} {kvs : List (Key × V)} {es : List (D × D)} : P a = some (.frz o (.dK kvs)) → HdK K P kvs es → Hd K P (.ref a) (.dict es)
  | dT {a : Addr} {o : Obj} {kvs : List (List Key × V)} {es : List (D × D)} : P a = some (.frz o (.dT kvs)) → HdT K P kvs es → Hd K P (.ref a) (.dict es)
inductive HdAll (K : PySem.W.Frag) (P : Hp) : List V → List D → Prop
  | nil : HdAll K P [] []
  | cons {v : V} {vs : List V} {d : D} {ds : List D} : Hd K P v d → HdAll K P vs ds → HdAll K P (v :: vs) (d :: ds)
inductive HdK (K : PySem.W.Frag) (P : Hp) : List (Key × V) → List (D × D) → Prop
  | nil : HdK K P [] []
  | cons {k : Key} {v : V} {kvs : List (Key × V)} {d : D} {es : List (D × D)} : Hd K P v d → HdK K P kvs es → HdK K P ((k, v) :: kvs) ((kD k, d) :: es)
inductive HdT (K : PySem.W.Frag) (P : Hp) : List (List Key × V) → List (D × D) → Prop
  | nil : HdT K P [] []
  | cons {k : List Key} {v : V} {kvs : List (List Key × V)} {d : D} {es : List (D × D)} : Hd K P v d → HdT K P kvs es → HdT K P ((k, v) :: kvs) ((.tuple (k.map kD), d) :: es)
end

abbrev PLe (P P' : Hp) : Prop := ∀ a o, P a = some o → P' a = some o
theorem PLe.refl (P : Hp) : PLe P P := fun _ _ h => h
theorem PLe.trans {P P1 P2 : Hp} (a : PLe P P1) (b : PLe P1 P2) : PLe P P2 := fun x o h => b x o (a x o h)
theorem ple_rd {P P' : Hp} {a : Addr} {u : HO} (e : PLe P P') (h : Rd P a u) : Rd P' a u := h.elim (fun h => .inl (e _ _ h)) fun ⟨o, h⟩ => .inr ⟨o, e _ _ h⟩
theorem ple_l {K : PySem.W.Frag} {P P' : Hp} {a : Addr} {xs : List V} (e : PLe P P') (h : SqL K P a xs) : SqL K P' a xs := h.elim (fun h => .inl (ple_rd e h)) .inr
theorem ple_t {K : PySem.W.Frag} {P P' : Hp} {a : Addr} {xs : List V} (e : PLe P P') (h : SqT K P a xs) : SqT K P' a xs := h.elim (fun h => .inl (ple_rd e h)) .inr
theorem PLe.new {P : Hp} {p : Addr} {o : HO} (h : P p = none) : PLe P (upd P p o) := fun a u e => by
  rw [upd_ne (ne_of_none e h)]; exact e

section
variable {K : PySem.W.Frag} {P P' : Hp}
mutual
theorem Hd.mono (e : PLe P P') : ∀ {v : V} {d : D}, Hd K P v d → Hd K P' v d
  | _, _, .non => .non
  | _, _, .bl b => .bl b
  | _, _, .int i => .int i
  | _, _, .str x => .str x
  | _, _, .lst h1 h2 => .lst (ple_l e h1) (HdAll.mono e h2)
  | _, _, .tup h1 h2 => .tup (ple_t e h1) (HdAll.mono e h2)
  | _, _, .dK h1 h2 => .dK (e _ _ h1) (HdK.mono e h2)
  | _, _, .dT h1 h2 => .dT (e _ _ h1) (HdT.mono e h2)
theorem HdAll.mono (e : PLe P P') : ∀ {v : List V} {d : List D}, HdAll K P v d → HdAll K P' v d
  | _, _, .nil => .nil
  | _, _, .cons h1 h2 => .cons (Hd.mono e h1) (HdAll.mono e h2)
theorem HdK.mono (e : PLe P P') : ∀ {v : List (Key × V)} {d : List (D × D)}, HdK K P v d → HdK K P' v d
  | _, _, .nil => .nil
  | _, _, .cons h1 h2 => .cons (Hd.mono e h1) (HdK.mono e h2)
theorem HdT.mono (e : PLe P P') : ∀ {v : List (List Key × V)} {d : List (D × D)}, HdT K P v d → HdT K P' v d
  | _, _, .nil => .nil
  | _, _, .cons h1 h2 => .cons (Hd.mono e h1) (HdT.mono e h2)
end
theorem HdAll.length : ∀ {vs : List V} {ds : List D}, HdAll K P vs ds → vs.length = ds.length
  | _, _, .nil => rfl
  | _, _, .cons _ h => by simp [HdAll.length h]
theorem HdAll.append : ∀ {vs ws : List V} {ds es : List D}, HdAll K P vs ds → HdAll K P ws es → HdAll K P (vs ++ ws) (ds ++ es)
  | _, _, _, _, .nil, h => h
  | _, _, _, _, .cons a b, h => .cons a (HdAll.append b h)
theorem HdAll.get : ∀ {vs : List V} {ds : List D} {i : Nat} {d : D}, HdAll K P vs ds → ds[i]? = some d → ∃ v, vs[i]? = some v ∧ Hd K P v d
  | _, _, _, _, .nil, e => by simp at e
  | _, _, 0, _, .cons a _, e => by simp at e; subst e; exact ⟨_, rfl, a⟩
  | _, _, i + 1, _, .cons _ b, e => by
    obtain ⟨v, h1, h2⟩ := HdAll.get (i := i) b (by simpa using e)
    exact ⟨v, by simpa using h1, h2⟩
theorem HdAll.take : ∀ {vs : List V} {ds : List D} (n : Nat), HdAll K P vs ds → HdAll K P (vs.take n) (ds.take n)
  | _, _, 0, _ => .nil
  | _, _, _ + 1, .nil => .nil
  | _, _, n + 1, .cons a b => .cons a (HdAll.take n b)
theorem HdAll.drop : ∀ {vs : List V} {ds : List D} (n : Nat), HdAll K P vs ds → HdAll K P (vs.drop n) (ds.drop n)
  | _, _, 0, h => h
  | _, _, _ + 1, .nil => .nil
  | _, _, n + 1, .cons _ b => HdAll.drop n b
theorem HdAll.set {v : V} {d : D} (h : Hd K P v d) : ∀ {vs : List V} {ds : List D} (i : Nat), HdAll K P vs ds → HdAll K P (vs.set i v) (ds.set i d)
  | _, _, _, .nil => .nil
  | _, _, 0, .cons _ b => .cons h b
  | _, _, i + 1, .cons a b => .cons a (HdAll.set h i b)
theorem HdAll.one {v : V} {d : D} (h : Hd K P v d) : HdAll K P [v] [d] := .cons h .nil
theorem HdAll.split : ∀ {vs : List V} {d1 d2 : List D}, HdAll K P vs (d1 ++ d2) → ∃ v1 v2, vs = v1 ++ v2 ∧ HdAll K P v1 d1 ∧ HdAll K P v2 d2
  | vs, [], d2, h => ⟨[], vs, rfl, .nil, h⟩
  | _, d :: d1, d2, .cons a b => by
    obtain ⟨v1, v2, e, h1, h2⟩ := HdAll.split b
    exact ⟨_ :: v1, v2, by rw [e]; rfl, .cons a h1, h2⟩
theorem HdAll.ints : ∀ {vs : List V} {ns : List Int}, HdAll K P vs (ns.map .int) → vs = ns.map V.int
  | _, [], .nil => rfl
  | _, n :: ns, .cons a b => by cases a; rw [HdAll.ints b]; rfl
theorem HdAll.of_ints : ∀ ns : List Int, HdAll K P (ns.map V.int) (ns.map .int)
  | [] => .nil
  | n :: ns => .cons (.int n) (HdAll.of_ints ns)
theorem HdAll.strs : ∀ {vs : List V} {ns : List Str}, HdAll K P vs (ns.map .str) → vs = ns.map V.str
  | _, [], .nil => rfl
  | _, n :: ns, .cons a b => by cases a; rw [HdAll.strs b]; rfl
theorem HdAll.bls : ∀ {vs : List V} {ns : List Bool}, HdAll K P vs (ns.map .bool) → vs = ns.map V.bl
  | _, [], .nil => rfl
  | _, n :: ns, .cons a b => by cases a; rw [HdAll.bls b]; rfl
end

/-! ### the world: one dict with the draws and the counter -/
structure Wp where
  on : Bool
  wa : Addr
  da : Addr
  draws : List Int
def wkvs (W : Wp) (n : Nat) : List (Key × V) := [(.inr "draws", .ref W.da), (.inr "at", .int n)]
def World (K : PySem.W.Frag) (W : Wp) (P H : Hp) (n : Nat) : Prop :=
  W.on = true → H W.wa = some (.dK (wkvs W n)) ∧ P W.wa = none ∧ Hd K P (.ref W.da) (.list (W.draws.map .int))
/-- not the world's address -/
def Nw (W : Wp) (a : Addr) : Prop := W.on = true → a ≠ W.wa
abbrev Ext (W : Wp) (H H' : Hp) : Prop := ∀ a o, H a = some o → Nw W a → H' a = some o

/-- a step of pure work: from (P, H) to (P', H', n') -/
structure Stp (K : PySem.W.Frag) (W : Wp) (P H P' H' : Hp) (n' : Nat) : Prop where
  ext : Ext W H H'
  ple : PLe P P'
  new : ∀ a o, P' a = some o → P a = some o ∨ H a = none ∨ ∃ xs, H a = some (.tup xs)
  sub : PLe P' H'
  wd : World K W P' H' n'

section
variable {K : PySem.W.Frag} {W : Wp} {P H P1 H1 P2 H2 : Hp} {n n1 n2 : Nat}
theorem Ext.trans (a : Ext W H H1) (b : Ext W H1 H2) : Ext W H H2 := fun x o h hn => b x o (a x o h hn) hn
/-- fresh later is fresh before -/
theorem Ext.fresh {a : Addr} (e : Ext W H H1) (h : H1 a = none) (hn : Nw W a) : H a = none := by
  cases q : H a with
  | none => rfl
  | some o => rw [e a o q hn] at h; cases h
theorem Stp.refl (hs : PLe P H) (hw : World K W P H n) : Stp K W P H P H n := ⟨fun _ _ h _ => h, PLe.refl P, fun _ _ h => .inl h, hs, hw⟩
theorem World.nw (w : World K W P H n) {a : Addr} (h : H a = none) : Nw W a := fun on e => by
  have := (w on).1
  rw [← e, h] at this; cases this
/-- an address fresh in H1 was fresh in H, given the world stands in both -/
theorem Stp.back {a : Addr} (hw : World K W P H n) (s : Stp K W P H P1 H1 n1) (h : H1 a = none) : H a = none := s.ext.fresh h (s.wd.nw h)
theorem World.nwT (w : World K W P H n) {a : Addr} {xs : List V} (h : H a = some (.tup xs)) : Nw W a := fun on e => by
  have := (w on).1
  rw [← e, h] at this; cases this
theorem Stp.backT {a : Addr} {xs : List V} (hw : World K W P H n) (s : Stp K W P H P1 H1 n1) (h : H1 a = some (.tup xs)) : H a = none ∨ ∃ xs, H a = some (.tup xs) := by
  cases q : H a with
  | none => exact .inl rfl
  | some o =>
    have := s.ext a o q (s.wd.nwT h)
    rw [h] at this
    exact .inr ⟨xs, this.symm⟩
theorem Stp.trans (hw : World K W P H n) (a : Stp K W P H P1 H1 n1) (b : Stp K W P1 H1 P2 H2 n2) : Stp K W P H P2 H2 n2 :=
  ⟨a.ext.trans b.ext, a.ple.trans b.ple, fun x o h => by
    rcases b.new x o h with h | h | ⟨xs, h⟩
    · exact a.new x o h
    · exact .inr (.inl (a.back hw h))
    · exact .inr (a.backT hw h), b.sub, b.wd⟩
/-- a new object that nobody else knows of, outside P -/
theorem Stp.alloc {p : Addr} {o : HO} (hs : PLe P H) (hw : World K W P H n) (hp : H p = none) : Stp K W P H P (upd H p o) n :=
  ⟨fun a u h _ => by rw [upd_ne (ne_of_none h hp)]; exact h, PLe.refl P, fun _ _ h => .inl h, fun a u h => by rw [upd_ne (ne_of_none (hs a u h) hp)]; exact hs a u h,
    fun on => ⟨by rw [upd_ne (ne_of_none (hw on).1 hp)]; exact (hw on).1, (hw on).2⟩⟩
theorem none_of_sub {a : Addr} (hs : PLe P H) (h : H a = none) : P a = none := by
  cases q : P a with
  | none => rfl
  | some o => rw [hs a o q] at h; cases h
/-- .. within P -/
theorem Stp.allocP {p : Addr} {o : HO} (hs : PLe P H) (hw : World K W P H n) (hp : H p = none) : Stp K W P H (upd P p o) (upd H p o) n :=
  ⟨fun a u h _ => by rw [upd_ne (ne_of_none h hp)]; exact h, PLe.new (none_of_sub hs hp), fun a u h => by
      by_cases e : a = p
      · subst e; exact .inr (.inl hp)
      · rw [upd_ne e] at h; exact .inl h,
    fun a u h => by
      by_cases e : a = p
      · subst e; rw [upd_same] at h ⊢; exact h
      · rw [upd_ne e] at h; rw [upd_ne e]; exact hs a u h,
    fun on => ⟨by rw [upd_ne (ne_of_none (hw on).1 hp)]; exact (hw on).1, by
      rw [upd_ne (ne_of_none (hw on).1 hp)]; exact (hw on).2.1, (hw on).2.2.mono (PLe.new (none_of_sub hs hp))⟩⟩
/-- an object at a (it stands in H, outside P, not the world's) is taken into P, perhaps told anew -/
theorem Stp.seal {a : Addr} {o u : HO} (hw : World K W P H n) (s : Stp K W P H P1 H1 n1) (h0 : H a = none) (hP : P1 a = none) (hH : H1 a = some o) : Stp K W P H (upd P1 a u) (upd H1 a u) n1 := by
  have nw : Nw W a := hw.nw h0
  have pl : PLe P1 (upd P1 a u) := PLe.new hP
  refine ⟨fun b v h hn => ?_, s.ple.trans pl, fun b v h => ?_, fun b v h => ?_, fun on => ⟨?_, ?_, ?_⟩⟩
  · rw [upd_ne (ne_of_none h h0)]; exact s.ext b v h hn
  · by_cases e : b = a
    · subst e; exact .inr (.inl h0)
    · rw [upd_ne e] at h; exact s.new b v h
  · by_cases e : b = a
    · subst e; rw [upd_same] at h ⊢; exact h
    · rw [upd_ne e] at h; rw [upd_ne e]; exact s.sub b v h
  · rw [upd_ne (fun z => nw on z.symm)]; exact (s.wd on).1
  · rw [upd_ne (fun z => nw on z.symm)]; exact (s.wd on).2.1
  · exact (s.wd on).2.2.mono pl
end

/-! ### contents of an owned object, weak standing -/
/-- the object at a is a list or a dict of data -/
inductive Cont (K : PySem.W.Frag) (P H : Hp) (a : Addr) : D → Prop
  | lst {vs : List V} {ds : List D} : H a = some (.lst vs) → HdAll K P vs ds → Cont K P H a (.list ds)
  | dK {kvs : List (Key × V)} {es : List (D × D)} : H a = some (.dK kvs) → HdK K P kvs es → Cont K P H a (.dict es)
  | dT {kvs : List (List Key × V)} {es : List (D × D)} : H a = some (.dT kvs) → HdT K P kvs es → Cont K P H a (.dict es)
/-- weak: it stands in P, or its object does in H -/
inductive Hw (K : PySem.W.Frag) (W : Wp) (P H : Hp) : V → D → Prop
  | hd {v : V} {d : D} : Hd K P v d → Hw K W P H v d
  | ct {a : Addr} {d : D} : Nw W a → Cont K P H a d → Hw K W P H (.ref a) d
/-- a new object, not (yet) in P -/
structure Fr (K : PySem.W.Frag) (H P' H' : Hp) (a : Addr) (d : D) : Prop where
  h0 : H a = none
  hP : P' a = none
  ct : Cont K P' H' a d
section
variable {K : PySem.W.Frag} {W : Wp} {P H P1 H1 P2 H2 : Hp} {n n1 n2 : Nat} {a : Addr} {v : V} {d : D}
theorem Cont.there (c : Cont K P H a d) : ∃ o, H a = some o ∧ Mut (some o) := by
  cases c with
  | lst h _ => exact ⟨_, h, trivial⟩
  | dK h _ => exact ⟨_, h, trivial⟩
  | dT h _ => exact ⟨_, h, trivial⟩
theorem Cont.step (e : PLe P P1) (h : ∀ o, H a = some o → H1 a = some o) (c : Cont K P H a d) : Cont K P1 H1 a d := by
  cases c with
  | lst h1 h2 => exact .lst (h _ h1) (h2.mono e)
  | dK h1 h2 => exact .dK (h _ h1) (h2.mono e)
  | dT h1 h2 => exact .dT (h _ h1) (h2.mono e)
theorem Hw.step (s : Stp K W P H P1 H1 n1) (h : Hw K W P H v d) : Hw K W P1 H1 v d := by
  cases h with
  | hd h => exact .hd (h.mono s.ple)
  | ct nw c => exact .ct nw (c.step s.ple fun o e => s.ext _ o e nw)
theorem Fr.hw (hw : World K W P H n) (f : Fr K H P1 H1 a d) : Hw K W P1 H1 (.ref a) d := .ct (hw.nw f.h0) f.ct
end
end Pd
namespace Pd
open PySem L2

/-- where a def runs: the written part, the world, P and H at its entry -/
structure Rt where
  K : PySem.W.Frag
  W : Wp
  P0 : Hp
  H0 : Hp
def CellOk (R : Rt) (P H : Hp) (o : Option (Option V)) : Cell → Prop
  | .un => True
  | .val d => ∃ v, o = some (some v) ∧ Hd R.K P v d
  | .own d => ∃ a, o = some (some (.ref a)) ∧ R.H0 a = none ∧ P a = none ∧ Nw R.W a ∧ Cont R.K P H a d
  | .wd => o = some (some (.ref R.W.wa)) ∧ R.W.on = true
structure Rep (R : Rt) (P : Hp) (loc : Loc) (n : Nat) (σ : St) (H : Hp) : Prop where
  sub : PLe P H
  ext0 : Ext R.W R.H0 H
  ple0 : PLe R.P0 P
  new0 : ∀ a o, P a = some o → R.P0 a = some o ∨ R.H0 a = none ∨ ∃ xs, R.H0 a = some (.tup xs)
  wd : World R.K R.W P H n
  len : loc.length = σ.length
  cell : ∀ (i : Nat) (c : Cell), loc[i]? = some c → CellOk R P H (σ[i]?) c
  sep : ∀ (i j : Nat) (a : Addr) (d e : D), loc[i]? = some (.own d) → loc[j]? = some (.own e) → σ[i]? = some (some (.ref a)) → σ[j]? = some (some (.ref a)) → i = j

section
variable {R : Rt} {P P1 : Hp} {loc : Loc} {n n1 : Nat} {σ : St} {H H1 : Hp}
theorem Rep.step (r : Rep R P loc n σ H) (s : Stp R.K R.W P H P1 H1 n1) : Rep R P1 loc n1 σ H1 := by
  refine ⟨s.sub, r.ext0.trans s.ext, r.ple0.trans s.ple, fun a o h => by
    rcases s.new a o h with h | h | ⟨xs, h⟩
    · exact r.new0 a o h
    · exact .inr (.inl (r.ext0.fresh h (r.wd.nw h)))
    · cases q : R.H0 a with
      | none => exact .inr (.inl rfl)
      | some u =>
        have := r.ext0 a u q (r.wd.nwT h)
        rw [h] at this
        exact .inr (.inr ⟨xs, this.symm⟩), s.wd, r.len, fun i c h => ?_, r.sep⟩
  have q := r.cell i c h
  cases c with
  | un => trivial
  | val d => obtain ⟨v, e, hv⟩ := q; exact ⟨v, e, hv.mono s.ple⟩
  | own d =>
    obtain ⟨a, e, h0, hP, nw, c⟩ := q
    refine ⟨a, e, h0, ?_, nw, c.step s.ple fun o e => s.ext _ o e nw⟩
    cases q : P1 a with
    | none => rfl
    | some o =>
      obtain ⟨u, hu, m⟩ := c.there
      rcases s.new a o q with z | z | ⟨_, z⟩
      · rw [hP] at z; cases z
      · rw [hu] at z; cases z
      · rw [hu] at z; cases z; cases m
  | wd => exact q
end

def tD (R : Rt) (f : EM) : TE := fun σ H Q => ∃ P loc n d n', Rep R P loc n σ H ∧ f loc n = some (d, n') ∧ ∀ v P' H', Stp R.K R.W P H P' H' n' → Hd R.K P' v d → Q v H'
def tW (R : Rt) (f : EM) : TE := fun σ H Q => ∃ P loc n d n', Rep R P loc n σ H ∧ f loc n = some (d, n') ∧ ∀ v P' H', Stp R.K R.W P H P' H' n' → Hw R.K R.W P' H' v d → Q v H'
/-- what an operation hands on: data in P, or a new object -/
def Gv (K : PySem.W.Frag) (H P' H' : Hp) (v : V) (d : D) : Prop := Hd K P' v d ∨ ∃ a, v = .ref a ∧ Fr K H P' H' a d
def tG (R : Rt) (f : EM) : TE := fun σ H Q => ∃ P loc n d n', Rep R P loc n σ H ∧ f loc n = some (d, n') ∧ ∀ v P' H', Stp R.K R.W P H P' H' n' → Gv R.K H P' H' v d → Q v H'
def tF (R : Rt) (f : EM) : TE := fun σ H Q => ∃ P loc n d n', Rep R P loc n σ H ∧ f loc n = some (d, n') ∧ ∀ a P' H', Stp R.K R.W P H P' H' n' → Fr R.K H P' H' a d → Q (.ref a) H'
def tT (R : Rt) (f : TM) : TT := fun σ H Q => ∃ P loc n b n', Rep R P loc n σ H ∧ f loc n = some (b, n') ∧ ∀ P' H', Stp R.K R.W P H P' H' n' → Q b H'
def tA (R : Rt) (f : AM) : TA := fun σ H Q => ∃ P loc n ds n', Rep R P loc n σ H ∧ f loc n = some (ds, n') ∧ ∀ vs P' H', Stp R.K R.W P H P' H' n' → HdAll R.K P' vs ds → Q vs H'

section
variable {X : Cx} {e : Expr} {R : Rt} {f : EM}
theorem pe_sub {t t' : TE} (h : PE X e t) (k : ∀ σ H Q, t' σ H Q → t σ H Q) : PE X e t' := ⟨fun pins s σ H Q I q => h.run pins s σ H Q I (k σ H Q q)⟩
theorem pt_sub {t t' : TT} (h : PT X e t) (k : ∀ σ H Q, t' σ H Q → t σ H Q) : PT X e t' := ⟨fun pins s σ H Q I q => h.run pins s σ H Q I (k σ H Q q)⟩
theorem pw_sub {t t' : TT} (h : PW X e t) (k : ∀ σ H Q, t' σ H Q → t σ H Q) : PW X e t' := ⟨fun wh pins s σ H Q I q => h.run wh pins s σ H Q I (k σ H Q q)⟩
theorem pa_sub {es : List Expr} {t t' : TA} (h : PA X es t) (k : ∀ σ H Q, t' σ H Q → t σ H Q) : PA X es t' := ⟨fun pos pins s σ H Q I q => h.run pos pins s σ H Q I (k σ H Q q)⟩
theorem pd_g (h : PE X e (tD R f)) : PE X e (tG R f) := pe_sub h fun σ H Q ⟨P, loc, n, d, n', r, e, q⟩ => ⟨P, loc, n, d, n', r, e, fun v P' H' s hv => q v P' H' s (.inl hv)⟩
theorem pf_g (h : PE X e (tF R f)) : PE X e (tG R f) := pe_sub h fun σ H Q ⟨P, loc, n, d, n', r, e, q⟩ => ⟨P, loc, n, d, n', r, e, fun a P' H' s hv => q _ P' H' s (.inr ⟨a, rfl, hv⟩)⟩
theorem pg_w (h : PE X e (tG R f)) : PE X e (tW R f) := pe_sub h fun σ H Q ⟨P, loc, n, d, n', r, e, q⟩ => ⟨P, loc, n, d, n', r, e, fun v P' H' s hv => q v P' H' s (by
  rcases hv with hv | ⟨a, rfl, hv⟩
  · exact .hd hv
  · exact hv.hw r.wd)⟩
theorem pd_w (h : PE X e (tD R f)) : PE X e (tW R f) := pg_w (pd_g h)
theorem pf_w (h : PE X e (tF R f)) : PE X e (tW R f) := pg_w (pf_g h)
/-- a new object is taken into P (a dict is locked) -/
theorem seal_at {pins : List (Addr × Obj)} {s : Shared} {σ : St} {P H P' H' : Hp} {n n' : Nat} {a : Addr} {d : D} {K : PySem.W.Frag} {W : Wp} (I : Inv X pins σ H' s) (hw : World K W P H n) (st : Stp K W P H P' H' n') (h0 : H a = none) (hP : P' a = none) (c : Cont K P' H' a d) :
    ∃ P2 H2, Inv X pins σ H2 s ∧ Stp K W P H P2 H2 n' ∧ Hd K P2 (.ref a) d := by
  have pl : ∀ u, PLe P' (upd P' a u) := fun u => PLe.new hP
  cases c with
  | @lst vs ds h1 h2 =>
    have e : upd H' a (.lst vs) = H' := by
      funext b; unfold upd; split
      · rename_i q; subst q; exact h1.symm
      · rfl
    refine ⟨_, _, ?_, st.seal hw h0 hP h1 (u := .lst _), .lst (.inl (.inl upd_same)) (h2.mono (pl _))⟩
    rw [e]; exact I
  | dK h1 h2 =>
    obtain ⟨od, I2⟩ := I.lock h1 trivial
    exact ⟨_, _, I2, st.seal hw h0 hP h1 (u := .frz od _), .dK upd_same (h2.mono (pl _))⟩
  | dT h1 h2 =>
    obtain ⟨od, I2⟩ := I.lock h1 trivial
    exact ⟨_, _, I2, st.seal hw h0 hP h1 (u := .frz od _), .dT upd_same (h2.mono (pl _))⟩
theorem pg_d (h : PE X e (tG R f)) : PE X e (tD R f) := by
  refine ⟨fun pins s σ H Q I ⟨P, loc, n, d, n', r, e, q⟩ => ?_⟩
  refine thn (h.run pins s σ H (fun v H' => ∃ P', Stp R.K R.W P H P' H' n' ∧ Gv R.K H P' H' v d) I ⟨P, loc, n, d, n', r, e, fun v P' H' s hv => ⟨P', s, hv⟩⟩) fun u s1 ⟨v, H1, I1, rv, P1, st, hv⟩ => ?_
  rcases hv with hv | ⟨a, rfl, hv⟩
  · exact ⟨v, H1, I1, rv, q v P1 H1 st hv⟩
  · obtain ⟨P2, H2, I2, st2, hd⟩ := seal_at I1 r.wd st hv.h0 hv.hP hv.ct
    exact ⟨_, H2, I2, rv, q _ P2 H2 st2 hd⟩
theorem pf_d (h : PE X e (tF R f)) : PE X e (tD R f) := pg_d (pf_g h)
end

/-! ### names, constants -/
def eC (d : D) : EM := fun _ n => some (d, n)
def eVar (i : Nat) : EM := fun loc n => match loc[i]? with
  | some (.val d) => some (d, n)
  | _ => none
/-- also of an owned thing -/
def eVarW (i : Nat) : EM := fun loc n => match loc[i]? with
  | some (.val d) => some (d, n)
  | some (.own d) => some (d, n)
  | _ => none
section
variable {X : Cx} {R : Rt} {i : Nat} {x : Str} {pos : Pos}
theorem de_var (hN : X.N[i]? = some x := by rfl) (hv : Vis X.env.scope x := by first | exact Or.inl rfl | exact Or.inr (Or.inl rfl) | exact Or.inr (Or.inr rfl)) (hd : (x == ("__debug__" : Str)) = false := by decide)
    (hcd : (x == ("__classdict__" : Str)) = false := by decide) : PE X (.Name x pos) (tD R (eVar i)) := by
  refine pe_sub (pe_var hN hv hd hcd) fun σ H Q ⟨P, loc, n, d, n', r, e, q⟩ => ?_
  unfold eVar at e
  split at e
  · rename_i d' h
    cases e
    obtain ⟨v, e, hv⟩ := r.cell i _ h
    exact ⟨v, e, q v P H (Stp.refl r.sub r.wd) hv⟩
  · cases e
theorem dw_var (hN : X.N[i]? = some x := by rfl) (hv : Vis X.env.scope x := by first | exact Or.inl rfl | exact Or.inr (Or.inl rfl) | exact Or.inr (Or.inr rfl)) (hd : (x == ("__debug__" : Str)) = false := by decide)
    (hcd : (x == ("__classdict__" : Str)) = false := by decide) : PE X (.Name x pos) (tW R (eVarW i)) := by
  refine pe_sub (pe_var hN hv hd hcd) fun σ H Q ⟨P, loc, n, d, n', r, e, q⟩ => ?_
  unfold eVarW at e
  split at e
  · rename_i d' h
    cases e
    obtain ⟨v, e, hv⟩ := r.cell i _ h
    exact ⟨v, e, q v P H (Stp.refl r.sub r.wd) (.hd hv)⟩
  · rename_i d' h
    cases e
    obtain ⟨a, e, h0, hP, nw, c⟩ := r.cell i _ h
    exact ⟨_, e, q _ P H (Stp.refl r.sub r.wd) (.ct nw c)⟩
  · cases e
theorem dc_of {e : Expr} {v : V} {d : D} (h : PE X e (tC v)) (hv : ∀ P, Hd R.K P v d) : PE X e (tD R (eC d)) := pe_sub h fun σ H Q ⟨P, loc, n, d, n', r, e, q⟩ => by
  cases e
  exact q v P H (Stp.refl r.sub r.wd) (hv P)
theorem dc_int {i : Int} {j pos} : PE X (.Constant (.int i) j pos) (tD R (eC (.int i))) := dc_of pe_int fun _ => .int i
theorem dc_bl {b : Bool} {j pos} : PE X (.Constant (.bool b) j pos) (tD R (eC (.bool b))) := dc_of pe_bl fun _ => .bl b
theorem dc_non {j pos} : PE X (.Constant .none j pos) (tD R (eC .none)) := dc_of pe_non fun _ => .non
theorem dc_str {x : Str} {j pos} : PE X (.Constant (.str x) j pos) (tD R (eC (.str x))) := dc_of pe_str fun _ => .str x
end

/-! ### operators by values -/
/-- what an operation at (P, H) must come to -/
abbrev Post (K : PySem.W.Frag) (W : Wp) (P H : Hp) (n : Nat) (d : D) (Q : VK) : Prop := ∀ v P' H', Stp K W P H P' H' n → Gv K H P' H' v d → Q v H'
def Op2 (K : PySem.W.Frag) (r : R2) (g : D → D → Option D) : Prop := ∀ (W : Wp) (x y : V) (H P : Hp) (n : Nat) (d e z : D) (Q : VK), PLe P H → World K W P H n → Hw K W P H x d → Hw K W P H y e → g d e = some z → Post K W P H n z Q → r x y H Q
def Op1 (K : PySem.W.Frag) (r : V → Hp → VK → Prop) (g : D → Option D) : Prop := ∀ (W : Wp) (x : V) (H P : Hp) (n : Nat) (d z : D) (Q : VK), PLe P H → World K W P H n → Hw K W P H x d → g d = some z → Post K W P H n z Q → r x H Q
theorem Post.val {K : PySem.W.Frag} {W : Wp} {P H : Hp} {n : Nat} {d : D} {Q : VK} (p : Post K W P H n d Q) (hs : PLe P H) (hw : World K W P H n) {v : V} (h : Hd K P v d) : Q v H := p v P H (Stp.refl hs hw) (.inl h)
/-- a new tuple -/
theorem Post.tup {K : PySem.W.Frag} {W : Wp} {P H : Hp} {n : Nat} {ds : List D} {Q : VK} (p : Post K W P H n (.tuple ds) Q) (hs : PLe P H) (hw : World K W P H n) {a : Addr} {vs : List V} (ha : H a = none) (h : HdAll K P vs ds) : Q (.ref a) (upd H a (.tup vs)) :=
  p _ _ _ (Stp.allocP hs hw ha) (.inl (.tup (.inl (.inl upd_same)) (h.mono (PLe.new (none_of_sub hs ha)))))
/-- a new list -/
theorem Post.lst {K : PySem.W.Frag} {W : Wp} {P H : Hp} {n : Nat} {ds : List D} {Q : VK} (p : Post K W P H n (.list ds) Q) (hs : PLe P H) (hw : World K W P H n) {a : Addr} {vs : List V} (ha : H a = none) (h : HdAll K P vs ds) : Q (.ref a) (upd H a (.lst vs)) :=
  p _ _ _ (Stp.alloc hs hw ha) (.inr ⟨a, rfl, ha, none_of_sub hs ha, .lst upd_same h⟩)
theorem Post.lstP {K : PySem.W.Frag} {W : Wp} {P H : Hp} {n : Nat} {ds : List D} {Q : VK} (p : Post K W P H n (.list ds) Q) (hs : PLe P H) (hw : World K W P H n) {a : Addr} {vs : List V} (ha : H a = none) (h : HdAll K P vs ds) : Q (.ref a) (upd H a (.lst vs)) :=
  p _ _ _ (Stp.alloc hs hw ha) (.inr ⟨a, rfl, ha, none_of_sub hs ha, .lst upd_same h⟩)

def eOp (g : D → D → Option D) (fa fb : EM) : EM := fun loc n => (fa loc n).bind fun p => (fb loc p.2).bind fun q => (g p.1 q.1).map fun z => (z, q.2)
def eOp1 (g : D → Option D) (fa : EM) : EM := fun loc n => (fa loc n).bind fun p => (g p.1).map fun z => (z, p.2)
theorem eOp_some {g : D → D → Option D} {fa fb : EM} {loc : Loc} {n : Nat} {z : D} {n' : Nat} (h : eOp g fa fb loc n = some (z, n')) : ∃ d n1 e, fa loc n = some (d, n1) ∧ fb loc n1 = some (e, n') ∧ g d e = some z := by
  unfold eOp at h
  obtain ⟨⟨d, n1⟩, h1, h⟩ := Option.bind_eq_some_iff.mp h
  obtain ⟨⟨e, n2⟩, h2, h⟩ := Option.bind_eq_some_iff.mp h
  obtain ⟨w, h3, h⟩ := Option.map_eq_some_iff.mp h
  cases h
  exact ⟨d, n1, e, h1, h2, h3⟩
theorem eOp1_some {g : D → Option D} {fa : EM} {loc : Loc} {n : Nat} {z : D} {n' : Nat} (h : eOp1 g fa loc n = some (z, n')) : ∃ d, fa loc n = some (d, n') ∧ g d = some z := by
  unfold eOp1 at h
  obtain ⟨⟨d, n1⟩, h1, h⟩ := Option.bind_eq_some_iff.mp h
  obtain ⟨w, h3, h⟩ := Option.map_eq_some_iff.mp h
  cases h
  exact ⟨d, h1, h3⟩
section
variable {X : Cx} {R : Rt} {a b : Expr} {fa fb : EM} {pos : Pos}
theorem tG_op {r : R2} {g : D → D → Option D} (o : Op2 R.K r g) : ∀ σ H Q, tG R (eOp g fa fb) σ H Q → tOp r (tW R fa) (tW R fb) σ H Q := fun σ H Q ⟨P, loc, n, z, n', rp, e, q⟩ => by
  obtain ⟨d, n1, e, h1, h2, h3⟩ := eOp_some e
  refine ⟨P, loc, n, d, n1, rp, h1, fun v P1 H1 s1 hv => ⟨P1, loc, n1, e, n', rp.step s1, h2, fun w P2 H2 s2 hw => ?_⟩⟩
  have s := s1.trans rp.wd s2
  refine o R.W v w H2 P2 n' d e z Q s2.sub s2.wd (hv.step s2) hw h3 fun u P3 H3 s3 hu => q u P3 H3 (s.trans rp.wd s3) ?_
  rcases hu with hu | ⟨a, rfl, f⟩
  · exact .inl hu
  · exact .inr ⟨a, rfl, s.back rp.wd f.h0, f.hP, f.ct⟩
theorem dg_op {op : Operator} {r : R2} {g : D → D → Option D} (h : OpR X (binaryOp op) r) (o : Op2 R.K r g) (ha : PE X a (tW R fa)) (hb : PE X b (tW R fb)) : PE X (.BinOp a op b pos) (tG R (eOp g fa fb)) := pe_sub (pe_op h ha hb) (tG_op o)
theorem dg_cmp {op : CmpOp} {r : R2} {g : D → D → Option D} (h : OpR X (compareOp op) r) (o : Op2 R.K r g) (ha : PE X a (tW R fa)) (hb : PE X b (tW R fb)) (hm : behindInMarks op b = false := by first | exact nomark _ | rfl) : PE X (.Compare a [op] [b] pos) (tG R (eOp g fa fb)) := pe_sub (pe_cmpR h ha hb hm) (tG_op o)
theorem tG_un {r : V → Hp → VK → Prop} {g : D → Option D} (o : Op1 R.K r g) : ∀ σ H Q, tG R (eOp1 g fa) σ H Q → tUn r (tW R fa) σ H Q := fun σ H Q ⟨P, loc, n, z, n', rp, e, q⟩ => by
  obtain ⟨d, h1, h3⟩ := eOp1_some e
  refine ⟨P, loc, n, d, n', rp, h1, fun v P1 H1 s1 hv => ?_⟩
  refine o R.W v H1 P1 n' d z Q s1.sub s1.wd hv h3 fun u P3 H3 s3 hu => q u P3 H3 (s1.trans rp.wd s3) ?_
  rcases hu with hu | ⟨a, rfl, f⟩
  · exact .inl hu
  · exact .inr ⟨a, rfl, s1.back rp.wd f.h0, f.hP, f.ct⟩
theorem dg_un {op : UnaryOp} {r : V → Hp → VK → Prop} {g : D → Option D} (h : UnR X (unaryOp op) r) (o : Op1 R.K r g) (ha : PE X a (tW R fa)) : PE X (.UnaryOp op a pos) (tG R (eOp1 g fa)) := pe_sub (pe_un h ha) (tG_un o)
theorem dg_ix {r : R2} {g : D → D → Option D} (h : IxR X r) (o : Op2 R.K r g) (ha : PE X a (tW R fa)) (hb : PE X b (tW R fb)) (hs : PlainIx b) : PE X (.Subscript a b pos) (tG R (eOp g fa fb)) := pe_sub (pe_ix h ha hb hs) (tG_op o)
end

/-! ### tests -/
def asB (f : EM) : TM := fun loc n => match f loc n with
  | some (.bool b, n') => some (b, n')
  | _ => none
theorem asB_some {f : EM} {loc : Loc} {n : Nat} {b : Bool} {n' : Nat} (h : asB f loc n = some (b, n')) : f loc n = some (.bool b, n') := by
  unfold asB at h
  split at h
  · rename_i h'; cases h; exact h'
  · cases h
theorem gv_bool {K : PySem.W.Frag} {H P' H' : Hp} {v : V} {b : Bool} (h : Gv K H P' H' v (.bool b)) : v = .bl b := by
  rcases h with h | ⟨a, rfl, f⟩
  · cases h; rfl
  · cases f.ct
section
variable {X : Cx} {R : Rt} {a b : Expr} {fa fb : EM} {pos : Pos}
theorem dt_of {e : Expr} {t : TE} {f : EM} (h : PT X e (tB t)) (k : ∀ σ H Q, tG R f σ H Q → t σ H Q) : PT X e (tT R (asB f)) := pt_sub h fun σ H Q ⟨P, loc, n, b, n', rp, e, q⟩ =>
  k σ H _ ⟨P, loc, n, _, n', rp, asB_some e, fun v P' H' s hv => ⟨b, gv_bool hv, q P' H' s⟩⟩
theorem dt_val {e : Expr} {f : EM} (h : PE X e (tG R f)) (he : ∀ whole, isTrue e X.env whole = (do let v ← whole; standAt e.pos; holding [v] (truthy v)) := by intro _; rfl) : PT X e (tT R (asB f)) := dt_of (pt_val h he) fun _ _ _ q => q
theorem dt_cmp {op : CmpOp} {r : R2} {g : D → D → Option D} (h : OpR X (compareOp op) r) (o : Op2 R.K r g) (ha : PE X a (tW R fa)) (hb : PE X b (tW R fb)) (hm : behindInMarks op b = false := by first | exact nomark _ | rfl) : PT X (.Compare a [op] [b] pos) (tT R (asB (eOp g fa fb))) :=
  dt_of (pt_cmpR h ha hb hm) (tG_op o)
def mAnd (f g : TM) : TM := fun loc n => (f loc n).bind fun p => if p.1 = true then g loc p.2 else some (false, p.2)
def mOr (f g : TM) : TM := fun loc n => (f loc n).bind fun p => if p.1 = true then some (true, p.2) else g loc p.2
def mNot (f : TM) : TM := fun loc n => (f loc n).map fun p => (!p.1, p.2)
variable {f g : TM} {rest : List Expr}
theorem dw_and1 (ha : PT X a (tT R f)) : PW X (.BoolOp .And [a] pos) (tT R f) := pw_and1 ha
theorem dw_or1 (ha : PT X a (tT R f)) : PW X (.BoolOp .Or [a] pos) (tT R f) := pw_or1 ha
theorem dw_and (ha : PT X a (tT R f)) (hb : PW X (.BoolOp .And (b :: rest) pos) (tT R g)) : PW X (.BoolOp .And (a :: b :: rest) pos) (tT R (mAnd f g)) := pw_sub (pw_and ha hb) fun σ H Q ⟨P, loc, n, z, n', rp, e, q⟩ => by
  obtain ⟨⟨c, n1⟩, h1, h⟩ := Option.bind_eq_some_iff.mp e
  refine ⟨P, loc, n, c, n1, rp, h1, fun P1 H1 s1 => ?_⟩
  show if c = true then _ else _
  by_cases hc : c = true
  · rw [if_pos hc]
    rw [if_pos hc] at h
    exact ⟨P1, loc, n1, z, n', rp.step s1, h, fun P2 H2 s2 => q P2 H2 (s1.trans rp.wd s2)⟩
  · rw [if_neg hc]
    rw [if_neg hc] at h
    cases h
    exact q P1 H1 s1
theorem dw_or (ha : PT X a (tT R f)) (hb : PW X (.BoolOp .Or (b :: rest) pos) (tT R g)) : PW X (.BoolOp .Or (a :: b :: rest) pos) (tT R (mOr f g)) := pw_sub (pw_or ha hb) fun σ H Q ⟨P, loc, n, z, n', rp, e, q⟩ => by
  obtain ⟨⟨c, n1⟩, h1, h⟩ := Option.bind_eq_some_iff.mp e
  refine ⟨P, loc, n, c, n1, rp, h1, fun P1 H1 s1 => ?_⟩
  show if c = true then _ else _
  by_cases hc : c = true
  · rw [if_pos hc]
    rw [if_pos hc] at h
    cases h
    exact q P1 H1 s1
  · rw [if_neg hc]
    rw [if_neg hc] at h
    exact ⟨P1, loc, n1, z, n', rp.step s1, h, fun P2 H2 s2 => q P2 H2 (s1.trans rp.wd s2)⟩
theorem dt_not (ha : PT X a (tT R f)) : PT X (.UnaryOp .Not a pos) (tT R (mNot f)) := pt_sub (pt_not ha) fun σ H Q ⟨P, loc, n, z, n', rp, e, q⟩ => by
  obtain ⟨⟨c, n1⟩, h1, h⟩ := Option.map_eq_some_iff.mp e
  cases h
  exact ⟨P, loc, n, c, n1, rp, h1, q⟩
/-- .. as values -/
def eAnd (fa fb : EM) : EM := fun loc n => match fa loc n with
  | some (.bool true, n1) => fb loc n1
  | some (.bool false, n1) => some (.bool false, n1)
  | _ => none
def eOr (fa fb : EM) : EM := fun loc n => match fa loc n with
  | some (.bool true, n1) => some (.bool true, n1)
  | some (.bool false, n1) => fb loc n1
  | _ => none
def eNot (fa : EM) : EM := fun loc n => match fa loc n with
  | some (.bool b, n1) => some (.bool (!b), n1)
  | _ => none
theorem dg_one {op} {fa : EM} (h : PE X a (tG R fa)) : PE X (.BoolOp op [a] pos) (tG R fa) := pe_one h
theorem gv_back {K : PySem.W.Frag} {W : Wp} {P H P1 H1 P' H' : Hp} {n n1 : Nat} {v : V} {d : D} (hw : World K W P H n) (s : Stp K W P H P1 H1 n1) (h : Gv K H1 P' H' v d) : Gv K H P' H' v d := by
  rcases h with h | ⟨a, rfl, f⟩
  · exact .inl h
  · exact .inr ⟨a, rfl, s.back hw f.h0, f.hP, f.ct⟩
theorem dg_and (ha : PE X a (tG R fa)) (hb : PE X (.BoolOp .And (b :: rest) pos) (tG R fb)) : PE X (.BoolOp .And (a :: b :: rest) pos) (tG R (eAnd fa fb)) := pe_sub (pe_and ha hb) fun σ H Q ⟨P, loc, n, z, n', rp, e, q⟩ => by
  unfold eAnd at e
  split at e
  · rename_i n1 h1
    refine ⟨P, loc, n, _, n1, rp, h1, fun v P1 H1 s1 hv => ⟨true, gv_bool hv, ?_⟩⟩
    rw [if_pos rfl]
    exact ⟨P1, loc, n1, z, n', rp.step s1, e, fun v P2 H2 s2 hv => q v P2 H2 (s1.trans rp.wd s2) (gv_back rp.wd s1 hv)⟩
  · rename_i n1 h1
    cases e
    refine ⟨P, loc, n, _, n', rp, h1, fun v P1 H1 s1 hv => ⟨false, gv_bool hv, ?_⟩⟩
    rw [if_neg Bool.false_ne_true]
    exact q _ P1 H1 s1 (.inl (.bl false))
  · cases e
theorem dg_or (ha : PE X a (tG R fa)) (hb : PE X (.BoolOp .Or (b :: rest) pos) (tG R fb)) : PE X (.BoolOp .Or (a :: b :: rest) pos) (tG R (eOr fa fb)) := pe_sub (pe_or ha hb) fun σ H Q ⟨P, loc, n, z, n', rp, e, q⟩ => by
  unfold eOr at e
  split at e
  · rename_i n1 h1
    cases e
    refine ⟨P, loc, n, _, n', rp, h1, fun v P1 H1 s1 hv => ⟨true, gv_bool hv, ?_⟩⟩
    rw [if_pos rfl]
    exact q _ P1 H1 s1 (.inl (.bl true))
  · rename_i n1 h1
    refine ⟨P, loc, n, _, n1, rp, h1, fun v P1 H1 s1 hv => ⟨false, gv_bool hv, ?_⟩⟩
    rw [if_neg Bool.false_ne_true]
    exact ⟨P1, loc, n1, z, n', rp.step s1, e, fun v P2 H2 s2 hv => q v P2 H2 (s1.trans rp.wd s2) (gv_back rp.wd s1 hv)⟩
  · cases e
theorem dg_not (ha : PE X a (tG R fa)) : PE X (.UnaryOp .Not a pos) (tG R (eNot fa)) := pe_sub (pe_not ha) fun σ H Q ⟨P, loc, n, z, n', rp, e, q⟩ => by
  unfold eNot at e
  split at e
  · rename_i b n1 h1
    cases e
    exact ⟨P, loc, n, _, n', rp, h1, fun v P1 H1 s1 hv => ⟨b, gv_bool hv, q _ P1 H1 s1 (.inl (.bl _))⟩⟩
  · cases e
/-- a if t else b -/
def eIf (t : TM) (fa fb : EM) : EM := fun loc n => (t loc n).bind fun p => if p.1 = true then fa loc p.2 else fb loc p.2
theorem tG_if {c : Expr} {tm : TM} (hc : PT X c (tT R tm)) (ha : PE X a (tG R fa)) (hb : PE X b (tG R fb)) : PE X (.IfExp c a b pos) (tG R (eIf tm fa fb)) := pe_sub (pe_ifExp hc ha hb) fun σ H Q ⟨P, loc, n, z, n', rp, e, q⟩ => by
  obtain ⟨⟨c, n1⟩, h1, h⟩ := Option.bind_eq_some_iff.mp e
  refine ⟨P, loc, n, c, n1, rp, h1, fun P1 H1 s1 => ?_⟩
  show if c = true then _ else _
  by_cases hc : c = true
  · rw [if_pos hc]
    rw [if_pos hc] at h
    exact ⟨P1, loc, n1, z, n', rp.step s1, h, fun v P2 H2 s2 hv => q v P2 H2 (s1.trans rp.wd s2) (gv_back rp.wd s1 hv)⟩
  · rw [if_neg hc]
    rw [if_neg hc] at h
    exact ⟨P1, loc, n1, z, n', rp.step s1, h, fun v P2 H2 s2 hv => q v P2 H2 (s1.trans rp.wd s2) (gv_back rp.wd s1 hv)⟩
end
/-! ### lists of arguments, displays -/
def aNil : AM := fun _ n => some ([], n)
def aCons (f : EM) (g : AM) : AM := fun loc n => (f loc n).bind fun p => (g loc p.2).map fun q => (p.1 :: q.1, q.2)
theorem aCons_some {f : EM} {g : AM} {loc : Loc} {n : Nat} {ds : List D} {n' : Nat} (h : aCons f g loc n = some (ds, n')) : ∃ d n1 es, f loc n = some (d, n1) ∧ g loc n1 = some (es, n') ∧ ds = d :: es := by
  unfold aCons at h
  obtain ⟨⟨d, n1⟩, h1, h⟩ := Option.bind_eq_some_iff.mp h
  obtain ⟨⟨es, n2⟩, h2, h⟩ := Option.map_eq_some_iff.mp h
  cases h
  exact ⟨d, n1, es, h1, h2, rfl⟩
section
variable {X : Cx} {R : Rt} {e : Expr} {es : List Expr} {f : EM} {g : AM} {pos : Pos}
theorem da_nil : PA X [] (tA R aNil) := pa_sub pa_nil fun σ H Q ⟨P, loc, n, z, n', rp, e, q⟩ => by
  cases e
  exact q [] P H (Stp.refl rp.sub rp.wd) .nil
theorem da_cons (ha : PE X e (tD R f)) (hr : PA X es (tA R g)) (hs : starEach (e :: es) X.env = (false, eval e X.env) :: starEach es X.env := by rfl) : PA X (e :: es) (tA R (aCons f g)) := pa_sub (pa_cons ha hr hs) fun σ H Q ⟨P, loc, n, z, n', rp, e, q⟩ => by
  obtain ⟨d, n1, es, h1, h2, rfl⟩ := aCons_some e
  exact ⟨P, loc, n, d, n1, rp, h1, fun v P1 H1 s1 hv => ⟨P1, loc, n1, es, n', rp.step s1, h2, fun vs P2 H2 s2 hvs => q _ P2 H2 (s1.trans rp.wd s2) (.cons (hv.mono s2.ple) hvs)⟩⟩
def eTup (g : AM) : EM := fun loc n => (g loc n).bind fun p => if p.1.length ≤ 1000 then some (.tuple p.1, p.2) else none
def eList (g : AM) : EM := fun loc n => (g loc n).bind fun p => if p.1.length ≤ 1000 then some (.list p.1, p.2) else none
theorem sz1000 {n : Nat} (h : n ≤ 1000) : n ≤ sizeLine := Nat.le_trans h (by decide)
theorem dg_tup {k : Nat} (h : PA X es (tA R g)) : PE X (.Tuple es k pos) (tG R (eTup g)) := pe_sub (pe_tup h) fun σ H Q ⟨P, loc, n, z, n', rp, e, q⟩ => by
  obtain ⟨⟨ds, n1⟩, h1, h⟩ := Option.bind_eq_some_iff.mp e
  split at h
  · rename_i hl
    cases h
    refine ⟨P, loc, n, ds, n1, rp, h1, fun vs P1 H1 s1 hvs => ⟨sz1000 (by rw [hvs.length]; exact hl), fun p hp => ?_⟩⟩
    exact Post.tup (K := R.K) (W := R.W) (P := P1) (n := n1) (ds := ds) (Q := Q) (fun v P2 H2 s2 hv => q v P2 H2 (s1.trans rp.wd s2) (gv_back rp.wd s1 hv)) s1.sub s1.wd hp hvs
  · cases h
theorem df_list (h : PA X es (tA R g)) : PE X (.List es pos) (tF R (eList g)) := pe_sub (pe_lst h) fun σ H Q ⟨P, loc, n, z, n', rp, e, q⟩ => by
  obtain ⟨⟨ds, n1⟩, h1, h⟩ := Option.bind_eq_some_iff.mp e
  split at h
  · rename_i hl
    cases h
    refine ⟨P, loc, n, ds, n1, rp, h1, fun vs P1 H1 s1 hvs => ⟨sz1000 (by rw [hvs.length]; exact hl), fun p hp => ?_⟩⟩
    exact q p P1 _ (s1.trans rp.wd (Stp.alloc s1.sub s1.wd hp)) ⟨s1.back rp.wd hp, none_of_sub s1.sub hp, .lst upd_same hvs⟩
  · cases h
end
end Pd
namespace Pd
open PySem L2

/-! ### cells set -/
theorem getElem?_set' {α : Type} {l : List α} {i j : Nat} {a b : α} (h : (l.set i a)[j]? = some b) : (i = j ∧ b = a ∧ j < l.length) ∨ (i ≠ j ∧ l[j]? = some b) := by
  by_cases e : i = j
  · subst e
    by_cases hi : i < l.length
    · rw [List.getElem?_set_self hi] at h; cases h; exact .inl ⟨rfl, rfl, hi⟩
    · rw [List.getElem?_eq_none (by simpa using hi)] at h; cases h
  · rw [List.getElem?_set_ne e] at h; exact .inr ⟨e, h⟩
section
variable {R : Rt} {P P1 : Hp} {loc : Loc} {n n1 : Nat} {σ : St} {H H1 : Hp} {v : V} {d : D}
theorem Rep.set (r : Rep R P loc n σ H) (i : Nat) (h : Hd R.K P v d) : Rep R P (loc.set i (.val d)) n (σ.set i (some v)) H := by
  refine ⟨r.sub, r.ext0, r.ple0, r.new0, r.wd, by simp [r.len], fun j c hj => ?_, fun j k a d1 d2 hj hk ej ek => ?_⟩
  · rcases getElem?_set' hj with ⟨rfl, rfl, hl⟩ | ⟨ne, hj⟩
    · exact ⟨v, by rw [List.getElem?_set_self (by rw [← r.len]; exact hl)], h⟩
    · rw [List.getElem?_set_ne ne]; exact r.cell j c hj
  · rcases getElem?_set' hj with ⟨_, q, _⟩ | ⟨nj, hj⟩
    · cases q
    · rcases getElem?_set' hk with ⟨_, q, _⟩ | ⟨nk, hk⟩
      · cases q
      · rw [List.getElem?_set_ne nj] at ej
        rw [List.getElem?_set_ne nk] at ek
        exact r.sep j k a d1 d2 hj hk ej ek
/-- a new object becomes a slot's own -/
theorem Rep.setOwn {n' : Nat} {P' H' : Hp} {a : Addr} (r : Rep R P loc n σ H) (s : Stp R.K R.W P H P' H' n') (i : Nat) (f : Fr R.K H P' H' a d) : Rep R P' (loc.set i (.own d)) n' (σ.set i (some (.ref a))) H' := by
  have r' := r.step s
  have nw : Nw R.W a := r.wd.nw f.h0
  have other : ∀ (j : Nat) (d1 : D) (b : Addr), loc[j]? = some (.own d1) → σ[j]? = some (some (.ref b)) → b ≠ a := fun j d1 b hj hb e => by
    obtain ⟨b', e', _, _, _, c⟩ := r.cell j _ hj
    rw [hb] at e'; cases e'
    obtain ⟨o, ho, _⟩ := c.there
    rw [e, f.h0] at ho; cases ho
  refine ⟨r'.sub, r'.ext0, r'.ple0, r'.new0, r'.wd, by simp [r.len], fun j c hj => ?_, fun j k b d1 d2 hj hk ej ek => ?_⟩
  · rcases getElem?_set' hj with ⟨rfl, rfl, hl⟩ | ⟨ne, hj⟩
    · exact ⟨a, by rw [List.getElem?_set_self (by rw [← r.len]; exact hl)], r.ext0.fresh f.h0 nw, f.hP, nw, f.ct⟩
    · rw [List.getElem?_set_ne ne]; exact r'.cell j c hj
  · rcases getElem?_set' hj with ⟨hij, _, hl⟩ | ⟨nj, hj⟩
    · rcases getElem?_set' hk with ⟨hik, _, _⟩ | ⟨nk, hk⟩
      · exact hij.symm.trans hik
      · subst hij
        rw [List.getElem?_set_self (by rw [← r.len]; exact hl)] at ej
        rw [List.getElem?_set_ne nk] at ek
        cases ej
        exact absurd rfl (other k d2 _ hk ek)
    · rcases getElem?_set' hk with ⟨hik, _, hl⟩ | ⟨nk, hk⟩
      · subst hik
        rw [List.getElem?_set_self (by rw [← r.len]; exact hl)] at ek
        rw [List.getElem?_set_ne nj] at ej
        cases ek
        exact absurd rfl (other j d1 _ hj ej)
      · rw [List.getElem?_set_ne nj] at ej
        rw [List.getElem?_set_ne nk] at ek
        exact r.sep j k b d1 d2 hj hk ej ek
/-- an own object is changed -/
theorem Rep.mut {a : Addr} {d' : D} {o : HO} (r : Rep R P loc n σ H) {i : Nat} (hi : loc[i]? = some (.own d)) (hs : σ[i]? = some (some (.ref a))) (c : Cont R.K P (upd H a o) a d') : Rep R P (loc.set i (.own d')) n σ (upd H a o) := by
  obtain ⟨a', e, h0, hP, nw, c0⟩ := r.cell i _ hi
  rw [hs] at e; cases e
  have neP : ∀ b u, P b = some u → b ≠ a := fun b u h z => by rw [z, hP] at h; cases h
  refine ⟨fun b u h => by rw [upd_ne (neP b u h)]; exact r.sub b u h, fun b u h hn => ?_, r.ple0, r.new0, fun on => ⟨by rw [upd_ne (fun z => nw on z.symm)]; exact (r.wd on).1, (r.wd on).2⟩, by simp [r.len], fun j c hj => ?_, fun j k b d1 d2 hj hk ej ek => ?_⟩
  · rw [upd_ne (ne_of_none h h0)]; exact r.ext0 b u h hn
  · rcases getElem?_set' hj with ⟨rfl, rfl, hl⟩ | ⟨ne, hj⟩
    · exact ⟨a, hs, h0, hP, nw, c⟩
    · have q := r.cell j c hj
      cases c with
      | un => trivial
      | val d => exact q
      | own d1 =>
        obtain ⟨b, e, b0, bP, bw, bc⟩ := q
        have nb : b ≠ a := fun z => by
          subst z
          exact ne (r.sep i j b _ _ hi hj hs e)
        exact ⟨b, e, b0, bP, bw, bc.step (PLe.refl P) fun o e => by rw [upd_ne nb]; exact e⟩
      | wd => exact q
  · have back : ∀ (j : Nat) (d1 : D), (loc.set i (.own d'))[j]? = some (.own d1) → ∃ d2, loc[j]? = some (.own d2) := fun j d1 hj => by
      rcases getElem?_set' hj with ⟨rfl, _, _⟩ | ⟨_, hj⟩
      · exact ⟨_, hi⟩
      · exact ⟨_, hj⟩
    obtain ⟨_, hj⟩ := back j d1 hj
    obtain ⟨_, hk⟩ := back k d2 hk
    exact r.sep j k b _ _ hj hk ej ek
/-- a cell is forgotten -/
theorem Rep.un (r : Rep R P loc n σ H) (i : Nat) (o : Option V) : Rep R P (loc.set i .un) n (σ.set i o) H := by
  refine ⟨r.sub, r.ext0, r.ple0, r.new0, r.wd, by simp [r.len], fun j c hj => ?_, fun j k a d1 d2 hj hk ej ek => ?_⟩
  · rcases getElem?_set' hj with ⟨rfl, rfl, hl⟩ | ⟨ne, hj⟩
    · trivial
    · rw [List.getElem?_set_ne ne]; exact r.cell j c hj
  · rcases getElem?_set' hj with ⟨_, q, _⟩ | ⟨nj, hj⟩
    · cases q
    · rcases getElem?_set' hk with ⟨_, q, _⟩ | ⟨nk, hk⟩
      · cases q
      · rw [List.getElem?_set_ne nj] at ej
        rw [List.getElem?_set_ne nk] at ek
        exact r.sep j k a d1 d2 hj hk ej ek
end

/-! ### targets -/
abbrev GM := D → Loc → Option Loc
abbrev GMs := List D → Loc → Option Loc
/-- σ' is σ but for the slots ts -/
def But (ts : List Nat) (σ σ' : St) : Prop := σ'.length = σ.length ∧ ∀ j, j ∉ ts → σ'[j]? = σ[j]?
theorem But.refl (σ : St) : But [] σ σ := ⟨rfl, fun _ _ => rfl⟩
theorem But.set (σ : St) (i : Nat) (o : Option V) : But [i] σ (σ.set i o) := ⟨by simp, fun j h => by rw [List.getElem?_set_ne (fun e => h (by simp [e]))]⟩
theorem But.trans {ts us : List Nat} {σ σ1 σ2 : St} (a : But ts σ σ1) (b : But us σ1 σ2) : But (ts ++ us) σ σ2 := ⟨b.1.trans a.1, fun j h => by
  rw [List.mem_append, not_or] at h
  exact (b.2 j h.2).trans (a.2 j h.1)⟩
theorem But.mono {ts us : List Nat} {σ σ1 : St} (a : But ts σ σ1) (h : ∀ j ∈ ts, j ∈ us) : But us σ σ1 := ⟨a.1, fun j hj => a.2 j fun z => hj (h j z)⟩
def tGt (R : Rt) (ts : List Nat) (g : GM) : TG := fun v σ H Q => ∃ P loc n d loc', Rep R P loc n σ H ∧ Hd R.K P v d ∧ g d loc = some loc' ∧ ∀ σ', But ts σ σ' → Rep R P loc' n σ' H → Q σ' H
def tGts (R : Rt) (ts : List Nat) (g : GMs) : TGs := fun vs σ H Q => ∃ P loc n ds loc', Rep R P loc n σ H ∧ HdAll R.K P vs ds ∧ g ds loc = some loc' ∧ ∀ σ', But ts σ σ' → Rep R P loc' n σ' H → Q σ' H
def gN (i : Nat) : GM := fun d loc => some (loc.set i (.val d))
def gsNil : GMs := fun ds loc => match ds with
  | [] => some loc
  | _ => none
def gsCons (g : GM) (h : GMs) : GMs := fun ds loc => match ds with
  | d :: r => (g d loc).bind fun loc1 => h r loc1
  | _ => none
def gT (n : Nat) (h : GMs) : GM := fun d loc => match d with
  | .tuple ds => if ds.length = n then h ds loc else none
  | .list ds => if ds.length = n then h ds loc else none
  | _ => none
section
variable {X : Cx} {R : Rt} {pos : Pos} {e : Expr} {es : List Expr}
theorem pgt_sub {t t' : TG} (h : PG X e t) (k : ∀ v σ H Q, t' v σ H Q → t v σ H Q) : PG X e t' := ⟨fun pins s σ H v u Q I r q => h.run pins s σ H v u Q I r (k v σ H Q q)⟩
theorem pgs_sub {t t' : TGs} (h : PGs X es t) (k : ∀ v σ H Q, t' v σ H Q → t v σ H Q) : PGs X es t' := ⟨fun pins s σ H v u Q I r q => h.run pins s σ H v u Q I r (k v σ H Q q)⟩
theorem dg_name {i : Nat} {x : Str} (hN : X.N.Nodup) (hi : X.N[i]? = some x := by rfl) (hx : L2.Loc X.env.scope x := by first | exact .inl rfl | exact .inr rfl) (hf : X.fn x = true ∨ X.env.scope.names.lookup x = some .local := by first | exact .inl rfl | exact .inr rfl | assumption) : PG X (.Name x pos) (tGt R [i] (gN i)) :=
  pgt_sub (pg_name hN hi hx hf) fun v σ H Q ⟨P, loc, n, d, loc', rp, hv, e, q⟩ => by
    cases e
    exact q _ (But.set σ i _) (rp.set i hv)
theorem dgs_nil : PGs X [] (tGts R [] gsNil) := pgs_sub pgs_nil fun vs σ H Q ⟨P, loc, n, d, loc', rp, hv, e, q⟩ => by
  cases hv with
  | nil => cases e; exact ⟨rfl, q σ (But.refl σ) rp⟩
  | cons _ _ => cases e
theorem dgs_cons {ts us : List Nat} {g : GM} {h : GMs} (h1 : PG X e (tGt R ts g)) (h2 : PGs X es (tGts R us h)) (hs : (assignEach (e :: es) X.env).map (·.2) = assign e X.env :: (assignEach es X.env).map (·.2) := by rfl) : PGs X (e :: es) (tGts R (ts ++ us) (gsCons g h)) :=
  pgs_sub (pgs_cons h1 h2 hs) fun vs σ H Q ⟨P, loc, n, d, loc', rp, hv, e, q⟩ => by
    cases hv with
    | nil => cases e
    | @cons v vs d ds hv hvs =>
      obtain ⟨loc1, e1, e2⟩ := Option.bind_eq_some_iff.mp e
      exact ⟨v, vs, rfl, P, loc, n, d, loc1, rp, hv, e1, fun σ1 b1 r1 => ⟨P, loc1, n, ds, loc', r1, hvs, e2, fun σ2 b2 r2 => q σ2 (b1.trans b2) r2⟩⟩
/-- a target of several names, of a tuple or of a list -/
theorem dg_unpack {ts : List Nat} {h : GMs} {k n : Nat} (hc : X.calm = true) (hK : X.K = R.K) (hh : PGs X es (tGts R ts h)) (hn : (assignEach es X.env).length = n := by rfl) (hst : (assignEach es X.env).findIdx? (·.1) = none := by rfl) : PG X (.Tuple es k pos) (tGt R ts (gT n h)) := by
  refine ⟨fun pins s σ H v u Q I r ⟨P, loc, m, d, loc', rp, hv, e, q⟩ => ?_⟩
  cases hv with
  | lst ha hvs =>
    unfold gT at e
    simp only at e
    split at e
    · rename_i hl
      exact (pg_unl hc hh hn hst).run pins s σ H _ u Q I r ⟨_, _, rfl, by rw [hK]; exact ple_l rp.sub ha, by rw [hvs.length]; exact hl, P, loc, m, _, loc', rp, hvs, e, q⟩
    · cases e
  | tup ha hvs =>
    unfold gT at e
    simp only at e
    split at e
    · rename_i hl
      exact (pg_tup hc hh hn hst).run pins s σ H _ u Q I r ⟨_, _, rfl, by rw [hK]; exact ple_t rp.sub ha, by rw [hvs.length]; exact hl, P, loc, m, _, loc', rp, hvs, e, q⟩
    · cases e
  | _ => cases e
end
end Pd
namespace Pd
open PySem L2

/-! ### statements -/
/-- what is wanted behind a statement -/
def Done (R : Rt) (Dn : Ends) (P : Hp) (o : Out) (loc : Loc) (n : Nat) : Prop := ∀ P' H' σ', PLe P P' → Rep R P' loc n σ' H' → match o with
  | .nx => Dn.nx σ' H'
  | .bk => Dn.bk σ' H'
  | .ct => Dn.ct σ' H'
  | .ret d => ∀ v, Hd R.K P' v d → Dn.rt v H'
def tS (R : Rt) (f : SM) : TS := fun Dn σ H => ∃ P loc n o loc' n', Rep R P loc n σ H ∧ f loc n = some (o, loc', n') ∧ Done R Dn P o loc' n'
section
variable {X : Cx} {R : Rt} {st : Stmt} {sts : List Stmt}
theorem ps_sub {t t' : TS} (h : PS X st t) (k : ∀ Dn σ H, t' Dn σ H → t Dn σ H) : PS X st t' := ⟨fun pins s σ H Dn I q => h.run pins s σ H Dn I (k Dn σ H q)⟩
theorem pss_sub {t t' : TS} (h : PSs X sts t) (k : ∀ Dn σ H, t' Dn σ H → t Dn σ H) : PSs X sts t' := ⟨fun pins s σ H Dn I q => h.run pins s σ H Dn I (k Dn σ H q)⟩
end
def sNil : SM := fun loc n => some (.nx, loc, n)
def sSeq (f g : SM) : SM := fun loc n => (f loc n).bind fun p => match p.1 with
  | .nx => g p.2.1 p.2.2
  | o => some (o, p.2.1, p.2.2)
def sSet (g : GM) (f : EM) : SM := fun loc n => (f loc n).bind fun p => (g p.1 loc).map fun loc' => (.nx, loc', p.2)
def sOwn (i : Nat) (f : EM) : SM := fun loc n => (f loc n).map fun p => (.nx, loc.set i (.own p.1), p.2)
def sRet (f : EM) : SM := fun loc n => (f loc n).map fun p => (.ret p.1, loc, p.2)
def sExpr (f : EM) : SM := fun loc n => (f loc n).map fun p => (.nx, loc, p.2)
def sIf (c : TM) (f g : SM) : SM := fun loc n => (c loc n).bind fun p => if p.1 = true then f loc p.2 else g loc p.2
/-- own things at the slots are from now on data -/
def frzC : Cell → Cell
  | .own d => .val d
  | c => c
def sFrz (i : Nat) (f : SM) : SM := fun loc n => match loc[i]? with
  | some (.own d) => f (loc.set i (.val d)) n
  | _ => f loc n
def sAug (i : Nat) (g : D → D → Option D) (f : EM) : SM := fun loc n => match loc[i]? with
  | some (.val d) => (f loc n).bind fun p => (g d p.1).map fun z => (.nx, loc.set i (.val z), p.2)
  | _ => none
def LIM : Nat := 1000000
theorem lim_lt {n : Nat} (h : n < LIM) : n < sizeLine := Nat.lt_of_lt_of_le h (by decide)
theorem lim_le {n : Nat} (h : n ≤ LIM) : n ≤ sizeLine := Nat.le_trans h (by decide)
def sAppend (i : Nat) (f : EM) : SM := fun loc n => match loc[i]? with
  | some (.own (.list ds)) => (f loc n).bind fun p => if ds.length < LIM then some (.nx, loc.set i (.own (.list (ds ++ [p.1]))), p.2) else none
  | _ => none

section
variable {X : Cx} {R : Rt} {st : Stmt} {sts : List Stmt} {e : Expr} {f g : SM} {fe : EM} {pos : Pos}
theorem ds_nil : PSs X [] (tS R sNil) := pss_sub pss_nil fun Dn σ H ⟨P, loc, n, o, loc', n', rp, e, q⟩ => by
  cases e
  exact q P H σ (PLe.refl P) rp
theorem ds_cons (h1 : PS X st (tS R f)) (h2 : PSs X sts (tS R g)) : PSs X (st :: sts) (tS R (sSeq f g)) := pss_sub (pss_cons h1 h2) fun Dn σ H ⟨P, loc, n, o, loc', n', rp, e, q⟩ => by
  obtain ⟨⟨o1, loc1, n1⟩, e1, e2⟩ := Option.bind_eq_some_iff.mp e
  refine ⟨P, loc, n, o1, loc1, n1, rp, e1, fun P1 H1 σ1 l1 r1 => ?_⟩
  cases o1 with
  | nx => exact ⟨P1, loc1, n1, o, loc', n', r1, e2, fun P2 H2 σ2 l2 r2 => q P2 H2 σ2 (l1.trans l2) r2⟩
  | bk => cases e2; exact q P1 H1 σ1 l1 r1
  | ct => cases e2; exact q P1 H1 σ1 l1 r1
  | ret d => cases e2; exact q P1 H1 σ1 l1 r1
theorem ds_one (h1 : PS X st (tS R f)) : PSs X [st] (tS R f) := pss_one h1
theorem ds_pass : PS X (.Pass pos) (tS R sNil) := ps_sub ps_pass fun Dn σ H ⟨P, loc, n, o, loc', n', rp, e, q⟩ => by
  cases e
  exact q P H σ (PLe.refl P) rp
theorem ds_doc {x j pos pos'} : PS X (.Expr (.Constant (.str x) j pos) pos') (tS R sNil) := ps_sub ps_doc fun Dn σ H ⟨P, loc, n, o, loc', n', rp, e, q⟩ => by
  cases e
  exact q P H σ (PLe.refl P) rp
/-- name(s) = value -/
theorem ds_set {tg : Expr} {ts : List Nat} {gm : GM} (he : PE X e (tD R fe)) (hg : PG X tg (tGt R ts gm)) (hs : swapsWithSole [tg] e pos.line X.env = pure false := by rfl) (hw : swappedStores [tg] e X.env = pure none := by rfl)
    (h1 : (assignEach [tg] X.env).map (·.2) = [assign tg X.env] := by rfl) : PS X (.Assign [tg] e pos) (tS R (sSet gm fe)) := ps_sub (ps_asg he hg hs hw h1) fun Dn σ H ⟨P, loc, n, o, loc', n', rp, e, q⟩ => by
  obtain ⟨⟨d, n1⟩, e1, e2⟩ := Option.bind_eq_some_iff.mp e
  obtain ⟨loc1, e3, e4⟩ := Option.map_eq_some_iff.mp e2
  cases e4
  exact ⟨P, loc, n, d, n1, rp, e1, fun v P1 H1 s1 hv => ⟨P1, loc, n1, d, loc', rp.step s1, hv, e3, fun σ' _ r' => q P1 H1 σ' s1.ple r'⟩⟩
/-- name = new list or dict, kept as one's own -/
theorem ds_own {i : Nat} {x : Str} {pos' : Pos} (hN : X.N.Nodup) (he : PE X e (tF R fe)) (hi : X.N[i]? = some x := by rfl) (hx : L2.Loc X.env.scope x := by first | exact .inl rfl | exact .inr rfl) (hs : swapsWith e (some (.Name x pos')) pos.line X.env = pure false := by rfl)
    (hf : X.fn x = true ∨ X.env.scope.names.lookup x = some .local := by first | exact .inl rfl | exact .inr rfl | assumption) : PS X (.Assign [.Name x pos'] e pos) (tS R (sOwn i fe)) := ps_sub (ps_set hN hi hx he hs hf) fun Dn σ H ⟨P, loc, n, o, loc', n', rp, e, q⟩ => by
  obtain ⟨⟨d, n1⟩, e1, e2⟩ := Option.map_eq_some_iff.mp e
  cases e2
  exact ⟨P, loc, n, d, n1, rp, e1, fun a P1 H1 s1 hf => q P1 H1 _ s1.ple (rp.setOwn s1 i hf)⟩
/-- name = value -/
theorem ds_name {i : Nat} {x : Str} {pos' : Pos} (hN : X.N.Nodup) (he : PE X e (tD R fe)) (hi : X.N[i]? = some x := by rfl) (hx : L2.Loc X.env.scope x := by first | exact .inl rfl | exact .inr rfl) (hs : swapsWith e (some (.Name x pos')) pos.line X.env = pure false := by rfl)
    (hf : X.fn x = true ∨ X.env.scope.names.lookup x = some .local := by first | exact .inl rfl | exact .inr rfl | assumption) : PS X (.Assign [.Name x pos'] e pos) (tS R (sSet (gN i) fe)) := ps_sub (ps_set hN hi hx he hs hf) fun Dn σ H ⟨P, loc, n, o, loc', n', rp, e, q⟩ => by
  obtain ⟨⟨d, n1⟩, e1, e2⟩ := Option.bind_eq_some_iff.mp e
  obtain ⟨loc1, e3, e4⟩ := Option.map_eq_some_iff.mp e2
  cases e4
  cases e3
  exact ⟨P, loc, n, d, n1, rp, e1, fun v P1 H1 s1 hv => q P1 H1 _ s1.ple ((rp.step s1).set i hv)⟩
theorem ds_ret (he : PE X e (tD R fe)) : PS X (.Return (some e) pos) (tS R (sRet fe)) := ps_sub (ps_ret he) fun Dn σ H ⟨P, loc, n, o, loc', n', rp, e, q⟩ => by
  obtain ⟨⟨d, n1⟩, e1, e2⟩ := Option.map_eq_some_iff.mp e
  cases e2
  exact ⟨P, loc, n, d, n1, rp, e1, fun v P1 H1 s1 hv => q P1 H1 σ s1.ple (rp.step s1) v hv⟩
theorem ds_expr (he : PE X e (tG R fe)) (hs : swapsWith e none pos.line X.env = pure false := by rfl) : PS X (.Expr e pos) (tS R (sExpr fe)) := ps_sub (ps_expr he hs) fun Dn σ H ⟨P, loc, n, o, loc', n', rp, e, q⟩ => by
  obtain ⟨⟨d, n1⟩, e1, e2⟩ := Option.map_eq_some_iff.mp e
  cases e2
  exact ⟨P, loc, n, d, n1, rp, e1, fun v P1 H1 s1 hv => q P1 H1 σ s1.ple (rp.step s1)⟩
theorem ds_if {c : Expr} {a b : List Stmt} {tm : TM} (hc : PT X c (tT R tm)) (ha : PSs X a (tS R f)) (hb : PSs X b (tS R g)) : PS X (.If c a b pos) (tS R (sIf tm f g)) := ps_sub (ps_if hc ha hb) fun Dn σ H ⟨P, loc, n, o, loc', n', rp, e, q⟩ => by
  obtain ⟨⟨b, n1⟩, e1, e2⟩ := Option.bind_eq_some_iff.mp e
  refine ⟨P, loc, n, b, n1, rp, e1, fun P1 H1 s1 => ?_⟩
  show if b = true then _ else _
  by_cases hb : b = true
  · rw [if_pos hb]
    rw [if_pos hb] at e2
    exact ⟨P1, loc, n1, o, loc', n', rp.step s1, e2, fun P2 H2 σ2 l2 r2 => q P2 H2 σ2 (s1.ple.trans l2) r2⟩
  · rw [if_neg hb]
    rw [if_neg hb] at e2
    exact ⟨P1, loc, n1, o, loc', n', rp.step s1, e2, fun P2 H2 σ2 l2 r2 => q P2 H2 σ2 (s1.ple.trans l2) r2⟩
/-- .. with an own thing turned to data ahead -/
theorem frz_at {pins : List (Addr × Obj)} {s : Shared} {σ : St} {H P : Hp} {loc : Loc} {n i : Nat} {d : D} (I : Inv X pins σ H s) (rp : Rep R P loc n σ H) (hi : loc[i]? = some (.own d)) : ∃ P2 H2, Inv X pins σ H2 s ∧ PLe P P2 ∧ Rep R P2 (loc.set i (.val d)) n σ H2 := by
  obtain ⟨a, e, h0, hP, nw, c⟩ := rp.cell i _ hi
  have old : ∀ (u : HO), PLe P (upd P a u) := fun u => PLe.new hP
  have go : ∀ (u : HO), Hd R.K (upd P a u) (.ref a) d → Rep R (upd P a u) (loc.set i (.val d)) n σ (upd H a u) := fun u hd => by
    refine ⟨fun b v h => ?_, fun b v h hn => ?_, rp.ple0.trans (old u), fun b v h => ?_, fun on => ⟨?_, ?_, (rp.wd on).2.2.mono (old u)⟩, by simp [rp.len], fun j c hj => ?_, fun j k b d1 d2 hj hk ej ek => ?_⟩
    · by_cases q : b = a
      · subst q; rw [upd_same] at h ⊢; exact h
      · rw [upd_ne q] at h; rw [upd_ne q]; exact rp.sub b v h
    · rw [upd_ne (ne_of_none h h0)]; exact rp.ext0 b v h hn
    · by_cases q : b = a
      · subst q; exact .inr (.inl h0)
      · rw [upd_ne q] at h; exact rp.new0 b v h
    · rw [upd_ne (fun z => nw on z.symm)]; exact (rp.wd on).1
    · rw [upd_ne (fun z => nw on z.symm)]; exact (rp.wd on).2.1
    · rcases getElem?_set' hj with ⟨rfl, rfl, hl⟩ | ⟨ne, hj⟩
      · exact ⟨_, e, hd⟩
      · have q := rp.cell j c hj
        cases c with
        | un => trivial
        | val d => obtain ⟨v, ev, hv⟩ := q; exact ⟨v, ev, hv.mono (old u)⟩
        | own d1 =>
          obtain ⟨b, eb, b0, bP, bw, bc⟩ := q
          have nb : b ≠ a := fun z => by
            subst z
            exact ne (rp.sep i j b _ _ hi hj e eb)
          exact ⟨b, eb, b0, by rw [upd_ne nb]; exact bP, bw, bc.step (old u) fun o e => by rw [upd_ne nb]; exact e⟩
        | wd => exact q
    · rcases getElem?_set' hj with ⟨_, q, _⟩ | ⟨nj, hj⟩
      · cases q
      · rcases getElem?_set' hk with ⟨_, q, _⟩ | ⟨nk, hk⟩
        · cases q
        · exact rp.sep j k b d1 d2 hj hk ej ek
  cases c with
  | @lst vs ds h1 h2 =>
    have e : upd H a (.lst vs) = H := by
      funext b; unfold upd; split
      · rename_i q; subst q; exact h1.symm
      · rfl
    exact ⟨_, _, by rw [e]; exact I, old _, go (.lst vs) (.lst (.inl (.inl upd_same)) (h2.mono (old _)))⟩
  | dK h1 h2 =>
    obtain ⟨od, I2⟩ := I.lock h1 trivial
    exact ⟨_, _, I2, old _, go (.frz od _) (.dK upd_same (h2.mono (old _)))⟩
  | dT h1 h2 =>
    obtain ⟨od, I2⟩ := I.lock h1 trivial
    exact ⟨_, _, I2, old _, go (.frz od _) (.dT upd_same (h2.mono (old _)))⟩
theorem ds_frz (i : Nat) (h : PS X st (tS R f)) : PS X st (tS R (sFrz i f)) := by
  refine ⟨fun pins s σ H Dn I ⟨P, loc, n, o, loc', n', rp, e, q⟩ => ?_⟩
  unfold sFrz at e
  split at e
  · rename_i d hi
    obtain ⟨P2, H2, I2, l2, rp2⟩ := frz_at I rp hi
    exact h.run pins s σ H2 Dn I2 ⟨P2, _, n, o, loc', n', rp2, e, fun P3 H3 σ3 l3 r3 => q P3 H3 σ3 (l2.trans l3) r3⟩
  · exact h.run pins s σ H Dn I ⟨P, loc, n, o, loc', n', rp, e, q⟩
/-- name op= value, numbers -/
def addI : D → D → Option D
  | .int i, .int j => some (.int (i + j))
  | _, _ => none
def subI : D → D → Option D
  | .int i, .int j => some (.int (i - j))
  | _, _ => none
theorem hd_int {K : PySem.W.Frag} {P : Hp} {v : V} {i : Int} (h : Hd K P v (.int i)) : v = .int i := by cases h; rfl
theorem hw_int {K : PySem.W.Frag} {W : Wp} {P H : Hp} {v : V} {i : Int} (h : Hw K W P H v (.int i)) : v = .int i := by
  cases h with
  | hd h => exact hd_int h
  | ct _ c => cases c
theorem ds_aug {i : Nat} {x : Str} {op : Operator} {g : D → D → Option D} {ti : TIp} {pos' : Pos} (hN : X.N.Nodup) (he : PE X e (tD R fe)) (ho : PIp X op ti) (hg : ∀ (P H : Hp) (n : Nat) (d1 d2 z : D) (v1 v2 : V) (Q : VK), PLe P H → World R.K R.W P H n → Hd R.K P v1 d1 → Hd R.K P v2 d2 → g d1 d2 = some z → (∀ v P' H', Stp R.K R.W P H P' H' n → Hd R.K P' v z → Q v H') → ti v1 v2 H Q)
    (hi : X.N[i]? = some x := by rfl) (hx : L2.Loc X.env.scope x := by first | exact .inl rfl | exact .inr rfl)
    (hf : X.fn x = true ∨ X.env.scope.names.lookup x = some .local := by first | exact .inl rfl | exact .inr rfl | assumption) : PS X (.AugAssign (.Name x pos') op e pos) (tS R (sAug i g fe)) := ps_sub (ps_aug hN hi hx he ho hf) fun Dn σ H ⟨P, loc, n, o, loc', n', rp, e, q⟩ => by
  unfold sAug at e
  split at e
  · rename_i d hl
    obtain ⟨⟨d2, n1⟩, e1, e2⟩ := Option.bind_eq_some_iff.mp e
    obtain ⟨z, e3, e4⟩ := Option.map_eq_some_iff.mp e2
    cases e4
    obtain ⟨v, ev, hv⟩ := rp.cell i _ hl
    exact ⟨v, ev, P, loc, n, d2, n1, rp, e1, fun w P1 H1 s1 hw => hg P1 H1 n1 d d2 z v w _ s1.sub s1.wd (hv.mono s1.ple) hw e3 fun u P2 H2 s2 hu => q P2 H2 _ (s1.ple.trans s2.ple) (((rp.step s1).step s2).set i hu)⟩
  · cases e
theorem ds_augI {i : Nat} {x : Str} {pos' : Pos} (hN : X.N.Nodup) (he : PE X e (tD R fe)) (hi : X.N[i]? = some x := by rfl) (hx : L2.Loc X.env.scope x := by first | exact .inl rfl | exact .inr rfl)
    (hf : X.fn x = true ∨ X.env.scope.names.lookup x = some .local := by first | exact .inl rfl | exact .inr rfl | assumption) : PS X (.AugAssign (.Name x pos') .Add e pos) (tS R (sAug i addI fe)) :=
  ds_aug hN he ip_add (fun P H n d1 d2 z v1 v2 Q hs hw h1 h2 e q => by
    unfold addI at e
    split at e
    · cases e
      cases h1
      cases h2
      exact ⟨_, _, rfl, rfl, q _ P H (Stp.refl hs hw) (.int _)⟩
    · cases e) hi hx hf
/-- name.append(value) -/
theorem ds_append {i : Nat} {x : Str} {apos npos cpos : Pos} (hK : X.K = R.K) (he : PE X e (tD R fe)) (hN : X.N[i]? = some x := by rfl) (hv : Vis X.env.scope x := by first | exact Or.inl rfl | exact Or.inr (Or.inl rfl) | exact Or.inr (Or.inr rfl))
    (hpe : ∀ {t : TE}, PE X e t → PE X (.Call (.Attribute (.Name x npos) "append" apos) [e] [] cpos) (tBM X.K "list" rAppend (tVar i) (tCons t tNil)))
    (hs : swapsWith (.Call (.Attribute (.Name x npos) "append" apos) [e] [] cpos) none pos.line X.env = pure false := by rfl) : PS X (.Expr (.Call (.Attribute (.Name x npos) "append" apos) [e] [] cpos) pos) (tS R (sAppend i fe)) := ps_sub (ps_expr (hpe he) hs) fun Dn σ H ⟨P, loc, n, o, loc', n', rp, e, q⟩ => by
  unfold sAppend at e
  split at e
  · rename_i ds hl
    obtain ⟨⟨d2, n1⟩, e1, e2⟩ := Option.bind_eq_some_iff.mp e
    split at e2
    · rename_i hlt
      cases e2
      obtain ⟨a, ev, h0, hP, nw, c⟩ := rp.cell i _ hl
      cases c with
      | @lst vs _ h1 h2 =>
        refine ⟨_, ev, .inl ⟨rfl, vs, .inl (.inl h1)⟩, P, loc, n, d2, n1, rp, e1, fun w P1 H1 s1 hw => ?_⟩
        have h1' : H1 a = some (.lst vs) := s1.ext a _ h1 nw
        refine ⟨a, vs, w, rfl, rfl, h1', lim_lt (by rw [h2.length]; exact hlt), q P1 _ σ s1.ple ?_⟩
        exact (rp.step s1).mut hl ev (.lst upd_same ((h2.mono s1.ple).append (.one hw)))
    · cases e2
  · cases e
end

/-! ### what is walked -/
abbrev IM := Loc → Nat → Option (List D × Nat)
/-- J walks ds, while all that P holds stands -/
def ItS (K : PySem.W.Frag) (W : Wp) (J : It) (ds : List D) (P : Hp) : Prop := ∀ (i : Nat) (P2 H2 : Hp) (n2 : Nat), PLe P P2 → PLe P2 H2 → World K W P2 H2 n2 →
  (i = ds.length → J.stop i H2) ∧ ∀ d, ds[i]? = some d → J.go i H2 ∧ ∀ x H3, J.yld i H2 x H3 → ∃ P3, Stp K W P2 H2 P3 H3 n2 ∧ Hd K P3 x d
/-- .. while all that H holds stands -/
def ItW (K : PySem.W.Frag) (W : Wp) (J : It) (ds : List D) (P H : Hp) : Prop := ∀ (i : Nat) (P2 H2 : Hp) (n2 : Nat), Ext W H H2 → PLe P P2 → PLe P2 H2 → World K W P2 H2 n2 →
  (i = ds.length → J.stop i H2) ∧ ∀ d, ds[i]? = some d → J.go i H2 ∧ ∀ x H3, J.yld i H2 x H3 → ∃ P3, Stp K W P2 H2 P3 H3 n2 ∧ Hd K P3 x d
theorem ItS.w {K : PySem.W.Frag} {W : Wp} {J : It} {ds : List D} {P H : Hp} (h : ItS K W J ds P) : ItW K W J ds P H := fun i P2 H2 n2 _ a b c => h i P2 H2 n2 a b c
def tIS (R : Rt) (it : IM) : TI := fun σ H Rr => ∃ P loc n ds n', Rep R P loc n σ H ∧ it loc n = some (ds, n') ∧ ∀ J P' H', Stp R.K R.W P H P' H' n' → ItS R.K R.W J ds P' → Rr J H'
def tIW (R : Rt) (it : IM) : TI := fun σ H Rr => ∃ P loc n ds n', Rep R P loc n σ H ∧ it loc n = some (ds, n') ∧ ∀ J P' H', Stp R.K R.W P H P' H' n' → ItW R.K R.W J ds P' H' → Rr J H'
theorem pi_sub {X : Cx} {tg e : Expr} {w w' : TI} (h : PI X tg e w) (k : ∀ σ H Q, w' σ H Q → w σ H Q) : PI X tg e w' := ⟨fun pins s σ H Q I q => h.run pins s σ H Q I (k σ H Q q)⟩
theorem pis_w {X : Cx} {tg e : Expr} {R : Rt} {it : IM} (h : PI X tg e (tIS R it)) : PI X tg e (tIW R it) := pi_sub h fun σ H Q ⟨P, loc, n, ds, n', rp, e, q⟩ => ⟨P, loc, n, ds, n', rp, e, fun J P' H' s hJ => q J P' H' s hJ.w⟩

/-! ### for -/
def forLoop (g : GM) (body : SM) : List D → Loc → Nat → Option (Out × Loc × Nat)
  | [], loc, n => some (.nx, loc, n)
  | d :: ds, loc, n => (g d loc).bind fun loc1 => (body loc1 n).bind fun p => match p.1 with
    | .nx => forLoop g body ds p.2.1 p.2.2
    | .ct => forLoop g body ds p.2.1 p.2.2
    | .bk => some (.nx, p.2.1, p.2.2)
    | .ret d => some (.ret d, p.2.1, p.2.2)
def sFor (it : IM) (g : GM) (body : SM) : SM := fun loc n => (it loc n).bind fun p => forLoop g body p.1 loc p.2
section
variable {X : Cx} {R : Rt} {pos : Pos}
theorem ds_for {tg iter : Expr} {body : List Stmt} {it : IM} {ts : List Nat} {g : GM} {f : SM} (hp : PassesOwn (model X.prog X.w) X.A X.env X.xe) (hc : X.calm = true) (hi : PI X tg iter (tIS R it)) (hg : PG X tg (tGt R ts g)) (hb : PSs X body (tS R f))
    (hs : ∀ x, foldedSetIterable iter X.env x = pure x := by intro _; rfl) : PS X (.For tg iter body [] pos) (tS R (sFor it g f)) := ps_sub (ps_for hp hc hi hg hb hs) fun Dn σ H ⟨P, loc, n, o, loc', n', rp, e, q⟩ => by
  obtain ⟨⟨ds, n1⟩, e1, e2⟩ := Option.bind_eq_some_iff.mp e
  refine ⟨P, loc, n, ds, n1, rp, e1, fun J P1 H1 s1 hJ => ?_⟩
  refine ⟨fun i m σ2 H2 => m = ds.length - i ∧ i ≤ ds.length ∧ ∃ P2 loc2 n2, PLe P1 P2 ∧ Rep R P2 loc2 n2 σ2 H2 ∧ forLoop g f (ds.drop i) loc2 n2 = some (o, loc', n'), ⟨ds.length, rfl, Nat.zero_le _, P1, loc, n1, PLe.refl P1, rp.step s1, e2⟩, ?_⟩
  rintro i m σ2 H2 ⟨rfl, hle, P2, loc2, n2, pl, r2, e3⟩
  have hJ' := hJ i P2 H2 n2 pl r2.sub r2.wd
  by_cases hlt : i < ds.length
  · obtain ⟨go, yl⟩ := hJ'.2 ds[i] (List.getElem?_eq_getElem hlt)
    rw [List.drop_eq_getElem_cons hlt] at e3
    obtain ⟨loc3, e4, e5⟩ := Option.bind_eq_some_iff.mp e3
    obtain ⟨⟨o1, loc4, n4⟩, e6, e7⟩ := Option.bind_eq_some_iff.mp e5
    refine .inr ⟨go, fun σ5 H5 => (o1 = .nx ∨ o1 = .ct) ∧ ∃ P5, PLe P1 P5 ∧ Rep R P5 loc4 n4 σ5 H5, fun σ5 H5 ⟨ho, P5, pl5, r5⟩ => ?_, fun x H3 hy => ?_⟩
    · refine ⟨ds.length - (i + 1), by omega, rfl, hlt, P5, loc4, n4, pl5, r5, ?_⟩
      rcases ho with rfl | rfl <;> exact e7
    · obtain ⟨P3, s3, hx⟩ := yl x H3 hy
      refine ⟨P3, loc2, n2, _, loc3, r2.step s3, hx, e4, fun σ4 _ r4 => ⟨P3, loc3, n2, o1, loc4, n4, r4, e6, fun P5 H5 σ5 l5 r5 => ?_⟩⟩
      have pl5 : PLe P1 P5 := pl.trans (s3.ple.trans l5)
      cases o1 with
      | nx => exact ⟨.inl rfl, P5, pl5, r5⟩
      | ct => exact ⟨.inr rfl, P5, pl5, r5⟩
      | bk => cases e7; exact q P5 H5 σ5 (s1.ple.trans pl5) r5
      | ret d => cases e7; exact q P5 H5 σ5 (s1.ple.trans pl5) r5
  · have hi : i = ds.length := by omega
    subst hi
    rw [List.drop_length] at e3
    cases e3
    exact .inl ⟨hJ'.1 rfl, q P2 H2 σ2 (s1.ple.trans pl) r2⟩
end
end Pd
namespace Pd
open PySem L2 PySem.Spec PyProof.Rows

def signs (x : Str) : List D := x.cps.toList.map fun c => PyData.str ⟨#[c]⟩
/-- what a value is walked as -/
def itemsOf : D → Option (List D)
  | .list ds => some ds
  | .tuple ds => some ds
  | .str x => some (signs x)
  | .dict es => some (es.map (·.1))
  | _ => none
/-- .. of a thing that may be owned -/
def itemsW : D → Option (List D)
  | .list ds => some ds
  | .tuple ds => some ds
  | .str x => some (signs x)
  | _ => none
def iVal (f : EM) : IM := fun loc n => (f loc n).bind fun p => (itemsOf p.1).map fun ds => (ds, p.2)
def iValW (f : EM) : IM := fun loc n => (f loc n).bind fun p => (itemsW p.1).map fun ds => (ds, p.2)
section
variable {K : PySem.W.Frag} {W : Wp} {P H : Hp} {n : Nat} {a : Addr} {vs : List V} {ds : List D}
theorem its_list (h : SqL K P a vs) (hd : HdAll K P vs ds) : ItS K W (Itl K a) ds P := fun i P2 H2 n2 l1 l2 w => by
  have hs : SqL K H2 a vs := ple_l l2 (ple_l l1 h)
  refine ⟨fun hi => ⟨vs, hs, by rw [hd.length, hi]; exact Nat.le_refl _⟩, fun d hi => ?_⟩
  obtain ⟨v, hv, hvd⟩ := hd.get hi
  exact ⟨⟨vs, v, hs, hv⟩, fun x H3 ⟨e, y⟩ => by
    subst e
    have := (y vs hs).symm.trans hv
    cases this
    exact ⟨P2, Stp.refl l2 w, hvd.mono l1⟩⟩
theorem itw_list (h : H a = some (.lst vs)) (nw : Nw W a) (hd : HdAll K P vs ds) : ItW K W (Itl K a) ds P H := fun i P2 H2 n2 l0 l1 l2 w => by
  have hs : SqL K H2 a vs := .inl (.inl (l0 a _ h nw))
  refine ⟨fun hi => ⟨vs, hs, by rw [hd.length, hi]; exact Nat.le_refl _⟩, fun d hi => ?_⟩
  obtain ⟨v, hv, hvd⟩ := hd.get hi
  exact ⟨⟨vs, v, hs, hv⟩, fun x H3 ⟨e, y⟩ => by
    subst e
    have := (y vs hs).symm.trans hv
    cases this
    exact ⟨P2, Stp.refl l2 w, hvd.mono l1⟩⟩
theorem its_tup (h : SqT K P a vs) (hd : HdAll K P vs ds) : ItS K W (Itt K a) ds P := fun i P2 H2 n2 l1 l2 w => by
  have hs : SqT K H2 a vs := ple_t l2 (ple_t l1 h)
  refine ⟨fun hi => ⟨vs, hs, by rw [hd.length, hi]; exact Nat.le_refl _⟩, fun d hi => ?_⟩
  obtain ⟨v, hv, hvd⟩ := hd.get hi
  exact ⟨⟨vs, v, hs, hv⟩, fun x H3 ⟨e, y⟩ => by
    subst e
    have := (y vs hs).symm.trans hv
    cases this
    exact ⟨P2, Stp.refl l2 w, hvd.mono l1⟩⟩
theorem its_str {x : Str} : ItS K W (Its x) (signs x) P := fun i P2 H2 n2 l1 l2 w => by
  refine ⟨fun hi => by subst hi; simp [signs, Its], fun d hi => ?_⟩
  have hi' : (x.cps.toList[i]?).map (fun c => PyData.str ⟨#[c]⟩) = some d := by simpa [signs] using hi
  obtain ⟨c, hc, e⟩ := Option.map_eq_some_iff.mp hi'
  subst e
  have hc' : x.cps[i]? = some c := by rw [← Array.getElem?_toList]; exact hc
  have hlt : i < x.cps.size := (Array.getElem?_eq_some_iff.mp hc').1
  exact ⟨hlt, fun y H3 ⟨e, c', hc2, ey⟩ => by
    subst e
    rw [hc'] at hc2
    cases hc2
    rw [ey]
    exact ⟨P2, Stp.refl l2 w, .str _⟩⟩
theorem HdK.get : ∀ {kvs : List (Key × V)} {es : List (D × D)} {i : Nat} {e : D × D}, HdK K P kvs es → es[i]? = some e → ∃ k v, kvs[i]? = some (k, v) ∧ e.1 = kD k ∧ Hd K P v e.2
  | _, _, _, _, .nil, e => by simp at e
  | _, _, 0, _, .cons a _, e => by simp at e; subst e; exact ⟨_, _, rfl, rfl, a⟩
  | _, _, i + 1, _, .cons _ b, e => by
    obtain ⟨k, v, h1, h2⟩ := HdK.get (i := i) b (by simpa using e)
    exact ⟨k, v, by simpa using h1, h2⟩
theorem HdT.get : ∀ {kvs : List (List Key × V)} {es : List (D × D)} {i : Nat} {e : D × D}, HdT K P kvs es → es[i]? = some e → ∃ k v, kvs[i]? = some (k, v) ∧ e.1 = .tuple (k.map kD) ∧ Hd K P v e.2
  | _, _, _, _, .nil, e => by simp at e
  | _, _, 0, _, .cons a _, e => by simp at e; subst e; exact ⟨_, _, rfl, rfl, a⟩
  | _, _, i + 1, _, .cons _ b, e => by
    obtain ⟨k, v, h1, h2⟩ := HdT.get (i := i) b (by simpa using e)
    exact ⟨k, v, by simpa using h1, h2⟩
theorem HdK.length : ∀ {kvs : List (Key × V)} {es : List (D × D)}, HdK K P kvs es → kvs.length = es.length
  | _, _, .nil => rfl
  | _, _, .cons _ b => by simp [HdK.length b]
theorem HdT.length : ∀ {kvs : List (List Key × V)} {es : List (D × D)}, HdT K P kvs es → kvs.length = es.length
  | _, _, .nil => rfl
  | _, _, .cons _ b => by simp [HdT.length b]
theorem hd_key (k : Key) : Hd K P (kV k) (kD k) := by
  cases k with
  | inl i => exact .int i
  | inr x => exact .str x
theorem hd_keys : ∀ ks : List Key, HdAll K P (ks.map kV) (ks.map kD)
  | [] => .nil
  | k :: ks => .cons (hd_key k) (hd_keys ks)
theorem its_keys {o : Obj} {kvs : List (Key × V)} {es : List (D × D)} (h : P a = some (.frz o (.dK kvs))) (hd : HdK K P kvs es) : ItS K W (Itk a o kvs) (es.map (·.1)) P := fun i P2 H2 n2 l1 l2 w => by
  have hs : H2 a = some (.frz o (.dK kvs)) := l2 _ _ (l1 _ _ h)
  refine ⟨fun hi => ⟨hs, by subst hi; rw [hd.length]; simp⟩, fun d hi => ?_⟩
  rw [List.getElem?_map] at hi
  obtain ⟨e, he, rfl⟩ := Option.map_eq_some_iff.mp hi
  obtain ⟨k, v, hkv, ek, _⟩ := hd.get he
  refine ⟨⟨hs, (List.getElem?_eq_some_iff.mp hkv).1⟩, fun x H3 ⟨e3, k', v', hkv', ex⟩ => ?_⟩
  subst e3
  rw [hkv] at hkv'
  cases hkv'
  rw [ex, ek]
  exact ⟨P2, Stp.refl l2 w, hd_key k⟩
end
theorem HdAll.keys {K : PySem.W.Frag} {P : Hp} (ks : List Key) : HdAll K P (ks.map kV) (ks.map kD) := hd_keys ks
/-- a tuple that stands in H may be taken into P -/
theorem Stp.capT {K : PySem.W.Frag} {W : Wp} {P H : Hp} {n : Nat} {q : Addr} {xs : List V} (hs : PLe P H) (hw : World K W P H n) (h : H q = some (.tup xs)) : ∃ P', Stp K W P H P' H n ∧ P' q = some (.tup xs) := by
  cases e : P q with
  | some o =>
    have := hs q o e
    rw [h] at this
    cases this
    exact ⟨P, Stp.refl hs hw, e⟩
  | none =>
    refine ⟨upd P q (.tup xs), ⟨fun _ _ h _ => h, PLe.new e, fun a o ha => ?_, fun a o ha => ?_, fun on => ⟨(hw on).1, ?_, (hw on).2.2.mono (PLe.new e)⟩⟩, upd_same⟩
    · by_cases z : a = q
      · subst z; exact .inr (.inr ⟨xs, h⟩)
      · rw [upd_ne z] at ha; exact .inl ha
    · by_cases z : a = q
      · subst z; rw [upd_same] at ha; cases ha; exact h
      · rw [upd_ne z] at ha; exact hs a o ha
    · rw [upd_ne (fun z => hw.nwT h on z.symm)]; exact (hw on).2.1
theorem its_keysT {K : PySem.W.Frag} {W : Wp} {P : Hp} {a : Addr} {o : Obj} {kvs : List (List Key × V)} {es : List (D × D)} (h : P a = some (.frz o (.dT kvs))) (hd : HdT K P kvs es) : ItS K W (Itkt a o kvs) (es.map (·.1)) P := fun i P2 H2 n2 l1 l2 w => by
  have hs : H2 a = some (.frz o (.dT kvs)) := l2 _ _ (l1 _ _ h)
  refine ⟨fun hi => ⟨hs, by subst hi; rw [hd.length]; simp⟩, fun d hi => ?_⟩
  rw [List.getElem?_map] at hi
  obtain ⟨e, he, rfl⟩ := Option.map_eq_some_iff.mp hi
  obtain ⟨k, v, hkv, ek, _⟩ := hd.get he
  refine ⟨⟨hs, (List.getElem?_eq_some_iff.mp hkv).1⟩, fun x H3 ⟨e3, k', v', q, hkv', ex, hq⟩ => ?_⟩
  subst e3
  rw [hkv] at hkv'
  cases hkv'
  obtain ⟨P3, s3, hq3⟩ := Stp.capT l2 w hq
  rw [ex, ek]
  exact ⟨P3, s3, .tup (.inl (.inl hq3)) (hd_keys k)⟩

/-! ### walks by values -/
section
variable {X : Cx} {R : Rt} {tg e : Expr} {f : EM} {pos : Pos}
theorem pis_val (hK : X.K = R.K) (h : PE X e (tD R f)) : PI X tg e (tIS R (iVal f)) := by
  refine ⟨fun pins s σ H Rr I ⟨P, loc, n, ds, n', rp, e, q⟩ => ?_⟩
  obtain ⟨⟨d, n1⟩, e1, e2⟩ := Option.bind_eq_some_iff.mp e
  obtain ⟨ds1, e3, e4⟩ := Option.map_eq_some_iff.mp e2
  cases e4
  refine thn (h.run pins s σ H (fun v H' => ∃ P', Stp R.K R.W P H P' H' n1 ∧ Hd R.K P' v d) I ⟨P, loc, n, d, n1, rp, e1, fun v P' H' s hv => ⟨P', s, hv⟩⟩) fun u s1 ⟨v, H1, I1, rv, P1, st, hv⟩ => ?_
  cases hv with
  | @lst a vs ds' ha hvs =>
    cases e3
    cases rv
    obtain ⟨its, r, p, hz⟩ := I1.list (by rw [hK]; exact ple_l st.sub ha)
    refine wpAny_pyIter_list p.isList ?_
    refine ⟨s1.heap.objs.size, [s1.heap.objs.size], _, _, H1, rfl, I1.kept (t' := s1.toks) fun b o e => Heap.get?_push_of_some _ e, turn_list a _, ⟨_, Heap.get?_push_size _ rfl, rfl, rfl⟩, fun b hb => ?_, ?_⟩
    · have e : b = s1.heap.objs.size := by simpa using hb
      subst e
      exact I1.fpOk (Nat.le_refl _) (I1.hok.fresh (Nat.le_refl _))
    · rw [hK]; exact q _ P1 H1 st (its_list ha hvs)
  | @tup a vs ds' ha hvs =>
    cases e3
    cases rv
    obtain ⟨its, r, p, hz⟩ := I1.tuple (by rw [hK]; exact ple_t st.sub ha)
    refine wpAny_pyIter_tuple (show s1.heap.IsTuple a its.toArray from p) ?_
    refine ⟨s1.heap.objs.size, [s1.heap.objs.size], _, _, H1, rfl, I1.kept (t' := s1.toks) fun b o e => Heap.get?_push_of_some _ e, turn_tuple a _, ⟨_, Heap.get?_push_size _ rfl, rfl, rfl⟩, fun b hb => ?_, ?_⟩
    · have e : b = s1.heap.objs.size := by simpa using hb
      subst e
      exact I1.fpOk (Nat.le_refl _) (I1.hok.fresh (Nat.le_refl _))
    · rw [hK]; exact q _ P1 H1 st (its_tup ha hvs)
  | str x =>
    cases e3
    obtain ⟨t, rfl⟩ := rv
    have qq := q _ P1 H1 st its_str
    cases ha : x.cps.all (· < 128)
    · exact wpAny_pyIter_wide ha (pi_one (tk := s1.toks) I1 _ (turn_str _ x t "str_iterator" (.inr rfl)) ⟨_, Heap.get?_push_size _ rfl, rfl, rfl⟩ qq)
    · exact wpAny_pyIter_ascii ha (pi_one (tk := s1.toks) I1 _ (turn_str _ x t "str_ascii_iterator" (.inl rfl)) ⟨_, Heap.get?_push_size _ rfl, rfl, rfl⟩ qq)
  | @dK a o kvs es ha hvs =>
    cases e3
    obtain rfl : u = Value.ref a := rv
    have qq := q _ P1 H1 st (its_keys ha hvs)
    obtain ⟨hs, hgd, hx, es, ep, vs, hdt, hsz, kv, hm⟩ := I1.frzK (st.sub _ _ ha)
    refine iter_keys hs hgd hx hdt (pi_one (tk := s1.toks) I1 _ (turn_keys _ hdt) ⟨_, Heap.get?_push_size _ rfl, rfl, ?_⟩ qq)
    rw [hsz] <;> rfl
  | @dT a o kvs es ha hvs =>
    cases e3
    obtain rfl : u = Value.ref a := rv
    have qq := q _ P1 H1 st (its_keysT ha hvs)
    obtain ⟨hs, hgd, hx, es, ep, hdt, hsz, ent⟩ := I1.frzT (st.sub _ _ ha)
    refine iter_keys hs hgd hx hdt (pi_one (tk := s1.toks) I1 _ (turn_keysT _ hdt) ⟨_, Heap.get?_push_size _ rfl, rfl, ?_⟩ qq)
    rw [hsz] <;> rfl
  | _ => cases e3
/-- also an owned list -/
theorem piw_val (hK : X.K = R.K) (h : PE X e (tW R f)) : PI X tg e (tIW R (iValW f)) := by
  refine ⟨fun pins s σ H Rr I ⟨P, loc, n, ds, n', rp, e, q⟩ => ?_⟩
  obtain ⟨⟨d, n1⟩, e1, e2⟩ := Option.bind_eq_some_iff.mp e
  obtain ⟨ds1, e3, e4⟩ := Option.map_eq_some_iff.mp e2
  cases e4
  refine thn (h.run pins s σ H (fun v H' => ∃ P', Stp R.K R.W P H P' H' n1 ∧ Hw R.K R.W P' H' v d) I ⟨P, loc, n, d, n1, rp, e1, fun v P' H' s hv => ⟨P', s, hv⟩⟩) fun u s1 ⟨v, H1, I1, rv, P1, st, hv⟩ => ?_
  have listCase : ∀ {a : Addr} {vs : List V}, u = Value.ref a → SqL X.K H1 a vs → ItW R.K R.W (Itl X.K a) ds P1 H1 → wpAny (model X.prog X.w) X.A (pyIter u) (PIE X pins σ tg Rr) X.xe s1 := fun {a vs} eu ha hit => by
    subst eu
    obtain ⟨its, r, p, hz⟩ := I1.list ha
    refine wpAny_pyIter_list p.isList ?_
    refine ⟨s1.heap.objs.size, [s1.heap.objs.size], _, _, H1, rfl, I1.kept (t' := s1.toks) fun b o e => Heap.get?_push_of_some _ e, turn_list a _, ⟨_, Heap.get?_push_size _ rfl, rfl, rfl⟩, fun b hb => ?_, ?_⟩
    · have e : b = s1.heap.objs.size := by simpa using hb
      subst e
      exact I1.fpOk (Nat.le_refl _) (I1.hok.fresh (Nat.le_refl _))
    · exact q _ P1 H1 st hit
  cases hv with
  | hd hv =>
    cases hv with
    | @lst a vs ds' ha hvs =>
      cases e3
      exact listCase rv (by rw [hK]; exact ple_l st.sub ha) (by rw [hK]; exact (its_list ha hvs).w)
    | @tup a vs ds' ha hvs =>
      cases e3
      cases rv
      obtain ⟨its, r, p, hz⟩ := I1.tuple (by rw [hK]; exact ple_t st.sub ha)
      refine wpAny_pyIter_tuple (show s1.heap.IsTuple a its.toArray from p) ?_
      refine ⟨s1.heap.objs.size, [s1.heap.objs.size], _, _, H1, rfl, I1.kept (t' := s1.toks) fun b o e => Heap.get?_push_of_some _ e, turn_tuple a _, ⟨_, Heap.get?_push_size _ rfl, rfl, rfl⟩, fun b hb => ?_, ?_⟩
      · have e : b = s1.heap.objs.size := by simpa using hb
        subst e
        exact I1.fpOk (Nat.le_refl _) (I1.hok.fresh (Nat.le_refl _))
      · rw [hK]; exact q _ P1 H1 st (its_tup ha hvs).w
    | str x =>
      cases e3
      obtain ⟨t, rfl⟩ := rv
      have qq := q _ P1 H1 st its_str.w
      cases ha : x.cps.all (· < 128)
      · exact wpAny_pyIter_wide ha (pi_one (tk := s1.toks) I1 _ (turn_str _ x t "str_iterator" (.inr rfl)) ⟨_, Heap.get?_push_size _ rfl, rfl, rfl⟩ qq)
      · exact wpAny_pyIter_ascii ha (pi_one (tk := s1.toks) I1 _ (turn_str _ x t "str_ascii_iterator" (.inl rfl)) ⟨_, Heap.get?_push_size _ rfl, rfl, rfl⟩ qq)
    | dK _ _ => cases e3
    | dT _ _ => cases e3
    | _ => cases e3
  | ct nw c =>
    cases c with
    | lst h1 h2 =>
      cases e3
      exact listCase rv (.inl (.inl h1)) (by rw [hK]; exact itw_list h1 nw h2)
    | dK _ _ => cases e3
    | dT _ _ => cases e3
end
end Pd
namespace Pd
open PySem L2 PySem.Spec PyProof.Rows

/-! ### ranges -/
def LIMZ : Int := 1000000000000
def rangeD (a : Int) (n : Nat) : List D := (List.range n).map fun k => .int (a + (k : Nat))
def iRange1 (f : EM) : IM := fun loc n => match f loc n with
  | some (.int j, n') => if -LIMZ ≤ j ∧ j ≤ LIMZ then some (rangeD 0 j.toNat, n') else none
  | _ => none
def iRange2 (f g : EM) : IM := fun loc n => match f loc n with
  | some (.int i, n1) => match g loc n1 with
    | some (.int j, n2) => if (-LIMZ ≤ i ∧ i ≤ LIMZ) ∧ -LIMZ ≤ j ∧ j ≤ LIMZ then some (rangeD i (j - i).toNat, n2) else none
    | _ => none
  | _ => none
/-- range(a, b, -1) -/
def rangeDn (a : Int) (n : Nat) : List D := (List.range n).map fun k => .int (a - (k : Nat))
def iRangeDn (f g : EM) : IM := fun loc n => match f loc n with
  | some (.int i, n1) => match g loc n1 with
    | some (.int j, n2) => if (-LIMZ ≤ i ∧ i ≤ LIMZ) ∧ -LIMZ ≤ j ∧ j ≤ LIMZ then some (rangeDn i (i - j).toNat, n2) else none
    | _ => none
  | _ => none
theorem rangeD_length (a : Int) (n : Nat) : (rangeD a n).length = n := by simp [rangeD]
theorem rangeDn_length (a : Int) (n : Nat) : (rangeDn a n).length = n := by simp [rangeDn]
theorem its_range {K : PySem.W.Frag} {W : Wp} {P : Hp} {a : Int} {n : Nat} : ItS K W (Itr a n) (rangeD a n) P := fun i P2 H2 n2 l1 l2 w => by
  refine ⟨fun hi => by subst hi; rw [rangeD_length]; exact Nat.le_refl _, fun d hi => ?_⟩
  have hlt : i < n := by rw [← rangeD_length a n]; exact (List.getElem?_eq_some_iff.mp hi).1
  have e : d = .int (a + (i : Nat)) := by
    have : (rangeD a n)[i]? = some (.int (a + (i : Nat))) := by simp [rangeD, hlt]
    rw [this] at hi; exact (Option.some.inj hi).symm
  exact ⟨hlt, fun x H3 ⟨e3, ex⟩ => by
    subst e3
    rw [ex, e]
    exact ⟨P2, Stp.refl l2 w, .int _⟩⟩
theorem its_rangeDn {K : PySem.W.Frag} {W : Wp} {P : Hp} {a : Int} {n : Nat} : ItS K W (Itc a (-1) n) (rangeDn a n) P := fun i P2 H2 n2 l1 l2 w => by
  refine ⟨fun hi => by subst hi; rw [rangeDn_length]; exact Nat.le_refl _, fun d hi => ?_⟩
  have hlt : i < n := by rw [← rangeDn_length a n]; exact (List.getElem?_eq_some_iff.mp hi).1
  have e : d = .int (a + (i : Nat) * (-1)) := by
    have : (rangeDn a n)[i]? = some (.int (a - (i : Nat))) := by simp [rangeDn, hlt]
    rw [this] at hi
    rw [← Option.some.inj hi]
    congr 1
    omega
  exact ⟨hlt, fun x H3 ⟨e3, ex⟩ => by
    subst e3
    rw [ex, e]
    exact ⟨P2, Stp.refl l2 w, .int _⟩⟩
section
variable {X : Cx} {R : Rt} {tg a b : Expr} {f g : EM} {p pos : Pos}
theorem lz1 {j : Int} (h : -LIMZ ≤ j ∧ j ≤ LIMZ) : -(2 ^ 62) ≤ j ∧ j < 2 ^ 62 := by
  unfold LIMZ at h
  omega
theorem pis_range1 (hm : X.mg "range" = none) (ha : PE X a (tW R f)) (hg : Gl X "range" := by rfl) (hs1 : starEach [a] X.env = (false, eval a X.env) :: starEach [] X.env := by rfl) (hs : starEach [a] X.env = [(false, eval a X.env)] := by rfl) : PI X tg (.Call (.Name "range" p) [a] [] pos) (tIS R (iRange1 f)) :=
  pi_sub (pi_range1 hg hm (pa_cons ha pa_nil hs1) hs) fun σ H Q ⟨P, loc, n, ds, n', rp, e, q⟩ => by
    unfold iRange1 at e
    split at e
    · rename_i j n1 h1
      split at e
      · rename_i hj
        cases e
        refine ⟨P, loc, n, _, n', rp, h1, fun v P1 H1 s1 hv => ⟨j, ?_, (lz1 hj).1, (lz1 hj).2, q _ P1 H1 s1 its_range⟩⟩
        rw [hw_int hv]
      · cases e
    · cases e
theorem pis_range2 (hm : X.mg "range" = none) (ha : PE X a (tW R f)) (hb : PE X b (tW R g)) (hg : Gl X "range" := by rfl) (hs1 : starEach [b] X.env = (false, eval b X.env) :: starEach [] X.env := by rfl) (hs2 : starEach [a, b] X.env = (false, eval a X.env) :: starEach [b] X.env := by rfl)
    (hs : starEach [a, b] X.env = [(false, eval a X.env), (false, eval b X.env)] := by rfl) (hs3 : starEach [b] X.env = [(false, eval b X.env)] := by rfl) : PI X tg (.Call (.Name "range" p) [a, b] [] pos) (tIS R (iRange2 f g)) :=
  pi_sub (pi_range2 hg hm (pa_cons ha (pa_cons hb pa_nil hs1) hs2) hs hs3) fun σ H Q ⟨P, loc, n, ds, n', rp, e, q⟩ => by
    unfold iRange2 at e
    split at e
    · rename_i i n1 h1
      split at e
      · rename_i j n2 h2
        split at e
        · rename_i hj
          cases e
          refine ⟨P, loc, n, _, n1, rp, h1, fun v P1 H1 s1 hv => ⟨P1, loc, n1, _, n', rp.step s1, h2, fun w P2 H2 s2 hw => ⟨i, j, ?_, ⟨(lz1 hj.1).1, (lz1 hj.1).2, (lz1 hj.2).1, (lz1 hj.2).2⟩, q _ P2 H2 (s1.trans rp.wd s2) its_range⟩⟩⟩
          rw [hw_int hv, hw_int hw]
        · cases e
      · cases e
    · cases e
theorem pis_rangeDn {c : Expr} (hm : X.mg "range" = none) (ha : PE X a (tW R f)) (hb : PE X b (tW R g)) (hc : PE X c (tW R (eC (.int (-1))))) (hg : Gl X "range" := by rfl) (hs1 : starEach [c] X.env = (false, eval c X.env) :: starEach [] X.env := by rfl) (hs2 : starEach [b, c] X.env = (false, eval b X.env) :: starEach [c] X.env := by rfl) (hs3 : starEach [a, b, c] X.env = (false, eval a X.env) :: starEach [b, c] X.env := by rfl)
    (hpl : (backTo pos (starEach [b, c] X.env)).any (·.1) = false := by rfl) : PI X tg (.Call (.Name "range" p) [a, b, c] [] pos) (tIS R (iRangeDn f g)) :=
  pi_sub (pi_range3 hg hm (pa_cons ha (pa_cons hb (pa_cons hc pa_nil hs1) hs2) hs3) hs3 hpl) fun σ H Q ⟨P, loc, n, ds, n', rp, e, q⟩ => by
    unfold iRangeDn at e
    split at e
    · rename_i i n1 h1
      split at e
      · rename_i j n2 h2
        split at e
        · rename_i hj
          cases e
          refine ⟨P, loc, n, _, n1, rp, h1, fun v P1 H1 s1 hv => ⟨P1, loc, n1, _, n', rp.step s1, h2, fun w P2 H2 s2 hw => ⟨P2, loc, n', _, n', (rp.step s1).step s2, rfl, fun u P3 H3 s3 hu => ⟨i, j, -1, (i - j).toNat, ?_, RgC.neg (lz1 hj.1).1 (lz1 hj.1).2 (lz1 hj.2).1 (lz1 hj.2).2, q _ P3 H3 ((s1.trans rp.wd s2).trans rp.wd s3) its_rangeDn⟩⟩⟩⟩
          rw [hw_int hv, hw_int hw, hw_int hu]
        · cases e
      · cases e
    · cases e
end

/-! ### zip of two, each a list or a tuple -/
def SqB (l : Bool) (K : PySem.W.Frag) (H : Hp) (a : Addr) (xs : List V) : Prop := match l with
  | true => SqL K H a xs
  | false => SqT K H a xs
def IterB (l : Bool) (h : Heap) (it a : Addr) (i : Nat) : Prop := match l with
  | true => h.IsListIter it a i
  | false => h.IsTupleIter it a i
def IsB (l : Bool) (h : Heap) (a : Addr) (items : Array Value) : Prop := match l with
  | true => h.IsList a items
  | false => h.IsTuple a items
def ItzM (K : PySem.W.Frag) (l1 l2 : Bool) (a b : Addr) : It :=
  ⟨fun i H => ∃ (xs ys : List V) (x y : V), SqB l1 K H a xs ∧ SqB l2 K H b ys ∧ xs[i]? = some x ∧ ys[i]? = some y,
    fun i H v H' => ∃ T x y, v = .ref T ∧ H T = none ∧ H' = upd H T (.tup [x, y]) ∧ (∀ xs, SqB l1 K H a xs → xs[i]? = some x) ∧ ∀ ys, SqB l2 K H b ys → ys[i]? = some y,
    fun i H => ∃ xs ys : List V, SqB l1 K H a xs ∧ SqB l2 K H b ys ∧ i = min xs.length ys.length⟩
section
variable {X : Cx} {pins : List (Addr × Obj)} {σ : L2.St} {H : Hp} {s : Shared} {l : Bool} {a : Addr} {xs ys : List V}
theorem seqB (I : Inv X pins σ H s) (h : SqB l X.K H a xs) : ∃ its : List Value, Vals xs its ∧ IsB l s.heap a its.toArray ∧ xs.length ≤ sizeLine := by
  cases l with
  | true => obtain ⟨its, r, p, z⟩ := I.list h; exact ⟨its, r, p.isList, z⟩
  | false => obtain ⟨its, r, p, z⟩ := I.tuple h; exact ⟨its, r, p, z⟩
theorem seqB_inj (I : Inv X pins σ H s) (h : SqB l X.K H a xs) (h' : SqB l X.K H a ys) : xs = ys := by
  cases l with
  | true => exact I.list_inj h h'
  | false => exact I.tuple_inj h h'
theorem isB_lt {h : Heap} {items : Array Value} (p : IsB l h a items) : a < h.objs.size := by
  cases l with
  | true => obtain ⟨o, e, _⟩ := p; exact Heap.lt_size e
  | false => obtain ⟨o, e, _⟩ := p; exact Heap.lt_size e
theorem iterB_at {h h' : Heap} {it : Addr} {i : Nat} (p : IterB l h it a i) (k : ∀ o, h.get? it = some o → h'.get? it = some o) : IterB l h' it a i := by
  cases l with
  | true => obtain ⟨o, e, r⟩ := p; exact ⟨o, k o e, r⟩
  | false => obtain ⟨o, e, r⟩ := p; exact ⟨o, k o e, r⟩
theorem iterB_obj {h : Heap} {it : Addr} {i : Nat} (p : IterB l h it a i) : ∃ o, h.get? it = some o ∧ ∀ v, o.data ≠ .cell v := by
  cases l with
  | true => obtain ⟨o, e, _, d⟩ := p; exact ⟨o, e, fun v z => by rw [d] at z; cases z⟩
  | false => obtain ⟨o, e, _, d⟩ := p; exact ⟨o, e, fun v z => by rw [d] at z; cases z⟩
theorem drawsB {prog : Program} {w : PySem.World} {A : Around} (hh : A.handled = none) (l : Bool) (it t : Addr) (hne : t ≠ it) (items : Array Value) :
    Draws prog w A it [it, t] items.size (fun i v => items[i]? = some v) (fun i h => IterB l h it t i ∧ IsB l h t items) := by
  cases l with
  | true => exact Draws.list hh it t hne items
  | false => exact Draws.tuple hh it t hne items
def objB (l : Bool) (a : Addr) : Obj := match l with
  | true => { cls := .type "list_iterator", data := .fields #[.ref a, .int 0 0] }
  | false => { cls := .type "tuple_iterator", data := .fields #[.ref a, .int 0 0] }
theorem beginsB (l : Bool) (a : Addr) (items : Array Value) : Begins (.ref a) (objB l a) fun h => IsB l h a items := by
  cases l with
  | true => exact begins_list a items
  | false => exact begins_tuple a items
theorem iterB_new {h : Heap} {it : Addr} (e : h.get? it = some (objB l a)) : IterB l h it a 0 := by
  cases l with
  | true => exact ⟨_, e, rfl, rfl⟩
  | false => exact ⟨_, e, rfl, rfl⟩
end
theorem zsep {z TI TO i1 i2 l1 l2 : Addr} (D : ZipApart z TI TO i1 i2 l1 l2) (h1 : l1 ≠ i1) (h2 : l2 ≠ i2) (h3 : l2 ≠ i1) (h4 : l1 ≠ i2) : ZipSep2 z TI TO i1 i2 [i1, l1] [i2, l2] where
  TIz := D.TIz
  TOz := D.TOz
  TITO := D.TITO
  TIi1 := D.TIi1
  mem1 := by simp
  zf1 := by simp; exact ⟨fun e => D.i1z e.symm, fun e => D.l1z e.symm⟩
  Tf1 := by simp; exact ⟨D.TOi1, fun e => D.l1TO e.symm⟩
  TIi2 := D.TIi2
  mem2 := by simp
  zf2 := by simp; exact ⟨fun e => D.i2z e.symm, fun e => D.l2z e.symm⟩
  Tf2 := by simp; exact ⟨D.TOi2, fun e => D.l2TO e.symm⟩
  sep1_2 := by simp; exact ⟨D.i12, fun e => h3 e.symm⟩
  sep2_1 := by simp; exact ⟨fun e => D.i12 e.symm, fun e => h4 e.symm⟩
theorem turn_zipM {P : Program} {w : PySem.World} {K : PySem.W.Frag} {elts : List Expr} {kk : Nat} {tpos : Pos} {a b z TI TO i1 i2 : Addr} (l1 l2 : Bool) (S : ZipSep2 z TI TO i1 i2 [i1, a] [i2, b]) (h1 : a ≠ i1) (h2 : b ≠ i2) :
    Turn P w K (.Tuple elts kk tpos) (ItzM K l1 l2 a b) [z, TI, TO, i1, i2] z (fun i h => IsZip h z TI TO .none ∧ IsTupOf2 h TI (.ref i1) (.ref i2) ∧ (∃ x y, IsTupOf2 h TO x y) ∧ IterB l1 h i1 a i ∧ IterB l2 h i2 b i) where
  mem := by simp
  obj := fun i h st c hc => by
    obtain ⟨hz, hTI, ⟨x, y, hTO⟩, j1, j2⟩ := st
    have e' : c = z ∨ c = TI ∨ c = TO ∨ c = i1 ∨ c = i2 := by simpa using hc
    rcases e' with q | q | q | q | q
    · rw [q]; exact ⟨_, hz, fun v q => nomatch q⟩
    · rw [q]; exact ⟨_, hTI, fun v q => nomatch q⟩
    · rw [q]; exact ⟨_, hTO, fun v q => nomatch q⟩
    · rw [q]; exact iterB_obj j1
    · rw [q]; exact iterB_obj j2
  keep := fun i h h' st k => by
    obtain ⟨hz, hTI, ⟨x, y, hTO⟩, j1, j2⟩ := st
    exact ⟨k z (by simp) _ hz, k TI (by simp) _ hTI, ⟨x, y, k TO (by simp) _ hTO⟩, iterB_at j1 fun o q => k i1 (by simp) o q, iterB_at j2 fun o q => k i2 (by simp) o q⟩
  item := by
    intro X hP hw hK hc i pins s σ H E I hf st hg
    subst hP hw hK
    obtain ⟨hz, hTI, hTO, j1, j2⟩ := st
    obtain ⟨xs, ys, x, y, hqx, hqy, hx, hy⟩ := hg
    obtain ⟨its, rv, p, _⟩ := seqB I hqx
    obtain ⟨its2, rv2, p2, _⟩ := seqB I hqy
    obtain ⟨u, hu, ru⟩ := rv.get hx
    obtain ⟨u2, hu2, ru2⟩ := rv2.get hy
    have hh : X.A.in1.handled = none := I.ok.hd hc
    have G := GoesN.zip2 (prog := X.prog) (w := X.w) (A := X.A) (elts := elts) (x1 := kk) (pos := tpos) S (drawsB hh l1 i1 a h1 its.toArray) (drawsB hh l2 i2 b h2 its2.toArray)
    have hi1 : i < its.length := (List.getElem?_eq_some_iff.mp hu).1
    have hi2 : i < its2.length := (List.getElem?_eq_some_iff.mp hu2).1
    refine G.goes i s _ E (by simp; omega) ⟨hz, hTI, hTO, ⟨j1, p⟩, ⟨j2, p2⟩⟩ fun v h' tk hy' st' hk htk => ?_
    obtain ⟨T, v1, v2, rfl, hnew, hv1, hv2, hT⟩ := hy'
    obtain rfl : u = v1 := by
      have : its.toArray[i]? = some u := by simpa using hu
      rw [this] at hv1; exact Option.some.inj hv1
    obtain rfl : u2 = v2 := by
      have : its2.toArray[i]? = some u2 := by simpa using hu2
      rw [this] at hv2; exact Option.some.inj hv2
    have new : ObjOk X.prog X.w (upd H T (.tup [x, y])) h' T (.tup [x, y]) := by
      obtain ⟨o, ho, hcl, m, hd⟩ := hT
      exact ⟨by show 2 ≤ sizeLine; decide, [u, u2], .cons ru (.cons ru2 .nil), ⟨o, ho, hcl, m, hd⟩⟩
    have hf4 : ∀ c ∈ [z, TO, i1, i2], FpOk X pins H c := fun c hcm => hf c (by
      have e' : c = z ∨ c = TO ∨ c = i1 ∨ c = i2 := by simpa using hcm
      rcases e' with q | q | q | q <;> simp [q])
    have I1 : Inv X pins σ (upd H T (.tup [x, y])) { s with heap := h', toks := tk } := I.turnedNew hk hf4 hnew new
    refine ⟨.ref T, _, I1, rfl, ⟨T, x, y, rfl, I.hok.fresh hnew, rfl, fun l hl => by rw [seqB_inj I hl hqx]; exact hx, fun l hl => by rw [seqB_inj I hl hqy]; exact hy⟩, ⟨st'.1, st'.2.1, st'.2.2.1, st'.2.2.2.1.1, st'.2.2.2.2.1⟩, fun c hcm => ?_⟩
    have hlt : c < s.heap.objs.size := by
      have e' : c = z ∨ c = TI ∨ c = TO ∨ c = i1 ∨ c = i2 := by simpa using hcm
      rcases e' with q | q | q | q | q
      · rw [q]; exact Heap.lt_size hz
      · rw [q]; exact Heap.lt_size hTI
      · rw [q]; obtain ⟨_, _, e⟩ := hTO; exact Heap.lt_size e
      · rw [q]; obtain ⟨_, e1, _⟩ := iterB_obj j1; exact Heap.lt_size e1
      · rw [q]; obtain ⟨_, e1, _⟩ := iterB_obj j2; exact Heap.lt_size e1
    rw [upd_ne (Nat.ne_of_lt (Nat.lt_of_lt_of_le hlt hnew))]
    exact (hf c hcm).1
  done := by
    intro X hP hw hK hc i pins s σ H E I hf st hg
    subst hP hw hK
    obtain ⟨hz, hTI, hTO, j1, j2⟩ := st
    obtain ⟨xs, ys, hqx, hqy, hend⟩ := hg
    obtain ⟨its, rv, p, _⟩ := seqB I hqx
    obtain ⟨its2, rv2, p2, _⟩ := seqB I hqy
    have hh : X.A.in1.handled = none := I.ok.hd hc
    have G := GoesN.zip2 (prog := X.prog) (w := X.w) (A := X.A) (elts := elts) (x1 := kk) (pos := tpos) S (drawsB hh l1 i1 a h1 its.toArray) (drawsB hh l2 i2 b h2 its2.toArray)
    have ei : min its.toArray.size its2.toArray.size = i := by
      have e1 := rv.length
      have e2 := rv2.length
      simp; omega
    have hf4 : ∀ c ∈ [z, TO, i1, i2], FpOk X pins H c := fun c hcm => hf c (by
      have e' : c = z ∨ c = TO ∨ c = i1 ∨ c = i2 := by simpa using hcm
      rcases e' with q | q | q | q <;> simp [q])
    exact G.stops s _ E (by rw [ei]; exact ⟨hz, hTI, hTO, ⟨j1, p⟩, ⟨j2, p2⟩⟩) fun h' tk hk htk => I.turnedL hk hf4
  self := fun A i s Q E st h => wpAny_pyIter_zip st.1 h
/-- zip(x, y): the pairs -/
def seqOf : D → Option (List D)
  | .list ds => some ds
  | .tuple ds => some ds
  | _ => none
def iZip2 (f g : EM) : IM := fun loc n => (f loc n).bind fun p => (g loc p.2).bind fun q => (seqOf p.1).bind fun xs => (seqOf q.1).map fun ys => ((xs.zip ys).map fun r => .tuple [r.1, r.2], q.2)
section
variable {K : PySem.W.Frag} {W : Wp} {P H : Hp}
theorem SqB.mono {l : Bool} {a : Addr} {xs : List V} {P' : Hp} (e : PLe P P') (h : SqB l K P a xs) : SqB l K P' a xs := by
  cases l with
  | true => exact ple_l e h
  | false => exact ple_t e h
theorem hd_seq {v : V} {d : D} {ds : List D} (h : Hd K P v d) (e : seqOf d = some ds) : ∃ a l vs, v = .ref a ∧ SqB l K P a vs ∧ HdAll K P vs ds := by
  cases h with
  | lst h1 h2 => cases e; exact ⟨_, true, _, rfl, h1, h2⟩
  | tup h1 h2 => cases e; exact ⟨_, false, _, rfl, h1, h2⟩
  | _ => cases e
theorem its_zip {l1 l2 : Bool} {a b : Addr} {vs ws : List V} {xs ys : List D} (h1 : SqB l1 K P a vs) (h2 : SqB l2 K P b ws) (d1 : HdAll K P vs xs) (d2 : HdAll K P ws ys) : ItS K W (ItzM K l1 l2 a b) ((xs.zip ys).map fun r => .tuple [r.1, r.2]) P := fun i P2 H2 n2 k1 k2 w => by
  have s1 : SqB l1 K H2 a vs := (h1.mono k1).mono k2
  have s2 : SqB l2 K H2 b ws := (h2.mono k1).mono k2
  refine ⟨fun hi => ⟨vs, ws, s1, s2, by subst hi; rw [d1.length, d2.length]; simp⟩, fun d hi => ?_⟩
  rw [List.getElem?_map] at hi
  obtain ⟨r, hr, rfl⟩ := Option.map_eq_some_iff.mp hi
  obtain ⟨r1, r2⟩ := r
  obtain ⟨e1, e2⟩ := List.getElem?_zip_eq_some.mp hr
  obtain ⟨v, hv, hvd⟩ := d1.get e1
  obtain ⟨u, hu, hud⟩ := d2.get e2
  refine ⟨⟨vs, ws, v, u, s1, s2, hv, hu⟩, fun x H3 ⟨T, x1, x2, ex, hT, e3, f1, f2⟩ => ?_⟩
  have := (f1 vs s1).symm.trans hv
  cases this
  have := (f2 ws s2).symm.trans hu
  cases this
  subst ex e3
  exact ⟨_, Stp.allocP k2 w hT, .tup (.inl (.inl upd_same)) ((HdAll.cons (hvd.mono k1) (.cons (hud.mono k1) .nil)).mono (PLe.new (none_of_sub k2 hT)))⟩
end
section
variable {X : Cx} {R : Rt} {e1 e2 : Expr} {f g : EM} {p pos tpos : Pos} {elts : List Expr} {kk : Nat}
theorem pis_zip (hm : X.mg "zip" = none) (hK : X.K = R.K) (ha : PE X e1 (tD R f)) (hb : PE X e2 (tD R g)) (hg : Gl X "zip" := by rfl)
    (hs : starEach [e1, e2] X.env = (false, eval e1 X.env) :: starEach [e2] X.env := by rfl) (hs2 : starEach [e2] X.env = (false, eval e2 X.env) :: starEach [] X.env := by rfl) (hpl : (backTo pos (starEach [e2] X.env)).any (·.1) = false := by rfl) :
    PI X (.Tuple elts kk tpos) (.Call (.Name "zip" p) [e1, e2] [] pos) (tIS R (iZip2 f g)) := by
  refine ⟨fun pins s σ H Rr I ⟨P, loc, n, ds, n', rp, e, q⟩ => ?_⟩
  obtain ⟨⟨d1, n1⟩, a1, e⟩ := Option.bind_eq_some_iff.mp e
  obtain ⟨⟨d2, n2⟩, a2, e⟩ := Option.bind_eq_some_iff.mp e
  obtain ⟨xs, a3, e⟩ := Option.bind_eq_some_iff.mp e
  obtain ⟨ys, a4, e⟩ := Option.map_eq_some_iff.mp e
  cases e
  have hA : PA X [e1, e2] (tCons (tD R f) (tCons (tD R g) tNil)) := pa_cons ha (pa_cons hb pa_nil hs2) hs
  refine Call_ (ld_blt I hg hm PyProof.Rows.boot_zip (PyProof.Rows.callWith_type1 (thn (hA.run pos pins s σ H (fun vs H' => ∃ P' v w, vs = [v, w] ∧ Stp R.K R.W P H P' H' n2 ∧ Hd R.K P' v d1 ∧ Hd R.K P' w d2) I
    ⟨P, loc, n, d1, n1, rp, a1, fun v P1 H1 s1 hv => ⟨P1, loc, n1, d2, n2, rp.step s1, a2, fun w P2 H2 s2 hw => ⟨P2, v, w, rfl, s1.trans rp.wd s2, hv.mono s2.ple, hw⟩⟩⟩) fun us s1 ⟨vs, H1, I1, r1, P1, v, w, ev, st, hv, hw⟩ => ?_) hs hpl))
  subst ev
  obtain ⟨a, l1, vs, rfl, hqa, hda⟩ := hd_seq hv a3
  obtain ⟨b, l2, ws, rfl, hqb, hdb⟩ := hd_seq hw a4
  cases r1 with
  | cons r rr =>
    cases rr with
    | cons r' rr =>
      cases rr
      cases r
      cases r'
      obtain ⟨its, rv, p1, _⟩ := seqB (l := l1) I1 (by rw [hK]; exact hqa.mono st.sub)
      obtain ⟨its2, rv2, p2, _⟩ := seqB (l := l2) I1 (by rw [hK]; exact hqb.mono st.sub)
      have la := isB_lt p1
      have lb := isB_lt p2
      have fresh5 : ∀ c, c ∈ [s1.heap.objs.size + 4, s1.heap.objs.size + 2, s1.heap.objs.size + 3, s1.heap.objs.size, s1.heap.objs.size + 1] → FpOk X pins H1 c := fun c hcm => by
        have e' : c = s1.heap.objs.size + 4 ∨ c = s1.heap.objs.size + 2 ∨ c = s1.heap.objs.size + 3 ∨ c = s1.heap.objs.size ∨ c = s1.heap.objs.size + 1 := by simpa using hcm
        have hle : s1.heap.objs.size ≤ c := by
          rcases e' with z | z | z | z | z
          · rw [z]; exact Nat.le_add_right _ _
          · rw [z]; exact Nat.le_add_right _ _
          · rw [z]; exact Nat.le_add_right _ _
          · rw [z]; exact Nat.le_refl _
          · rw [z]; exact Nat.le_add_right _ _
        exact I1.fpOk hle (I1.hok.fresh hle)
      have n1 : a ≠ s1.heap.objs.size := Nat.ne_of_lt la
      have n2 : b ≠ s1.heap.objs.size + 1 := Nat.ne_of_lt (Nat.lt_succ_of_lt lb)
      have n3 : b ≠ s1.heap.objs.size := Nat.ne_of_lt lb
      have n4 : a ≠ s1.heap.objs.size + 1 := Nat.ne_of_lt (Nat.lt_succ_of_lt la)
      refine zip_begins2 (beginsB l1 a its.toArray) (beginsB l2 b its2.toArray) p1 p2 fun h' hz hTI hTO h1 h2 hsz hk => wpAny_pyIter_zip hz ?_
      have I2 : Inv X pins σ H1 { s1 with heap := h' } := I1.kept (t' := s1.toks) hk
      exact ⟨s1.heap.objs.size + 4, [s1.heap.objs.size + 4, s1.heap.objs.size + 2, s1.heap.objs.size + 3, s1.heap.objs.size, s1.heap.objs.size + 1], _, _, H1, rfl, I2, turn_zipM l1 l2 (zsep (PySem.W.ktu_apart s1.heap.objs.size a b la lb) n1 n2 n3 n4) n1 n2,
        ⟨hz, hTI, ⟨_, _, hTO⟩, iterB_new h1, iterB_new h2⟩, fresh5, q _ P1 H1 st (by rw [hK]; exact its_zip hqa hqb hda hdb)⟩
end
end Pd
namespace Pd
open PySem L2

/-! ### list comprehensions -/
def wipeL (loc : Loc) : List Nat → Loc
  | [] => loc
  | v :: vs => (wipeL loc vs).set v .un
def comp (g : GM) (c : TM) (f : EM) (loc : Loc) : List D → Nat → Option (List D × Nat)
  | [], n => some ([], n)
  | d :: ds, n => (g d loc).bind fun loc1 => (c loc1 n).bind fun p => if p.1 = true then (f loc1 p.2).bind fun q => (comp g c f loc ds q.2).map fun r => (q.1 :: r.1, r.2) else comp g c f loc ds p.2
def eLc (it : IM) (vs : List Nat) (g : GM) (c : TM) (f : EM) : EM := fun loc n => (it loc n).bind fun p => if p.1.length ≤ LIM then (comp g c f (wipeL loc vs) p.1 p.2).map fun r => (.list r.1, r.2) else none
def mYes : TM := fun _ n => some (true, n)
section
variable {R : Rt} {P P1 : Hp} {loc : Loc} {n n1 : Nat} {σ : L2.St} {H H1 : Hp}
theorem Rep.wipe (r : Rep R P loc n σ H) : ∀ vs : List Nat, Rep R P (wipeL loc vs) n (L2.wipe σ vs) H
  | [] => r
  | v :: vs => (Rep.wipe r vs).un v none
theorem wipeL_own {i : Nat} {d : D} : ∀ vs : List Nat, (wipeL loc vs)[i]? = some (.own d) → loc[i]? = some (.own d)
  | [], h => h
  | v :: vs, h => by
    rcases getElem?_set' h with ⟨_, z, _⟩ | ⟨_, h⟩
    · cases z
    · exact wipeL_own vs h
theorem getElem?_ext' {α : Type} {l l' : List α} (h : ∀ i : Nat, l[i]? = l'[i]?) : l = l' := List.ext_getElem? h
theorem wipe_get (σ : L2.St) (j : Nat) : ∀ vs : List Nat, (L2.wipe σ vs)[j]? = if j ∈ vs ∧ j < σ.length then some none else σ[j]?
  | [] => by simp [L2.wipe]
  | v :: vs => by
    have ih := wipe_get σ j vs
    unfold L2.wipe
    by_cases e : v = j
    · subst e
      by_cases hl : v < σ.length
      · rw [List.getElem?_set_self (by rw [wipe_length]; exact hl)]; simp [hl]
      · rw [List.getElem?_eq_none (by simp [wipe_length]; omega)]; simp [hl]
    · rw [List.getElem?_set_ne e, ih]
      have : j ∈ v :: vs ↔ j ∈ vs := by simp [Ne.symm e]
      simp [this]
theorem wipe_but {σ σ' : L2.St} {ts vs : List Nat} (b : But ts (L2.wipe σ vs) σ') (h : ∀ j ∈ ts, j ∈ vs) : L2.wipe σ' vs = L2.wipe σ vs := by
  have hl : σ'.length = σ.length := by rw [b.1, wipe_length]
  refine getElem?_ext' fun j => ?_
  rw [wipe_get, wipe_get, hl]
  by_cases hj : j ∈ vs
  · by_cases hlt : j < σ.length
    · simp [hj, hlt]
    · rw [if_neg (fun z => hlt z.2), if_neg (fun z => hlt z.2), List.getElem?_eq_none (show List.length σ' ≤ j by rw [hl]; exact Nat.le_of_not_lt hlt), List.getElem?_eq_none (Nat.le_of_not_lt hlt)]
  · simp [hj]
    rw [b.2 j (fun z => hj (h j z)), wipe_get]
    simp [hj]
/-- a list of nobody's, outside P, is changed -/
theorem Rep.poke {a : Addr} {u : HO} (r : Rep R P loc n σ H) (hP : P a = none) (h0 : R.H0 a = none) (nw : Nw R.W a) (no : ∀ (i : Nat) (d : D), loc[i]? = some (.own d) → σ[i]? ≠ some (some (.ref a))) : Rep R P loc n σ (upd H a u) := by
  have neP : ∀ b u, P b = some u → b ≠ a := fun b u h z => by rw [z, hP] at h; cases h
  refine ⟨fun b u h => by rw [upd_ne (neP b u h)]; exact r.sub b u h, fun b u h hn => ?_, r.ple0, r.new0, fun on => ⟨by rw [upd_ne (fun z => nw on z.symm)]; exact (r.wd on).1, (r.wd on).2⟩, r.len, fun j c hj => ?_, r.sep⟩
  · rw [upd_ne (ne_of_none h h0)]; exact r.ext0 b u h hn
  · have q := r.cell j c hj
    cases c with
    | un => trivial
    | val d => exact q
    | own d1 =>
      obtain ⟨b, e, b0, bP, bw, bc⟩ := q
      have nb : b ≠ a := fun z => by
        subst z
        exact no j d1 hj e
      exact ⟨b, e, b0, bP, bw, bc.step (PLe.refl P) fun o e => by rw [upd_ne nb]; exact e⟩
    | wd => exact q
end
theorem Stp.poke {K : PySem.W.Frag} {W : Wp} {P H P1 H1 : Hp} {n n1 : Nat} {a : Addr} {u : HO} (hw : World K W P H n) (s : Stp K W P H P1 H1 n1) (h0 : H a = none) (hP : P1 a = none) : Stp K W P H P1 (upd H1 a u) n1 := by
  have nw : Nw W a := hw.nw h0
  refine ⟨fun b v h hn => ?_, s.ple, s.new, fun b v h => ?_, fun on => ⟨?_, (s.wd on).2⟩⟩
  · rw [upd_ne (ne_of_none h h0)]; exact s.ext b v h hn
  · rw [upd_ne (fun z => by rw [z, hP] at h; cases h)]; exact s.sub b v h
  · rw [upd_ne (fun z => nw on z.symm)]; exact (s.wd on).1
theorem Stp.keepsNone {K : PySem.W.Frag} {W : Wp} {P H P1 H1 : Hp} {n1 : Nat} {a : Addr} {o : HO} (s : Stp K W P H P1 H1 n1) (hP : P a = none) (hH : H a = some o) (ho : ∀ xs, o ≠ .tup xs) : P1 a = none := by
  cases q : P1 a with
  | none => rfl
  | some u =>
    rcases s.new a u q with z | z | ⟨xs, z⟩
    · rw [hP] at z; cases z
    · rw [hH] at z; cases z
    · rw [hH] at z; cases z; exact absurd rfl (ho xs)
section
variable {X : Cx} {R : Rt}
/-- the reading of a comprehension -/
theorem tF_lc {it : IM} {ts : List Nat} {g : GM} {c : TM} {f : EM} {vs : List Nat} (hsub : ∀ j ∈ ts, j ∈ vs) : ∀ σ H Q, tF R (eLc it vs g c f) σ H Q → tLc (tIW R it) (tGt R ts g) (tT R c) (tD R f) vs σ H Q := fun σ H Q ⟨P, loc, n, z, n', rp, e, q⟩ => by
  obtain ⟨⟨ds, n1⟩, e1, e2⟩ := Option.bind_eq_some_iff.mp e
  split at e2
  · rename_i hlim
    obtain ⟨⟨out, n2⟩, e3, e4⟩ := Option.map_eq_some_iff.mp e2
    cases e4
    refine ⟨P, loc, n, ds, n1, rp, e1, fun J P1 H1 s1 hJ D hD => ?_⟩
    have hD0 : H D = none := s1.back rp.wd hD
    have nwD : Nw R.W D := rp.wd.nw hD0
    have hDP1 : P1 D = none := none_of_sub s1.sub hD
    have h00 : R.H0 D = none := rp.ext0.fresh hD0 nwD
    have noD : ∀ (i : Nat) (d : Pd.D), loc[i]? = some (.own d) → σ[i]? ≠ some (some (.ref D)) := fun i d hi hs => by
      obtain ⟨a, ea, _, _, _, cc⟩ := rp.cell i _ hi
      rw [hs] at ea; cases ea
      obtain ⟨o, ho, _⟩ := cc.there
      rw [hD0] at ho; cases ho
    have noW : ∀ (i : Nat) (d : Pd.D), (wipeL loc vs)[i]? = some (.own d) → (L2.wipe σ vs)[i]? ≠ some (some (.ref D)) := fun i d hi hs => by
      exact noD i d (wipeL_own vs hi) (wipe_some hs).1
    refine ⟨fun i m H2 => m = ds.length - i ∧ i ≤ ds.length ∧ ∃ P2 m2 acc pre rest, Stp R.K R.W P1 H1 P2 H2 m2 ∧ P2 D = none ∧ H2 D = some (.lst acc) ∧ HdAll R.K P2 acc pre ∧ pre.length ≤ i ∧ Rep R P2 (wipeL loc vs) m2 (L2.wipe σ vs) H2 ∧ comp g c f (wipeL loc vs) (ds.drop i) m2 = some (rest, n2) ∧ out = pre ++ rest,
      ⟨ds.length, rfl, Nat.zero_le _, P1, n1, [], [], out, (Stp.refl s1.sub s1.wd).poke s1.wd hD hDP1, hDP1, upd_same, .nil, Nat.le_refl _, ((rp.step s1).wipe vs).poke hDP1 h00 nwD noW, e3, rfl⟩, ?_⟩
    rintro i m H2 ⟨rfl, hle, P2, m2, acc, pre, rest, s2, hP2, hH2, hacc, hpre, r2, e5, eo⟩
    have hJ' := hJ i P2 H2 m2 s2.ext s2.ple s2.sub s2.wd
    by_cases hlt : i < ds.length
    · obtain ⟨go, yl⟩ := hJ'.2 ds[i] (List.getElem?_eq_getElem hlt)
      rw [List.drop_eq_getElem_cons hlt] at e5
      obtain ⟨loc3, e6, e7⟩ := Option.bind_eq_some_iff.mp e5
      obtain ⟨⟨b, m4⟩, e8, e9⟩ := Option.bind_eq_some_iff.mp e7
      refine .inr ⟨go, fun H5 => ∃ P5 m5 acc5 pre5 rest5, Stp R.K R.W P1 H1 P5 H5 m5 ∧ P5 D = none ∧ H5 D = some (.lst acc5) ∧ HdAll R.K P5 acc5 pre5 ∧ pre5.length ≤ i + 1 ∧ Rep R P5 (wipeL loc vs) m5 (L2.wipe σ vs) H5 ∧ comp g c f (wipeL loc vs) (ds.drop (i + 1)) m5 = some (rest5, n2) ∧ out = pre5 ++ rest5, fun H5 h5 => ⟨ds.length - (i + 1), by omega, rfl, hlt, h5⟩, fun x H3 hy => ?_⟩
      obtain ⟨P3, s3, hx⟩ := yl x H3 hy
      have nt : ∀ xs, HO.lst acc ≠ .tup xs := fun _ z => nomatch z
      have hP3 := s3.keepsNone hP2 hH2 nt
      have hH3 : H3 D = some (.lst acc) := s3.ext D _ hH2 nwD
      have r3 := r2.step s3
      refine ⟨P3, wipeL loc vs, m2, _, loc3, r3, hx, e6, fun σ4 hb r4 => ⟨wipe_but hb hsub, P3, loc3, m2, b, m4, r4, e8, fun P4 H4 s4 => ?_⟩⟩
      have s13 := s2.trans s1.wd s3
      have s14 := s13.trans s1.wd s4
      have hP4 := s4.keepsNone hP3 hH3 nt
      have hH4 : H4 D = some (.lst acc) := s4.ext D _ hH3 nwD
      cases b with
      | false =>
        exact ⟨P4, m4, acc, pre, rest, s14, hP4, hH4, hacc.mono (s3.ple.trans s4.ple), Nat.le_succ_of_le hpre, r3.step s4, e9, eo⟩
      | true =>
        obtain ⟨⟨y, m5⟩, e10, e11⟩ := Option.bind_eq_some_iff.mp (show (f loc3 m4).bind _ = _ from e9)
        obtain ⟨⟨rest5, n5⟩, e12, e13⟩ := Option.map_eq_some_iff.mp e11
        cases e13
        show tD R f σ4 H4 _
        refine ⟨P4, loc3, m4, y, m5, r4.step s4, e10, fun v P5 H5 s5 hv => ?_⟩
        have hP5 := s5.keepsNone hP4 hH4 nt
        have hH5 : H5 D = some (.lst acc) := s5.ext D _ hH4 nwD
        have r5 := (r3.step s4).step s5
        have hacc5 : HdAll R.K P5 acc pre := hacc.mono ((s3.ple.trans s4.ple).trans s5.ple)
        refine ⟨acc, hH5, lim_lt ?_, P5, m5, acc ++ [v], pre ++ [y], rest5, (s14.trans s1.wd s5).poke s1.wd hD hP5, hP5, upd_same, hacc5.append (.one hv), ?_, r5.poke hP5 h00 nwD noW, e12, ?_⟩
        · rw [hacc.length]; have : ds.length ≤ LIM := hlim; omega
        · rw [List.length_append, List.length_singleton]; omega
        · rw [eo]; simp
    · have hi : i = ds.length := by omega
      subst hi
      rw [List.drop_length] at e5
      cases e5
      rw [List.append_nil] at eo
      subst eo
      exact .inl ⟨hJ'.1 rfl, q D P2 H2 (s1.trans rp.wd s2) ⟨hD0, hP2, .lst hH2 hacc⟩⟩
  · cases e2
variable {elt tg iter : Expr} {ifs : List Expr} {scope : Scope} {pos : Pos} {it : IM} {ts : List Nat} {g : GM} {c : TM} {f : EM}
theorem df_lc {own : List (Str × Nat)} (hc : X.calm = true) (hN : X.N.Nodup) (hi : PI X tg iter (tIW R it)) (ok : BlkOk X.N X.env.scope scope own) (hsub : ∀ j ∈ ts, j ∈ own.map (·.2))
    (hg : ∀ (s : Shared) (H : Hp) (C : Addr) (cl : List (Str × Addr)) (fp : List Addr), PG (X.blk s H scope (compEnvC scope cl C X.env) fp) tg (tGt R ts g)) (ht : ∀ (s : Shared) (H : Hp) (C : Addr) (cl : List (Str × Addr)) (fp : List Addr), PTs (X.blk s H scope (compEnvC scope cl C X.env) fp) ifs (tT R c))
    (he : ∀ (s : Shared) (H : Hp) (C : Addr) (cl : List (Str × Addr)) (fp : List Addr), PE (X.blk s H scope (compEnvC scope cl C X.env) fp) elt (tD R f)) (hs : ∀ x, foldedSetIterable iter X.env x = pure x := by intro _; rfl) :
    PE X (.ListComp elt [⟨tg, iter, ifs, 0⟩] scope pos) (tF R (eLc it (own.map (·.2)) g c f)) := pe_sub (pe_lc hc hN hi ok hg ht he hs) (tF_lc hsub)
theorem dts_nil : PTs X [] (tT R mYes) := ⟨fun pins s σ H Q I ⟨P, loc, n, b, n', rp, e, q⟩ => by
  cases e
  exact pts_nil.run pins s σ H Q I (q P H (Stp.refl rp.sub rp.wd))⟩
theorem dts_one {c : Expr} {t : TM} (h : PT X c (tT R t)) : PTs X [c] (tT R t) := pts_one h
/-- name = [..], the name a local, on one line: kept as data, or as one's own -/
theorem ds_setLc {i : Nat} {y : Str} {py : Pos} {spos : Pos} {own : List (Str × Nat)} (hc : X.calm = true) (hN : X.N.Nodup) (hi : PI X tg iter (tIW R it)) (ok : BlkOk X.N X.env.scope scope own) (hsub : ∀ j ∈ ts, j ∈ own.map (·.2))
    (hg : ∀ (s : Shared) (H : Hp) (C : Addr) (cl : List (Str × Addr)) (fp : List Addr), PG (X.blk s H scope (compEnvC scope cl C X.env) fp) tg (tGt R ts g)) (ht : ∀ (s : Shared) (H : Hp) (C : Addr) (cl : List (Str × Addr)) (fp : List Addr), PTs (X.blk s H scope (compEnvC scope cl C X.env) fp) ifs (tT R c))
    (he : ∀ (s : Shared) (H : Hp) (C : Addr) (cl : List (Str × Addr)) (fp : List Addr), PE (X.blk s H scope (compEnvC scope cl C X.env) fp) elt (tD R f))
    (hsw : swapsWith (.ListComp elt [⟨tg, iter, ifs, 0⟩] scope pos) (some (.Name y py)) spos.line X.env = pure true) (hy : X.N[i]? = some y := by rfl) (hyl : X.env.scope.names.lookup y = some .local := by rfl) (hs : ∀ x, foldedSetIterable iter X.env x = pure x := by intro _; rfl) :
    PS X (.Assign [.Name y py] (.ListComp elt [⟨tg, iter, ifs, 0⟩] scope pos) spos) (tS R (sOwn i (eLc it (own.map (·.2)) g c f))) := ps_sub (ps_setLc hc hN hy hyl hsw hi ok hg ht he hs) fun Dn σ H ⟨P, loc, n, o, loc', n', rp, e, q⟩ => by
  obtain ⟨⟨d, n1⟩, e1, e2⟩ := Option.map_eq_some_iff.mp e
  cases e2
  exact tF_lc hsub σ H _ ⟨P, loc, n, d, n1, rp, e1, fun a P1 H1 s1 hf => q P1 H1 _ s1.ple (rp.setOwn s1 i hf)⟩
/-- .. then at once data -/
def sSetLc (i : Nat) (f : EM) : SM := fun loc n => (f loc n).map fun p => (.nx, loc.set i (.val p.1), p.2)
theorem ds_frzBehind {st : Stmt} {i : Nat} {f : EM} (h : PS X st (tS R (sOwn i f))) : PS X st (tS R (sSetLc i f)) := by
  refine ⟨fun pins s σ H Dn I ⟨P, loc, n, o, loc', n', rp, e, q⟩ => ?_⟩
  obtain ⟨⟨d, n1⟩, e1, e2⟩ := Option.map_eq_some_iff.mp e
  cases e2
  refine thn (h.run pins s σ H { Dn with nx := fun σ' H' => ∃ P', PLe P P' ∧ Rep R P' (loc.set i (.own d)) n1 σ' H' } I ⟨P, loc, n, .nx, _, n1, rp, by unfold sOwn; rw [e1]; rfl, fun P' H' σ' l r => ⟨P', l, r⟩⟩) fun fl s1 hf => ?_
  cases fl with
  | next =>
    obtain ⟨σ1, H1, I1, P1, l1, r1⟩ := hf
    by_cases hi : i < loc.length
    · have hl : (loc.set i (.own d))[i]? = some (.own d) := by rw [List.getElem?_set_self hi]
      obtain ⟨P2, H2, I2, l2, r2⟩ := frz_at I1 r1 hl
      rw [List.set_set] at r2
      exact ⟨σ1, H2, I2, q P2 H2 σ1 (l1.trans l2) r2⟩
    · have ee : ∀ c : Cell, loc.set i c = loc := fun c => List.set_eq_of_length_le (by omega)
      rw [ee] at r1
      exact ⟨σ1, H1, I1, q P1 H1 σ1 l1 (by rw [ee]; exact r1)⟩
  | brk => exact hf
  | cont => exact hf
  | ret v => exact hf
end
end Pd
namespace Pd
open PySem L2

abbrev FM := List D → Nat → Option (D × Nat)
/-- the promise of a def: wf: its first argument is the world -/
def spF (K : PySem.W.Frag) (wf : Bool) (F : List Int → FM) (ar : Nat) : Sp := fun vs H Q _ => ∃ (W : Wp) (P : Hp) (n : Nat) (ws : List V) (ds : List D) (d : D) (n' : Nat), (wf = true → W.on = true) ∧ vs = (if wf = true then .ref W.wa :: ws else ws) ∧ ds.length = ar ∧ PLe P H ∧ World K W P H n ∧ HdAll K P ws ds ∧ F W.draws ds n = some (d, n') ∧
  ∀ v P' H', Stp K W P H P' H' n' → Hd K P' v d → Q v H'
def start0 (wf : Bool) (nl : Nat) (ds : List D) : Loc := (if wf = true then [.wd] else []) ++ ds.map .val ++ List.replicate (nl - ((if wf = true then 1 else 0) + ds.length)) .un
def runF (wf : Bool) (nl : Nat) (body : SM) : FM := fun ds n => (body (start0 wf nl ds) n).bind fun p => match p.1 with
  | .nx => some (.none, p.2.2)
  | .ret d => some (d, p.2.2)
  | _ => none
theorem start_get {wf : Bool} {nl : Nat} {ds : List D} {i : Nat} {c : Cell} (h : (start0 wf nl ds)[i]? = some c) : c = .un ∨ (wf = true ∧ i = 0 ∧ c = .wd) ∨ ∃ j d, i = (if wf = true then 1 else 0) + j ∧ ds[j]? = some d ∧ c = .val d := by
  unfold start0 at h
  cases wf with
  | true =>
    simp only [if_true] at h ⊢
    cases i with
    | zero =>
      rw [List.append_assoc, List.singleton_append, List.getElem?_cons_zero] at h
      exact .inr (.inl ⟨trivial, rfl, (Option.some.inj h).symm⟩)
    | succ j =>
      rw [List.append_assoc, List.singleton_append, List.getElem?_cons_succ] at h
      by_cases hj : j < ds.length
      · rw [List.getElem?_append_left (by simpa using hj), List.getElem?_map] at h
        obtain ⟨d, hd, e⟩ := Option.map_eq_some_iff.mp h
        exact .inr (.inr ⟨j, d, by omega, hd, e.symm⟩)
      · rw [List.getElem?_append_right (by simpa using hj), List.getElem?_replicate] at h
        split at h
        · exact .inl (Option.some.inj h).symm
        · cases h
  | false =>
    simp only [Bool.false_eq_true, if_false, List.nil_append] at h ⊢
    by_cases hj : i < ds.length
    · rw [List.getElem?_append_left (by simpa using hj), List.getElem?_map] at h
      obtain ⟨d, hd, e⟩ := Option.map_eq_some_iff.mp h
      exact .inr (.inr ⟨i, d, by omega, hd, e.symm⟩)
    · rw [List.getElem?_append_right (by simpa using hj), List.getElem?_replicate] at h
      split at h
      · exact .inl (Option.some.inj h).symm
      · cases h
theorem rep_start {K : PySem.W.Frag} {W : Wp} {P H : Hp} {n : Nat} {wf : Bool} {ws : List V} {ds : List D} {N : List Str} {vs : List V} (hw : wf = true → W.on = true) (ev : vs = (if wf = true then .ref W.wa :: ws else ws)) (hl : vs.length ≤ N.length) (hs : PLe P H) (wd : World K W P H n) (h : HdAll K P ws ds) :
    Rep ⟨K, W, P, H⟩ P (start0 wf N.length ds) n (L2.start N vs) H := by
  have hlen : (start0 wf N.length ds).length = (L2.start N vs).length := by
    unfold start0 L2.start
    have hwd := h.length
    cases wf with
    | true => simp only [if_true] at ev ⊢; subst ev; simp at hl ⊢; omega
    | false => simp only [Bool.false_eq_true, if_false] at ev ⊢; subst ev; simp at hl ⊢; omega
  refine ⟨hs, fun _ _ h _ => h, PLe.refl P, fun _ _ h => .inl h, wd, hlen, fun i c hi => ?_, fun i j a d e hi => ?_⟩
  · have hlt : i < (L2.start N vs).length := by rw [← hlen]; exact (List.getElem?_eq_some_iff.mp hi).1
    rcases start_get hi with rfl | ⟨hwf, rfl, rfl⟩ | ⟨j, d, rfl, hd, rfl⟩
    · trivial
    · refine ⟨?_, hw hwf⟩
      rw [hwf] at ev
      simp only [if_true] at ev
      subst ev
      rfl
    · obtain ⟨v, hv, hvd⟩ := h.get hd
      refine ⟨v, ?_, hvd⟩
      have hj : j < ws.length := (List.getElem?_eq_some_iff.mp hv).1
      unfold L2.start
      cases wf with
      | true =>
        simp only [if_true] at ev ⊢
        subst ev
        rw [List.getElem?_append_left (by simp; omega), List.getElem?_map, Nat.add_comm 1 j, List.getElem?_cons_succ, hv]; rfl
      | false =>
        simp only [Bool.false_eq_true, if_false] at ev ⊢
        subst ev
        rw [List.getElem?_append_left (by simp; omega), List.getElem?_map, Nat.zero_add, hv]; rfl
  · rcases start_get hi with q | ⟨_, _, q⟩ | ⟨_, _, _, _, q⟩ <;> cases q
theorem Rep.stp {R : Rt} {P : Hp} {loc : Loc} {n : Nat} {σ : L2.St} {H : Hp} (r : Rep R P loc n σ H) : Stp R.K R.W R.P0 R.H0 P H n := ⟨r.ext0, r.ple0, r.new0, r.sub, r.wd⟩

section
variable {P : Program} {w : PySem.World} {K : PySem.W.Frag} {mg : Str → Option Value} {base : Heap}
/-- the context of a def's body -/
abbrev bX (P : Program) (w : PySem.World) (K : PySem.W.Frag) (mg : Str → Option Value) (base : Heap) (N : List Str) (qual : Str) (st : Stmt) (f : Addr) (cdv : Value) (A : Around) (outer : List Env) (s : Shared) (H : Hp) (E : XK) : Cx := (cxOf CX0 P w K mg base N qual (defScope st) f cdv A outer s H E).nox
theorem ok_fn {x qual : Str} {st : Stmt} {f : Addr} {fd : FuncData} {N ps : List Str} {k ar : Nat} {wf : Bool} {body : List Int → SM} (F : Fun K x qual st f fd) (S : FnScope N ps (defScope st)) (har : ps.length = (if wf = true then 1 else 0) + ar)
    (hbody : ∀ (cdv : Value) (A : Around) (outer : List Env) (s : Shared) (H : Hp) (E : XK) (W : Wp) (P0 H0 : Hp), Room k (bX P w K mg base N qual st f cdv A outer s H E).A → PSs (bX P w K mg base N qual st f cdv A outer s H E) (defBody st) (tS ⟨K, W, P0, H0⟩ (body W.draws))) :
    FnOk P w K mg base CX0 (k + 1) f fd ps (spF K wf (fun dr => runF wf N.length (body dr)) ar) := by
  have hlen : ∀ {vs ws : List V} {ds : List D} {W : Wp} {P : Hp}, vs = (if wf = true then .ref W.wa :: ws else ws) → ds.length = ar → HdAll K P ws ds → vs.length = ps.length := fun {vs ws ds W P} ev hl h => by
    have := h.length
    rw [har, ev]
    cases wf with
    | true => simp only [if_true, List.length_cons]; omega
    | false => simp only [Bool.false_eq_true, if_false]; omega
  refine F.ok S (fun vs H Q E h => ?_) (fun cdv A outer s H vs Q E hr h => ?_)
  · obtain ⟨W, P, n, ws, ds, d, n', hw, ev, hl, hs, wd, ha, _, _⟩ := h
    exact hlen ev hl ha
  · obtain ⟨W, P, n, ws, ds, d, n', hw, ev, hl, hs, wd, ha, hF, q⟩ := h
    have hvl := hlen ev hl ha
    have hpl : ps.length ≤ N.length := by have := congrArg List.length S.pre; rw [List.length_take] at this; omega
    obtain ⟨⟨o, loc', n1⟩, e1, e2⟩ := Option.bind_eq_some_iff.mp hF
    refine ⟨_, hbody cdv A outer s H E W P H hr, P, _, n, o, loc', n1, rep_start hw ev (by omega) hs wd ha, e1, fun P' H' σ' l r => ?_⟩
    cases o with
    | nx => cases e2; exact q _ P' H' r.stp .non
    | ret d => cases e2; exact fun v hv => q v P' H' r.stp hv
    | bk => cases e2
    | ct => cases e2
end

/-! ### calls -/
def eCall (F : FM) (ar : Nat) (am : AM) : EM := fun loc n => (am loc n).bind fun p => if p.1.length = ar then F p.1 p.2 else none
def eCallW (i : Nat) (F : FM) (ar : Nat) (am : AM) : EM := fun loc n => match loc[i]? with
  | some .wd => (am loc n).bind fun p => if p.1.length = ar then F p.1 p.2 else none
  | _ => none
section
variable {X : Cx} {R : Rt} {k k' : Nat} {f : Addr} {fd : FuncData} {ps : List Str} {F : FM} {Fw : List Int → FM} {ar : Nat} {x : Str} {p pos : Pos} {e : Expr} {es : List Expr} {am : AM}
theorem de_call (G : FnOk X.prog X.w X.K X.mg X.base CX0 k f fd ps (spF X.K false (fun _ => F) ar)) (hK : X.K = R.K) (hr : Room k X.A) (hm : X.mg x = some (.ref f)) (hk : PySem.W.keepIn X.K (.ref f) = true) (hb : Binds X.K fd ps [])
    (ha : PA X (e :: es) (tA R am)) (hg : Gl X x := by rfl) (hdb : (x == ("__debug__" : Str)) = false := by decide) (he : starEach (e :: es) X.env = (false, eval e X.env) :: starEach es X.env := by rfl) (hpl : (backTo pos (starEach es X.env)).any (·.1) = false := by rfl) :
    PE X (.Call (.Name x p) (e :: es) [] pos) (tD R (eCall F ar am)) := pe_sub (pe_call G hr hg hm hk hb .nil pass0 ha hdb he hpl) fun σ H Q ⟨P, loc, n, d, n', rp, e, q⟩ => by
  obtain ⟨⟨ds, n1⟩, e1, e2⟩ := Option.bind_eq_some_iff.mp e
  split at e2
  · rename_i hl
    refine ⟨P, loc, n, ds, n1, rp, e1, fun vs P1 H1 s1 hvs => ?_⟩
    show spF X.K false (fun _ => F) ar (vs ++ []) H1 Q E0
    rw [List.append_nil, hK]
    exact ⟨R.W, P1, n1, vs, ds, d, n', fun z => (Bool.false_ne_true z).elim, rfl, hl, s1.sub, s1.wd, hvs, e2, fun v P2 H2 s2 hv => q v P2 H2 (s1.trans rp.wd s2) hv⟩
  · cases e2
/-- f(w, ..) -/
theorem de_callw {i : Nat} {wx : Str} {wp : Pos} (G : FnOk X.prog X.w X.K X.mg X.base CX0 k f fd ps (spF X.K true Fw ar)) (hK : X.K = R.K) (hr : Room k X.A) (hm : X.mg x = some (.ref f)) (hk : PySem.W.keepIn X.K (.ref f) = true) (hb : Binds X.K fd ps [])
    (hw : PE X (.Name wx wp) (tVar i)) (ha : PA X es (tA R am)) (hg : Gl X x := by rfl) (hdb : (x == ("__debug__" : Str)) = false := by decide) (he : starEach (.Name wx wp :: es) X.env = (false, eval (.Name wx wp) X.env) :: starEach es X.env := by rfl) (hpl : (backTo pos (starEach es X.env)).any (·.1) = false := by rfl) :
    PE X (.Call (.Name x p) (.Name wx wp :: es) [] pos) (tD R (eCallW i (Fw R.W.draws) ar am)) := pe_sub (pe_call G hr hg hm hk hb .nil pass0 (pa_cons hw ha he) hdb he hpl) fun σ H Q ⟨P, loc, n, d, n', rp, e, q⟩ => by
  unfold eCallW at e
  split at e
  · rename_i hi
    obtain ⟨⟨ds, n1⟩, e1, e2⟩ := Option.bind_eq_some_iff.mp e
    split at e2
    · rename_i hl
      obtain ⟨ew, on⟩ := rp.cell i _ hi
      refine ⟨_, ew, P, loc, n, ds, n1, rp, e1, fun vs P1 H1 s1 hvs => ?_⟩
      show spF X.K true Fw ar ((V.ref R.W.wa :: vs) ++ []) H1 Q E0
      rw [List.append_nil, hK]
      exact ⟨R.W, P1, n1, vs, ds, d, n', fun _ => on, rfl, hl, s1.sub, s1.wd, hvs, e2, fun v P2 H2 s2 hv => q v P2 H2 (s1.trans rp.wd s2) hv⟩
    · cases e2
  · cases e
end
/-! ### built-in functions by values -/
def Cl1 (K : PySem.W.Frag) (r : List V → Hp → VK → Prop) (g : D → Option D) : Prop := ∀ (W : Wp) (x : V) (H P : Hp) (n : Nat) (d z : D) (Q : VK), PLe P H → World K W P H n → Hw K W P H x d → g d = some z → Post K W P H n z Q → r [x] H Q
def Cl2 (K : PySem.W.Frag) (r : List V → Hp → VK → Prop) (g : D → D → Option D) : Prop := ∀ (W : Wp) (x y : V) (H P : Hp) (n : Nat) (d e z : D) (Q : VK), PLe P H → World K W P H n → Hw K W P H x d → Hw K W P H y e → g d e = some z → Post K W P H n z Q → r [x, y] H Q
section
variable {X : Cx} {R : Rt} {id T : String} {r : List V → Hp → VK → Prop} {x : Str} {p pos : Pos} {a b : Expr} {fa fb : EM}
theorem tG_cb1 {g : D → Option D} (o : Cl1 R.K r g) : ∀ σ H Q, tG R (eOp1 g fa) σ H Q → tCB r (tCons (tW R fa) tNil) σ H Q := fun σ H Q ⟨P, loc, n, z, n', rp, e, q⟩ => by
  obtain ⟨d, h1, h3⟩ := eOp1_some e
  exact ⟨P, loc, n, d, n', rp, h1, fun v P1 H1 s1 hv => o R.W v H1 P1 n' d z Q s1.sub s1.wd hv h3 fun u P3 H3 s3 hu => q u P3 H3 (s1.trans rp.wd s3) (gv_back rp.wd s1 hu)⟩
theorem tG_cb2 {g : D → D → Option D} (o : Cl2 R.K r g) : ∀ σ H Q, tG R (eOp g fa fb) σ H Q → tCB r (tCons (tW R fa) (tCons (tW R fb) tNil)) σ H Q := fun σ H Q ⟨P, loc, n, z, n', rp, e, q⟩ => by
  obtain ⟨d, n1, e, h1, h2, h3⟩ := eOp_some e
  exact ⟨P, loc, n, d, n1, rp, h1, fun v P1 H1 s1 hv => ⟨P1, loc, n1, e, n', rp.step s1, h2, fun w P2 H2 s2 hw => o R.W v w H2 P2 n' d e z Q s2.sub s2.wd (hv.step s2) hw h3 fun u P3 H3 s3 hu => q u P3 H3 ((s1.trans rp.wd s2).trans rp.wd s3) (gv_back rp.wd (s1.trans rp.wd s2) hu)⟩⟩
theorem dg_b1 {g : D → Option D} (hc : CallR X (.builtin id) r) (o : Cl1 R.K r g) (hm : X.mg x = none) (hv : bootBuiltins x = some (.builtin id)) (ha : PE X a (tW R fa)) (hg : Gl X x := by rfl) (hn : x ≠ "__name__" := by decide) (hdb : (x == ("__debug__" : Str)) = false := by decide)
    (hs : starEach [a] X.env = (false, eval a X.env) :: starEach [] X.env := by rfl) : PE X (.Call (.Name x p) [a] [] pos) (tG R (eOp1 g fa)) := pe_sub (pe_callB hc hg hm hv (pa_cons ha pa_nil hs) hn hdb hs (by rfl)) (tG_cb1 o)
theorem dg_t1 {g : D → Option D} (hc : CallR X (.type T) r) (o : Cl1 R.K r g) (hm : X.mg x = none) (hv : bootBuiltins x = some (.type T)) (ha : PE X a (tW R fa)) (hg : Gl X x := by rfl) (hn : x ≠ "__name__" := by decide) (hdb : (x == ("__debug__" : Str)) = false := by decide)
    (hs : starEach [a] X.env = (false, eval a X.env) :: starEach [] X.env := by rfl) : PE X (.Call (.Name x p) [a] [] pos) (tG R (eOp1 g fa)) := pe_sub (pe_callTy hc hg hm hv (pa_cons ha pa_nil hs) hn hdb hs (by rfl)) (tG_cb1 o)
theorem dg_b2 {g : D → D → Option D} (hc : CallR X (.builtin id) r) (o : Cl2 R.K r g) (hm : X.mg x = none) (hv : bootBuiltins x = some (.builtin id)) (ha : PE X a (tW R fa)) (hb : PE X b (tW R fb)) (hg : Gl X x := by rfl) (hn : x ≠ "__name__" := by decide) (hdb : (x == ("__debug__" : Str)) = false := by decide)
    (hs : starEach [a, b] X.env = (false, eval a X.env) :: starEach [b] X.env := by rfl) (hs2 : starEach [b] X.env = (false, eval b X.env) :: starEach [] X.env := by rfl) (hpl : (backTo pos (starEach [b] X.env)).any (·.1) = false := by rfl) : PE X (.Call (.Name x p) [a, b] [] pos) (tG R (eOp g fa fb)) := pe_sub (pe_callB hc hg hm hv (pa_cons ha (pa_cons hb pa_nil hs2) hs) hn hdb hs hpl) (tG_cb2 o)
end
end Pd
namespace Pd
open PySem L2

/-! ### shapes of values -/
section
variable {K : PySem.W.Frag} {W : Wp} {P H : Hp} {v : V}
theorem hw_none (h : Hw K W P H v .none) : v = .non := by
  cases h with
  | hd h => cases h; rfl
  | ct _ c => cases c
theorem hw_bool {b : Bool} (h : Hw K W P H v (.bool b)) : v = .bl b := by
  cases h with
  | hd h => cases h; rfl
  | ct _ c => cases c
theorem hw_str {x : Str} (h : Hw K W P H v (.str x)) : v = .str x := by
  cases h with
  | hd h => cases h; rfl
  | ct _ c => cases c
theorem hw_tup {ds : List D} (hs : PLe P H) (h : Hw K W P H v (.tuple ds)) : ∃ a vs, v = .ref a ∧ SqT K H a vs ∧ HdAll K P vs ds := by
  cases h with
  | hd h => cases h with
    | tup h1 h2 => exact ⟨_, _, rfl, ple_t hs h1, h2⟩
  | ct _ c => cases c
theorem hw_list {ds : List D} (hs : PLe P H) (h : Hw K W P H v (.list ds)) : ∃ a vs, v = .ref a ∧ SqL K H a vs ∧ HdAll K P vs ds := by
  cases h with
  | hd h => cases h with
    | lst h1 h2 => exact ⟨_, _, rfl, ple_l hs h1, h2⟩
  | ct _ c => cases c with
    | lst h1 h2 => exact ⟨_, _, rfl, .inl (.inl h1), h2⟩
end

/-! ### list + list, of any list -/
theorem pd_list_add (l : Addr) (items : Array Value) (n : Nat) (b : Addr) (items2 : Array Value) (n2 : Nat) (dd dd2 : Option Addr) (sl sl2 : Array (Option Value)) (hc0 : items.size + items2.size ≤ sizeLine) :
    Meets (Builtin.«list.__add__» ⟨[.ref l, .ref b], []⟩) (fun _ R s => s.heap.get? l = some { cls := .type "list", dict := dd, data := .seq items n, slots := sl } ∧ s.heap.get? b = some { cls := .type "list", dict := dd2, data := .seq items2 n2, slots := sl2 } ∧
      R (.ok (.ret (Value.ref s.heap.objs.size))) { s with heap := s.heap.push { cls := Value.type "list", data := Data.seq (items ++ items2) }, toks := s.toks }) :=
  .of_wp fun prog w A R s h => by
    obtain ⟨hp, g, d, tk, os⟩ := s
    obtain ⟨hl, hb, h⟩ := h
    have f1 := AutoSeq1.idx_int; have f2 := AutoSeq1.sub_tuple_tuple; have f3 := AutoSeq1.sub_list_list
    have f4 := AutoSeq1.sub_tuple_list; have f5 := AutoSeq1.sub_list_tuple
    wp_walk using AutoSeq1.wpAny_loadPart' hl, AutoSeq1.wpAny_loadPart' hb
    exact ⟨_, rfl, h⟩
def rCatS (K : PySem.W.Frag) : R2 := fun x y H Q => ∃ a b xs ys, x = .ref a ∧ y = .ref b ∧ SqL K H a xs ∧ SqL K H b ys ∧ xs.length + ys.length ≤ sizeLine ∧ ∀ p, H p = none → Q (.ref p) (upd H p (.lst (xs ++ ys)))
theorem op_catS {X : Cx} : OpR X (binaryOp .Add) (rCatS X.K) := by
  intro pins s σ H x y v u Q I rx ry h
  obtain ⟨a, b, xs, ys, rfl, rfl, ha, hb, hz, q⟩ := h
  cases rx
  cases ry
  obtain ⟨its, r1, ⟨⟨c1, d1, t1, s1⟩, n1, e1, k1, k2, k3⟩, z1⟩ := I.list ha
  obtain ⟨its2, r2, ⟨⟨c2, d2, t2, s2⟩, n2, e2, j1, j2, j3⟩, z2⟩ := I.list hb
  simp only at k1 k2 k3 j1 j2 j3
  subst k1 k2 k3 j1 j2 j3
  have l1 := r1.length
  have l2 := r2.length
  refine concat_meets ⟨_, e1, rfl⟩ ⟨_, e2, rfl⟩ noFill_list_add seq_list_add F.slot_list_add F.entry_list_add (F.args_list_add_2 _ _) (pd_list_add a its.toArray n1 b its2.toArray n2 none none s1 s2 (by simp; omega)) ⟨e1, e2, ?_⟩
  have ea : its.toArray ++ its2.toArray = (its ++ its2).toArray := by simp
  rw [ea]
  exact ⟨.ref _, _, I.lnew (t' := s.toks) (r1.append r2) (by rw [List.length_append]; omega), rfl, q _ I.fresh⟩

def addD : D → D → Option D
  | .int i, .int j => some (.int (i + j))
  | .str x, .str y => if x.length + y.length ≤ LIM then some (.str (x ++ y)) else none
  | .tuple xs, .tuple ys => if xs.length + ys.length ≤ LIM then some (.tuple (xs ++ ys)) else none
  | .list xs, .list ys => if xs.length + ys.length ≤ LIM then some (.list (xs ++ ys)) else none
  | _, _ => none
def rAddD (K : PySem.W.Frag) : R2 := fun x y H Q => (rI0 (fun i j => .int (i + j)) x y H Q ∨ (∃ i j, x = .str i ∧ y = .str j ∧ i.length + j.length ≤ sizeLine ∧ Q (.str (i ++ j)) H)) ∨ (rCatA K x y H Q ∨ rCatS K x y H Q)
theorem op_addD {X : Cx} : OpR X (binaryOp .Add) (rAddD X.K) := (op_add.or op_add_str).or (op_catA.or op_catS)
section
variable {K : PySem.W.Frag}
theorem o2_add : Op2 K (rAddD K) addD := fun W x y H P n d e z Q hs hw h1 h2 g q => by
  unfold addD at g
  split at g
  · cases g
    rw [hw_int h1, hw_int h2]
    exact .inl (.inl ⟨_, _, rfl, rfl, q.val hs hw (.int _)⟩)
  · split at g
    · rename_i hl
      cases g
      rw [hw_str h1, hw_str h2]
      exact .inl (.inr ⟨_, _, rfl, rfl, lim_le hl, q.val hs hw (.str _)⟩)
    · cases g
  · split at g
    · rename_i xs ys hl
      cases g
      obtain ⟨a, vs, rfl, ha, hva⟩ := hw_tup hs h1
      obtain ⟨b, ws, rfl, hb, hvb⟩ := hw_tup hs h2
      have l1 := hva.length
      have l2 := hvb.length
      refine .inr (.inl ⟨a, b, vs, ws, rfl, rfl, ha, hb, lim_le (by omega), fun e0 => ?_, fun e0 e1 => ?_, fun e0 e1 p hp => q.tup hs hw hp (hva.append hvb)⟩)
      · subst e0
        cases hva
        cases h2 with
        | hd h2 => exact q.val hs hw h2
        | ct _ c => cases c
      · subst e1
        cases hvb
        rw [List.append_nil] at q
        cases h1 with
        | hd h1 => exact q.val hs hw h1
        | ct _ c => cases c
    · cases g
  · split at g
    · rename_i xs ys hl
      cases g
      obtain ⟨a, vs, rfl, ha, hva⟩ := hw_list hs h1
      obtain ⟨b, ws, rfl, hb, hvb⟩ := hw_list hs h2
      have l1 := hva.length
      have l2 := hvb.length
      exact .inr (.inr ⟨a, b, vs, ws, rfl, rfl, ha, hb, lim_le (by omega), fun p hp => q.lst hs hw hp (hva.append hvb)⟩)
    · cases g
  · cases g
theorem o2_sub : Op2 K (rI0 fun i j => .int (i - j)) subI := fun W x y H P n d e z Q hs hw h1 h2 g q => by
  unfold subI at g
  split at g
  · cases g
    rw [hw_int h1, hw_int h2]
    exact ⟨_, _, rfl, rfl, q.val hs hw (.int _)⟩
  · cases g
def B64 : Int := 18446744073709551616
def mulI : D → D → Option D
  | .int i, .int j => if (-B64 < i ∧ i < B64) ∨ (-B64 < j ∧ j < B64) then some (.int (i * j)) else none
  | _, _ => none
theorem o2_mul : Op2 K (rI CMul fun i j => .int (i * j)) mulI := fun W x y H P n d e z Q hs hw h1 h2 g q => by
  unfold mulI at g
  split at g
  · split at g
    · rename_i hc
      cases g
      rw [hw_int h1, hw_int h2]
      exact ⟨_, _, rfl, rfl, hc, q.val hs hw (.int _)⟩
    · cases g
  · cases g
def fdivI : D → D → Option D
  | .int i, .int j => if 0 < j ∧ j < 1073741824 then some (.int (i / j)) else none
  | _, _ => none
theorem o2_fdiv : Op2 K (rI CDiv fun i j => .int (i / j)) fdivI := fun W x y H P n d e z Q hs hw h1 h2 g q => by
  unfold fdivI at g
  split at g
  · split at g
    · rename_i hc
      cases g
      rw [hw_int h1, hw_int h2]
      exact ⟨_, _, rfl, rfl, hc, q.val hs hw (.int _)⟩
    · cases g
  · cases g
def modI : D → D → Option D
  | .int i, .int j => if 0 < j then some (.int (i % j)) else none
  | _, _ => none
theorem o2_mod : Op2 K (rI (fun _ j => 0 < j) fun i j => .int (i % j)) modI := fun W x y H P n d e z Q hs hw h1 h2 g q => by
  unfold modI at g
  split at g
  · split at g
    · rename_i hc
      cases g
      rw [hw_int h1, hw_int h2]
      exact ⟨_, _, rfl, rfl, hc, q.val hs hw (.int _)⟩
    · cases g
  · cases g
def powI : D → D → Option D
  | .int i, .int j => if 0 ≤ j ∧ j ≤ 1000000 ∧ i.natAbs < 18446744073709551616 then some (.int (i ^ j.toNat)) else none
  | _, _ => none
theorem o2_pow : Op2 K (rI CPow fun i j => .int (i ^ j.toNat)) powI := fun W x y H P n d e z Q hs hw h1 h2 g q => by
  unfold powI at g
  split at g
  · split at g
    · rename_i hc
      cases g
      rw [hw_int h1, hw_int h2]
      exact ⟨_, _, rfl, rfl, hc, q.val hs hw (.int _)⟩
    · cases g
  · cases g
def negI : D → Option D
  | .int i => some (.int (-i))
  | _ => none
theorem o1_neg : Op1 K (rU fun i => .int (-i)) negI := fun W x H P n d z Q hs hw h1 g q => by
  unfold negI at g
  split at g
  · cases g
    rw [hw_int h1]
    exact ⟨_, rfl, q.val hs hw (.int _)⟩
  · cases g
/-! ### comparisons -/
def cmpI (p : Int → Int → Bool) : D → D → Option D
  | .int i, .int j => some (.bool (p i j))
  | _, _ => none
def ltI := cmpI fun i j => decide (i < j)
def leI := cmpI fun i j => decide (i ≤ j)
def gtI := cmpI fun i j => decide (j < i)
def geI := cmpI fun i j => decide (j ≤ i)
theorem o2_cmp (p : Int → Int → Bool) : Op2 K (rI0 fun i j => .bl (p i j)) (cmpI p) := fun W x y H P n d e z Q hs hw h1 h2 g q => by
  unfold cmpI at g
  split at g
  · cases g
    rw [hw_int h1, hw_int h2]
    exact ⟨_, _, rfl, rfl, q.val hs hw (.bl _)⟩
  · cases g
theorem o2_lt : Op2 K (rI0 fun i j => .bl (decide (i < j))) ltI := o2_cmp _
theorem o2_le : Op2 K (rI0 fun i j => .bl (decide (i ≤ j))) leI := o2_cmp _
theorem o2_gt : Op2 K (rI0 fun i j => .bl (decide (j < i))) gtI := o2_cmp _
theorem o2_ge : Op2 K (rI0 fun i j => .bl (decide (j ≤ i))) geI := o2_cmp _
def isN : D → Bool
  | .none => true
  | _ => false
def isNoneD (d : D) : D → Option D
  | .none => some (.bool (isN d))
  | _ => none
def notNoneD (d : D) : D → Option D
  | .none => some (.bool (!isN d))
  | _ => none
theorem hw_isNone {W : Wp} {P H : Hp} {v : V} {d : D} (h : Hw K W P H v d) : decide (v = .non) = isN d := by
  cases h with
  | hd h => cases h <;> rfl
  | ct _ c => cases c <;> rfl
theorem o2_isN : Op2 K (fun x y H Q => y = .non ∧ Q (.bl (decide (x = .non))) H) isNoneD := fun W x y H P n d e z Q hs hw h1 h2 g q => by
  unfold isNoneD at g
  split at g
  · cases g
    refine ⟨hw_none h2, ?_⟩
    rw [hw_isNone h1]
    exact q.val hs hw (.bl _)
  · cases g
theorem o2_notN : Op2 K (fun x y H Q => y = .non ∧ Q (.bl (!decide (x = .non))) H) notNoneD := fun W x y H P n d e z Q hs hw h1 h2 g q => by
  unfold notNoneD at g
  split at g
  · cases g
    refine ⟨hw_none h2, ?_⟩
    rw [hw_isNone h1]
    exact q.val hs hw (.bl _)
  · cases g

/-! ### == of data without dicts -/
def okEq (a b : D) : Bool := a.plain && b.plain && (decide (a.depth ≤ 40) || decide (b.depth ≤ 40))
def eqD (a b : D) : Option D := if okEq a b = true then some (.bool (PyData.eqv a b)) else none
def neD (a b : D) : Option D := if okEq a b = true then some (.bool (!PyData.eqv a b)) else none
end
theorem hw_reads {X : Cx} {pins : List (Addr × Obj)} {σ : L2.St} {H P : Hp} {s : Shared} {W : Wp} {v : V} {u : Value} {d : D} (I : Inv X pins σ H s) (hs : PLe P H) (h : Hw X.K W P H v d) (r : RelV v u) (hp : d.plain = true) : ∃ as, Reads s.heap u d as := by
  have go : ∀ (v : V) (d : D), Hd X.K P v d → d.plain = true → Dp X.K H v d := by
    have goAll : ∀ (k : Nat) {v : V} {d : D}, d.depth ≤ k → Hd X.K P v d → d.plain = true → Dp X.K H v d := by
      intro k
      induction k with
      | zero =>
        intro v d hk hd hp
        cases hd with
        | non => exact .non
        | bl b => exact .bl b
        | int i => exact .int i
        | str x => exact .str x
        | lst h1 h2 => simp [PyData.depth] at hk
        | tup h1 h2 => simp [PyData.depth] at hk
        | dK _ _ => cases hp
        | dT _ _ => cases hp
      | succ k ih =>
        have all : ∀ {vs : List V} {ds : List D}, PyData.depthAll ds ≤ k → HdAll X.K P vs ds → PyData.plainAll ds = true → DpAll X.K H vs ds := by
          intro vs ds
          induction ds generalizing vs with
          | nil => intro _ h _; cases h; exact .nil
          | cons d ds ihd =>
            intro hk h hp
            cases h with
            | cons h1 h2 =>
              simp only [PyData.depthAll, Nat.max_le] at hk
              simp only [PyData.plainAll, Bool.and_eq_true] at hp
              exact .cons (ih hk.1 h1 hp.1) (ihd hk.2 h2 hp.2)
        intro v d hk hd hp
        cases hd with
        | non => exact .non
        | bl b => exact .bl b
        | int i => exact .int i
        | str x => exact .str x
        | lst h1 h2 =>
          simp only [PyData.depth, Nat.add_le_add_iff_right] at hk
          exact .lst (ple_l hs h1) (all hk h2 (by simpa [PyData.plain] using hp))
        | tup h1 h2 =>
          simp only [PyData.depth, Nat.add_le_add_iff_right] at hk
          exact .tup (ple_t hs h1) (all hk h2 (by simpa [PyData.plain] using hp))
        | dK _ _ => cases hp
        | dT _ _ => cases hp
    exact fun v d h hp => goAll _ (Nat.le_refl _) h hp
  have dp : Dp X.K H v d := by
    cases h with
    | hd h => exact go _ _ h hp
    | ct _ c =>
      cases c with
      | lst h1 h2 =>
        have all : ∀ {vs : List V} {ds : List D}, HdAll X.K P vs ds → PyData.plainAll ds = true → DpAll X.K H vs ds := by
          intro vs ds h
          induction ds generalizing vs with
          | nil => cases h; exact fun _ => .nil
          | cons d ds ihd =>
            intro hp
            cases h with
            | cons h1 h2 =>
              simp only [PyData.plainAll, Bool.and_eq_true] at hp
              exact .cons (go _ _ h1 hp.1) (ihd h2 hp.2)
        exact .lst (.inl (.inl h1)) (all h2 (by simpa [PyData.plain] using hp))
      | dK _ _ => cases hp
      | dT _ _ => cases hp
  exact Dp.reads I d v u dp r
def rEqP (K : PySem.W.Frag) (k : Bool → Bool) : R2 := fun x y H Q => ∃ (W : Wp) (P : Hp) (d e : D), PLe P H ∧ Hw K W P H x d ∧ Hw K W P H y e ∧ okEq d e = true ∧ Q (.bl (k (PyData.eqv d e))) H
theorem okEq_room {A : Around} {a b : D} (hu : A.units + 64 < cLine) (h : okEq a b = true) : a.plain = true ∧ b.plain = true ∧ A.units + min a.depth b.depth < cLine := by
  unfold okEq at h
  simp only [Bool.and_eq_true, Bool.or_eq_true, decide_eq_true_eq] at h
  refine ⟨h.1.1, h.1.2, ?_⟩
  rcases h.2 with h | h
  · have := Nat.min_le_left a.depth b.depth; omega
  · have := Nat.min_le_right a.depth b.depth; omega
section
variable {X : Cx}
theorem op_eqP (hu : X.A.units + 64 < cLine) : OpR X (compareOp .Eq) (rEqP X.K id) := by
  intro pins s σ H x y v u Q I rx ry h
  obtain ⟨W, P, d, e, hs, hd, he, ok, q⟩ := h
  obtain ⟨p1, p2, hu'⟩ := okEq_room hu ok
  obtain ⟨as, r1⟩ := hw_reads I hs hd rx p1
  obtain ⟨bs, r2⟩ := hw_reads I hs he ry p2
  exact SeqAt.eq_plain r1 r2 p1 p2 hu' ⟨.bl _, H, I, rfl, q⟩
theorem op_neP (hu : X.A.units + 64 < cLine) : OpR X (compareOp .NotEq) (rEqP X.K not) := by
  intro pins s σ H x y v u Q I rx ry h
  obtain ⟨W, P, d, e, hs, hd, he, ok, q⟩ := h
  obtain ⟨p1, p2, hu'⟩ := okEq_room hu ok
  obtain ⟨as, r1⟩ := hw_reads I hs hd rx p1
  obtain ⟨bs, r2⟩ := hw_reads I hs he ry p2
  exact SeqAt.ne_plain r1 r2 p1 p2 hu' ⟨.bl _, H, I, rfl, q⟩
end
section
variable {K : PySem.W.Frag}
theorem o2_eq : Op2 K (rEqP K id) eqD := fun W x y H P n d e z Q hs hw h1 h2 g q => by
  unfold eqD at g
  split at g
  · rename_i ok
    cases g
    exact ⟨W, P, d, e, hs, h1, h2, ok, q.val hs hw (.bl _)⟩
  · cases g
theorem o2_ne : Op2 K (rEqP K not) neD := fun W x y H P n d e z Q hs hw h1 h2 g q => by
  unfold neD at g
  split at g
  · rename_i ok
    cases g
    exact ⟨W, P, d, e, hs, h1, h2, ok, q.val hs hw (.bl _)⟩
  · cases g
/-! ### places -/
def atD {α : Type} (xs : List α) (i : Int) : Option α := (ixN xs.length i).bind fun j => xs[j]?
def ixD : D → D → Option D
  | .list xs, .int i => atD xs i
  | .tuple xs, .int i => atD xs i
  | .str x, .int i => if x.length ≤ LIM then (atD x.cps.toList i).map fun c => .str ⟨#[c]⟩ else none
  | _, _ => none
theorem HdAll.at {P : Hp} {vs : List V} {ds : List D} {i : Int} {d : D} (h : HdAll K P vs ds) (e : atD ds i = some d) : ∃ v, atI vs i = some v ∧ Hd K P v d := by
  obtain ⟨j, hj, hd⟩ := Option.bind_eq_some_iff.mp e
  obtain ⟨v, hv, hvd⟩ := h.get hd
  refine ⟨v, ?_, hvd⟩
  unfold atI
  rw [h.length, hj]
  exact hv
theorem o2_ix : Op2 K (rIx K) ixD := fun W x y H P n d e z Q hs hw h1 h2 g q => by
  unfold ixD at g
  split at g
  · obtain ⟨a, vs, rfl, ha, hva⟩ := hw_list hs h1
    obtain ⟨v, hv, hvd⟩ := hva.at g
    rw [hw_int h2]
    exact .inl ⟨a, vs, _, v, rfl, rfl, ha, hv, q.val hs hw hvd⟩
  · obtain ⟨a, vs, rfl, ha, hva⟩ := hw_tup hs h1
    obtain ⟨v, hv, hvd⟩ := hva.at g
    rw [hw_int h2]
    exact .inr (.inl ⟨a, vs, _, v, rfl, rfl, ha, hv, q.val hs hw hvd⟩)
  · split at g
    · rename_i hl
      obtain ⟨c, hc, e⟩ := Option.map_eq_some_iff.mp g
      subst e
      rw [hw_str h1, hw_int h2]
      exact .inr (.inr ⟨_, _, c, rfl, rfl, lim_le hl, hc, q.val hs hw (.str _)⟩)
    · cases g
  · cases g
/-! ### slices -/
def cutD {α : Type} (xs : List α) (lo hi : Option Int) : List α := (xs.drop (HT.sIx xs.length 0 lo)).take (HT.sIx xs.length xs.length hi - HT.sIx xs.length 0 lo)
def sliceD (lo hi : Option Int) : D → Option D
  | .list xs => some (.list (cutD xs lo hi))
  | .tuple xs => some (.tuple (cutD xs lo hi))
  | .str x => if x.length ≤ LIM then some (.str (cutS x lo hi)) else none
  | _ => none
theorem HdAll.cut {P : Hp} {vs : List V} {ds : List D} (h : HdAll K P vs ds) (lo hi : Option Int) : HdAll K P (cutV vs lo hi) (cutD ds lo hi) := by
  unfold cutV cutD
  rw [h.length]
  exact (h.drop _).take _
theorem cutD_whole {α : Type} {xs : List α} {lo hi : Option Int} (h : HT.sIx xs.length 0 lo = 0 ∧ HT.sIx xs.length xs.length hi = xs.length) : cutD xs lo hi = xs := by
  unfold cutD
  rw [h.1, h.2]
  simp
def rSlD (K : PySem.W.Frag) : V → Option Int → Option Int → Hp → VK → Prop := fun x lo hi H Q => rSlL K x lo hi H Q ∨ (rSlA K x lo hi H Q ∨ rSlS x lo hi H Q)
theorem sl_all {X : Cx} : SlR X (rSlD X.K) := sl_list.or (sl_tupA.or sl_str)
theorem o_sl : ∀ (W : Wp) (x : V) (lo hi : Option Int) (H P : Hp) (n : Nat) (d z : D) (Q : VK), PLe P H → World K W P H n → Hw K W P H x d → sliceD lo hi d = some z → Post K W P H n z Q → rSlD K x lo hi H Q := fun W x lo hi H P n d z Q hs hw h1 g q => by
  unfold sliceD at g
  split at g
  · cases g
    obtain ⟨a, vs, rfl, ha, hva⟩ := hw_list hs h1
    exact .inl ⟨a, vs, rfl, ha, fun p hp => q.lst hs hw hp (hva.cut lo hi)⟩
  · cases g
    obtain ⟨a, vs, e, ha, hva⟩ := hw_tup hs h1
    subst e
    refine .inr (.inl ⟨a, vs, rfl, ha, fun wh => ?_, fun _ p hp => q.tup hs hw hp (hva.cut lo hi)⟩)
    rw [hva.length] at wh
    rw [cutD_whole wh] at q
    cases h1 with
    | hd h1 => exact q.val hs hw h1
    | ct _ c => cases c
  · split at g
    · rename_i hl
      cases g
      rw [hw_str h1]
      exact .inr (.inr ⟨_, rfl, lim_le hl, q.val hs hw (.str _)⟩)
    · cases g
  · cases g
end
abbrev PM := Loc → Nat → Option (Option Int × Nat)
def pNone : PM := fun _ n => some (none, n)
def pSome (f : EM) : PM := fun loc n => match f loc n with
  | some (.int i, n') => some (some i, n')
  | _ => none
def tP (R : Rt) (f : PM) : TO := fun σ H Q => ∃ P loc n o n', Rep R P loc n σ H ∧ f loc n = some (o, n') ∧ ∀ P' H', Stp R.K R.W P H P' H' n' → Q o H'
def eSlice (f : EM) (lo hi : PM) : EM := fun loc n => (f loc n).bind fun p => (lo loc p.2).bind fun q => (hi loc q.2).bind fun r => (sliceD q.1 r.1 p.1).map fun z => (z, r.2)
section
variable {X : Cx} {R : Rt} {e : Expr} {lo hi : Option Expr} {f : EM} {fl fh : PM} {pos p2 : Pos}
theorem dpo_none : PO X none (tP R pNone) := ⟨fun pins s σ H Q I ⟨P, loc, n, o, n', rp, e, q⟩ => by
  cases e
  exact (po_none (X := X)).run pins s σ H Q I (q P H (Stp.refl rp.sub rp.wd))⟩
theorem dpo_some (h : PE X e (tW R f)) : PO X (some e) (tP R (pSome f)) := ⟨fun pins s σ H Q I ⟨P, loc, n, o, n', rp, e, q⟩ => (po_some h).run pins s σ H Q I (by
  unfold pSome at e
  split at e
  · rename_i i n1 h1
    cases e
    exact ⟨P, loc, n, _, n', rp, h1, fun v P1 H1 s1 hv => ⟨i, hw_int hv, q P1 H1 s1⟩⟩
  · cases e)⟩
theorem dg_slice (hK : X.K = R.K) (he : PE X e (tW R f)) (hl : PO X lo (tP R fl)) (hu : PO X hi (tP R fh)) : PE X (.Subscript e (.Slice lo hi none p2) pos) (tG R (eSlice f fl fh)) := pe_sub (pe_slice sl_all he hl hu) fun σ H Q ⟨P, loc, n, z, n', rp, e, q⟩ => by
  obtain ⟨⟨d, n1⟩, e1, e⟩ := Option.bind_eq_some_iff.mp e
  obtain ⟨⟨l, n2⟩, e2, e⟩ := Option.bind_eq_some_iff.mp e
  obtain ⟨⟨u, n3⟩, e3, e⟩ := Option.bind_eq_some_iff.mp e
  obtain ⟨w, e4, e⟩ := Option.map_eq_some_iff.mp e
  cases e
  refine ⟨P, loc, n, d, n1, rp, e1, fun v P1 H1 s1 hv => ⟨P1, loc, n1, l, n2, rp.step s1, e2, fun P2 H2 s2 => ⟨P2, loc, n2, u, n3, (rp.step s1).step s2, e3, fun P3 H3 s3 => ?_⟩⟩⟩
  have s := (s1.trans rp.wd s2).trans rp.wd s3
  rw [hK]
  exact o_sl R.W v l u H3 P3 n3 d z Q s3.sub s3.wd ((hv.step s2).step s3) e4 fun y P4 H4 s4 hy => q y P4 H4 (s.trans rp.wd s4) (gv_back rp.wd s hy)
end
end Pd
namespace Pd
open PySem L2 PySem.Spec PyProof.Rows

/-! ### sets of keys (whole numbers, texts): made of a list or tuple, sorted, counted -/
def kk (e : Int × Value) : Key := match e.2 with
  | .int k _ => .inl k
  | .str x _ => .inr x
  | _ => .inl 0
def GoodK (w : PySem.World) (e : Int × Value) : Prop := ∃ k, keyIs k e.2 = true ∧ e.1 = keyH w k
theorem kk_is {e : Int × Value} {k : Key} (h : keyIs k e.2 = true) : kk e = k := by
  obtain ⟨i, v⟩ := e
  rcases keyIs_shape h with ⟨i, t, e1, e2⟩ | ⟨x, t, e1, e2⟩
  · simp only at e2; subst e1; subst e2; rfl
  · simp only at e2; subst e1; subst e2; rfl
theorem GoodK.is {w : PySem.World} {e : Int × Value} (g : GoodK w e) (k : Key) : keyIs k e.2 = true ↔ kk e = k := by
  obtain ⟨k0, h, _⟩ := g
  constructor
  · exact kk_is
  · intro q
    rw [← q, kk_is h]; exact h
theorem scan_is {k : Key} {v : Value} (h : keyIs k v = true) : v.scannable = true := by
  rcases keyIs_shape h with ⟨i, t, e1, e2⟩ | ⟨x, t, e1, e2⟩ <;> subst e2 <;> rfl
/-- the set at a holds the keys ks (perhaps told more than once) -/
def SetQ (w : PySem.World) (h : Heap) (a : Addr) (ks : List Key) : Prop :=
  ∃ o es ep t, h.get? a = some o ∧ o.ExactSet ∧ o.data = .set es ep t ∧ (∀ e ∈ es.toList, GoodK w e) ∧ (es.toList.map kk).Nodup ∧ (∀ k, k ∈ ks ↔ k ∈ es.toList.map kk) ∧
    es.size < scanBound ∧ es.size ≤ ks.length ∧ t.fits es.size = true ∧ Ris t.place.toList ∧ (w.params.followText "set-order" = true ∨ t.led = true)
section
variable {P : Program} {w : PySem.World} {h h' : Heap} {a : Addr} {ks : List Key}
theorem SetQ.at (R : SetQ w h a ks) (k : ∀ o, h.get? a = some o → h'.get? a = some o) : SetQ w h' a ks := by
  obtain ⟨o, es, ep, t, ho, r⟩ := R
  exact ⟨o, es, ep, t, k o ho, r⟩
theorem goodK_elems {l : List (Int × Value)} (g : ∀ e ∈ l, GoodK w e) : ElemsOf (mixKind P w) l := fun e he => by
  obtain ⟨k, h1, h2⟩ := g e he
  exact ⟨⟨k, h1, h2⟩, scan_is h1⟩
theorem goodK_mem {l : List (Int × Value)} (g : ∀ e ∈ l, GoodK w e) (k : Key) : k ∈ l.map kk ↔ ∃ e ∈ l, keyIs k e.2 = true := by
  rw [List.mem_map]
  constructor
  · rintro ⟨e, he, q⟩
    exact ⟨e, he, ((g e he).is k).2 q⟩
  · rintro ⟨e, he, q⟩
    exact ⟨e, he, ((g e he).is k).1 q⟩
end
section
variable {P : Program} {w : PySem.World} {A : Around} {E : Value → Shared → Prop} {s : Shared} {a : Addr} {ks : List Key}
theorem setQ_add_tail {g : Bool → Sem Unit} (hg : ∀ (b : Bool) (s₁ : Shared) (Q' : Unit → Shared → Prop), Q' () s₁ → wpAny (model P w) A (g b) Q' E s₁)
    {o : Obj} {es : Array (Int × Value)} {ep : Nat} {t : SetTable} (ho : s.heap.get? a = some o) (hex : o.ExactSet) (hd : o.data = .set es ep t)
    {es1 : Array (Int × Value)} {t2 : SetTable} {ks' : List Key} (g1 : ∀ e ∈ es1.toList, GoodK w e) (nd1 : (es1.toList.map kk).Nodup) (m1 : ∀ k, k ∈ ks' ↔ k ∈ es1.toList.map kk)
    (hb1 : es1.size < scanBound) (hk1 : es1.size ≤ ks'.length) (hf2 : t2.fits es1.size = true) (hr : Ris t2.place.toList) (hl : w.params.followText "set-order" = true ∨ t2.led = true) {wasDummy : Bool} {R : Option Bool → Shared → Prop}
    (hR : ∀ h', Heap.SameBut a s.heap h' → SetQ w h' a ks' → R (some true) { s with heap := h' }) :
    wpAny (model P w) A (do
        storeSet a es1 t2
        if (!wasDummy && t2.tooFull) = true then do
            g (relayAll t2 es1 (SetTable.grown es1.size)).2.2
            storeSet a (relayAll t2 es1 (SetTable.grown es1.size)).1 (relayAll t2 es1 (SetTable.grown es1.size)).2.1
            pure (some true)
          else pure (some true)) R E s := by
  refine wpAny_bind (wpAny_storeSet_of ho hd ?_ (fits_of_scanBound hb1))
  have ho1 := store_at (es' := es1) (t' := t2) ho hd
  have sb1 := Heap.SameBut.update s.heap a (Obj.putSet es1 t2)
  split
  · have pm := relayAll_perm t2 es1 (SetTable.grown es1.size)
    have hf3 := relayAll_fits t2 es1 (SetTable.grown es1.size)
    have hr3 := relayAll_ris t2 es1 (SetTable.grown es1.size)
    have hl3 := relayAll_led t2 es1 (SetTable.grown es1.size)
    generalize relayAll t2 es1 (SetTable.grown es1.size) = Z at pm hf3 hr3 hl3 ⊢
    obtain ⟨es2, t3, gave⟩ := Z
    dsimp only at pm hf3 hr3 hl3 ⊢
    have hsz : es2.size = es1.size := by rw [← Array.length_toList, pm.length_eq, Array.length_toList]
    have hb2 : es2.size < scanBound := by rw [hsz]; exact hb1
    refine wpAny_bind (hg _ _ _ ?_)
    refine wpAny_bind (wpAny_storeSet_of ho1 rfl ?_ (fits_of_scanBound hb2))
    have ho2 := store_at (es' := es2) (t' := t3) ho1 rfl
    refine wpAny_pure (hR _ (sb1.trans (Heap.SameBut.update _ a _)) ?_)
    exact ⟨_, es2, _, t3, ho2, hex, rfl, fun e he => g1 e (pm.mem_iff.mp he), (pm.map kk).nodup_iff.mpr nd1, fun k => (m1 k).trans (pm.map kk).mem_iff.symm, hb2, by rw [hsz]; exact hk1, hf3, hr3,
      hl.imp id fun z => by rw [hl3]; exact z⟩
  · exact wpAny_pure (hR _ sb1 ⟨_, es1, _, t2, ho1, hex, rfl, g1, nd1, m1, hb1, hk1, hf2, hr, hl⟩)
theorem setQ_add_hashed {k : Key} {v : Value} {Q : Bool → Shared → Prop} (hkv : keyIs k v = true) (R : SetQ w s.heap a ks) (room : ks.length + 1 < scanBound)
    (hQ : ∀ b h', Heap.SameBut a s.heap h' → SetQ w h' a (ks ++ [k]) → Q b { s with heap := h' }) :
    wpAny (model P w) A (setAddHashed a v ((mixKind P w).hash k)) Q E s := by
  obtain ⟨o, es, ep, t, ho, hex, hd, g, nd, hm, hb, hn, hf, hr, hl⟩ := R
  have hkey : (mixKind P w).is k v = true := hkv
  have hsc : v.scannable = true := scan_is hkv
  have hel : ElemsOf (mixKind P w) es.toList := goodK_elems g
  unfold setAddHashed setAddHashedIn
  refine wpAny_holding (wpAny_bind (wpAny_setState_of ho hd hf ?_))
  dsimp only
  rw [byScan_of hsc hb hel]
  simp only [↓reduceIte]
  unfold setAddByScan
  refine wpAny_bind ?_
  refine wpAny_bind (wpAny_rule ?_)
  refine wpAny_bind (wpAny_setScan_of hkey ho hd hf hel ?_)
  cases hfi : List.findIdx? (fun e => (mixKind P w).is k e.2) es.toList with
  | some j =>
    dsimp only
    obtain ⟨hj, pj, _⟩ := List.findIdx?_eq_some_iff_getElem.mp hfi
    have hSk : k ∈ es.toList.map kk := (goodK_mem g k).2 ⟨es.toList[j], List.getElem_mem hj, pj⟩
    refine wpAny_pure (wpAny_pure ?_)
    exact hQ _ s.heap (Heap.SameBut.refl a s.heap) ⟨o, es, ep, t, ho, hex, hd, g, nd, fun i => by
      rw [List.mem_append, List.mem_singleton, hm i]
      exact ⟨fun z => z.elim id (fun e => e ▸ hSk), .inl⟩, hb, by rw [List.length_append]; omega, hf, hr, hl⟩
  | none =>
    dsimp only
    have hnk : k ∉ es.toList.map kk := fun z => by
      obtain ⟨e, he, q⟩ := (goodK_mem g k).1 z
      have c := List.findIdx?_eq_none_iff.mp hfi e he
      have q' : (mixKind P w).is k e.2 = true := q
      rw [q'] at c
      cases c
    have hgw : ∀ (b : Bool) {s₁ : Shared} {Q' : Unit → Shared → Prop}, Q' () s₁ → wpAny (model P w) A (match b with | true => rule "set.scan.the-table-gave-way" | false => pure ()) Q' E s₁ :=
      fun b s₁ Q' q => by cases b <;> first | exact wpAny_pure q | exact wpAny_rule q
    have pm := layNew_perm t es ((mixKind P w).hash k) v
    have hf1 := layNew_fits t es ((mixKind P w).hash k) v
    have hr1 := layNew_ris t es ((mixKind P w).hash k) v hr
    have hl1 := layNew_led t es ((mixKind P w).hash k) v
    generalize layNew t es ((mixKind P w).hash k) v = Z at pm hf1 hr1 hl1 ⊢
    obtain ⟨es1, t1, wasDummy, gave⟩ := Z
    dsimp only at pm hf1 hr1 hl1 ⊢
    rw [Array.toList_push] at pm
    have pc : es1.toList.Perm (((mixKind P w).hash k, v) :: es.toList) := pm.trans (List.perm_append_singleton _ _)
    have pk : (es1.toList.map kk).Perm (k :: es.toList.map kk) := by
      have q := pc.map kk
      rw [List.map_cons, kk_is (e := ((mixKind P w).hash k, v)) hkv] at q
      exact q
    have g1 : ∀ e ∈ es1.toList, GoodK w e := fun e he => by
      rcases List.mem_cons.mp (pc.mem_iff.mp he) with z | z
      · rw [z]; exact ⟨k, hkv, rfl⟩
      · exact g e z
    have nd1 : (es1.toList.map kk).Nodup := pk.nodup_iff.mpr (List.nodup_cons.mpr ⟨hnk, nd⟩)
    have m1 : ∀ i, i ∈ ks ++ [k] ↔ i ∈ es1.toList.map kk := fun i => by
      rw [List.mem_append, List.mem_singleton, hm i, pk.mem_iff, List.mem_cons]
      exact Or.comm
    have hsz : es1.size = es.size + 1 := by rw [← Array.length_toList, pc.length_eq, List.length_cons, Array.length_toList]
    have hk1 : es1.size ≤ (ks ++ [k]).length := by rw [List.length_append, List.length_singleton]; omega
    have hb1 : es1.size < scanBound := by omega
    have hled : w.params.followText "set-order" = true ∨ t1.led = true := hl.imp id fun z => by rw [hl1]; exact z
    refine wpAny_bind (hgw _ ?_)
    split
    · refine wpAny_bind ?_
      rw [hashByValue_scannable 8 hsc]
      refine wpAny_pure ?_
      refine setQ_add_tail ?_ ho hex hd g1 nd1 m1 hb1 hk1 ?_ ?_ ?_ ?_
      · intro b s₁ Q' q; cases b <;> first | exact wpAny_pure q | exact wpAny_rule q
      · first | (split <;> first | exact hf1 | exact SetTable.fits_plain_off hf1) | exact hf1
      · first | (split <;> exact hr1) | exact hr1
      · first | (split <;> exact hled) | exact hled
      · intro h' sb r; dsimp only; exact wpAny_pure (hQ _ h' sb r)
    · refine wpAny_bind (wpAny_pure ?_)
      simp only [↓reduceIte]
      refine setQ_add_tail ?_ ho hex hd g1 nd1 m1 hb1 hk1 hf1 hr1 hled ?_
      · intro b s₁ Q' q; cases b <;> first | exact wpAny_pure q | exact wpAny_rule q
      · intro h' sb r; dsimp only; exact wpAny_pure (hQ _ h' sb r)
theorem setQ_new_at {h : Heap} {a : Addr} (ho : h.get? a = some { cls := .type "set", dict := none, data := .set #[] 0 (.fresh 0 0 (!w.params.followText "set-order")) }) : SetQ w h a [] :=
  ⟨_, #[], 0, _, ho, ⟨rfl, rfl, rfl⟩, rfl, (fun e he => by simp at he), (by simp), (fun k => by simp), (by decide), (by simp), (by rfl), List.Pairwise.nil, by
    show _ ∨ (!w.params.followText "set-order") = true
    cases w.params.followText "set-order"
    · exact .inr rfl
    · exact .inl rfl⟩
theorem set_updateQ {I : Addr} {fp wr : List Addr} {G : Array GenState → Array GenState → Prop} {n : Nat} {Pv : Nat → Value → Prop} {St : Nat → Shared → Prop} {R : Result → Shared → Prop}
    (W : WalksS P w A.in1 I fp wr G n Pv St) (S : Addr) (hSf : S ∉ fp) (ks : List Key) (hn : n = ks.length) (hb : ks.length + 1 < scanBound) (hval : ∀ i v, Pv i v → ∃ k, ks[i]? = some k ∧ keyIs k v = true) :
    ∀ (k i : Nat) (s : Shared), n - i = k → i ≤ n → St i s → SetQ w s.heap S (ks.take i) →
      (∀ s', Moved (S :: wr) G s s' → SetQ w s'.heap S ks → R (.ok (.ret .none)) s') →
      codeAny (model P w) A (.builtin "set.update.loop" ⟨[.ref S, .ref I], []⟩) R s := by
  have hSw : S ∉ wr := fun h => hSf (W.sub _ h)
  have hsub : ∀ b ∈ wr, b ∈ S :: wr := fun b hb => List.mem_cons_of_mem _ hb
  intro k
  induction k with
  | zero =>
    intro i s hk' hi hst hS hR
    have hin : i = n := by omega
    subst hin
    refine codeAny_builtin F.entry_set_update_loop ?_
    rw [Around.under_plainId F.plain_set_update_loop _]
    show wpAny _ A.in1 (pyNext (.ref I) >>= _) _ _ s
    refine wpAny_bind (W.done s _ _ hst fun s' hm => ?_)
    show wpAny _ A.in1 (ret Value.none) _ _ s'
    have e : ks.take i = ks := List.take_of_length_le (by omega)
    rw [e] at hS
    exact wpAny_pure (hR s' (hm.mono hsub) (hS.at fun o e => hm.heap S o hSw e))
  | succ k ih =>
    intro i s hk' hi hst hS hR
    have hlt : i < n := by omega
    refine codeAny_builtin F.entry_set_update_loop ?_
    rw [Around.under_plainId F.plain_set_update_loop _]
    show wpAny _ A.in1 (pyNext (.ref I) >>= _) _ _ s
    refine wpAny_bind (W.item i s _ _ hlt hst fun v s' hP hst' hm => ?_)
    obtain ⟨z, hz, hzv⟩ := hval i v hP
    have hS' : SetQ w s'.heap S (ks.take i) := hS.at fun o e => hm.heap S o hSw e
    show wpAny _ A.in1 (holding [v] (setAdd S v) >>= _) _ _ s'
    refine wpAny_bind (wpAny_holding ?_)
    unfold setAdd
    refine wpAny_holding ?_
    refine wpAny_bind ((mixKind P w).pyHash (k := z) hzv ?_)
    refine setQ_add_hashed (s := { s' with toks := s'.toks + 1 }) hzv hS' (by rw [List.length_take]; omega) fun b h' hsb hS2 => ?_
    have hS3 : SetQ w h' S (ks.take (i + 1)) := by
      rw [List.take_add_one, hz]; exact hS2
    refine wpAny_pure ⟨plainId_quiet F.plain_set_update_loop _, ih (i + 1) _ (by omega) hlt (W.frame _ s' _ _ hst' (Nat.le_succ _) fun b hb o e => ?_) hS3 fun s'' hm'' hS'' => ?_⟩
    · rw [hsb.2 b (fun h : b = S => hSf (by rw [← h]; exact hb))]; exact e
    · refine hR s'' (Moved.trans W.gtrans ((hm.mono hsub).then_heap (Nat.le_succ _) fun b o hb e => ?_) hm'') hS''
      rw [hsb.2 b (fun h : b = S => hb (by rw [h]; exact List.mem_cons_self))]; exact e
/-- set(x) of a list or a tuple of keys -/
theorem call_setQ {l : Addr} {items : Array Value} (ks : List Key) {Q : Value → Shared → Prop} (hh : A.handled = none) (hl : s.heap.IsList l items ∨ s.heap.IsTuple l items) (hit : Vals (ks.map kV) items.toList) (hb : ks.length + 1 < scanBound)
    (h : ∀ (h' : Heap) (tk : Nat), SetQ w h' s.heap.objs.size ks → (∀ b o, s.heap.get? b = some o → h'.get? b = some o) → Q (.ref s.heap.objs.size) { s with heap := h', toks := tk }) :
    wpAny (model P w) A (call (.type "set") [.ref l]) Q E s := by
  have hisz : items.size = ks.length := by
    have q := hit.length
    rw [List.length_map, Array.length_toList] at q
    exact q.symm
  obtain ⟨c, tl, hmro⟩ := F.called_set.mro
  have hmade := F.called_set.made
  have hsub := F.called_set.sub
  refine wpAny_call (codeAny_of_tree ?_)
  show wpAny _ _ (callAny (.type "set") _) _ _ _
  refine wpAny_pure ⟨Code.quiet_builtin _ (by decide +kernel), codeAny_builtin F.entry_type_call ?_⟩
  rw [Around.under_plain (weight_type_call_type "set" [.ref l] []) rfl]
  have h1 := F.called_set.notType
  have h2 := F.called_set.canCreate
  have hct := F.typeCall_set_1 (.ref l)
  repeat (any_goals (first | assumption | wp_step))
  refine codeAny_mono (code_set_led1 (.ref l) (E := E) (Q₁ := fun obj s₁ => obj = .ref s.heap.objs.size ∧ s₁ = { s with heap := s.heap.push { cls := .type "set", dict := none, data := .set #[] 0 (.fresh 0 0 (!w.params.followText "set-order")) } }) ⟨rfl, rfl⟩) fun r s₁ hr => ?_
  cases r with
  | error e => exact hr
  | ok fl =>
    cases fl with
    | ret obj =>
      obtain ⟨rfl, rfl⟩ := hr
      have hS : (s.heap.push { cls := .type "set", dict := none, data := .set #[] 0 (.fresh 0 0 (!w.params.followText "set-order")) }).get? s.heap.objs.size = some { cls := .type "set", dict := none, data := .set #[] 0 (.fresh 0 0 (!w.params.followText "set-order")) } := Heap.get?_push_size _ rfl
      have hT : Shared.TypeIs { s with heap := s.heap.push { cls := .type "set", dict := none, data := .set #[] 0 (.fresh 0 0 (!w.params.followText "set-order")) } } (.ref s.heap.objs.size) "set" := ⟨_, hS, rfl⟩
      have hli := F.called_set.init.lookup
      have hbi := F.called_set.init.bind (.ref s.heap.objs.size)
      repeat (any_goals (first | assumption | wp_step))
      refine codeAny_mono (codeAny_call_builtin (R := wants (fun r s₂ => r = .none ∧ ∃ h' tk, s₂ = { s with heap := h', toks := tk } ∧ SetQ w h' s.heap.objs.size ks ∧
          (∀ b o, s.heap.get? b = some o → h'.get? b = some o)) E) F.called_set.init.plain F.entry_set_init (check_set_init_1 hT ?_)) fun r₂ s₂ hr₂ => ?_
      · have hval : ∀ (i : Nat) (v : Value), items[i]? = some v → ∃ k, ks[i]? = some k ∧ keyIs k v = true := fun i v hv => by
          have hi : i < ks.length := by rw [← hisz]; exact (Array.getElem?_eq_some_iff.mp hv).1
          have hv' : items.toList[i]? = some v := by rw [Array.getElem?_toList]; exact hv
          obtain ⟨u, hu, ru⟩ := hit.get (i := i) (x := kV ks[i]) (by rw [List.getElem?_map, List.getElem?_eq_getElem hi]; rfl)
          rw [hv'] at hu
          cases hu
          exact ⟨ks[i], List.getElem?_eq_getElem hi, kV_is (P := P) (w := w) ru⟩
        rcases hl with hl | hl
        · obtain ⟨ol, hol, hcl, nl, hdl⟩ := id hl
          obtain ⟨ocls, odict, odata, oslots⟩ := ol
          simp only at hcl hdl
          subst hcl; subst hdl
          have hol' : (s.heap.push { cls := .type "set", dict := none, data := .set #[] 0 (.fresh 0 0 (!w.params.followText "set-order")) }).get? l = some { cls := .type "list", dict := odict, data := .seq items nl, slots := oslots } := Heap.get?_push_of_some _ hol
          have hsls := F.sub_list_set
          have hslf := F.sub_list_frozenset
          have hne : (Value.type "list" == Value.type "dict") = false := by decide
          have hl1 : (s.heap.push { cls := .type "set", dict := none, data := .set #[] 0 (.fresh 0 0 (!w.params.followText "set-order")) }).IsList l items := ⟨_, hol', rfl, nl, rfl⟩
          unfold Builtin.«set.__init__» noKeywords Builtin.Frozenset.updateFrom
          generalize hPI : pyIter = PI
          wp_walk
          subst hPI
          refine wpAny_pyIter_list hl1 ?_
          refine wpAny_bind (wpAny_runValue ?_)
          have hlS : l < s.heap.objs.size := Heap.lt_size hol
          have hh3 : A.in1.in1.in1.handled = none := by simp [hh]
          have hneI : l ≠ (s.heap.push { cls := .type "set", dict := none, data := .set #[] 0 (.fresh 0 0 (!w.params.followText "set-order")) }).objs.size := by
            rw [Heap.size_push]; exact Nat.ne_of_lt (Nat.lt_succ_of_lt hlS)
          have hSf : s.heap.objs.size ∉ [(s.heap.push { cls := .type "set", dict := none, data := .set #[] 0 (.fresh 0 0 (!w.params.followText "set-order")) }).objs.size, l] := by
            rw [Heap.size_push]; simp only [List.mem_cons, List.mem_singleton, List.not_mem_nil, or_false, not_or]
            exact ⟨Nat.ne_of_lt (Nat.lt_succ_self _), Nat.ne_of_gt hlS⟩
          refine set_updateQ ((Walks.list hh3 _ l hneI items).toS) s.heap.objs.size
            hSf ks hisz hb hval (items.size - 0) 0 _ (by omega) (Nat.zero_le _)
            ⟨⟨_, Heap.get?_push_size _ rfl, rfl, rfl⟩, (hl1.push _)⟩ ?hS0 ?hR
          case hS0 => exact setQ_new_at (Heap.get?_push_of_some _ hS)
          case hR =>
            intro s' hm hS'
            obtain ⟨h', g2, d', tk', os'⟩ := s'
            have eg : g2 = s.gens := hm.gens
            have ed : d' = s.drawn := hm.drawn
            have eo : os' = s.os := hm.os
            subst eg; subst ed; subst eo
            show wpAny _ _ _ _ _ _
            refine wpAny_pure ?_
            show wpAny _ _ (ret Value.none) _ _ _
            refine wpAny_pure ⟨rfl, h', tk', rfl, hS', fun b o e => ?_⟩
            have hb0 : b < s.heap.objs.size := Heap.lt_size e
            have hb1 : b ≠ s.heap.objs.size := Nat.ne_of_lt hb0
            have hb2 : b ≠ (s.heap.push { cls := .type "set", dict := none, data := .set #[] 0 (.fresh 0 0 (!w.params.followText "set-order")) }).objs.size := by
              rw [Heap.size_push]; exact Nat.ne_of_lt (Nat.lt_succ_of_lt hb0)
            exact hm.heap b o (by simp only [List.mem_cons, List.mem_singleton, List.not_mem_nil, or_false, not_or]; exact ⟨hb1, hb2⟩) (Heap.get?_push_of_some _ (Heap.get?_push_of_some _ e))
        · obtain ⟨ol, hol, hcl, nl, hdl⟩ := id hl
          obtain ⟨ocls, odict, odata, oslots⟩ := ol
          simp only at hcl hdl
          subst hcl; subst hdl
          have hol' : (s.heap.push { cls := .type "set", dict := none, data := .set #[] 0 (.fresh 0 0 (!w.params.followText "set-order")) }).get? l = some { cls := .type "tuple", dict := odict, data := .seq items nl, slots := oslots } := Heap.get?_push_of_some _ hol
          have hsls := F.sub_tuple_set
          have hslf := F.sub_tuple_frozenset
          have hne : (Value.type "tuple" == Value.type "dict") = false := by decide
          have hl1 : (s.heap.push { cls := .type "set", dict := none, data := .set #[] 0 (.fresh 0 0 (!w.params.followText "set-order")) }).IsTuple l items := ⟨_, hol', rfl, nl, rfl⟩
          unfold Builtin.«set.__init__» noKeywords Builtin.Frozenset.updateFrom
          generalize hPI : pyIter = PI
          wp_walk
          subst hPI
          refine wpAny_pyIter_tuple hl1 ?_
          refine wpAny_bind (wpAny_runValue ?_)
          have hlS : l < s.heap.objs.size := Heap.lt_size hol
          have hh3 : A.in1.in1.in1.handled = none := by simp [hh]
          have hneI : l ≠ (s.heap.push { cls := .type "set", dict := none, data := .set #[] 0 (.fresh 0 0 (!w.params.followText "set-order")) }).objs.size := by
            rw [Heap.size_push]; exact Nat.ne_of_lt (Nat.lt_succ_of_lt hlS)
          have hSf : s.heap.objs.size ∉ [(s.heap.push { cls := .type "set", dict := none, data := .set #[] 0 (.fresh 0 0 (!w.params.followText "set-order")) }).objs.size, l] := by
            rw [Heap.size_push]; simp only [List.mem_cons, List.mem_singleton, List.not_mem_nil, or_false, not_or]
            exact ⟨Nat.ne_of_lt (Nat.lt_succ_self _), Nat.ne_of_gt hlS⟩
          refine set_updateQ ((Walks.tuple hh3 _ l hneI items).toS) s.heap.objs.size
            hSf ks hisz hb hval (items.size - 0) 0 _ (by omega) (Nat.zero_le _)
            ⟨⟨_, Heap.get?_push_size _ rfl, rfl, rfl⟩, (hl1.push _)⟩ ?hS0 ?hR
          case hS0 => exact setQ_new_at (Heap.get?_push_of_some _ hS)
          case hR =>
            intro s' hm hS'
            obtain ⟨h', g2, d', tk', os'⟩ := s'
            have eg : g2 = s.gens := hm.gens
            have ed : d' = s.drawn := hm.drawn
            have eo : os' = s.os := hm.os
            subst eg; subst ed; subst eo
            show wpAny _ _ _ _ _ _
            refine wpAny_pure ?_
            show wpAny _ _ (ret Value.none) _ _ _
            refine wpAny_pure ⟨rfl, h', tk', rfl, hS', fun b o e => ?_⟩
            have hb0 : b < s.heap.objs.size := Heap.lt_size e
            have hb1 : b ≠ s.heap.objs.size := Nat.ne_of_lt hb0
            have hb2 : b ≠ (s.heap.push { cls := .type "set", dict := none, data := .set #[] 0 (.fresh 0 0 (!w.params.followText "set-order")) }).objs.size := by
              rw [Heap.size_push]; exact Nat.ne_of_lt (Nat.lt_succ_of_lt hb0)
            exact hm.heap b o (by simp only [List.mem_cons, List.mem_singleton, List.not_mem_nil, or_false, not_or]; exact ⟨hb1, hb2⟩) (Heap.get?_push_of_some _ (Heap.get?_push_of_some _ e))
      · cases r₂ with
        | error e => exact hr₂
        | ok fl₂ =>
          cases fl₂ with
          | ret r =>
            obtain ⟨rfl, h', tk, rfl, hS', hk'⟩ := hr₂
            repeat (any_goals (first | assumption | wp_step))
            exact h _ _ hS' hk'
          | _ => exact hr₂.elim
    | _ => exact hr.elim
end
end Pd
namespace Pd
open PySem L2 PySem.Spec PyProof.Rows PySem.W

section
variable {P : Program} {w : PySem.World} {A : Around} {E : Value → Shared → Prop} {s : Shared}
/-- sorted(u), where it is known what u collects to -/
theorem sorted_gen {u : Value} {β : Type} {enc : β → PyData} {R : Value → β → Prop} {C : List β → Prop} {Q : Value → Shared → Prop}
    (hcol : ∀ (Q' : List Value → Shared → Prop) (E' : Value → Shared → Prop), (∀ s1 vs bs, C bs → (∀ b o, s.heap.get? b = some o → s1.heap.get? b = some o) → s1.gens = s.gens → s1.os = s.os → EachIs R vs bs → EachIs (fun v b => ∃ as, Reads s1.heap v (enc b) as) vs bs → Q' vs s1) → wpAny (model P w) A.in1 (collect u) Q' E' s)
    (hC : ∀ bs, C bs → AllAlike (bs.map enc) ∧ Sortable (bs.map enc) ∧ bs.length ≤ sizeLine ∧ ∀ b ∈ bs, A.units + 5 + (enc b).depth < cLine)
    (hQ : ∀ s' p (out : List Value) c bs, C bs → (∀ b o, s.heap.get? b = some o → s'.heap.get? b = some o) → s'.gens = s.gens → s'.os = s.os → (∃ h1 : Heap, h1.objs.size = p ∧ ∀ b o, s.heap.get? b = some o → h1.get? b = some o) → s'.heap.get? p = some (seqObj "list" out.toArray c) → EachIs R out (bs.mergeSort (dataLe false enc)) → Q (.ref p) s') :
    wpAny (model P w) A (call (.builtin "sorted") [u]) Q E s := by
  refine Calls.call_function_entry kind_sorted plain_sorted entry_sorted (args_sorted1 _) ?_
  unfold Builtin.«sorted»
  refine wpAny_bind (m := checkCount "sorted" 1 1 _) (wpAny_pure ?_)
  refine wpAny_bind (hcol _ _ fun s1 vs bs hc k1 g1 o1 e er => ?_)
  obtain ⟨hal, hk, hL, hu⟩ := hC bs hc
  refine wpAny_bind (wpAny_newList ?_ (by rw [e.length]; exact hL))
  have hoL : (s1.heap.push (seqObj "list" vs.toArray 0)).get? s1.heap.objs.size = some (seqObj "list" vs.toArray 0) := Heap.get?_push_size _ rfl
  have old : ∀ b o, s1.heap.get? b = some o → (sortingHeap (s1.heap.push (seqObj "list" vs.toArray 0)) s1.heap.objs.size vs).get? b = some o := fun b o e =>
    sortingHeap_old (Nat.ne_of_lt (Heap.lt_size e)) (Heap.get?_push_of_some _ e)
  have er' : EachIs (fun v b => ∃ as, Reads (sortingHeap (s1.heap.push (seqObj "list" vs.toArray 0)) s1.heap.objs.size vs) v (enc b) as) vs bs := er.mono fun _ _ ⟨as, r⟩ => ⟨as, PyProof.Rows.Reads.keeps old r⟩
  refine wpAny_bind (wpAny_holding (wpAny_call_entry slot_list_sort ⟨_, hoL, rfl⟩ entry_list_sort (list_sort_vals (κ := dataKind (sortingHeap (s1.heap.push (seqObj "list" vs.toArray 0)) s1.heap.objs.size vs) (bs.map enc)) hoL (SortsAt.data (s := { s1 with heap := sortingHeap (s1.heap.push (seqObj "list" vs.toArray 0)) s1.heap.objs.size vs }) (each_map (R := fun v d => ∃ as, Reads (sortingHeap (s1.heap.push (seqObj "list" vs.toArray 0)) s1.heap.objs.size vs) v d as) enc er') hal hk (bound_map fun b hb => ?_)) (by rw [e.length]; exact hL) ⟨_, rfl, ?_⟩) (args_list_sort _)))
  · have q := hu b hb
    have u1 : A.in1.in1.units = A.units + 2 := rfl
    omega
  · obtain ⟨c, hc'⟩ := sortedHeap_at (vs := vs) (out := (sortVals (dataKind (sortingHeap (s1.heap.push (seqObj "list" vs.toArray 0)) s1.heap.objs.size vs) (bs.map enc)) false vs vs).toArray) hoL
    refine wpAny_pure ⟨_, rfl, hQ _ s1.heap.objs.size _ c bs hc (fun b u e => ?_) g1 o1 ⟨s1.heap, rfl, k1⟩ hc' (sortVals_data false e er' hal)⟩
    have q := k1 b u e
    have hlt := Heap.lt_size q
    show (sortedHeap (s1.heap.push (seqObj "list" vs.toArray 0)) s1.heap.objs.size vs _).get? b = some u
    rw [sortedHeap_old (Nat.ne_of_lt hlt) (by rw [size_push']; exact Nat.lt_succ_of_lt hlt)]
    exact Heap.get?_push_of_some _ q
theorem collect_tup {l : Addr} {vs : List Value} {Q : List Value → Shared → Prop} (hl : s.heap.IsTuple l vs.toArray)
    (h : Q vs { s with heap := (s.heap.push (seqObj "list" #[] 0)).update s.heap.objs.size (Obj.mapSeq (· ++ vs.toArray)) }) (hsz : vs.length ≤ sizeLine) :
    wpAny (model P w) A (collect (.ref l)) Q E s := by
  obtain ⟨o, ho, hc, n, hd⟩ := id hl
  unfold collect
  refine wpAny_bind (wpAny_runValue (codeAny_builtin entry_proto_collect' ?_))
  show wpAny _ _ (do again (.builtin "list.__iadd__" ⟨[← newList [], .ref l], []⟩)) _ _ s
  refine wpAny_bind (wpAny_newList (wpAny_pure ⟨Code.quiet_builtin _ (by decide +kernel), codeAny_builtin entry_list_iadd' ?_⟩))
  show wpAny _ _ (Builtin.List.listExtendWith (.ref s.heap.objs.size) (.ref l) (.ref s.heap.objs.size)) _ _ { s with heap := s.heap.push (seqObj "list" #[] 0) }
  unfold Builtin.List.listExtendWith
  have ho' : (s.heap.push (seqObj "list" #[] 0)).get? l = some o := Heap.get?_push_of_some _ ho
  refine wpAny_bind (wpAny_typeOf (T := "tuple") ⟨o, ho', hc⟩ ?_)
  have ht : (Value.type "tuple" == Value.type "tuple") = true := by rfl
  rw [if_pos (by rw [ht]; simp)]
  refine wpAny_bind (listItems_at ho' hd ?_)
  refine wpAny_bind (listItems_at (xs := #[]) (n := 0) (Heap.get?_push_size _ rfl) rfl ?_)
  rw [if_neg (by simp)]
  refine wpAny_bind (listUpdate_at (xs := #[]) (n := 0) (Heap.get?_push_size _ rfl) rfl ?_ (Nat.zero_le _) (by show (#[] ++ vs.toArray).size ≤ sizeLine + 1; simp only [Array.size_append, List.size_toArray, List.length_nil]; omega))
  refine wpAny_pure ?_
  show wpAny (model P w) A (do
      let o ← load s.heap.objs.size
      match o.data with
      | .seq xs _ => pure xs.toList
      | _ => unsupported "internal:collect") Q E { s with heap := (s.heap.push (seqObj "list" #[] 0)).update s.heap.objs.size (Obj.mapSeq (· ++ vs.toArray)) }
  refine wpAny_bind (wpAny_load (get?_update_seq (Heap.get?_push_size _ rfl) _) ?_)
  show wpAny _ _ (pure ((#[] : Array Value) ++ vs.toArray).toList) Q E _
  rw [show ((#[] : Array Value) ++ vs.toArray).toList = vs by simp]
  exact wpAny_pure h
end

/-! ### what sorting gives -/
def okSort (ds : List D) : Bool := ds.all (fun d => d.plain && decide (d.depth ≤ 40) && ds.all fun e => alike d e) && (ds.all (fun d => match d with
  | .tuple (_ :: _) => true
  | _ => false) || ds.all (fun d => match d with
  | .none => false
  | .tuple _ => false
  | _ => true)) && decide (ds.length ≤ LIM)
def srt (ds : List D) : List D := ds.mergeSort (dataLe false id)
theorem okSort_of {ds : List D} (h : okSort ds = true) : AllAlike ds ∧ Sortable ds ∧ ds.length ≤ LIM ∧ ∀ d ∈ ds, d.plain = true ∧ d.depth ≤ 40 := by
  unfold okSort at h
  simp only [Bool.and_eq_true, List.all_eq_true, decide_eq_true_eq] at h
  obtain ⟨⟨h1, h2⟩, h3⟩ := h
  refine ⟨fun d hd e he => (h1 d hd).2 e he, ?_, h3, fun d hd => (h1 d hd).1⟩
  rcases Bool.or_eq_true_iff.mp h2 with h | h
  · refine .inl fun d hd => ?_
    have := List.all_eq_true.mp h d hd
    split at this
    · exact ⟨_, _, rfl⟩
    · cases this
  · refine .inr fun d hd => ?_
    have := List.all_eq_true.mp h d hd
    split at this
    · cases this
    · cases this
    · rename_i n1 n2
      exact ⟨fun e => n1 e, fun xs e => n2 xs e⟩
theorem each_zip {K : PySem.W.Frag} {P : Hp} : ∀ {vs : List V} {ds : List D} {us : List Value}, Vals vs us → HdAll K P vs ds → EachIs (fun u (b : V × D) => RelV b.1 u) us (vs.zip ds)
  | _, _, _, .nil, .nil => .nil
  | _, _, _, .cons r t, .cons _ h => .cons r (each_zip t h)
theorem each_reads {X : Cx} {pins : List (Addr × Obj)} {σ : L2.St} {H P : Hp} {s : Shared} {W : Wp} (I : Inv X pins σ H s) (hs : PLe P H) : ∀ {vs : List V} {ds : List D} {us : List Value}, Vals vs us → HdAll X.K P vs ds → (∀ d ∈ ds, d.plain = true) → EachIs (fun u (b : V × D) => ∃ as, Reads s.heap u b.2 as) us (vs.zip ds)
  | _, _, _, .nil, .nil, _ => .nil
  | _, _, _, .cons r t, .cons h1 h2, hp => .cons (hw_reads I hs (W := W) (.hd h1) r (hp _ (List.mem_cons_self ..))) (each_reads I hs (W := W) t h2 fun d hd => hp d (List.mem_cons_of_mem _ hd))
theorem each_vals : ∀ {us : List Value} {bs : List (V × D)}, EachIs (fun u (b : V × D) => RelV b.1 u) us bs → Vals (bs.map (·.1)) us
  | _, _, .nil => .nil
  | _, _, .cons r t => .cons r (each_vals t)
theorem hdAll_of {K : PySem.W.Frag} {P : Hp} : ∀ {bs : List (V × D)}, (∀ b ∈ bs, Hd K P b.1 b.2) → HdAll K P (bs.map (·.1)) (bs.map (·.2))
  | [], _ => .nil
  | b :: bs, h => .cons (h b (List.mem_cons_self ..)) (hdAll_of fun c hc => h c (List.mem_cons_of_mem _ hc))
theorem hd_zip {K : PySem.W.Frag} {P : Hp} : ∀ {vs : List V} {ds : List D}, HdAll K P vs ds → ∀ b ∈ vs.zip ds, Hd K P b.1 b.2
  | _, _, .nil, b, hb => by simp at hb
  | _, _, .cons h1 h2, b, hb => by
    rcases List.mem_cons.mp hb with e | e
    · subst e; exact h1
    · exact hd_zip h2 b e
theorem zip_snd {K : PySem.W.Frag} {P : Hp} : ∀ {vs : List V} {ds : List D}, HdAll K P vs ds → (vs.zip ds).map (·.2) = ds
  | _, _, .nil => rfl
  | _, _, .cons _ h2 => by rw [List.zip_cons_cons, List.map_cons, zip_snd h2]
theorem srt_zip {K : PySem.W.Frag} {P : Hp} {vs : List V} {ds : List D} (h : HdAll K P vs ds) : HdAll K P (((vs.zip ds).mergeSort (dataLe false (·.2))).map (·.1)) (srt ds) := by
  have e : ((vs.zip ds).mergeSort (dataLe false (·.2))).map (·.2) = srt ds := by
    unfold srt
    have q := List.map_mergeSort (r := dataLe false fun b : V × D => b.2) (s := dataLe false id) (f := fun b : V × D => b.2) (l := vs.zip ds) (fun _ _ _ _ => rfl)
    rw [q, zip_snd h]
  rw [← e]
  exact hdAll_of fun b hb => hd_zip h b ((List.mergeSort_perm _ _).mem_iff.mp hb)
def sortItems : D → Option (List D)
  | .list ds => some ds
  | .tuple ds => some ds
  | .dict es => some (es.map (·.1))
  | _ => none
def keyed (d : D) : Bool := match d with
  | .dict es => es.all fun e => match e.1 with
    | .int _ => true
    | .str _ => true
    | _ => false
  | _ => true
def sortedD (d : D) : Option D := (sortItems d).bind fun ds => if okSort ds = true ∧ keyed d = true then some (.list (srt ds)) else none
theorem keyed_dT {K : PySem.W.Frag} {P : Hp} {kvs : List (List Key × V)} {es : List (D × D)} (h : HdT K P kvs es) (hk : keyed (.dict es) = true) : kvs = [] ∧ es = [] := by
  cases h with
  | nil => exact ⟨rfl, rfl⟩
  | cons h1 h2 => simp [keyed] at hk
def rSortD (K : PySem.W.Frag) : List V → Hp → VK → Prop := fun xs H Q => ∃ (W : Wp) (P : Hp) (x : V) (d : D) (ds : List D), xs = [x] ∧ PLe P H ∧ Hw K W P H x d ∧ sortItems d = some ds ∧ okSort ds = true ∧ keyed d = true ∧ ∀ ws p, H p = none → HdAll K P ws (srt ds) → Q (.ref p) (upd H p (.lst ws))
theorem lim_size {n : Nat} (h : n ≤ LIM) : n ≤ sizeLine := lim_le h
theorem hdk_keys {K : PySem.W.Frag} {P : Hp} : ∀ {kvs : List (Key × V)} {es : List (D × D)}, HdK K P kvs es → es.map (·.1) = (kvs.map (·.1)).map kD
  | _, _, .nil => rfl
  | _, _, .cons _ h => by rw [List.map_cons, List.map_cons, List.map_cons, hdk_keys h]
theorem cr_sortedD {X : Cx} (hc : X.calm = true) (hu : X.A.units + 64 < cLine) : CallR X (.builtin "sorted") (rSortD X.K) := by
  intro pins s σ H xs us Q I r h
  obtain ⟨W, P, x, d, ds, rfl, hs, hw, hi, ok, nT, q⟩ := h
  obtain ⟨u, rfl, rx⟩ := vals1 r
  obtain ⟨hal, hk, hL, hpd⟩ := okSort_of ok
  -- the sequence of values, whatever holds it
  have main : ∀ (vs : List V), HdAll X.K P vs ds → (∀ (Q' : List Value → Shared → Prop) (E' : Value → Shared → Prop), (∀ (h' : Heap) (tk : Nat) (its : List Value), (∀ b o, s.heap.get? b = some o → h'.get? b = some o) → Vals vs its → Q' its { s with heap := h', toks := tk }) → wpAny (model X.prog X.w) X.A.in1 (collect u) Q' E' s) →
      wpAny (model X.prog X.w) X.A (call (.builtin "sorted") [u]) (EP X pins σ Q) X.xe s := fun vs hv hcol => by
    refine sorted_gen (β := V × D) (enc := (·.2)) (R := fun u b => RelV b.1 u) (C := fun bs => bs = vs.zip ds) (fun Q' E' hq => hcol Q' E' fun h' tk its hk rv => ?_) (fun bs e => ?_) fun s' p out c bs e hk' hg ho ⟨h1, hz1, hk1⟩ hl ho' => ?_
    · refine hq _ its _ rfl hk rfl rfl (each_zip rv hv) ?_
      exact each_reads (W := W) (I.kept (h' := h') (t' := tk) hk) hs rv hv fun d hd => (hpd d hd).1
    · subst e
      rw [zip_snd hv]
      refine ⟨hal, hk, ?_, fun b hb => ?_⟩
      · rw [List.length_zip]; exact Nat.le_trans (Nat.min_le_right _ _) (lim_size hL)
      · have hb2 : b.2 ∈ ds := by rw [← zip_snd hv]; exact List.mem_map.mpr ⟨b, hb, rfl⟩
        have := (hpd _ hb2).2
        omega
    · subst e
      have hn : H p = none := (I.hok.kept hk1).fresh (Nat.le_of_eq hz1)
      have hg0 : s.heap.get? p = none := by
        cases q : s.heap.get? p with
        | none => rfl
        | some o => exact absurd (Heap.lt_size (hk1 p o q)) (by rw [hz1]; exact Nat.lt_irrefl _)
      have hv' := srt_zip hv
      have hlen : (((vs.zip ds).mergeSort (dataLe false (·.2))).map (·.1)).length ≤ sizeLine := by
        rw [hv'.length]; unfold srt; rw [List.length_mergeSort]; exact lim_size hL
      have J : Inv X pins σ (upd H p (.lst (((vs.zip ds).mergeSort (dataLe false (·.2))).map (·.1)))) { s with heap := s'.heap, gens := s'.gens, drawn := s'.drawn, toks := s'.toks } :=
        I.call (ch := []) (Un.laidN hk' hg0 hn) (I.hok.laidN hk' hn ⟨hlen, out, c, each_vals ho', hl⟩) (by rw [hg]; exact I.bare) (fun _ z => nomatch z)
      have e : s' = { s with heap := s'.heap, gens := s'.gens, drawn := s'.drawn, toks := s'.toks } := by
        cases s'
        cases s
        cases ho
        rfl
      rw [e]
      exact ⟨.ref p, _, J, rfl, q _ p hn hv'⟩
  have upL : ∀ (l : Addr) (its : List Value) (b : Addr) (o : Obj), s.heap.get? b = some o → ((s.heap.push (seqObj "list" #[] 0)).update s.heap.objs.size (Obj.mapSeq (· ++ its.toArray))).get? b = some o := fun l its b o e => by
    rw [Heap.get?_update_ne _ _ _ _ (Nat.ne_of_lt (Heap.lt_size e))]
    exact Heap.get?_push_of_some _ e
  have listC : ∀ (a : Addr) (vs : List V), x = .ref a → SqL X.K H a vs → HdAll X.K P vs ds → wpAny (model X.prog X.w) X.A (call (.builtin "sorted") [u]) (EP X pins σ Q) X.xe s := fun a vs e hl hv => by
    subst e
    obtain rfl : u = Value.ref a := rx
    obtain ⟨its, rv, pl, hz⟩ := I.list hl
    exact main vs hv fun Q' E' hq => collect_list pl.isList (hq _ s.toks its (upL a its) rv) (by rw [← rv.length]; exact hz)
  have dictC : ∀ (a : Addr) (kvs : List (Key × V)) (es : List (D × D)), x = .ref a → Rd H a (.dK kvs) → HdK X.K P kvs es → es.map (·.1) = ds → wpAny (model X.prog X.w) X.A (call (.builtin "sorted") [u]) (EP X pins σ Q) X.xe s := fun a kvs es e hd he hds => by
    subst e
    obtain rfl : u = Value.ref a := rx
    obtain ⟨z, lo, vs, rel, dd⟩ := dk_rd I.hok hd
    obtain ⟨ep, hat⟩ := dd.dictAt
    have hkd : ds = (kvs.map (·.1)).map kD := by rw [← hds]; exact hdk_keys he
    refine main ((kvs.map (·.1)).map kV) (by rw [hkd]; exact hd_keys _) fun Q' E' hq => ?_
    refine PySem.W.kdu_collect (A := X.A.in1) (PySem.W.kdl_dict (knd := mixKind X.prog X.w) (kvs := vs) (ep := ep) lo) (by simpa using I.ok.hd hc) hat (by rw [← rel.length]; exact z) fun h' tk acc hk hacc => ?_
    refine hq h' tk acc.toList hk ?_
    · have el : acc.toList.length = acc.size := by simp
      refine vals_of_at (by rw [List.length_map, List.length_map, el, hacc.1, rel.length]) fun j x w h1 h2 => ?_
      obtain ⟨k, y, hky, hi⟩ := hacc.2 j w (by rw [← Array.getElem?_toList]; exact h2)
      have e1 : (kvs.map (·.1))[j]? = some k := by
        rw [KV.keys rel, List.getElem?_map, hky] <;> rfl
      rw [List.getElem?_map, e1] at h1
      cases h1
      exact keyIs_rel hi
  have dictT : ∀ (a : Addr) (kvs : List (List Key × V)), x = .ref a → Rd H a (.dT kvs) → kvs = [] → ds = [] → wpAny (model X.prog X.w) X.A (call (.builtin "sorted") [u]) (EP X pins σ Q) X.xe s := fun a kvs e hd he0 hds => by
    subst he0; subst hds
    subst e
    obtain rfl : u = Value.ref a := rx
    obtain ⟨z, lo, xs, rel, o, es, ep, ho, hx, hdat, he, _⟩ := dt_rd I.hok hd
    cases rel
    have hz : es.size = 0 := by rw [← Array.length_toList, he]; rfl
    refine main [] .nil fun Q' E' hq => ?_
    refine PySem.W.kdu_collect (A := X.A.in1) (kdl_raw (ep := ep) lo hx hdat) (by simpa using I.ok.hd hc) ho (by rw [hz]; exact Nat.zero_le _) fun h' tk acc hk hacc => ?_
    have hac : acc.toList = [] := by
      apply List.eq_nil_of_length_eq_zero
      rw [Array.length_toList, hacc.1, hz]
    rw [hac]
    exact hq h' tk [] hk .nil
  cases hw with
  | hd hd =>
    cases hd with
    | @lst a vs ds' ha hvs => cases hi; exact listC a vs rfl (ple_l hs ha) hvs
    | @tup a vs ds' ha hvs =>
      cases hi
      obtain rfl : u = Value.ref a := rx
      obtain ⟨its, rv, pl, hz⟩ := I.tuple (ple_t hs ha)
      exact main vs hvs fun Q' E' hq => collect_tup (show s.heap.IsTuple a its.toArray from pl) (hq _ s.toks its (upL a its) rv) (by rw [← rv.length]; exact hz)
    | @dK a o kvs es ha hvs =>
      cases hi
      exact dictC a kvs es rfl (.inr ⟨o, hs _ _ ha⟩) hvs rfl
    | @dT a o kvs es ha hvs => cases hi; obtain ⟨e1, e2⟩ := keyed_dT hvs nT; subst e2; exact dictT a kvs rfl (.inr ⟨o, hs _ _ ha⟩) e1 rfl
    | _ => cases hi
  | ct nw c =>
    cases c with
    | @lst vs ds' h1 h2 => cases hi; exact listC _ vs rfl (.inl (.inl h1)) h2
    | @dK kvs es h1 h2 => cases hi; exact dictC _ kvs es rfl (.inl h1) h2 rfl
    | @dT kvs es h1 h2 => cases hi; obtain ⟨e1, e2⟩ := keyed_dT h2 nT; subst e2; exact dictT _ kvs rfl (.inl h1) e1 rfl
end Pd
namespace Pd
open PySem L2 PySem.Spec PyProof.Rows PySem.W

/-! ### orders of whole numbers and texts -/
def leI' (a b : Int) : Bool := decide (a ≤ b)
def leS' (a b : Str) : Bool := decide (a.cps.toList ≤ b.cps.toList)
theorem srt_ints (ns : List Int) : srt (ns.map .int) = (ns.mergeSort leI').map .int := by
  unfold srt
  rw [List.map_mergeSort (r := leI') (s := dataLe false id) (f := fun i : Int => (PyData.int i : D))]
  intro a _ b _
  have q := congrFun (congrFun (dataLe_int (β := D) fun d => match d with | .int i => i | _ => 0) (.int a)) (.int b)
  show leI' a b = dataLe false id (PyData.int a) (PyData.int b)
  rw [show dataLe false id (PyData.int a) (PyData.int b) = dataLe false (fun i : Int => (PyData.int i : D)) a b from rfl, dataLe_int]
  rfl
theorem srt_strs (xs : List Str) : srt (xs.map .str) = (xs.mergeSort leS').map .str := by
  unfold srt
  rw [List.map_mergeSort (r := leS') (s := dataLe false id) (f := fun i : Str => (PyData.str i : D))]
  intro a _ b _
  rw [show dataLe false id (PyData.str a) (PyData.str b) = dataLe false (fun i : Str => (PyData.str i : D)) a b from rfl, dataLe_str]
  rfl
theorem sortI_pw (ns : List Int) : (ns.mergeSort leI').Pairwise (· ≤ ·) := by
  have q := List.pairwise_mergeSort (le := leI') (fun a b c h1 h2 => by simp [leI'] at *; omega) (fun a b => by simp [leI']; omega) ns
  exact q.imp fun h => by simpa [leI'] using h
theorem sortI_perm (ns : List Int) : (ns.mergeSort leI').Perm ns := List.mergeSort_perm _ _
theorem sortI_uni {ns ms : List Int} (h : ns.Perm ms) : ns.mergeSort leI' = ms.mergeSort leI' :=
  List.Perm.eq_of_pairwise (le := (· ≤ ·)) (fun a b _ _ h1 h2 => by omega) (sortI_pw ns) (sortI_pw ms) (((sortI_perm ns).trans h).trans (sortI_perm ms).symm)
theorem sortS_pw (ns : List Str) : (ns.mergeSort leS').Pairwise (fun a b => a.cps.toList ≤ b.cps.toList) := by
  have q := List.pairwise_mergeSort (le := leS') (fun a b c h1 h2 => by simp only [leS', decide_eq_true_eq] at *; exact List.le_trans h1 h2) (fun a b => by simp only [leS', Bool.or_eq_true, decide_eq_true_eq]; exact List.le_total _ _) ns
  exact q.imp fun h => by simpa [leS'] using h
theorem sortS_perm (ns : List Str) : (ns.mergeSort leS').Perm ns := List.mergeSort_perm _ _
theorem sortS_uni {ns ms : List Str} (h : ns.Perm ms) : ns.mergeSort leS' = ms.mergeSort leS' :=
  List.Perm.eq_of_pairwise (le := fun a b => a.cps.toList ≤ b.cps.toList) (fun a b _ _ h1 h2 => str_of_cps (List.le_antisymm h1 h2)) (sortS_pw ns) (sortS_pw ms) (((sortS_perm ns).trans h).trans (sortS_perm ms).symm)
theorem okSort_ints (ns : List Int) (h : ns.length ≤ LIM) : okSort (ns.map .int) = true := by
  unfold okSort
  simp only [Bool.and_eq_true, Bool.or_eq_true, List.all_eq_true, decide_eq_true_eq, List.length_map]
  refine ⟨⟨fun d hd => ?_, .inr fun d hd => ?_⟩, h⟩
  · obtain ⟨i, _, rfl⟩ := List.mem_map.mp hd
    refine ⟨⟨rfl, by simp [PyData.depth]⟩, fun e he => ?_⟩
    obtain ⟨j, _, rfl⟩ := List.mem_map.mp he
    simp [alike]
  · obtain ⟨i, _, rfl⟩ := List.mem_map.mp hd; rfl
theorem okSort_strs (ns : List Str) (h : ns.length ≤ LIM) : okSort (ns.map .str) = true := by
  unfold okSort
  simp only [Bool.and_eq_true, Bool.or_eq_true, List.all_eq_true, decide_eq_true_eq, List.length_map]
  refine ⟨⟨fun d hd => ?_, .inr fun d hd => ?_⟩, h⟩
  · obtain ⟨i, _, rfl⟩ := List.mem_map.mp hd
    refine ⟨⟨rfl, by simp [PyData.depth]⟩, fun e he => ?_⟩
    obtain ⟨j, _, rfl⟩ := List.mem_map.mp he
    simp [alike]
  · obtain ⟨i, _, rfl⟩ := List.mem_map.mp hd; rfl

/-! ### keys told once each -/
def ddK {α : Type} [DecidableEq α] : List α → List α
  | [] => []
  | k :: r => if k ∈ r then ddK r else k :: ddK r
theorem mem_ddK {α : Type} [DecidableEq α] : ∀ {ks : List α} {k : α}, k ∈ ddK ks ↔ k ∈ ks
  | [], k => by simp [ddK]
  | a :: r, k => by
    unfold ddK
    split
    · rename_i h
      rw [mem_ddK, List.mem_cons]
      exact ⟨.inr, fun q => q.elim (fun e => e ▸ h) id⟩
    · rw [List.mem_cons, List.mem_cons, mem_ddK]
theorem nodup_ddK {α : Type} [DecidableEq α] : ∀ ks : List α, (ddK ks).Nodup
  | [] => List.nodup_nil
  | a :: r => by
    unfold ddK
    split
    · exact nodup_ddK r
    · rename_i h
      exact List.nodup_cons.mpr ⟨fun q => h (mem_ddK.mp q), nodup_ddK r⟩
theorem ddK_len {α : Type} [DecidableEq α] : ∀ ks : List α, (ddK ks).length ≤ ks.length
  | [] => Nat.le_refl _
  | a :: r => by
    unfold ddK
    split
    · exact Nat.le_succ_of_le (ddK_len r)
    · exact Nat.succ_le_succ (ddK_len r)
theorem ddK_map {α β : Type} [DecidableEq α] [DecidableEq β] (f : α → β) (inj : ∀ a b, f a = f b → a = b) : ∀ l : List α, ddK (l.map f) = (ddK l).map f
  | [] => rfl
  | a :: r => by
    have hm : f a ∈ r.map f ↔ a ∈ r := by
      rw [List.mem_map]
      exact ⟨fun ⟨b, hb, e⟩ => inj _ _ e ▸ hb, fun h => ⟨a, h, rfl⟩⟩
    rw [List.map_cons]
    unfold ddK
    by_cases h : a ∈ r
    · rw [if_pos h, if_pos (hm.mpr h), ddK_map f inj r]
    · rw [if_neg h, if_neg (fun q => h (hm.mp q)), ddK_map f inj r, List.map_cons]
def dKey : D → Option Key
  | .int i => some (.inl i)
  | .str x => some (.inr x)
  | _ => none
def dKeys : List D → Option (List Key)
  | [] => some []
  | d :: r => (dKey d).bind fun k => (dKeys r).map (k :: ·)
theorem dKeys_eq : ∀ {ds : List D} {ks : List Key}, dKeys ds = some ks → ds = ks.map kD
  | [], ks, h => by cases h; rfl
  | d :: r, ks, h => by
    obtain ⟨k, h1, h2⟩ := Option.bind_eq_some_iff.mp h
    obtain ⟨ks', h3, h4⟩ := Option.map_eq_some_iff.mp h2
    subst h4
    rw [List.map_cons, ← dKeys_eq h3]
    cases d <;> cases h1 <;> rfl
theorem dKeys_ints : ∀ ns : List Int, dKeys (ns.map .int) = some (ns.map .inl)
  | [] => rfl
  | n :: r => by show (dKey (.int n)).bind _ = _; simp [dKey, dKeys_ints r]
theorem dKeys_strs : ∀ ns : List Str, dKeys (ns.map .str) = some (ns.map .inr)
  | [] => rfl
  | n :: r => by show (dKey (.str n)).bind _ = _; simp [dKey, dKeys_strs r]
theorem hd_keysV {K : PySem.W.Frag} {P : Hp} : ∀ {vs : List V} {ks : List Key}, HdAll K P vs (ks.map kD) → vs = ks.map kV
  | _, [], .nil => rfl
  | _, k :: ks, .cons a b => by
    rw [hd_keysV b]
    cases k with
    | inl i => cases a; rfl
    | inr x => cases a; rfl
def homog (ks : List Key) : Bool := ks.all (fun k => match k with
  | .inl _ => true
  | _ => false) || ks.all (fun k => match k with
  | .inr _ => true
  | _ => false)
theorem homog_of {ks : List Key} (h : homog ks = true) : (∃ ns : List Int, ks = ns.map .inl) ∨ ∃ xs : List Str, ks = xs.map .inr := by
  have h0 := Bool.or_eq_true_iff.mp (show (_ || _) = true from h)
  clear h
  rcases h0 with h | h
  · left
    induction ks with
    | nil => exact ⟨[], rfl⟩
    | cons k r ih =>
      rw [List.all_cons, Bool.and_eq_true] at h
      obtain ⟨ns, e⟩ := ih h.2
      cases k with
      | inl i => exact ⟨i :: ns, by rw [e]; rfl⟩
      | inr x => exact absurd h.1 (by simp)
  · right
    induction ks with
    | nil => exact ⟨[], rfl⟩
    | cons k r ih =>
      rw [List.all_cons, Bool.and_eq_true] at h
      obtain ⟨ns, e⟩ := ih h.2
      cases k with
      | inl i => exact absurd h.1 (by simp)
      | inr x => exact ⟨x :: ns, by rw [e]; rfl⟩
theorem homog_ints (ns : List Int) : homog (ns.map .inl) = true := by
  unfold homog
  rw [Bool.or_eq_true]
  left
  rw [List.all_eq_true]
  intro k hk
  obtain ⟨i, _, rfl⟩ := List.mem_map.mp hk
  rfl
theorem homog_strs (ns : List Str) : homog (ns.map .inr) = true := by
  unfold homog
  rw [Bool.or_eq_true]
  right
  rw [List.all_eq_true]
  intro k hk
  obtain ⟨i, _, rfl⟩ := List.mem_map.mp hk
  rfl
theorem perm_map_inv {α β : Type} {f : α → β} : ∀ {bs : List β} {as : List α}, bs.Perm (as.map f) → ∃ cs : List α, bs = cs.map f := fun {bs as} h => by
  have : ∀ {bs : List β}, (∀ b ∈ bs, ∃ a, b = f a) → ∃ cs : List α, bs = cs.map f := by
    intro bs
    induction bs with
    | nil => exact fun _ => ⟨[], rfl⟩
    | cons b r ih =>
      intro h
      obtain ⟨a, e⟩ := h b (List.mem_cons_self ..)
      obtain ⟨cs, e2⟩ := ih fun c hc => h c (List.mem_cons_of_mem _ hc)
      exact ⟨a :: cs, by rw [e, e2]; rfl⟩
  exact this fun b hb => by
    obtain ⟨a, _, e⟩ := List.mem_map.mp (h.mem_iff.mp hb)
    exact ⟨a, e.symm⟩
theorem perm_of_map {α β : Type} {f : α → β} (inj : ∀ a b, f a = f b → a = b) (g : β → α) (hg : ∀ a, g (f a) = a) {as bs : List α} (h : (as.map f).Perm (bs.map f)) : as.Perm bs := by
  have q := h.map g
  rw [List.map_map, List.map_map] at q
  have e : ∀ l : List α, l.map (g ∘ f) = l := fun l => by
    conv => rhs; rw [← List.map_id l]
    exact List.map_congr_left fun a _ => hg a
  rw [e, e] at q
  exact q
theorem map_kD_inl (ns : List Int) : (ns.map (Sum.inl : Int → Key)).map kD = ns.map .int := by rw [List.map_map]; rfl
theorem map_kD_inr (ns : List Str) : (ns.map (Sum.inr : Str → Key)).map kD = ns.map .str := by rw [List.map_map]; rfl
theorem srt_keys {ks bs : List Key} (h : homog ks = true) (hp : bs.Perm ks) : bs.map kD ≠ [] → True := fun _ => trivial
theorem okSort_keys {bs : List Key} (h : homog bs = true) (hl : bs.length ≤ LIM) : okSort (bs.map kD) = true := by
  rcases homog_of h with ⟨ns, e⟩ | ⟨xs, e⟩
  · subst e; rw [map_kD_inl]; exact okSort_ints ns (by simpa using hl)
  · subst e; rw [map_kD_inr]; exact okSort_strs xs (by simpa using hl)
theorem homog_sub {ks bs : List Key} (h : homog ks = true) (hm : ∀ k ∈ bs, k ∈ ks) : homog bs = true := by
  unfold homog at *
  rcases Bool.or_eq_true_iff.mp h with h | h
  · rw [Bool.or_eq_true]; left; rw [List.all_eq_true] at h ⊢; exact fun k hk => h k (hm k hk)
  · rw [Bool.or_eq_true]; right; rw [List.all_eq_true] at h ⊢; exact fun k hk => h k (hm k hk)
theorem srt_permK {ks bs : List Key} (h : homog ks = true) (hp : bs.Perm ks) : srt (bs.map kD) = srt (ks.map kD) := by
  rcases homog_of h with ⟨ns, e⟩ | ⟨xs, e⟩
  · subst e
    obtain ⟨ms, e2⟩ := perm_map_inv hp
    subst e2
    rw [map_kD_inl, map_kD_inl, srt_ints, srt_ints, sortI_uni (perm_of_map (fun _ _ e => Sum.inl.inj e) (fun k => match k with | .inl i => i | _ => 0) (fun _ => rfl) hp)]
  · subst e
    obtain ⟨ms, e2⟩ := perm_map_inv hp
    subst e2
    rw [map_kD_inr, map_kD_inr, srt_strs, srt_strs, sortS_uni (perm_of_map (fun _ _ e => Sum.inr.inj e) (fun k => match k with | .inr i => i | _ => ⟨#[]⟩) (fun _ => rfl) hp)]
/-! ### set(x), sorted(set(x)), len(set(x)) -/
def setHO (w : PySem.World) (a : Addr) (ks : List Key) : HO := .ext fun h => SetQ w h a ks
theorem setHO_new {w : PySem.World} {P : Program} {H : Hp} {h : Heap} {a : Addr} {ks : List Key} (R : SetQ w h a ks) : ObjOk P w H h a (setHO w a ks) := by
  have ⟨o, _, _, _, ho, _⟩ := R
  exact ⟨R, ⟨o, ho⟩, fun h1 h2 p k => SetQ.at p k⟩
section
variable {X : Cx}
theorem setHO_get {pins : List (Addr × Obj)} {σ : L2.St} {H : Hp} {s : Shared} {a : Addr} {ks : List Key} (I : Inv X pins σ H s) (ha : H a = some (setHO X.w a ks)) : SetQ X.w s.heap a ks := (I.hok a _ ha).1
def rSetD (K : PySem.W.Frag) (w : PySem.World) : List V → Hp → VK → Prop := fun xs H Q => ∃ (a : Addr) (ks : List Key), xs = [.ref a] ∧ (SqL K H a (ks.map kV) ∨ SqT K H a (ks.map kV)) ∧ ks.length ≤ 4000 ∧ ∀ p, H p = none → Q (.ref p) (upd H p (setHO w p ks))
theorem cr_setD (hc : X.calm = true) : CallR X (.type "set") (rSetD X.K X.w) := by
  intro pins s σ H xs us Q I r h
  obtain ⟨a, ks, rfl, hs, hl, q⟩ := h
  obtain ⟨u, rfl, rx⟩ := vals1 r
  obtain rfl : u = Value.ref a := rx
  have fin : ∀ (h' : Heap) (tk : Nat), SetQ X.w h' s.heap.objs.size ks → (∀ b o, s.heap.get? b = some o → h'.get? b = some o) → EP X pins σ Q (.ref s.heap.objs.size) { s with heap := h', toks := tk } := fun h' tk R k =>
    ⟨.ref s.heap.objs.size, upd H s.heap.objs.size (setHO X.w s.heap.objs.size ks), I.laid k (Nat.le_refl _) (setHO_new R), rfl, q _ (I.hok.fresh (Nat.le_refl _))⟩
  rcases hs with hs | hs
  · obtain ⟨its, rv, pl, hz⟩ := I.list hs
    exact call_setQ ks (I.ok.hd hc) (.inl pl.isList) (by simpa using rv) (by unfold scanBound; omega) fin
  · obtain ⟨its, rv, pl, hz⟩ := I.tuple hs
    exact call_setQ ks (I.ok.hd hc) (.inr pl) (by simpa using rv) (by unfold scanBound; omega) fin
def rSetSort (w : PySem.World) : List V → Hp → VK → Prop := fun xs H Q => ∃ (a : Addr) (ks : List Key), xs = [.ref a] ∧ H a = some (setHO w a ks) ∧ homog ks = true ∧ ∀ ws p, H p = none → (∀ K P, HdAll K P ws (srt ((ddK ks).map kD))) → Q (.ref p) (upd H p (.lst ws))
theorem each_keysV {us : List Value} {bs : List Key} (h : EachIs (fun u k => RelV (kV k) u) us bs) : Vals (bs.map kV) us := by
  induction h with
  | nil => exact .nil
  | cons r t ih => exact .cons r ih
theorem vals_eachK : ∀ {us : List Value} {bs : List Key}, Vals (bs.map kV) us → EachIs (fun u k => RelV (kV k) u) us bs
  | _, [], h => by cases h; exact .nil
  | _, k :: bs, h => by cases h with | cons r t => exact .cons r (vals_eachK t)
theorem reads_key {h : Heap} {k : Key} {u : Value} (r : RelV (kV k) u) : ∃ as, Reads h u (kD k) as := by
  cases k with
  | inl i => obtain ⟨t, rfl⟩ := r; exact ⟨_, .int _ _⟩
  | inr x => obtain ⟨t, rfl⟩ := r; exact ⟨_, .str _ _⟩
theorem cr_sortedQ (hc : X.calm = true) (hu : X.A.units + 64 < cLine) : CallR X (.builtin "sorted") (rSetSort X.w) := by
  intro pins s σ H xs us Q I r h
  obtain ⟨a, ks, rfl, ha, hm, q⟩ := h
  obtain ⟨u, rfl, rx⟩ := vals1 r
  obtain rfl : u = Value.ref a := rx
  obtain ⟨o, es, ep, t, ho, hex, hd, g, nd, mem, hb, hn, hf, hr, hl⟩ := setHO_get I ha
  have pk : (es.toList.map kk).Perm (ddK ks) := (List.perm_ext_iff_of_nodup nd (nodup_ddK ks)).mpr fun k => by rw [← mem k, mem_ddK]
  have hmd : homog (ddK ks) = true := homog_sub hm fun k hk => mem_ddK.mp hk
  have hbl : (ddK ks).length < scanBound := by rw [← pk.length_eq, List.length_map, Array.length_toList]; exact hb
  refine sorted_gen (β := Key) (enc := kD) (R := fun u k => RelV (kV k) u) (C := fun bs => bs.Perm (ddK ks)) (fun Q' E' hq => ?_) (fun bs hp => ?_) fun s' p out c bs hp hk' hg hos ⟨h1, hz1, hk1⟩ hlst ho' => ?_
  · refine collect_set (A := X.A.in1) (by simpa using I.ok.hd hc) ⟨o, ho, hex.1, hd⟩ hf hb hr hl fun s1 vs k1 hz g1 o1 pm => ?_
    -- the order the set gives
    have hv : ∀ v ∈ vs, ∃ k, k ∈ es.toList.map kk ∧ keyIs k v = true := fun v hv => by
      obtain ⟨e, he, q⟩ := List.mem_map.mp (pm.mem_iff.mp hv)
      obtain ⟨k, h1, _⟩ := g e he
      exact ⟨k, List.mem_map.mpr ⟨e, he, kk_is h1⟩, by rw [← q]; exact h1⟩
    have e1 : es.toList.map kk = (es.toList.map (·.2)).map fun v => kk (0, v) := by rw [List.map_map]; rfl
    have pb : (vs.map fun v => kk (0, v)).Perm (ddK ks) := by
      refine List.Perm.trans ?_ pk
      rw [e1]
      exact pm.map _
    have each : EachIs (fun u k => RelV (kV k) u) vs (vs.map fun v => kk (0, v)) := by
      have : ∀ l : List Value, (∀ v ∈ l, ∃ k, k ∈ es.toList.map kk ∧ keyIs k v = true) → EachIs (fun u k => RelV (kV k) u) l (l.map fun v => kk (0, v)) := fun l => by
        induction l with
        | nil => exact fun _ => .nil
        | cons v l ih =>
          intro h
          obtain ⟨k, _, h1⟩ := h v (List.mem_cons_self ..)
          refine .cons ?_ (ih fun x hx => h x (List.mem_cons_of_mem _ hx))
          show L2.RelV (kV (kk (0, v))) v
          rw [kk_is (e := (0, v)) h1]
          exact keyIs_rel h1
      exact this vs hv
    exact hq s1 vs _ pb k1 g1 o1 each (each.mono fun u k r => reads_key r)
  · have hh : homog bs = true := homog_sub hmd fun k hk => hp.mem_iff.mp hk
    obtain ⟨h1, h2, h3, h4⟩ := okSort_of (okSort_keys hh (by rw [hp.length_eq]; have : scanBound = 4096 := rfl; have : LIM = 1000000 := rfl; omega))
    refine ⟨h1, h2, ?_, fun b hb => ?_⟩
    · rw [hp.length_eq]; exact fits_of_scanBound hbl
    · have := (h4 (kD b) (List.mem_map.mpr ⟨b, hb, rfl⟩)).2
      omega
  · have hn' : H p = none := (I.hok.kept hk1).fresh (Nat.le_of_eq hz1)
    have hg0 : s.heap.get? p = none := by
      cases q : s.heap.get? p with
      | none => rfl
      | some o => exact absurd (Heap.lt_size (hk1 p o q)) (by rw [hz1]; exact Nat.lt_irrefl _)
    have hlen : ((bs.mergeSort (dataLe false kD)).map kV).length ≤ sizeLine := by
      rw [List.length_map, List.length_mergeSort, hp.length_eq]; exact fits_of_scanBound hbl
    have J : Inv X pins σ (upd H p (.lst ((bs.mergeSort (dataLe false kD)).map kV))) { s with heap := s'.heap, gens := s'.gens, drawn := s'.drawn, toks := s'.toks } :=
      I.call (ch := []) (Un.laidN hk' hg0 hn') (I.hok.laidN hk' hn' ⟨hlen, out, c, each_keysV ho', hlst⟩) (by rw [hg]; exact I.bare) (fun _ z => nomatch z)
    have e : s' = { s with heap := s'.heap, gens := s'.gens, drawn := s'.drawn, toks := s'.toks } := by
      cases s'
      cases s
      cases hos
      rfl
    rw [e]
    refine ⟨.ref p, _, J, rfl, q _ p hn' fun K P => ?_⟩
    have em : (bs.mergeSort (dataLe false kD)).map kD = srt ((ddK ks).map kD) := by
      rw [← srt_permK hmd hp]
      unfold srt
      exact List.map_mergeSort (r := dataLe false kD) (s := dataLe false id) (f := kD) (l := bs) (fun _ _ _ _ => rfl)
    rw [← em]
    exact hd_keys _
def rSetLen (w : PySem.World) : List V → Hp → VK → Prop := fun xs H Q => ∃ (a : Addr) (ks : List Key), xs = [.ref a] ∧ H a = some (setHO w a ks) ∧ Q (.int (ddK ks).length) H
theorem cr_lenQ : CallR X (.builtin "len") (rSetLen X.w) := by
  intro pins s σ H xs us Q I r h
  obtain ⟨a, ks, rfl, ha, q⟩ := h
  obtain ⟨u, rfl, rx⟩ := vals1 r
  obtain rfl : u = Value.ref a := rx
  obtain ⟨o, es, ep, t, ho, hex, hd, g, nd, mem, hb, hn, hf, hr, hl⟩ := setHO_get I ha
  have pk : (es.toList.map kk).Perm (ddK ks) := (List.perm_ext_iff_of_nodup nd (nodup_ddK ks)).mpr fun k => by rw [← mem k, mem_ddK]
  have hz : es.size = (ddK ks).length := by rw [← pk.length_eq, List.length_map, Array.length_toList]
  refine call_len_set ho hex hd hf (by have : scanBound = 4096 := rfl; omega) ⟨.int (ddK ks).length, H, I.tok _, ⟨_, by rw [hz]⟩, q⟩
end
def seqD : D → Option (List D)
  | .list ds => some ds
  | .tuple ds => some ds
  | _ => none
def setSortD (d : D) : Option D := (seqD d).bind fun ds => (dKeys ds).bind fun ks => if homog ks = true ∧ ks.length ≤ 4000 then some (.list (srt ((ddK ks).map kD))) else none
def setLenD (d : D) : Option D := (seqD d).bind fun ds => (dKeys ds).bind fun ks => if ks.length ≤ 4000 then some (.int (ddK ks).length) else none
section
variable {X : Cx} {R : Rt} {x y : Str} {p p2 pos pos2 : Pos} {a : Expr} {fa : EM}
theorem hw_seqK {K : PySem.W.Frag} {W : Wp} {P H : Hp} {v : V} {d : D} {ds : List D} {ks : List Key} (hs : PLe P H) (hw : Hw K W P H v d) (h1 : seqD d = some ds) (h2 : dKeys ds = some ks) : ∃ b, v = .ref b ∧ (SqL K H b (ks.map kV) ∨ SqT K H b (ks.map kV)) := by
  have e := dKeys_eq h2
  subst e
  unfold seqD at h1
  split at h1
  · cases h1
    obtain ⟨b, vs, e, hb, hv⟩ := hw_list hs hw
    rw [hd_keysV hv] at hb
    exact ⟨b, e, .inl hb⟩
  · cases h1
    obtain ⟨b, vs, e, hb, hv⟩ := hw_tup hs hw
    rw [hd_keysV hv] at hb
    exact ⟨b, e, .inr hb⟩
  · cases h1
theorem dg_setSort (hcalm : X.calm = true) (hu : X.A.units + 64 < cLine) (hK : X.K = R.K) (hm : X.mg x = none) (hv : bootBuiltins x = some (.builtin "sorted")) (hm2 : X.mg y = none) (hv2 : bootBuiltins y = some (.type "set")) (ha : PE X a (tW R fa)) (hg : Gl X x := by rfl) (hn : x ≠ "__name__" := by decide) (hdb : (x == ("__debug__" : Str)) = false := by decide) (hg2 : Gl X y := by rfl) (hn2 : y ≠ "__name__" := by decide) (hdb2 : (y == ("__debug__" : Str)) = false := by decide)
    (hs2 : starEach [a] X.env = (false, eval a X.env) :: starEach [] X.env := by rfl) (hs : starEach [.Call (.Name y p2) [a] [] pos2] X.env = (false, eval (.Call (.Name y p2) [a] [] pos2) X.env) :: starEach [] X.env := by rfl) : PE X (.Call (.Name x p) [.Call (.Name y p2) [a] [] pos2] [] pos) (tF R (eOp1 setSortD fa)) :=
  pe_sub (pe_callB (cr_sortedQ hcalm hu) hg hm hv (pa_cons (pe_callTy (cr_setD hcalm) hg2 hm2 hv2 (pa_cons ha pa_nil hs2) hn2 hdb2 hs2 (by rfl)) pa_nil hs) hn hdb hs (by rfl)) fun σ H Q ⟨P, loc, n, z, n', rp, e, q⟩ => by
    obtain ⟨d, h1, h2⟩ := eOp1_some e
    obtain ⟨ds, h3, h4⟩ := Option.bind_eq_some_iff.mp h2
    obtain ⟨ks, h5, h6⟩ := Option.bind_eq_some_iff.mp h4
    split at h6
    · rename_i ok
      cases h6
      refine ⟨P, loc, n, d, n', rp, h1, fun v P1 H1 s1 hv => ?_⟩
      obtain ⟨b, rfl, hb⟩ := hw_seqK s1.sub hv h3 h5
      refine ⟨b, ks, rfl, by rw [hK]; exact hb, ok.2, fun p hp => ?_⟩
      refine ⟨p, ks, rfl, upd_same, ok.1, fun ws l hl hws => ?_⟩
      have s2 := s1.trans rp.wd (Stp.alloc (o := setHO X.w p ks) s1.sub s1.wd hp)
      have s3 := s2.trans rp.wd (Stp.alloc (o := .lst ws) s2.sub s2.wd hl)
      exact q l P1 _ s3 ⟨s2.back rp.wd hl, none_of_sub s2.sub hl, .lst upd_same (hws _ _)⟩
    · cases h6
theorem dg_setLen (hcalm : X.calm = true) (hK : X.K = R.K) (hm : X.mg x = none) (hv : bootBuiltins x = some (.builtin "len")) (hm2 : X.mg y = none) (hv2 : bootBuiltins y = some (.type "set")) (ha : PE X a (tW R fa)) (hg : Gl X x := by rfl) (hn : x ≠ "__name__" := by decide) (hdb : (x == ("__debug__" : Str)) = false := by decide) (hg2 : Gl X y := by rfl) (hn2 : y ≠ "__name__" := by decide) (hdb2 : (y == ("__debug__" : Str)) = false := by decide)
    (hs2 : starEach [a] X.env = (false, eval a X.env) :: starEach [] X.env := by rfl) (hs : starEach [.Call (.Name y p2) [a] [] pos2] X.env = (false, eval (.Call (.Name y p2) [a] [] pos2) X.env) :: starEach [] X.env := by rfl) : PE X (.Call (.Name x p) [.Call (.Name y p2) [a] [] pos2] [] pos) (tD R (eOp1 setLenD fa)) :=
  pe_sub (pe_callB cr_lenQ hg hm hv (pa_cons (pe_callTy (cr_setD hcalm) hg2 hm2 hv2 (pa_cons ha pa_nil hs2) hn2 hdb2 hs2 (by rfl)) pa_nil hs) hn hdb hs (by rfl)) fun σ H Q ⟨P, loc, n, z, n', rp, e, q⟩ => by
    obtain ⟨d, h1, h2⟩ := eOp1_some e
    obtain ⟨ds, h3, h4⟩ := Option.bind_eq_some_iff.mp h2
    obtain ⟨ks, h5, h6⟩ := Option.bind_eq_some_iff.mp h4
    split at h6
    · rename_i ok
      cases h6
      refine ⟨P, loc, n, d, n', rp, h1, fun v P1 H1 s1 hv => ?_⟩
      obtain ⟨b, rfl, hb⟩ := hw_seqK s1.sub hv h3 h5
      refine ⟨b, ks, rfl, by rw [hK]; exact hb, ok, fun p hp => ?_⟩
      refine ⟨p, ks, rfl, upd_same, ?_⟩
      exact q _ P1 _ (s1.trans rp.wd (Stp.alloc (o := setHO X.w p ks) s1.sub s1.wd hp)) (.int _)
    · cases h6
end
end Pd
namespace Pd
open PySem L2 PySem.Spec PyProof.Rows

/-! ### built-in functions -/
def lenD : D → Option D
  | .list ds => some (.int ds.length)
  | .tuple ds => some (.int ds.length)
  | .str x => if x.length ≤ LIM then some (.int x.length) else none
  | .dict es => some (.int es.length)
  | _ => none
def rLenD (K : PySem.W.Frag) : List V → Hp → VK → Prop := fun xs H Q => (∃ x n, xs = [x] ∧ LenV K x H n ∧ Q (.int n) H) ∨ (∃ a kvs, xs = [V.ref a] ∧ Rd H a (.dK kvs) ∧ Q (.int kvs.length) H) ∨ ∃ a kvs, xs = [V.ref a] ∧ Rd H a (.dT kvs) ∧ Q (.int kvs.length) H
section
variable {X : Cx}
theorem call_lenR : CallR X (.builtin "len") (rLenD X.K) := by
  intro pins s σ H xs us Q I r h
  rcases h with h | ⟨a, kvs, rfl, ha, q⟩ | ⟨a, kvs, rfl, ha, q⟩
  · exact call_len pins s σ H xs us Q I r h
  · obtain ⟨u, rfl, ru⟩ := vals1 r
    cases ru
    exact d_len I ha fun t s' I' => ⟨.int kvs.length, H, I', ⟨t, rfl⟩, q⟩
  · obtain ⟨u, rfl, ru⟩ := vals1 r
    cases ru
    obtain ⟨z, hd, ys, rel, dd⟩ := dt_rd I.hok ha
    have hl : kvs.length = ys.length := Paired.length rel
    refine call_len_dictH hd dd (by rw [← hl]; rw [sizeLine_eq] at z; omega) ?_
    rw [← hl]
    exact ⟨.int ((kvs.length : Nat) : Int), H, I.tok _, ⟨_, rfl⟩, q⟩
end
section
variable {K : PySem.W.Frag}
theorem c1_len : Cl1 K (rLenD K) lenD := fun W x H P n d z Q hs hw h1 g q => by
  unfold lenD at g
  split at g
  · cases g
    obtain ⟨a, vs, rfl, ha, hva⟩ := hw_list hs h1
    exact .inl ⟨_, vs.length, rfl, .inl ⟨vs, ha, rfl⟩, by rw [hva.length]; exact q.val hs hw (.int _)⟩
  · cases g
    obtain ⟨a, vs, rfl, ha, hva⟩ := hw_tup hs h1
    exact .inl ⟨_, vs.length, rfl, .inr ⟨vs, ha, rfl⟩, by rw [hva.length]; exact q.val hs hw (.int _)⟩
  · split at g
    · rename_i y hl
      cases g
      rw [hw_str h1]
      exact .inl ⟨_, y.length, rfl, ⟨lim_le hl, rfl⟩, q.val hs hw (.int _)⟩
    · cases g
  · cases g
    cases h1 with
    | hd h =>
      cases h with
      | dK h1 h2 => exact .inr (.inl ⟨_, _, rfl, .inr ⟨_, hs _ _ h1⟩, by rw [h2.length]; exact q.val hs hw (.int _)⟩)
      | dT h1 h2 => exact .inr (.inr ⟨_, _, rfl, .inr ⟨_, hs _ _ h1⟩, by rw [h2.length]; exact q.val hs hw (.int _)⟩)
    | ct nw c =>
      cases c with
      | dK h1 h2 => exact .inr (.inl ⟨_, _, rfl, .inl h1, by rw [h2.length]; exact q.val hs hw (.int _)⟩)
      | dT h1 h2 => exact .inr (.inr ⟨_, _, rfl, .inl h1, by rw [h2.length]; exact q.val hs hw (.int _)⟩)
  · cases g
def absD : D → Option D
  | .int i => some (.int (if i < 0 then -i else i))
  | _ => none
theorem c1_abs : Cl1 K (fun xs H Q => ∃ i, xs = [.int i] ∧ Q (.int (if i < 0 then -i else i)) H) absD := fun W x H P n d z Q hs hw h1 g q => by
  unfold absD at g
  split at g
  · cases g
    rw [hw_int h1]
    exact ⟨_, rfl, q.val hs hw (.int _)⟩
  · cases g
def intD : D → Option D
  | .int i => some (.int i)
  | .bool k => some (.int (if k then 1 else 0))
  | _ => none
theorem c1_int : Cl1 K (fun xs H Q => (∃ i, xs = [.int i] ∧ Q (.int i) H) ∨ ∃ k, xs = [.bl k] ∧ Q (.int (if k then 1 else 0)) H) intD := fun W x H P n d z Q hs hw h1 g q => by
  unfold intD at g
  split at g
  · cases g
    rw [hw_int h1]
    exact .inl ⟨_, rfl, q.val hs hw (.int _)⟩
  · cases g
    rw [hw_bool h1]
    exact .inr ⟨_, rfl, q.val hs hw (.int _)⟩
  · cases g
def max2D : D → D → Option D
  | .int i, .int j => some (.int (if j > i then j else i))
  | _, _ => none
def min2D : D → D → Option D
  | .int i, .int j => some (.int (if j < i then j else i))
  | _, _ => none
theorem c2_max : Cl2 K (fun xs H Q => ∃ i j, xs = [.int i, .int j] ∧ Q (.int (if j > i then j else i)) H) max2D := fun W x y H P n d e z Q hs hw h1 h2 g q => by
  unfold max2D at g
  split at g
  · cases g
    rw [hw_int h1, hw_int h2]
    exact ⟨_, _, rfl, q.val hs hw (.int _)⟩
  · cases g
theorem c2_min : Cl2 K (fun xs H Q => ∃ i j, xs = [.int i, .int j] ∧ Q (.int (if j < i then j else i)) H) min2D := fun W x y H P n d e z Q hs hw h1 h2 g q => by
  unfold min2D at g
  split at g
  · cases g
    rw [hw_int h1, hw_int h2]
    exact ⟨_, _, rfl, q.val hs hw (.int _)⟩
  · cases g
def tupD : D → Option D
  | .list ds => some (.tuple ds)
  | .tuple ds => some (.tuple ds)
  | _ => none
theorem c1_tuple : Cl1 K (fun xs H Q => ∃ p ys, xs = [.ref p] ∧ ((SqL K H p ys ∧ ∀ l, H l = none → Q (.ref l) (upd H l (.tup ys))) ∨ (SqT K H p ys ∧ Q (.ref p) H))) tupD := fun W x H P n d z Q hs hw h1 g q => by
  unfold tupD at g
  split at g
  · cases g
    obtain ⟨a, vs, rfl, ha, hva⟩ := hw_list hs h1
    exact ⟨a, vs, rfl, .inl ⟨ha, fun l hl => q.tup hs hw hl hva⟩⟩
  · cases g
    obtain ⟨a, vs, rfl, ha, hva⟩ := hw_tup hs h1
    refine ⟨a, vs, rfl, .inr ⟨ha, ?_⟩⟩
    cases h1 with
    | hd h => exact q.val hs hw h
    | ct _ c => cases c
  · cases g
def listD : D → Option D
  | .list ds => some (.list ds)
  | .tuple ds => some (.list ds)
  | .dict es => if keyed (.dict es) = true ∧ es ≠ [] then some (.list (es.map (·.1))) else none
  | _ => none
end
def rListOf (K : PySem.W.Frag) : List V → Hp → VK → Prop := fun xs H Q => (∃ p ys, xs = [.ref p] ∧ (SqL K H p ys ∨ SqT K H p ys) ∧ ∀ l, H l = none → Q (.ref l) (upd H l (.lst ys))) ∨ ∃ p kvs, xs = [.ref p] ∧ Rd H p (.dK kvs) ∧ ∀ q, H q = none → Q (.ref q) (upd H q (.lst (kvs.map fun kv => kV kv.1)))
section
variable {X : Cx}
theorem call_list_dR (hc : X.calm = true) : CallR X (.type "list") (fun xs H Q => ∃ p kvs, xs = [.ref p] ∧ Rd H p (.dK kvs) ∧ ∀ q, H q = none → Q (.ref q) (upd H q (.lst (kvs.map fun kv => kV kv.1)))) := by
  intro pins s σ H xs us Q I r h
  obtain ⟨p, kvs, e, hk, q⟩ := h
  subst e
  obtain ⟨u, eu, rx⟩ := vals1 r
  subst eu
  obtain rfl : u = Value.ref p := rx
  obtain ⟨z, lo, vs, rk, hd⟩ := dk_rd I.hok hk
  obtain ⟨ep, hat⟩ := hd.dictAt
  have hl : kvs.length = vs.length := Paired.length rk
  refine PySem.W.kdl_call (PySem.W.kdl_dict (knd := mixKind X.prog X.w) (kvs := vs) (ep := ep) lo) (I.ok.hd hc) hat (by rw [← hl]; exact z) fun h' tk acc' c' hkeep hS hacc => ?_
  refine ⟨.ref s.heap.objs.size, upd H s.heap.objs.size (.lst (kvs.map fun kv => kV kv.1)), I.laid hkeep (Nat.le_refl _) (show ObjOk X.prog X.w _ _ _ (.lst (kvs.map fun kv => kV kv.1)) from ⟨?_, acc'.toList, c', ?_, ?_⟩), rfl, q _ (I.hok.fresh (Nat.le_refl _))⟩
  · rw [List.length_map]; exact z
  · have el : acc'.toList.length = acc'.size := by simp
    refine vals_of_at (by rw [List.length_map, el, hacc.1, hl]) fun j x w h1 h2 => ?_
    obtain ⟨k, y, hky, hi⟩ := hacc.2 j w (by rw [← Array.getElem?_toList]; exact h2)
    have e1 : (kvs.map (·.1))[j]? = some k := by
      rw [KV.keys rk, List.getElem?_map, hky] <;> rfl
    have e2 : (kvs.map fun kv => kV kv.1)[j]? = some (kV k) := by
      have e3 : (kvs.map fun kv => kV kv.1) = (kvs.map (·.1)).map kV := by rw [List.map_map] <;> rfl
      rw [e3, List.getElem?_map, e1] <;> rfl
    rw [e2] at h1
    cases h1
    exact keyIs_rel hi
  · rw [Array.toArray_toList]; exact hS
theorem call_listR (hc : X.calm = true) : CallR X (.type "list") (rListOf X.K) := call_list_of.or (call_list_dR hc)
end
section
variable {K : PySem.W.Frag}
theorem c1_list : Cl1 K (rListOf K) listD := fun W x H P n d z Q hs hw h1 g q => by
  unfold listD at g
  split at g
  · cases g
    obtain ⟨a, vs, rfl, ha, hva⟩ := hw_list hs h1
    exact .inl ⟨a, vs, rfl, .inl ha, fun l hl => q.lst hs hw hl hva⟩
  · cases g
    obtain ⟨a, vs, rfl, ha, hva⟩ := hw_tup hs h1
    exact .inl ⟨a, vs, rfl, .inr ha, fun l hl => q.lst hs hw hl hva⟩
  · split at g
    · rename_i es hk
      cases g
      have go : ∀ (a : Addr) (kvs : List (Key × V)), x = .ref a → Rd H a (.dK kvs) → HdK K P kvs es → rListOf K [x] H Q := fun a kvs e ha he => by
        refine .inr ⟨a, kvs, by rw [e], ha, fun l hl => ?_⟩
        have hv : HdAll K P (kvs.map fun kv => kV kv.1) (es.map (·.1)) := by
          have := hd_keys (K := K) (P := P) (kvs.map (·.1))
          rw [List.map_map] at this
          rw [hdk_keys he]
          exact this
        exact q.lst hs hw hl hv
      cases h1 with
      | hd h =>
        cases h with
        | dK h1 h2 => exact go _ _ rfl (.inr ⟨_, hs _ _ h1⟩) h2
        | dT h1 h2 => exact absurd (keyed_dT h2 hk.1).2 hk.2
      | ct nw c =>
        cases c with
        | dK h1 h2 => exact go _ _ rfl (.inl h1) h2
        | dT h1 h2 => exact absurd (keyed_dT h2 hk.1).2 hk.2
    · cases g
  · cases g
theorem c1_sorted : Cl1 K (rSortD K) sortedD := fun W x H P n d z Q hs hw h1 g q => by
  obtain ⟨ds, h2, h3⟩ := Option.bind_eq_some_iff.mp g
  split at h3
  · rename_i ok
    cases h3
    exact ⟨W, P, x, d, ds, rfl, hs, h1, h2, ok.1, ok.2, fun ws p hp hws => q.lst hs hw hp hws⟩
  · cases h3
end
end Pd
namespace Pd
open PySem L2 PySem.Spec PyProof.Rows

/-! ### lists of whole numbers, of tests -/
def dInts : List D → Option (List Int)
  | [] => some []
  | .int i :: r => (dInts r).map (i :: ·)
  | _ => none
theorem dInts_eq : ∀ {ds : List D} {ns : List Int}, dInts ds = some ns → ds = ns.map .int
  | [], ns, h => by cases h; rfl
  | .int i :: r, ns, h => by
    obtain ⟨ns', h3, h4⟩ := Option.map_eq_some_iff.mp (show (dInts r).map (i :: ·) = some ns from h)
    subst h4
    rw [List.map_cons, ← dInts_eq h3]
  | .none :: r, ns, h => by cases h
  | .bool _ :: r, ns, h => by cases h
  | .str _ :: r, ns, h => by cases h
  | .list _ :: r, ns, h => by cases h
  | .tuple _ :: r, ns, h => by cases h
  | .dict _ :: r, ns, h => by cases h
theorem dInts_ints : ∀ ns : List Int, dInts (ns.map .int) = some ns
  | [] => rfl
  | n :: r => by show (dInts (r.map .int)).map (n :: ·) = _; rw [dInts_ints r]; rfl
def dBools : List D → Option (List Bool)
  | [] => some []
  | .bool i :: r => (dBools r).map (i :: ·)
  | _ => none
theorem dBools_eq : ∀ {ds : List D} {ns : List Bool}, dBools ds = some ns → ds = ns.map .bool
  | [], ns, h => by cases h; rfl
  | .bool i :: r, ns, h => by
    obtain ⟨ns', h3, h4⟩ := Option.map_eq_some_iff.mp (show (dBools r).map (i :: ·) = some ns from h)
    subst h4
    rw [List.map_cons, ← dBools_eq h3]
  | .none :: r, ns, h => by cases h
  | .int _ :: r, ns, h => by cases h
  | .str _ :: r, ns, h => by cases h
  | .list _ :: r, ns, h => by cases h
  | .tuple _ :: r, ns, h => by cases h
  | .dict _ :: r, ns, h => by cases h
theorem dBools_bools : ∀ ns : List Bool, dBools (ns.map .bool) = some ns
  | [] => rfl
  | n :: r => by show (dBools (r.map .bool)).map (n :: ·) = _; rw [dBools_bools r]; rfl
def sumD : D → Option D
  | .list ds => (dInts ds).map fun ns => .int ns.sum
  | _ => none
def maxI : List Int → Int
  | [] => 0
  | [a] => a
  | a :: b :: r => let m := maxI (b :: r); if a < m then m else a
def minI : List Int → Int
  | [] => 0
  | [a] => a
  | a :: b :: r => let m := minI (b :: r); if m < a then m else a
theorem maxI_spec : ∀ {ns : List Int}, ns ≠ [] → maxI ns ∈ ns ∧ ∀ y ∈ ns, y ≤ maxI ns
  | [], h => absurd rfl h
  | [a], _ => ⟨by simp [maxI], fun y hy => by simp [maxI] at *; omega⟩
  | a :: b :: r, _ => by
    obtain ⟨h1, h2⟩ := maxI_spec (ns := b :: r) (by simp)
    unfold maxI
    simp only
    split
    · exact ⟨List.mem_cons_of_mem _ h1, fun y hy => by
        rcases List.mem_cons.mp hy with e | e
        · omega
        · exact h2 y e⟩
    · exact ⟨List.mem_cons_self .., fun y hy => by
        rcases List.mem_cons.mp hy with e | e
        · omega
        · have := h2 y e; omega⟩
theorem minI_spec : ∀ {ns : List Int}, ns ≠ [] → minI ns ∈ ns ∧ ∀ y ∈ ns, minI ns ≤ y
  | [], h => absurd rfl h
  | [a], _ => ⟨by simp [minI], fun y hy => by simp [minI] at *; omega⟩
  | a :: b :: r, _ => by
    obtain ⟨h1, h2⟩ := minI_spec (ns := b :: r) (by simp)
    unfold minI
    simp only
    split
    · exact ⟨List.mem_cons_of_mem _ h1, fun y hy => by
        rcases List.mem_cons.mp hy with e | e
        · omega
        · exact h2 y e⟩
    · exact ⟨List.mem_cons_self .., fun y hy => by
        rcases List.mem_cons.mp hy with e | e
        · omega
        · have := h2 y e; omega⟩
def maxD : D → Option D
  | .list ds => (dInts ds).bind fun ns => if ns ≠ [] then some (.int (maxI ns)) else none
  | _ => none
def minD : D → Option D
  | .list ds => (dInts ds).bind fun ns => if ns ≠ [] then some (.int (minI ns)) else none
  | _ => none
def allD : D → Option D
  | .list ds => (dBools ds).map fun bs => .bool (bs.all id)
  | _ => none
def anyD : D → Option D
  | .list ds => (dBools ds).map fun bs => .bool (bs.any id)
  | _ => none
section
variable {K : PySem.W.Frag}
theorem c1_sum : Cl1 K (rSum K) sumD := fun W x H P n d z Q hs hw h1 g q => by
  unfold sumD at g
  split at g
  · obtain ⟨ns, e1, e2⟩ := Option.map_eq_some_iff.mp g
    cases e2
    have e := dInts_eq e1
    subst e
    obtain ⟨a, vs, rfl, ha, hva⟩ := hw_list hs h1
    rw [hva.ints] at ha
    exact ⟨a, ns, rfl, ha, q.val hs hw (.int _)⟩
  · cases g
theorem c1_max : Cl1 K (rMax K) maxD := fun W x H P n d z Q hs hw h1 g q => by
  unfold maxD at g
  split at g
  · obtain ⟨ns, e1, e2⟩ := Option.bind_eq_some_iff.mp g
    split at e2
    · rename_i hne
      cases e2
      have e := dInts_eq e1
      subst e
      obtain ⟨a, vs, rfl, ha, hva⟩ := hw_list hs h1
      rw [hva.ints] at ha
      obtain ⟨m1, m2⟩ := maxI_spec hne
      refine ⟨a, ns, rfl, ha, List.length_pos_iff.mpr hne, fun m hm hb => ?_⟩
      have : m = maxI ns := Int.le_antisymm (m2 m hm) (hb _ m1)
      rw [this]
      exact q.val hs hw (.int _)
    · cases e2
  · cases g
theorem c1_min : Cl1 K (rMin K) minD := fun W x H P n d z Q hs hw h1 g q => by
  unfold minD at g
  split at g
  · obtain ⟨ns, e1, e2⟩ := Option.bind_eq_some_iff.mp g
    split at e2
    · rename_i hne
      cases e2
      have e := dInts_eq e1
      subst e
      obtain ⟨a, vs, rfl, ha, hva⟩ := hw_list hs h1
      rw [hva.ints] at ha
      obtain ⟨m1, m2⟩ := minI_spec hne
      refine ⟨a, ns, rfl, ha, List.length_pos_iff.mpr hne, fun m hm hb => ?_⟩
      have : m = minI ns := Int.le_antisymm (hb _ m1) (m2 m hm)
      rw [this]
      exact q.val hs hw (.int _)
    · cases e2
  · cases g
theorem c1_all : Cl1 K (rAll K) allD := fun W x H P n d z Q hs hw h1 g q => by
  unfold allD at g
  split at g
  · obtain ⟨ns, e1, e2⟩ := Option.map_eq_some_iff.mp g
    cases e2
    have e := dBools_eq e1
    subst e
    obtain ⟨a, vs, rfl, ha, hva⟩ := hw_list hs h1
    rw [hva.bls] at ha
    exact ⟨a, ns, rfl, ha, q.val hs hw (.bl _)⟩
  · cases g
theorem c1_any : Cl1 K (rAny K) anyD := fun W x H P n d z Q hs hw h1 g q => by
  unfold anyD at g
  split at g
  · obtain ⟨ns, e1, e2⟩ := Option.map_eq_some_iff.mp g
    cases e2
    have e := dBools_eq e1
    subst e
    obtain ⟨a, vs, rfl, ha, hva⟩ := hw_list hs h1
    rw [hva.bls] at ha
    exact ⟨a, ns, rfl, ha, q.val hs hw (.bl _)⟩
  · cases g
end
/-! ### list(range(..)), tuple(range(..)) -/
def rgOkN : Nat := 1000000
def eListRg (f : EM) : EM := fun loc n => match f loc n with
  | some (.int j, n') => if j ≤ 1000000 ∧ -1000000 ≤ j then some (.list (rangeD 0 j.toNat), n') else none
  | _ => none
def eListRg2 (f g : EM) : EM := fun loc n => match f loc n with
  | some (.int i, n1) => match g loc n1 with
    | some (.int j, n2) => if (-1000000 ≤ i ∧ i ≤ 1000000) ∧ (-1000000 ≤ j ∧ j ≤ 1000000) then some (.list (rangeD i (j - i).toNat), n2) else none
    | _ => none
  | _ => none
def eTupRg (f : EM) : EM := fun loc n => match f loc n with
  | some (.int j, n') => if j ≤ 1000000 ∧ -1000000 ≤ j then some (.tuple (rangeD 0 j.toNat), n') else none
  | _ => none
theorem rgV_hd {K : PySem.W.Frag} {P : Hp} (a b : Int) : HdAll K P (rgV a b) (rangeD a (b - a).toNat) := by
  have : ∀ (l : List Nat) (a : Int), HdAll K P (l.map fun i : Nat => V.int (a + (i : Int))) (l.map fun i : Nat => PyData.int (a + (i : Int))) := fun l a => by
    induction l with
    | nil => exact .nil
    | cons x l ih => exact .cons (.int _) ih
  exact this _ a
section
variable {X : Cx} {R : Rt} {e e2 : Expr} {f g : EM} {p p2 pos pos2 : Pos}
theorem df_listRg (hc : X.calm = true) (hm : X.mg "list" = none) (hm2 : X.mg "range" = none) (he : PE X e (tW R f)) (hg : Gl X "list" := by rfl) (hg2 : Gl X "range" := by rfl) (na : starEach [.Call (.Name "range" p2) [e] [] pos2] X.env = (false, eval (.Call (.Name "range" p2) [e] [] pos2) X.env) :: starEach [] X.env := by rfl) (na2 : starEach [e] X.env = (false, eval e X.env) :: starEach [] X.env := by rfl) :
    PE X (.Call (.Name "list" p) [.Call (.Name "range" p2) [e] [] pos2] [] pos) (tF R (eListRg f)) := pe_sub (pe_listRg hc hg hm (prg_1 hg2 hm2 he na2) na) fun σ H Q ⟨P, loc, n, z, n', rp, e, q⟩ => by
  unfold eListRg at e
  split at e
  · rename_i j n1 h1
    split at e
    · rename_i hj
      cases e
      refine ⟨P, loc, n, _, n', rp, h1, fun v P1 H1 s1 hv => ⟨j, hw_int hv, ⟨by omega, by omega, by omega, by omega, by omega⟩, fun p hp => ?_⟩⟩
      have hh := rgV_hd (K := R.K) (P := P1) 0 j
      rw [Int.sub_zero] at hh
      exact q p P1 _ (s1.trans rp.wd (Stp.alloc s1.sub s1.wd hp)) ⟨s1.back rp.wd hp, none_of_sub s1.sub hp, .lst upd_same hh⟩
    · cases e
  · cases e
theorem dg_tupRg (hc : X.calm = true) (hm : X.mg "tuple" = none) (hm2 : X.mg "range" = none) (he : PE X e (tW R f)) (hg : Gl X "tuple" := by rfl) (hg2 : Gl X "range" := by rfl) (na : starEach [.Call (.Name "range" p2) [e] [] pos2] X.env = (false, eval (.Call (.Name "range" p2) [e] [] pos2) X.env) :: starEach [] X.env := by rfl) (na2 : starEach [e] X.env = (false, eval e X.env) :: starEach [] X.env := by rfl) :
    PE X (.Call (.Name "tuple" p) [.Call (.Name "range" p2) [e] [] pos2] [] pos) (tG R (eTupRg f)) := pe_sub (pe_tupRg hc hg hm (prg_1 hg2 hm2 he na2) na) fun σ H Q ⟨P, loc, n, z, n', rp, e, q⟩ => by
  unfold eTupRg at e
  split at e
  · rename_i j n1 h1
    split at e
    · rename_i hj
      cases e
      refine ⟨P, loc, n, _, n', rp, h1, fun v P1 H1 s1 hv => ⟨j, hw_int hv, ⟨by omega, by omega, by omega, by omega, by omega⟩, fun p hp => ?_⟩⟩
      have hh := rgV_hd (K := R.K) (P := P1) 0 j
      rw [Int.sub_zero] at hh
      exact Post.tup (K := R.K) (W := R.W) (P := P1) (n := n') (Q := Q) (fun v P2 H2 s2 hv => q v P2 H2 (s1.trans rp.wd s2) (gv_back rp.wd s1 hv)) s1.sub s1.wd hp hh
    · cases e
  · cases e
theorem df_listRg2 (hc : X.calm = true) (hm : X.mg "list" = none) (hm2 : X.mg "range" = none) (he : PE X e (tW R f)) (he2 : PE X e2 (tW R g)) (hg : Gl X "list" := by rfl) (hg2 : Gl X "range" := by rfl) (na : starEach [.Call (.Name "range" p2) [e, e2] [] pos2] X.env = (false, eval (.Call (.Name "range" p2) [e, e2] [] pos2) X.env) :: starEach [] X.env := by rfl)
    (na2 : starEach [e, e2] X.env = (false, eval e X.env) :: starEach [e2] X.env := by rfl) (na3 : starEach [e2] X.env = (false, eval e2 X.env) :: starEach [] X.env := by rfl) (hp : (backTo pos2 (starEach [e2] X.env)).any (·.1) = false := by rfl) :
    PE X (.Call (.Name "list" p) [.Call (.Name "range" p2) [e, e2] [] pos2] [] pos) (tF R (eListRg2 f g)) := pe_sub (pe_listRg hc hg hm (prg_2 hg2 hm2 he he2 na2 na3 hp) na) fun σ H Q ⟨P, loc, n, z, n', rp, e, q⟩ => by
  unfold eListRg2 at e
  split at e
  · rename_i i n1 h1
    split at e
    · rename_i j n2 h2
      split at e
      · rename_i hj
        cases e
        refine ⟨P, loc, n, _, n1, rp, h1, fun v P1 H1 s1 hv => ⟨P1, loc, n1, _, n', rp.step s1, h2, fun v2 P2 H2 s2 hv2 => ⟨i, j, hw_int hv, hw_int hv2, ⟨by omega, by omega, by omega, by omega, by omega⟩, fun p hp => ?_⟩⟩⟩
        have s := s1.trans rp.wd s2
        exact q p P2 _ (s.trans rp.wd (Stp.alloc s.sub s.wd hp)) ⟨s.back rp.wd hp, none_of_sub s.sub hp, .lst upd_same (rgV_hd (K := R.K) (P := P2) i j)⟩
      · cases e
    · cases e
  · cases e
/-! ### a, b = x, y -/
def sPar (i j : Nat) (fa fb : EM) : SM := fun loc n => (fa loc n).bind fun p => (fb loc p.2).map fun q => (.nx, (loc.set i (.val p.1)).set j (.val q.1), q.2)
def sParO (i j : Nat) (fa fb : EM) : SM := fun loc n => (fa loc n).bind fun p => (fb loc p.2).map fun q => (.nx, (loc.set i (.val p.1)).set j (.own q.1), q.2)
variable {i j : Nat} {x y : Str} {a b : Expr} {fa fb : EM} {px py pt : Pos} {kt : Nat} {k2 : Nat} {pt2 : Pos}
theorem ds_par (hc : X.calm = true) (hN : X.N.Nodup) (ha : PE X a (tD R fa)) (hb : PE X b (tD R fb)) (hi : X.N[i]? = some x := by rfl) (hj : X.N[j]? = some y := by rfl) (hij : i ≠ j := by decide)
    (hx : X.env.scope.names.lookup x = some .local := by rfl) (hy : X.env.scope.names.lookup y = some .local := by rfl)
    (hw : swappedStores [.Tuple [.Name x px, .Name y py] kt pt] (.Tuple [a, b] k2 pt2) X.env = pure (some [x, y]) := by rfl)
    (hs : swapsWithSole [.Tuple [.Name x px, .Name y py] kt pt] (.Tuple [a, b] k2 pt2) pos.line X.env = pure false := by rfl)
    (s1 : starEach [a, b] X.env = (false, eval a X.env) :: starEach [b] X.env := by rfl) (s2 : starEach [b] X.env = (false, eval b X.env) :: starEach [] X.env := by rfl) :
    PS X (.Assign [.Tuple [.Name x px, .Name y py] kt pt] (.Tuple [a, b] k2 pt2) pos) (tS R (sPar i j fa fb)) := ps_sub (ps_par hc hN hi hj hij hx hy (pa_cons ha (pa_cons hb pa_nil s2) s1) hw hs) fun Dn σ H ⟨P, loc, n, o, loc', n', rp, e, q⟩ => by
  obtain ⟨⟨d1, n1⟩, e1, e2⟩ := Option.bind_eq_some_iff.mp e
  obtain ⟨⟨d2, n2⟩, e3, e4⟩ := Option.map_eq_some_iff.mp e2
  cases e4
  exact ⟨P, loc, n, d1, n1, rp, e1, fun v P1 H1 s1 hv => ⟨P1, loc, n1, d2, n2, rp.step s1, e3, fun w P2 H2 s2 hw => ⟨v, w, rfl, q P2 H2 _ (s1.ple.trans s2.ple) ((((rp.step s1).step s2).set i (hv.mono s2.ple)).set j hw)⟩⟩⟩
theorem ds_parO (hc : X.calm = true) (hN : X.N.Nodup) (ha : PE X a (tD R fa)) (hb : PE X b (tF R fb)) (hi : X.N[i]? = some x := by rfl) (hj : X.N[j]? = some y := by rfl) (hij : i ≠ j := by decide)
    (hx : X.env.scope.names.lookup x = some .local := by rfl) (hy : X.env.scope.names.lookup y = some .local := by rfl)
    (hw : swappedStores [.Tuple [.Name x px, .Name y py] kt pt] (.Tuple [a, b] k2 pt2) X.env = pure (some [x, y]) := by rfl)
    (hs : swapsWithSole [.Tuple [.Name x px, .Name y py] kt pt] (.Tuple [a, b] k2 pt2) pos.line X.env = pure false := by rfl)
    (s1 : starEach [a, b] X.env = (false, eval a X.env) :: starEach [b] X.env := by rfl) (s2 : starEach [b] X.env = (false, eval b X.env) :: starEach [] X.env := by rfl) :
    PS X (.Assign [.Tuple [.Name x px, .Name y py] kt pt] (.Tuple [a, b] k2 pt2) pos) (tS R (sParO i j fa fb)) := ps_sub (ps_par hc hN hi hj hij hx hy (pa_cons ha (pa_cons hb pa_nil s2) s1) hw hs) fun Dn σ H ⟨P, loc, n, o, loc', n', rp, e, q⟩ => by
  obtain ⟨⟨d1, n1⟩, e1, e2⟩ := Option.bind_eq_some_iff.mp e
  obtain ⟨⟨d2, n2⟩, e3, e4⟩ := Option.map_eq_some_iff.mp e2
  cases e4
  refine ⟨P, loc, n, d1, n1, rp, e1, fun v P1 H1 s1 hv => ⟨P1, loc, n1, d2, n2, rp.step s1, e3, fun a P2 H2 s2 hf => ⟨v, _, rfl, q P2 H2 _ (s1.ple.trans s2.ple) ?_⟩⟩⟩
  exact ((rp.step s1).set i hv).setOwn s2 j hf
end
end Pd
namespace Pd
open PySem L2 PySem.Spec PyProof.Rows

/-! ### the world's dict -/
theorem kne : ¬ ((Sum.inr (Str.ofString "draws") : Key) = Sum.inr (Str.ofString "at")) := by decide
theorem kne' : ¬ (Str.ofString "draws" = Str.ofString "at") := fun e => kne (by rw [e])
theorem wk_at (W : Wp) (n : Nat) : valV (wkvs W n) (.inr "at" : Key) = some (.int n) := by
  unfold wkvs
  rw [valV_neg kne, valV_pos rfl]
theorem wk_dr (W : Wp) (n : Nat) : valV (wkvs W n) (.inr "draws" : Key) = some (.ref W.da) := by
  unfold wkvs
  rw [valV_pos rfl]
theorem wk_put (W : Wp) (n : Nat) (v : V) : putK (wkvs W n) (.inr "at" : Key) v = [(.inr "draws", .ref W.da), (.inr "at", v)] := by
  unfold wkvs putK
  simp [kne, kne']
def eWat (i : Nat) : EM := fun loc n => match loc[i]? with
  | some .wd => some (.int n, n)
  | _ => none
def eWdr (dr : List Int) (i : Nat) : EM := fun loc n => match loc[i]? with
  | some .wd => some (.list (dr.map .int), n)
  | _ => none
def sWinc (i : Nat) : SM := fun loc n => match loc[i]? with
  | some .wd => some (.nx, loc, n + 1)
  | _ => none
section
variable {X : Cx} {R : Rt} {i : Nat} {x : Str} {p p1 p2 pos : Pos} {j : Nat}
theorem de_wat (hu : X.A.units + 64 < cLine) (hN : X.N[i]? = some x := by rfl) (hv : Vis X.env.scope x := by first | exact Or.inl rfl | exact Or.inr (Or.inl rfl) | exact Or.inr (Or.inr rfl)) (hs : NoSl (.Constant (.str "at") j p2) := by intro _ _; rfl) (hd : (x == ("__debug__" : Str)) = false := by decide)
    (hcd : (x == ("__classdict__" : Str)) = false := by decide) : PE X (.Subscript (.Name x p1) (.Constant (.str "at") j p2) pos) (tD R (eWat i)) := pe_sub (pe_dget (by omega) (pe_var hN hv hd hcd) pe_str hs) fun σ H Q ⟨P, loc, n, d, n', rp, e, q⟩ => by
  unfold eWat at e
  split at e
  · rename_i h
    cases e
    obtain ⟨ew, on⟩ := rp.cell i _ h
    refine ⟨_, ew, _, .int n, rfl, .inl ⟨_, .inr "at", .inl (rp.wd on).1, rfl, (wk_at _ _).symm⟩, ?_⟩
    exact q _ P H (Stp.refl rp.sub rp.wd) (.int _)
  · cases e
theorem de_wdr (hu : X.A.units + 64 < cLine) (hN : X.N[i]? = some x := by rfl) (hv : Vis X.env.scope x := by first | exact Or.inl rfl | exact Or.inr (Or.inl rfl) | exact Or.inr (Or.inr rfl)) (hs : NoSl (.Constant (.str "draws") j p2) := by intro _ _; rfl) (hd : (x == ("__debug__" : Str)) = false := by decide)
    (hcd : (x == ("__classdict__" : Str)) = false := by decide) : PE X (.Subscript (.Name x p1) (.Constant (.str "draws") j p2) pos) (tD R (eWdr R.W.draws i)) := pe_sub (pe_dget (by omega) (pe_var hN hv hd hcd) pe_str hs) fun σ H Q ⟨P, loc, n, d, n', rp, e, q⟩ => by
  unfold eWdr at e
  split at e
  · rename_i h
    cases e
    obtain ⟨ew, on⟩ := rp.cell i _ h
    refine ⟨_, ew, _, _, rfl, .inl ⟨_, .inr "draws", .inl (rp.wd on).1, rfl, (wk_dr _ _).symm⟩, ?_⟩
    exact q _ P H (Stp.refl rp.sub rp.wd) (rp.wd on).2.2
  · cases e
theorem Rep.tick {P : Hp} {loc : Loc} {n : Nat} {σ : L2.St} {H : Hp} (r : Rep R P loc n σ H) (on : R.W.on = true) (n' : Nat) : Rep R P loc n' σ (upd H R.W.wa (.dK (wkvs R.W n'))) := by
  obtain ⟨hw, hp, hd⟩ := r.wd on
  refine ⟨fun b u h => ?_, fun b u h hn => ?_, r.ple0, r.new0, fun _ => ⟨upd_same, hp, hd⟩, r.len, fun j c hj => ?_, r.sep⟩
  · rw [upd_ne (fun z => by rw [z, hp] at h; cases h)]; exact r.sub b u h
  · rw [upd_ne (hn on)]; exact r.ext0 b u h hn
  · have q := r.cell j c hj
    cases c with
    | un => trivial
    | val d => exact q
    | own d1 =>
      obtain ⟨b, e, b0, bP, bw, bc⟩ := q
      exact ⟨b, e, b0, bP, bw, bc.step (PLe.refl P) fun o e => by rw [upd_ne (bw on)]; exact e⟩
    | wd => exact q
theorem ds_winc (hu : X.A.units + 64 < cLine) (hN : X.N[i]? = some x := by rfl) (hv : Vis X.env.scope x := by first | exact Or.inl rfl | exact Or.inr (Or.inl rfl) | exact Or.inr (Or.inr rfl)) {p3 : Pos} {j2 : Nat}
    (ha : ∀ ov iv new, augStore (.Constant (.str "at") j p2) ov iv new = (do holding [new, ov, iv] (setItem ov iv new); release [new, ov, iv] []; pure .next) := by intro _ _ _; rfl) (hd : (x == ("__debug__" : Str)) = false := by decide)
    (hcd : (x == ("__classdict__" : Str)) = false := by decide) : PS X (.AugAssign (.Subscript (.Name x p1) (.Constant (.str "at") j p2) p) .Add (.Constant (.int 1) j2 p3) pos) (tS R (sWinc i)) := ps_sub (ps_daug (by omega) (pe_var hN hv hd hcd) pe_str pe_int in_add ha) fun Dn σ H ⟨P, loc, n, o, loc', n', rp, e, q⟩ => by
  unfold sWinc at e
  split at e
  · rename_i h
    cases e
    obtain ⟨ew, on⟩ := rp.cell i _ h
    refine ⟨_, ew, _, .int n, rfl, .inl ⟨_, .inr "at", .inl (rp.wd on).1, rfl, (wk_at _ _).symm⟩, _, _, rfl, rfl, _, .inl ⟨_, .inr "at", (rp.wd on).1, rfl, ?_, rfl⟩, ?_⟩
    · show 2 < sizeLine
      decide
    · rw [wk_put]
      exact q P _ σ (PLe.refl P) (rp.tick on (n + 1))
  · cases e
/-! ### the law's own body -/
theorem Hd.offW {K : PySem.W.Frag} {W W' : Wp} {P H : Hp} {n : Nat} (h : World K W P H n) : True := trivial
/-- {'draws': .., 'at': 0}: the world begins -/
def tWorld (R : Rt) (i : Nat) (f : EM) : TS := fun Dn σ H => ∃ P loc n dr, R.W.on = false ∧ Rep R P loc n σ H ∧ f loc n = some (.list (dr.map .int), n) ∧ (∀ (j : Nat) (d : D), loc[j]? ≠ some (.own d)) ∧
  ∀ (W' : Wp) (P' H' : Hp) (σ' : L2.St), W'.on = true → W'.draws = dr → Rep ⟨R.K, W', P', H'⟩ P' (loc.set i .wd) 0 σ' H' → Dn.nx σ' H'
theorem ds_world {f : EM} {e1 : Expr} {py pz pd : Pos} {j1 j2 j3 : Nat} (hN : X.N.Nodup) (he : PE X e1 (tD R f)) (hi : X.N[i]? = some x := by rfl) (hx : L2.Loc X.env.scope x := by first | exact .inl rfl | exact .inr rfl)
    (hs : swapsWith (.Dict [some (.Constant (.str "draws") j1 p1), some (.Constant (.str "at") j2 p2)] [e1, .Constant (.int 0) j3 pz] pd) (some (.Name x py)) pos.line X.env = pure false := by rfl)
    (hf : X.fn x = true ∨ X.env.scope.names.lookup x = some .local := by first | exact .inl rfl | exact .inr rfl | assumption) :
    PS X (.Assign [.Name x py] (.Dict [some (.Constant (.str "draws") j1 p1), some (.Constant (.str "at") j2 p2)] [e1, .Constant (.int 0) j3 pz] pd) pos) (tWorld R i f) :=
  ps_sub (ps_set hN hi hx (pe_disp (pps_cons pe_str he (pps_cons pe_str pe_int pps_nil)) rfl rfl (by simp) (by simp)) hs hf) fun Dn σ H ⟨P, loc, n, dr, off, rp, e, no, q⟩ => by
    intro p hp
    show tPairs _ σ (upd H p (.dK [])) _
    have s0 : Stp R.K R.W P H P (upd H p (.dK [])) n := Stp.alloc rp.sub rp.wd hp
    refine ⟨P, loc, n, _, n, rp.step s0, e, fun v P1 H1 s1 hv => ?_⟩
    have s01 := s0.trans rp.wd s1
    have nw : Nw R.W p := rp.wd.nw hp
    have hp1 : H1 p = some (.dK []) := s1.ext p _ upd_same nw
    have hP0 : P p = none := none_of_sub rp.sub hp
    have hP1 : P1 p = none := s1.keepsNone hP0 upd_same (fun _ z => nomatch z)
    cases hv with
    | @lst a vs _ ha hvs =>
    refine ⟨hp1, [(.inr "draws", .ref a), (.inr "at", .int 0)], rfl, by simp, ?_⟩
    have em : mergeK [] [((.inr "draws" : Key), V.ref a), (.inr "at", .int 0)] = wkvs ⟨true, p, a, dr⟩ 0 := by
      unfold mergeK wkvs
      simp [putK, kne, kne']
    rw [em]
    have r1 := rp.step s01
    refine q ⟨true, p, a, dr⟩ P1 _ _ rfl rfl ?_
    refine ⟨fun b u h => ?_, fun _ _ h _ => h, PLe.refl _, fun _ _ h => .inl h, fun _ => ⟨upd_same, hP1, .lst ha hvs⟩, by simp [r1.len], fun j c hj => ?_, fun j k b d1 d2 hj => ?_⟩
    · rw [upd_ne (fun z => by rw [z, hP1] at h; cases h)]; exact r1.sub b u h
    · rcases getElem?_set' hj with ⟨rfl, rfl, hl⟩ | ⟨ne, hj⟩
      · exact ⟨by rw [List.getElem?_set_self (by rw [← rp.len]; exact hl)], rfl⟩
      · rw [List.getElem?_set_ne ne]
        have q := r1.cell j c hj
        cases c with
        | un => trivial
        | val d => exact q
        | own d => exact absurd hj (no j d)
        | wd => exact absurd q.2 (by rw [off]; decide)
    · rcases getElem?_set' hj with ⟨_, z, _⟩ | ⟨_, hj⟩
      · cases z
      · exact absurd hj (no j d1)
end
/-- the rest of the law's body, in whatever world it is -/
theorem pss_ex {X : Cx} {sts : List Stmt} {K : PySem.W.Frag} {body : List Int → SM} (h : ∀ (W : Wp) (P0 H0 : Hp), PSs X sts (tS ⟨K, W, P0, H0⟩ (body W.draws))) : PSs X sts (fun Dn σ H => ∃ (W : Wp) (P0 H0 : Hp), tS ⟨K, W, P0, H0⟩ (body W.draws) Dn σ H) :=
  ⟨fun pins s σ H Dn I ⟨W, P0, H0, q⟩ => (h W P0 H0).run pins s σ H Dn I q⟩
def spLaw (K : PySem.W.Frag) : Sp := fun vs H Q _ => ∃ (a : Addr) (ns : List Int), vs = [.ref a] ∧ SqL K H a (ns.map V.int) ∧ ns.length ≤ 63 ∧ ∀ H', Q (.bl true) H'
/-- what the law's own frame begins with -/
def law0 (ns : List Int) (k : Nat) : Loc := .val (.list (ns.map .int)) :: List.replicate k .un
section
variable {P : Program} {w : PySem.World} {K : PySem.W.Frag} {mg : Str → Option Value} {base : Heap}
theorem ok_lawG {x qual : Str} {st st1 : Stmt} {rest : List Stmt} {f : Addr} {fd : FuncData} {N : List Str} {k nl i : Nat} {fe : EM} {body : List Int → SM} (F : Fun K x qual st f fd) (S : FnScope N ["script"] (defScope st)) (hN : N.length = nl + 1) (hb : defBody st = st1 :: rest)
    (h1 : ∀ (cdv : Value) (A : Around) (outer : List Env) (s : Shared) (H : Hp) (E : XK) (W : Wp) (P0 H0 : Hp), Room k (bX P w K mg base N qual st f cdv A outer s H E).A → PS (bX P w K mg base N qual st f cdv A outer s H E) st1 (tWorld ⟨K, W, P0, H0⟩ i fe))
    (h2 : ∀ (cdv : Value) (A : Around) (outer : List Env) (s : Shared) (H : Hp) (E : XK) (W : Wp) (P0 H0 : Hp), Room k (bX P w K mg base N qual st f cdv A outer s H E).A → PSs (bX P w K mg base N qual st f cdv A outer s H E) rest (tS ⟨K, W, P0, H0⟩ (body W.draws)))
    (plain : ∀ ns : List Int, ns.length ≤ 63 → ∃ dr loc' n', fe (law0 ns nl) 0 = some (.list (dr.map .int), 0) ∧ body dr ((law0 ns nl).set i .wd) 0 = some (.ret (.bool true), loc', n')) :
    FnOk P w K mg base CX0 (k + 1) f fd ["script"] (spLaw K) := by
  refine F.ok S (fun vs H Q E h => ?_) (fun cdv A outer s H vs Q E hr h => ?_)
  · obtain ⟨a, ns, rfl, _⟩ := h
    rfl
  · obtain ⟨a, ns, rfl, hS, hlen, q⟩ := h
    obtain ⟨dr, loc', n', e1, e2⟩ := plain ns hlen
    rw [hb]
    let R : Rt := ⟨K, ⟨false, 0, 0, []⟩, fun b => if b = a then H b else none, H⟩
    refine ⟨_, pss_cons (h1 cdv A outer s H E R.W R.P0 R.H0 hr) (pss_ex (K := K) fun W' P' H' => h2 cdv A outer s H E W' P' H' hr), ?_⟩
    have hP : PLe R.P0 H := fun b u h => by
      have h' : (if b = a then H b else none) = some u := h
      split at h'
      · exact h'
      · cases h'
    have hS' : SqL K R.P0 a (ns.map V.int) := by
      have e : R.P0 a = H a := by show (if a = a then H a else none) = _; rw [if_pos rfl]
      rcases hS with hS | hS
      · left
        rcases hS with hS | ⟨o, hS⟩
        · exact .inl (by rw [e]; exact hS)
        · exact .inr ⟨o, by rw [e]; exact hS⟩
      · exact .inr hS
    refine ⟨R.P0, law0 ns nl, 0, dr, rfl, ?_, e1, fun j d => ?_, fun W' P' H' σ' on hdr rp => ?_⟩
    · refine ⟨hP, fun _ _ h _ => h, PLe.refl _, fun _ _ h => .inl h, (fun z => Bool.noConfusion z), ?_, fun i c hi => ?_, fun i j b d e hi => ?_⟩
      · unfold law0 L2.start
        simp [hN]
      · cases i with
        | zero =>
          cases hi
          exact ⟨_, rfl, .lst hS' (HdAll.of_ints ns)⟩
        | succ i =>
          have : c = .un := by
            have h' : (List.replicate nl Cell.un)[i]? = some c := hi
            rw [List.getElem?_replicate] at h'
            split at h'
            · exact (Option.some.inj h').symm
            · cases h'
          subst this
          trivial
      · exfalso
        cases i with
        | zero => cases hi
        | succ i =>
          have h' : (List.replicate nl Cell.un)[i]? = some (.own d) := hi
          rw [List.getElem?_replicate] at h'
          split at h'
          · cases h'
          · cases h'
    · intro hj
      cases j with
      | zero => cases hj
      | succ j =>
        have h' : (List.replicate nl Cell.un)[j]? = some (.own d) := hj
        rw [List.getElem?_replicate] at h'
        split at h'
        · cases h'
        · cases h'
    · subst hdr
      refine ⟨W', P', H', P', _, 0, _, _, _, rp, e2, fun P2 H2 σ2 l2 r2 => ?_⟩
      intro v hv
      cases hv
      exact q H2
end
end Pd
namespace Pd
open PySem L2 PySem.Spec PyProof.Rows
theorem bt_len : bootBuiltins ("len" : Str) = some (.builtin "len") := by first | exact boot_len | exact PySem.boot_len | exact PyProof.Rows.boot_len
theorem bt_abs : bootBuiltins ("abs" : Str) = some (.builtin "abs") := by first | exact boot_abs | exact PyProof.Rows.boot_abs
theorem bt_int : bootBuiltins ("int" : Str) = some (.type "int") := by first | exact PyProof.Rows.boot_int | exact boot_int
theorem bt_list : bootBuiltins ("list" : Str) = some (.type "list") := by first | exact PyProof.Rows.boot_list | exact boot_list
theorem bt_tuple : bootBuiltins ("tuple" : Str) = some (.type "tuple") := by first | exact PyProof.Rows.boot_tuple | exact boot_tuple
theorem bt_str : bootBuiltins ("str" : Str) = some (.type "str") := by first | exact PyProof.Rows.boot_str | exact boot_str
theorem bt_dict : bootBuiltins ("dict" : Str) = some (.type "dict") := by first | exact PyProof.Rows.boot_dict | exact boot_dict
theorem bt_set : bootBuiltins ("set" : Str) = some (.type "set") := by first | exact PyProof.Rows.boot_set | exact boot_set
theorem bt_sum : bootBuiltins ("sum" : Str) = some (.builtin "sum") := by first | exact PyProof.Rows.boot_sum | exact boot_sum | exact PySem.boot_sum
theorem bt_max : bootBuiltins ("max" : Str) = some (.builtin "max") := by first | exact PyProof.Rows.boot_max | exact boot_max | exact PySem.boot_max
theorem bt_min : bootBuiltins ("min" : Str) = some (.builtin "min") := by first | exact PyProof.Rows.boot_min | exact boot_min | exact PySem.boot_min
theorem bt_all : bootBuiltins ("all" : Str) = some (.builtin "all") := by first | exact PyProof.Rows.boot_all | exact boot_all | exact PySem.boot_all
theorem bt_any : bootBuiltins ("any" : Str) = some (.builtin "any") := by first | exact PyProof.Rows.boot_any | exact boot_any | exact PySem.boot_any
theorem bt_sorted : bootBuiltins ("sorted" : Str) = some (.builtin "sorted") := by first | exact PyProof.Rows.boot_sorted | exact boot_sorted | exact PySem.boot_sorted
theorem bt_isinstance : bootBuiltins ("isinstance" : Str) = some (.builtin "isinstance") := by first | exact PyProof.Rows.boot_isinstance | exact boot_isinstance | exact PySem.boot_isinstance
end Pd
namespace Pd
open PySem L2

/-! ### the combinators, evaluated -/
section
variable {f g fa fb : EM} {loc : Loc} {n : Nat} {d e : D} {i j : Int}
@[simp] theorem ev_c : eC d loc n = some (d, n) := rfl
@[simp] theorem ev_var {k : Nat} : eVar k loc n = match loc[k]? with
  | some (.val d) => some (d, n)
  | _ => none := rfl
@[simp] theorem ev_varW {k : Nat} : eVarW k loc n = match loc[k]? with
  | some (.val d) => some (d, n)
  | some (.own d) => some (d, n)
  | _ => none := rfl
@[simp] theorem ev_op {o : D → D → Option D} : eOp o fa fb loc n = (fa loc n).bind fun p => (fb loc p.2).bind fun q => (o p.1 q.1).map fun z => (z, q.2) := rfl
@[simp] theorem ev_op1 {o : D → Option D} : eOp1 o fa loc n = (fa loc n).bind fun p => (o p.1).map fun z => (z, p.2) := rfl
@[simp] theorem ev_asB : asB f loc n = match f loc n with
  | some (.bool b, n') => some (b, n')
  | _ => none := rfl
@[simp] theorem ev_mAnd {a b : TM} : mAnd a b loc n = (a loc n).bind fun p => if p.1 = true then b loc p.2 else some (false, p.2) := rfl
@[simp] theorem ev_mOr {a b : TM} : mOr a b loc n = (a loc n).bind fun p => if p.1 = true then some (true, p.2) else b loc p.2 := rfl
@[simp] theorem ev_mNot {a : TM} : mNot a loc n = (a loc n).map fun p => (!p.1, p.2) := rfl
@[simp] theorem ev_and : eAnd fa fb loc n = match fa loc n with
  | some (.bool true, n1) => fb loc n1
  | some (.bool false, n1) => some (.bool false, n1)
  | _ => none := rfl
@[simp] theorem ev_or : eOr fa fb loc n = match fa loc n with
  | some (.bool true, n1) => some (.bool true, n1)
  | some (.bool false, n1) => fb loc n1
  | _ => none := rfl
@[simp] theorem ev_not : eNot fa loc n = match fa loc n with
  | some (.bool b, n1) => some (.bool (!b), n1)
  | _ => none := rfl
@[simp] theorem ev_if {t : TM} : eIf t fa fb loc n = (t loc n).bind fun p => if p.1 = true then fa loc p.2 else fb loc p.2 := rfl
@[simp] theorem ev_nil : aNil loc n = some ([], n) := rfl
@[simp] theorem ev_cons {a : AM} : aCons f a loc n = (f loc n).bind fun p => (a loc p.2).map fun q => (p.1 :: q.1, q.2) := rfl
@[simp] theorem ev_tup {a : AM} : eTup a loc n = (a loc n).bind fun p => if p.1.length ≤ 1000 then some (.tuple p.1, p.2) else none := rfl
@[simp] theorem ev_list {a : AM} : eList a loc n = (a loc n).bind fun p => if p.1.length ≤ 1000 then some (.list p.1, p.2) else none := rfl
@[simp] theorem ev_yes : mYes loc n = some (true, n) := rfl
@[simp] theorem ev_gN {k : Nat} : gN k d loc = some (loc.set k (.val d)) := rfl
@[simp] theorem ev_gsNil : gsNil [] loc = some loc := rfl
@[simp] theorem ev_gsCons {a : GM} {b : GMs} {ds : List D} : gsCons a b (d :: ds) loc = (a d loc).bind fun loc1 => b ds loc1 := rfl
@[simp] theorem ev_gT {k : Nat} {h : GMs} {ds : List D} : gT k h (.tuple ds) loc = if ds.length = k then h ds loc else none := rfl
@[simp] theorem ev_gTl {k : Nat} {h : GMs} {ds : List D} : gT k h (.list ds) loc = if ds.length = k then h ds loc else none := rfl
@[simp] theorem ev_wat {k : Nat} : eWat k loc n = match loc[k]? with
  | some .wd => some (.int n, n)
  | _ => none := rfl
@[simp] theorem ev_wdr {dr : List Int} {k : Nat} : eWdr dr k loc n = match loc[k]? with
  | some .wd => some (.list (dr.map .int), n)
  | _ => none := rfl
@[simp] theorem ev_pNone : pNone loc n = some (none, n) := rfl
@[simp] theorem ev_pSome : pSome f loc n = match f loc n with
  | some (.int i, n') => some (some i, n')
  | _ => none := rfl
@[simp] theorem ev_slice {lo hi : PM} : eSlice f lo hi loc n = (f loc n).bind fun p => (lo loc p.2).bind fun q => (hi loc q.2).bind fun r => (sliceD q.1 r.1 p.1).map fun z => (z, r.2) := rfl
@[simp] theorem ev_call {F : FM} {ar : Nat} {a : AM} : eCall F ar a loc n = (a loc n).bind fun p => if p.1.length = ar then F p.1 p.2 else none := rfl
@[simp] theorem ev_callW {k : Nat} {F : FM} {ar : Nat} {a : AM} : eCallW k F ar a loc n = match loc[k]? with
  | some .wd => (a loc n).bind fun p => if p.1.length = ar then F p.1 p.2 else none
  | _ => none := rfl
@[simp] theorem ev_iVal : iVal f loc n = (f loc n).bind fun p => (itemsOf p.1).map fun ds => (ds, p.2) := rfl
@[simp] theorem ev_iValW : iValW f loc n = (f loc n).bind fun p => (itemsW p.1).map fun ds => (ds, p.2) := rfl
@[simp] theorem ev_rg1 : iRange1 f loc n = match f loc n with
  | some (.int j, n') => if -LIMZ ≤ j ∧ j ≤ LIMZ then some (rangeD 0 j.toNat, n') else none
  | _ => none := rfl
@[simp] theorem ev_rg2 : iRange2 f g loc n = match f loc n with
  | some (.int i, n1) => match g loc n1 with
    | some (.int j, n2) => if (-LIMZ ≤ i ∧ i ≤ LIMZ) ∧ -LIMZ ≤ j ∧ j ≤ LIMZ then some (rangeD i (j - i).toNat, n2) else none
    | _ => none
  | _ => none := rfl
@[simp] theorem ev_lrg : eListRg f loc n = match f loc n with
  | some (.int j, n') => if j ≤ 1000000 ∧ -1000000 ≤ j then some (.list (rangeD 0 j.toNat), n') else none
  | _ => none := rfl
@[simp] theorem ev_lc {it : IM} {vs : List Nat} {gm : GM} {c : TM} : eLc it vs gm c f loc n = (it loc n).bind fun p => if p.1.length ≤ LIM then (comp gm c f (wipeL loc vs) p.1 p.2).map fun r => (.list r.1, r.2) else none := rfl
@[simp] theorem ev_wipe0 : wipeL loc [] = loc := rfl
@[simp] theorem ev_wipe1 {v : Nat} {vs : List Nat} : wipeL loc (v :: vs) = (wipeL loc vs).set v .un := rfl
end
section
variable {f g : SM} {fe fa fb : EM} {loc : Loc} {n : Nat}
@[simp] theorem ev_sNil : sNil loc n = some (.nx, loc, n) := rfl
@[simp] theorem ev_sSeq : sSeq f g loc n = (f loc n).bind fun p => match p.1 with
  | .nx => g p.2.1 p.2.2
  | o => some (o, p.2.1, p.2.2) := rfl
@[simp] theorem ev_sSet {gm : GM} : sSet gm fe loc n = (fe loc n).bind fun p => (gm p.1 loc).map fun loc' => (.nx, loc', p.2) := rfl
@[simp] theorem ev_sOwn {i : Nat} : sOwn i fe loc n = (fe loc n).map fun p => (.nx, loc.set i (.own p.1), p.2) := rfl
@[simp] theorem ev_sSetLc {i : Nat} : sSetLc i fe loc n = (fe loc n).map fun p => (.nx, loc.set i (.val p.1), p.2) := rfl
@[simp] theorem ev_sRet : sRet fe loc n = (fe loc n).map fun p => (.ret p.1, loc, p.2) := rfl
@[simp] theorem ev_sExpr : sExpr fe loc n = (fe loc n).map fun p => (.nx, loc, p.2) := rfl
@[simp] theorem ev_sIf {c : TM} : sIf c f g loc n = (c loc n).bind fun p => if p.1 = true then f loc p.2 else g loc p.2 := rfl
@[simp] theorem ev_sFrz {i : Nat} : sFrz i f loc n = match loc[i]? with
  | some (.own d) => f (loc.set i (.val d)) n
  | _ => f loc n := rfl
@[simp] theorem ev_sAug {i : Nat} {g : D → D → Option D} : sAug i g fe loc n = match loc[i]? with
  | some (.val d) => (fe loc n).bind fun p => (g d p.1).map fun z => (.nx, loc.set i (.val z), p.2)
  | _ => none := rfl
@[simp] theorem ev_sAppend {i : Nat} : sAppend i fe loc n = match loc[i]? with
  | some (.own (.list ds)) => (fe loc n).bind fun p => if ds.length < LIM then some (.nx, loc.set i (.own (.list (ds ++ [p.1]))), p.2) else none
  | _ => none := rfl
@[simp] theorem ev_sFor {it : IM} {gm : GM} : sFor it gm f loc n = (it loc n).bind fun p => forLoop gm f p.1 loc p.2 := rfl
@[simp] theorem ev_sWinc {i : Nat} : sWinc i loc n = match loc[i]? with
  | some .wd => some (.nx, loc, n + 1)
  | _ => none := rfl
@[simp] theorem ev_sPar {i j : Nat} : sPar i j fa fb loc n = (fa loc n).bind fun p => (fb loc p.2).map fun q => (.nx, (loc.set i (.val p.1)).set j (.val q.1), q.2) := rfl
@[simp] theorem ev_sParO {i j : Nat} : sParO i j fa fb loc n = (fa loc n).bind fun p => (fb loc p.2).map fun q => (.nx, (loc.set i (.val p.1)).set j (.own q.1), q.2) := rfl
@[simp] theorem ev_runF {wf : Bool} {nl : Nat} {ds : List D} : runF wf nl f ds n = (f (start0 wf nl ds) n).bind fun p => match p.1 with
  | .nx => some (.none, p.2.2)
  | .ret d => some (d, p.2.2)
  | _ => none := rfl
end
section
variable {i j : Int} {b : Bool} {xs ys : List D} {x y : Str} {es : List (D × D)}
@[simp] theorem o_addI : addD (.int i) (.int j) = some (.int (i + j)) := rfl
@[simp] theorem o_addI' : addI (.int i) (.int j) = some (.int (i + j)) := rfl
@[simp] theorem o_subI : subI (.int i) (.int j) = some (.int (i - j)) := rfl
@[simp] theorem o_mulI : mulI (.int i) (.int j) = if (-B64 < i ∧ i < B64) ∨ (-B64 < j ∧ j < B64) then some (.int (i * j)) else none := rfl
@[simp] theorem o_fdivI : fdivI (.int i) (.int j) = if 0 < j ∧ j < 1073741824 then some (.int (i / j)) else none := rfl
@[simp] theorem o_modI : modI (.int i) (.int j) = if 0 < j then some (.int (i % j)) else none := rfl
@[simp] theorem o_powI : powI (.int i) (.int j) = if 0 ≤ j ∧ j ≤ 1000000 ∧ i.natAbs < 18446744073709551616 then some (.int (i ^ j.toNat)) else none := rfl
@[simp] theorem o_negI : negI (.int i) = some (.int (-i)) := rfl
@[simp] theorem o_ltI : ltI (.int i) (.int j) = some (.bool (decide (i < j))) := rfl
@[simp] theorem o_leI : leI (.int i) (.int j) = some (.bool (decide (i ≤ j))) := rfl
@[simp] theorem o_gtI : gtI (.int i) (.int j) = some (.bool (decide (j < i))) := rfl
@[simp] theorem o_geI : geI (.int i) (.int j) = some (.bool (decide (j ≤ i))) := rfl
@[simp] theorem o_isN {d : D} : isNoneD d .none = some (.bool (isN d)) := rfl
@[simp] theorem o_notN {d : D} : notNoneD d .none = some (.bool (!isN d)) := rfl
@[simp] theorem isN_none : isN (.none : D) = true := rfl
@[simp] theorem isN_int : isN (.int i : D) = false := rfl
@[simp] theorem isN_str : isN (.str x : D) = false := rfl
@[simp] theorem isN_tup : isN (.tuple xs : D) = false := rfl
@[simp] theorem isN_list : isN (.list xs : D) = false := rfl
@[simp] theorem isN_bool : isN (.bool b : D) = false := rfl
@[simp] theorem isN_dict : isN (.dict es : D) = false := rfl
@[simp] theorem o_ixL : ixD (.list xs) (.int i) = atD xs i := rfl
@[simp] theorem o_ixT : ixD (.tuple xs) (.int i) = atD xs i := rfl
@[simp] theorem o_lenL : lenD (.list xs) = some (.int xs.length) := rfl
@[simp] theorem o_lenT : lenD (.tuple xs) = some (.int xs.length) := rfl
@[simp] theorem o_lenS : lenD (.str x) = if x.length ≤ LIM then some (.int x.length) else none := rfl
@[simp] theorem o_lenD : lenD (.dict es) = some (.int es.length) := rfl
@[simp] theorem o_abs : absD (.int i) = some (.int (if i < 0 then -i else i)) := rfl
@[simp] theorem o_int : intD (.int i) = some (.int i) := rfl
@[simp] theorem o_intB : intD (.bool b) = some (.int (if b then 1 else 0)) := rfl
@[simp] theorem o_max2 : max2D (.int i) (.int j) = some (.int (if j > i then j else i)) := rfl
@[simp] theorem o_min2 : min2D (.int i) (.int j) = some (.int (if j < i then j else i)) := rfl
@[simp] theorem o_tupL : tupD (.list xs) = some (.tuple xs) := rfl
@[simp] theorem o_tupT : tupD (.tuple xs) = some (.tuple xs) := rfl
@[simp] theorem o_listL : listD (.list xs) = some (.list xs) := rfl
@[simp] theorem o_listT : listD (.tuple xs) = some (.list xs) := rfl
@[simp] theorem o_slL {lo hi : Option Int} : sliceD lo hi (.list xs) = some (.list (cutD xs lo hi)) := rfl
@[simp] theorem o_slT {lo hi : Option Int} : sliceD lo hi (.tuple xs) = some (.tuple (cutD xs lo hi)) := rfl
@[simp] theorem o_itL : itemsOf (.list xs) = some xs := rfl
@[simp] theorem o_itT : itemsOf (.tuple xs) = some xs := rfl
@[simp] theorem o_itS : itemsOf (.str x) = some (signs x) := rfl
@[simp] theorem o_itD : itemsOf (.dict es) = some (es.map (·.1)) := rfl
@[simp] theorem o_itwL : itemsW (.list xs) = some xs := rfl
@[simp] theorem o_itwT : itemsW (.tuple xs) = some xs := rfl
theorem o_addT (h : xs.length + ys.length ≤ LIM) : addD (.tuple xs) (.tuple ys) = some (.tuple (xs ++ ys)) := by
  unfold addD; simp [h]
theorem o_addL (h : xs.length + ys.length ≤ LIM) : addD (.list xs) (.list ys) = some (.list (xs ++ ys)) := by
  unfold addD; simp [h]
end
@[simp] theorem seqB_nx {g : SM} {l : Loc} {m : Nat} : (match (Out.nx, l, m).1 with
  | .nx => g l m
  | o => some (o, l, m)) = g l m := rfl
/-! ### places, cuts -/
theorem atD_nat {α : Type} {xs : List α} {k : Nat} {x : α} (h : xs[k]? = some x) : atD xs (k : Int) = some x := atI_nat h
theorem atD_get {α : Type} {xs : List α} {k : Nat} (h : k < xs.length) : atD xs (k : Int) = some xs[k] := atI_nat (List.getElem?_eq_getElem h)
@[simp] theorem atD_zero {α : Type} {x : α} {xs : List α} : atD (x :: xs) 0 = some x := atD_nat (k := 0) rfl
@[simp] theorem atD_one {α : Type} {x y : α} {xs : List α} : atD (x :: y :: xs) 1 = some y := atD_nat (k := 1) rfl
@[simp] theorem atD_two {α : Type} {x y z : α} {xs : List α} : atD (x :: y :: z :: xs) 2 = some z := atD_nat (k := 2) rfl
@[simp] theorem atD_three {α : Type} {x y z u : α} {xs : List α} : atD (x :: y :: z :: u :: xs) 3 = some u := atD_nat (k := 3) rfl
@[simp] theorem atD_four {α : Type} {x y z u v : α} {xs : List α} : atD (x :: y :: z :: u :: v :: xs) 4 = some v := atD_nat (k := 4) rfl
theorem atD_last {α : Type} {xs : List α} {x : α} (h : xs.getLast? = some x) : atD xs (-1) = some x := by
  have hne : xs ≠ [] := fun e => by subst e; cases h
  have e : xs = xs.dropLast ++ [xs.getLast hne] := (List.dropLast_concat_getLast hne).symm
  have e2 : xs.getLast hne = x := by rw [List.getLast?_eq_some_getLast hne] at h; exact Option.some.inj h
  rw [e, e2]
  exact atI_last _ _
theorem atD_map {α β : Type} {f : α → β} {xs : List α} {i : Int} : atD (xs.map f) i = (atD xs i).map f := by
  unfold atD
  rw [List.length_map]
  cases ixN xs.length i with
  | none => rfl
  | some k => simp
theorem cutD_drop {α : Type} (xs : List α) (k : Nat) : cutD xs (some (k : Int)) none = xs.drop k := by
  unfold cutD
  rw [HT.sIx_nat, HT.sIx_none]
  rcases Nat.le_total k xs.length with h | h
  · rw [Nat.min_eq_left h]
    exact List.take_of_length_le (by rw [List.length_drop]; exact Nat.le_refl _)
  · rw [Nat.min_eq_right h, List.drop_eq_nil_of_le h]
    simp
theorem cutD_take {α : Type} (xs : List α) (k : Nat) : cutD xs none (some (k : Int)) = xs.take k := by
  unfold cutD
  rw [HT.sIx_nat, HT.sIx_none, List.drop_zero, Nat.sub_zero]
  rcases Nat.le_total k xs.length with h | h
  · rw [Nat.min_eq_left h]
  · rw [Nat.min_eq_right h, List.take_of_length_le (Nat.le_refl _), List.take_of_length_le h]
theorem cutD_mid {α : Type} (xs : List α) (i j : Nat) : cutD xs (some (i : Int)) (some (j : Int)) = (xs.drop i).take (j - i) := by
  unfold cutD
  rw [HT.sIx_nat, HT.sIx_nat]
  rcases Nat.le_total i xs.length with h | h
  · rw [Nat.min_eq_left h]
    rcases Nat.le_total j xs.length with h2 | h2
    · rw [Nat.min_eq_left h2]
    · rw [Nat.min_eq_right h2, List.take_of_length_le (by rw [List.length_drop]; exact Nat.le_refl _), List.take_of_length_le (by rw [List.length_drop]; omega)]
  · rw [Nat.min_eq_right h, List.drop_eq_nil_of_le h, List.drop_eq_nil_of_le (Nat.le_refl _)]
    simp
@[simp] theorem cutD_one {α : Type} (x : α) (xs : List α) : cutD (x :: xs) (some 1) none = xs := cutD_drop (x :: xs) 1
@[simp] theorem cutD_all {α : Type} (xs : List α) : cutD xs none none = xs := cutD_whole ⟨rfl, rfl⟩
theorem cutD_map {α β : Type} (f : α → β) (xs : List α) (lo hi : Option Int) : cutD (xs.map f) lo hi = (cutD xs lo hi).map f := by
  unfold cutD
  rw [List.length_map, ← List.map_drop, ← List.map_take]
theorem cutD_init {α : Type} (xs : List α) : cutD xs none (some (-1)) = xs.dropLast := by
  unfold cutD
  show (xs.drop 0).take (((-1 : Int) + xs.length).toNat - 0) = _
  rw [List.drop_zero, Nat.sub_zero, List.dropLast_eq_take]
  congr 1
  omega

/-! ### ranges -/
theorem rangeD_eq (a : Int) (n : Nat) : rangeD a n = (List.range n).map fun k => .int (a + (k : Nat)) := rfl
theorem rangeD_zero (n : Nat) : rangeD 0 n = (List.range n).map fun k : Nat => PyData.int (k : Int) := by
  unfold rangeD
  refine List.map_congr_left fun k _ => ?_
  rw [Int.zero_add]
@[simp] theorem rangeD_len (a : Int) (n : Nat) : (rangeD a n).length = n := by simp [rangeD]

/-! ### comprehensions -/
section
variable {α : Type} {gm : GM} {c : TM} {f : EM} {loc : Loc}
/-- each turn leaves the counter as it is -/
theorem comp_map {n : Nat} (enc : α → D) (p : α → Bool) (h : α → D) : ∀ xs : List α, (∀ x ∈ xs, ∃ loc1, gm (enc x) loc = some loc1 ∧ c loc1 n = some (p x, n) ∧ (p x = true → f loc1 n = some (h x, n))) → comp gm c f loc (xs.map enc) n = some ((xs.filter p).map h, n)
  | [], _ => rfl
  | x :: xs, H => by
    obtain ⟨loc1, e1, e2, e3⟩ := H x (List.mem_cons_self ..)
    have ih := comp_map enc p h xs fun y hy => H y (List.mem_cons_of_mem _ hy)
    rw [List.map_cons]
    unfold comp
    rw [e1, Option.bind_some, e2, Option.bind_some]
    cases hp : p x with
    | true => simp [hp, e3 hp, ih, List.filter_cons]
    | false => simp [hp, ih, List.filter_cons]
theorem comp_all {n : Nat} (enc : α → D) (h : α → D) (xs : List α) (H : ∀ x ∈ xs, ∃ loc1, gm (enc x) loc = some loc1 ∧ f loc1 n = some (h x, n)) : comp gm mYes f loc (xs.map enc) n = some (xs.map h, n) := by
  have q := comp_map (gm := gm) (c := mYes) (f := f) (loc := loc) (n := n) enc (fun _ => true) h xs fun x hx => by
    obtain ⟨loc1, e1, e2⟩ := H x hx
    exact ⟨loc1, e1, rfl, fun _ => e2⟩
  rw [List.filter_eq_self.mpr (fun _ _ => rfl)] at q
  exact q
/-- turns that draw: all that is known is what each gives -/
theorem comp_draw (R : D → Prop) : ∀ (ds : List D) (n : Nat), (∀ d ∈ ds, ∀ n, ∃ loc1 y n', gm d loc = some loc1 ∧ f loc1 n = some (y, n') ∧ R y) → ∃ out n', comp gm mYes f loc ds n = some (out, n') ∧ out.length = ds.length ∧ ∀ y ∈ out, R y
  | [], n, _ => ⟨[], n, rfl, rfl, fun _ h => nomatch h⟩
  | d :: ds, n, H => by
    obtain ⟨loc1, y, n1, e1, e2, hy⟩ := H d (List.mem_cons_self ..) n
    obtain ⟨out, n2, e3, hl, hr⟩ := comp_draw R ds n1 fun d hd => H d (List.mem_cons_of_mem _ hd)
    refine ⟨y :: out, n2, ?_, by simp [hl], fun z hz => ?_⟩
    · unfold comp
      rw [e1, Option.bind_some]
      simp [e2, e3]
    · rcases List.mem_cons.mp hz with e | e
      · rw [e]; exact hy
      · exact hr z e
end
/-! ### loops -/
section
variable {α β : Type} {gm : GM} {body : SM}
/-- a loop that goes through: R tells what the cells hold after the turns so far -/
theorem for_fold (enc : α → D) (R : β → Loc → Prop) (step : β → α → β) : ∀ (xs : List α) (b : β) (loc : Loc) (n : Nat), R b loc → (∀ b loc x, x ∈ xs → R b loc → ∃ loc1 loc2, gm (enc x) loc = some loc1 ∧ body loc1 n = some (.nx, loc2, n) ∧ R (step b x) loc2) → ∃ loc', forLoop gm body (xs.map enc) loc n = some (.nx, loc', n) ∧ R (xs.foldl step b) loc'
  | [], b, loc, n, h, _ => ⟨loc, rfl, h⟩
  | x :: xs, b, loc, n, h, H => by
    obtain ⟨loc1, loc2, e1, e2, h2⟩ := H b loc x (List.mem_cons_self ..) h
    obtain ⟨loc', e3, h3⟩ := for_fold enc R step xs (step b x) loc2 n h2 fun b loc y hy => H b loc y (List.mem_cons_of_mem _ hy)
    refine ⟨loc', ?_, h3⟩
    rw [List.map_cons]
    unfold forLoop
    rw [e1, Option.bind_some, e2, Option.bind_some]
    exact e3
/-- an invariant (of the turn's number) -/
theorem for_inv (I : Nat → Loc → Nat → Prop) : ∀ (ds : List D) (i : Nat) (loc : Loc) (n : Nat), I i loc n → (∀ j d loc n, ds[j]? = some d → I (i + j) loc n → ∃ loc1 loc2 n', gm d loc = some loc1 ∧ body loc1 n = some (.nx, loc2, n') ∧ I (i + j + 1) loc2 n') → ∃ loc' n', forLoop gm body ds loc n = some (.nx, loc', n') ∧ I (i + ds.length) loc' n'
  | [], i, loc, n, h, _ => ⟨loc, n, rfl, h⟩
  | d :: ds, i, loc, n, h, H => by
    obtain ⟨loc1, loc2, n1, e1, e2, h2⟩ := H 0 d loc n rfl h
    obtain ⟨loc', n', e3, h3⟩ := for_inv I ds (i + 1) loc2 n1 h2 fun j d loc n hj hI => by
      have := H (j + 1) d loc n (by simpa using hj) (by rw [show i + (j + 1) = i + 1 + j by omega]; exact hI)
      rw [show i + (j + 1) + 1 = i + 1 + j + 1 by omega] at this
      exact this
    refine ⟨loc', n', ?_, by rw [List.length_cons, show i + (ds.length + 1) = i + 1 + ds.length by omega]; exact h3⟩
    unfold forLoop
    rw [e1, Option.bind_some, e2, Option.bind_some]
    exact e3
end
end Pd
namespace Pd
open PySem L2

/-! ### the draws, the next draw, the law's own loop -/
def bodyRest : SM := (sIf (asB (eOp gtI (eVar 6) (eC (.int 0)))) (sSeq (sAppend 2 (eOp modI (eOp1 intD (eVar 6)) (eC (.int 997))))
    (sSet (gN 6) (eOp fdivI (eVar 6) (eC (.int 997))))) sNil)
def bodyCell : SM := (sSeq (sSet (gN 5) (eOp1 absD (eOp1 intD (eOp ixD (eVar 0) (eVar 4)))))
    (sSeq (sSet (gN 3) (eOp modI (eOp1 intD (eOp addD (eOp addD (eOp mulI (eVar 3) (eC (.int 48271))) (eOp modI (eVar 5) (eC (.int 1000003)))) (eVar 4))) (eC (.int 65537))))
    (sSeq (sSet (gN 6) (eC (.int 0)))
    (sSeq (sIf (asB (eOp geI (eVar 5) (eOp powI (eC (.int 10)) (eC (.int 18))))) (sSet (gN 6) (eVar 5)) (sSeq (sAppend 2 (eOp modI (eOp1 intD (eVar 5)) (eC (.int 997))))
    (sAppend 2 (eOp modI (eOp modI (eOp1 intD (eOp addD (eOp mulI (eVar 3) (eC (.int 69621))) (eC (.int 5)))) (eC (.int 65521))) (eC (.int 997))))))
    (sFor (iRange1 (eC (.int 60))) (gN 7) bodyRest)))))
def bodyMore : SM := (sSeq (sSet (gN 3) (eOp modI (eOp1 intD (eOp addD (eOp addD (eOp mulI (eVar 3) (eC (.int 16807))) (eVar 4)) (eC (.int 1)))) (eC (.int 65537))))
    (sAppend 2 (eOp modI (eOp1 intD (eVar 3)) (eC (.int 997)))))
def c_draws : SM := (sSeq (sOwn 2 (eList aNil))
    (sSeq (sSet (gN 3) (eC (.int 7)))
    (sSeq (sFor (iRange1 (eOp1 lenD (eVar 0))) (gN 4) bodyCell)
    (sSeq (sFor (iRange1 (eVar 1)) (gN 4) bodyMore)
    (sRet (eSlice (eVarW 2) pNone (pSome (eVar 1))))))))
def f_draws : FM := runF false 8 c_draws
def c_next (dr : List Int) : SM := (sSeq (sWinc 0)
    (sSeq (sIf (asB (eOp gtI (eWat 0) (eOp1 lenD (eWdr dr 0)))) (sRet (eC (.int 0))) sNil)
    (sRet (eOp modI (eOp1 intD (eOp ixD (eWdr dr 0) (eOp subI (eWat 0) (eC (.int 1))))) (eVar 1)))))
def f_next (dr : List Int) : FM := runF true 2 (c_next dr)

/-- the frame of _law_draws -/
def frD (S : D) (ds : List Int) (m : Int) (c4 c5 c6 c7 : Cell) : Loc := [.val S, .val (.int 900), .own (.list (ds.map .int)), .val (.int m), c4, c5, c6, c7]
theorem snoc_int (ds : List Int) (i : Int) : (ds.map PyData.int) ++ [.int i] = (ds ++ [i]).map .int := by simp
theorem rest_ok {S : D} {ds : List Int} {m r : Int} {c4 c5 c7 : Cell} {n : Nat} (h : ds.length < 100000) : ∃ ds' r', bodyRest (frD S ds m c4 c5 (.val (.int r)) c7) n = some (.nx, frD S ds' m c4 c5 (.val (.int r')) c7, n) ∧ ds'.length ≤ ds.length + 1 := by
  unfold bodyRest frD
  by_cases hr : 0 < r
  · refine ⟨ds ++ [r % 997], r / 997, ?_, by simp⟩
    have hl : ds.length < LIM := by unfold LIM; omega
    simp [hr, hl]
  · exact ⟨ds, r, by simp [hr], by omega⟩
theorem mixed_ok (m k : Int) (h : 0 ≤ m ∧ m < 65537) : (-B64 < m ∧ m < B64) := by unfold B64; omega
theorem cell_ok {ns : List Int} {ds : List Int} {m : Int} {c5 c6 c7 : Cell} {n k : Nat} (hk : k < ns.length) (h : ds.length < 50000) : ∃ ds' m' a4 a5 a6 a7, bodyCell (frD (.list (ns.map .int)) ds m (.val (.int (k : Int))) c5 c6 c7) n = some (.nx, frD (.list (ns.map .int)) ds' m' a4 a5 a6 a7, n) ∧ ds'.length ≤ ds.length + 62 := by
  have hix : atD (ns.map PyData.int) (k : Int) = some (.int ns[k]) := atD_nat (by simp [hk])
  have hl : ds.length < LIM := by unfold LIM; omega
  have hl1 : ds.length + 1 < LIM := by unfold LIM; omega
  generalize hc : (if ns[k] < 0 then -ns[k] else ns[k]) = c
  generalize hm : (m * 48271 + c % 1000003 + (k : Int)) % 65537 = m'
  -- the turns of the inner loop
  have inner : ∀ (ds1 : List Int) (r : Int), ds1.length ≤ ds.length + 2 → ∃ ds' c6 c7', forLoop (gN 7) bodyRest (rangeD 0 60) (frD (.list (ns.map .int)) ds1 m' (.val (.int (k : Int))) (.val (.int c)) (.val (.int r)) c7) n = some (.nx, frD (.list (ns.map .int)) ds' m' (.val (.int (k : Int))) (.val (.int c)) c6 c7', n) ∧ ds'.length ≤ ds1.length + 60 := fun ds1 r h1 => by
    obtain ⟨loc', n', e, hI⟩ := for_inv (gm := gN 7) (body := bodyRest) (fun i loc n' => n' = n ∧ ∃ ds' r' c7', loc = frD (.list (ns.map .int)) ds' m' (.val (.int (k : Int))) (.val (.int c)) (.val (.int r')) c7' ∧ ds'.length ≤ ds1.length + i) (rangeD 0 60) 0 _ n ⟨rfl, ds1, r, c7, rfl, by omega⟩ (fun j d loc n2 hj ⟨en, ds2, r2, c72, el, hl2⟩ => by
      have hj60 : j < 60 := by have := (List.getElem?_eq_some_iff.mp hj).1; rwa [rangeD_len] at this
      subst en
      subst el
      obtain ⟨ds3, r3, e3, hl3⟩ := rest_ok (S := .list (ns.map .int)) (ds := ds2) (m := m') (r := r2) (c4 := .val (.int (k : Int))) (c5 := .val (.int c)) (c7 := .val d) (n := n2) (by omega)
      exact ⟨_, _, n2, rfl, e3, rfl, ds3, r3, _, rfl, by omega⟩)
    obtain ⟨rfl, ds', r', c7', rfl, hl'⟩ := hI
    exact ⟨ds', _, c7', e, by rw [rangeD_len] at hl'; omega⟩
  have hlz : -LIMZ ≤ (60 : Int) ∧ (60 : Int) ≤ LIMZ := by unfold LIMZ; omega
  by_cases hbig : (10 : Int) ^ 18 ≤ c
  · obtain ⟨ds', c6', c7', e, hl'⟩ := inner ds c (by omega)
    refine ⟨ds', m', .val (.int (k : Int)), .val (.int c), c6', c7', ?_, by omega⟩
    unfold bodyCell
    unfold frD at e ⊢
    have hbig' : (1000000000000000000 : Int) ≤ c := by simpa using hbig
    simp [hix, hc, hm, hbig', hlz, B64]
    exact e
  · obtain ⟨ds', c6', c7', e, hl'⟩ := inner ((ds ++ [c % 997]) ++ [(m' * 69621 + 5) % 65521 % 997]) 0 (by simp)
    refine ⟨ds', m', .val (.int (k : Int)), .val (.int c), c6', c7', ?_, by simp at hl'; omega⟩
    unfold bodyCell
    unfold frD at e ⊢
    have hbig' : ¬ (1000000000000000000 : Int) ≤ c := by simpa using hbig
    simp [hix, hc, hm, hbig', hlz, B64, hl, hl1]
    simpa using e
theorem draws_ok {ns : List Int} (hn : ns.length ≤ 63) (n : Nat) : ∃ dr : List Int, f_draws [.list (ns.map .int), .int 900] n = some (.list (dr.map .int), n) := by
  have hlz : -LIMZ ≤ (ns.length : Int) ∧ (ns.length : Int) ≤ LIMZ := by unfold LIMZ; omega
  have hlz2 : -LIMZ ≤ (900 : Int) ∧ (900 : Int) ≤ LIMZ := by unfold LIMZ; omega
  obtain ⟨loc1, n1, e1, h1⟩ := for_inv (gm := gN 4) (body := bodyCell) (fun i loc n' => n' = n ∧ ∃ ds m c4 c5 c6 c7, loc = frD (.list (ns.map .int)) ds m c4 c5 c6 c7 ∧ ds.length ≤ 62 * i) (rangeD 0 ns.length) 0 (frD (.list (ns.map .int)) [] 7 .un .un .un .un) n ⟨rfl, [], 7, _, _, _, _, rfl, by simp⟩ (fun j d loc n2 hj ⟨en, ds, m, c4, c5, c6, c7, el, hl⟩ => by
    have hjn : j < ns.length := by have := (List.getElem?_eq_some_iff.mp hj).1; rwa [rangeD_len] at this
    have hd : d = .int (j : Int) := by
      rw [rangeD_zero] at hj
      simpa [hjn] using hj.symm
    subst en
    subst el
    subst hd
    obtain ⟨ds', m', a4, a5, a6, a7, e, hl'⟩ := cell_ok (ns := ns) (ds := ds) (m := m) (c5 := c5) (c6 := c6) (c7 := c7) (n := n2) hjn (by omega)
    exact ⟨_, _, n2, rfl, e, rfl, ds', m', _, _, _, _, rfl, by omega⟩)
  obtain ⟨rfl, ds1, m1, a4, a5, a6, a7, rfl, hl1⟩ := h1
  rw [rangeD_len] at hl1
  obtain ⟨loc2, n2, e2, h2⟩ := for_inv (gm := gN 4) (body := bodyMore) (fun i loc n' => n' = n1 ∧ ∃ ds m c4 c5 c6 c7, loc = frD (.list (ns.map .int)) ds m c4 c5 c6 c7 ∧ ds.length ≤ 62 * ns.length + i) (rangeD 0 900) 0 _ n1 ⟨rfl, ds1, m1, a4, a5, a6, a7, rfl, by omega⟩ (fun j d loc n2 hj ⟨en, ds, m, c4, c5, c6, c7, el, hl⟩ => by
    have hjn : j < 900 := by have := (List.getElem?_eq_some_iff.mp hj).1; rwa [rangeD_len] at this
    have hd : d = .int (j : Int) := by
      rw [rangeD_zero] at hj
      simpa [hjn] using hj.symm
    subst en
    subst el
    subst hd
    have hll : ds.length < LIM := by unfold LIM; omega
    refine ⟨_, frD (.list (ns.map .int)) (ds ++ [(m * 16807 + (j : Int) + 1) % 65537 % 997]) ((m * 16807 + (j : Int) + 1) % 65537) (.val (.int (j : Int))) c5 c6 c7, n2, rfl, ?_, rfl, _, _, _, _, _, _, rfl, by simp; omega⟩
    unfold bodyMore frD
    simp [hll, B64])
  obtain ⟨rfl, ds2, m2, b4, b5, b6, b7, rfl, hl2⟩ := h2
  refine ⟨ds2.take 900, ?_⟩
  unfold f_draws c_draws
  have hs : start0 false 8 [.list (ns.map .int), .int 900] = [.val (.list (ns.map .int)), .val (.int 900), .un, .un, .un, .un, .un, .un] := rfl
  simp [hs, hlz]
  unfold frD at e1 e2
  simp at e1
  rw [e1]
  simp [hlz2]
  rw [e2]
  simp
  rw [show (900 : Int) = ((900 : Nat) : Int) from rfl, cutD_take, ← List.map_take]
/-- the n-th draw -/
def nth (dr : List Int) (n : Nat) : Int := dr.getD n 0
theorem next_ok (dr : List Int) (n : Nat) {m : Int} (hm : 0 < m) : f_next dr [.int m] n = some (.int (nth dr n % m), n + 1) := by
  unfold f_next c_next nth
  have hs : start0 true 2 [.int m] = [.wd, .val (.int m)] := rfl
  by_cases h : n < dr.length
  · have h1 : ¬ ((dr.length : Int) < (n : Int) + 1) := by omega
    have hix : atD (dr.map PyData.int) (n : Int) = some (.int dr[n]) := atD_nat (by simp [h])
    simp [hs, h1, hix, hm, h]
  · have h1 : (dr.length : Int) < (n : Int) + 1 := by omega
    simp [hs, h1, h]
theorem next_lt (dr : List Int) (n : Nat) {m : Int} (hm : 0 < m) : 0 ≤ nth dr n % m ∧ nth dr n % m < m := ⟨Int.emod_nonneg _ (by omega), Int.emod_lt_of_pos _ hm⟩
theorem law_ok {f : FM} (H : ∀ n, ∃ n', f [] n = some (.bool true, n')) (S : D) (k : Nat) : ∃ loc' n', (sSeq (sFor (iRange1 (eC (.int 4))) (gN 2) (sIf (mNot (asB (eCallW 1 f 0 aNil))) (sRet (eC (.bool false))) sNil)) (sRet (eC (.bool true)))) [.val S, .wd, .un] k = some (.ret (.bool true), loc', n') := by
  obtain ⟨loc1, n1, e1, h1⟩ := for_inv (gm := gN 2) (body := (sIf (mNot (asB (eCallW 1 f 0 aNil))) (sRet (eC (.bool false))) sNil)) (fun i loc n' => ∃ c2, loc = [.val S, .wd, c2]) (rangeD 0 4) 0 [.val S, .wd, .un] k ⟨_, rfl⟩ (fun j d loc n2 hj ⟨c2, el⟩ => by
    subst el
    obtain ⟨n3, e3⟩ := H n2
    exact ⟨_, [.val S, .wd, .val d], n3, rfl, by simp [e3], _, rfl⟩)
  refine ⟨loc1, n1, ?_⟩
  have hlz : -LIMZ ≤ (4 : Int) ∧ (4 : Int) ≤ LIMZ := by unfold LIMZ; omega
  simp [hlz]
  rw [e1]
  simp
end Pd
namespace Pd
open PySem L2

/-! ### == of data without tests and dicts: it is = -/
mutual
def nb : D → Bool
  | .none | .int _ | .str _ => true
  | .list xs | .tuple xs => nbAll xs
  | .bool _ | .dict _ => false
def nbAll : List D → Bool
  | [] => true
  | x :: xs => nb x && nbAll xs
end
mutual
theorem eqv_nb : ∀ a b : D, nb a = true → nb b = true → (PyData.eqv a b = true ↔ a = b)
  | .none, b, _, h2 => by cases b <;> simp [PyData.eqv, nb] at *
  | .int i, b, _, h2 => by cases b <;> simp [PyData.eqv, nb] at *
  | .str i, b, _, h2 => by cases b <;> simp [PyData.eqv, nb] at *
  | .bool i, b, h1, _ => by simp [nb] at h1
  | .dict i, b, h1, _ => by simp [nb] at h1
  | .list xs, b, h1, h2 => by
    cases b with
    | list ys =>
      rw [PyData.eqv, eqvAll_nb xs ys (by simpa [nb] using h1) (by simpa [nb] using h2)]
      exact ⟨fun e => by rw [e], fun e => by injection e⟩
    | bool _ => simp [nb] at h2
    | dict _ => simp [nb] at h2
    | _ => simp [PyData.eqv]
  | .tuple xs, b, h1, h2 => by
    cases b with
    | tuple ys =>
      rw [PyData.eqv, eqvAll_nb xs ys (by simpa [nb] using h1) (by simpa [nb] using h2)]
      exact ⟨fun e => by rw [e], fun e => by injection e⟩
    | bool _ => simp [nb] at h2
    | dict _ => simp [nb] at h2
    | _ => simp [PyData.eqv]
theorem eqvAll_nb : ∀ a b : List D, nbAll a = true → nbAll b = true → (PyData.eqvAll a b = true ↔ a = b)
  | [], [], _, _ => by simp [PyData.eqvAll]
  | [], _ :: _, _, _ => by simp [PyData.eqvAll]
  | _ :: _, [], _, _ => by simp [PyData.eqvAll]
  | x :: xs, y :: ys, h1, h2 => by
    simp only [nbAll, Bool.and_eq_true] at h1 h2
    rw [PyData.eqvAll, Bool.and_eq_true, eqv_nb x y h1.1 h2.1, eqvAll_nb xs ys h1.2 h2.2, List.cons.injEq]
end
mutual
theorem plain_nb : ∀ a : D, nb a = true → a.plain = true
  | .none, _ => rfl
  | .int i, _ => rfl
  | .str i, _ => rfl
  | .bool i, h1 => rfl
  | .dict i, h1 => by simp [nb] at h1
  | .list xs, h1 => by simpa [PyData.plain] using plainAll_nb xs (by simpa [nb] using h1)
  | .tuple xs, h1 => by simpa [PyData.plain] using plainAll_nb xs (by simpa [nb] using h1)
theorem plainAll_nb : ∀ a : List D, nbAll a = true → PyData.plainAll a = true
  | [], _ => rfl
  | x :: xs, h1 => by
    simp only [nbAll, Bool.and_eq_true] at h1
    rw [PyData.plainAll, plain_nb x h1.1, plainAll_nb xs h1.2]; rfl
end
theorem nbAll_map {α : Type} {f : α → D} {xs : List α} (h : ∀ x ∈ xs, nb (f x) = true) : nbAll (xs.map f) = true := by
  induction xs with
  | nil => rfl
  | cons x r ih =>
    rw [List.map_cons, nbAll, h x (List.mem_cons_self ..), ih fun y hy => h y (List.mem_cons_of_mem _ hy)]; rfl
theorem nbAll_of {xs : List D} (h : ∀ x ∈ xs, nb x = true) : nbAll xs = true := by
  have := nbAll_map (f := id) h
  rwa [List.map_id] at this
theorem plainAll_map {α : Type} {f : α → D} {xs : List α} (h : ∀ x ∈ xs, (f x).plain = true) : PyData.plainAll (xs.map f) = true := by
  induction xs with
  | nil => rfl
  | cons x r ih =>
    rw [List.map_cons, PyData.plainAll, h x (List.mem_cons_self ..), ih fun y hy => h y (List.mem_cons_of_mem _ hy)]; rfl
theorem depthAll_map {α : Type} {f : α → D} {xs : List α} {k : Nat} (h : ∀ x ∈ xs, (f x).depth ≤ k) : PyData.depthAll (xs.map f) ≤ k := by
  induction xs with
  | nil => simp [PyData.depthAll]
  | cons x r ih =>
    rw [List.map_cons, PyData.depthAll, Nat.max_le]
    exact ⟨h x (List.mem_cons_self ..), ih fun y hy => h y (List.mem_cons_of_mem _ hy)⟩
@[simp] theorem nb_int (i : Int) : nb (.int i) = true := by simp [nb]
@[simp] theorem nb_str (i : Str) : nb (.str i) = true := by simp [nb]
@[simp] theorem nb_none : nb (.none : D) = true := by simp [nb]
@[simp] theorem nb_tuple (xs : List D) : nb (.tuple xs) = nbAll xs := by simp [nb]
@[simp] theorem nb_list (xs : List D) : nb (.list xs) = nbAll xs := by simp [nb]
@[simp] theorem nbAll_nil : nbAll [] = true := rfl
@[simp] theorem nbAll_cons (x : D) (xs : List D) : nbAll (x :: xs) = (nb x && nbAll xs) := by simp [nbAll]
@[simp] theorem dp_int (i : Int) : (PyData.int i : D).depth = 0 := by simp [PyData.depth]
@[simp] theorem dp_str (i : Str) : (PyData.str i : D).depth = 0 := by simp [PyData.depth]
@[simp] theorem dp_none : (PyData.none : D).depth = 0 := by simp [PyData.depth]
@[simp] theorem dp_bool (b : Bool) : (PyData.bool b : D).depth = 0 := by simp [PyData.depth]
@[simp] theorem dp_tuple (xs : List D) : (PyData.tuple xs : D).depth = PyData.depthAll xs + 1 := by simp [PyData.depth]
@[simp] theorem dp_list (xs : List D) : (PyData.list xs : D).depth = PyData.depthAll xs + 1 := by simp [PyData.depth]
@[simp] theorem dp_nil : PyData.depthAll [] = 0 := by simp [PyData.depthAll]
@[simp] theorem dp_cons (x : D) (xs : List D) : PyData.depthAll (x :: xs) = max x.depth (PyData.depthAll xs) := by simp [PyData.depthAll]
@[simp] theorem pl_int (i : Int) : (PyData.int i : D).plain = true := by simp [PyData.plain]
@[simp] theorem pl_str (i : Str) : (PyData.str i : D).plain = true := by simp [PyData.plain]
@[simp] theorem pl_none : (PyData.none : D).plain = true := by simp [PyData.plain]
@[simp] theorem pl_bool (b : Bool) : (PyData.bool b : D).plain = true := by simp [PyData.plain]
@[simp] theorem pl_tuple (xs : List D) : (PyData.tuple xs : D).plain = PyData.plainAll xs := by simp [PyData.plain]
@[simp] theorem pl_list (xs : List D) : (PyData.list xs : D).plain = PyData.plainAll xs := by simp [PyData.plain]
@[simp] theorem pl_nil : PyData.plainAll [] = true := by simp [PyData.plainAll]
@[simp] theorem pl_cons (x : D) (xs : List D) : PyData.plainAll (x :: xs) = (x.plain && PyData.plainAll xs) := by simp [PyData.plainAll]
@[simp] theorem pl_ints (ns : List Int) : PyData.plainAll (ns.map .int) = true := plainAll_map fun _ _ => by simp
@[simp] theorem nb_ints (ns : List Int) : nbAll (ns.map .int) = true := nbAll_map fun _ _ => by simp
@[simp] theorem pl_strs (ns : List Str) : PyData.plainAll (ns.map .str) = true := plainAll_map fun _ _ => by simp
@[simp] theorem nb_strs (ns : List Str) : nbAll (ns.map .str) = true := nbAll_map fun _ _ => by simp
theorem okEq_of {a b : D} (h1 : a.plain = true) (h2 : b.plain = true) (h3 : a.depth ≤ 40 ∨ b.depth ≤ 40) : okEq a b = true := by
  unfold okEq
  rw [h1, h2]
  simpa using h3
@[simp] theorem eqD_int (i j : Int) : eqD (.int i) (.int j) = some (.bool (decide (i = j))) := by
  unfold eqD
  rw [if_pos (okEq_of (by simp) (by simp) (by simp))]
  simp only [PyData.eqv, Option.some.injEq, PyData.bool.injEq]
  by_cases h : i = j <;> simp [h]
@[simp] theorem neD_int (i j : Int) : neD (.int i) (.int j) = some (.bool (!decide (i = j))) := by
  unfold neD
  rw [if_pos (okEq_of (by simp) (by simp) (by simp))]
  simp only [PyData.eqv, Option.some.injEq, PyData.bool.injEq]
  by_cases h : i = j <;> simp [h]
@[simp] theorem eqD_str (i j : Str) : eqD (.str i) (.str j) = some (.bool (decide (i = j))) := by
  unfold eqD
  rw [if_pos (okEq_of (by simp) (by simp) (by simp))]
  simp only [PyData.eqv, Option.some.injEq, PyData.bool.injEq]
  by_cases h : i = j <;> simp [h]
@[simp] theorem neD_str (i j : Str) : neD (.str i) (.str j) = some (.bool (!decide (i = j))) := by
  unfold neD
  rw [if_pos (okEq_of (by simp) (by simp) (by simp))]
  simp only [PyData.eqv, Option.some.injEq, PyData.bool.injEq]
  by_cases h : i = j <;> simp [h]
theorem eqD_nil {xs : List D} (h : PyData.plainAll xs = true) : eqD (.list xs) (.list []) = some (.bool xs.isEmpty) := by
  unfold eqD
  rw [if_pos (okEq_of (by simpa using h) (by simp) (by simp))]
  cases xs <;> simp [PyData.eqv, PyData.eqvAll]
theorem neD_nil {xs : List D} (h : PyData.plainAll xs = true) : neD (.list xs) (.list []) = some (.bool (!xs.isEmpty)) := by
  unfold neD
  rw [if_pos (okEq_of (by simpa using h) (by simp) (by simp))]
  cases xs <;> simp [PyData.eqv, PyData.eqvAll]
theorem eqD_nilT {xs : List D} (h : PyData.plainAll xs = true) : eqD (.tuple xs) (.tuple []) = some (.bool xs.isEmpty) := by
  unfold eqD
  rw [if_pos (okEq_of (by simpa using h) (by simp) (by simp))]
  cases xs <;> simp [PyData.eqv, PyData.eqvAll]
theorem neD_nilT {xs : List D} (h : PyData.plainAll xs = true) : neD (.tuple xs) (.tuple []) = some (.bool (!xs.isEmpty)) := by
  unfold neD
  rw [if_pos (okEq_of (by simpa using h) (by simp) (by simp))]
  cases xs <;> simp [PyData.eqv, PyData.eqvAll]
theorem neD_refl {a : D} (h : a.plain = true) (h2 : a.depth ≤ 40) : neD a a = some (.bool false) := by
  unfold neD
  rw [if_pos (okEq_of h h (.inl h2)), PySem.SeqAt.eqv_refl_plain a h]
  rfl
theorem eqD_refl {a : D} (h : a.plain = true) (h2 : a.depth ≤ 40) : eqD a a = some (.bool true) := by
  unfold eqD
  rw [if_pos (okEq_of h h (.inl h2)), PySem.SeqAt.eqv_refl_plain a h]
theorem eqD_nb {a b : D} (h1 : nb a = true) (h2 : nb b = true) (h3 : a.depth ≤ 40 ∨ b.depth ≤ 40) [Decidable (a = b)] : eqD a b = some (.bool (decide (a = b))) := by
  unfold eqD
  rw [if_pos (okEq_of (plain_nb a h1) (plain_nb b h2) h3)]
  congr 2
  rw [Bool.eq_iff_iff, eqv_nb a b h1 h2, decide_eq_true_eq]
theorem neD_nb {a b : D} (h1 : nb a = true) (h2 : nb b = true) (h3 : a.depth ≤ 40 ∨ b.depth ≤ 40) [Decidable (a = b)] : neD a b = some (.bool (!decide (a = b))) := by
  unfold neD
  rw [if_pos (okEq_of (plain_nb a h1) (plain_nb b h2) h3)]
  congr 3
  rw [Bool.eq_iff_iff, eqv_nb a b h1 h2, decide_eq_true_eq]
end Pd
namespace Pd
open PySem L2
/-! ### sorted(set(..)), sorted(..) in plain words -/
def sset (ns : List Int) : List Int := (ddK ns).mergeSort leI'
theorem setSort_ints {ns : List Int} (h : ns.length ≤ 4000) : setSortD (.list (ns.map .int)) = some (.list ((sset ns).map .int)) := by
  unfold setSortD
  show ((dKeys (ns.map .int)).bind _) = _
  rw [dKeys_ints, Option.bind_some, if_pos ⟨homog_ints ns, by simpa using h⟩, ddK_map _ (fun _ _ e => Sum.inl.inj e), map_kD_inl, srt_ints]
  rfl
theorem setSort_intsT {ns : List Int} (h : ns.length ≤ 4000) : setSortD (.tuple (ns.map .int)) = some (.list ((sset ns).map .int)) := setSort_ints h
theorem mem_sset {ns : List Int} {k : Int} : k ∈ sset ns ↔ k ∈ ns := by
  unfold sset
  rw [(sortI_perm _).mem_iff, mem_ddK]
theorem sset_pw (ns : List Int) : (sset ns).Pairwise (· < ·) := by
  have h1 := sortI_pw (ddK ns)
  have h2 : ((ddK ns).mergeSort leI').Nodup := (sortI_perm (ddK ns)).nodup_iff.mpr (nodup_ddK ns)
  exact lt_of_le_nodup _ h1 h2
theorem sset_len (ns : List Int) : (sset ns).length ≤ ns.length := by
  unfold sset
  rw [List.length_mergeSort]
  exact ddK_len ns
def ssetS (ns : List Str) : List Str := (ddK ns).mergeSort leS'
theorem setSort_strs {ns : List Str} (h : ns.length ≤ 4000) : setSortD (.list (ns.map .str)) = some (.list ((ssetS ns).map .str)) := by
  unfold setSortD
  show ((dKeys (ns.map .str)).bind _) = _
  rw [dKeys_strs, Option.bind_some, if_pos ⟨homog_strs ns, by simpa using h⟩, ddK_map _ (fun _ _ e => Sum.inr.inj e), map_kD_inr, srt_strs]
  rfl
theorem setSort_strsT {ns : List Str} (h : ns.length ≤ 4000) : setSortD (.tuple (ns.map .str)) = some (.list ((ssetS ns).map .str)) := setSort_strs h
theorem mem_ssetS {ns : List Str} {k : Str} : k ∈ ssetS ns ↔ k ∈ ns := by
  unfold ssetS
  rw [(sortS_perm _).mem_iff, mem_ddK]
theorem ssetS_nodup (ns : List Str) : (ssetS ns).Nodup := (sortS_perm (ddK ns)).nodup_iff.mpr (nodup_ddK ns)
theorem ssetS_len (ns : List Str) : (ssetS ns).length ≤ ns.length := by
  unfold ssetS
  rw [List.length_mergeSort]
  exact ddK_len ns
/-- one and the same set of texts gives one list -/
theorem ssetS_ext {a b : List Str} (h : ∀ k, k ∈ a ↔ k ∈ b) : ssetS a = ssetS b :=
  sortS_uni ((List.perm_ext_iff_of_nodup (nodup_ddK a) (nodup_ddK b)).mpr fun k => by rw [mem_ddK, mem_ddK]; exact h k)
theorem sset_ext {a b : List Int} (h : ∀ k, k ∈ a ↔ k ∈ b) : sset a = sset b :=
  sortI_uni ((List.perm_ext_iff_of_nodup (nodup_ddK a) (nodup_ddK b)).mpr fun k => by rw [mem_ddK, mem_ddK]; exact h k)
theorem setLen_ints {ns : List Int} (h : ns.length ≤ 4000) : setLenD (.list (ns.map .int)) = some (.int (ddK ns).length) := by
  unfold setLenD
  show ((dKeys (ns.map .int)).bind _) = _
  rw [dKeys_ints, Option.bind_some, if_pos (by simpa using h), ddK_map _ (fun _ _ e => Sum.inl.inj e), List.length_map]
theorem setLen_strs {ns : List Str} (h : ns.length ≤ 4000) : setLenD (.list (ns.map .str)) = some (.int (ddK ns).length) := by
  unfold setLenD
  show ((dKeys (ns.map .str)).bind _) = _
  rw [dKeys_strs, Option.bind_some, if_pos (by simpa using h), ddK_map _ (fun _ _ e => Sum.inr.inj e), List.length_map]
theorem sorted_ints {ns : List Int} (h : ns.length ≤ LIM) : sortedD (.list (ns.map .int)) = some (.list ((ns.mergeSort leI').map .int)) := by
  unfold sortedD
  show (if _ then _ else _) = _
  rw [if_pos ⟨okSort_ints ns h, rfl⟩, srt_ints]
theorem sorted_strs {ns : List Str} (h : ns.length ≤ LIM) : sortedD (.list (ns.map .str)) = some (.list ((ns.mergeSort leS').map .str)) := by
  unfold sortedD
  show (if _ then _ else _) = _
  rw [if_pos ⟨okSort_strs ns h, rfl⟩, srt_strs]
@[simp] theorem ev_zip {f g : EM} {loc : Loc} {n : Nat} : iZip2 f g loc n = (f loc n).bind fun p => (g loc p.2).bind fun q => (seqOf p.1).bind fun xs => (seqOf q.1).map fun ys => ((xs.zip ys).map fun r => .tuple [r.1, r.2], q.2) := rfl
@[simp] theorem seqOf_L {xs : List D} : seqOf (.list xs) = some xs := rfl
@[simp] theorem seqOf_T {xs : List D} : seqOf (.tuple xs) = some xs := rfl
@[simp] theorem sum_intsD (ns : List Int) : sumD (.list (ns.map .int)) = some (.int ns.sum) := by
  unfold sumD
  simp only [dInts_ints]
  rfl
theorem max_intsD {ns : List Int} (h : ns ≠ []) : maxD (.list (ns.map .int)) = some (.int (maxI ns)) := by
  unfold maxD
  simp only [dInts_ints, Option.bind_some, if_pos h]
theorem min_intsD {ns : List Int} (h : ns ≠ []) : minD (.list (ns.map .int)) = some (.int (minI ns)) := by
  unfold minD
  simp only [dInts_ints, Option.bind_some, if_pos h]
@[simp] theorem all_boolsD (ns : List Bool) : allD (.list (ns.map .bool)) = some (.bool (ns.all id)) := by
  unfold allD
  simp only [dBools_bools]
  rfl
@[simp] theorem any_boolsD (ns : List Bool) : anyD (.list (ns.map .bool)) = some (.bool (ns.any id)) := by
  unfold anyD
  simp only [dBools_bools]
  rfl
end Pd
namespace K09
open PySem PySem.Spec PyProof.Rows L2 Pd
def topS (i : Nat) : Stmt := PySem.Challenge.pw_amendwarrant_k09_whole_all_rates_by_part.main.body.getD i (.Pass ⟨0, 0, 0, 0⟩)
abbrev s__law_draws : Stmt := topS 11
abbrev s__law_next : Stmt := topS 12
abbrev s__law_owed : Stmt := topS 14
abbrev s__law_rates : Stmt := topS 13
abbrev s_owed_whole : Stmt := topS 2
abbrev s_jumps : Stmt := topS 7
abbrev s_least_table : Stmt := topS 3
abbrev s_owed : Stmt := topS 1
abbrev s_froms : Stmt := topS 5
abbrev s_rate_at : Stmt := topS 4
abbrev s_same_tables : Stmt := topS 6
abbrev s_shifted : Stmt := topS 9
abbrev s_sum_table : Stmt := topS 8
abbrev s__law_holds : Stmt := topS 15
abbrev s_law : Stmt := topS 16
abbrev n__law_draws : List Str := ["script", "many", "draws", "mixed", "k", "cell", "rest", "turn"]
theorem sc__law_draws : FnScope ["script", "many", "draws", "mixed", "k", "cell", "rest", "turn"] ["script", "many"] (defScope s__law_draws) := ⟨rfl, rfl, rfl, by decide +kernel, rfl, by decide +kernel, by decide +kernel⟩
abbrev n__law_next : List Str := ["w", "many"]
theorem sc__law_next : FnScope ["w", "many"] ["w", "many"] (defScope s__law_next) := ⟨rfl, rfl, rfl, by decide +kernel, rfl, by decide +kernel, by decide +kernel⟩
abbrev n__law_owed : List Str := ["table", "amount", "begin", "rate", "one"]
theorem sc__law_owed : FnScope ["table", "amount", "begin", "rate", "one"] ["table", "amount"] (defScope s__law_owed) := ⟨rfl, rfl, rfl, by decide +kernel, rfl, by decide +kernel, by decide +kernel⟩
abbrev n__law_rates : List Str := ["w", "begin", "found", "k"]
theorem sc__law_rates : FnScope ["w", "begin", "found", "k"] ["w"] (defScope s__law_rates) := ⟨rfl, rfl, rfl, by decide +kernel, rfl, by decide +kernel, by decide +kernel⟩
abbrev n_owed_whole : List Str := ["table", "amount", "rate", "begin"]
theorem sc_owed_whole : FnScope ["table", "amount", "rate", "begin"] ["table", "amount"] (defScope s_owed_whole) := ⟨rfl, rfl, rfl, by decide +kernel, rfl, by decide +kernel, by decide +kernel⟩
abbrev n_jumps : List Str := ["table", "begin", "_"]
theorem sc_jumps : FnScope ["table", "begin", "_"] ["table"] (defScope s_jumps) := ⟨rfl, rfl, rfl, by decide +kernel, rfl, by decide +kernel, by decide +kernel⟩
abbrev n_least_table : List Str := ["table", "found", "begin", "rate"]
theorem sc_least_table : FnScope ["table", "found", "begin", "rate"] ["table"] (defScope s_least_table) := ⟨rfl, rfl, rfl, by decide +kernel, rfl, by decide +kernel, by decide +kernel⟩
abbrev n_owed : List Str := ["table", "amount", "found", "ends", "begin", "_", "rate", "end", "part"]
theorem sc_owed : FnScope ["table", "amount", "found", "ends", "begin", "_", "rate", "end", "part"] ["table", "amount"] (defScope s_owed) := ⟨rfl, rfl, rfl, by decide +kernel, rfl, by decide +kernel, by decide +kernel⟩
abbrev n_froms : List Str := ["one", "other", "begin", "_"]
theorem sc_froms : FnScope ["one", "other", "begin", "_"] ["one", "other"] (defScope s_froms) := ⟨rfl, rfl, rfl, by decide +kernel, rfl, by decide +kernel, by decide +kernel⟩
abbrev n_rate_at : List Str := ["table", "amount", "begin", "rate"]
theorem sc_rate_at : FnScope ["table", "amount", "begin", "rate"] ["table", "amount"] (defScope s_rate_at) := ⟨rfl, rfl, rfl, by decide +kernel, rfl, by decide +kernel, by decide +kernel⟩
abbrev n_same_tables : List Str := ["one", "other", "begin"]
theorem sc_same_tables : FnScope ["one", "other", "begin"] ["one", "other"] (defScope s_same_tables) := ⟨rfl, rfl, rfl, by decide +kernel, rfl, by decide +kernel, by decide +kernel⟩
abbrev n_shifted : List Str := ["table", "by", "begin", "rate"]
theorem sc_shifted : FnScope ["table", "by", "begin", "rate"] ["table", "by"] (defScope s_shifted) := ⟨rfl, rfl, rfl, by decide +kernel, rfl, by decide +kernel, by decide +kernel⟩
abbrev n_sum_table : List Str := ["one", "other", "begin"]
theorem sc_sum_table : FnScope ["one", "other", "begin"] ["one", "other"] (defScope s_sum_table) := ⟨rfl, rfl, rfl, by decide +kernel, rfl, by decide +kernel, by decide +kernel⟩
abbrev n__law_holds : List Str := ["w", "table", "other", "side", "amounts", "owed_now", "amount", "whole", "begin", "rate", "least", "k", "unlike", "both", "by"]
theorem sc__law_holds : FnScope ["w", "table", "other", "side", "amounts", "owed_now", "amount", "whole", "begin", "rate", "least", "k", "unlike", "both", "by"] ["w"] (defScope s__law_holds) := ⟨rfl, rfl, rfl, by decide +kernel, rfl, by decide +kernel, by decide +kernel⟩
abbrev n_law : List Str := ["script", "w", "turn"]
theorem sc_law : FnScope ["script", "w", "turn"] ["script"] (defScope s_law) := ⟨rfl, rfl, rfl, by decide +kernel, rfl, by decide +kernel, by decide +kernel⟩
structure Txt (K : PySem.W.Frag) (mg : Str → Option Value) where
  a__law_draws : Addr
  d__law_draws : FuncData
  F__law_draws : Fun K "_law_draws" "_law_draws" s__law_draws a__law_draws d__law_draws
  b__law_draws : Binds K d__law_draws ["script", "many"] []
  m__law_draws : mg "_law_draws" = some (.ref a__law_draws)
  a__law_next : Addr
  d__law_next : FuncData
  F__law_next : Fun K "_law_next" "_law_next" s__law_next a__law_next d__law_next
  b__law_next : Binds K d__law_next ["w", "many"] []
  m__law_next : mg "_law_next" = some (.ref a__law_next)
  a__law_owed : Addr
  d__law_owed : FuncData
  F__law_owed : Fun K "_law_owed" "_law_owed" s__law_owed a__law_owed d__law_owed
  b__law_owed : Binds K d__law_owed ["table", "amount"] []
  m__law_owed : mg "_law_owed" = some (.ref a__law_owed)
  a__law_rates : Addr
  d__law_rates : FuncData
  F__law_rates : Fun K "_law_rates" "_law_rates" s__law_rates a__law_rates d__law_rates
  b__law_rates : Binds K d__law_rates ["w"] []
  m__law_rates : mg "_law_rates" = some (.ref a__law_rates)
  a_owed_whole : Addr
  d_owed_whole : FuncData
  F_owed_whole : Fun K "owed_whole" "owed_whole" s_owed_whole a_owed_whole d_owed_whole
  b_owed_whole : Binds K d_owed_whole ["table", "amount"] []
  m_owed_whole : mg "owed_whole" = some (.ref a_owed_whole)
  a_jumps : Addr
  d_jumps : FuncData
  F_jumps : Fun K "jumps" "jumps" s_jumps a_jumps d_jumps
  b_jumps : Binds K d_jumps ["table"] []
  m_jumps : mg "jumps" = some (.ref a_jumps)
  a_least_table : Addr
  d_least_table : FuncData
  F_least_table : Fun K "least_table" "least_table" s_least_table a_least_table d_least_table
  b_least_table : Binds K d_least_table ["table"] []
  m_least_table : mg "least_table" = some (.ref a_least_table)
  a_owed : Addr
  d_owed : FuncData
  F_owed : Fun K "owed" "owed" s_owed a_owed d_owed
  b_owed : Binds K d_owed ["table", "amount"] []
  m_owed : mg "owed" = some (.ref a_owed)
  a_froms : Addr
  d_froms : FuncData
  F_froms : Fun K "froms" "froms" s_froms a_froms d_froms
  b_froms : Binds K d_froms ["one", "other"] []
  m_froms : mg "froms" = some (.ref a_froms)
  a_rate_at : Addr
  d_rate_at : FuncData
  F_rate_at : Fun K "rate_at" "rate_at" s_rate_at a_rate_at d_rate_at
  b_rate_at : Binds K d_rate_at ["table", "amount"] []
  m_rate_at : mg "rate_at" = some (.ref a_rate_at)
  a_same_tables : Addr
  d_same_tables : FuncData
  F_same_tables : Fun K "same_tables" "same_tables" s_same_tables a_same_tables d_same_tables
  b_same_tables : Binds K d_same_tables ["one", "other"] []
  m_same_tables : mg "same_tables" = some (.ref a_same_tables)
  a_shifted : Addr
  d_shifted : FuncData
  F_shifted : Fun K "shifted" "shifted" s_shifted a_shifted d_shifted
  b_shifted : Binds K d_shifted ["table", "by"] []
  m_shifted : mg "shifted" = some (.ref a_shifted)
  a_sum_table : Addr
  d_sum_table : FuncData
  F_sum_table : Fun K "sum_table" "sum_table" s_sum_table a_sum_table d_sum_table
  b_sum_table : Binds K d_sum_table ["one", "other"] []
  m_sum_table : mg "sum_table" = some (.ref a_sum_table)
  a__law_holds : Addr
  d__law_holds : FuncData
  F__law_holds : Fun K "_law_holds" "_law_holds" s__law_holds a__law_holds d__law_holds
  b__law_holds : Binds K d__law_holds ["w"] []
  m__law_holds : mg "_law_holds" = some (.ref a__law_holds)
  n_abs : mg "abs" = none
  n_int : mg "int" = none
  n_len : mg "len" = none
  n_list : mg "list" = none
  n_max : mg "max" = none
  n_min : mg "min" = none
  n_range : mg "range" = none
  n_set : mg "set" = none
  n_sorted : mg "sorted" = none
  n_sum : mg "sum" = none
  n_tuple : mg "tuple" = none
  n_zip : mg "zip" = none
def c__law_draws : SM := (sSeq (sOwn 2 (eList aNil))
    (sSeq (sSet (gN 3) (eC (.int 7)))
    (sSeq (sFor (iRange1 (eOp1 lenD (eVar 0))) (gN 4) (sSeq (sSet (gN 5) (eOp1 absD (eOp1 intD (eOp ixD (eVar 0) (eVar 4)))))
    (sSeq (sSet (gN 3) (eOp modI (eOp1 intD (eOp addD (eOp addD (eOp mulI (eVar 3) (eC (.int 48271))) (eOp modI (eVar 5) (eC (.int 1000003)))) (eVar 4))) (eC (.int 65537))))
    (sSeq (sSet (gN 6) (eC (.int 0)))
    (sSeq (sIf (asB (eOp geI (eVar 5) (eOp powI (eC (.int 10)) (eC (.int 18))))) (sSet (gN 6) (eVar 5)) (sSeq (sAppend 2 (eOp modI (eOp1 intD (eVar 5)) (eC (.int 997))))
    (sAppend 2 (eOp modI (eOp modI (eOp1 intD (eOp addD (eOp mulI (eVar 3) (eC (.int 69621))) (eC (.int 5)))) (eC (.int 65521))) (eC (.int 997))))))
    (sFor (iRange1 (eC (.int 60))) (gN 7) (sIf (asB (eOp gtI (eVar 6) (eC (.int 0)))) (sSeq (sAppend 2 (eOp modI (eOp1 intD (eVar 6)) (eC (.int 997))))
    (sSet (gN 6) (eOp fdivI (eVar 6) (eC (.int 997))))) sNil)))))))
    (sSeq (sFor (iRange1 (eVar 1)) (gN 4) (sSeq (sSet (gN 3) (eOp modI (eOp1 intD (eOp addD (eOp addD (eOp mulI (eVar 3) (eC (.int 16807))) (eVar 4)) (eC (.int 1)))) (eC (.int 65537))))
    (sAppend 2 (eOp modI (eOp1 intD (eVar 3)) (eC (.int 997))))))
    (sRet (eSlice (eVarW 2) pNone (pSome (eVar 1))))))))
def f__law_draws : FM := runF false 8 c__law_draws
def c__law_next (dr : List Int) : SM := (sSeq (sWinc 0)
    (sSeq (sIf (asB (eOp gtI (eWat 0) (eOp1 lenD (eWdr dr 0)))) (sRet (eC (.int 0))) sNil)
    (sRet (eOp modI (eOp1 intD (eOp ixD (eWdr dr 0) (eOp subI (eWat 0) (eC (.int 1))))) (eVar 1)))))
def f__law_next (dr : List Int) : FM := runF true 2 (c__law_next dr)
def c__law_owed : SM := (sRet (eOp1 sumD (eLc (iRange1 (eVar 1)) [4] (gN 4) mYes (eOp ixD (eLc (iVal (eVar 0)) [2, 3] (gT 2 (gsCons (gN 2) (gsCons (gN 3) gsNil))) (asB (eOp leI (eVar 2) (eVar 4))) (eVar 3)) (eOp1 negI (eC (.int 1)))))))
def f__law_owed : FM := runF false 5 c__law_owed
def c__law_rates (dr : List Int) : SM := (sSeq (sParO 1 2 (eC (.int 0)) (eList (aCons (eTup (aCons (eC (.int 0)) (aCons (eCallW 0 (f__law_next dr) 1 (aCons (eC (.int 60)) aNil)) aNil))) aNil)))
    (sSeq (sFor (iRange1 (eCallW 0 (f__law_next dr) 1 (aCons (eC (.int 4)) aNil))) (gN 3) (sSeq (sSet (gN 1) (eOp addD (eOp addD (eVar 1) (eC (.int 1))) (eCallW 0 (f__law_next dr) 1 (aCons (eC (.int 9)) aNil))))
    (sAppend 2 (eTup (aCons (eVar 1) (aCons (eCallW 0 (f__law_next dr) 1 (aCons (eC (.int 60)) aNil)) aNil))))))
    (sRet (eOp1 tupD (eVarW 2)))))
def f__law_rates (dr : List Int) : FM := runF true 4 (c__law_rates dr)
def c_owed_whole : SM := (sSeq (sSet (gN 2) (eOp ixD (eLc (iVal (eVar 0)) [3, 2] (gT 2 (gsCons (gN 3) (gsCons (gN 2) gsNil))) (asB (eOp leI (eVar 3) (eVar 1))) (eVar 2)) (eOp1 negI (eC (.int 1)))))
    (sRet (eOp mulI (eVar 2) (eVar 1))))
def f_owed_whole : FM := runF false 4 c_owed_whole
def c_jumps : SM := (sRet (eOp1 tupD (eLc (iVal (eSlice (eVar 0) (pSome (eC (.int 1))) pNone)) [1, 2] (gT 2 (gsCons (gN 1) (gsCons (gN 2) gsNil))) mYes (eTup (aCons (eVar 1) (aCons (eOp subI (eCall f_owed_whole 2 (aCons (eVar 0) (aCons (eVar 1) aNil))) (eCall f_owed_whole 2 (aCons (eVar 0) (aCons (eOp subI (eVar 1) (eC (.int 1))) aNil)))) aNil))))))
def f_jumps : FM := runF false 3 c_jumps
def c_least_table : SM := (sSeq (sOwn 1 (eList aNil))
    (sSeq (sFor (iVal (eVar 0)) (gT 2 (gsCons (gN 2) (gsCons (gN 3) gsNil))) (sIf (mOr (asB (eOp eqD (eVarW 1) (eList aNil))) (asB (eOp neD (eOp ixD (eOp ixD (eVarW 1) (eOp1 negI (eC (.int 1)))) (eC (.int 1))) (eVar 3)))) (sAppend 1 (eTup (aCons (eVar 2) (aCons (eVar 3) aNil)))) sNil))
    (sRet (eOp1 tupD (eVarW 1)))))
def f_least_table : FM := runF false 4 c_least_table
def c_owed : SM := (sSeq (sSet (gN 2) (eC (.int 0)))
    (sSeq (sSet (gN 3) (eOp addD (eLc (iVal (eSlice (eVar 0) (pSome (eC (.int 1))) pNone)) [4, 5] (gT 2 (gsCons (gN 4) (gsCons (gN 5) gsNil))) mYes (eVar 4)) (eList (aCons (eC .none) aNil))))
    (sSeq (sFor (iZip2 (eVar 0) (eVar 3)) (gT 2 (gsCons (gT 2 (gsCons (gN 4) (gsCons (gN 6) gsNil))) (gsCons (gN 7) gsNil))) (sSeq (sSet (gN 8) (eOp subI (eIf (asB (eOp isNoneD (eVar 7) (eC .none))) (eVar 1) (eOp min2D (eVar 1) (eVar 7))) (eVar 4)))
    (sAug 2 addI (eOp mulI (eVar 6) (eOp max2D (eC (.int 0)) (eVar 8))))))
    (sRet (eVar 2)))))
def f_owed : FM := runF false 9 c_owed
def c_froms : SM := (sRet (eOp1 setSortD (eLc (iVal (eOp addD (eVar 0) (eVar 1))) [2, 3] (gT 2 (gsCons (gN 2) (gsCons (gN 3) gsNil))) mYes (eVar 2))))
def f_froms : FM := runF false 4 c_froms
def c_rate_at : SM := (sRet (eOp ixD (eLc (iVal (eVar 0)) [2, 3] (gT 2 (gsCons (gN 2) (gsCons (gN 3) gsNil))) (asB (eOp leI (eVar 2) (eVar 1))) (eVar 3)) (eOp1 negI (eC (.int 1)))))
def f_rate_at : FM := runF false 4 c_rate_at
def c_same_tables : SM := (sSeq (sFor (iVal (eCall f_froms 2 (aCons (eVar 0) (aCons (eVar 1) aNil)))) (gN 2) (sIf (asB (eOp neD (eCall f_rate_at 2 (aCons (eVar 0) (aCons (eVar 2) aNil))) (eCall f_rate_at 2 (aCons (eVar 1) (aCons (eVar 2) aNil))))) (sRet (eTup (aCons (eC (.str "no")) (aCons (eOp addD (eVar 2) (eC (.int 1))) aNil)))) sNil))
    (sRet (eTup (aCons (eC (.str "yes")) aNil))))
def f_same_tables : FM := runF false 3 c_same_tables
def c_shifted : SM := (sRet (eOp1 tupD (eOp addD (eList (aCons (eOp ixD (eVar 0) (eC (.int 0))) aNil)) (eLc (iVal (eSlice (eVar 0) (pSome (eC (.int 1))) pNone)) [2, 3] (gT 2 (gsCons (gN 2) (gsCons (gN 3) gsNil))) mYes (eTup (aCons (eOp addD (eVar 2) (eVar 1)) (aCons (eVar 3) aNil)))))))
def f_shifted : FM := runF false 4 c_shifted
def c_sum_table : SM := (sRet (eCall f_least_table 1 (aCons (eOp1 tupD (eLc (iVal (eCall f_froms 2 (aCons (eVar 0) (aCons (eVar 1) aNil)))) [2] (gN 2) mYes (eTup (aCons (eVar 2) (aCons (eOp addD (eCall f_rate_at 2 (aCons (eVar 0) (aCons (eVar 2) aNil))) (eCall f_rate_at 2 (aCons (eVar 1) (aCons (eVar 2) aNil)))) aNil))))) aNil)))
def f_sum_table : FM := runF false 3 c_sum_table
def c__law_holds (dr : List Int) : SM := (sSeq (sSet (gT 2 (gsCons (gN 1) (gsCons (gN 2) gsNil))) (eLc (iRange1 (eC (.int 2))) [3] (gN 3) mYes (eCallW 0 (f__law_rates dr) 0 aNil)))
    (sSeq (sSet (gN 4) (eListRg (eC (.int 40))))
    (sSeq (sSet (gN 5) (eLc (iVal (eVar 4)) [6] (gN 6) mYes (eCall f__law_owed 2 (aCons (eVar 1) (aCons (eVar 6) aNil)))))
    (sSeq (sSet (gN 7) (eLc (iVal (eVar 4)) [6] (gN 6) mYes (eOp mulI (eVar 6) (eOp ixD (eLc (iVal (eVar 1)) [8, 9] (gT 2 (gsCons (gN 8) (gsCons (gN 9) gsNil))) (asB (eOp leI (eVar 8) (eVar 6))) (eVar 9)) (eOp1 negI (eC (.int 1)))))))
    (sSeq (sIf (asB (eOp neD (eLc (iVal (eVar 4)) [6] (gN 6) (mOr (asB (eOp neD (eCall f_owed 2 (aCons (eVar 1) (aCons (eVar 6) aNil))) (eOp ixD (eVar 5) (eVar 6)))) (asB (eOp neD (eCall f_owed_whole 2 (aCons (eVar 1) (aCons (eVar 6) aNil))) (eOp ixD (eVar 7) (eVar 6))))) (eVar 6)) (eList aNil))) (sRet (eC (.bool false))) sNil)
    (sSeq (sSet (gN 10) (eOp1 tupD (eLc (iRange1 (eOp1 lenD (eVar 1))) [11] (gN 11) (mOr (asB (eOp eqD (eVar 11) (eC (.int 0)))) (asB (eOp neD (eOp ixD (eOp ixD (eVar 1) (eVar 11)) (eC (.int 1))) (eOp ixD (eOp ixD (eVar 1) (eOp subI (eVar 11) (eC (.int 1)))) (eC (.int 1)))))) (eOp ixD (eVar 1) (eVar 11)))))
    (sSeq (sSetLc 12 (eLc (iVal (eVar 4)) [6] (gN 6) (asB (eOp neD (eCall f__law_owed 2 (aCons (eVar 2) (aCons (eVar 6) aNil))) (eOp ixD (eVar 5) (eVar 6)))) (eVar 6)))
    (sSeq (sIf (mOr (asB (eOp neD (eCall f_least_table 1 (aCons (eVar 1) aNil)) (eVar 10))) (mOr (mAnd (asB (eOp neD (eVar 12) (eList aNil))) (asB (eOp neD (eCall f_same_tables 2 (aCons (eVar 1) (aCons (eVar 2) aNil))) (eTup (aCons (eC (.str "no")) (aCons (eOp ixD (eVar 12) (eC (.int 0))) aNil)))))) (asB (eOp neD (eCall f_same_tables 2 (aCons (eVar 1) (aCons (eVar 10) aNil))) (eTup (aCons (eC (.str "yes")) aNil)))))) (sRet (eC (.bool false))) sNil)
    (sSeq (sIf (asB (eOp neD (eOp1 listD (eCall f_jumps 1 (aCons (eVar 1) aNil))) (eLc (iVal (eSlice (eVar 1) (pSome (eC (.int 1))) pNone)) [8, 9] (gT 2 (gsCons (gN 8) (gsCons (gN 9) gsNil))) mYes (eTup (aCons (eVar 8) (aCons (eOp subI (eOp ixD (eVar 7) (eVar 8)) (eOp ixD (eVar 7) (eOp subI (eVar 8) (eC (.int 1))))) aNil)))))) (sRet (eC (.bool false))) sNil)
    (sSeq (sSet (gN 13) (eIf (asB (eOp ltI (eOp addD (eOp1 maxD (eLc (iVal (eVar 1)) [8, 9] (gT 2 (gsCons (gN 8) (gsCons (gN 9) gsNil))) mYes (eVar 9))) (eOp1 maxD (eLc (iVal (eVar 2)) [8, 9] (gT 2 (gsCons (gN 8) (gsCons (gN 9) gsNil))) mYes (eVar 9)))) (eC (.int 100)))) (eCall f_sum_table 2 (aCons (eVar 1) (aCons (eVar 2) aNil))) (eC .none)))
    (sSeq (sIf (mAnd (asB (eOp notNoneD (eVar 13) (eC .none))) (asB (eOp neD (eLc (iVal (eVar 4)) [6] (gN 6) (asB (eOp neD (eCall f__law_owed 2 (aCons (eVar 13) (aCons (eVar 6) aNil))) (eOp addD (eOp ixD (eVar 5) (eVar 6)) (eCall f__law_owed 2 (aCons (eVar 2) (aCons (eVar 6) aNil)))))) (eVar 6)) (eList aNil)))) (sRet (eC (.bool false))) sNil)
    (sSeq (sSet (gN 14) (eCallW 0 (f__law_next dr) 1 (aCons (eC (.int 5)) aNil)))
    (sRet (eOp eqD (eCall f_shifted 2 (aCons (eVar 1) (aCons (eVar 14) aNil))) (eOp addD (eSlice (eVar 1) pNone (pSome (eC (.int 1)))) (eOp1 tupD (eLc (iVal (eSlice (eVar 1) (pSome (eC (.int 1))) pNone)) [8, 9] (gT 2 (gsCons (gN 8) (gsCons (gN 9) gsNil))) mYes (eTup (aCons (eOp addD (eVar 8) (eVar 14)) (aCons (eVar 9) aNil))))))))))))))))))))
def f__law_holds (dr : List Int) : FM := runF true 15 (c__law_holds dr)
def c_law0 : EM := (eCall f__law_draws 2 (aCons (eVar 0) (aCons (eC (.int 900)) aNil)))
def c_law (dr : List Int) : SM := (sSeq (sFor (iRange1 (eC (.int 4))) (gN 2) (sIf (mNot (asB (eCallW 1 (f__law_holds dr) 0 aNil))) (sRet (eC (.bool false))) sNil))
    (sRet (eC (.bool true))))
section
variable {P : Program} {w : PySem.World} {K : PySem.W.Frag} {mg : Str → Option Value} {base : Heap}
theorem w__law_draws (T : Txt K mg) (cdv : Value) (A : Around) (outer : List Env) (s : Shared) (H : Hp) (E : XK) (W : Wp) (P0 H0 : Hp) (hr : Room 0 (bX P w K mg base n__law_draws "_law_draws" s__law_draws T.a__law_draws cdv A outer s H E).A) :
    PSs (bX P w K mg base n__law_draws "_law_draws" s__law_draws T.a__law_draws cdv A outer s H E) (defBody s__law_draws) (tS ⟨K, W, P0, H0⟩ c__law_draws) :=
  (ds_cons (ds_own (i := 2) sc__law_draws.nd (df_list da_nil))
    (ds_cons (ds_name (i := 3) sc__law_draws.nd dc_int)
    (ds_cons (ds_for PassesOwn.never rfl (pis_range1 T.n_range (pg_w (dg_b1 call_lenR c1_len T.n_len bt_len (pd_w (de_var (i := 0)))))) (dg_name (i := 4) sc__law_draws.nd) (ds_cons (ds_name (i := 5) sc__law_draws.nd (pg_d (dg_b1 call_abs c1_abs T.n_abs bt_abs (pg_w (dg_t1 call_int1 c1_int T.n_int bt_int (pg_w (dg_ix ix_seq o2_ix (pd_w (de_var (i := 0))) (pd_w (de_var (i := 4))) (fun _ _ => rfl))))))))
    (ds_cons (ds_name (i := 3) sc__law_draws.nd (pg_d (dg_op op_mod o2_mod (pg_w (dg_t1 call_int1 c1_int T.n_int bt_int (pg_w (dg_op op_addD o2_add (pg_w (dg_op op_addD o2_add (pg_w (dg_op op_mul o2_mul (pd_w (de_var (i := 3))) (pd_w dc_int))) (pg_w (dg_op op_mod o2_mod (pd_w (de_var (i := 5))) (pd_w dc_int))))) (pd_w (de_var (i := 4))))))) (pd_w dc_int))))
    (ds_cons (ds_name (i := 6) sc__law_draws.nd dc_int)
    (ds_cons (ds_if (dt_cmp op_ge o2_ge (pd_w (de_var (i := 5))) (pg_w (dg_op op_pow o2_pow (pd_w dc_int) (pd_w dc_int)))) (ds_one (ds_name (i := 6) sc__law_draws.nd (de_var (i := 5)))) (ds_cons (ds_append (i := 2) rfl (pg_d (dg_op op_mod o2_mod (pg_w (dg_t1 call_int1 c1_int T.n_int bt_int (pd_w (de_var (i := 5))))) (pd_w dc_int))) (hpe := fun h => pe_bm PySem.F.plainAttrs_list PySem.F.slot_list_append PySem.F.type_list_append mt_append (pv 2) (pa_cons h pa_nil)))
    (ds_one (ds_append (i := 2) rfl (pg_d (dg_op op_mod o2_mod (pg_w (dg_op op_mod o2_mod (pg_w (dg_t1 call_int1 c1_int T.n_int bt_int (pg_w (dg_op op_addD o2_add (pg_w (dg_op op_mul o2_mul (pd_w (de_var (i := 3))) (pd_w dc_int))) (pd_w dc_int))))) (pd_w dc_int))) (pd_w dc_int))) (hpe := fun h => pe_bm PySem.F.plainAttrs_list PySem.F.slot_list_append PySem.F.type_list_append mt_append (pv 2) (pa_cons h pa_nil))))))
    (ds_one (ds_for PassesOwn.never rfl (pis_range1 T.n_range (pd_w dc_int)) (dg_name (i := 7) sc__law_draws.nd) (ds_one (ds_if (dt_cmp op_gt o2_gt (pd_w (de_var (i := 6))) (pd_w dc_int)) (ds_cons (ds_append (i := 2) rfl (pg_d (dg_op op_mod o2_mod (pg_w (dg_t1 call_int1 c1_int T.n_int bt_int (pd_w (de_var (i := 6))))) (pd_w dc_int))) (hpe := fun h => pe_bm PySem.F.plainAttrs_list PySem.F.slot_list_append PySem.F.type_list_append mt_append (pv 2) (pa_cons h pa_nil)))
    (ds_one (ds_name (i := 6) sc__law_draws.nd (pg_d (dg_op op_fdiv o2_fdiv (pd_w (de_var (i := 6))) (pd_w dc_int)))))) ds_nil)))))))))
    (ds_cons (ds_for PassesOwn.never rfl (pis_range1 T.n_range (pd_w (de_var (i := 1)))) (dg_name (i := 4) sc__law_draws.nd) (ds_cons (ds_name (i := 3) sc__law_draws.nd (pg_d (dg_op op_mod o2_mod (pg_w (dg_t1 call_int1 c1_int T.n_int bt_int (pg_w (dg_op op_addD o2_add (pg_w (dg_op op_addD o2_add (pg_w (dg_op op_mul o2_mul (pd_w (de_var (i := 3))) (pd_w dc_int))) (pd_w (de_var (i := 4))))) (pd_w dc_int))))) (pd_w dc_int))))
    (ds_one (ds_append (i := 2) rfl (pg_d (dg_op op_mod o2_mod (pg_w (dg_t1 call_int1 c1_int T.n_int bt_int (pd_w (de_var (i := 3))))) (pd_w dc_int))) (hpe := fun h => pe_bm PySem.F.plainAttrs_list PySem.F.slot_list_append PySem.F.type_list_append mt_append (pv 2) (pa_cons h pa_nil))))))
    (ds_one (ds_ret (pg_d (dg_slice rfl (dw_var (i := 2)) dpo_none (dpo_some (pd_w (de_var (i := 1))))))))))))
theorem ok__law_draws (T : Txt K mg) : FnOk P w K mg base CX0 1 T.a__law_draws T.d__law_draws ["script", "many"] (spF K false (fun _ => f__law_draws) 2) :=
  by have q := ok_fn (P := P) (w := w) (mg := mg) (base := base) (k := 0) (wf := false) (body := fun _ => c__law_draws) (ar := 2) T.F__law_draws sc__law_draws rfl (w__law_draws T); exact q
theorem w__law_next (T : Txt K mg) (cdv : Value) (A : Around) (outer : List Env) (s : Shared) (H : Hp) (E : XK) (W : Wp) (P0 H0 : Hp) (hr : Room 0 (bX P w K mg base n__law_next "_law_next" s__law_next T.a__law_next cdv A outer s H E).A) :
    PSs (bX P w K mg base n__law_next "_law_next" s__law_next T.a__law_next cdv A outer s H E) (defBody s__law_next) (tS ⟨K, W, P0, H0⟩ (c__law_next W.draws)) :=
  (ds_cons (ds_winc (i := 0) hr.units)
    (ds_cons (ds_if (dt_cmp op_gt o2_gt (pd_w (de_wat (i := 0) hr.units)) (pg_w (dg_b1 call_lenR c1_len T.n_len bt_len (pd_w (de_wdr (i := 0) hr.units))))) (ds_one (ds_ret dc_int)) ds_nil)
    (ds_one (ds_ret (pg_d (dg_op op_mod o2_mod (pg_w (dg_t1 call_int1 c1_int T.n_int bt_int (pg_w (dg_ix ix_seq o2_ix (pd_w (de_wdr (i := 0) hr.units)) (pg_w (dg_op op_sub o2_sub (pd_w (de_wat (i := 0) hr.units)) (pd_w dc_int))) (fun _ _ => rfl))))) (pd_w (de_var (i := 1)))))))))
theorem ok__law_next (T : Txt K mg) : FnOk P w K mg base CX0 1 T.a__law_next T.d__law_next ["w", "many"] (spF K true f__law_next 1) :=
  by have q := ok_fn (P := P) (w := w) (mg := mg) (base := base) (k := 0) (wf := true) (body := c__law_next) (ar := 1) T.F__law_next sc__law_next rfl (w__law_next T); exact q
theorem w__law_owed (T : Txt K mg) (cdv : Value) (A : Around) (outer : List Env) (s : Shared) (H : Hp) (E : XK) (W : Wp) (P0 H0 : Hp) (hr : Room 0 (bX P w K mg base n__law_owed "_law_owed" s__law_owed T.a__law_owed cdv A outer s H E).A) :
    PSs (bX P w K mg base n__law_owed "_law_owed" s__law_owed T.a__law_owed cdv A outer s H E) (defBody s__law_owed) (tS ⟨K, W, P0, H0⟩ c__law_owed) :=
  (ds_one (ds_ret (pg_d (dg_b1 (cr_sum rfl) c1_sum T.n_sum bt_sum (pf_w (df_lc (own := [("one", 4)]) rfl sc__law_owed.nd (pis_w (pis_range1 T.n_range (pd_w (de_var (i := 1))))) (blkOk_by (by show blkC n__law_owed (defScope s__law_owed) _ _ = true; decide +kernel)) (by decide) (fun _ _ _ _ _ => (dg_name (i := 4) sc__law_owed.nd)) (fun _ _ _ _ _ => dts_nil) (fun _ _ _ _ _ => (pg_d (dg_ix ix_seq o2_ix (pf_w (df_lc (own := [("begin", 2), ("rate", 3)]) rfl sc__law_owed.nd (pis_w (pis_val rfl (de_var (i := 0)))) (blkOk_by (by show blkC n__law_owed (relS _ (defScope s__law_owed)) _ _ = true; decide +kernel)) (by decide) (fun _ _ _ _ _ => (dg_unpack rfl rfl (dgs_cons (dg_name (i := 2) sc__law_owed.nd) (dgs_cons (dg_name (i := 3) sc__law_owed.nd) dgs_nil)))) (fun _ _ _ _ _ => (dts_one (dt_cmp op_le o2_le (pd_w (de_var (i := 2))) (pd_w (de_var (i := 4)))))) (fun _ _ _ _ _ => (de_var (i := 3))))) (pg_w (dg_un un_neg o1_neg (pd_w dc_int))) (fun _ _ => rfl))))))))))
theorem ok__law_owed (T : Txt K mg) : FnOk P w K mg base CX0 1 T.a__law_owed T.d__law_owed ["table", "amount"] (spF K false (fun _ => f__law_owed) 2) :=
  by have q := ok_fn (P := P) (w := w) (mg := mg) (base := base) (k := 0) (wf := false) (body := fun _ => c__law_owed) (ar := 2) T.F__law_owed sc__law_owed rfl (w__law_owed T); exact q
theorem w__law_rates (T : Txt K mg) (cdv : Value) (A : Around) (outer : List Env) (s : Shared) (H : Hp) (E : XK) (W : Wp) (P0 H0 : Hp) (hr : Room 1 (bX P w K mg base n__law_rates "_law_rates" s__law_rates T.a__law_rates cdv A outer s H E).A) :
    PSs (bX P w K mg base n__law_rates "_law_rates" s__law_rates T.a__law_rates cdv A outer s H E) (defBody s__law_rates) (tS ⟨K, W, P0, H0⟩ (c__law_rates W.draws)) :=
  (ds_cons (ds_parO (i := 1) (j := 2) rfl sc__law_rates.nd dc_int (df_list (da_cons (pg_d (dg_tup (da_cons dc_int (da_cons (de_callw (i := 0) (Fw := f__law_next) (ok__law_next T) rfl (hr.mono (by decide)) T.m__law_next T.F__law_next.kp T.b__law_next (pv 0) (da_cons dc_int da_nil)) da_nil)))) da_nil)))
    (ds_cons (ds_for PassesOwn.never rfl (pis_range1 T.n_range (pd_w (de_callw (i := 0) (Fw := f__law_next) (ok__law_next T) rfl (hr.mono (by decide)) T.m__law_next T.F__law_next.kp T.b__law_next (pv 0) (da_cons dc_int da_nil)))) (dg_name (i := 3) sc__law_rates.nd) (ds_cons (ds_name (i := 1) sc__law_rates.nd (pg_d (dg_op op_addD o2_add (pg_w (dg_op op_addD o2_add (pd_w (de_var (i := 1))) (pd_w dc_int))) (pd_w (de_callw (i := 0) (Fw := f__law_next) (ok__law_next T) rfl (hr.mono (by decide)) T.m__law_next T.F__law_next.kp T.b__law_next (pv 0) (da_cons dc_int da_nil))))))
    (ds_one (ds_append (i := 2) rfl (pg_d (dg_tup (da_cons (de_var (i := 1)) (da_cons (de_callw (i := 0) (Fw := f__law_next) (ok__law_next T) rfl (hr.mono (by decide)) T.m__law_next T.F__law_next.kp T.b__law_next (pv 0) (da_cons dc_int da_nil)) da_nil)))) (hpe := fun h => pe_bm PySem.F.plainAttrs_list PySem.F.slot_list_append PySem.F.type_list_append mt_append (pv 2) (pa_cons h pa_nil))))))
    (ds_one (ds_ret (pg_d (dg_t1 call_tuple_of c1_tuple T.n_tuple bt_tuple (dw_var (i := 2))))))))
theorem ok__law_rates (T : Txt K mg) : FnOk P w K mg base CX0 2 T.a__law_rates T.d__law_rates ["w"] (spF K true f__law_rates 0) :=
  by have q := ok_fn (P := P) (w := w) (mg := mg) (base := base) (k := 1) (wf := true) (body := c__law_rates) (ar := 0) T.F__law_rates sc__law_rates rfl (w__law_rates T); exact q
theorem w_owed_whole (T : Txt K mg) (cdv : Value) (A : Around) (outer : List Env) (s : Shared) (H : Hp) (E : XK) (W : Wp) (P0 H0 : Hp) (hr : Room 0 (bX P w K mg base n_owed_whole "owed_whole" s_owed_whole T.a_owed_whole cdv A outer s H E).A) :
    PSs (bX P w K mg base n_owed_whole "owed_whole" s_owed_whole T.a_owed_whole cdv A outer s H E) (defBody s_owed_whole) (tS ⟨K, W, P0, H0⟩ c_owed_whole) :=
  (ds_cons (ds_name (i := 2) sc_owed_whole.nd (pg_d (dg_ix ix_seq o2_ix (pf_w (df_lc (own := [("begin", 3), ("rate", 2)]) rfl sc_owed_whole.nd (pis_w (pis_val rfl (de_var (i := 0)))) (blkOk_by (by show blkC n_owed_whole (defScope s_owed_whole) _ _ = true; decide +kernel)) (by decide) (fun _ _ _ _ _ => (dg_unpack rfl rfl (dgs_cons (dg_name (i := 3) sc_owed_whole.nd) (dgs_cons (dg_name (i := 2) sc_owed_whole.nd) dgs_nil)))) (fun _ _ _ _ _ => (dts_one (dt_cmp op_le o2_le (pd_w (de_var (i := 3))) (pd_w (de_var (i := 1)))))) (fun _ _ _ _ _ => (de_var (i := 2))))) (pg_w (dg_un un_neg o1_neg (pd_w dc_int))) (fun _ _ => rfl))))
    (ds_one (ds_ret (pg_d (dg_op op_mul o2_mul (pd_w (de_var (i := 2))) (pd_w (de_var (i := 1))))))))
theorem ok_owed_whole (T : Txt K mg) : FnOk P w K mg base CX0 1 T.a_owed_whole T.d_owed_whole ["table", "amount"] (spF K false (fun _ => f_owed_whole) 2) :=
  by have q := ok_fn (P := P) (w := w) (mg := mg) (base := base) (k := 0) (wf := false) (body := fun _ => c_owed_whole) (ar := 2) T.F_owed_whole sc_owed_whole rfl (w_owed_whole T); exact q
theorem w_jumps (T : Txt K mg) (cdv : Value) (A : Around) (outer : List Env) (s : Shared) (H : Hp) (E : XK) (W : Wp) (P0 H0 : Hp) (hr : Room 1 (bX P w K mg base n_jumps "jumps" s_jumps T.a_jumps cdv A outer s H E).A) :
    PSs (bX P w K mg base n_jumps "jumps" s_jumps T.a_jumps cdv A outer s H E) (defBody s_jumps) (tS ⟨K, W, P0, H0⟩ c_jumps) :=
  (ds_one (ds_ret (pg_d (dg_t1 call_tuple_of c1_tuple T.n_tuple bt_tuple (pf_w (df_lc (own := [("begin", 1), ("_", 2)]) rfl sc_jumps.nd (pis_w (pis_val rfl (pg_d (dg_slice rfl (pd_w (de_var (i := 0))) (dpo_some (pd_w dc_int)) dpo_none)))) (blkOk_by (by show blkC n_jumps (defScope s_jumps) _ _ = true; decide +kernel)) (by decide) (fun _ _ _ _ _ => (dg_unpack rfl rfl (dgs_cons (dg_name (i := 1) sc_jumps.nd) (dgs_cons (dg_name (i := 2) sc_jumps.nd) dgs_nil)))) (fun _ _ _ _ _ => dts_nil) (fun _ _ _ _ _ => (pg_d (dg_tup (da_cons (de_var (i := 1)) (da_cons (pg_d (dg_op op_sub o2_sub (pd_w (de_call (ok_owed_whole T) rfl (hr.mono (by decide)) T.m_owed_whole T.F_owed_whole.kp T.b_owed_whole (da_cons (de_var (i := 0)) (da_cons (de_var (i := 1)) da_nil)))) (pd_w (de_call (ok_owed_whole T) rfl (hr.mono (by decide)) T.m_owed_whole T.F_owed_whole.kp T.b_owed_whole (da_cons (de_var (i := 0)) (da_cons (pg_d (dg_op op_sub o2_sub (pd_w (de_var (i := 1))) (pd_w dc_int))) da_nil)))))) da_nil)))))))))))
theorem ok_jumps (T : Txt K mg) : FnOk P w K mg base CX0 2 T.a_jumps T.d_jumps ["table"] (spF K false (fun _ => f_jumps) 1) :=
  by have q := ok_fn (P := P) (w := w) (mg := mg) (base := base) (k := 1) (wf := false) (body := fun _ => c_jumps) (ar := 1) T.F_jumps sc_jumps rfl (w_jumps T); exact q
theorem w_least_table (T : Txt K mg) (cdv : Value) (A : Around) (outer : List Env) (s : Shared) (H : Hp) (E : XK) (W : Wp) (P0 H0 : Hp) (hr : Room 0 (bX P w K mg base n_least_table "least_table" s_least_table T.a_least_table cdv A outer s H E).A) :
    PSs (bX P w K mg base n_least_table "least_table" s_least_table T.a_least_table cdv A outer s H E) (defBody s_least_table) (tS ⟨K, W, P0, H0⟩ c_least_table) :=
  (ds_cons (ds_own (i := 1) sc_least_table.nd (df_list da_nil))
    (ds_cons (ds_for PassesOwn.never rfl (pis_val rfl (de_var (i := 0))) (dg_unpack rfl rfl (dgs_cons (dg_name (i := 2) sc_least_table.nd) (dgs_cons (dg_name (i := 3) sc_least_table.nd) dgs_nil))) (ds_one (ds_if (PW.pt (dw_or (dt_cmp (op_eqP hr.units) o2_eq (dw_var (i := 1)) (pf_w (df_list da_nil))) (dw_or1 (dt_cmp (op_neP hr.units) o2_ne (pg_w (dg_ix ix_seq o2_ix (pg_w (dg_ix ix_seq o2_ix (dw_var (i := 1)) (pg_w (dg_un un_neg o1_neg (pd_w dc_int))) (fun _ _ => rfl))) (pd_w dc_int) (fun _ _ => rfl))) (pd_w (de_var (i := 3))))))) (ds_one (ds_append (i := 1) rfl (pg_d (dg_tup (da_cons (de_var (i := 2)) (da_cons (de_var (i := 3)) da_nil)))) (hpe := fun h => pe_bm PySem.F.plainAttrs_list PySem.F.slot_list_append PySem.F.type_list_append mt_append (pv 1) (pa_cons h pa_nil)))) ds_nil)))
    (ds_one (ds_ret (pg_d (dg_t1 call_tuple_of c1_tuple T.n_tuple bt_tuple (dw_var (i := 1))))))))
theorem ok_least_table (T : Txt K mg) : FnOk P w K mg base CX0 1 T.a_least_table T.d_least_table ["table"] (spF K false (fun _ => f_least_table) 1) :=
  by have q := ok_fn (P := P) (w := w) (mg := mg) (base := base) (k := 0) (wf := false) (body := fun _ => c_least_table) (ar := 1) T.F_least_table sc_least_table rfl (w_least_table T); exact q
theorem w_owed (T : Txt K mg) (cdv : Value) (A : Around) (outer : List Env) (s : Shared) (H : Hp) (E : XK) (W : Wp) (P0 H0 : Hp) (hr : Room 0 (bX P w K mg base n_owed "owed" s_owed T.a_owed cdv A outer s H E).A) :
    PSs (bX P w K mg base n_owed "owed" s_owed T.a_owed cdv A outer s H E) (defBody s_owed) (tS ⟨K, W, P0, H0⟩ c_owed) :=
  (ds_cons (ds_name (i := 2) sc_owed.nd dc_int)
    (ds_cons (ds_name (i := 3) sc_owed.nd (pg_d (dg_op op_addD o2_add (pf_w (df_lc (own := [("begin", 4), ("_", 5)]) rfl sc_owed.nd (pis_w (pis_val rfl (pg_d (dg_slice rfl (pd_w (de_var (i := 0))) (dpo_some (pd_w dc_int)) dpo_none)))) (blkOk_by (by show blkC n_owed (defScope s_owed) _ _ = true; decide +kernel)) (by decide) (fun _ _ _ _ _ => (dg_unpack rfl rfl (dgs_cons (dg_name (i := 4) sc_owed.nd) (dgs_cons (dg_name (i := 5) sc_owed.nd) dgs_nil)))) (fun _ _ _ _ _ => dts_nil) (fun _ _ _ _ _ => (de_var (i := 4))))) (pf_w (df_list (da_cons dc_non da_nil))))))
    (ds_cons (ds_for PassesOwn.never rfl (pis_zip T.n_zip rfl (de_var (i := 0)) (de_var (i := 3))) (dg_unpack rfl rfl (dgs_cons (dg_unpack rfl rfl (dgs_cons (dg_name (i := 4) sc_owed.nd) (dgs_cons (dg_name (i := 6) sc_owed.nd) dgs_nil))) (dgs_cons (dg_name (i := 7) sc_owed.nd) dgs_nil))) (ds_cons (ds_name (i := 8) sc_owed.nd (pg_d (dg_op op_sub o2_sub (pg_w (tG_if (dt_cmp op_isN o2_isN (pd_w (de_var (i := 7))) (pd_w dc_non)) (pd_g (de_var (i := 1))) (dg_b2 (call_min2 rfl) c2_min T.n_min bt_min (pd_w (de_var (i := 1))) (pd_w (de_var (i := 7)))))) (pd_w (de_var (i := 4))))))
    (ds_one (ds_augI (i := 2) sc_owed.nd (pg_d (dg_op op_mul o2_mul (pd_w (de_var (i := 6))) (pg_w (dg_b2 (call_max2 rfl) c2_max T.n_max bt_max (pd_w dc_int) (pd_w (de_var (i := 8)))))))))))
    (ds_one (ds_ret (de_var (i := 2)))))))
theorem ok_owed (T : Txt K mg) : FnOk P w K mg base CX0 1 T.a_owed T.d_owed ["table", "amount"] (spF K false (fun _ => f_owed) 2) :=
  by have q := ok_fn (P := P) (w := w) (mg := mg) (base := base) (k := 0) (wf := false) (body := fun _ => c_owed) (ar := 2) T.F_owed sc_owed rfl (w_owed T); exact q
theorem w_froms (T : Txt K mg) (cdv : Value) (A : Around) (outer : List Env) (s : Shared) (H : Hp) (E : XK) (W : Wp) (P0 H0 : Hp) (hr : Room 0 (bX P w K mg base n_froms "froms" s_froms T.a_froms cdv A outer s H E).A) :
    PSs (bX P w K mg base n_froms "froms" s_froms T.a_froms cdv A outer s H E) (defBody s_froms) (tS ⟨K, W, P0, H0⟩ c_froms) :=
  (ds_one (ds_ret (pf_d (dg_setSort rfl hr.units rfl T.n_sorted bt_sorted T.n_set bt_set (pf_w (df_lc (own := [("begin", 2), ("_", 3)]) rfl sc_froms.nd (pis_w (pis_val rfl (pg_d (dg_op op_addD o2_add (pd_w (de_var (i := 0))) (pd_w (de_var (i := 1))))))) (blkOk_by (by show blkC n_froms (defScope s_froms) _ _ = true; decide +kernel)) (by decide) (fun _ _ _ _ _ => (dg_unpack rfl rfl (dgs_cons (dg_name (i := 2) sc_froms.nd) (dgs_cons (dg_name (i := 3) sc_froms.nd) dgs_nil)))) (fun _ _ _ _ _ => dts_nil) (fun _ _ _ _ _ => (de_var (i := 2)))))))))
theorem ok_froms (T : Txt K mg) : FnOk P w K mg base CX0 1 T.a_froms T.d_froms ["one", "other"] (spF K false (fun _ => f_froms) 2) :=
  by have q := ok_fn (P := P) (w := w) (mg := mg) (base := base) (k := 0) (wf := false) (body := fun _ => c_froms) (ar := 2) T.F_froms sc_froms rfl (w_froms T); exact q
theorem w_rate_at (T : Txt K mg) (cdv : Value) (A : Around) (outer : List Env) (s : Shared) (H : Hp) (E : XK) (W : Wp) (P0 H0 : Hp) (hr : Room 0 (bX P w K mg base n_rate_at "rate_at" s_rate_at T.a_rate_at cdv A outer s H E).A) :
    PSs (bX P w K mg base n_rate_at "rate_at" s_rate_at T.a_rate_at cdv A outer s H E) (defBody s_rate_at) (tS ⟨K, W, P0, H0⟩ c_rate_at) :=
  (ds_one (ds_ret (pg_d (dg_ix ix_seq o2_ix (pf_w (df_lc (own := [("begin", 2), ("rate", 3)]) rfl sc_rate_at.nd (pis_w (pis_val rfl (de_var (i := 0)))) (blkOk_by (by show blkC n_rate_at (defScope s_rate_at) _ _ = true; decide +kernel)) (by decide) (fun _ _ _ _ _ => (dg_unpack rfl rfl (dgs_cons (dg_name (i := 2) sc_rate_at.nd) (dgs_cons (dg_name (i := 3) sc_rate_at.nd) dgs_nil)))) (fun _ _ _ _ _ => (dts_one (dt_cmp op_le o2_le (pd_w (de_var (i := 2))) (pd_w (de_var (i := 1)))))) (fun _ _ _ _ _ => (de_var (i := 3))))) (pg_w (dg_un un_neg o1_neg (pd_w dc_int))) (fun _ _ => rfl)))))
theorem ok_rate_at (T : Txt K mg) : FnOk P w K mg base CX0 1 T.a_rate_at T.d_rate_at ["table", "amount"] (spF K false (fun _ => f_rate_at) 2) :=
  by have q := ok_fn (P := P) (w := w) (mg := mg) (base := base) (k := 0) (wf := false) (body := fun _ => c_rate_at) (ar := 2) T.F_rate_at sc_rate_at rfl (w_rate_at T); exact q
theorem w_same_tables (T : Txt K mg) (cdv : Value) (A : Around) (outer : List Env) (s : Shared) (H : Hp) (E : XK) (W : Wp) (P0 H0 : Hp) (hr : Room 1 (bX P w K mg base n_same_tables "same_tables" s_same_tables T.a_same_tables cdv A outer s H E).A) :
    PSs (bX P w K mg base n_same_tables "same_tables" s_same_tables T.a_same_tables cdv A outer s H E) (defBody s_same_tables) (tS ⟨K, W, P0, H0⟩ c_same_tables) :=
  (ds_cons (ds_for PassesOwn.never rfl (pis_val rfl (de_call (ok_froms T) rfl (hr.mono (by decide)) T.m_froms T.F_froms.kp T.b_froms (da_cons (de_var (i := 0)) (da_cons (de_var (i := 1)) da_nil)))) (dg_name (i := 2) sc_same_tables.nd) (ds_one (ds_if (dt_cmp (op_neP hr.units) o2_ne (pd_w (de_call (ok_rate_at T) rfl (hr.mono (by decide)) T.m_rate_at T.F_rate_at.kp T.b_rate_at (da_cons (de_var (i := 0)) (da_cons (de_var (i := 2)) da_nil)))) (pd_w (de_call (ok_rate_at T) rfl (hr.mono (by decide)) T.m_rate_at T.F_rate_at.kp T.b_rate_at (da_cons (de_var (i := 1)) (da_cons (de_var (i := 2)) da_nil))))) (ds_one (ds_ret (pg_d (dg_tup (da_cons dc_str (da_cons (pg_d (dg_op op_addD o2_add (pd_w (de_var (i := 2))) (pd_w dc_int))) da_nil)))))) ds_nil)))
    (ds_one (ds_ret (pg_d (dg_tup (da_cons dc_str da_nil))))))
theorem ok_same_tables (T : Txt K mg) : FnOk P w K mg base CX0 2 T.a_same_tables T.d_same_tables ["one", "other"] (spF K false (fun _ => f_same_tables) 2) :=
  by have q := ok_fn (P := P) (w := w) (mg := mg) (base := base) (k := 1) (wf := false) (body := fun _ => c_same_tables) (ar := 2) T.F_same_tables sc_same_tables rfl (w_same_tables T); exact q
theorem w_shifted (T : Txt K mg) (cdv : Value) (A : Around) (outer : List Env) (s : Shared) (H : Hp) (E : XK) (W : Wp) (P0 H0 : Hp) (hr : Room 0 (bX P w K mg base n_shifted "shifted" s_shifted T.a_shifted cdv A outer s H E).A) :
    PSs (bX P w K mg base n_shifted "shifted" s_shifted T.a_shifted cdv A outer s H E) (defBody s_shifted) (tS ⟨K, W, P0, H0⟩ c_shifted) :=
  (ds_one (ds_ret (pg_d (dg_t1 call_tuple_of c1_tuple T.n_tuple bt_tuple (pg_w (dg_op op_addD o2_add (pf_w (df_list (da_cons (pg_d (dg_ix ix_seq o2_ix (pd_w (de_var (i := 0))) (pd_w dc_int) (fun _ _ => rfl))) da_nil))) (pf_w (df_lc (own := [("begin", 2), ("rate", 3)]) rfl sc_shifted.nd (pis_w (pis_val rfl (pg_d (dg_slice rfl (pd_w (de_var (i := 0))) (dpo_some (pd_w dc_int)) dpo_none)))) (blkOk_by (by show blkC n_shifted (defScope s_shifted) _ _ = true; decide +kernel)) (by decide) (fun _ _ _ _ _ => (dg_unpack rfl rfl (dgs_cons (dg_name (i := 2) sc_shifted.nd) (dgs_cons (dg_name (i := 3) sc_shifted.nd) dgs_nil)))) (fun _ _ _ _ _ => dts_nil) (fun _ _ _ _ _ => (pg_d (dg_tup (da_cons (pg_d (dg_op op_addD o2_add (pd_w (de_var (i := 2))) (pd_w (de_var (i := 1))))) (da_cons (de_var (i := 3)) da_nil)))))))))))))
theorem ok_shifted (T : Txt K mg) : FnOk P w K mg base CX0 1 T.a_shifted T.d_shifted ["table", "by"] (spF K false (fun _ => f_shifted) 2) :=
  by have q := ok_fn (P := P) (w := w) (mg := mg) (base := base) (k := 0) (wf := false) (body := fun _ => c_shifted) (ar := 2) T.F_shifted sc_shifted rfl (w_shifted T); exact q
theorem w_sum_table (T : Txt K mg) (cdv : Value) (A : Around) (outer : List Env) (s : Shared) (H : Hp) (E : XK) (W : Wp) (P0 H0 : Hp) (hr : Room 1 (bX P w K mg base n_sum_table "sum_table" s_sum_table T.a_sum_table cdv A outer s H E).A) :
    PSs (bX P w K mg base n_sum_table "sum_table" s_sum_table T.a_sum_table cdv A outer s H E) (defBody s_sum_table) (tS ⟨K, W, P0, H0⟩ c_sum_table) :=
  (ds_one (ds_ret (de_call (ok_least_table T) rfl (hr.mono (by decide)) T.m_least_table T.F_least_table.kp T.b_least_table (da_cons (pg_d (dg_t1 call_tuple_of c1_tuple T.n_tuple bt_tuple (pf_w (df_lc (own := [("begin", 2)]) rfl sc_sum_table.nd (pis_w (pis_val rfl (de_call (ok_froms T) rfl (hr.mono (by decide)) T.m_froms T.F_froms.kp T.b_froms (da_cons (de_var (i := 0)) (da_cons (de_var (i := 1)) da_nil))))) (blkOk_by (by show blkC n_sum_table (defScope s_sum_table) _ _ = true; decide +kernel)) (by decide) (fun _ _ _ _ _ => (dg_name (i := 2) sc_sum_table.nd)) (fun _ _ _ _ _ => dts_nil) (fun _ _ _ _ _ => (pg_d (dg_tup (da_cons (de_var (i := 2)) (da_cons (pg_d (dg_op op_addD o2_add (pd_w (de_call (ok_rate_at T) rfl (hr.mono (by decide)) T.m_rate_at T.F_rate_at.kp T.b_rate_at (da_cons (de_var (i := 0)) (da_cons (de_var (i := 2)) da_nil)))) (pd_w (de_call (ok_rate_at T) rfl (hr.mono (by decide)) T.m_rate_at T.F_rate_at.kp T.b_rate_at (da_cons (de_var (i := 1)) (da_cons (de_var (i := 2)) da_nil)))))) da_nil))))))))) da_nil))))
theorem ok_sum_table (T : Txt K mg) : FnOk P w K mg base CX0 2 T.a_sum_table T.d_sum_table ["one", "other"] (spF K false (fun _ => f_sum_table) 2) :=
  by have q := ok_fn (P := P) (w := w) (mg := mg) (base := base) (k := 1) (wf := false) (body := fun _ => c_sum_table) (ar := 2) T.F_sum_table sc_sum_table rfl (w_sum_table T); exact q
theorem w__law_holds (T : Txt K mg) (cdv : Value) (A : Around) (outer : List Env) (s : Shared) (H : Hp) (E : XK) (W : Wp) (P0 H0 : Hp) (hr : Room 2 (bX P w K mg base n__law_holds "_law_holds" s__law_holds T.a__law_holds cdv A outer s H E).A) :
    PSs (bX P w K mg base n__law_holds "_law_holds" s__law_holds T.a__law_holds cdv A outer s H E) (defBody s__law_holds) (tS ⟨K, W, P0, H0⟩ (c__law_holds W.draws)) :=
  (ds_cons (ds_set (pf_d (df_lc (own := [("side", 3)]) rfl sc__law_holds.nd (pis_w (pis_range1 T.n_range (pd_w dc_int))) (blkOk_by (by show blkC n__law_holds (defScope s__law_holds) _ _ = true; decide +kernel)) (by decide) (fun _ _ _ _ _ => (dg_name (i := 3) sc__law_holds.nd)) (fun _ _ _ _ _ => dts_nil) (fun _ _ _ _ _ => (de_callw (i := 0) (Fw := f__law_rates) (ok__law_rates T) rfl (hr.mono (by decide)) T.m__law_rates T.F__law_rates.kp T.b__law_rates (pv 0) da_nil)))) (dg_unpack rfl rfl (dgs_cons (dg_name (i := 1) sc__law_holds.nd) (dgs_cons (dg_name (i := 2) sc__law_holds.nd) dgs_nil))))
    (ds_cons (ds_name (i := 4) sc__law_holds.nd (pf_d (df_listRg rfl T.n_list T.n_range (pd_w dc_int))))
    (ds_cons (ds_name (i := 5) sc__law_holds.nd (pf_d (df_lc (own := [("amount", 6)]) rfl sc__law_holds.nd (pis_w (pis_val rfl (de_var (i := 4)))) (blkOk_by (by show blkC n__law_holds (defScope s__law_holds) _ _ = true; decide +kernel)) (by decide) (fun _ _ _ _ _ => (dg_name (i := 6) sc__law_holds.nd)) (fun _ _ _ _ _ => dts_nil) (fun _ _ _ _ _ => (de_call (ok__law_owed T) rfl (hr.mono (by decide)) T.m__law_owed T.F__law_owed.kp T.b__law_owed (da_cons (de_var (i := 1)) (da_cons (de_var (i := 6)) da_nil)))))))
    (ds_cons (ds_name (i := 7) sc__law_holds.nd (pf_d (df_lc (own := [("amount", 6)]) rfl sc__law_holds.nd (pis_w (pis_val rfl (de_var (i := 4)))) (blkOk_by (by show blkC n__law_holds (defScope s__law_holds) _ _ = true; decide +kernel)) (by decide) (fun _ _ _ _ _ => (dg_name (i := 6) sc__law_holds.nd)) (fun _ _ _ _ _ => dts_nil) (fun _ _ _ _ _ => (pg_d (dg_op op_mul o2_mul (pd_w (de_var (i := 6))) (pg_w (dg_ix ix_seq o2_ix (pf_w (df_lc (own := [("begin", 8), ("rate", 9)]) rfl sc__law_holds.nd (pis_w (pis_val rfl (de_var (i := 1)))) (blkOk_by (by show blkC n__law_holds (relS _ (defScope s__law_holds)) _ _ = true; decide +kernel)) (by decide) (fun _ _ _ _ _ => (dg_unpack rfl rfl (dgs_cons (dg_name (i := 8) sc__law_holds.nd) (dgs_cons (dg_name (i := 9) sc__law_holds.nd) dgs_nil)))) (fun _ _ _ _ _ => (dts_one (dt_cmp op_le o2_le (pd_w (de_var (i := 8))) (pd_w (de_var (i := 6)))))) (fun _ _ _ _ _ => (de_var (i := 9))))) (pg_w (dg_un un_neg o1_neg (pd_w dc_int))) (fun _ _ => rfl)))))))))
    (ds_cons (ds_if (dt_cmp (op_neP hr.units) o2_ne (pf_w (df_lc (own := [("amount", 6)]) rfl sc__law_holds.nd (pis_w (pis_val rfl (de_var (i := 4)))) (blkOk_by (by show blkC n__law_holds (defScope s__law_holds) _ _ = true; decide +kernel)) (by decide) (fun _ _ _ _ _ => (dg_name (i := 6) sc__law_holds.nd)) (fun _ _ _ _ _ => (dts_one (PW.pt (dw_or (dt_cmp (op_neP hr.units) o2_ne (pd_w (de_call (ok_owed T) rfl (hr.mono (by decide)) T.m_owed T.F_owed.kp T.b_owed (da_cons (de_var (i := 1)) (da_cons (de_var (i := 6)) da_nil)))) (pg_w (dg_ix ix_seq o2_ix (pd_w (de_var (i := 5))) (pd_w (de_var (i := 6))) (fun _ _ => rfl)))) (dw_or1 (dt_cmp (op_neP hr.units) o2_ne (pd_w (de_call (ok_owed_whole T) rfl (hr.mono (by decide)) T.m_owed_whole T.F_owed_whole.kp T.b_owed_whole (da_cons (de_var (i := 1)) (da_cons (de_var (i := 6)) da_nil)))) (pg_w (dg_ix ix_seq o2_ix (pd_w (de_var (i := 7))) (pd_w (de_var (i := 6))) (fun _ _ => rfl))))))))) (fun _ _ _ _ _ => (de_var (i := 6))))) (pf_w (df_list da_nil))) (ds_one (ds_ret dc_bl)) ds_nil)
    (ds_cons (ds_name (i := 10) sc__law_holds.nd (pg_d (dg_t1 call_tuple_of c1_tuple T.n_tuple bt_tuple (pf_w (df_lc (own := [("k", 11)]) rfl sc__law_holds.nd (pis_w (pis_range1 T.n_range (pg_w (dg_b1 call_lenR c1_len T.n_len bt_len (pd_w (de_var (i := 1))))))) (blkOk_by (by show blkC n__law_holds (defScope s__law_holds) _ _ = true; decide +kernel)) (by decide) (fun _ _ _ _ _ => (dg_name (i := 11) sc__law_holds.nd)) (fun _ _ _ _ _ => (dts_one (PW.pt (dw_or (dt_cmp (op_eqP hr.units) o2_eq (pd_w (de_var (i := 11))) (pd_w dc_int)) (dw_or1 (dt_cmp (op_neP hr.units) o2_ne (pg_w (dg_ix ix_seq o2_ix (pg_w (dg_ix ix_seq o2_ix (pd_w (de_var (i := 1))) (pd_w (de_var (i := 11))) (fun _ _ => rfl))) (pd_w dc_int) (fun _ _ => rfl))) (pg_w (dg_ix ix_seq o2_ix (pg_w (dg_ix ix_seq o2_ix (pd_w (de_var (i := 1))) (pg_w (dg_op op_sub o2_sub (pd_w (de_var (i := 11))) (pd_w dc_int))) (fun _ _ => rfl))) (pd_w dc_int) (fun _ _ => rfl))))))))) (fun _ _ _ _ _ => (pg_d (dg_ix ix_seq o2_ix (pd_w (de_var (i := 1))) (pd_w (de_var (i := 11))) (fun _ _ => rfl)))))))))
    (ds_cons (ds_frzBehind (ds_setLc (i := 12) (own := [("amount", 6)]) rfl sc__law_holds.nd (pis_w (pis_val rfl (de_var (i := 4)))) (blkOk_by (by show blkC n__law_holds (defScope s__law_holds) _ _ = true; decide +kernel)) (by decide) (fun _ _ _ _ _ => (dg_name (i := 6) sc__law_holds.nd)) (fun _ _ _ _ _ => (dts_one (dt_cmp (op_neP hr.units) o2_ne (pd_w (de_call (ok__law_owed T) rfl (hr.mono (by decide)) T.m__law_owed T.F__law_owed.kp T.b__law_owed (da_cons (de_var (i := 2)) (da_cons (de_var (i := 6)) da_nil)))) (pg_w (dg_ix ix_seq o2_ix (pd_w (de_var (i := 5))) (pd_w (de_var (i := 6))) (fun _ _ => rfl)))))) (fun _ _ _ _ _ => (de_var (i := 6))) (sw_true rfl rfl rfl (by decide +kernel))))
    (ds_cons (ds_if (PW.pt (dw_or (dt_cmp (op_neP hr.units) o2_ne (pd_w (de_call (ok_least_table T) rfl (hr.mono (by decide)) T.m_least_table T.F_least_table.kp T.b_least_table (da_cons (de_var (i := 1)) da_nil))) (pd_w (de_var (i := 10)))) (dw_or (PW.pt (dw_and (dt_cmp (op_neP hr.units) o2_ne (pd_w (de_var (i := 12))) (pf_w (df_list da_nil))) (dw_and1 (dt_cmp (op_neP hr.units) o2_ne (pd_w (de_call (ok_same_tables T) rfl (hr.mono (by decide)) T.m_same_tables T.F_same_tables.kp T.b_same_tables (da_cons (de_var (i := 1)) (da_cons (de_var (i := 2)) da_nil)))) (pg_w (dg_tup (da_cons dc_str (da_cons (pg_d (dg_ix ix_seq o2_ix (pd_w (de_var (i := 12))) (pd_w dc_int) (fun _ _ => rfl))) da_nil)))))))) (dw_or1 (dt_cmp (op_neP hr.units) o2_ne (pd_w (de_call (ok_same_tables T) rfl (hr.mono (by decide)) T.m_same_tables T.F_same_tables.kp T.b_same_tables (da_cons (de_var (i := 1)) (da_cons (de_var (i := 10)) da_nil)))) (pg_w (dg_tup (da_cons dc_str da_nil)))))))) (ds_one (ds_ret dc_bl)) ds_nil)
    (ds_cons (ds_if (dt_cmp (op_neP hr.units) o2_ne (pg_w (dg_t1 (call_listR rfl) c1_list T.n_list bt_list (pd_w (de_call (ok_jumps T) rfl (hr.mono (by decide)) T.m_jumps T.F_jumps.kp T.b_jumps (da_cons (de_var (i := 1)) da_nil))))) (pf_w (df_lc (own := [("begin", 8), ("rate", 9)]) rfl sc__law_holds.nd (pis_w (pis_val rfl (pg_d (dg_slice rfl (pd_w (de_var (i := 1))) (dpo_some (pd_w dc_int)) dpo_none)))) (blkOk_by (by show blkC n__law_holds (defScope s__law_holds) _ _ = true; decide +kernel)) (by decide) (fun _ _ _ _ _ => (dg_unpack rfl rfl (dgs_cons (dg_name (i := 8) sc__law_holds.nd) (dgs_cons (dg_name (i := 9) sc__law_holds.nd) dgs_nil)))) (fun _ _ _ _ _ => dts_nil) (fun _ _ _ _ _ => (pg_d (dg_tup (da_cons (de_var (i := 8)) (da_cons (pg_d (dg_op op_sub o2_sub (pg_w (dg_ix ix_seq o2_ix (pd_w (de_var (i := 7))) (pd_w (de_var (i := 8))) (fun _ _ => rfl))) (pg_w (dg_ix ix_seq o2_ix (pd_w (de_var (i := 7))) (pg_w (dg_op op_sub o2_sub (pd_w (de_var (i := 8))) (pd_w dc_int))) (fun _ _ => rfl))))) da_nil)))))))) (ds_one (ds_ret dc_bl)) ds_nil)
    (ds_cons (ds_name (i := 13) sc__law_holds.nd (pg_d (tG_if (dt_cmp op_lt o2_lt (pg_w (dg_op op_addD o2_add (pg_w (dg_b1 (cr_max rfl) c1_max T.n_max bt_max (pf_w (df_lc (own := [("begin", 8), ("rate", 9)]) rfl sc__law_holds.nd (pis_w (pis_val rfl (de_var (i := 1)))) (blkOk_by (by show blkC n__law_holds (defScope s__law_holds) _ _ = true; decide +kernel)) (by decide) (fun _ _ _ _ _ => (dg_unpack rfl rfl (dgs_cons (dg_name (i := 8) sc__law_holds.nd) (dgs_cons (dg_name (i := 9) sc__law_holds.nd) dgs_nil)))) (fun _ _ _ _ _ => dts_nil) (fun _ _ _ _ _ => (de_var (i := 9))))))) (pg_w (dg_b1 (cr_max rfl) c1_max T.n_max bt_max (pf_w (df_lc (own := [("begin", 8), ("rate", 9)]) rfl sc__law_holds.nd (pis_w (pis_val rfl (de_var (i := 2)))) (blkOk_by (by show blkC n__law_holds (defScope s__law_holds) _ _ = true; decide +kernel)) (by decide) (fun _ _ _ _ _ => (dg_unpack rfl rfl (dgs_cons (dg_name (i := 8) sc__law_holds.nd) (dgs_cons (dg_name (i := 9) sc__law_holds.nd) dgs_nil)))) (fun _ _ _ _ _ => dts_nil) (fun _ _ _ _ _ => (de_var (i := 9))))))))) (pd_w dc_int)) (pd_g (de_call (ok_sum_table T) rfl (hr.mono (by decide)) T.m_sum_table T.F_sum_table.kp T.b_sum_table (da_cons (de_var (i := 1)) (da_cons (de_var (i := 2)) da_nil)))) (pd_g dc_non))))
    (ds_cons (ds_if (PW.pt (dw_and (dt_cmp op_notN o2_notN (pd_w (de_var (i := 13))) (pd_w dc_non)) (dw_and1 (dt_cmp (op_neP hr.units) o2_ne (pf_w (df_lc (own := [("amount", 6)]) rfl sc__law_holds.nd (pis_w (pis_val rfl (de_var (i := 4)))) (blkOk_by (by show blkC n__law_holds (defScope s__law_holds) _ _ = true; decide +kernel)) (by decide) (fun _ _ _ _ _ => (dg_name (i := 6) sc__law_holds.nd)) (fun _ _ _ _ _ => (dts_one (dt_cmp (op_neP hr.units) o2_ne (pd_w (de_call (ok__law_owed T) rfl (hr.mono (by decide)) T.m__law_owed T.F__law_owed.kp T.b__law_owed (da_cons (de_var (i := 13)) (da_cons (de_var (i := 6)) da_nil)))) (pg_w (dg_op op_addD o2_add (pg_w (dg_ix ix_seq o2_ix (pd_w (de_var (i := 5))) (pd_w (de_var (i := 6))) (fun _ _ => rfl))) (pd_w (de_call (ok__law_owed T) rfl (hr.mono (by decide)) T.m__law_owed T.F__law_owed.kp T.b__law_owed (da_cons (de_var (i := 2)) (da_cons (de_var (i := 6)) da_nil))))))))) (fun _ _ _ _ _ => (de_var (i := 6))))) (pf_w (df_list da_nil)))))) (ds_one (ds_ret dc_bl)) ds_nil)
    (ds_cons (ds_name (i := 14) sc__law_holds.nd (de_callw (i := 0) (Fw := f__law_next) (ok__law_next T) rfl (hr.mono (by decide)) T.m__law_next T.F__law_next.kp T.b__law_next (pv 0) (da_cons dc_int da_nil)))
    (ds_one (ds_ret (pg_d (dg_cmp (op_eqP hr.units) o2_eq (pd_w (de_call (ok_shifted T) rfl (hr.mono (by decide)) T.m_shifted T.F_shifted.kp T.b_shifted (da_cons (de_var (i := 1)) (da_cons (de_var (i := 14)) da_nil)))) (pg_w (dg_op op_addD o2_add (pg_w (dg_slice rfl (pd_w (de_var (i := 1))) dpo_none (dpo_some (pd_w dc_int)))) (pg_w (dg_t1 call_tuple_of c1_tuple T.n_tuple bt_tuple (pf_w (df_lc (own := [("begin", 8), ("rate", 9)]) rfl sc__law_holds.nd (pis_w (pis_val rfl (pg_d (dg_slice rfl (pd_w (de_var (i := 1))) (dpo_some (pd_w dc_int)) dpo_none)))) (blkOk_by (by show blkC n__law_holds (defScope s__law_holds) _ _ = true; decide +kernel)) (by decide) (fun _ _ _ _ _ => (dg_unpack rfl rfl (dgs_cons (dg_name (i := 8) sc__law_holds.nd) (dgs_cons (dg_name (i := 9) sc__law_holds.nd) dgs_nil)))) (fun _ _ _ _ _ => dts_nil) (fun _ _ _ _ _ => (pg_d (dg_tup (da_cons (pg_d (dg_op op_addD o2_add (pd_w (de_var (i := 8))) (pd_w (de_var (i := 14))))) (da_cons (de_var (i := 9)) da_nil)))))))))))))))))))))))))))
theorem ok__law_holds (T : Txt K mg) : FnOk P w K mg base CX0 3 T.a__law_holds T.d__law_holds ["w"] (spF K true f__law_holds 0) :=
  by have q := ok_fn (P := P) (w := w) (mg := mg) (base := base) (k := 2) (wf := true) (body := c__law_holds) (ar := 0) T.F__law_holds sc__law_holds rfl (w__law_holds T); exact q
def st1_law : Stmt := (defBody s_law).headD (.Pass ⟨0, 0, 0, 0⟩)
def rest_law : List Stmt := (defBody s_law).tail
theorem w_law1 {f : Addr} (T : Txt K mg) (cdv : Value) (A : Around) (outer : List Env) (s : Shared) (H : Hp) (E : XK) (W : Wp) (P0 H0 : Hp) (hr : Room 3 (bX P w K mg base n_law "law" s_law f cdv A outer s H E).A) : PS (bX P w K mg base n_law "law" s_law f cdv A outer s H E) st1_law (tWorld ⟨K, W, P0, H0⟩ 1 c_law0) :=
  ds_world (i := 1) sc_law.nd (de_call (ok__law_draws T) rfl (hr.mono (by decide)) T.m__law_draws T.F__law_draws.kp T.b__law_draws (da_cons (de_var (i := 0)) (da_cons dc_int da_nil)))
theorem w_law2 {f : Addr} (T : Txt K mg) (cdv : Value) (A : Around) (outer : List Env) (s : Shared) (H : Hp) (E : XK) (W : Wp) (P0 H0 : Hp) (hr : Room 3 (bX P w K mg base n_law "law" s_law f cdv A outer s H E).A) : PSs (bX P w K mg base n_law "law" s_law f cdv A outer s H E) rest_law (tS ⟨K, W, P0, H0⟩ (c_law W.draws)) :=
  (ds_cons (ds_for PassesOwn.never rfl (pis_range1 T.n_range (pd_w dc_int)) (dg_name (i := 2) sc_law.nd) (ds_one (ds_if (dt_not (dt_val (pd_g (de_callw (i := 1) (Fw := f__law_holds) (ok__law_holds T) rfl (hr.mono (by decide)) T.m__law_holds T.F__law_holds.kp T.b__law_holds (pv 1) da_nil)))) (ds_one (ds_ret dc_bl)) ds_nil)))
    (ds_one (ds_ret dc_bl)))
theorem ok_law {f : Addr} {fd : FuncData} (F : Fun K "law" "law" s_law f fd) (T : Txt K mg) (plain : ∀ ns : List Int, ns.length ≤ 63 → ∃ dr loc' n', c_law0 (law0 ns 2) 0 = some (.list (dr.map .int), 0) ∧ c_law dr ((law0 ns 2).set 1 .wd) 0 = some (.ret (.bool true), loc', n')) : FnOk P w K mg base CX0 4 f fd ["script"] (spLaw K) :=
  ok_lawG (k := 3) (nl := 2) (i := 1) (fe := c_law0) (body := c_law) (st1 := st1_law) (rest := rest_law) F sc_law rfl rfl (w_law1 T) (w_law2 T) plain
end
theorem all_mk {l : PySem.W.OpenLaw} {w : PySem.World} {K : PySem.W.Frag} {h : Heap} {mg : Str → Option Value} {fa : Addr} (plain : ∀ ns : List Int, ns.length ≤ 63 → ∃ dr loc' n', c_law0 (law0 ns 2) 0 = some (.list (dr.map .int), 0) ∧ c_law dr ((law0 ns 2).set 1 .wd) 0 = some (.ret (.bool true), loc', n')) (X : K.In h) (G : h.Ns mainGlobals mg) (hfa : mg "law" = some (.ref fa))
    {f1 f2 f3 f4 f5 f6 f7 f8 f9 f10 f11 f12 f13 f14 f15 : Addr} {od1 an1 od2 an2 od3 an3 od4 an4 od5 an5 od6 an6 od7 an7 od8 an8 od9 an9 od10 an10 od11 an11 od12 an12 od13 an13 od14 an14 od15 an15 : Option Addr} {sl1 sl2 sl3 sl4 sl5 sl6 sl7 sl8 sl9 sl10 sl11 sl12 sl13 sl14 sl15 : Array (Option Value)} {oc1 kV1 dc1 pm1 cd1 ct1 oc2 kV2 dc2 pm2 cd2 ct2 oc3 kV3 dc3 pm3 cd3 ct3 oc4 kV4 dc4 pm4 cd4 ct4 oc5 kV5 dc5 pm5 cd5 ct5 oc6 kV6 dc6 pm6 cd6 ct6 oc7 kV7 dc7 pm7 cd7 ct7 oc8 kV8 dc8 pm8 cd8 ct8 oc9 kV9 dc9 pm9 cd9 ct9 oc10 kV10 dc10 pm10 cd10 ct10 oc11 kV11 dc11 pm11 cd11 ct11 oc12 kV12 dc12 pm12 cd12 ct12 oc13 kV13 dc13 pm13 cd13 ct13 oc14 kV14 dc14 pm14 cd14 ct14 oc15 kV15 dc15 pm15 cd15 ct15 : Value}
    (a1 : PySem.W.nsIn K mainGlobals "_law_draws" = some (some (.ref f1))) (l1 : K.lookup f1 = some ⟨oc1, od1, .func (PySem.W.fnOf "_law_draws" "_law_draws" (defArgs s__law_draws) (defBody s__law_draws) (defScope s__law_draws) .none kV1 dc1 pm1 an1 cd1 ct1), sl1⟩) (c1 : PySem.W.codeIn K cd1 "_law_draws" = true) (k1 : PySem.W.keepIn K (.ref f1) = true)
    (a2 : PySem.W.nsIn K mainGlobals "_law_next" = some (some (.ref f2))) (l2 : K.lookup f2 = some ⟨oc2, od2, .func (PySem.W.fnOf "_law_next" "_law_next" (defArgs s__law_next) (defBody s__law_next) (defScope s__law_next) .none kV2 dc2 pm2 an2 cd2 ct2), sl2⟩) (c2 : PySem.W.codeIn K cd2 "_law_next" = true) (k2 : PySem.W.keepIn K (.ref f2) = true)
    (a3 : PySem.W.nsIn K mainGlobals "_law_owed" = some (some (.ref f3))) (l3 : K.lookup f3 = some ⟨oc3, od3, .func (PySem.W.fnOf "_law_owed" "_law_owed" (defArgs s__law_owed) (defBody s__law_owed) (defScope s__law_owed) .none kV3 dc3 pm3 an3 cd3 ct3), sl3⟩) (c3 : PySem.W.codeIn K cd3 "_law_owed" = true) (k3 : PySem.W.keepIn K (.ref f3) = true)
    (a4 : PySem.W.nsIn K mainGlobals "_law_rates" = some (some (.ref f4))) (l4 : K.lookup f4 = some ⟨oc4, od4, .func (PySem.W.fnOf "_law_rates" "_law_rates" (defArgs s__law_rates) (defBody s__law_rates) (defScope s__law_rates) .none kV4 dc4 pm4 an4 cd4 ct4), sl4⟩) (c4 : PySem.W.codeIn K cd4 "_law_rates" = true) (k4 : PySem.W.keepIn K (.ref f4) = true)
    (a5 : PySem.W.nsIn K mainGlobals "owed_whole" = some (some (.ref f5))) (l5 : K.lookup f5 = some ⟨oc5, od5, .func (PySem.W.fnOf "owed_whole" "owed_whole" (defArgs s_owed_whole) (defBody s_owed_whole) (defScope s_owed_whole) .none kV5 dc5 pm5 an5 cd5 ct5), sl5⟩) (c5 : PySem.W.codeIn K cd5 "owed_whole" = true) (k5 : PySem.W.keepIn K (.ref f5) = true)
    (a6 : PySem.W.nsIn K mainGlobals "jumps" = some (some (.ref f6))) (l6 : K.lookup f6 = some ⟨oc6, od6, .func (PySem.W.fnOf "jumps" "jumps" (defArgs s_jumps) (defBody s_jumps) (defScope s_jumps) .none kV6 dc6 pm6 an6 cd6 ct6), sl6⟩) (c6 : PySem.W.codeIn K cd6 "jumps" = true) (k6 : PySem.W.keepIn K (.ref f6) = true)
    (a7 : PySem.W.nsIn K mainGlobals "least_table" = some (some (.ref f7))) (l7 : K.lookup f7 = some ⟨oc7, od7, .func (PySem.W.fnOf "least_table" "least_table" (defArgs s_least_table) (defBody s_least_table) (defScope s_least_table) .none kV7 dc7 pm7 an7 cd7 ct7), sl7⟩) (c7 : PySem.W.codeIn K cd7 "least_table" = true) (k7 : PySem.W.keepIn K (.ref f7) = true)
    (a8 : PySem.W.nsIn K mainGlobals "owed" = some (some (.ref f8))) (l8 : K.lookup f8 = some ⟨oc8, od8, .func (PySem.W.fnOf "owed" "owed" (defArgs s_owed) (defBody s_owed) (defScope s_owed) .none kV8 dc8 pm8 an8 cd8 ct8), sl8⟩) (c8 : PySem.W.codeIn K cd8 "owed" = true) (k8 : PySem.W.keepIn K (.ref f8) = true)
    (a9 : PySem.W.nsIn K mainGlobals "froms" = some (some (.ref f9))) (l9 : K.lookup f9 = some ⟨oc9, od9, .func (PySem.W.fnOf "froms" "froms" (defArgs s_froms) (defBody s_froms) (defScope s_froms) .none kV9 dc9 pm9 an9 cd9 ct9), sl9⟩) (c9 : PySem.W.codeIn K cd9 "froms" = true) (k9 : PySem.W.keepIn K (.ref f9) = true)
    (a10 : PySem.W.nsIn K mainGlobals "rate_at" = some (some (.ref f10))) (l10 : K.lookup f10 = some ⟨oc10, od10, .func (PySem.W.fnOf "rate_at" "rate_at" (defArgs s_rate_at) (defBody s_rate_at) (defScope s_rate_at) .none kV10 dc10 pm10 an10 cd10 ct10), sl10⟩) (c10 : PySem.W.codeIn K cd10 "rate_at" = true) (k10 : PySem.W.keepIn K (.ref f10) = true)
    (a11 : PySem.W.nsIn K mainGlobals "same_tables" = some (some (.ref f11))) (l11 : K.lookup f11 = some ⟨oc11, od11, .func (PySem.W.fnOf "same_tables" "same_tables" (defArgs s_same_tables) (defBody s_same_tables) (defScope s_same_tables) .none kV11 dc11 pm11 an11 cd11 ct11), sl11⟩) (c11 : PySem.W.codeIn K cd11 "same_tables" = true) (k11 : PySem.W.keepIn K (.ref f11) = true)
    (a12 : PySem.W.nsIn K mainGlobals "shifted" = some (some (.ref f12))) (l12 : K.lookup f12 = some ⟨oc12, od12, .func (PySem.W.fnOf "shifted" "shifted" (defArgs s_shifted) (defBody s_shifted) (defScope s_shifted) .none kV12 dc12 pm12 an12 cd12 ct12), sl12⟩) (c12 : PySem.W.codeIn K cd12 "shifted" = true) (k12 : PySem.W.keepIn K (.ref f12) = true)
    (a13 : PySem.W.nsIn K mainGlobals "sum_table" = some (some (.ref f13))) (l13 : K.lookup f13 = some ⟨oc13, od13, .func (PySem.W.fnOf "sum_table" "sum_table" (defArgs s_sum_table) (defBody s_sum_table) (defScope s_sum_table) .none kV13 dc13 pm13 an13 cd13 ct13), sl13⟩) (c13 : PySem.W.codeIn K cd13 "sum_table" = true) (k13 : PySem.W.keepIn K (.ref f13) = true)
    (a14 : PySem.W.nsIn K mainGlobals "_law_holds" = some (some (.ref f14))) (l14 : K.lookup f14 = some ⟨oc14, od14, .func (PySem.W.fnOf "_law_holds" "_law_holds" (defArgs s__law_holds) (defBody s__law_holds) (defScope s__law_holds) .none kV14 dc14 pm14 an14 cd14 ct14), sl14⟩) (c14 : PySem.W.codeIn K cd14 "_law_holds" = true) (k14 : PySem.W.keepIn K (.ref f14) = true)
    (a15 : PySem.W.nsIn K mainGlobals "law" = some (some (.ref f15))) (l15 : K.lookup f15 = some ⟨oc15, od15, .func (PySem.W.fnOf "law" "law" (defArgs s_law) (defBody s_law) (defScope s_law) .none kV15 dc15 pm15 an15 cd15 ct15), sl15⟩) (c15 : PySem.W.codeIn K cd15 "law" = true) (k15 : PySem.W.keepIn K (.ref f15) = true)
    (z1 : PySem.W.nsIn K mainGlobals "abs" = some none)
    (z2 : PySem.W.nsIn K mainGlobals "int" = some none)
    (z3 : PySem.W.nsIn K mainGlobals "len" = some none)
    (z4 : PySem.W.nsIn K mainGlobals "list" = some none)
    (z5 : PySem.W.nsIn K mainGlobals "max" = some none)
    (z6 : PySem.W.nsIn K mainGlobals "min" = some none)
    (z7 : PySem.W.nsIn K mainGlobals "range" = some none)
    (z8 : PySem.W.nsIn K mainGlobals "set" = some none)
    (z9 : PySem.W.nsIn K mainGlobals "sorted" = some none)
    (z10 : PySem.W.nsIn K mainGlobals "sum" = some none)
    (z11 : PySem.W.nsIn K mainGlobals "tuple" = some none)
    (z12 : PySem.W.nsIn K mainGlobals "zip" = some none)
    : ∃ fd : FuncData, (∀ (s : Shared) (v : Value), BindsTo s fd ⟨[v], []⟩ [("script", v)]) ∧ ∀ base : Heap, K.In base → base.Ns mainGlobals mg → FnOk l.prog w K mg base CX0 4 fa fd ["script"] (spLaw K) := by
  have e := hfa.symm.trans (PySem.W.mg_of X G a15)
  cases e
  have F1 := fun_mk (st := s__law_draws) l1 c1 k1
  have b1 := F1.binds (ps := ["script", "many"]) fun _ _ _ _ _ _ us hl => match us, hl with | [_, _], _ => rfl
  have F2 := fun_mk (st := s__law_next) l2 c2 k2
  have b2 := F2.binds (ps := ["w", "many"]) fun _ _ _ _ _ _ us hl => match us, hl with | [_, _], _ => rfl
  have F3 := fun_mk (st := s__law_owed) l3 c3 k3
  have b3 := F3.binds (ps := ["table", "amount"]) fun _ _ _ _ _ _ us hl => match us, hl with | [_, _], _ => rfl
  have F4 := fun_mk (st := s__law_rates) l4 c4 k4
  have b4 := F4.binds (ps := ["w"]) fun _ _ _ _ _ _ us hl => match us, hl with | [_], _ => rfl
  have F5 := fun_mk (st := s_owed_whole) l5 c5 k5
  have b5 := F5.binds (ps := ["table", "amount"]) fun _ _ _ _ _ _ us hl => match us, hl with | [_, _], _ => rfl
  have F6 := fun_mk (st := s_jumps) l6 c6 k6
  have b6 := F6.binds (ps := ["table"]) fun _ _ _ _ _ _ us hl => match us, hl with | [_], _ => rfl
  have F7 := fun_mk (st := s_least_table) l7 c7 k7
  have b7 := F7.binds (ps := ["table"]) fun _ _ _ _ _ _ us hl => match us, hl with | [_], _ => rfl
  have F8 := fun_mk (st := s_owed) l8 c8 k8
  have b8 := F8.binds (ps := ["table", "amount"]) fun _ _ _ _ _ _ us hl => match us, hl with | [_, _], _ => rfl
  have F9 := fun_mk (st := s_froms) l9 c9 k9
  have b9 := F9.binds (ps := ["one", "other"]) fun _ _ _ _ _ _ us hl => match us, hl with | [_, _], _ => rfl
  have F10 := fun_mk (st := s_rate_at) l10 c10 k10
  have b10 := F10.binds (ps := ["table", "amount"]) fun _ _ _ _ _ _ us hl => match us, hl with | [_, _], _ => rfl
  have F11 := fun_mk (st := s_same_tables) l11 c11 k11
  have b11 := F11.binds (ps := ["one", "other"]) fun _ _ _ _ _ _ us hl => match us, hl with | [_, _], _ => rfl
  have F12 := fun_mk (st := s_shifted) l12 c12 k12
  have b12 := F12.binds (ps := ["table", "by"]) fun _ _ _ _ _ _ us hl => match us, hl with | [_, _], _ => rfl
  have F13 := fun_mk (st := s_sum_table) l13 c13 k13
  have b13 := F13.binds (ps := ["one", "other"]) fun _ _ _ _ _ _ us hl => match us, hl with | [_, _], _ => rfl
  have F14 := fun_mk (st := s__law_holds) l14 c14 k14
  have b14 := F14.binds (ps := ["w"]) fun _ _ _ _ _ _ us hl => match us, hl with | [_], _ => rfl
  have F15 := fun_mk (st := s_law) l15 c15 k15
  have T : Txt K mg := ⟨f1, _, F1, b1, PySem.W.mg_of X G a1, f2, _, F2, b2, PySem.W.mg_of X G a2, f3, _, F3, b3, PySem.W.mg_of X G a3, f4, _, F4, b4, PySem.W.mg_of X G a4, f5, _, F5, b5, PySem.W.mg_of X G a5, f6, _, F6, b6, PySem.W.mg_of X G a6, f7, _, F7, b7, PySem.W.mg_of X G a7, f8, _, F8, b8, PySem.W.mg_of X G a8, f9, _, F9, b9, PySem.W.mg_of X G a9, f10, _, F10, b10, PySem.W.mg_of X G a10, f11, _, F11, b11, PySem.W.mg_of X G a11, f12, _, F12, b12, PySem.W.mg_of X G a12, f13, _, F13, b13, PySem.W.mg_of X G a13, f14, _, F14, b14, PySem.W.mg_of X G a14, PySem.W.mg_none_of X G z1, PySem.W.mg_none_of X G z2, PySem.W.mg_none_of X G z3, PySem.W.mg_none_of X G z4, PySem.W.mg_none_of X G z5, PySem.W.mg_none_of X G z6, PySem.W.mg_none_of X G z7, PySem.W.mg_none_of X G z8, PySem.W.mg_none_of X G z9, PySem.W.mg_none_of X G z10, PySem.W.mg_none_of X G z11, PySem.W.mg_none_of X G z12⟩
  exact ⟨PySem.W.fnOf "law" "law" (defArgs s_law) (defBody s_law) (defScope s_law) .none kV15 dc15 pm15 an15 cd15 ct15, fun s v => .of_eq rfl, fun base _ _ => ok_law F15 T plain⟩
end K09
namespace K09
open PySem L2 Pd
/-! ### rate tables in plain words -/
abbrev Row := Int × Int
def rt (t : List Row) (x : Int) : Int := (((t.filter fun r => decide (r.1 ≤ x)).map (·.2)).getLast?).getD 0
/-- what is owed on m -/
def owe (t : List Row) (m : Nat) : Int := ((List.range m).map fun k : Nat => rt t (k : Int)).sum
theorem owe_succ (t : List Row) (m : Nat) : owe t (m + 1) = owe t m + rt t (m : Int) := by
  unfold owe
  rw [List.range_succ, List.map_append, List.sum_append]
  simp
theorem rt_congr {t : List Row} {x y : Int} (h : ∀ r ∈ t, r.1 ≤ x ↔ r.1 ≤ y) : rt t x = rt t y := by
  unfold rt
  have e : (t.filter fun r => decide (r.1 ≤ x)) = t.filter fun r => decide (r.1 ≤ y) := by
    refine List.filter_congr fun r hr => ?_
    rw [decide_eq_decide]
    exact h r hr
  rw [e]
def WT (t : List Row) : Prop := (∃ r rest, t = (0, r) :: rest) ∧ t.Pairwise (fun a b => a.1 < b.1) ∧ (∀ r ∈ t, 0 ≤ r.1 ∧ r.1 ≤ 30 ∧ 0 ≤ r.2 ∧ r.2 < 200) ∧ t.length ≤ 20
theorem WT.ne {t : List Row} (h : WT t) {x : Int} (hx : 0 ≤ x) : (t.filter fun r => decide (r.1 ≤ x)) ≠ [] := by
  obtain ⟨⟨r, rest, rfl⟩, _⟩ := h
  simp [List.filter_cons, hx]
theorem rt_last {t : List Row} (h : WT t) {x : Int} (hx : 0 ≤ x) : ((t.filter fun r => decide (r.1 ≤ x)).map (·.2)).getLast? = some (rt t x) := by
  unfold rt
  have hne : ((t.filter fun r => decide (r.1 ≤ x)).map (·.2)) ≠ [] := by simpa using h.ne hx
  rw [List.getLast?_eq_some_getLast hne]
  rfl
theorem rt_bound {t : List Row} (h : WT t) {x : Int} (hx : 0 ≤ x) : 0 ≤ rt t x ∧ rt t x < 200 := by
  have e := rt_last h hx
  have hm := List.mem_of_getLast? e
  obtain ⟨r, hr, e2⟩ := List.mem_map.mp hm
  have := h.2.2.1 r (List.mem_filter.mp hr).1
  omega
/-! by parts -/
def owedP : List Row → Int → Int
  | [], _ => 0
  | [(b, r)], m => r * max 0 (m - b)
  | (b, r) :: (b2, r2) :: rest, m => r * max 0 (min m b2 - b) + owedP ((b2, r2) :: rest) m
theorem rt_cons {b r : Int} {t : List Row} {x : Int} (hs : ((b, r) :: t).Pairwise (fun a b => a.1 < b.1)) : rt ((b, r) :: t) x = if ∃ q ∈ t, q.1 ≤ x then rt t x else if b ≤ x then r else 0 := by
  unfold rt
  by_cases h : ∃ q ∈ t, q.1 ≤ x
  · rw [if_pos h]
    obtain ⟨q, hq, hqx⟩ := h
    have hb : b ≤ x := by
      have := (List.pairwise_cons.mp hs).1 q hq
      simp only at this
      omega
    have hne : (t.filter fun r => decide (r.1 ≤ x)) ≠ [] := by
      intro e
      have : q ∈ t.filter fun r => decide (r.1 ≤ x) := List.mem_filter.mpr ⟨hq, by simpa using hqx⟩
      rw [e] at this
      cases this
    rw [List.filter_cons]
    simp only [hb, decide_true, if_true, List.map_cons]
    rw [List.getLast?_cons]
    obtain ⟨z, hz⟩ : ∃ z, ((t.filter fun r => decide (r.1 ≤ x)).map (·.2)).getLast? = some z := ⟨_, List.getLast?_eq_some_getLast (by simpa using hne)⟩
    rw [hz]
    rfl
  · rw [if_neg h]
    have e : (t.filter fun r => decide (r.1 ≤ x)) = [] := by
      rw [List.filter_eq_nil_iff]
      intro q hq hx
      exact h ⟨q, hq, by simpa using hx⟩
    rw [List.filter_cons]
    by_cases hb : b ≤ x
    · simp [hb, e]
    · simp [hb, e]
theorem mul_max_step (r b e : Int) (m : Nat) (h0 : 0 ≤ b) (h1 : b ≤ e) : r * max 0 (min ((m + 1 : Nat) : Int) e - b) = r * max 0 (min (m : Int) e - b) + (if b ≤ (m : Int) ∧ (m : Int) < e then r else 0) := by
  by_cases h : b ≤ (m : Int) ∧ (m : Int) < e
  · rw [if_pos h, show max 0 (min ((m + 1 : Nat) : Int) e - b) = max 0 (min (m : Int) e - b) + 1 by omega, Int.mul_add, Int.mul_one]
  · rw [if_neg h, show max 0 (min ((m + 1 : Nat) : Int) e - b) = max 0 (min (m : Int) e - b) by omega, Int.add_zero]
theorem mul_max_step1 (r b : Int) (m : Nat) (h0 : 0 ≤ b) : r * max 0 (((m + 1 : Nat) : Int) - b) = r * max 0 ((m : Int) - b) + (if b ≤ (m : Int) then r else 0) := by
  by_cases h : b ≤ (m : Int)
  · rw [if_pos h, show max 0 (((m + 1 : Nat) : Int) - b) = max 0 ((m : Int) - b) + 1 by omega, Int.mul_add, Int.mul_one]
  · rw [if_neg h, show max 0 (((m + 1 : Nat) : Int) - b) = max 0 ((m : Int) - b) by omega, Int.add_zero]
theorem owedP_eq : ∀ (t : List Row), t.Pairwise (fun a b => a.1 < b.1) → (∀ r ∈ t, 0 ≤ r.1) → ∀ m : Nat, owedP t (m : Int) = owe t m
  | [], _, _, m => by
    induction m with
    | zero => rfl
    | succ m ih => rw [owe_succ, ← ih]; rfl
  | [(b, r)], hs, h0, m => by
    induction m with
    | zero => have := h0 (b, r) (by simp); simp only at this; unfold owedP owe; rw [show max 0 (((0 : Nat) : Int) - b) = 0 by omega]; simp
    | succ m ih =>
      have hb : 0 ≤ b := h0 (b, r) (by simp)
      rw [owe_succ, ← ih, rt_cons hs, if_neg (by simp)]
      exact mul_max_step1 r b m hb
  | (b, r) :: (b2, r2) :: rest, hs, h0, m => by
    have hb : 0 ≤ b := h0 (b, r) (by simp)
    have hs2 := (List.pairwise_cons.mp hs).2
    have hbb : b < b2 := (List.pairwise_cons.mp hs).1 (b2, r2) (by simp)
    have ih2 := owedP_eq ((b2, r2) :: rest) hs2 (fun q hq => h0 q (List.mem_cons_of_mem _ hq))
    have key : ∀ m : Nat, r * max 0 (min (m : Int) b2 - b) + owe ((b2, r2) :: rest) m = owe ((b, r) :: (b2, r2) :: rest) m := by
      intro m
      induction m with
      | zero => unfold owe; rw [show max 0 (min ((0 : Nat) : Int) b2 - b) = 0 by omega]; simp
      | succ m ih =>
        rw [owe_succ, owe_succ, mul_max_step r b b2 m hb (by omega), rt_cons hs, ← ih]
        by_cases hq : ∃ q ∈ (b2, r2) :: rest, q.1 ≤ (m : Int)
        · rw [if_pos hq]
          obtain ⟨q, hq1, hq2⟩ := hq
          have : b2 ≤ q.1 := by
            rcases List.mem_cons.mp hq1 with e | e
            · rw [e]; exact Int.le_refl _
            · exact Int.le_of_lt ((List.pairwise_cons.mp hs2).1 q e)
          rw [if_neg (by omega)]
          omega
        · rw [if_neg hq]
          have h2 : ¬ b2 ≤ (m : Int) := fun h => hq ⟨(b2, r2), by simp, h⟩
          have hz : rt ((b2, r2) :: rest) (m : Int) = 0 := by
            unfold rt
            have e : (((b2, r2) :: rest).filter fun r => decide (r.1 ≤ (m : Int))) = [] := by
              rw [List.filter_eq_nil_iff]
              intro q hq1 hx
              exact hq ⟨q, hq1, by simpa using hx⟩
            rw [e]
            rfl
          rw [hz]
          by_cases hbm : b ≤ (m : Int)
          · rw [if_pos hbm, if_pos ⟨hbm, by omega⟩]; omega
          · rw [if_neg hbm, if_neg (fun h => hbm h.1)]; omega
    unfold owedP
    rw [ih2 m]
    exact key m
/-! the least table -/
def lst (b : List Row) (x : Row) : List Row := if b.getLast?.map (·.2) = some x.2 then b else b ++ [x]
def least (t : List Row) : List Row := t.foldl lst []
theorem lst_skip {b : List Row} {x : Row} (h : b.getLast?.map (·.2) = some x.2) : lst b x = b := by unfold lst; rw [if_pos h]
theorem lst_keep {b : List Row} {x : Row} (h : ¬ b.getLast?.map (·.2) = some x.2) : lst b x = b ++ [x] := by unfold lst; rw [if_neg h]
theorem lst_last (b : List Row) (x : Row) : (lst b x).getLast?.map (·.2) = some x.2 := by
  unfold lst
  split
  · assumption
  · simp
theorem foldl_last : ∀ (t b : List Row), (t.foldl lst b).getLast?.map (·.2) = if t = [] then b.getLast?.map (·.2) else t.getLast?.map (·.2)
  | [], b => by simp
  | [x], b => by simp [lst_last]
  | x :: y :: t, b => by
    rw [List.foldl_cons, foldl_last (y :: t) (lst b x), if_neg (by simp), if_neg (by simp), List.getLast?_cons_cons]
theorem rt_fold : ∀ (t b : List Row) (x : Int), (b ++ t).Pairwise (fun a b => a.1 < b.1) → rt (t.foldl lst b) x = rt (b ++ t) x
  | [], b, x, _ => by simp
  | y :: t, b, x, hs => by
    rw [List.foldl_cons]
    by_cases h : b.getLast?.map (·.2) = some y.2
    · rw [lst_skip h]
      have hs2 : (b ++ t).Pairwise (fun a b => a.1 < b.1) := hs.sublist (List.Sublist.append_left (List.sublist_cons_self y t) b)
      rw [rt_fold t b x hs2]
      unfold rt
      rw [List.filter_append, List.filter_append, List.filter_cons]
      by_cases hy : y.1 ≤ x
      · simp only [hy, decide_true, if_true]
        cases ht : t.filter fun r => decide (r.1 ≤ x) with
        | cons q r =>
          rw [List.map_append, List.map_append, List.getLast?_append, List.getLast?_append]
          simp only [List.map_cons, List.getLast?_cons_cons]
        | nil =>
          have hb : b.filter (fun r => decide (r.1 ≤ x)) = b := by
            rw [List.filter_eq_self]
            intro r hr
            have : r.1 < y.1 := (List.pairwise_append.mp hs).2.2 r hr y (by simp)
            simp only [decide_eq_true_eq]
            omega
          rw [hb, List.append_nil, List.map_append]
          simp only [List.map_cons, List.map_nil, List.getLast?_append, List.getLast?_singleton]
          rw [List.getLast?_map, h]
          simp
      · simp [hy]
    · rw [lst_keep h, rt_fold t (b ++ [y]) x (by simpa using hs)]
      simp
theorem least_rt {t : List Row} (hs : t.Pairwise (fun a b => a.1 < b.1)) (x : Int) : rt (least t) x = rt t x := rt_fold t [] x (by simpa using hs)
theorem least_sub : ∀ (t b : List Row), (t.foldl lst b).Sublist (b ++ t)
  | [], b => by simp
  | y :: t, b => by
    rw [List.foldl_cons]
    have h1 := least_sub t (lst b y)
    refine h1.trans ?_
    unfold lst
    split
    · exact List.Sublist.append_left (List.sublist_cons_self y t) b
    · simp
theorem least_head {r : Int} {rest : List Row} : ∃ rest', least ((0, r) :: rest) = (0, r) :: rest' := by
  have : ∀ (t b : List Row) (x : Row), ∃ r', t.foldl lst (x :: b) = x :: r' := fun t => by
    induction t with
    | nil => exact fun b x => ⟨b, rfl⟩
    | cons y t ih =>
      intro b x
      rw [List.foldl_cons]
      unfold lst
      split
      · exact ih b x
      · exact ih (b ++ [y]) x
  unfold least
  rw [List.foldl_cons]
  have e : lst [] (0, r) = [(0, r)] := by simp [lst]
  rw [e]
  exact this rest [] (0, r)
theorem least_WT {t : List Row} (h : WT t) : WT (least t) := by
  have hsub : (least t).Sublist t := least_sub t []
  obtain ⟨⟨r, rest, e⟩, h2, h3, h4⟩ := h
  refine ⟨?_, h2.sublist hsub, fun r hr => h3 r (hsub.subset hr), Nat.le_trans hsub.length_le h4⟩
  subst e
  obtain ⟨rest', e⟩ := least_head (r := r) (rest := rest)
  exact ⟨r, rest', e⟩
/-- .. by the rows that differ from the one ahead -/
theorem least_take (t : List Row) : ∀ k, k ≤ t.length → ((List.range k).filter (fun j => decide (j = 0) || !decide ((t[j]?.map (·.2)) = (t[j - 1]?.map (·.2))))).map (fun j => t[j]?.getD (0, 0)) = least (t.take k)
  | 0, _ => by simp [least]
  | k + 1, hk => by
    have ih := least_take t k (by omega)
    have hlt : k < t.length := by omega
    rw [List.range_succ, List.filter_append, List.map_append, ih, List.take_add_one, List.getElem?_eq_getElem hlt]
    unfold least
    rw [List.foldl_append]
    show _ = lst ((t.take k).foldl lst []) t[k]
    have hl := foldl_last (t.take k) []
    by_cases h0 : k = 0
    · subst h0
      simp [lst, hlt]
    · have hne : t.take k ≠ [] := by
        intro e
        have := congrArg List.length e
        rw [List.length_take, List.length_nil] at this
        omega
      rw [if_neg hne] at hl
      have hlast : (t.take k).getLast? = t[k - 1]? := by
        rw [List.getLast?_eq_getElem?, List.length_take, Nat.min_eq_left (by omega), List.getElem?_take_of_lt (by omega)]
      rw [hlast] at hl
      by_cases hc : t[k - 1]?.map (·.2) = some t[k].2
      · rw [lst_skip (hl.trans hc)]
        simp [h0, hlt, hc]
      · rw [lst_keep (fun e => hc (hl.symm.trans e))]
        have hc' : ¬ (some t[k].2 = t[k - 1]?.map (·.2)) := fun e => hc e.symm
        simp [h0, hlt, hc']
/-! two tables -/
def begs (one other : List Row) : List Int := sset ((one ++ other).map (·.1))
theorem WT.zero {t : List Row} (h : WT t) : ∃ r ∈ t, r.1 = 0 := by
  obtain ⟨⟨r, rest, rfl⟩, _⟩ := h
  exact ⟨(0, r), by simp, rfl⟩
/-- the begin that counts at k -/
theorem beg_at {one other : List Row} (h1 : WT one) (h2 : WT other) {k : Int} (hk : 0 ≤ k) : ∃ b ∈ begs one other, b ≤ k ∧ 0 ≤ b ∧ (∀ c ∈ begs one other, c ≤ k → c ≤ b) ∧ rt one k = rt one b ∧ rt other k = rt other b := by
  have hne : ((begs one other).filter fun c => decide (c ≤ k)) ≠ [] := by
    obtain ⟨r, hr, e⟩ := h1.zero
    have : (0 : Int) ∈ (begs one other).filter fun c => decide (c ≤ k) := by
      refine List.mem_filter.mpr ⟨mem_sset.mpr (List.mem_map.mpr ⟨r, List.mem_append_left _ hr, e⟩), by simpa using hk⟩
    exact List.ne_nil_of_mem this
  obtain ⟨m1, m2⟩ := maxI_spec hne
  obtain ⟨m3, m4⟩ := List.mem_filter.mp m1
  have hbk : maxI ((begs one other).filter fun c => decide (c ≤ k)) ≤ k := by simpa using m4
  have hle : ∀ c ∈ begs one other, c ≤ k → c ≤ maxI ((begs one other).filter fun c => decide (c ≤ k)) := fun c hc hck => m2 c (List.mem_filter.mpr ⟨hc, by simpa using hck⟩)
  have h0 : (0 : Int) ∈ begs one other := by
    obtain ⟨r, hr, e⟩ := h1.zero
    exact mem_sset.mpr (List.mem_map.mpr ⟨r, List.mem_append_left _ hr, e⟩)
  refine ⟨_, m3, hbk, hle 0 h0 hk, hle, rt_congr fun r hr => ?_, rt_congr fun r hr => ?_⟩
  · have hm : r.1 ∈ begs one other := mem_sset.mpr (List.mem_map.mpr ⟨r, List.mem_append_left _ hr, rfl⟩)
    exact ⟨fun h => hle _ hm h, fun h => Int.le_trans h hbk⟩
  · have hm : r.1 ∈ begs one other := mem_sset.mpr (List.mem_map.mpr ⟨r, List.mem_append_right _ hr, rfl⟩)
    exact ⟨fun h => hle _ hm h, fun h => Int.le_trans h hbk⟩
theorem begs_bound {one other : List Row} (h1 : WT one) (h2 : WT other) {b : Int} (hb : b ∈ begs one other) : 0 ≤ b ∧ b ≤ 30 := by
  obtain ⟨r, hr, e⟩ := List.mem_map.mp (mem_sset.mp hb)
  rcases List.mem_append.mp hr with h | h
  · have := h1.2.2.1 r h; omega
  · have := h2.2.2.1 r h; omega
def differ (one other : List Row) : Option Int := (begs one other).find? fun b => !decide (rt one b = rt other b)
theorem owe_same {one other : List Row} : ∀ m : Nat, (∀ k : Nat, k < m → rt one (k : Int) = rt other (k : Int)) → owe one m = owe other m
  | 0, _ => rfl
  | m + 1, h => by rw [owe_succ, owe_succ, owe_same m fun k hk => h k (by omega), h m (by omega)]
/-- the first amount at which other sums come out -/
theorem differ_first {one other : List Row} (h1 : WT one) (h2 : WT other) : ((List.range 40).filter fun a => !decide (owe other a = owe one a)).head? = (differ one other).map fun b => (b + 1).toNat := by
  unfold differ
  cases hf : (begs one other).find? fun b => !decide (rt one b = rt other b) with
  | none =>
    rw [List.find?_eq_none] at hf
    have all : ∀ k : Nat, rt one (k : Int) = rt other (k : Int) := fun k => by
      obtain ⟨b, hb, _, _, _, e1, e2⟩ := beg_at h1 h2 (k := (k : Int)) (by omega)
      have := hf b hb
      simp only [Bool.not_eq_true', decide_eq_false_iff_not, Decidable.not_not] at this
      rw [e1, e2, this]
    have e : (List.range 40).filter (fun a => !decide (owe other a = owe one a)) = [] := by
      rw [List.filter_eq_nil_iff]
      intro a _
      simp [owe_same (one := other) (other := one) a fun k _ => (all k).symm]
    rw [e]
    rfl
  | some b =>
    obtain ⟨pb, as, bs, e, hfirst⟩ := List.find?_eq_some_iff_append.mp hf
    have hb : b ∈ begs one other := by rw [e]; simp
    obtain ⟨b0, b30⟩ := begs_bound h1 h2 hb
    have hd : rt one b ≠ rt other b := by simpa using pb
    have pw := sset_pw ((one ++ other).map (·.1))
    have before : ∀ k : Nat, (k : Int) < b → rt one (k : Int) = rt other (k : Int) := fun k hk => by
      obtain ⟨c, hc, hck, _, _, e1, e2⟩ := beg_at h1 h2 (k := (k : Int)) (by omega)
      rw [e1, e2]
      have hca : c ∈ as := by
        rw [e] at hc
        rcases List.mem_append.mp hc with h | h
        · exact h
        · exfalso
          have pw' : (as ++ b :: bs).Pairwise (· < ·) := by rw [← e]; exact pw
          have : b ≤ c := by
            rcases List.mem_cons.mp h with z | z
            · rw [z]; exact Int.le_refl _
            · exact Int.le_of_lt ((List.pairwise_cons.mp (List.pairwise_append.mp pw').2.1).1 c z)
          omega
      have := hfirst c hca
      simpa using this
    obtain ⟨n, hn⟩ : ∃ n : Nat, b = (n : Int) := ⟨b.toNat, by omega⟩
    subst hn
    have hsplit : List.range 40 = List.range (n + 1) ++ (n + 1) :: (List.range' (n + 2) (40 - (n + 2))) := by
      rw [List.range_eq_range', List.range_eq_range']
      rw [show (n + 1) :: List.range' (n + 2) (40 - (n + 2)) = List.range' (n + 1) (40 - (n + 1)) by
        rw [show 40 - (n + 1) = (40 - (n + 2)) + 1 by omega, List.range'_succ]]
      have := List.range'_append_1 (s := 0) (m := n + 1) (n := 40 - (n + 1))
      rw [Nat.zero_add] at this
      rw [this]
      congr 1
      omega
    have h1' : (List.range (n + 1)).filter (fun a => !decide (owe other a = owe one a)) = [] := by
      rw [List.filter_eq_nil_iff]
      intro a ha
      have ha' := List.mem_range.mp ha
      simp [owe_same (one := other) (other := one) a fun k hk => (before k (by omega)).symm]
    have h2' : owe other (n + 1) ≠ owe one (n + 1) := by
      rw [owe_succ, owe_succ, owe_same (one := other) (other := one) n fun k hk => (before k (by omega)).symm]
      intro e
      apply hd
      omega
    rw [hsplit, List.filter_append, h1', List.nil_append, List.filter_cons]
    simp [h2']
theorem differ_least {t : List Row} (h : WT t) : differ t (least t) = none := by
  unfold differ
  rw [List.find?_eq_none]
  intro b _
  simp [least_rt h.2.1]
def sumRows (one other : List Row) : List Row := (begs one other).map fun b => (b, rt one b + rt other b)
end K09
namespace K09
open PySem L2 Pd
/-! ### the defs of the text at rate tables -/
def encR (r : Row) : D := .tuple [.int r.1, .int r.2]
abbrev encT (t : List Row) : D := .tuple (t.map encR)
theorem WT.lim {t : List Row} (h : WT t) : t.length ≤ LIM := Nat.le_trans h.2.2.2 (by decide)
theorem selL {t : List Row} (h : WT t) {x : Int} (hx : 0 ≤ x) : atD ((t.filter fun r => decide (r.1 ≤ x)).map fun r => (PyData.int r.2 : D)) (-1) = some (.int (rt t x)) := by
  refine atD_last ?_
  have := rt_last h hx
  rw [show ((t.filter fun r => decide (r.1 ≤ x)).map fun r => (PyData.int r.2 : D)) = (((t.filter fun r => decide (r.1 ≤ x)).map (·.2)).map PyData.int) by rw [List.map_map]; rfl, List.getLast?_map, this]
  rfl
theorem rate_at_ok {t : List Row} (h : WT t) {x : Int} (hx : 0 ≤ x) (n : Nat) : f_rate_at [encT t, .int x] n = some (.int (rt t x), n) := by
  have e := comp_map (gm := gT 2 (gsCons (gN 2) (gsCons (gN 3) gsNil))) (c := asB (eOp leI (eVar 2) (eVar 1))) (f := eVar 3) (loc := [.val (encT t), .val (.int x), .un, .un]) (n := n) encR (fun r => decide (r.1 ≤ x)) (fun r => .int r.2) t (fun r _ => ⟨[.val (encT t), .val (.int x), .val (.int r.1), .val (.int r.2)], by simp [encR], by simp, fun _ => by simp⟩)
  unfold f_rate_at c_rate_at
  have hs : start0 false 4 [encT t, .int x] = [.val (encT t), .val (.int x), .un, .un] := rfl
  simp [hs, h.lim, e, selL h hx]
theorem owed_whole_ok {t : List Row} (h : WT t) {x : Int} (hx : 0 ≤ x) (n : Nat) : f_owed_whole [encT t, .int x] n = some (.int (rt t x * x), n) := by
  have e := comp_map (gm := gT 2 (gsCons (gN 3) (gsCons (gN 2) gsNil))) (c := asB (eOp leI (eVar 3) (eVar 1))) (f := eVar 2) (loc := [.val (encT t), .val (.int x), .un, .un]) (n := n) encR (fun r => decide (r.1 ≤ x)) (fun r => .int r.2) t (fun r _ => ⟨[.val (encT t), .val (.int x), .val (.int r.2), .val (.int r.1)], by simp [encR], by simp, fun _ => by simp⟩)
  have hb := rt_bound h hx
  have hB : -B64 < rt t x ∧ rt t x < B64 := by unfold B64; omega
  unfold f_owed_whole c_owed_whole
  have hs : start0 false 4 [encT t, .int x] = [.val (encT t), .val (.int x), .un, .un] := rfl
  have e' : comp (gT 2 (gsCons (gN 3) (gsCons (gN 2) gsNil))) (asB (eOp leI (eVar 3) (eVar 1))) (eVar 2) [.val (encT t), .val (.int x), .un, .un] (t.map encR) n = some (((t.filter fun r => decide (r.1 ≤ x)).map fun r => (PyData.int r.2 : D)), n) := e
  simp [hs, h.lim, e', selL h hx, hB]
theorem law_owed_ok {t : List Row} (h : WT t) (m : Nat) (hm : m ≤ 1000) (n : Nat) : f__law_owed [encT t, .int (m : Int)] n = some (.int (owe t m), n) := by
  have hlz : -LIMZ ≤ (m : Int) ∧ (m : Int) ≤ LIMZ := by unfold LIMZ; omega
  have hml : m ≤ LIM := Nat.le_trans hm (by decide)
  have e1 : ∀ x : Int, comp (gT 2 (gsCons (gN 2) (gsCons (gN 3) gsNil))) (asB (eOp leI (eVar 2) (eVar 4))) (eVar 3) [.val (encT t), .val (.int (m : Int)), .un, .un, .val (.int x)] (t.map encR) n = some (((t.filter fun r => decide (r.1 ≤ x)).map fun r => (PyData.int r.2 : D)), n) := fun x => comp_map encR (fun r => decide (r.1 ≤ x)) (fun r => .int r.2) t (fun r _ => ⟨[.val (encT t), .val (.int (m : Int)), .val (.int r.1), .val (.int r.2), .val (.int x)], by simp [encR], by simp, fun _ => by simp⟩)
  have e2 := comp_all (gm := gN 4) (f := eOp ixD (eLc (iVal (eVar 0)) [2, 3] (gT 2 (gsCons (gN 2) (gsCons (gN 3) gsNil))) (asB (eOp leI (eVar 2) (eVar 4))) (eVar 3)) (eOp1 negI (eC (.int 1)))) (loc := [.val (encT t), .val (.int (m : Int)), .un, .un, .un]) (n := n) (fun k : Nat => PyData.int (k : Int)) (fun k : Nat => PyData.int (rt t (k : Int))) (List.range m) (fun k _ => ⟨[.val (encT t), .val (.int (m : Int)), .un, .un, .val (.int (k : Int))], by simp, by simp [h.lim, e1, selL h (show (0 : Int) ≤ (k : Int) by omega)]⟩)
  unfold f__law_owed c__law_owed
  have hs : start0 false 5 [encT t, .int (m : Int)] = [.val (encT t), .val (.int (m : Int)), .un, .un, .un] := rfl
  have e3 : ((List.range m).map fun k : Nat => (PyData.int (rt t (k : Int)) : D)) = ((List.range m).map fun k : Nat => rt t (k : Int)).map PyData.int := by rw [List.map_map]; rfl
  have e4 : rangeD 0 m = (List.range m).map fun k : Nat => PyData.int (k : Int) := rangeD_zero m
  rw [← e4] at e2
  rw [e3] at e2
  simp only [ev_runF, hs, ev_sRet, ev_op1, ev_lc, ev_rg1, ev_var, List.getElem?_cons_succ, List.getElem?_cons_zero, if_pos hlz, Int.toNat_natCast, Option.bind_some, rangeD_len, if_pos hml, ev_wipe1, ev_wipe0, List.set_cons_succ, List.set_cons_zero]
  rw [e2]
  simp only [Option.map_some, Option.bind_some, sum_intsD, owe]
theorem froms_ok {one other : List Row} (h1 : WT one) (h2 : WT other) (n : Nat) : f_froms [encT one, encT other] n = some (.list ((begs one other).map .int), n) := by
  have hl : (one.map encR).length + (other.map encR).length ≤ LIM := by
    have := h1.2.2.2; have := h2.2.2.2; simp; unfold LIM; omega
  have e := comp_all (gm := gT 2 (gsCons (gN 2) (gsCons (gN 3) gsNil))) (f := eVar 2) (loc := [.val (encT one), .val (encT other), .un, .un]) (n := n) encR (fun r => PyData.int r.1) (one ++ other) (fun r _ => ⟨[.val (encT one), .val (encT other), .val (.int r.1), .val (.int r.2)], by simp [encR], by simp⟩)
  have e3 : ((one ++ other).map fun r => (PyData.int r.1 : D)) = ((one ++ other).map (·.1)).map PyData.int := by rw [List.map_map]; rfl
  have hz : ((one ++ other).map (·.1)).length ≤ 4000 := by
    have := h1.2.2.2; have := h2.2.2.2; simp; omega
  rw [e3, List.map_append] at e
  unfold f_froms c_froms
  have hs : start0 false 4 [encT one, encT other] = [.val (encT one), .val (encT other), .un, .un] := rfl
  simp only [ev_runF, hs, ev_sRet, ev_op1, ev_lc, ev_iVal, ev_op, ev_var, List.getElem?_cons_succ, List.getElem?_cons_zero, Option.bind_some, o_addT hl, Option.map_some, o_itT, ev_wipe1, ev_wipe0, List.set_cons_succ, List.set_cons_zero]
  rw [if_pos (by simpa using hl), e]
  simp only [Option.map_some, Option.bind_some, setSort_ints hz, begs]
theorem jumps_ok {r0 : Int} {rest : List Row} (h : WT ((0, r0) :: rest)) (n : Nat) : f_jumps [encT ((0, r0) :: rest)] n = some (.tuple (rest.map fun r => .tuple [.int r.1, .int (rt ((0, r0) :: rest) r.1 * r.1 - rt ((0, r0) :: rest) (r.1 - 1) * (r.1 - 1))]), n) := by
  have hl : rest.length ≤ LIM := by have := h.2.2.2; simp at this; unfold LIM; omega
  have hpos : ∀ r ∈ rest, 0 < r.1 := fun r hr => (List.pairwise_cons.mp h.2.1).1 r hr
  have e := comp_all (gm := gT 2 (gsCons (gN 1) (gsCons (gN 2) gsNil))) (f := eTup (aCons (eVar 1) (aCons (eOp subI (eCall f_owed_whole 2 (aCons (eVar 0) (aCons (eVar 1) aNil))) (eCall f_owed_whole 2 (aCons (eVar 0) (aCons (eOp subI (eVar 1) (eC (.int 1))) aNil)))) aNil))) (loc := [.val (encT ((0, r0) :: rest)), .un, .un]) (n := n) encR (fun r => .tuple [.int r.1, .int (rt ((0, r0) :: rest) r.1 * r.1 - rt ((0, r0) :: rest) (r.1 - 1) * (r.1 - 1))]) rest (fun r hr => by
    have hp := hpos r hr
    refine ⟨[.val (encT ((0, r0) :: rest)), .val (.int r.1), .val (.int r.2)], by simp [encR], ?_⟩
    have q1 := owed_whole_ok h (x := r.1) (by omega) n
    have q2 := owed_whole_ok h (x := r.1 - 1) (by omega) n
    simp only [ev_tup, ev_cons, ev_var, ev_op, ev_call, ev_c, ev_nil, List.getElem?_cons_succ, List.getElem?_cons_zero, Option.bind_some, Option.map_some, List.length_cons, List.length_nil, o_subI, q1, q2, ↓reduceIte, Nat.zero_add, Nat.reduceAdd, Nat.reduceLeDiff])
  unfold f_jumps c_jumps
  have hs : start0 false 3 [encT ((0, r0) :: rest)] = [.val (encT ((0, r0) :: rest)), .un, .un] := rfl
  simp only [ev_runF, hs, ev_sRet, ev_op1, ev_lc, ev_iVal, ev_slice, ev_pSome, ev_pNone, ev_c, ev_var, List.getElem?_cons_succ, List.getElem?_cons_zero, Option.bind_some, o_slT, Option.map_some, o_itT, ev_wipe1, ev_wipe0, List.set_cons_succ, List.set_cons_zero, List.map_cons, cutD_one, List.length_map, if_pos hl]
  rw [e]
  simp
end K09
namespace K09
open PySem L2 Pd
theorem plR (b : List Row) : PyData.plainAll (b.map encR) = true := plainAll_map fun r _ => by simp [encR]
theorem dpR (b : List Row) : PyData.depthAll (b.map encR) ≤ 1 := depthAll_map fun r _ => by simp [encR]
theorem plT (b : List Row) : (encT b).plain = true := by simp [plR]
theorem dpT (b : List Row) : (encT b).depth ≤ 40 := by have := dpR b; simp; omega
theorem least_table_ok {t : List Row} (ht : t.length ≤ 100) (n : Nat) : f_least_table [encT t] n = some (encT (least t), n) := by
  have lim : t.length < LIM := by unfold LIM; omega
  obtain ⟨loc', n', e, hI⟩ := for_inv (gm := gT 2 (gsCons (gN 2) (gsCons (gN 3) gsNil))) (body := (sIf (mOr (asB (eOp eqD (eVarW 1) (eList aNil))) (asB (eOp neD (eOp ixD (eOp ixD (eVarW 1) (eOp1 negI (eC (.int 1)))) (eC (.int 1))) (eVar 3)))) (sAppend 1 (eTup (aCons (eVar 2) (aCons (eVar 3) aNil)))) sNil))
    (fun j loc n' => n' = n ∧ ∃ c2 c3, loc = [.val (encT t), .own (.list (((t.take j).foldl lst []).map encR)), c2, c3]) (t.map encR) 0 [.val (encT t), .own (.list []), .un, .un] n ⟨rfl, .un, .un, rfl⟩ (fun j d loc n2 hj ⟨en, c2, c3, el⟩ => by
      subst en
      subst el
      rw [Nat.zero_add]
      rw [List.getElem?_map] at hj
      obtain ⟨x, hx, rfl⟩ := Option.map_eq_some_iff.mp hj
      have hlt : j < t.length := (List.getElem?_eq_some_iff.mp hx).1
      generalize hb : (t.take j).foldl lst [] = b
      have hbl : b.length ≤ t.length := by
        have h1 := (least_sub (t.take j) []).length_le
        rw [hb] at h1
        simp at h1
        omega
      have hnext : (t.take (j + 1)).foldl lst [] = lst b x := by
        rw [List.take_add_one, hx, List.foldl_append, hb]
        rfl
      have hbl' : b.length < LIM := by omega
      refine ⟨[.val (encT t), .own (.list (b.map encR)), .val (.int x.1), .val (.int x.2)], [.val (encT t), .own (.list ((lst b x).map encR)), .val (.int x.1), .val (.int x.2)], n2, by simp [encR], ?_, rfl, .val (.int x.1), .val (.int x.2), by rw [hnext]⟩
      rcases List.eq_nil_or_concat b with hb0 | ⟨b0, y, hb0⟩
      · subst hb0
        rw [lst_keep (by simp)]
        simp [eqD_nil, lim, LIM, encR]
      · have hne : (List.map encR b).isEmpty = false := by rw [hb0]; simp
        have hlast : atD (List.map encR b) (-1) = some (encR y) := atD_last (by rw [hb0]; simp)
        have hlr : b.getLast?.map (·.2) = some y.2 := by rw [hb0]; simp
        clear hb0
        have step : (sIf (mOr (asB (eOp eqD (eVarW 1) (eList aNil))) (asB (eOp neD (eOp ixD (eOp ixD (eVarW 1) (eOp1 negI (eC (.int 1)))) (eC (.int 1))) (eVar 3)))) (sAppend 1 (eTup (aCons (eVar 2) (aCons (eVar 3) aNil)))) sNil) [.val (encT t), .own (.list (b.map encR)), .val (.int x.1), .val (.int x.2)] n2 = if y.2 = x.2 then some (.nx, [.val (encT t), .own (.list (b.map encR)), .val (.int x.1), .val (.int x.2)], n2) else some (.nx, [.val (encT t), .own (.list (b.map encR ++ [encR x])), .val (.int x.1), .val (.int x.2)], n2) := by
          simp only [ev_sIf, ev_mOr, ev_asB, ev_op, ev_op1, ev_varW, ev_var, ev_list, ev_nil, ev_c, List.getElem?_cons_succ, List.getElem?_cons_zero, Option.bind_some, Option.map_some, List.length_nil, Nat.zero_le, ↓reduceIte, eqD_nil (plR _), hne, o_negI, o_ixL, hlast]
          have hll : (b.map encR).length < LIM := by simpa using hbl'
          generalize b.map encR = L at hll
          by_cases hy : y.2 = x.2
          · simp [encR, hy]
          · simp [encR, hy, hll]
        rw [step]
        by_cases hy : y.2 = x.2
        · rw [if_pos hy, lst_skip (hlr.trans (by rw [hy]))]
        · rw [if_neg hy, lst_keep (fun e => hy (by rw [hlr] at e; exact Option.some.inj e)), List.map_append]
          rfl)
  obtain ⟨rfl, c2, c3, rfl⟩ := hI
  unfold f_least_table c_least_table
  have hs : start0 false 4 [encT t] = [.val (encT t), .un, .un, .un] := rfl
  simp only [ev_runF, hs, ev_sSeq, ev_sOwn, ev_list, ev_nil, List.length_nil, Nat.zero_le, ↓reduceIte, Option.bind_some, Option.map_some, List.set_cons_succ, List.set_cons_zero, ev_sFor, ev_iVal, ev_var, List.getElem?_cons_zero, o_itT, e]
  simp [least]
theorem shifted_ok {r0 by' : Int} {rest : List Row} (hl : rest.length ≤ 100) (n : Nat) : f_shifted [encT ((0, r0) :: rest), .int by'] n = some (encT ((0, r0) :: rest.map fun r => (r.1 + by', r.2)), n) := by
  have hlim : rest.length ≤ LIM := by unfold LIM; omega
  have hlim1 : 1 + rest.length ≤ LIM := by unfold LIM; omega
  have e := comp_all (gm := gT 2 (gsCons (gN 2) (gsCons (gN 3) gsNil))) (f := eTup (aCons (eOp addD (eVar 2) (eVar 1)) (aCons (eVar 3) aNil))) (loc := [.val (encT ((0, r0) :: rest)), .val (.int by'), .un, .un]) (n := n) encR (fun r => encR (r.1 + by', r.2)) rest (fun r _ => ⟨[.val (encT ((0, r0) :: rest)), .val (.int by'), .val (.int r.1), .val (.int r.2)], by simp [encR], by simp [encR]⟩)
  unfold f_shifted c_shifted
  have hs : start0 false 4 [encT ((0, r0) :: rest), .int by'] = [.val (encT ((0, r0) :: rest)), .val (.int by'), .un, .un] := rfl
  simp only [ev_runF, hs, ev_sRet, ev_op1, ev_op, ev_list, ev_cons, ev_nil, ev_lc, ev_iVal, ev_slice, ev_pSome, ev_pNone, ev_c, ev_var, List.getElem?_cons_succ, List.getElem?_cons_zero, Option.bind_some, o_slT, o_ixT, List.map_cons, atD_zero, Option.map_some, o_itT, ev_wipe1, ev_wipe0, List.set_cons_succ, List.set_cons_zero, cutD_one, List.length_map, if_pos hlim, List.length_cons, List.length_nil, Nat.zero_add, Nat.reduceLeDiff, ↓reduceIte, e]
  rw [o_addL (by simpa using hlim1)]
  simp
/-! owed: by parts -/
def frO (T E : D) (acc : Int) (c4 c5 c6 c7 c8 : Cell) (m : Nat) : Pd.Loc := [.val T, .val (.int (m : Int)), .val (.int acc), .val E, c4, c5, c6, c7, c8]
def ends (t : List Row) : List D := (t.drop 1).map (fun r => PyData.int r.1) ++ [.none]
theorem owed_step (b r : Int) (e : D) (v : Int) (he : (e = .none ∧ v = (0 : Int)) ∨ e = .int v) (hr : 0 ≤ r ∧ r < 200) {T E : D} {acc : Int} {c4 c5 c6 c7 c8 : Cell} {m n : Nat} :
    ∃ loc1 c4' c5' c6' c7' c8', gT 2 (gsCons (gT 2 (gsCons (gN 4) (gsCons (gN 6) gsNil))) (gsCons (gN 7) gsNil)) (.tuple [encR (b, r), e]) (frO T E acc c4 c5 c6 c7 c8 m) = some loc1 ∧
    (sSeq (sSet (gN 8) (eOp subI (eIf (asB (eOp isNoneD (eVar 7) (eC .none))) (eVar 1) (eOp min2D (eVar 1) (eVar 7))) (eVar 4))) (sAug 2 addI (eOp mulI (eVar 6) (eOp max2D (eC (.int 0)) (eVar 8))))) loc1 n = some (.nx, frO T E (acc + r * max 0 ((if isN e = true then (m : Int) else min (m : Int) v) - b)) c4' c5' c6' c7' c8' m, n) := by
  have hB : -B64 < r ∧ r < B64 := by unfold B64; omega
  rcases he with ⟨rfl, rfl⟩ | rfl
  · refine ⟨[.val T, .val (.int (m : Int)), .val (.int acc), .val E, .val (.int b), c5, .val (.int r), .val .none, c8], .val (.int b), c5, .val (.int r), .val .none, .val (.int ((m : Int) - b)), by simp [encR, frO], ?_⟩
    have hmx : (if b < (m : Int) then (m : Int) - b else 0) = max 0 ((m : Int) - b) := by split <;> omega
    simp [frO, hB, hmx]
  · refine ⟨[.val T, .val (.int (m : Int)), .val (.int acc), .val E, .val (.int b), c5, .val (.int r), .val (.int v), c8], .val (.int b), c5, .val (.int r), .val (.int v), .val (.int (min (m : Int) v - b)), by simp [encR, frO], ?_⟩
    have hmn : (if v < (m : Int) then v else (m : Int)) = min (m : Int) v := by split <;> omega
    have hmx : (if b < min (m : Int) v then min (m : Int) v - b else 0) = max 0 (min (m : Int) v - b) := by split <;> omega
    simp [frO, hB, hmn, hmx]
theorem owed_loop {T E : D} {m n : Nat} : ∀ (t : List Row) (acc : Int) (c4 c5 c6 c7 c8 : Cell), t ≠ [] → (∀ r ∈ t, 0 ≤ r.2 ∧ r.2 < 200) → ∃ c4' c5' c6' c7' c8', forLoop (gT 2 (gsCons (gT 2 (gsCons (gN 4) (gsCons (gN 6) gsNil))) (gsCons (gN 7) gsNil))) (sSeq (sSet (gN 8) (eOp subI (eIf (asB (eOp isNoneD (eVar 7) (eC .none))) (eVar 1) (eOp min2D (eVar 1) (eVar 7))) (eVar 4))) (sAug 2 addI (eOp mulI (eVar 6) (eOp max2D (eC (.int 0)) (eVar 8))))) (((t.map encR).zip (ends t)).map fun r => .tuple [r.1, r.2]) (frO T E acc c4 c5 c6 c7 c8 m) n = some (.nx, frO T E (acc + owedP t (m : Int)) c4' c5' c6' c7' c8' m, n)
  | [], _, _, _, _, _, _, h, _ => absurd rfl h
  | [(b, r)], acc, c4, c5, c6, c7, c8, _, hr => by
    obtain ⟨loc1, a4, a5, a6, a7, a8, e1, e2⟩ := owed_step b r .none 0 (.inl ⟨rfl, rfl⟩) (hr (b, r) (by simp)) (T := T) (E := E) (acc := acc) (c4 := c4) (c5 := c5) (c6 := c6) (c7 := c7) (c8 := c8) (m := m) (n := n)
    refine ⟨a4, a5, a6, a7, a8, ?_⟩
    show forLoop _ _ [.tuple [encR (b, r), .none]] _ _ = _
    unfold forLoop
    rw [e1, Option.bind_some, e2, Option.bind_some]
    unfold forLoop
    rfl
  | (b, r) :: (b2, r2) :: rest, acc, c4, c5, c6, c7, c8, _, hr => by
    obtain ⟨loc1, a4, a5, a6, a7, a8, e1, e2⟩ := owed_step b r (.int b2) b2 (.inr rfl) (hr (b, r) (by simp)) (T := T) (E := E) (acc := acc) (c4 := c4) (c5 := c5) (c6 := c6) (c7 := c7) (c8 := c8) (m := m) (n := n)
    obtain ⟨d4, d5, d6, d7, d8, e3⟩ := owed_loop (T := T) (E := E) (m := m) (n := n) ((b2, r2) :: rest) (acc + r * max 0 (min (m : Int) b2 - b)) a4 a5 a6 a7 a8 (by simp) (fun q hq => hr q (List.mem_cons_of_mem _ hq))
    refine ⟨d4, d5, d6, d7, d8, ?_⟩
    show forLoop _ _ (.tuple [encR (b, r), .int b2] :: ((((b2, r2) :: rest).map encR).zip (ends ((b2, r2) :: rest))).map fun r => .tuple [r.1, r.2]) _ _ = _
    rw [forLoop, e1, Option.bind_some, e2, Option.bind_some]
    show forLoop _ _ _ _ _ = _
    rw [show (if isN (PyData.int b2 : D) = true then (m : Int) else min (m : Int) b2) = min (m : Int) b2 by simp, e3]
    rw [show owedP ((b, r) :: (b2, r2) :: rest) (m : Int) = r * max 0 (min (m : Int) b2 - b) + owedP ((b2, r2) :: rest) (m : Int) from rfl, Int.add_assoc]
theorem owed_ok {t : List Row} (h : WT t) (m : Nat) (n : Nat) : f_owed [encT t, .int (m : Int)] n = some (.int (owe t m), n) := by
  obtain ⟨⟨r0, rest, et⟩, hs, hb, hlen⟩ := id h
  have hr : rest.length ≤ LIM := by subst et; simp at hlen; unfold LIM; omega
  have hr1 : rest.length + 1 ≤ LIM := by subst et; simp at hlen; unfold LIM; omega
  have e := comp_all (gm := gT 2 (gsCons (gN 4) (gsCons (gN 5) gsNil))) (f := eVar 4) (loc := [.val (encT t), .val (.int (m : Int)), .val (.int 0), .un, .un, .un, .un, .un, .un]) (n := n) encR (fun r => PyData.int r.1) rest (fun r _ => ⟨[.val (encT t), .val (.int (m : Int)), .val (.int 0), .un, .val (.int r.1), .val (.int r.2), .un, .un, .un], by simp [encR], by simp⟩)
  obtain ⟨a4, a5, a6, a7, a8, e2⟩ := owed_loop (T := encT t) (E := .list (ends t)) (m := m) (n := n) t 0 .un .un .un .un .un (by rw [et]; simp) (fun r hr => ⟨(hb r hr).2.2.1, (hb r hr).2.2.2⟩)
  have hends : ends t = (rest.map fun r => (PyData.int r.1 : D)) ++ [.none] := by rw [et]; rfl
  have hcut : cutD (t.map encR) (some 1) none = rest.map encR := by rw [et]; simp
  unfold f_owed c_owed
  have hs' : start0 false 9 [encT t, .int (m : Int)] = [.val (encT t), .val (.int (m : Int)), .un, .un, .un, .un, .un, .un, .un] := rfl
  simp only [ev_runF, hs', ev_sSeq, ev_sSet, ev_c, ev_gN, Option.bind_some, Option.map_some, List.set_cons_succ, List.set_cons_zero, ev_op, ev_lc, ev_iVal, ev_slice, ev_pSome, ev_pNone, ev_var, List.getElem?_cons_succ, List.getElem?_cons_zero, o_slT, hcut, o_itT, List.length_map, if_pos hr, ev_wipe1, ev_wipe0, e, ev_list, ev_cons, ev_nil, List.length_cons, List.length_nil, Nat.zero_add, Nat.reduceLeDiff, ↓reduceIte]
  rw [o_addL (by simpa using hr1), ← hends]
  unfold frO at e2
  simp only [Option.bind_some, Option.map_some, List.set_cons_succ, List.set_cons_zero, ev_sFor, ev_zip, ev_var, List.getElem?_cons_succ, List.getElem?_cons_zero, seqOf_L, seqOf_T, e2, ev_sRet]
  rw [owedP_eq t hs (fun r hr => (hb r hr).1) m, Int.zero_add]
end K09
namespace K09
open PySem L2 Pd
def W60 (t : List Row) : Prop := WT t ∧ (∀ r ∈ t, r.2 < 60) ∧ t.length ≤ 8
theorem rt_mem {t : List Row} (h : WT t) {x : Int} (hx : 0 ≤ x) : ∃ r ∈ t, rt t x = r.2 := by
  obtain ⟨r, hr, e2⟩ := List.mem_map.mp (List.mem_of_getLast? (rt_last h hx))
  exact ⟨r, (List.mem_filter.mp hr).1, e2.symm⟩
def says (b : Option Int) : D := match b with
  | none => .tuple [.str "yes"]
  | some b => .tuple [.str "no", .int (b + 1)]
abbrev bodyS : SM := (sIf (asB (eOp neD (eCall f_rate_at 2 (aCons (eVar 0) (aCons (eVar 2) aNil))) (eCall f_rate_at 2 (aCons (eVar 1) (aCons (eVar 2) aNil))))) (sRet (eTup (aCons (eC (.str "no")) (aCons (eOp addD (eVar 2) (eC (.int 1))) aNil)))) sNil)
theorem st_loop {one other : List Row} (h1 : WT one) (h2 : WT other) (n : Nat) : ∀ (bs : List Int) (c2 : Cell), (∀ b ∈ bs, 0 ≤ b) → ∃ c2', forLoop (gN 2) bodyS (bs.map .int) [.val (encT one), .val (encT other), c2] n = (match bs.find? fun b => !decide (rt one b = rt other b) with
    | none => some (Out.nx, [.val (encT one), .val (encT other), c2'], n)
    | some b => some (Out.ret (.tuple [.str "no", .int (b + 1)]), [.val (encT one), .val (encT other), c2'], n))
  | [], c2, _ => ⟨c2, rfl⟩
  | b :: bs, c2, hb => by
    obtain ⟨c2', ih⟩ := st_loop h1 h2 n bs (.val (.int b)) fun c hc => hb c (List.mem_cons_of_mem _ hc)
    have b0 := hb b (List.mem_cons_self ..)
    have q1 := rate_at_ok h1 b0 n
    have q2 := rate_at_ok h2 b0 n
    have st : bodyS [.val (encT one), .val (encT other), .val (.int b)] n = if rt one b = rt other b then some (.nx, [.val (encT one), .val (encT other), .val (.int b)], n) else some (.ret (.tuple [.str "no", .int (b + 1)]), [.val (encT one), .val (encT other), .val (.int b)], n) := by
      unfold bodyS
      simp only [ev_sIf, ev_asB, ev_op, ev_call, ev_cons, ev_var, ev_nil, List.getElem?_cons_succ, List.getElem?_cons_zero, Option.bind_some, Option.map_some, List.length_cons, List.length_nil, Nat.zero_add, Nat.reduceAdd, ↓reduceIte, q1, q2, neD_int, ev_sRet, ev_tup, ev_c, o_addI, Nat.reduceLeDiff, ev_sNil]
      by_cases hd : rt one b = rt other b <;> simp [hd]
    by_cases hd : rt one b = rt other b
    · refine ⟨c2', ?_⟩
      rw [List.map_cons, forLoop, ev_gN, Option.bind_some]
      show ((bodyS [.val (encT one), .val (encT other), .val (.int b)] n).bind _) = _
      rw [st, if_pos hd, Option.bind_some, List.find?_cons]
      simp only [hd, decide_true, Bool.not_true]
      exact ih
    · refine ⟨.val (.int b), ?_⟩
      rw [List.map_cons, forLoop, ev_gN, Option.bind_some]
      show ((bodyS [.val (encT one), .val (encT other), .val (.int b)] n).bind _) = _
      rw [st, if_neg hd, Option.bind_some, List.find?_cons]
      simp only [hd, decide_false, Bool.not_false]
theorem same_tables_ok {one other : List Row} (h1 : WT one) (h2 : WT other) (n : Nat) : f_same_tables [encT one, encT other] n = some (says (differ one other), n) := by
  obtain ⟨c2', e⟩ := st_loop h1 h2 n (begs one other) .un fun b hb => (begs_bound h1 h2 hb).1
  unfold f_same_tables c_same_tables
  have hs : start0 false 3 [encT one, encT other] = [.val (encT one), .val (encT other), .un] := rfl
  simp only [ev_runF, hs, ev_sSeq, ev_sFor, ev_iVal, ev_call, ev_cons, ev_var, ev_nil, List.getElem?_cons_succ, List.getElem?_cons_zero, Option.bind_some, Option.map_some, List.length_cons, List.length_nil, Nat.zero_add, Nat.reduceAdd, ↓reduceIte, froms_ok h1 h2 n, o_itL, e]
  unfold differ
  cases (begs one other).find? fun b => !decide (rt one b = rt other b) with
  | none => simp [says]
  | some b => simp [says]
/-! the sum of two -/
theorem begs_head {one other : List Row} (h1 : WT one) (h2 : WT other) : ∃ rest, begs one other = 0 :: rest := by
  obtain ⟨r, hr, e⟩ := h1.zero
  have h0 : (0 : Int) ∈ begs one other := mem_sset.mpr (List.mem_map.mpr ⟨r, List.mem_append_left _ hr, e⟩)
  cases hb : begs one other with
  | nil => rw [hb] at h0; cases h0
  | cons b rest =>
    have pw : (begs one other).Pairwise (· < ·) := sset_pw _
    rw [hb] at pw h0
    have hb0 : 0 ≤ b := (begs_bound h1 h2 (b := b) (by rw [hb]; simp)).1
    rcases List.mem_cons.mp h0 with z | z
    · exact ⟨rest, by rw [← z]⟩
    · have := (List.pairwise_cons.mp pw).1 0 z
      omega
theorem begs_len {one other : List Row} : (begs one other).length ≤ one.length + other.length := by
  have := sset_len ((one ++ other).map (·.1))
  simpa [begs] using this
theorem sum_WT {one other : List Row} (h1 : W60 one) (h2 : W60 other) : WT (sumRows one other) := by
  obtain ⟨rest, hb⟩ := begs_head h1.1 h2.1
  refine ⟨⟨_, rest.map fun b => (b, rt one b + rt other b), by unfold sumRows; rw [hb]; rfl⟩, ?_, fun r hr => ?_, ?_⟩
  · unfold sumRows
    rw [List.pairwise_map]
    exact sset_pw _
  · obtain ⟨b, hb, rfl⟩ := List.mem_map.mp hr
    obtain ⟨b0, b30⟩ := begs_bound h1.1 h2.1 hb
    obtain ⟨q1, hq1, e1⟩ := rt_mem h1.1 b0
    obtain ⟨q2, hq2, e2⟩ := rt_mem h2.1 b0
    have a1 := h1.2.1 q1 hq1
    have a2 := h2.2.1 q2 hq2
    have a3 := rt_bound h1.1 b0
    have a4 := rt_bound h2.1 b0
    refine ⟨b0, b30, ?_, ?_⟩
    · simp only; omega
    · simp only; omega
  · unfold sumRows
    rw [List.length_map]
    have := begs_len (one := one) (other := other)
    have := h1.2.2; have := h2.2.2
    omega
theorem sum_rt {one other : List Row} (h1 : WT one) (h2 : WT other) {x : Int} (hx : 0 ≤ x) : rt (sumRows one other) x = rt one x + rt other x := by
  obtain ⟨b, hb, hbx, _, hmax, e1, e2⟩ := beg_at h1 h2 hx
  rw [e1, e2]
  obtain ⟨as, cs, e⟩ := List.append_of_mem hb
  have pw : (as ++ b :: cs).Pairwise (· < ·) := by rw [← e]; exact sset_pw _
  have ha : as.filter (fun c => decide (c ≤ x)) = as := by
    rw [List.filter_eq_self]
    intro c hc
    have := (List.pairwise_append.mp pw).2.2 c hc b (by simp)
    simp only [decide_eq_true_eq]; omega
  have hc : cs.filter (fun c => decide (c ≤ x)) = [] := by
    rw [List.filter_eq_nil_iff]
    intro c hc h
    have h' : c ≤ x := by simpa using h
    have l1 := (List.pairwise_cons.mp (List.pairwise_append.mp pw).2.1).1 c hc
    have l2 := hmax c (by rw [e]; simp [hc]) h'
    omega
  have hf : (begs one other).filter (fun c => decide (c ≤ x)) = as ++ [b] := by
    rw [e, List.filter_append, ha, List.filter_cons, hc]
    simp [hbx]
  have : ((sumRows one other).filter fun r => decide (r.1 ≤ x)) = (as ++ [b]).map fun b => (b, rt one b + rt other b) := by
    unfold sumRows
    rw [List.filter_map]
    show ((begs one other).filter fun c => decide (c ≤ x)).map _ = _
    rw [hf]
  unfold rt at this ⊢
  rw [this]
  simp
theorem sum_owe {one other : List Row} (h1 : W60 one) (h2 : W60 other) : ∀ m : Nat, owe (least (sumRows one other)) m = owe one m + owe other m
  | 0 => rfl
  | m + 1 => by
    rw [owe_succ, owe_succ, owe_succ, sum_owe h1 h2 m, least_rt (sum_WT h1 h2).2.1, sum_rt h1.1 h2.1 (by omega)]
    omega
theorem sum_table_ok {one other : List Row} (h1 : W60 one) (h2 : W60 other) (n : Nat) : f_sum_table [encT one, encT other] n = some (encT (least (sumRows one other)), n) := by
  have hbl : (begs one other).length ≤ LIM := by
    have := begs_len (one := one) (other := other); have := h1.2.2; have := h2.2.2; unfold LIM; omega
  have e := comp_all (gm := gN 2) (f := eTup (aCons (eVar 2) (aCons (eOp addD (eCall f_rate_at 2 (aCons (eVar 0) (aCons (eVar 2) aNil))) (eCall f_rate_at 2 (aCons (eVar 1) (aCons (eVar 2) aNil)))) aNil))) (loc := [.val (encT one), .val (encT other), .un]) (n := n) (fun b : Int => (PyData.int b : D)) (fun b => encR (b, rt one b + rt other b)) (begs one other) (fun b hb => by
    have b0 := (begs_bound h1.1 h2.1 hb).1
    refine ⟨[.val (encT one), .val (encT other), .val (.int b)], rfl, ?_⟩
    simp only [ev_tup, ev_op, ev_call, ev_cons, ev_var, ev_nil, List.getElem?_cons_succ, List.getElem?_cons_zero, Option.bind_some, Option.map_some, List.length_cons, List.length_nil, Nat.zero_add, Nat.reduceAdd, ↓reduceIte, rate_at_ok h1.1 b0 n, rate_at_ok h2.1 b0 n, o_addI, Nat.reduceLeDiff, encR])
  have e3 : ((begs one other).map fun b => encR (b, rt one b + rt other b)) = (sumRows one other).map encR := by unfold sumRows; rw [List.map_map]; rfl
  unfold f_sum_table c_sum_table
  have hs : start0 false 3 [encT one, encT other] = [.val (encT one), .val (encT other), .un] := rfl
  have hl := least_table_ok (t := sumRows one other) (by have := (sum_WT h1 h2).2.2.2; omega) n
  simp only [ev_runF, hs, ev_sRet, ev_call, ev_cons, ev_op1, ev_lc, ev_iVal, ev_var, ev_nil, List.getElem?_cons_succ, List.getElem?_cons_zero, Option.bind_some, Option.map_some, List.length_cons, List.length_nil, Nat.zero_add, Nat.reduceAdd, ↓reduceIte, froms_ok h1.1 h2.1 n, o_itL, List.length_map, if_pos hbl, ev_wipe1, ev_wipe0, List.set_cons_succ, List.set_cons_zero]
  have e' : comp (gN 2) mYes (eTup (aCons (eVar 2) (aCons (eOp addD (eCall f_rate_at 2 (aCons (eVar 0) (aCons (eVar 2) aNil))) (eCall f_rate_at 2 (aCons (eVar 1) (aCons (eVar 2) aNil)))) aNil))) [.val (encT one), .val (encT other), .un] ((begs one other).map PyData.int) n = some ((sumRows one other).map encR, n) := by rw [← e3]; exact e
  rw [e']
  simp only [Option.map_some, Option.bind_some, o_tupL, hl, List.length_cons, List.length_nil, Nat.zero_add, ↓reduceIte]
/-! the drawn tables -/
theorem law_next_eq : f__law_next = Pd.f_next := rfl
theorem law_rates_ok (dr : List Int) (n : Nat) : ∃ t n', f__law_rates dr [] n = some (encT t, n') ∧ W60 t := by
  have n60 : ∀ n, f__law_next dr [.int 60] n = some (.int (nth dr n % 60), n + 1) := fun n => by rw [law_next_eq]; exact next_ok dr n (by omega)
  have n4 : ∀ n, f__law_next dr [.int 4] n = some (.int (nth dr n % 4), n + 1) := fun n => by rw [law_next_eq]; exact next_ok dr n (by omega)
  have n9 : ∀ n, f__law_next dr [.int 9] n = some (.int (nth dr n % 9), n + 1) := fun n => by rw [law_next_eq]; exact next_ok dr n (by omega)
  have l4 := next_lt dr (n + 1) (m := 4) (by omega)
  have hlz : -LIMZ ≤ nth dr (n + 1) % 4 ∧ nth dr (n + 1) % 4 ≤ LIMZ := by unfold LIMZ; omega
  obtain ⟨loc', n', e, hI⟩ := for_inv (gm := gN 3) (body := (sSeq (sSet (gN 1) (eOp addD (eOp addD (eVar 1) (eC (.int 1))) (eCallW 0 (f__law_next dr) 1 (aCons (eC (.int 9)) aNil))))
      (sAppend 2 (eTup (aCons (eVar 1) (aCons (eCallW 0 (f__law_next dr) 1 (aCons (eC (.int 60)) aNil)) aNil))))))
    (fun j loc n' => ∃ (t : List Row) (bg : Int) (c3 : Cell), loc = [.wd, .val (.int bg), .own (.list (t.map encR)), c3] ∧ (∃ r rest, t = (0, r) :: rest) ∧ t.Pairwise (fun a b => a.1 < b.1) ∧ (∀ r ∈ t, 0 ≤ r.1 ∧ r.1 ≤ bg ∧ 0 ≤ r.2 ∧ r.2 < 60) ∧ bg ≤ 9 * (j : Int) ∧ t.length = j + 1)
    (rangeD 0 (nth dr (n + 1) % 4).toNat) 0 [.wd, .val (.int 0), .own (.list ([(0, nth dr n % 60)].map encR)), .un] (n + 2)
    ⟨[(0, nth dr n % 60)], 0, .un, rfl, ⟨_, [], rfl⟩, by simp, fun r hr => by
      have := next_lt dr n (m := 60) (by omega)
      simp at hr; subst hr; simp only; omega, by omega, rfl⟩
    (fun j d loc n2 hj ⟨t, bg, c3, el, ⟨r0, rest, et⟩, pw, hb, hbg, hl⟩ => by
      have hj4 : j < 4 := by have := (List.getElem?_eq_some_iff.mp hj).1; rw [rangeD_len] at this; omega
      subst el
      have l9 := next_lt dr n2 (m := 9) (by omega)
      have l60 := next_lt dr (n2 + 1) (m := 60) (by omega)
      have hlim : t.length < LIM := by unfold LIM; omega
      refine ⟨[.wd, .val (.int bg), .own (.list (t.map encR)), .val d], [.wd, .val (.int (bg + 1 + nth dr n2 % 9)), .own (.list ((t ++ [(bg + 1 + nth dr n2 % 9, nth dr (n2 + 1) % 60)]).map encR)), .val d], n2 + 2, rfl, ?_, t ++ [(bg + 1 + nth dr n2 % 9, nth dr (n2 + 1) % 60)], bg + 1 + nth dr n2 % 9, .val d, rfl, ⟨r0, rest ++ [_], by rw [et]; rfl⟩, ?_, fun r hr => ?_, by omega, by rw [List.length_append, hl]; rfl⟩
      · simp [n9, n60, hlim, encR]
      · rw [List.pairwise_append]
        refine ⟨pw, by simp, fun a ha b hb' => ?_⟩
        have := hb a ha
        simp at hb'
        subst hb'
        simp only
        omega
      · rcases List.mem_append.mp hr with h | h
        · have := hb r h; omega
        · simp at h; subst h
          have h0 := hb (0, r0) (by rw [et]; simp)
          simp only at h0 ⊢
          omega)
  obtain ⟨t, bg, c3, rfl, ht0, pw, hb, hbg, hl⟩ := hI
  rw [rangeD_len] at hbg hl
  refine ⟨t, n', ?_, ⟨ht0, pw, fun r hr => ?_, by omega⟩, fun r hr => (hb r hr).2.2.2, by omega⟩
  · unfold f__law_rates c__law_rates
    have hs : start0 true 4 [] = [.wd, .un, .un, .un] := rfl
    have e' : forLoop (gN 3) (sSeq (sSet (gN 1) (eOp addD (eOp addD (eVar 1) (eC (.int 1))) (eCallW 0 (f__law_next dr) 1 (aCons (eC (.int 9)) aNil))))
      (sAppend 2 (eTup (aCons (eVar 1) (aCons (eCallW 0 (f__law_next dr) 1 (aCons (eC (.int 60)) aNil)) aNil))))) (rangeD 0 (nth dr (n + 1) % 4).toNat) [.wd, .val (.int 0), .own (.list [.tuple [.int 0, .int (nth dr n % 60)]]), .un] (n + 2) = _ := e
    simp only [ev_runF, hs, ev_sSeq, ev_sParO, ev_c, ev_list, ev_cons, ev_tup, ev_callW, ev_nil, List.getElem?_cons_succ, List.getElem?_cons_zero, Option.bind_some, Option.map_some, List.length_cons, List.length_nil, Nat.zero_add, Nat.reduceAdd, ↓reduceIte, n60, n4, Nat.reduceLeDiff, List.set_cons_succ, List.set_cons_zero, ev_sFor, ev_rg1, if_pos hlz, Nat.add_assoc, e']
    simp
  · have := hb r hr
    omega
end K09
namespace K09
open PySem L2 Pd
/-! ### the law's own def -/
abbrev rg40 : List D := rangeD 0 40
theorem rg40_eq : rg40 = (List.range 40).map fun k : Nat => (PyData.int (k : Int) : D) := rangeD_zero 40
def owedD (t : List Row) : D := .list ((List.range 40).map fun k : Nat => .int (owe t k))
def wholeD (t : List Row) : D := .list ((List.range 40).map fun k : Nat => .int ((k : Int) * rt t (k : Int)))
theorem owedD_at (t : List Row) {k : Nat} (hk : k < 40) : atD ((List.range 40).map fun k : Nat => (PyData.int (owe t k) : D)) (k : Int) = some (.int (owe t k)) := atD_nat (by simp [hk])
theorem wholeD_at (t : List Row) {k : Nat} (hk : k < 40) : atD ((List.range 40).map fun k : Nat => (PyData.int ((k : Int) * rt t (k : Int)) : D)) (k : Int) = some (.int ((k : Int) * rt t (k : Int))) := atD_nat (by simp [hk])
theorem wholeD_atI (t : List Row) {b : Int} (h0 : 0 ≤ b) (hk : b < 40) : atD ((List.range 40).map fun k : Nat => (PyData.int ((k : Int) * rt t (k : Int)) : D)) b = some (.int (b * rt t b)) := by
  obtain ⟨k, rfl⟩ : ∃ k : Nat, b = (k : Int) := ⟨b.toNat, by omega⟩
  exact wholeD_at t (by omega)
theorem mulL {i j : Int} (h : -B64 < i ∧ i < B64) : mulI (.int i) (.int j) = some (.int (i * j)) := by rw [o_mulI, if_pos (Or.inl h)]
theorem smallB {k : Nat} (h : k < 40) : -B64 < (k : Int) ∧ (k : Int) < B64 := by
  have h1 : (k : Int) < 40 := by omega
  have h3 : (40 : Int) ≤ B64 := by decide
  have h4 : -B64 < 0 := by decide
  exact ⟨Int.lt_of_lt_of_le h4 (Int.natCast_nonneg k), Int.lt_of_lt_of_le h1 h3⟩
theorem noneLeft : (List.range 40).filter (fun _ => false) = [] := by
  rw [List.filter_eq_nil_iff]
  simp
section
variable {T O : D} {c3 c4 c5 c6 c7 c8 c9 c10 c11 c12 c13 c14 : Cell}
abbrev fr (T O : D) (c3 c4 c5 c6 c7 c8 c9 c10 c11 c12 c13 c14 : Cell) : Pd.Loc := [.wd, .val T, .val O, c3, c4, c5, c6, c7, c8, c9, c10, c11, c12, c13, c14]
end
variable {t o : List Row} (ht : W60 t) (ho : W60 o) (n : Nat)
include ht
theorem s3 {c3 c5 c6 c7 c8 c9 c10 c11 c12 c13 c14 : Cell} : eLc (iVal (eVar 4)) [6] (gN 6) mYes (eCall f__law_owed 2 (aCons (eVar 1) (aCons (eVar 6) aNil))) (fr (encT t) (encT o) c3 (.val (.list rg40)) c5 c6 c7 c8 c9 c10 c11 c12 c13 c14) n = some (owedD t, n) := by
  have e := comp_all (gm := gN 6) (f := eCall f__law_owed 2 (aCons (eVar 1) (aCons (eVar 6) aNil))) (loc := fr (encT t) (encT o) c3 (.val (.list rg40)) c5 .un c7 c8 c9 c10 c11 c12 c13 c14) (n := n) (fun k : Nat => PyData.int (k : Int)) (fun k : Nat => PyData.int (owe t k)) (List.range 40) (fun k hk => by
    have hk' := List.mem_range.mp hk
    refine ⟨_, rfl, ?_⟩
    simp only [ev_call, ev_cons, ev_var, ev_nil, ev_gN, List.set_cons_succ, List.set_cons_zero, List.getElem?_cons_succ, List.getElem?_cons_zero, Option.bind_some, Option.map_some, List.length_cons, List.length_nil, Nat.zero_add, Nat.reduceAdd, ↓reduceIte, law_owed_ok ht.1 k (by omega) n])
  rw [← rg40_eq] at e
  simp only [ev_lc, ev_iVal, ev_var, List.getElem?_cons_succ, List.getElem?_cons_zero, Option.bind_some, Option.map_some, o_itL, rangeD_len, ev_wipe1, ev_wipe0, List.set_cons_succ, List.set_cons_zero]
  rw [if_pos (by decide), e]
  rfl
theorem s4a {c3 c4 c5 c7 c8 c9 c10 c11 c12 c13 c14 : Cell} (k : Nat) (hk' : k < 40) : (eOp mulI (eVar 6) (eOp ixD (eLc (iVal (eVar 1)) [8, 9] (gT 2 (gsCons (gN 8) (gsCons (gN 9) gsNil))) (asB (eOp leI (eVar 8) (eVar 6))) (eVar 9)) (eOp1 negI (eC (.int 1))))) (fr (encT t) (encT o) c3 c4 c5 (.val (.int (k : Int))) c7 c8 c9 c10 c11 c12 c13 c14) n = some (.int ((k : Int) * rt t (k : Int)), n) := by
  have e1 : comp (gT 2 (gsCons (gN 8) (gsCons (gN 9) gsNil))) (asB (eOp leI (eVar 8) (eVar 6))) (eVar 9) [.wd, .val (encT t), .val (encT o), c3, c4, c5, (.val (.int (k : Int))), c7, .un, .un, c10, c11, c12, c13, c14] (t.map encR) n = some (((t.filter fun r => decide (r.1 ≤ (k : Int))).map fun r => (PyData.int r.2 : D)), n) := comp_map encR (fun r => decide (r.1 ≤ (k : Int))) (fun r => .int r.2) t (fun r _ => ⟨[.wd, .val (encT t), .val (encT o), c3, c4, c5, (.val (.int (k : Int))), c7, (.val (.int r.1)), (.val (.int r.2)), c10, c11, c12, c13, c14], by simp [encR], by simp, fun _ => by simp⟩)
  have hB : -B64 < (k : Int) ∧ (k : Int) < B64 := smallB hk'
  have hz : (0 : Int) ≤ (k : Int) := Int.natCast_nonneg k
  have hsel := selL ht.1 hz
  rw [ev_op, ev_var]
  simp only [List.getElem?_cons_succ, List.getElem?_cons_zero, Option.bind_some]
  rw [ev_op, ev_lc, ev_iVal, ev_var]
  simp only [List.getElem?_cons_succ, List.getElem?_cons_zero, Option.bind_some, o_itT, Option.map_some]
  rw [if_pos (by rw [List.length_map]; exact ht.1.lim)]
  simp only [ev_wipe1, ev_wipe0, List.set_cons_succ, List.set_cons_zero]
  rw [e1, Option.map_some, Option.bind_some, ev_op1, ev_c, Option.bind_some, o_negI, Option.map_some, Option.bind_some, o_ixL, hsel, Option.map_some, Option.bind_some, mulL hB, Option.map_some]
theorem s4 {c3 c5 c6 c7 c8 c9 c10 c11 c12 c13 c14 : Cell} : eLc (iVal (eVar 4)) [6] (gN 6) mYes (eOp mulI (eVar 6) (eOp ixD (eLc (iVal (eVar 1)) [8, 9] (gT 2 (gsCons (gN 8) (gsCons (gN 9) gsNil))) (asB (eOp leI (eVar 8) (eVar 6))) (eVar 9)) (eOp1 negI (eC (.int 1))))) (fr (encT t) (encT o) c3 (.val (.list rg40)) c5 c6 c7 c8 c9 c10 c11 c12 c13 c14) n = some (wholeD t, n) := by
  have e := comp_all (gm := gN 6) (f := eOp mulI (eVar 6) (eOp ixD (eLc (iVal (eVar 1)) [8, 9] (gT 2 (gsCons (gN 8) (gsCons (gN 9) gsNil))) (asB (eOp leI (eVar 8) (eVar 6))) (eVar 9)) (eOp1 negI (eC (.int 1))))) (loc := fr (encT t) (encT o) c3 (.val (.list rg40)) c5 .un c7 c8 c9 c10 c11 c12 c13 c14) (n := n) (fun k : Nat => PyData.int (k : Int)) (fun k : Nat => PyData.int ((k : Int) * rt t (k : Int))) (List.range 40) (fun k hk => ⟨_, rfl, s4a ht n k (List.mem_range.mp hk)⟩)
  rw [← rg40_eq] at e
  simp only [ev_lc, ev_iVal, ev_var, List.getElem?_cons_succ, List.getElem?_cons_zero, Option.bind_some, Option.map_some, o_itL, rangeD_len, ev_wipe1, ev_wipe0, List.set_cons_succ, List.set_cons_zero]
  rw [if_pos (by decide), e]
  rfl
theorem s5 {c3 c6 c8 c9 c10 c11 c12 c13 c14 : Cell} : eLc (iVal (eVar 4)) [6] (gN 6) (mOr (asB (eOp neD (eCall f_owed 2 (aCons (eVar 1) (aCons (eVar 6) aNil))) (eOp ixD (eVar 5) (eVar 6)))) (asB (eOp neD (eCall f_owed_whole 2 (aCons (eVar 1) (aCons (eVar 6) aNil))) (eOp ixD (eVar 7) (eVar 6))))) (eVar 6) (fr (encT t) (encT o) c3 (.val (.list rg40)) (.val (owedD t)) c6 (.val (wholeD t)) c8 c9 c10 c11 c12 c13 c14) n = some (.list [], n) := by
  have e := comp_map (gm := gN 6) (c := mOr (asB (eOp neD (eCall f_owed 2 (aCons (eVar 1) (aCons (eVar 6) aNil))) (eOp ixD (eVar 5) (eVar 6)))) (asB (eOp neD (eCall f_owed_whole 2 (aCons (eVar 1) (aCons (eVar 6) aNil))) (eOp ixD (eVar 7) (eVar 6))))) (f := eVar 6) (loc := fr (encT t) (encT o) c3 (.val (.list rg40)) (.val (owedD t)) .un (.val (wholeD t)) c8 c9 c10 c11 c12 c13 c14) (n := n) (fun k : Nat => PyData.int (k : Int)) (fun _ => false) (fun k : Nat => PyData.int (k : Int)) (List.range 40) (fun k hk => by
    have hk' := List.mem_range.mp hk
    refine ⟨_, rfl, ?_, fun h => nomatch h⟩
    simp only [ev_mOr, ev_asB, ev_op, ev_call, ev_cons, ev_nil, ev_var, ev_gN, List.set_cons_succ, List.set_cons_zero, List.getElem?_cons_succ, List.getElem?_cons_zero, Option.bind_some, Option.map_some, List.length_cons, List.length_nil, Nat.zero_add, Nat.reduceAdd, ↓reduceIte, owed_ok ht.1 k n, owed_whole_ok ht.1 (show (0 : Int) ≤ (k : Int) by omega) n, owedD, wholeD, o_ixL, owedD_at t hk', wholeD_at t hk', neD_int, Int.mul_comm]
    simp)
  rw [← rg40_eq] at e
  simp only [ev_lc, ev_iVal, ev_var, List.getElem?_cons_succ, List.getElem?_cons_zero, Option.bind_some, Option.map_some, o_itL, rangeD_len, ev_wipe1, ev_wipe0, List.set_cons_succ, List.set_cons_zero]
  rw [if_pos (by decide), e]
  simp
theorem s6 {c3 c4 c5 c6 c7 c8 c9 c10 c11 c12 c13 c14 : Cell} : eOp1 tupD (eLc (iRange1 (eOp1 lenD (eVar 1))) [11] (gN 11) (mOr (asB (eOp eqD (eVar 11) (eC (.int 0)))) (asB (eOp neD (eOp ixD (eOp ixD (eVar 1) (eVar 11)) (eC (.int 1))) (eOp ixD (eOp ixD (eVar 1) (eOp subI (eVar 11) (eC (.int 1)))) (eC (.int 1)))))) (eOp ixD (eVar 1) (eVar 11))) (fr (encT t) (encT o) c3 c4 c5 c6 c7 c8 c9 c10 c11 c12 c13 c14) n = some (encT (least t), n) := by
  have hlz : -LIMZ ≤ (t.length : Int) ∧ (t.length : Int) ≤ LIMZ := by have := ht.2.2; unfold LIMZ; omega
  have e := comp_map (gm := gN 11) (c := mOr (asB (eOp eqD (eVar 11) (eC (.int 0)))) (asB (eOp neD (eOp ixD (eOp ixD (eVar 1) (eVar 11)) (eC (.int 1))) (eOp ixD (eOp ixD (eVar 1) (eOp subI (eVar 11) (eC (.int 1)))) (eC (.int 1)))))) (f := eOp ixD (eVar 1) (eVar 11)) (loc := fr (encT t) (encT o) c3 c4 c5 c6 c7 c8 c9 c10 .un c12 c13 c14) (n := n) (fun k : Nat => PyData.int (k : Int)) (fun j => decide (j = 0) || !decide ((t[j]?.map (·.2)) = (t[j - 1]?.map (·.2)))) (fun j : Nat => encR (t[j]?.getD (0, 0))) (List.range t.length) (fun k hk => by
    have hk' := List.mem_range.mp hk
    have a1 : atD (t.map encR) (k : Int) = some (encR t[k]) := atD_nat (by simp [hk'])
    refine ⟨_, rfl, ?_, fun _ => ?_⟩
    · by_cases h0 : k = 0
      · subst h0
        simp
      · have a2 : atD (t.map encR) ((k : Int) - 1) = some (encR t[k - 1]) := by
          rw [show (k : Int) - 1 = ((k - 1 : Nat) : Int) by omega]
          exact atD_nat (by simp [show k - 1 < t.length by omega])
        have h0' : ¬ ((k : Int) = 0) := by omega
        simp only [ev_mOr, ev_asB, ev_op, ev_c, ev_var, ev_gN, List.set_cons_succ, List.set_cons_zero, List.getElem?_cons_succ, List.getElem?_cons_zero, Option.bind_some, Option.map_some, eqD_int, h0', decide_false, Bool.false_eq_true, ↓reduceIte, o_ixT, a1, o_subI, a2, encR, atD_one, neD_int]
        simp [h0, hk', show k - 1 < t.length by omega]
    · simp [a1, hk'])
  have e4 : rangeD 0 t.length = (List.range t.length).map fun k : Nat => PyData.int (k : Int) := rangeD_zero t.length
  rw [← e4] at e
  have e5 := least_take t t.length (Nat.le_refl _)
  rw [List.take_length] at e5
  have e6 : (((List.range t.length).filter (fun j => decide (j = 0) || !decide ((t[j]?.map (·.2)) = (t[j - 1]?.map (·.2))))).map fun j : Nat => encR (t[j]?.getD (0, 0))) = (least t).map encR := by rw [← e5, List.map_map]; rfl
  rw [e6] at e
  simp only [ev_op1, ev_lc, ev_rg1, ev_var, List.getElem?_cons_succ, List.getElem?_cons_zero, Option.bind_some, Option.map_some, o_lenT, List.length_map, if_pos hlz, Int.toNat_natCast, rangeD_len, if_pos ht.1.lim, ev_wipe1, ev_wipe0, List.set_cons_succ, List.set_cons_zero]
  rw [e]
  simp
include ho
def unlike (t o : List Row) : List Nat := (List.range 40).filter fun a => !decide (owe o a = owe t a)
theorem s7 {c3 c6 c7 c8 c9 c10 c11 c12 c13 c14 : Cell} : eLc (iVal (eVar 4)) [6] (gN 6) (asB (eOp neD (eCall f__law_owed 2 (aCons (eVar 2) (aCons (eVar 6) aNil))) (eOp ixD (eVar 5) (eVar 6)))) (eVar 6) (fr (encT t) (encT o) c3 (.val (.list rg40)) (.val (owedD t)) c6 c7 c8 c9 c10 c11 c12 c13 c14) n = some (.list ((unlike t o).map fun k : Nat => .int (k : Int)), n) := by
  have e := comp_map (gm := gN 6) (c := asB (eOp neD (eCall f__law_owed 2 (aCons (eVar 2) (aCons (eVar 6) aNil))) (eOp ixD (eVar 5) (eVar 6)))) (f := eVar 6) (loc := fr (encT t) (encT o) c3 (.val (.list rg40)) (.val (owedD t)) .un c7 c8 c9 c10 c11 c12 c13 c14) (n := n) (fun k : Nat => PyData.int (k : Int)) (fun k => !decide (owe o k = owe t k)) (fun k : Nat => PyData.int (k : Int)) (List.range 40) (fun k hk => by
    have hk' := List.mem_range.mp hk
    refine ⟨_, rfl, ?_, fun _ => rfl⟩
    simp only [ev_asB, ev_op, ev_call, ev_cons, ev_nil, ev_var, ev_gN, List.set_cons_succ, List.set_cons_zero, List.getElem?_cons_succ, List.getElem?_cons_zero, Option.bind_some, Option.map_some, List.length_cons, List.length_nil, Nat.zero_add, Nat.reduceAdd, ↓reduceIte, law_owed_ok ho.1 k (by omega) n, owedD, o_ixL, owedD_at t hk', neD_int])
  rw [← rg40_eq] at e
  simp only [ev_lc, ev_iVal, ev_var, List.getElem?_cons_succ, List.getElem?_cons_zero, Option.bind_some, Option.map_some, o_itL, rangeD_len, ev_wipe1, ev_wipe0, List.set_cons_succ, List.set_cons_zero]
  rw [if_pos (by decide), e]
  rfl
theorem pl_nats (l : List Nat) : PyData.plainAll (l.map fun k : Nat => (PyData.int (k : Int) : D)) = true := plainAll_map fun _ _ => by simp
theorem s8 {c3 c4 c5 c6 c7 c8 c9 c11 c13 c14 : Cell} : (mOr (asB (eOp neD (eCall f_least_table 1 (aCons (eVar 1) aNil)) (eVar 10))) (mOr (mAnd (asB (eOp neD (eVar 12) (eList aNil))) (asB (eOp neD (eCall f_same_tables 2 (aCons (eVar 1) (aCons (eVar 2) aNil))) (eTup (aCons (eC (.str "no")) (aCons (eOp ixD (eVar 12) (eC (.int 0))) aNil)))))) (asB (eOp neD (eCall f_same_tables 2 (aCons (eVar 1) (aCons (eVar 10) aNil))) (eTup (aCons (eC (.str "yes")) aNil)))))) (fr (encT t) (encT o) c3 c4 c5 c6 c7 c8 c9 (.val (encT (least t))) c11 (.val (.list ((unlike t o).map fun k : Nat => .int (k : Int)))) c13 c14) n = some (false, n) := by
  have hlt := least_table_ok (t := t) (by have := ht.2.2; omega) n
  have hr := neD_refl (plT (least t)) (dpT (least t))
  have hs1 := same_tables_ok ht.1 ho.1 n
  have hs2 := same_tables_ok ht.1 (least_WT ht.1) n
  rw [differ_least ht.1] at hs2
  have hy : neD (.tuple [.str "yes"]) (.tuple [.str "yes"]) = some (.bool false) := neD_refl (by simp) (by simp)
  have hd := differ_first ht.1 ho.1
  have hnil : neD (.list ((unlike t o).map fun k : Nat => (PyData.int (k : Int) : D))) (.list []) = some (.bool (!(unlike t o).isEmpty)) := by
    rw [neD_nil (pl_nats ht ho _)]
    simp
  simp only [ev_mOr, ev_mAnd, ev_asB, ev_op, ev_call, ev_cons, ev_nil, ev_var, ev_list, ev_tup, ev_c, List.getElem?_cons_succ, List.getElem?_cons_zero, Option.bind_some, Option.map_some, List.length_cons, List.length_nil, Nat.zero_add, Nat.reduceAdd, ↓reduceIte, hlt, hr, Bool.false_eq_true, hnil, Nat.zero_le]
  cases hu : unlike t o with
  | nil => simp [hs2, says, hy]
  | cons a rest =>
    have hd' : (unlike t o).head? = (differ t o).map fun b => (b + 1).toNat := hd
    rw [hu] at hd'
    cases hdd : differ t o with
    | none => rw [hdd] at hd'; cases hd'
    | some b =>
      rw [hdd] at hd'
      have ha : a = (b + 1).toNat := by simpa using hd'
      have hb : b ∈ begs t o := List.mem_of_find?_eq_some hdd
      have hb0 := (begs_bound ht.1 ho.1 hb).1
      have hab : (a : Int) = b + 1 := by omega
      have hno : neD (.tuple [.str "no", .int (b + 1)]) (.tuple [.str "no", .int (b + 1)]) = some (.bool false) := neD_refl (by simp) (by simp)
      rw [hdd] at hs1
      simp only [List.isEmpty_cons, Bool.not_false, ↓reduceIte, hs1, says, List.map_cons, o_ixL, atD_zero, Option.bind_some, Option.map_some, List.length_cons, List.length_nil, Nat.zero_add, Nat.reduceAdd, Nat.reduceLeDiff, hab, hno, Bool.false_eq_true, hs2, hy]
theorem s9 {c3 c4 c5 c6 c8 c9 c10 c11 c12 c13 c14 : Cell} : (asB (eOp neD (eOp1 listD (eCall f_jumps 1 (aCons (eVar 1) aNil))) (eLc (iVal (eSlice (eVar 1) (pSome (eC (.int 1))) pNone)) [8, 9] (gT 2 (gsCons (gN 8) (gsCons (gN 9) gsNil))) mYes (eTup (aCons (eVar 8) (aCons (eOp subI (eOp ixD (eVar 7) (eVar 8)) (eOp ixD (eVar 7) (eOp subI (eVar 8) (eC (.int 1))))) aNil)))))) (fr (encT t) (encT o) c3 c4 c5 c6 (.val (wholeD t)) c8 c9 c10 c11 c12 c13 c14) n = some (false, n) := by
  obtain ⟨⟨r0, rest, et⟩, pw, hb, hlen⟩ := id ht.1
  have hl : rest.length ≤ LIM := by subst et; simp at hlen; unfold LIM; omega
  have hj := jumps_ok (r0 := r0) (rest := rest) (by rw [← et]; exact ht.1) n
  rw [← et] at hj
  have e := comp_all (gm := gT 2 (gsCons (gN 8) (gsCons (gN 9) gsNil))) (f := eTup (aCons (eVar 8) (aCons (eOp subI (eOp ixD (eVar 7) (eVar 8)) (eOp ixD (eVar 7) (eOp subI (eVar 8) (eC (.int 1))))) aNil))) (loc := fr (encT t) (encT o) c3 c4 c5 c6 (.val (wholeD t)) .un .un c10 c11 c12 c13 c14) (n := n) encR (fun r => .tuple [.int r.1, .int (rt t r.1 * r.1 - rt t (r.1 - 1) * (r.1 - 1))]) rest (fun r hr => by
    have hr' : r ∈ t := by rw [et]; simp [hr]
    have h1 := hb r hr'
    have h2 : 0 < r.1 := by rw [et] at pw; exact (List.pairwise_cons.mp pw).1 r hr
    refine ⟨fr (encT t) (encT o) c3 c4 c5 c6 (.val (wholeD t)) (.val (.int r.1)) (.val (.int r.2)) c10 c11 c12 c13 c14, by simp [encR], ?_⟩
    simp only [ev_tup, ev_cons, ev_nil, ev_op, ev_c, ev_var, List.getElem?_cons_succ, List.getElem?_cons_zero, Option.bind_some, Option.map_some, wholeD, o_ixL, o_subI, wholeD_atI t (b := r.1) (by omega) (by omega), wholeD_atI t (b := r.1 - 1) (by omega) (by omega), List.length_cons, List.length_nil, Nat.zero_add, Nat.reduceAdd, Nat.reduceLeDiff, ↓reduceIte]
    rw [Int.mul_comm r.1, Int.mul_comm (r.1 - 1)])
  have hcut : cutD (t.map encR) (some 1) none = rest.map encR := by rw [et]; simp
  have hr : neD (.list (rest.map fun r => (PyData.tuple [.int r.1, .int (rt t r.1 * r.1 - rt t (r.1 - 1) * (r.1 - 1))] : D))) (.list (rest.map fun r => (PyData.tuple [.int r.1, .int (rt t r.1 * r.1 - rt t (r.1 - 1) * (r.1 - 1))] : D))) = some (.bool false) := neD_refl (by rw [pl_list]; exact plainAll_map fun _ _ => by simp) (by rw [dp_list]; exact Nat.le_trans (Nat.add_le_add_right (depthAll_map (k := 1) fun _ _ => by simp) 1) (by decide))
  simp only [ev_asB, ev_op, ev_op1, ev_call, ev_cons, ev_nil, ev_var, ev_lc, ev_iVal, ev_slice, ev_pSome, ev_pNone, ev_c, List.getElem?_cons_succ, List.getElem?_cons_zero, Option.bind_some, Option.map_some, List.length_cons, List.length_nil, Nat.zero_add, Nat.reduceAdd, ↓reduceIte, hj, o_listT, o_slT, hcut, o_itT, List.length_map, if_pos hl, ev_wipe1, ev_wipe0, List.set_cons_succ, List.set_cons_zero, e, hr]
theorem maxes (tt : List Row) (hw : W60 tt) : maxD (.list (tt.map fun r => (PyData.int r.2 : D))) = some (.int (maxI (tt.map (·.2)))) := by
  rw [show (tt.map fun r => (PyData.int r.2 : D)) = (tt.map (·.2)).map PyData.int by rw [List.map_map]; rfl]
  refine max_intsD ?_
  obtain ⟨⟨r0, rest, et⟩, _⟩ := hw.1
  rw [et]
  simp
theorem s10 {c3 c4 c5 c6 c7 c8 c9 c10 c11 c12 c13 c14 : Cell} : ∃ d, (eIf (asB (eOp ltI (eOp addD (eOp1 maxD (eLc (iVal (eVar 1)) [8, 9] (gT 2 (gsCons (gN 8) (gsCons (gN 9) gsNil))) mYes (eVar 9))) (eOp1 maxD (eLc (iVal (eVar 2)) [8, 9] (gT 2 (gsCons (gN 8) (gsCons (gN 9) gsNil))) mYes (eVar 9)))) (eC (.int 100)))) (eCall f_sum_table 2 (aCons (eVar 1) (aCons (eVar 2) aNil))) (eC .none)) (fr (encT t) (encT o) c3 c4 c5 c6 c7 c8 c9 c10 c11 c12 c13 c14) n = some (d, n) ∧ (d = .none ∨ d = encT (least (sumRows t o))) := by
  have e : ∀ tt : List Row, comp (gT 2 (gsCons (gN 8) (gsCons (gN 9) gsNil))) mYes (eVar 9) (fr (encT t) (encT o) c3 c4 c5 c6 c7 .un .un c10 c11 c12 c13 c14) (tt.map encR) n = some (tt.map fun r => PyData.int r.2, n) := fun tt => comp_all encR (fun r => PyData.int r.2) tt (fun r _ => ⟨fr (encT t) (encT o) c3 c4 c5 c6 c7 (.val (.int r.1)) (.val (.int r.2)) c10 c11 c12 c13 c14, by simp [encR], by simp⟩)
  have hs := sum_table_ok ht ho n
  by_cases h : maxI (t.map (·.2)) + maxI (o.map (·.2)) < 100
  · refine ⟨_, ?_, .inr rfl⟩
    simp only [ev_if, ev_asB, ev_op, ev_op1, ev_lc, ev_iVal, ev_c, ev_call, ev_cons, ev_nil, ev_var, List.getElem?_cons_succ, List.getElem?_cons_zero, Option.bind_some, Option.map_some, o_itT, List.length_map, if_pos ht.1.lim, if_pos ho.1.lim, ev_wipe1, ev_wipe0, List.set_cons_succ, List.set_cons_zero, e, maxes ht ho t ht, maxes ht ho o ho, o_addI, o_ltI, h, decide_true, ↓reduceIte, List.length_cons, List.length_nil, Nat.zero_add, Nat.reduceAdd, hs]
  · refine ⟨_, ?_, .inl rfl⟩
    simp only [ev_if, ev_asB, ev_op, ev_op1, ev_lc, ev_iVal, ev_c, ev_call, ev_cons, ev_nil, ev_var, List.getElem?_cons_succ, List.getElem?_cons_zero, Option.bind_some, Option.map_some, o_itT, List.length_map, if_pos ht.1.lim, if_pos ho.1.lim, ev_wipe1, ev_wipe0, List.set_cons_succ, List.set_cons_zero, e, maxes ht ho t ht, maxes ht ho o ho, o_addI, o_ltI, h, decide_false, Bool.false_eq_true, ↓reduceIte]
theorem s11 {c3 c6 c7 c8 c9 c10 c11 c12 c14 : Cell} {d : D} (hd : d = .none ∨ d = encT (least (sumRows t o))) : (mAnd (asB (eOp notNoneD (eVar 13) (eC .none))) (asB (eOp neD (eLc (iVal (eVar 4)) [6] (gN 6) (asB (eOp neD (eCall f__law_owed 2 (aCons (eVar 13) (aCons (eVar 6) aNil))) (eOp addD (eOp ixD (eVar 5) (eVar 6)) (eCall f__law_owed 2 (aCons (eVar 2) (aCons (eVar 6) aNil)))))) (eVar 6)) (eList aNil)))) (fr (encT t) (encT o) c3 (.val (.list rg40)) (.val (owedD t)) c6 c7 c8 c9 c10 c11 c12 (.val d) c14) n = some (false, n) := by
  rcases hd with rfl | rfl
  · simp
  · have hw := least_WT (sum_WT ht ho)
    have e := comp_map (gm := gN 6) (c := asB (eOp neD (eCall f__law_owed 2 (aCons (eVar 13) (aCons (eVar 6) aNil))) (eOp addD (eOp ixD (eVar 5) (eVar 6)) (eCall f__law_owed 2 (aCons (eVar 2) (aCons (eVar 6) aNil)))))) (f := eVar 6) (loc := fr (encT t) (encT o) c3 (.val (.list rg40)) (.val (owedD t)) .un c7 c8 c9 c10 c11 c12 (.val (encT (least (sumRows t o)))) c14) (n := n) (fun k : Nat => PyData.int (k : Int)) (fun _ => false) (fun k : Nat => PyData.int (k : Int)) (List.range 40) (fun k hk => by
      have hk' := List.mem_range.mp hk
      refine ⟨_, rfl, ?_, fun h => nomatch h⟩
      simp only [ev_asB, ev_op, ev_call, ev_cons, ev_nil, ev_var, ev_gN, List.set_cons_succ, List.set_cons_zero, List.getElem?_cons_succ, List.getElem?_cons_zero, Option.bind_some, Option.map_some, List.length_cons, List.length_nil, Nat.zero_add, Nat.reduceAdd, ↓reduceIte, law_owed_ok ho.1 k (by omega) n, law_owed_ok hw k (by omega) n, owedD, o_ixL, owedD_at t hk', neD_int, o_addI, sum_owe ht ho k]
      simp)
    rw [← rg40_eq] at e
    have hnn : neD (.list ([] : List D)) (.list []) = some (.bool false) := neD_nil (by simp)
    simp only [ev_mAnd, ev_asB, ev_op, ev_c, ev_lc, ev_iVal, ev_list, ev_nil, ev_var, List.getElem?_cons_succ, List.getElem?_cons_zero, Option.bind_some, Option.map_some, o_notN, isN_tup, Bool.not_false, ↓reduceIte, o_itL, rangeD_len, ev_wipe1, ev_wipe0, List.set_cons_succ, List.set_cons_zero]
    rw [if_pos (by decide), e, noneLeft]
    simp [hnn]
theorem s13 {by' : Int} {c3 c4 c5 c6 c7 c8 c9 c10 c11 c12 c13 : Cell} : (eOp eqD (eCall f_shifted 2 (aCons (eVar 1) (aCons (eVar 14) aNil))) (eOp addD (eSlice (eVar 1) pNone (pSome (eC (.int 1)))) (eOp1 tupD (eLc (iVal (eSlice (eVar 1) (pSome (eC (.int 1))) pNone)) [8, 9] (gT 2 (gsCons (gN 8) (gsCons (gN 9) gsNil))) mYes (eTup (aCons (eOp addD (eVar 8) (eVar 14)) (aCons (eVar 9) aNil))))))) (fr (encT t) (encT o) c3 c4 c5 c6 c7 c8 c9 c10 c11 c12 c13 (.val (.int by'))) n = some (.bool true, n) := by
  obtain ⟨⟨r0, rest, et⟩, pw, hb, hlen⟩ := id ht.1
  have hl : rest.length ≤ LIM := by subst et; simp at hlen; unfold LIM; omega
  have hl1 : 1 + rest.length ≤ LIM := by subst et; simp at hlen; unfold LIM; omega
  have hsh := shifted_ok (r0 := r0) (by' := by') (rest := rest) (by subst et; simp at hlen; omega) n
  rw [← et] at hsh
  have e := comp_all (gm := gT 2 (gsCons (gN 8) (gsCons (gN 9) gsNil))) (f := eTup (aCons (eOp addD (eVar 8) (eVar 14)) (aCons (eVar 9) aNil))) (loc := fr (encT t) (encT o) c3 c4 c5 c6 c7 .un .un c10 c11 c12 c13 (.val (.int by'))) (n := n) encR (fun r => encR (r.1 + by', r.2)) rest (fun r hr => ⟨fr (encT t) (encT o) c3 c4 c5 c6 c7 (.val (.int r.1)) (.val (.int r.2)) c10 c11 c12 c13 (.val (.int by')), by simp [encR], by simp [encR]⟩)
  have hcut : cutD (t.map encR) (some 1) none = rest.map encR := by rw [et]; simp
  have hcut1 : cutD (t.map encR) none (some 1) = [encR (0, r0)] := by
    rw [show (1 : Int) = ((1 : Nat) : Int) from rfl, cutD_take, et]
    simp
  have hr := eqD_refl (plT ((0, r0) :: rest.map fun r => (r.1 + by', r.2))) (dpT ((0, r0) :: rest.map fun r => (r.1 + by', r.2)))
  simp only [ev_op, ev_op1, ev_call, ev_cons, ev_nil, ev_var, ev_lc, ev_iVal, ev_slice, ev_pSome, ev_pNone, ev_c, List.getElem?_cons_succ, List.getElem?_cons_zero, Option.bind_some, Option.map_some, List.length_cons, List.length_nil, Nat.zero_add, Nat.reduceAdd, ↓reduceIte, hsh, o_slT, hcut, hcut1, o_itT, List.length_map, if_pos hl, ev_wipe1, ev_wipe0, List.set_cons_succ, List.set_cons_zero, e, o_tupL]
  rw [o_addT (by simpa using hl1)]
  have e7 : ([encR (0, r0)] ++ rest.map fun r => encR (r.1 + by', r.2)) = ((0, r0) :: rest.map fun r => (r.1 + by', r.2)).map encR := by simp
  simp only [Option.map_some, Option.bind_some]
  rw [e7]
  rw [show eqD (encT ((0, r0) :: rest.map fun r => (r.1 + by', r.2))) (.tuple (((0, r0) :: rest.map fun r => (r.1 + by', r.2)).map encR)) = some (.bool true) from hr]
  rfl
omit ht ho in
theorem law_holds_ok (dr : List Int) (n : Nat) : ∃ n', f__law_holds dr [] n = some (.bool true, n') := by
  obtain ⟨t, n1, e1, ht⟩ := law_rates_ok dr n
  obtain ⟨o, n2, e2, ho⟩ := law_rates_ok dr n1
  obtain ⟨d, e10, hd⟩ := s10 ht ho n2 (c3 := .un) (c4 := .val (.list rg40)) (c5 := .val (owedD t)) (c6 := .un) (c7 := .val (wholeD t)) (c8 := .un) (c9 := .un) (c10 := .val (encT (least t))) (c11 := .un) (c12 := .val (.list ((unlike t o).map fun k : Nat => .int (k : Int)))) (c13 := .un) (c14 := .un)
  have n5 : f__law_next dr [.int 5] n2 = some (.int (nth dr n2 % 5), n2 + 1) := by rw [law_next_eq]; exact next_ok dr n2 (by omega)
  have hnn : neD (.list ([] : List D)) (.list []) = some (.bool false) := neD_nil (by simp)
  have h2 : -LIMZ ≤ (2 : Int) ∧ (2 : Int) ≤ LIMZ := by unfold LIMZ; omega
  have hr2 : rangeD 0 2 = [.int 0, .int 1] := rfl
  refine ⟨n2 + 1, ?_⟩
  unfold f__law_holds c__law_holds
  have hs : start0 true 15 [] = [.wd, .un, .un, .un, .un, .un, .un, .un, .un, .un, .un, .un, .un, .un, .un] := rfl
  have c1 : comp (gN 3) mYes (eCallW 0 (f__law_rates dr) 0 aNil) [.wd, .un, .un, .un, .un, .un, .un, .un, .un, .un, .un, .un, .un, .un, .un] [.int 0, .int 1] n = some ([encT t, encT o], n2) := by
    simp only [comp, ev_gN, List.set_cons_succ, List.set_cons_zero, Option.bind_some, ev_yes, ↓reduceIte, ev_callW, List.getElem?_cons_zero, ev_nil, List.length_nil, e1, e2, Option.map_some]
  have a3 := s3 (o := o) ht n2 (c3 := .un) (c5 := .un) (c6 := .un) (c7 := .un) (c8 := .un) (c9 := .un) (c10 := .un) (c11 := .un) (c12 := .un) (c13 := .un) (c14 := .un)
  have a4 := s4 (o := o) ht n2 (c3 := .un) (c5 := .val (owedD t)) (c6 := .un) (c7 := .un) (c8 := .un) (c9 := .un) (c10 := .un) (c11 := .un) (c12 := .un) (c13 := .un) (c14 := .un)
  have a5 := s5 (o := o) ht n2 (c3 := .un) (c6 := .un) (c8 := .un) (c9 := .un) (c10 := .un) (c11 := .un) (c12 := .un) (c13 := .un) (c14 := .un)
  have a6 := s6 (o := o) ht n2 (c3 := .un) (c4 := .val (.list rg40)) (c5 := .val (owedD t)) (c6 := .un) (c7 := .val (wholeD t)) (c8 := .un) (c9 := .un) (c10 := .un) (c11 := .un) (c12 := .un) (c13 := .un) (c14 := .un)
  have a7 := s7 ht ho n2 (c3 := .un) (c6 := .un) (c7 := .val (wholeD t)) (c8 := .un) (c9 := .un) (c10 := .val (encT (least t))) (c11 := .un) (c12 := .un) (c13 := .un) (c14 := .un)
  have a8 := s8 ht ho n2 (c3 := .un) (c4 := .val (.list rg40)) (c5 := .val (owedD t)) (c6 := .un) (c7 := .val (wholeD t)) (c8 := .un) (c9 := .un) (c11 := .un) (c13 := .un) (c14 := .un)
  have a9 := s9 ht ho n2 (c3 := .un) (c4 := .val (.list rg40)) (c5 := .val (owedD t)) (c6 := .un) (c8 := .un) (c9 := .un) (c10 := .val (encT (least t))) (c11 := .un) (c12 := .val (.list ((unlike t o).map fun k : Nat => .int (k : Int)))) (c13 := .un) (c14 := .un)
  have a11 := s11 ht ho n2 hd (c3 := .un) (c6 := .un) (c7 := .val (wholeD t)) (c8 := .un) (c9 := .un) (c10 := .val (encT (least t))) (c11 := .un) (c12 := .val (.list ((unlike t o).map fun k : Nat => .int (k : Int)))) (c14 := .un)
  have a13 := s13 ht ho (n2 + 1) (by' := nth dr n2 % 5) (c3 := .un) (c4 := .val (.list rg40)) (c5 := .val (owedD t)) (c6 := .un) (c7 := .val (wholeD t)) (c8 := .un) (c9 := .un) (c10 := .val (encT (least t))) (c11 := .un) (c12 := .val (.list ((unlike t o).map fun k : Nat => .int (k : Int)))) (c13 := .val d)
  rw [ev_runF, hs]
  rw [ev_sSeq, ev_sSet, ev_lc, ev_rg1, ev_c]
  simp only [if_pos h2, Option.bind_some, Int.reduceToNat, hr2, List.length_cons, List.length_nil, ev_wipe1, ev_wipe0, List.set_cons_succ, List.set_cons_zero]
  rw [if_pos (by decide), c1]
  simp only [Option.map_some, Option.bind_some, ev_gTl, List.length_cons, List.length_nil, Nat.zero_add, Nat.reduceAdd, ↓reduceIte, ev_gsCons, ev_gsNil, ev_gN, List.set_cons_succ, List.set_cons_zero]
  rw [ev_sSeq, ev_sSet, ev_lrg, ev_c]
  simp only [Int.reduceLE, Int.reduceNeg, and_self, ↓reduceIte, Option.bind_some, ev_gN, Option.map_some, List.set_cons_succ, List.set_cons_zero, Int.reduceToNat]
  rw [ev_sSeq, ev_sSet, a3]
  simp only [Option.bind_some, ev_gN, Option.map_some, List.set_cons_succ, List.set_cons_zero]
  rw [ev_sSeq, ev_sSet, a4]
  simp only [Option.bind_some, ev_gN, Option.map_some, List.set_cons_succ, List.set_cons_zero]
  rw [ev_sSeq, ev_sIf, ev_asB, ev_op, a5]
  simp only [Option.bind_some, ev_list, ev_nil, List.length_nil, Nat.zero_le, ↓reduceIte, hnn, Option.map_some, Bool.false_eq_true, ev_sNil]
  rw [ev_sSeq, ev_sSet, a6]
  simp only [Option.bind_some, ev_gN, Option.map_some, List.set_cons_succ, List.set_cons_zero]
  rw [ev_sSeq, ev_sSetLc, a7]
  simp only [Option.bind_some, ev_gN, Option.map_some, List.set_cons_succ, List.set_cons_zero]
  rw [ev_sSeq, ev_sIf, a8]
  simp only [Option.bind_some, Bool.false_eq_true, ↓reduceIte, ev_sNil]
  rw [ev_sSeq, ev_sIf, a9]
  simp only [Option.bind_some, Bool.false_eq_true, ↓reduceIte, ev_sNil]
  rw [ev_sSeq, ev_sSet, e10]
  simp only [Option.bind_some, ev_gN, Option.map_some, List.set_cons_succ, List.set_cons_zero]
  rw [ev_sSeq, ev_sIf, a11]
  simp only [Option.bind_some, Bool.false_eq_true, ↓reduceIte, ev_sNil]
  rw [ev_sSeq, ev_sSet, ev_callW]
  simp only [List.getElem?_cons_zero, ev_cons, ev_c, ev_nil, Option.bind_some, Option.map_some, List.length_cons, List.length_nil, Nat.zero_add, ↓reduceIte, n5, ev_gN, List.set_cons_succ, List.set_cons_zero]
  rw [ev_sRet, a13]
  rfl
omit ht ho in
theorem plain : ∀ ns : List Int, ns.length ≤ 63 → ∃ dr loc' n', c_law0 (law0 ns 2) 0 = some (.list (dr.map .int), 0) ∧ c_law dr ((law0 ns 2).set 1 .wd) 0 = some (.ret (.bool true), loc', n') := fun ns hn => by
  obtain ⟨dr, e⟩ := draws_ok hn 0
  obtain ⟨loc', n', e2⟩ := law_ok (f := f__law_holds dr) (law_holds_ok dr) (.list (ns.map .int)) 0
  refine ⟨dr, loc', n', ?_, e2⟩
  have e' : f__law_draws [.list (ns.map .int), .int 900] 0 = some (.list (dr.map .int), 0) := e
  unfold c_law0 law0
  simp only [ev_call, ev_cons, ev_var, ev_c, ev_nil, List.getElem?_cons_zero, Option.bind_some, Option.map_some, List.length_cons, List.length_nil, Nat.zero_add, Nat.reduceAdd, ↓reduceIte, e']
end K09
open PySem PySem.W PyProof.Rows
set_option maxRecDepth 100000 in
set_option maxHeartbeats 0 in
theorem PySem.Challenge.cw_amendwarrant_k09_whole_all_rates_by_part_holds : PySem.Challenge.rw_amendwarrant_k09_whole_all_rates_by_part.Holds := by
  w_on; o_law; k_head; (case hw => w_witness2)
  k_fill
  refine L2.walk_of (l := PySem.Challenge.rw_amendwarrant_k09_whole_all_rates_by_part) (n := 63) (k := 4) (x := "script") (CX := fun _ => L2.CX0) (sp := fun w => Pd.spLaw _) rfl (by decide) rfl ⟨rfl, by decide, by decide⟩ (fun w h Y => PySem.W.kIn_of Y) ?F (fun _ _ a ns hl _ hS => ⟨a, ns, rfl, hS, hl, fun _ => rfl⟩) (fun _ _ _ _ _ h => h)
  case F =>
    intro w mg fa h KX G hmg
    refine' K09.all_mk K09.plain KX G hmg ?a1 ?l1 ?c1 ?k1 ?a2 ?l2 ?c2 ?k2 ?a3 ?l3 ?c3 ?k3 ?a4 ?l4 ?c4 ?k4 ?a5 ?l5 ?c5 ?k5 ?a6 ?l6 ?c6 ?k6 ?a7 ?l7 ?c7 ?k7 ?a8 ?l8 ?c8 ?k8 ?a9 ?l9 ?c9 ?k9 ?a10 ?l10 ?c10 ?k10 ?a11 ?l11 ?c11 ?k11 ?a12 ?l12 ?c12 ?k12 ?a13 ?l13 ?c13 ?k13 ?a14 ?l14 ?c14 ?k14 ?a15 ?l15 ?c15 ?k15 ?z1 ?z2 ?z3 ?z4 ?z5 ?z6 ?z7 ?z8 ?z9 ?z10 ?z11 ?z12
    (case a1 => k_is); (case l1 => k_is); (case c1 => k_is); (case k1 => k_is); (case a2 => k_is); (case l2 => k_is); (case c2 => k_is); (case k2 => k_is); (case a3 => k_is); (case l3 => k_is); (case c3 => k_is); (case k3 => k_is); (case a4 => k_is); (case l4 => k_is); (case c4 => k_is); (case k4 => k_is); (case a5 => k_is); (case l5 => k_is); (case c5 => k_is); (case k5 => k_is); (case a6 => k_is); (case l6 => k_is); (case c6 => k_is); (case k6 => k_is); (case a7 => k_is); (case l7 => k_is); (case c7 => k_is); (case k7 => k_is); (case a8 => k_is); (case l8 => k_is); (case c8 => k_is); (case k8 => k_is); (case a9 => k_is); (case l9 => k_is); (case c9 => k_is); (case k9 => k_is); (case a10 => k_is); (case l10 => k_is); (case c10 => k_is); (case k10 => k_is); (case a11 => k_is); (case l11 => k_is); (case c11 => k_is); (case k11 => k_is); (case a12 => k_is); (case l12 => k_is); (case c12 => k_is); (case k12 => k_is); (case a13 => k_is); (case l13 => k_is); (case c13 => k_is); (case k13 => k_is); (case a14 => k_is); (case l14 => k_is); (case c14 => k_is); (case k14 => k_is); (case a15 => k_is); (case l15 => k_is); (case c15 => k_is); (case k15 => k_is); (case z1 => k_is); (case z2 => k_is); (case z3 => k_is); (case z4 => k_is); (case z5 => k_is); (case z6 => k_is); (case z7 => k_is); (case z8 => k_is); (case z9 => k_is); (case z10 => k_is); (case z11 => k_is); (case z12 => k_is)
