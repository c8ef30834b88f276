import PyProof.Rows.All
import Wide.All
import OpenK.AllK
import Wide.FinOn
import HandS.Conv
import HandS.Deep
import HandS.EndBits
import HandS.Exc
import HandS.Flow
import HandS.ForMost
import HandS.NoneIn
import HandS.RevRange
import HandS.TupAny
import HandS.Walk
import HandS.Wide
import HandS.WordsExc
import PySem.Challenge.RW_copperline_k13_prices_add_up
set_option Elab.async false
set_option linter.all false
set_option maxRecDepth 100000
set_option maxHeartbeats 4000000
/-! The symbolic layer: data trees and owned cells over the hand layer's readings. -/
namespace Sy
open PySem L2

/-- data: a tree that nobody changes; ptr: the address of an owned cell -/
inductive Dat where
  | non | bl (b : Bool) | int (i : Int) | str (x : Str)
  | tup (ds : List Dat) | lst (ds : List Dat) | scr (ds : List Dat)
  | obj (C : Addr) (ns : List Str) (ds : List Dat)
  | dic (ks : List Key) (ds : List Dat)
  | ptr (a : Addr)

mutual
inductive Da (K : PySem.W.Frag) (H : Hp) : V → Dat → Prop
  | non : Da K H .non .non
  | bl (b : Bool) : Da K H (.bl b) (.bl b)
  | int (i : Int) : Da K H (.int i) (.int i)
  | str (x : Str) : Da K H (.str x) (.str x)
  | tup {a : Addr} {xs : List V} {ds : List Dat} : SqT K H a xs → DaL K H xs ds → Da K H (.ref a) (.tup ds)
  | lst {a : Addr} {xs : List V} {ds : List Dat} : H a = some (.lst xs) → DaL K H xs ds → Da K H (.ref a) (.lst ds)
  | scr {a : Addr} {xs : List V} {ds : List Dat} : SqL K H a xs → DaL K H xs ds → Da K H (.ref a) (.scr ds)
  | obj {a C dx : Addr} {gs : List (Str × V)} {ns : List Str} {ds : List Dat} : H a = some (.ins C dx gs) → gs.map (·.1) = ns → DaL K H (gs.map (·.2)) ds → Da K H (.ref a) (.obj C ns ds)
  | dic {a : Addr} {kvs : List (Key × V)} {ks : List Key} {ds : List Dat} : Rd H a (.dK kvs) → kvs.map (·.1) = ks → DaL K H (kvs.map (·.2)) ds → Da K H (.ref a) (.dic ks ds)
  | ptr (a : Addr) : Da K H (.ref a) (.ptr a)
inductive DaL (K : PySem.W.Frag) (H : Hp) : List V → List Dat → Prop
  | nil : DaL K H [] []
  | cons {v : V} {d : Dat} {vs : List V} {ds : List Dat} : Da K H v d → DaL K H vs ds → DaL K H (v :: vs) (d :: ds)
end

theorem sq_l {K : PySem.W.Frag} {H H' : Hp} {a : Addr} {xs : List V} (e : Same H H') (h : SqL K H a xs) : SqL K H' a xs := e.seq h
theorem sq_t {K : PySem.W.Frag} {H H' : Hp} {a : Addr} {xs : List V} (e : Same H H') (h : SqT K H a xs) : SqT K H' a xs := by
  rcases h with (h | ⟨o, h⟩) | h
  · exact .inl (.inl (e _ _ h))
  · exact .inl (.inr ⟨o, e _ _ h⟩)
  · exact .inr h
theorem sq_rd {H H' : Hp} {a : Addr} {u : HO} (e : Same H H') (h : Rd H a u) : Rd H' a u := by
  rcases h with h | ⟨o, h⟩
  · exact .inl (e _ _ h)
  · exact .inr ⟨o, e _ _ h⟩
mutual
theorem Da.mono {K : PySem.W.Frag} {H H' : Hp} (e : Same H H') : ∀ {v : V} {d : Dat}, Da K H v d → Da K H' v d
  | _, _, .non => .non
  | _, _, .bl b => .bl b
  | _, _, .int i => .int i
  | _, _, .str x => .str x
  | _, _, .tup h l => .tup (sq_t e h) (DaL.mono e l)
  | _, _, .lst h l => .lst (e _ _ h) (DaL.mono e l)
  | _, _, .scr h l => .scr (sq_l e h) (DaL.mono e l)
  | _, _, .obj h n l => .obj (e _ _ h) n (DaL.mono e l)
  | _, _, .dic h n l => .dic (sq_rd e h) n (DaL.mono e l)
  | _, _, .ptr a => .ptr a
theorem DaL.mono {K : PySem.W.Frag} {H H' : Hp} (e : Same H H') : ∀ {vs : List V} {ds : List Dat}, DaL K H vs ds → DaL K H' vs ds
  | _, _, .nil => .nil
  | _, _, .cons h t => .cons (Da.mono e h) (DaL.mono e t)
end
section
variable {K : PySem.W.Frag} {H : Hp}
theorem DaL.length : ∀ {vs : List V} {ds : List Dat}, DaL K H vs ds → vs.length = ds.length
  | _, _, .nil => rfl
  | _, _, .cons _ t => by rw [List.length_cons, List.length_cons, DaL.length t]
theorem DaL.get : ∀ {vs : List V} {ds : List Dat} {i : Nat} {d : Dat}, DaL K H vs ds → ds[i]? = some d → ∃ v, vs[i]? = some v ∧ Da K H v d
  | _, _, _, _, .nil, e => by simp at e
  | _, _, 0, _, .cons h _, e => by simp at e; subst e; exact ⟨_, rfl, h⟩
  | _, _, i + 1, d, .cons _ t, e => by
    obtain ⟨v, e1, h⟩ := DaL.get (i := i) (d := d) t (by simpa using e)
    exact ⟨v, by simpa using e1, h⟩
theorem DaL.getV : ∀ {vs : List V} {ds : List Dat} {i : Nat} {v : V}, DaL K H vs ds → vs[i]? = some v → ∃ d, ds[i]? = some d ∧ Da K H v d
  | _, _, _, _, .nil, e => by simp at e
  | _, _, 0, _, .cons h _, e => by simp at e; subst e; exact ⟨_, rfl, h⟩
  | _, _, i + 1, d, .cons _ t, e => by
    obtain ⟨v, e1, h⟩ := DaL.getV (i := i) (v := d) t (by simpa using e)
    exact ⟨v, by simpa using e1, h⟩
theorem DaL.append : ∀ {vs us : List V} {ds es : List Dat}, DaL K H vs ds → DaL K H us es → DaL K H (vs ++ us) (ds ++ es)
  | _, _, _, _, .nil, h => h
  | _, _, _, _, .cons h t, g => .cons h (DaL.append t g)
theorem DaL.take : ∀ {vs : List V} {ds : List Dat} (n : Nat), DaL K H vs ds → DaL K H (vs.take n) (ds.take n)
  | _, _, 0, _ => .nil
  | _, _, _ + 1, .nil => .nil
  | _, _, n + 1, .cons h t => .cons h (DaL.take n t)
theorem DaL.drop : ∀ {vs : List V} {ds : List Dat} (n : Nat), DaL K H vs ds → DaL K H (vs.drop n) (ds.drop n)
  | _, _, 0, h => h
  | _, _, _ + 1, .nil => .nil
  | _, _, n + 1, .cons _ t => DaL.drop n t
theorem DaL.set {v : V} {d : Dat} (h : Da K H v d) : ∀ {vs : List V} {ds : List Dat} (i : Nat), DaL K H vs ds → DaL K H (vs.set i v) (ds.set i d)
  | _, _, _, .nil => .nil
  | _, _, 0, .cons _ t => .cons h t
  | _, _, i + 1, .cons q t => .cons q (DaL.set h i t)
theorem DaL.reverse {vs : List V} {ds : List Dat} (h : DaL K H vs ds) : DaL K H vs.reverse ds.reverse := by
  induction vs generalizing ds with
  | nil => cases h; exact .nil
  | cons v vs ih =>
    cases h with
    | cons a b =>
      rw [List.reverse_cons, List.reverse_cons]
      exact (ih b).append (.cons a .nil)
theorem DaL.ints : ∀ {vs : List V} {ns : List Int}, DaL K H vs (ns.map Dat.int) → vs = ns.map V.int
  | [], [], _ => rfl
  | [], _ :: _, h => by cases h
  | _ :: _, [], h => by cases h
  | _ :: _, n :: ns, .cons a b => by cases a; rw [DaL.ints b]; rfl
theorem DaL.strs : ∀ {vs : List V} {ns : List Str}, DaL K H vs (ns.map Dat.str) → vs = ns.map V.str
  | [], [], _ => rfl
  | [], _ :: _, h => by cases h
  | _ :: _, [], h => by cases h
  | _ :: _, n :: ns, .cons a b => by cases a; rw [DaL.strs b]; rfl
theorem DaL.bools : ∀ {vs : List V} {ns : List Bool}, DaL K H vs (ns.map Dat.bl) → vs = ns.map V.bl
  | [], [], _ => rfl
  | [], _ :: _, h => by cases h
  | _ :: _, [], h => by cases h
  | _ :: _, n :: ns, .cons a b => by cases a; rw [DaL.bools b]; rfl
theorem daL_ints : ∀ (ns : List Int), DaL K H (ns.map V.int) (ns.map Dat.int)
  | [] => .nil
  | n :: ns => .cons (.int n) (daL_ints ns)
end

/-! ### owned cells -/
/-- the numbers of the laws' drawing: what the two items of its state may be -/
def rB : Nat := 1048700
def RngOk (x y : Int) : Prop := 0 ≤ x ∧ x.natAbs < 2 ^ rB ∧ 0 ≤ y ∧ y.natAbs < 2 ^ rB

/-- the place of a name -/
def fidx : List Str → Str → Option Nat
  | [], _ => none
  | n :: ns, f => if n = f then some 0 else (fidx ns f).map (· + 1)

inductive Cell where
  | lst (ds : List Dat)
  | dK (ks : List Key) (ds : List Dat)
  | dT (ks : List (List Key)) (ds : List Dat)
  | ins (C : Addr) (ns : List Str) (ds : List Dat)
  | xd (ns : List Str) (ds : List Dat)
  | rng
abbrev Own := List (Addr × Cell)
abbrev SL := List (Option Dat)

/-- what is seen: neither the frame (F: hidden, kept as it is) nor the owned cells -/
def vis (F : Hp) (own : Own) (H : Hp) : Hp := fun b => if (F b).isSome = true ∨ b ∈ own.map (·.1) then none else H b

inductive CellOk (K : PySem.W.Frag) (W H : Hp) (a : Addr) : Cell → Prop
  | lst {vs : List V} {ds : List Dat} : H a = some (.lst vs) → DaL K W vs ds → CellOk K W H a (.lst ds)
  | dK {kws : List (Key × V)} {ks : List Key} {ds : List Dat} : H a = some (.dK kws) → kws.map (·.1) = ks → ks.Nodup → DaL K W (kws.map (·.2)) ds → CellOk K W H a (.dK ks ds)
  | dT {kws : List (List Key × V)} {ks : List (List Key)} {ds : List Dat} : H a = some (.dT kws) → kws.map (·.1) = ks → ks.Nodup → DaL K W (kws.map (·.2)) ds → CellOk K W H a (.dT ks ds)
  | ins {C dx : Addr} {gs : List (Str × V)} {ns : List Str} {ds : List Dat} : H a = some (.ins C dx gs) → gs.map (·.1) = ns → DaL K W (gs.map (·.2)) ds → CellOk K W H a (.ins C ns ds)
  | xd {gs : List (Str × V)} {ns : List Str} {ds : List Dat} : H a = some (.xd gs) → gs.map (·.1) = ns → DaL K W (gs.map (·.2)) ds → CellOk K W H a (.xd ns ds)
  | rng {x y : Int} : H a = some (.lst [.int x, .int y]) → RngOk x y → CellOk K W H a .rng

section
variable {K : PySem.W.Frag} {F W W' V0 H H' : Hp} {a : Addr} {c c' : Cell} {own l r : Own}
theorem CellOk.there (h : CellOk K W H a c) : ∃ o, H a = some o := by cases h <;> exact ⟨_, by assumption⟩
theorem CellOk.stay (h : CellOk K W H a c) (e : Same W W') (q : H' a = H a) : CellOk K W' H' a c := by
  cases h with
  | lst h t => exact .lst (q.trans h) (t.mono e)
  | dK h n u t => exact .dK (q.trans h) n u (t.mono e)
  | dT h n u t => exact .dT (q.trans h) n u (t.mono e)
  | ins h n t => exact .ins (q.trans h) n (t.mono e)
  | xd h n t => exact .xd (q.trans h) n (t.mono e)
  | rng h z => exact .rng (q.trans h) z
structure Hs (K : PySem.W.Frag) (F V0 H : Hp) (own : Own) : Prop where
  nd : (own.map (·.1)).Nodup
  cell : ∀ p ∈ own, CellOk K (vis F own H) H p.1 p.2
  mo : Same V0 (vis F own H)
  fr : Same F H
  out : ∀ p ∈ own, F p.1 = none
theorem vis_sub : Same (vis F own H) H := fun b o e => by
  unfold vis at e
  split at e
  · cases e
  · exact e
theorem Hs.thr (h : Hs K F V0 H own) (ha : a ∈ own.map (·.1)) : ∃ o, H a = some o := by
  obtain ⟨p, hp, rfl⟩ := List.mem_map.mp ha
  exact (h.cell p hp).there
theorem fresh_own (hs : Hs K F V0 H own) (hp : H a = none) : a ∉ own.map (·.1) := fun z => by obtain ⟨u, hu⟩ := hs.thr z; rw [hp] at hu; cases hu
theorem fresh_fr (hs : Hs K F V0 H own) (hp : H a = none) : F a = none := hs.fr.free hp
theorem vis_grow (h : Hs K F V0 H own) (e : Same H H') : Same (vis F own H) (vis F own H') := fun b o q => by
  unfold vis at q ⊢
  by_cases hb : (F b).isSome = true ∨ b ∈ own.map (·.1)
  · rw [if_pos hb] at q; cases q
  · rw [if_neg hb] at q ⊢; exact e _ _ q
/-- a new object that stays as it is, seen -/
theorem vis_at {o : HO} (hs : Hs K F V0 H own) (hp : H a = none) : vis F own (upd H a o) a = some o := by
  unfold vis
  rw [if_neg, upd_same]
  rintro (z | z)
  · rw [fresh_fr hs hp] at z; cases z
  · exact fresh_own hs hp z
/-- what was tracked stands as it was -/
theorem Hs.grow (h : Hs K F V0 H own) (e : Same H H') : Hs K F V0 H' own := by
  have g := vis_grow h e
  refine ⟨h.nd, fun p hp => ?_, h.mo.trans g, h.fr.trans e, h.out⟩
  have c := h.cell p hp
  obtain ⟨o, ho⟩ := c.there
  exact c.stay g ((e _ _ ho).trans ho.symm)
theorem Hs.from (h : Hs K F V0 H own) {V1 : Hp} (e : Same V1 V0) : Hs K F V1 H own := ⟨h.nd, h.cell, e.trans h.mo, h.fr, h.out⟩
theorem Hs.now (h : Hs K F V0 H own) : Hs K F (vis F own H) H own := ⟨h.nd, h.cell, Same.refl _, h.fr, h.out⟩
/-- a new owned cell -/
theorem vis_new {o : HO} (hs : Hs K F V0 H own) (hn : H a = none) : vis F ((a, c) :: own) (upd H a o) = vis F own H := by
  funext b
  unfold vis
  rw [List.map_cons]
  by_cases hb : b = a
  · subst hb
    rw [if_pos (.inr List.mem_cons_self), if_neg]
    · exact hn.symm
    · rintro (z | z)
      · rw [fresh_fr hs hn] at z; cases z
      · exact fresh_own hs hn z
  · have e : (b ∈ (a, c).1 :: own.map (·.1)) ↔ b ∈ own.map (·.1) := by
      rw [List.mem_cons]
      exact ⟨fun z => z.elim (fun q => absurd q hb) id, .inr⟩
    by_cases hm : (F b).isSome = true ∨ b ∈ own.map (·.1)
    · rw [if_pos hm, if_pos (hm.imp id e.mpr)]
    · rw [if_neg hm, if_neg (fun z => hm (z.imp id e.mp)), upd_ne hb]
theorem Hs.new {o : HO} (h : Hs K F V0 H own) (hn : H a = none) (hc : CellOk K (vis F own H) (upd H a o) a c) : Hs K F V0 (upd H a o) ((a, c) :: own) := by
  have hna := fresh_own h hn
  refine ⟨List.nodup_cons.mpr ⟨hna, h.nd⟩, fun p hp => ?_, ?_, h.fr.trans (fun b u e => by rw [upd_ne (ne_of_none e hn)]; exact e), fun p hp => ?_⟩
  · rw [vis_new h hn]
    rcases List.mem_cons.mp hp with rfl | hp
    · exact hc
    · refine (h.cell p hp).stay (Same.refl _) (upd_ne fun z => hna ?_)
      rw [← z]
      exact List.mem_map.mpr ⟨p, hp, rfl⟩
  · rw [vis_new h hn]; exact h.mo
  · rcases List.mem_cons.mp hp with rfl | hp
    · exact fresh_fr h hn
    · exact h.out p hp
/-- an owned cell is written -/
theorem vis_put {o : HO} : vis F (l ++ (a, c') :: r) (upd H a o) = vis F (l ++ (a, c) :: r) H := by
  funext b
  unfold vis
  have e : (l ++ (a, c') :: r).map (·.1) = (l ++ (a, c) :: r).map (·.1) := by simp
  rw [e]
  split
  · rfl
  · next h => rw [upd_ne fun z => h (.inr (by subst z; simp))]
theorem Hs.put {o : HO} (h : Hs K F V0 H (l ++ (a, c) :: r)) (hc : CellOk K (vis F (l ++ (a, c) :: r) H) (upd H a o) a c') : Hs K F V0 (upd H a o) (l ++ (a, c') :: r) := by
  have nd := h.nd
  rw [List.map_append, List.map_cons, List.nodup_append] at nd
  obtain ⟨n1, n2, n3⟩ := nd
  obtain ⟨n4, n5⟩ := List.nodup_cons.mp n2
  have mid : (a, c) ∈ l ++ (a, c) :: r := List.mem_append_right _ List.mem_cons_self
  refine ⟨?_, fun p hp => ?_, ?_, fun b u e => ?_, fun p hp => ?_⟩
  · have e : (l ++ (a, c') :: r).map (·.1) = (l ++ (a, c) :: r).map (·.1) := by simp
    rw [e]; exact h.nd
  · rw [vis_put (c := c)]
    rcases List.mem_append.mp hp with hp | hp
    · exact (h.cell p (List.mem_append_left _ hp)).stay (Same.refl _) (upd_ne (n3 _ (List.mem_map.mpr ⟨p, hp, rfl⟩) _ List.mem_cons_self))
    · rcases List.mem_cons.mp hp with rfl | hp
      · exact hc
      · exact (h.cell p (List.mem_append_right _ (List.mem_cons_of_mem _ hp))).stay (Same.refl _) (upd_ne fun z => n4 (by rw [← z]; exact List.mem_map.mpr ⟨p, hp, rfl⟩))
  · rw [vis_put (c := c)]; exact h.mo
  · rw [upd_ne fun z => ?_]
    · exact h.fr b u e
    · have q := h.out _ mid
      rw [z] at e
      rw [q] at e; cases e
  · rcases List.mem_append.mp hp with hp | hp
    · exact h.out p (List.mem_append_left _ hp)
    · rcases List.mem_cons.mp hp with rfl | hp
      · show F a = none
        exact h.out (a, c) mid
      · exact h.out p (List.mem_append_right _ (List.mem_cons_of_mem _ hp))
/-- what a cell's description says may be told otherwise -/
theorem Hs.retell (h : Hs K F V0 H (l ++ (a, c) :: r)) (hc : ∀ W, CellOk K W H a c → CellOk K W H a c') : Hs K F V0 H (l ++ (a, c') :: r) := by
  have q := h.put (o := (h.cell _ (List.mem_append_right _ List.mem_cons_self)).there.choose) (c' := c') (by
    have s := (h.cell _ (List.mem_append_right _ List.mem_cons_self)).there.choose_spec
    refine (hc _ (h.cell _ (List.mem_append_right _ List.mem_cons_self))).stay (Same.refl _) ?_
    rw [upd_same]; exact s.symm)
  have s := (h.cell _ (List.mem_append_right _ List.mem_cons_self)).there.choose_spec
  rwa [show upd H a (h.cell _ (List.mem_append_right _ List.mem_cons_self)).there.choose = H from by
    funext b
    unfold upd
    split
    · next e => rw [e]; exact s.symm
    · rfl] at q
theorem vis_retell : vis F (l ++ (a, c') :: r) H = vis F (l ++ (a, c) :: r) H := by
  funext b
  unfold vis
  have e : (l ++ (a, c') :: r).map (·.1) = (l ++ (a, c) :: r).map (·.1) := by simp
  rw [e]
/-- a cell is owned no more -/
theorem vis_drop : Same (vis F (l ++ (a, c) :: r) H) (vis F (l ++ r) H) := fun b o e => by
  unfold vis at e ⊢
  split at e
  · cases e
  · next hm =>
    rw [if_neg fun z => hm ?_]
    · exact e
    · refine z.imp id fun z => ?_
      rw [List.map_append, List.mem_append] at z ⊢
      exact z.imp id fun q => List.mem_cons_of_mem _ q
theorem Hs.drop (h : Hs K F V0 H (l ++ (a, c) :: r)) : Hs K F V0 H (l ++ r) := by
  have nd := h.nd
  rw [List.map_append, List.map_cons, List.nodup_append] at nd
  obtain ⟨n1, n2, n3⟩ := nd
  obtain ⟨n4, n5⟩ := List.nodup_cons.mp n2
  have sub : ∀ p, p ∈ l ++ r → p ∈ l ++ (a, c) :: r := fun p hp => by
    rcases List.mem_append.mp hp with hp | hp
    · exact List.mem_append_left _ hp
    · exact List.mem_append_right _ (List.mem_cons_of_mem _ hp)
  refine ⟨?_, fun p hp => (h.cell p (sub p hp)).stay vis_drop rfl, h.mo.trans vis_drop, h.fr, fun p hp => h.out p (sub p hp)⟩
  rw [List.map_append, List.nodup_append]
  exact ⟨n1, n5, fun x hx y hy => n3 x hx y (List.mem_cons_of_mem _ hy)⟩
theorem Hs.drop_vis (h : Hs K F V0 H (l ++ (a, c) :: r)) : vis F (l ++ r) H a = H a := by
  have nd := h.nd
  rw [List.map_append, List.map_cons, List.nodup_append] at nd
  obtain ⟨n1, n2, n3⟩ := nd
  unfold vis
  rw [if_neg]
  rintro (z | z)
  · have q := h.out _ (List.mem_append_right l (List.mem_cons_self (a := (a, c)) (l := r)))
    rw [q] at z; cases z
  · rw [List.map_append, List.mem_append] at z
    rcases z with z | z
    · exact n3 _ z _ List.mem_cons_self rfl
    · exact (List.nodup_cons.mp n2).1 z
/-- a cell goes into the frame, and comes back -/
theorem vis_frame {o : HO} : vis (upd F a o) own H = vis F ((a, c) :: own) H := by
  funext b
  unfold vis
  rw [List.map_cons]
  by_cases hb : b = a
  · subst hb
    rw [if_pos (.inl (by rw [upd_same]; rfl)), if_pos (.inr List.mem_cons_self)]
  · rw [upd_ne hb]
    have e : (b ∈ (a, c).1 :: own.map (·.1)) ↔ b ∈ own.map (·.1) := by
      rw [List.mem_cons]
      exact ⟨fun z => z.elim (fun q => absurd q hb) id, .inr⟩
    by_cases hm : (F b).isSome = true ∨ b ∈ own.map (·.1)
    · rw [if_pos hm, if_pos (hm.imp id e.mpr)]
    · rw [if_neg hm, if_neg fun z => hm (z.imp id e.mp)]
theorem Hs.hide {o : HO} (h : Hs K F V0 H ((a, c) :: own)) (ho : H a = some o) : Hs K (upd F a o) V0 H own := by
  obtain ⟨n1, n2⟩ := List.nodup_cons.mp h.nd
  refine ⟨n2, fun p hp => ?_, ?_, fun b u e => ?_, fun p hp => ?_⟩
  · rw [vis_frame (c := c)]; exact h.cell p (List.mem_cons_of_mem _ hp)
  · rw [vis_frame (c := c)]; exact h.mo
  · by_cases hb : b = a
    · subst hb; rw [upd_same] at e; cases e; exact ho
    · rw [upd_ne hb] at e; exact h.fr b u e
  · rw [upd_ne fun z => n1 (by rw [← z]; exact List.mem_map.mpr ⟨p, hp, rfl⟩)]; exact h.out p (List.mem_cons_of_mem _ hp)
theorem Hs.back {o : HO} (h : Hs K (upd F a o) V0 H own) (hf : F a = none) (hc : CellOk K (vis (upd F a o) own H) H a c) : Hs K F V0 H ((a, c) :: own) := by
  have n1 : a ∉ own.map (·.1) := fun z => by
    obtain ⟨p, hp, rfl⟩ := List.mem_map.mp z
    have q := h.out p hp
    rw [upd_same] at q; cases q
  rw [vis_frame (c := c)] at hc
  refine ⟨List.nodup_cons.mpr ⟨n1, h.nd⟩, fun p hp => ?_, by rw [← vis_frame (o := o)]; exact h.mo, fun b u e => h.fr b u ?_, fun p hp => ?_⟩
  · rcases List.mem_cons.mp hp with rfl | hp
    · exact hc
    · rw [← vis_frame (o := o)]; exact h.cell p hp
  · rw [upd_ne (ne_of_none e hf)]; exact e
  · rcases List.mem_cons.mp hp with rfl | hp
    · exact hf
    · have q := h.out p hp
      rwa [upd_ne fun z => n1 (by rw [← z]; exact List.mem_map.mpr ⟨p, hp, rfl⟩)] at q
end

/-! ### slots -/
def Sl (K : PySem.W.Frag) (W : Hp) (σ : L2.St) (sl : SL) : Prop := σ.length = sl.length ∧ ∀ (i : Nat) (d : Dat), sl[i]? = some (some d) → ∃ v, σ[i]? = some (some v) ∧ Da K W v d
section
variable {K : PySem.W.Frag} {W W' : Hp} {σ : L2.St} {sl : SL} {v : V} {d : Dat}
theorem Sl.mono (h : Sl K W σ sl) (e : Same W W') : Sl K W' σ sl := ⟨h.1, fun i d q => let ⟨v, a, b⟩ := h.2 i d q; ⟨v, a, b.mono e⟩⟩
theorem Sl.set (h : Sl K W σ sl) (i : Nat) (hd : Da K W v d) : Sl K W (σ.set i (some v)) (sl.set i (some d)) := by
  refine ⟨by rw [List.length_set, List.length_set, h.1], fun j e q => ?_⟩
  by_cases hj : i = j
  · subst hj
    by_cases hl : i < sl.length
    · rw [List.getElem?_set_self hl] at q
      cases q
      exact ⟨v, by rw [List.getElem?_set_self (by rw [h.1]; exact hl)], hd⟩
    · rw [List.getElem?_eq_none (by rw [List.length_set]; omega)] at q; cases q
  · rw [List.getElem?_set_ne hj] at q ⊢
    exact h.2 j e q
theorem Sl.unset (h : Sl K W σ sl) (i : Nat) (u : Option V) : Sl K W (σ.set i u) (sl.set i none) := by
  refine ⟨by rw [List.length_set, List.length_set, h.1], fun j e q => ?_⟩
  by_cases hj : i = j
  · subst hj
    by_cases hl : i < sl.length
    · rw [List.getElem?_set_self hl] at q; cases q
    · rw [List.getElem?_eq_none (by rw [List.length_set]; omega)] at q; cases q
  · rw [List.getElem?_set_ne hj] at q ⊢
    exact h.2 j e q
end

/-! ### what an expression does, over data -/
abbrev PD := Dat → Own → Prop
def EX (K : PySem.W.Frag) (te : TE) (sl : SL) (own : Own) (P : PD) : Prop := ∀ (F V0 : Hp) (σ : L2.St) (H : Hp), Hs K F V0 H own → Sl K (vis F own H) σ sl →
  ∀ Q : VK, (∀ v H' d own', Hs K F V0 H' own' → Same (vis F own H) (vis F own' H') → Da K (vis F own' H') v d → P d own' → Q v H') → te σ H Q
def TX (K : PySem.W.Frag) (tt : TT) (sl : SL) (own : Own) (P : Bool → Own → Prop) : Prop := ∀ (F V0 : Hp) (σ : L2.St) (H : Hp), Hs K F V0 H own → Sl K (vis F own H) σ sl →
  ∀ Q : Bool → Hp → Prop, (∀ b H' own', Hs K F V0 H' own' → Same (vis F own H) (vis F own' H') → P b own' → Q b H') → tt σ H Q
def AX (K : PySem.W.Frag) (ta : TA) (sl : SL) (own : Own) (P : List Dat → Own → Prop) : Prop := ∀ (F V0 : Hp) (σ : L2.St) (H : Hp), Hs K F V0 H own → Sl K (vis F own H) σ sl →
  ∀ Q : List V → Hp → Prop, (∀ vs H' ds own', Hs K F V0 H' own' → Same (vis F own H) (vis F own' H') → DaL K (vis F own' H') vs ds → P ds own' → Q vs H') → ta σ H Q
def OX (K : PySem.W.Frag) (to : TO) (sl : SL) (own : Own) (P : Option Int → Own → Prop) : Prop := ∀ (F V0 : Hp) (σ : L2.St) (H : Hp), Hs K F V0 H own → Sl K (vis F own H) σ sl →
  ∀ Q : Option Int → Hp → Prop, (∀ o H' own', Hs K F V0 H' own' → Same (vis F own H) (vis F own' H') → P o own' → Q o H') → to σ H Q
/-- two values, one value, a list of values -/
def R2X (K : PySem.W.Frag) (r : R2) (d e : Dat) (own : Own) (P : PD) : Prop := ∀ (F V0 H : Hp) (x y : V), Hs K F V0 H own → Da K (vis F own H) x d → Da K (vis F own H) y e →
  ∀ Q : VK, (∀ v H' d own', Hs K F V0 H' own' → Same (vis F own H) (vis F own' H') → Da K (vis F own' H') v d → P d own' → Q v H') → r x y H Q
def R1X (K : PySem.W.Frag) (r : V → Hp → VK → Prop) (d : Dat) (own : Own) (P : PD) : Prop := ∀ (F V0 H : Hp) (x : V), Hs K F V0 H own → Da K (vis F own H) x d →
  ∀ Q : VK, (∀ v H' d own', Hs K F V0 H' own' → Same (vis F own H) (vis F own' H') → Da K (vis F own' H') v d → P d own' → Q v H') → r x H Q
def RLX (K : PySem.W.Frag) (r : List V → Hp → VK → Prop) (ds : List Dat) (own : Own) (P : PD) : Prop := ∀ (F V0 H : Hp) (xs : List V), Hs K F V0 H own → DaL K (vis F own H) xs ds →
  ∀ Q : VK, (∀ v H' d own', Hs K F V0 H' own' → Same (vis F own H) (vis F own' H') → Da K (vis F own' H') v d → P d own' → Q v H') → r xs H Q
def RMX (K : PySem.W.Frag) (r : V → List V → Hp → VK → Prop) (d : Dat) (ds : List Dat) (own : Own) (P : PD) : Prop := ∀ (F V0 H : Hp) (x : V) (xs : List V), Hs K F V0 H own → Da K (vis F own H) x d → DaL K (vis F own H) xs ds →
  ∀ Q : VK, (∀ v H' d own', Hs K F V0 H' own' → Same (vis F own H) (vis F own' H') → Da K (vis F own' H') v d → P d own' → Q v H') → r x xs H Q

section
variable {K : PySem.W.Frag} {sl : SL} {own : Own} {P : PD} {ta tb te : TE} {d e : Dat}
theorem ex_var {i : Nat} (h : sl[i]? = some (some d)) (p : P d own) : EX K (tVar i) sl own P := fun F V0 σ H hs hl Q q => by
  obtain ⟨v, e, hd⟩ := hl.2 i d h
  exact ⟨v, e, q v H d own hs (Same.refl _) hd p⟩
theorem ex_int {i : Int} (p : P (.int i) own) : EX K (tC (.int i)) sl own P := fun F V0 σ H hs hl Q q => q _ H _ own hs (Same.refl _) (.int i) p
theorem ex_str {i : Str} (p : P (.str i) own) : EX K (tC (.str i)) sl own P := fun F V0 σ H hs hl Q q => q _ H _ own hs (Same.refl _) (.str i) p
theorem ex_bl {i : Bool} (p : P (.bl i) own) : EX K (tC (.bl i)) sl own P := fun F V0 σ H hs hl Q q => q _ H _ own hs (Same.refl _) (.bl i) p
theorem ex_non (p : P .non own) : EX K (tC .non) sl own P := fun F V0 σ H hs hl Q q => q _ H _ own hs (Same.refl _) .non p
/-- a constant of the module, known as data -/
theorem ex_cst {v : V} (hd : ∀ H, Da K H v d) (p : P d own) : EX K (tC v) sl own P := fun F V0 σ H hs hl Q q => q _ H _ own hs (Same.refl _) (hd _) p
theorem ex_op {r : R2} (h : EX K ta sl own fun x o1 => EX K tb sl o1 fun y o2 => R2X K r x y o2 P) : EX K (tOp r ta tb) sl own P := fun F V0 σ H hs hl Q q => by
  refine h F V0 σ H hs hl _ fun v H1 d1 o1 hs1 e1 hd1 p1 => ?_
  refine p1 F V0 σ H1 hs1 (hl.mono e1) _ fun w H2 d2 o2 hs2 e2 hd2 p2 => ?_
  exact p2 F V0 H2 v w hs2 (hd1.mono e2) hd2 Q fun z H3 d3 o3 hs3 e3 hd3 p3 => q z H3 d3 o3 hs3 ((e1.trans e2).trans e3) hd3 p3
theorem ex_un {r : V → Hp → VK → Prop} (h : EX K ta sl own fun x o1 => R1X K r x o1 P) : EX K (tUn r ta) sl own P := fun F V0 σ H hs hl Q q => by
  refine h F V0 σ H hs hl _ fun v H1 d1 o1 hs1 e1 hd1 p1 => ?_
  exact p1 F V0 H1 v hs1 hd1 Q fun z H3 d3 o3 hs3 e3 hd3 p3 => q z H3 d3 o3 hs3 (e1.trans e3) hd3 p3
theorem ax_nil {P : List Dat → Own → Prop} (p : P [] own) : AX K tNil sl own P := fun F V0 σ H hs hl Q q => q _ H _ own hs (Same.refl _) .nil p
theorem ax_cons {P : List Dat → Own → Prop} {tr : TA} (h : EX K ta sl own fun x o1 => AX K tr sl o1 fun xs o2 => P (x :: xs) o2) : AX K (tCons ta tr) sl own P := fun F V0 σ H hs hl Q q => by
  refine h F V0 σ H hs hl _ fun v H1 d1 o1 hs1 e1 hd1 p1 => ?_
  exact p1 F V0 σ H1 hs1 (hl.mono e1) _ fun w H2 d2 o2 hs2 e2 hd2 p2 => q _ H2 _ o2 hs2 (e1.trans e2) (.cons (hd1.mono e2) hd2) p2
theorem same_new {H : Hp} {p : Addr} {o : HO} (h : H p = none) : Same H (upd H p o) := fun b u e => by rw [upd_ne (ne_of_none e h)]; exact e
/-- a display: a new tuple; a new list that stays as it is; a new list of one's own -/
theorem ex_tup {t : TA} (h : AX K t sl own fun ds o => ds.length ≤ sizeLine ∧ P (.tup ds) o) : EX K (tTup t) sl own P := fun F V0 σ H hs hl Q q => by
  refine h F V0 σ H hs hl _ fun vs H1 ds o1 hs1 e1 hd1 ⟨z, p1⟩ => ⟨by rw [hd1.length]; exact z, fun p hp => ?_⟩
  have e2 := same_new (o := HO.tup vs) hp
  have g := vis_grow hs1 e2
  refine q _ _ _ o1 (hs1.grow e2) (e1.trans g) (.tup (.inl (.inl (vis_at hs1 hp))) (hd1.mono g)) p1
theorem ex_lst {t : TA} (h : AX K t sl own fun ds o => ds.length ≤ sizeLine ∧ P (.lst ds) o) : EX K (tLst t) sl own P := fun F V0 σ H hs hl Q q => by
  refine h F V0 σ H hs hl _ fun vs H1 ds o1 hs1 e1 hd1 ⟨z, p1⟩ => ⟨by rw [hd1.length]; exact z, fun p hp => ?_⟩
  have e2 := same_new (o := HO.lst vs) hp
  have g := vis_grow hs1 e2
  refine q _ _ _ o1 (hs1.grow e2) (e1.trans g) (.lst (vis_at hs1 hp) (hd1.mono g)) p1
theorem ex_lstO {t : TA} (h : AX K t sl own fun ds o => ds.length ≤ sizeLine ∧ ∀ a, a ∉ o.map (·.1) → P (.ptr a) ((a, .lst ds) :: o)) : EX K (tLst t) sl own P := fun F V0 σ H hs hl Q q => by
  refine h F V0 σ H hs hl _ fun vs H1 ds o1 hs1 e1 hd1 ⟨z, p1⟩ => ⟨by rw [hd1.length]; exact z, fun p hp => ?_⟩
  refine q _ _ _ ((p, .lst ds) :: o1) (hs1.new hp (.lst upd_same hd1)) ?_ (.ptr p) (p1 p (fresh_own hs1 hp))
  rw [vis_new hs1 hp]; exact e1
theorem ex_lstR {x y : Int} {t : TA} (h : AX K t sl own fun ds o => ∃ x y, ds = [.int x, .int y] ∧ RngOk x y ∧ ∀ a, a ∉ o.map (·.1) → P (.ptr a) ((a, .rng) :: o)) : EX K (tLst t) sl own P := fun F V0 σ H hs hl Q q => by
  refine h F V0 σ H hs hl _ fun vs H1 ds o1 hs1 e1 hd1 ⟨x, y, e, z, p1⟩ => ?_
  subst e
  cases hd1 with
  | cons h1 t1 => cases t1 with
    | cons h2 t2 =>
      cases t2; cases h1; cases h2
      refine ⟨by show 2 ≤ sizeLine; decide, fun p hp => ?_⟩
      refine q _ _ _ ((p, .rng) :: o1) (hs1.new hp (.rng upd_same z)) ?_ (.ptr p) (p1 p (fresh_own hs1 hp))
      rw [vis_new hs1 hp]; exact e1
end
end Sy
/-! Rules of the symbolic layer. -/
namespace Sy
open PySem L2

/-! ### what reads as a list, a sequence, an object -/
def TrkD (own : Own) (d : Dat) (ds : List Dat) : Prop := d = .lst ds ∨ ∃ a, d = .ptr a ∧ (a, Cell.lst ds) ∈ own
def LstD (own : Own) (d : Dat) (ds : List Dat) : Prop := TrkD own d ds ∨ d = .scr ds
def SeqD (own : Own) (d : Dat) (ds : List Dat) : Prop := LstD own d ds ∨ d = .tup ds
def ObjD (own : Own) (d : Dat) (C : Addr) (ns : List Str) (ds : List Dat) : Prop := d = .obj C ns ds ∨ ∃ a, d = .ptr a ∧ (a, Cell.ins C ns ds) ∈ own
def DicD (own : Own) (d : Dat) (ks : List Key) (ds : List Dat) : Prop := d = .dic ks ds ∨ ∃ a, d = .ptr a ∧ (a, Cell.dK ks ds) ∈ own
section
variable {K : PySem.W.Frag} {F V0 H : Hp} {own : Own} {x : V} {d : Dat} {ds : List Dat} {C : Addr} {ns : List Str}
theorem TrkD.tk (h : TrkD own d ds) (hs : Hs K F V0 H own) (hd : Da K (vis F own H) x d) : ∃ a vs, x = .ref a ∧ H a = some (.lst vs) ∧ DaL K (vis F own H) vs ds := by
  rcases h with rfl | ⟨a, rfl, hm⟩
  · cases hd with
    | lst h l => exact ⟨_, _, rfl, vis_sub _ _ h, l⟩
  · cases hd
    have c := hs.cell _ hm
    cases c with
    | lst h l => exact ⟨_, _, rfl, h, l⟩
theorem LstD.sq (h : LstD own d ds) (hs : Hs K F V0 H own) (hd : Da K (vis F own H) x d) : ∃ a vs, x = .ref a ∧ SqL K H a vs ∧ DaL K (vis F own H) vs ds := by
  rcases h with h | rfl
  · obtain ⟨a, vs, e, q, l⟩ := h.tk hs hd
    exact ⟨a, vs, e, .inl (.inl q), l⟩
  · cases hd with
    | scr h l => exact ⟨_, _, rfl, sq_l vis_sub h, l⟩
theorem SeqD.sq (h : SeqD own d ds) (hs : Hs K F V0 H own) (hd : Da K (vis F own H) x d) : ∃ a vs, x = .ref a ∧ (SqL K H a vs ∨ SqT K H a vs) ∧ DaL K (vis F own H) vs ds := by
  rcases h with h | rfl
  · obtain ⟨a, vs, e, q, l⟩ := h.sq hs hd
    exact ⟨a, vs, e, .inl q, l⟩
  · cases hd with
    | tup h l => exact ⟨_, _, rfl, .inr (sq_t vis_sub h), l⟩
theorem ObjD.ob (h : ObjD own d C ns ds) (hs : Hs K F V0 H own) (hd : Da K (vis F own H) x d) : ∃ a dx gs, x = .ref a ∧ H a = some (.ins C dx gs) ∧ gs.map (·.1) = ns ∧ DaL K (vis F own H) (gs.map (·.2)) ds := by
  rcases h with rfl | ⟨a, rfl, hm⟩
  · cases hd with
    | obj h n l => exact ⟨_, _, _, rfl, vis_sub _ _ h, n, l⟩
  · cases hd
    have c := hs.cell _ hm
    cases c with
    | ins h n l => exact ⟨_, _, _, rfl, h, n, l⟩
theorem DicD.rd {ks : List Key} (h : DicD own d ks ds) (hs : Hs K F V0 H own) (hd : Da K (vis F own H) x d) : ∃ a kvs, x = .ref a ∧ Rd H a (.dK kvs) ∧ kvs.map (·.1) = ks ∧ DaL K (vis F own H) (kvs.map (·.2)) ds := by
  rcases h with rfl | ⟨a, rfl, hm⟩
  · cases hd with
    | dic h n l => exact ⟨_, _, rfl, sq_rd vis_sub h, n, l⟩
  · cases hd
    have c := hs.cell _ hm
    cases c with
    | dK h n u l => exact ⟨_, _, rfl, .inl h, n, l⟩
theorem fidx_some : ∀ {ns : List Str} {f : Str} {i : Nat} {gs : List (Str × V)} {ds : List Dat} {e : Dat} {W : Hp}, fidx ns f = some i → gs.map (·.1) = ns → DaL K W (gs.map (·.2)) ds → ds[i]? = some e → ∃ v, gs.lookup f = some v ∧ Da K W v e
  | [], _, _, _, _, _, _, h, _, _, _ => by simp [fidx] at h
  | n :: ns, f, i, [], _, _, _, _, h, _, _ => by simp at h
  | n :: ns, f, i, (m, v) :: gs, ds, e, W, h, hn, hl, he => by
    rw [List.map_cons] at hn hl
    obtain ⟨rfl, hn2⟩ := List.cons.inj hn
    unfold fidx at h
    cases hl with
    | cons h1 h2 =>
      by_cases q : m = f
      · rw [if_pos q] at h
        cases h
        subst q
        simp at he
        subst he
        exact ⟨v, by rw [List.lookup_cons, beq_self_eq_true], h1⟩
      · rw [if_neg q] at h
        obtain ⟨j, hj, rfl⟩ := Option.map_eq_some_iff.mp h
        obtain ⟨u, e1, e2⟩ := fidx_some hj hn2 h2 (by simpa using he)
        refine ⟨u, ?_, e2⟩
        rw [List.lookup_cons, show (f == m) = false from beq_false_of_ne (Ne.symm q)]
        exact e1
theorem fidx_none : ∀ {ns : List Str} {f : Str} {gs : List (Str × V)}, fidx ns f = none → gs.map (·.1) = ns → gs.lookup f = none
  | [], _, [], _, _ => rfl
  | [], _, _ :: _, _, h => by simp at h
  | n :: ns, _, [], _, h => by simp at h
  | n :: ns, f, (m, v) :: gs, h, hn => by
    rw [List.map_cons] at hn
    obtain ⟨rfl, hn2⟩ := List.cons.inj hn
    unfold fidx at h
    by_cases q : m = f
    · rw [if_pos q] at h; cases h
    · rw [if_neg q] at h
      rw [List.lookup_cons, show (f == m) = false from beq_false_of_ne (Ne.symm q)]
      exact fidx_none (Option.map_eq_none_iff.mp h) hn2
/-- the fields behind a store -/
def putN (ns : List Str) (f : Str) : List Str := match fidx ns f with | some _ => ns | none => ns ++ [f]
def putX (ns : List Str) (f : Str) (ds : List Dat) (e : Dat) : List Dat := match fidx ns f with | some i => ds.set i e | none => ds ++ [e]
theorem putF_ok {W : Hp} {v : V} {e : Dat} (hv : Da K W v e) : ∀ {ns : List Str} {f : Str} {gs : List (Str × V)} {ds : List Dat}, gs.map (·.1) = ns → DaL K W (gs.map (·.2)) ds →
    (putF f v gs).map (·.1) = putN ns f ∧ DaL K W ((putF f v gs).map (·.2)) (putX ns f ds e)
  | _, f, [], ds, hn, hl => by
    rw [List.map_nil] at hn hl
    subst hn
    cases hl
    exact ⟨rfl, .cons hv .nil⟩
  | _, f, (m, u) :: gs, ds, hn, hl => by
    rw [List.map_cons] at hn hl
    subst hn
    cases hl with
    | cons h1 h2 =>
      by_cases q : m = f
      · have e1 : putF f v ((m, u) :: gs) = (m, v) :: gs := by
          show (if m = f then _ else _) = _
          rw [if_pos q]
        rw [e1]
        unfold putN putX fidx
        rw [if_pos q]
        exact ⟨rfl, .cons hv h2⟩
      · have e1 : putF f v ((m, u) :: gs) = (m, u) :: putF f v gs := by
          show (if m = f then _ else _) = _
          rw [if_neg q]
        obtain ⟨i1, i2⟩ := putF_ok hv (ns := gs.map (·.1)) (f := f) rfl h2
        rw [e1, List.map_cons, List.map_cons, i1]
        have e2 : fidx ((m, u).1 :: gs.map (·.1)) f = (fidx (gs.map (·.1)) f).map (· + 1) := by
          show (if m = f then _ else _) = _
          rw [if_neg q]
        unfold putN putX at *
        rw [e2]
        cases r : fidx (gs.map (·.1)) f with
        | none => rw [r] at i2; exact ⟨rfl, .cons h1 i2⟩
        | some j => rw [r] at i2; exact ⟨rfl, .cons h1 i2⟩
end

/-! ### frames: an owned cell that is not touched -/
section
variable {K : PySem.W.Frag} {sl : SL} {own o1 o2 l r : Own} {P : PD} {ta tb te : TE} {d e : Dat}
/-- cells told otherwise -/
def Cl (o o' : Own) : Prop := ∀ (K : PySem.W.Frag) (F V0 H : Hp), Hs K F V0 H o → Hs K F V0 H o' ∧ Same (vis F o H) (vis F o' H)
theorem Cl.refl (o : Own) : Cl o o := fun _ _ _ _ h => ⟨h, Same.refl _⟩
theorem Cl.trans (a : Cl own o1) (b : Cl o1 o2) : Cl own o2 := fun K F V0 H h => let ⟨h1, e1⟩ := a K F V0 H h; let ⟨h2, e2⟩ := b K F V0 H h1; ⟨h2, e1.trans e2⟩
theorem cl_rng {s : Addr} {x y : Int} (z : RngOk x y) : Cl (l ++ (s, .lst [.int x, .int y]) :: r) (l ++ (s, .rng) :: r) := fun K F V0 H h =>
  ⟨h.retell fun W c => by
    cases c with
    | lst h1 t =>
      cases t with
      | cons a t => cases t with
        | cons b t => cases t; cases a; cases b; exact .rng h1 z, by rw [vis_retell (c := .lst [.int x, .int y]) (c' := .rng)]; exact Same.refl _⟩
theorem cl_drop {p : Addr × Cell} : Cl (l ++ p :: r) (l ++ r) := fun K F V0 H h => ⟨h.drop, vis_drop⟩
theorem ex_cl (c : Cl own o1) (h : EX K te sl o1 P) : EX K te sl own P := fun F V0 σ H hs hl Q q => by
  obtain ⟨h1, e1⟩ := c K F V0 H hs
  exact h F V0 σ H h1 (hl.mono e1) Q fun v H' d o' a b => q v H' d o' a (e1.trans b)
/-- the end told otherwise -/
theorem ex_end (h : EX K te sl own fun d o => ∃ o', Cl o o' ∧ P d o') : EX K te sl own P := fun F V0 σ H hs hl Q q => by
  refine h F V0 σ H hs hl Q fun v H' d o' a b hd ⟨o2, c, p⟩ => ?_
  obtain ⟨h1, e1⟩ := c K F V0 H' a
  exact q v H' d o2 h1 (b.trans e1) (hd.mono e1) p
theorem ex_mono {P' : PD} (h : EX K te sl own P') (m : ∀ d o, P' d o → P d o) : EX K te sl own P := fun F V0 σ H hs hl Q q => h F V0 σ H hs hl Q fun v H' d o' a b hd p => q v H' d o' a b hd (m d o' p)
/-- a list of one's own becomes data -/
theorem freeze {a : Addr} {F V0 H : Hp} {ds : List Dat} (h : Hs K F V0 H (l ++ (a, .lst ds) :: r)) : Da K (vis F (l ++ r) H) (.ref a) (.lst ds) := by
  have c := h.cell _ (List.mem_append_right l List.mem_cons_self)
  cases c with
  | lst h1 t => exact .lst (h.drop_vis.trans h1) (t.mono vis_drop)
theorem freezeO {a C : Addr} {F V0 H : Hp} {ns : List Str} {ds : List Dat} (h : Hs K F V0 H (l ++ (a, .ins C ns ds) :: r)) : Da K (vis F (l ++ r) H) (.ref a) (.obj C ns ds) := by
  have c := h.cell _ (List.mem_append_right l List.mem_cons_self)
  cases c with
  | ins h1 n t => exact .obj (h.drop_vis.trans h1) n (t.mono vis_drop)
theorem freezeD {a : Addr} {F V0 H : Hp} {ks : List Key} {ds : List Dat} (h : Hs K F V0 H (l ++ (a, .dK ks ds) :: r)) : Da K (vis F (l ++ r) H) (.ref a) (.dic ks ds) := by
  have c := h.cell _ (List.mem_append_right l List.mem_cons_self)
  cases c with
  | dK h1 n u t => exact .dic (.inl (h.drop_vis.trans h1)) n (t.mono vis_drop)
/-- p as data: the frozen form of a cell -/
def Cell.dat : Cell → Option Dat
  | .lst ds => some (.lst ds)
  | .ins C ns ds => some (.obj C ns ds)
  | .dK ks ds => some (.dic ks ds)
  | _ => none
theorem freezeA {a : Addr} {c : Cell} {F V0 H : Hp} {e : Dat} (h : Hs K F V0 H (l ++ (a, c) :: r)) (he : c.dat = some e) : Da K (vis F (l ++ r) H) (.ref a) e := by
  cases c <;> simp [Cell.dat] at he <;> subst he
  · exact freeze h
  · exact freezeD h
  · exact freezeO h
theorem ex_frz (h : EX K te sl own fun d o => ∃ a c l r e, d = .ptr a ∧ o = l ++ (a, c) :: r ∧ c.dat = some e ∧ P e (l ++ r)) : EX K te sl own P := fun F V0 σ H hs hl Q q => by
  refine h F V0 σ H hs hl Q fun v H' d o' hs' b hd ⟨a, c, l, r, e, e1, e2, e3, p⟩ => ?_
  subst e1 e2
  cases hd
  exact q _ H' _ _ hs'.drop (b.trans vis_drop) (freezeA hs' e3) p
end

/-! ### operators -/
section
variable {K : PySem.W.Frag} {own : Own} {P : PD} {d e : Dat} {X : Cx}
theorem r2_of {r : R2} {z : Dat} (h : ∀ (W : Hp) (x y : V), Da K W x d → Da K W y e → ∃ v, (∀ W, Da K W v z) ∧ ∀ (H : Hp) (Q : VK), Q v H → r x y H Q) (p : P z own) : R2X K r d e own P := fun F V0 H x y hs hx hy Q q => by
  obtain ⟨v, hv, hr⟩ := h _ x y hx hy
  exact hr H Q (q v H z own hs (Same.refl _) (hv _) p)
def rStr2 (g : Str → Str → V) : R2 := fun x y H Q => ∃ i j, x = .str i ∧ y = .str j ∧ Q (g i j) H
/-- + -/
def rAddS' : R2 := fun x y H Q => ∃ i j, x = .str i ∧ y = .str j ∧ i.length + j.length ≤ sizeLine ∧ Q (.str (i ++ j)) H
def uAdd (K : PySem.W.Frag) : R2 := fun x y H Q => rI0 (fun i j => .int (i + j)) x y H Q ∨ rAddS' x y H Q ∨ rCat x y H Q ∨ rCatA K x y H Q
theorem op_addU : OpR X (binaryOp .Add) (uAdd X.K) := OpR.or op_add (OpR.or op_add_str (OpR.or op_cat op_catA))
theorem add_int {i j : Int} (p : P (.int (i + j)) own) : R2X K (uAdd K) (.int i) (.int j) own P := r2_of (fun W x y hx hy => by cases hx; cases hy; exact ⟨_, fun _ => .int _, fun H Q q => .inl ⟨i, j, rfl, rfl, q⟩⟩) p
theorem add_str {i j : Str} (hl : i.length + j.length ≤ sizeLine) (p : P (.str (i ++ j)) own) : R2X K (uAdd K) (.str i) (.str j) own P := r2_of (fun W x y hx hy => by cases hx; cases hy; exact ⟨_, fun _ => .str _, fun H Q q => .inr (.inl ⟨i, j, rfl, rfl, hl, q⟩)⟩) p
theorem sub_int {i j : Int} (p : P (.int (i - j)) own) : R2X K (rI0 fun i j => .int (i - j)) (.int i) (.int j) own P := r2_of (fun W x y hx hy => by cases hx; cases hy; exact ⟨_, fun _ => .int _, fun H Q q => ⟨i, j, rfl, rfl, q⟩⟩) p
def uMul : R2 := rI IntMulOk fun i j => .int (i * j)
theorem op_mulU : OpR X (binaryOp .Mult) uMul := opI fun _ _ _ _ _ _ _ hc q => PySem.P.mul_int q hc
theorem mul_int {i j : Int} (h : IntMulOk i j) (p : P (.int (i * j)) own) : R2X K uMul (.int i) (.int j) own P := r2_of (fun W x y hx hy => by cases hx; cases hy; exact ⟨_, fun _ => .int _, fun H Q q => ⟨i, j, rfl, rfl, h, q⟩⟩) p
theorem div_int {i j : Int} (h : CDivW i j) (p : P (.int (i / j)) own) : R2X K (rI CDivW fun i j => .int (i / j)) (.int i) (.int j) own P := r2_of (fun W x y hx hy => by cases hx; cases hy; exact ⟨_, fun _ => .int _, fun H Q q => ⟨i, j, rfl, rfl, h, q⟩⟩) p
theorem mod_int {i j : Int} (h : 0 < j) (p : P (.int (i % j)) own) : R2X K (rI (fun _ j => 0 < j) fun i j => .int (i % j)) (.int i) (.int j) own P := r2_of (fun W x y hx hy => by cases hx; cases hy; exact ⟨_, fun _ => .int _, fun H Q q => ⟨i, j, rfl, rfl, h, q⟩⟩) p
theorem pow_int {i j : Int} (h : CPow i j) (p : P (.int (i ^ j.toNat)) own) : R2X K (rI CPow fun i j => .int (i ^ j.toNat)) (.int i) (.int j) own P := r2_of (fun W x y hx hy => by cases hx; cases hy; exact ⟨_, fun _ => .int _, fun H Q q => ⟨i, j, rfl, rfl, h, q⟩⟩) p
/-- lists end to end: a new list, as data -/
theorem vis_newd {F V0 H : Hp} {p : Addr} {o : HO} (hs : Hs K F V0 H own) (hp : H p = none) : Hs K F V0 (upd H p o) own ∧ Same (vis F own H) (vis F own (upd H p o)) ∧ vis F own (upd H p o) p = some o :=
  ⟨hs.grow (same_new hp), vis_grow hs (same_new hp), vis_at hs hp⟩
theorem add_lst {ds es : List Dat} (h1 : TrkD own d ds) (h2 : TrkD own e es) (hl : ds.length + es.length ≤ sizeLine) (p : P (.lst (ds ++ es)) own) : R2X K (uAdd K) d e own P := fun F V0 H x y hs hx hy Q q => by
  obtain ⟨a, vs, rfl, ha, la⟩ := h1.tk hs hx
  obtain ⟨b, us, rfl, hb, lb⟩ := h2.tk hs hy
  refine .inr (.inr (.inl ⟨a, b, vs, us, rfl, rfl, ha, hb, by rw [la.length, lb.length]; exact hl, fun c hc => ?_⟩))
  obtain ⟨g1, g2, g3⟩ := vis_newd (o := .lst (vs ++ us)) hs hc
  exact q _ _ _ own g1 g2 (.lst g3 ((la.append lb).mono g2)) p
theorem add_tup {ds es : List Dat} (hl : ds.length + es.length ≤ sizeLine) (p : P (.tup (ds ++ es)) own) : R2X K (uAdd K) (.tup ds) (.tup es) own P := fun F V0 H x y hs hx hy Q q => by
  cases hx with
  | tup ha la =>
    cases hy with
    | tup hb lb =>
      rename_i a xs b ys
      refine .inr (.inr (.inr ⟨a, b, xs, ys, rfl, rfl, sq_t vis_sub ha, sq_t vis_sub hb, by rw [la.length, lb.length]; exact hl, fun z => ?_, fun z1 z2 => ?_, fun z1 z2 c hc => ?_⟩))
      · subst z
        cases la
        exact q _ H _ own hs (Same.refl _) (.tup hb lb) p
      · subst z2
        cases lb
        rw [List.append_nil] at p
        exact q _ H _ own hs (Same.refl _) (.tup ha la) p
      · obtain ⟨g1, g2, g3⟩ := vis_newd (o := .tup (xs ++ ys)) hs hc
        exact q _ _ _ own g1 g2 (.tup (.inl (.inl g3)) ((la.append lb).mono g2)) p
end
end Sy
/-! Rules of the symbolic layer: equality, in, items, order. -/
namespace Sy
open PySem L2

/-! ### data that can be compared -/
mutual
def Dat.py : Dat → PyData
  | .non => .none | .bl b => .bool b | .int i => .int i | .str x => .str x
  | .tup ds => .tuple (Dat.pyL ds) | .lst ds => .list (Dat.pyL ds) | .scr ds => .list (Dat.pyL ds)
  | .obj _ _ _ => .none | .dic _ _ => .none | .ptr _ => .none
def Dat.pyL : List Dat → List PyData
  | [] => []
  | d :: ds => Dat.py d :: Dat.pyL ds
end
mutual
/-- no bool, no object, no written list; texts of real signs; at most n deep -/
inductive Sh : Nat → Dat → Prop
  | non {n : Nat} : Sh n .non
  | int {n : Nat} (i : Int) : Sh n (.int i)
  | str {n : Nat} {x : Str} : PyData.strOk x = true → Sh n (.str x)
  | tup {n : Nat} {ds : List Dat} : ShL n ds → Sh (n + 1) (.tup ds)
  | lst {n : Nat} {ds : List Dat} : ShL n ds → Sh (n + 1) (.lst ds)
inductive ShL : Nat → List Dat → Prop
  | nil {n : Nat} : ShL n []
  | cons {n : Nat} {d : Dat} {ds : List Dat} : Sh n d → ShL n ds → ShL n (d :: ds)
end
theorem shL_of {n : Nat} : ∀ {ds : List Dat}, (∀ d ∈ ds, Sh n d) → ShL n ds
  | [], _ => .nil
  | d :: ds, h => .cons (h d List.mem_cons_self) (shL_of fun e he => h e (List.mem_cons_of_mem _ he))
theorem shL_mem {n : Nat} : ∀ {ds : List Dat}, ShL n ds → ∀ d ∈ ds, Sh n d
  | _, .nil, d, h => by cases h
  | _, .cons a b, d, h => by
    rcases List.mem_cons.mp h with rfl | h
    · exact a
    · exact shL_mem b d h
mutual
theorem Sh.lay : ∀ {n : Nat} {d : Dat}, Sh n d → d.py.canLay0 = true ∧ d.py.depth ≤ n
  | _, _, .non => ⟨by simp [Dat.py, PyData.canLay0], by simp [Dat.py, PyData.depth]⟩
  | _, _, .int i => ⟨by simp [Dat.py, PyData.canLay0], by simp [Dat.py, PyData.depth]⟩
  | _, _, .str h => ⟨by simp [Dat.py, PyData.canLay0, h], by simp [Dat.py, PyData.depth]⟩
  | _, _, .tup h => by
    have := ShL.lay h
    simp [Dat.py, PyData.canLay0, PyData.depth, this.1]; exact this.2
  | _, _, .lst h => by
    have := ShL.lay h
    simp [Dat.py, PyData.canLay0, PyData.depth, this.1]; exact this.2
theorem ShL.lay : ∀ {n : Nat} {ds : List Dat}, ShL n ds → PyData.canLayAll0 (Dat.pyL ds) = true ∧ PyData.depthAll (Dat.pyL ds) ≤ n
  | _, _, .nil => ⟨by simp [Dat.pyL, PyData.canLayAll0], by simp [Dat.pyL, PyData.depthAll]⟩
  | _, _, .cons a b => by
    have h1 := Sh.lay a
    have h2 := ShL.lay b
    refine ⟨by simp [Dat.pyL, PyData.canLayAll0, h1.1, h2.1], ?_⟩
    simp only [Dat.pyL, PyData.depthAll]
    omega
end
theorem Sh.shaped {n : Nat} {d : Dat} (h : Sh n d) (hn : n ≤ 64) : SeqAt.shaped d.py = true := by
  unfold SeqAt.shaped
  rw [h.lay.1, Bool.true_and]
  exact decide_eq_true (Nat.le_trans h.lay.2 hn)
mutual
theorem Sh.dp {K : PySem.W.Frag} {H : Hp} : ∀ {n : Nat} {d : Dat} {v : V}, Sh n d → Da K H v d → Dp K H v d.py
  | _, _, _, .non, h => by cases h; simp only [Dat.py]; exact .non
  | _, _, _, .int i, h => by cases h; simp only [Dat.py]; exact .int i
  | _, _, _, .str q, h => by cases h; simp only [Dat.py]; exact .str _
  | _, _, _, .tup q, h => by cases h with | tup a b => simp only [Dat.py]; exact .tup a (ShL.dp q b)
  | _, _, _, .lst q, h => by cases h with | lst a b => simp only [Dat.py]; exact .lst (.inl (.inl a)) (ShL.dp q b)
theorem ShL.dp {K : PySem.W.Frag} {H : Hp} : ∀ {n : Nat} {ds : List Dat} {vs : List V}, ShL n ds → DaL K H vs ds → DpAll K H vs (Dat.pyL ds)
  | _, _, _, .nil, h => by cases h; simp only [Dat.pyL]; exact .nil
  | _, _, _, .cons a b, h => by cases h with | cons c d => simp only [Dat.pyL]; exact .cons (Sh.dp a c) (ShL.dp b d)
end
mutual
theorem eqv_iff : ∀ {n m : Nat} {d e : Dat}, Sh n d → Sh m e → (PyData.eqv d.py e.py = true ↔ d = e)
  | _, _, _, _, .non, .non => by simp [Dat.py, PyData.eqv]
  | _, _, _, _, .non, .int _ => by simp [Dat.py, PyData.eqv]
  | _, _, _, _, .non, .str _ => by simp [Dat.py, PyData.eqv]
  | _, _, _, _, .non, .tup _ => by simp [Dat.py, PyData.eqv]
  | _, _, _, _, .non, .lst _ => by simp [Dat.py, PyData.eqv]
  | _, _, _, _, .int _, .non => by simp [Dat.py, PyData.eqv]
  | _, _, _, _, .int _, .int _ => by simp [Dat.py, PyData.eqv]
  | _, _, _, _, .int _, .str _ => by simp [Dat.py, PyData.eqv]
  | _, _, _, _, .int _, .tup _ => by simp [Dat.py, PyData.eqv]
  | _, _, _, _, .int _, .lst _ => by simp [Dat.py, PyData.eqv]
  | _, _, _, _, .str _, .non => by simp [Dat.py, PyData.eqv]
  | _, _, _, _, .str _, .int _ => by simp [Dat.py, PyData.eqv]
  | _, _, _, _, .str _, .str _ => by simp [Dat.py, PyData.eqv]
  | _, _, _, _, .str _, .tup _ => by simp [Dat.py, PyData.eqv]
  | _, _, _, _, .str _, .lst _ => by simp [Dat.py, PyData.eqv]
  | _, _, _, _, .tup _, .non => by simp [Dat.py, PyData.eqv]
  | _, _, _, _, .tup _, .int _ => by simp [Dat.py, PyData.eqv]
  | _, _, _, _, .tup _, .str _ => by simp [Dat.py, PyData.eqv]
  | _, _, _, _, .tup a, .tup b => by
    have := eqvL_iff a b
    simp only [Dat.py, PyData.eqv, Dat.tup.injEq]; exact this
  | _, _, _, _, .tup _, .lst _ => by simp [Dat.py, PyData.eqv]
  | _, _, _, _, .lst _, .non => by simp [Dat.py, PyData.eqv]
  | _, _, _, _, .lst _, .int _ => by simp [Dat.py, PyData.eqv]
  | _, _, _, _, .lst _, .str _ => by simp [Dat.py, PyData.eqv]
  | _, _, _, _, .lst _, .tup _ => by simp [Dat.py, PyData.eqv]
  | _, _, _, _, .lst a, .lst b => by
    have := eqvL_iff a b
    simp only [Dat.py, PyData.eqv, Dat.lst.injEq]; exact this
theorem eqvL_iff : ∀ {n m : Nat} {ds es : List Dat}, ShL n ds → ShL m es → (PyData.eqvAll (Dat.pyL ds) (Dat.pyL es) = true ↔ ds = es)
  | _, _, _, _, .nil, .nil => by simp [Dat.pyL, PyData.eqvAll]
  | _, _, _, _, .nil, .cons _ _ => by simp [Dat.pyL, PyData.eqvAll]
  | _, _, _, _, .cons _ _, .nil => by simp [Dat.pyL, PyData.eqvAll]
  | _, _, _, _, .cons a b, .cons c d => by
    have h1 := eqv_iff a c
    have h2 := eqvL_iff b d
    simp only [Dat.pyL, PyData.eqvAll, Bool.and_eq_true, List.cons.injEq, h1, h2]
end

section
variable {K : PySem.W.Frag} {own : Own} {P : PD} {d e : Dat} {X : Cx}
/-! ### == and != -/
def uEq (K : PySem.W.Frag) : R2 := fun x y H Q => rEq x y H Q ∨ rEqD K x y H Q
def uNe (K : PySem.W.Frag) : R2 := fun x y H Q => rNe x y H Q ∨ rNeD K x y H Q
theorem op_eqU (hu : X.A.units + 64 < cLine) : OpR X (compareOp .Eq) (uEq X.K) := OpR.or op_eq (op_eqD hu)
theorem op_neU (hu : X.A.units + 64 < cLine) : OpR X (compareOp .NotEq) (uNe X.K) := OpR.or op_ne (op_neD hu)
theorem eq_int {i j : Int} (p : P (.bl (decide (i = j))) own) : R2X K (uEq K) (.int i) (.int j) own P := r2_of (fun W x y hx hy => by
  cases hx; cases hy
  refine ⟨_, fun _ => .bl _, fun H Q q => .inl ⟨rfl, ?_⟩⟩
  have e : decide (V.int i = V.int j) = decide (i = j) := by simp
  rw [e]; exact q) p
theorem eq_str {i j : Str} (p : P (.bl (decide (i = j))) own) : R2X K (uEq K) (.str i) (.str j) own P := r2_of (fun W x y hx hy => by
  cases hx; cases hy
  refine ⟨_, fun _ => .bl _, fun H Q q => .inl ⟨rfl, ?_⟩⟩
  have e : decide (V.str i = V.str j) = decide (i = j) := by simp
  rw [e]; exact q) p
theorem ne_int {i j : Int} (p : P (.bl (!decide (i = j))) own) : R2X K (uNe K) (.int i) (.int j) own P := r2_of (fun W x y hx hy => by
  cases hx; cases hy
  refine ⟨_, fun _ => .bl _, fun H Q q => .inl ⟨rfl, ?_⟩⟩
  have e : decide (V.int i = V.int j) = decide (i = j) := by simp
  rw [e]; exact q) p
theorem ne_str {i j : Str} (p : P (.bl (!decide (i = j))) own) : R2X K (uNe K) (.str i) (.str j) own P := r2_of (fun W x y hx hy => by
  cases hx; cases hy
  refine ⟨_, fun _ => .bl _, fun H Q q => .inl ⟨rfl, ?_⟩⟩
  have e : decide (V.str i = V.str j) = decide (i = j) := by simp
  rw [e]; exact q) p
theorem eq_dat {n m : Nat} (h1 : Sh n d) (h2 : Sh m e) (p : ∀ b : Bool, (b = true ↔ d = e) → P (.bl b) own) (hn : n ≤ 64 := by decide) (hm : m ≤ 64 := by decide) : R2X K (uEq K) d e own P := fun F V0 H x y hs hx hy Q q =>
  .inr ⟨_, _, h1.dp (hx.mono vis_sub), h2.dp (hy.mono vis_sub), h1.shaped hn, h2.shaped hm, q _ H _ own hs (Same.refl _) (.bl _) (p _ (eqv_iff h1 h2))⟩
theorem ne_dat {n m : Nat} (h1 : Sh n d) (h2 : Sh m e) (p : ∀ b : Bool, (b = true ↔ d = e) → P (.bl (!b)) own) (hn : n ≤ 64 := by decide) (hm : m ≤ 64 := by decide) : R2X K (uNe K) d e own P := fun F V0 H x y hs hx hy Q q =>
  .inr ⟨_, _, h1.dp (hx.mono vis_sub), h2.dp (hy.mono vis_sub), h1.shaped hn, h2.shaped hm, q _ H _ own hs (Same.refl _) (.bl _) (p _ (eqv_iff h1 h2))⟩
/-- an owned list against data: its items are what counts -/
theorem trk_dp {F V0 H : Hp} {x : V} {ds : List Dat} {n : Nat} (h : TrkD own d ds) (hs : Hs K F V0 H own) (hx : Da K (vis F own H) x d) (q : ShL n ds) : Dp K H x (Dat.lst ds).py := by
  obtain ⟨a, vs, rfl, ha, l⟩ := h.tk hs hx
  simp only [Dat.py]
  exact .lst (.inl (.inl ha)) (q.dp (l.mono vis_sub))
theorem eq_lst {ds es : List Dat} {n m : Nat} (h1 : TrkD own d ds) (h2 : TrkD own e es) (s1 : ShL n ds) (s2 : ShL m es) (p : ∀ b : Bool, (b = true ↔ ds = es) → P (.bl b) own) (hn : n < 64 := by decide) (hm : m < 64 := by decide) : R2X K (uEq K) d e own P := fun F V0 H x y hs hx hy Q q =>
  .inr ⟨_, _, trk_dp h1 hs hx s1, trk_dp h2 hs hy s2, (Sh.lst s1).shaped hn, (Sh.lst s2).shaped hm, q _ H _ own hs (Same.refl _) (.bl _) (p _ ((eqv_iff (.lst s1) (.lst s2)).trans (by simp)))⟩
theorem ne_lst {ds es : List Dat} {n m : Nat} (h1 : TrkD own d ds) (h2 : TrkD own e es) (s1 : ShL n ds) (s2 : ShL m es) (p : ∀ b : Bool, (b = true ↔ ds = es) → P (.bl (!b)) own) (hn : n < 64 := by decide) (hm : m < 64 := by decide) : R2X K (uNe K) d e own P := fun F V0 H x y hs hx hy Q q =>
  .inr ⟨_, _, trk_dp h1 hs hx s1, trk_dp h2 hs hy s2, (Sh.lst s1).shaped hn, (Sh.lst s2).shaped hm, q _ H _ own hs (Same.refl _) (.bl _) (p _ ((eqv_iff (.lst s1) (.lst s2)).trans (by simp)))⟩

/-! ### order of ints -/
theorem lt_int {i j : Int} (p : P (.bl (decide (i < j))) own) : R2X K (rI0 fun i j => .bl (decide (i < j))) (.int i) (.int j) own P := r2_of (fun W x y hx hy => by cases hx; cases hy; exact ⟨_, fun _ => .bl _, fun H Q q => ⟨i, j, rfl, rfl, q⟩⟩) p
theorem le_int {i j : Int} (p : P (.bl (decide (i ≤ j))) own) : R2X K (rI0 fun i j => .bl (decide (i ≤ j))) (.int i) (.int j) own P := r2_of (fun W x y hx hy => by cases hx; cases hy; exact ⟨_, fun _ => .bl _, fun H Q q => ⟨i, j, rfl, rfl, q⟩⟩) p
theorem gt_int {i j : Int} (p : P (.bl (decide (j < i))) own) : R2X K (rI0 fun i j => .bl (decide (j < i))) (.int i) (.int j) own P := r2_of (fun W x y hx hy => by cases hx; cases hy; exact ⟨_, fun _ => .bl _, fun H Q q => ⟨i, j, rfl, rfl, q⟩⟩) p
theorem ge_int {i j : Int} (p : P (.bl (decide (j ≤ i))) own) : R2X K (rI0 fun i j => .bl (decide (j ≤ i))) (.int i) (.int j) own P := r2_of (fun W x y hx hy => by cases hx; cases hy; exact ⟨_, fun _ => .bl _, fun H Q q => ⟨i, j, rfl, rfl, q⟩⟩) p
/-! ### is None -/
def rIsN' : R2 := fun x y H Q => y = .non ∧ Q (.bl (decide (x = .non))) H
def rNotN' : R2 := fun x y H Q => y = .non ∧ Q (.bl (!decide (x = .non))) H
theorem op_isU : OpR X (compareOp .Is) rIsN' := op_isN
theorem op_notU : OpR X (compareOp .IsNot) rNotN' := op_notN
def Dat.isN : Dat → Bool
  | .non => true
  | _ => false
theorem Da.isN {W : Hp} {v : V} (h : Da K W v d) : decide (v = .non) = d.isN := by cases h <;> first | rfl | (simp [Dat.isN])
theorem is_non (p : P (.bl d.isN) own) : R2X K rIsN' d .non own P := fun F V0 H x y hs hx hy Q q => by
  cases hy
  exact ⟨rfl, by rw [hx.isN]; exact q _ H _ own hs (Same.refl _) (.bl _) p⟩
theorem not_non (p : P (.bl (!d.isN)) own) : R2X K rNotN' d .non own P := fun F V0 H x y hs hx hy Q q => by
  cases hy
  exact ⟨rfl, by rw [hx.isN]; exact q _ H _ own hs (Same.refl _) (.bl _) p⟩

/-! ### in -/
def rInQ (K : PySem.W.Frag) (neg : Bool) : R2 := fun x y H Q => ∃ d ds, Dp K H x d ∧ (Dp K H y (.list ds) ∨ Dp K H y (.tuple ds)) ∧ SeqAt.shaped d = true ∧ SeqAt.shaped (.list ds) = true ∧ Q (.bl (if neg then !ds.any fun z => PyData.eqv z d else ds.any fun z => PyData.eqv z d)) H
theorem op_inQ (hu : X.A.units + 65 < cLine) : OpR X (compareOp .In) (rInQ X.K false) := by
  intro pins s σ H x y v u Q I rx ry h
  obtain ⟨d, ds, hd, he, sd, se, q⟩ := h
  obtain ⟨as, r1⟩ := Dp.reads I d x v hd rx
  rcases he with he | he
  · obtain ⟨bs, r2⟩ := Dp.reads I (.list ds) y u he ry
    exact SeqAt.in_list_reads r2 r1 (SeqAt.canLay_of_shaped se) (SeqAt.canLay_of_shaped sd) (PyProof.Rows.room_in_shaped sd hu) ⟨.bl _, H, I, rfl, q⟩
  · obtain ⟨bs, r2⟩ := Dp.reads I (.tuple ds) y u he ry
    exact SeqAt.in_tuple_reads r2 r1 (SeqAt.canLay_of_shaped se) (SeqAt.canLay_of_shaped sd) (PyProof.Rows.room_in_shaped sd hu) ⟨.bl _, H, I, rfl, q⟩
theorem op_notInQ (hu : X.A.units + 65 < cLine) : OpR X (compareOp .NotIn) (rInQ X.K true) := by
  intro pins s σ H x y v u Q I rx ry h
  obtain ⟨d, ds, hd, he, sd, se, q⟩ := h
  obtain ⟨as, r1⟩ := Dp.reads I d x v hd rx
  rcases he with he | he
  · obtain ⟨bs, r2⟩ := Dp.reads I (.list ds) y u he ry
    exact SeqAt.notIn_list_reads r2 r1 (SeqAt.canLay_of_shaped se) (SeqAt.canLay_of_shaped sd) (PyProof.Rows.room_in_shaped sd hu) ⟨.bl _, H, I, rfl, q⟩
  · obtain ⟨bs, r2⟩ := Dp.reads I (.tuple ds) y u he ry
    exact SeqAt.notIn_tuple_reads r2 r1 (SeqAt.canLay_of_shaped se) (SeqAt.canLay_of_shaped sd) (PyProof.Rows.room_in_shaped sd hu) ⟨.bl _, H, I, rfl, q⟩
def rInDic (neg : Bool) : R2 := fun y x H Q => ∃ a o, x = .ref a ∧ DGet H a y o ∧ Q (.bl (if neg then !o.isSome else o.isSome)) H
theorem op_inDic (hu : X.A.units + 1 < cLine) : OpR X (compareOp .In) (rInDic false) := by
  intro pins s σ H y x v u Q I ry rx h
  obtain ⟨a, o, rfl, g, q⟩ := h
  obtain rfl : u = Value.ref a := rx
  exact d_in hu I g ry fun s3 I3 => ⟨.bl o.isSome, H, I3, rfl, q⟩
theorem op_notInDic (hu : X.A.units + 1 < cLine) : OpR X (compareOp .NotIn) (rInDic true) := by
  intro pins s σ H y x v u Q I ry rx h
  obtain ⟨a, o, rfl, g, q⟩ := h
  obtain rfl : u = Value.ref a := rx
  exact d_notIn hu I g ry fun s3 I3 => ⟨.bl (!o.isSome), H, I3, rfl, q⟩
def rInStr (neg : Bool) : R2 := fun x y H Q => ∃ i j, x = .str i ∧ y = .str j ∧ Q (.bl (if neg then !(!(Builtin.Str.occurrences j i 0 j.length 1).isEmpty) else !(Builtin.Str.occurrences j i 0 j.length 1).isEmpty)) H
def uIn (K : PySem.W.Frag) (neg : Bool) : R2 := fun x y H Q => rInQ K neg x y H Q ∨ rInDic neg x y H Q ∨ rInStr neg x y H Q
theorem op_inU (hu : X.A.units + 65 < cLine) : OpR X (compareOp .In) (uIn X.K false) := OpR.or (op_inQ hu) (OpR.or (op_inDic (Nat.lt_of_le_of_lt (Nat.add_le_add_left (by decide) _) hu)) op_in_str)
theorem op_notInU (hu : X.A.units + 65 < cLine) : OpR X (compareOp .NotIn) (uIn X.K true) := OpR.or (op_notInQ hu) (OpR.or (op_notInDic (Nat.lt_of_le_of_lt (Nat.add_le_add_left (by decide) _) hu)) op_notin_str)
theorem any_eqv {n m : Nat} (h1 : Sh n d) : ∀ {ds : List Dat}, ShL m ds → (((Dat.pyL ds).any fun z => PyData.eqv z d.py) = true ↔ d ∈ ds)
  | _, .nil => by simp [Dat.pyL]
  | _, .cons a b => by
    have i := any_eqv h1 b
    have j := eqv_iff a h1
    simp only [Dat.pyL, List.any_cons, Bool.or_eq_true, List.mem_cons, i, j]
    exact ⟨fun z => z.imp Eq.symm id, fun z => z.imp Eq.symm id⟩
theorem seq_dp {F V0 H : Hp} {x : V} {ds : List Dat} {n : Nat} (h : SeqD own e ds) (hs : Hs K F V0 H own) (hx : Da K (vis F own H) x e) (q : ShL n ds) : Dp K H x (.list (Dat.pyL ds)) ∨ Dp K H x (.tuple (Dat.pyL ds)) := by
  obtain ⟨a, vs, rfl, ha, l⟩ := h.sq hs hx
  rcases ha with ha | ha
  · exact .inl (.lst ha (q.dp (l.mono vis_sub)))
  · exact .inr (.tup ha (q.dp (l.mono vis_sub)))
theorem in_seq {neg : Bool} {ds : List Dat} {n m : Nat} (h : SeqD own e ds) (h1 : Sh n d) (h2 : ShL m ds) (p : ∀ b : Bool, (b = true ↔ d ∈ ds) → P (.bl (if neg then !b else b)) own) (hn : n ≤ 64 := by decide) (hm : m < 64 := by decide) : R2X K (uIn K neg) d e own P := fun F V0 H x y hs hx hy Q q =>
  .inl ⟨_, _, h1.dp (hx.mono vis_sub), seq_dp h hs hy h2, h1.shaped hn, by
    have := (Sh.lst h2).shaped (Nat.succ_le_of_lt hm)
    simpa [Dat.py] using this, q _ H _ own hs (Same.refl _) (.bl _) (p _ (any_eqv h1 h2))⟩
def keyD : Key → Dat
  | .inl i => .int i
  | .inr x => .str x
theorem keyD_v {W : Hp} {k : Key} {v : V} (h : Da K W v (keyD k)) : v = kV k := by cases k <;> (simp only [keyD] at h; cases h; rfl)
/-- the place of a key -/
def kix {κ : Type} [DecidableEq κ] : List κ → κ → Option Nat
  | [], _ => none
  | n :: ns, f => if n = f then some 0 else (kix ns f).map (· + 1)
theorem valV_kix {κ : Type} [DecidableEq κ] {k : κ} : ∀ {kvs : List (κ × V)}, valV kvs k = (kix (kvs.map (·.1)) k).bind fun i => (kvs.map (·.2))[i]?
  | [] => rfl
  | p :: kvs => by
    have ih := valV_kix (k := k) (kvs := kvs)
    unfold valV at ih ⊢
    rw [List.find?_cons, List.map_cons, List.map_cons]
    unfold kix
    by_cases e : p.1 = k
    · rw [if_pos e, decide_eq_true e]; rfl
    · rw [if_neg e, decide_eq_false e]
      show Option.map _ (List.find? _ kvs) = _
      rw [ih]
      cases kix (kvs.map (·.1)) k <;> simp
theorem kix_lt {κ : Type} [DecidableEq κ] {k : κ} : ∀ {ks : List κ} {i : Nat}, kix ks k = some i → i < ks.length ∧ ks[i]? = some k
  | [], _, h => by cases h
  | n :: ns, i, h => by
    unfold kix at h
    by_cases e : n = k
    · rw [if_pos e] at h; cases h; subst e; exact ⟨Nat.zero_lt_succ _, rfl⟩
    · rw [if_neg e] at h
      obtain ⟨j, hj, rfl⟩ := Option.map_eq_some_iff.mp h
      obtain ⟨a, b⟩ := kix_lt hj
      exact ⟨Nat.succ_lt_succ a, by simpa using b⟩
theorem valV_isSome {κ : Type} [DecidableEq κ] {kvs : List (κ × V)} {k : κ} : (valV kvs k).isSome = (kix (kvs.map (·.1)) k).isSome := by
  rw [valV_kix]
  cases h : kix (kvs.map (·.1)) k with
  | none => rfl
  | some i =>
    have := (kix_lt h).1
    rw [List.length_map] at this
    simp [this]
theorem in_dic {neg : Bool} {k : Key} {ks : List Key} {ds : List Dat} (h : DicD own e ks ds) (p : P (.bl (if neg then !(kix ks k).isSome else (kix ks k).isSome)) own) : R2X K (uIn K neg) (keyD k) e own P := fun F V0 H x y hs hx hy Q q => by
  obtain ⟨a, kvs, rfl, ha, hk, l⟩ := h.rd hs hy
  obtain rfl := keyD_v hx
  refine .inr (.inl ⟨a, _, rfl, .inl ⟨kvs, k, ha, rfl, rfl⟩, ?_⟩)
  rw [valV_isSome, hk]
  exact q _ H _ own hs (Same.refl _) (.bl _) p
end
end Sy
/-! Rules of the symbolic layer: items, slices, fields, tests, calls. -/
namespace Sy
open PySem L2
section
variable {K : PySem.W.Frag} {own o1 l r : Own} {sl : SL} {P : PD} {d e : Dat} {X : Cx} {ta tb tc te : TE}

/-! ### items -/
theorem DaL.atI {W : Hp} {vs : List V} {ds : List Dat} {i : Int} (h : DaL K W vs ds) (e : atI ds i = some d) : ∃ v, L2.atI vs i = some v ∧ Da K W v d := by
  unfold L2.atI at e ⊢
  rw [h.length]
  cases q : ixN ds.length i with
  | none => rw [q] at e; cases e
  | some j =>
    rw [q] at e
    exact h.get e
def rIxDic : R2 := fun x y H Q => ∃ a v, x = .ref a ∧ DGet H a y (some v) ∧ Q v H
theorem ix_dic (hu : X.A.units + 1 < cLine) : IxR X rIxDic := by
  intro value slice pins s σ H x y v u Q I rx ry h hs
  obtain ⟨a, z, rfl, g, q⟩ := h
  obtain rfl : v = Value.ref a := rx
  have hT := dict_typeIs I g
  have hl := PySem.F.slot_dict_getitem.lookup
  have h' : wpAny (model X.prog X.w) X.A (getItem (.ref a) u) (EP X pins σ Q) X.xe s := d_getItem hu I g ry fun w' s3 I3 rw' => ⟨z, H, I3, rw', q⟩
  unfold PyProof.Rows.subscriptTail
  refine wpAny_bind ?_
  rw [getitemInPython_of_ne hT.not_modules]
  refine wpAny_bind (wpAny_specialOf hT hl ?_)
  have fin : wpAny (model X.prog X.w) X.A (subscripted slice false (.ref a) u) (fun r s₃ => wpAny (model X.prog X.w) X.A (letTemporaryGo value (.ref a) r >>= fun _ => pure r) (EP X pins σ Q) X.xe s₃) X.xe s := by
    rw [hs]
    exact wpAny_operating (wpAny_mono h' (fun r s₃ h₃ => wpAny_bind (wpAny_letTemporaryGo (wpAny_pure h₃))) fun _ _ x => x)
  first
    | exact wpAny_pure (wpAny_bind fin)
    | exact wpAny_bind (wpAny_pure (wpAny_bind fin))
    | exact wpAny_bind fin
def uIx (K : PySem.W.Frag) : R2 := fun x y H Q => rIxL K x y H Q ∨ rIxT K x y H Q ∨ rIxS x y H Q ∨ rIxDic x y H Q
theorem ix_U (hu : X.A.units + 1 < cLine) : IxR X (uIx X.K) := IxR.or ix_list (IxR.or ix_tup (IxR.or ix_str (ix_dic hu)))
theorem ix_lst {ds : List Dat} {i : Int} (h : LstD own d ds) (hi : atI ds i = some e) (p : P e own) : R2X K (uIx K) d (.int i) own P := fun F V0 H x y hs hx hy Q q => by
  obtain ⟨a, vs, rfl, ha, l⟩ := h.sq hs hx
  cases hy
  obtain ⟨v, e1, e2⟩ := l.atI hi
  exact .inl ⟨a, vs, i, v, rfl, rfl, ha, e1, q _ H _ own hs (Same.refl _) e2 p⟩
theorem ix_tp {ds : List Dat} {i : Int} (hi : atI ds i = some e) (p : P e own) : R2X K (uIx K) (.tup ds) (.int i) own P := fun F V0 H x y hs hx hy Q q => by
  cases hx with
  | tup ha l =>
    cases hy
    obtain ⟨v, e1, e2⟩ := l.atI hi
    exact .inr (.inl ⟨_, _, i, v, rfl, rfl, sq_t vis_sub ha, e1, q _ H _ own hs (Same.refl _) e2 p⟩)
theorem ix_st {z : Str} {i : Int} {c : Nat} (hz : z.length ≤ sizeLine) (hi : atI z.cps.toList i = some c) (p : P (.str ⟨#[c]⟩) own) : R2X K (uIx K) (.str z) (.int i) own P := fun F V0 H x y hs hx hy Q q => by
  cases hx; cases hy
  exact .inr (.inr (.inl ⟨z, i, c, rfl, rfl, hz, hi, q _ H _ own hs (Same.refl _) (.str _) p⟩))
theorem ix_dc {k : Key} {ks : List Key} {ds : List Dat} {i : Nat} (h : DicD own d ks ds) (hi : kix ks k = some i) (he : ds[i]? = some e) (p : P e own) : R2X K (uIx K) d (keyD k) own P := fun F V0 H x y hs hx hy Q q => by
  obtain ⟨a, kvs, rfl, ha, hk, l⟩ := h.rd hs hx
  obtain rfl := keyD_v hy
  obtain ⟨v, e1, e2⟩ := l.get he
  refine .inr (.inr (.inr ⟨a, v, rfl, .inl ⟨kvs, k, ha, rfl, ?_⟩, q _ H _ own hs (Same.refl _) e2 p⟩))
  rw [valV_kix, hk, hi]
  exact e1.symm

/-! ### slices -/
def cutD (ds : List Dat) (lo hi : Option Int) : List Dat := (ds.drop (HT.sIx ds.length 0 lo)).take (HT.sIx ds.length ds.length hi - HT.sIx ds.length 0 lo)
theorem DaL.cut {W : Hp} {vs : List V} {ds : List Dat} (h : DaL K W vs ds) (lo hi : Option Int) : DaL K W (cutV vs lo hi) (cutD ds lo hi) := by
  unfold cutV cutD
  rw [h.length]
  exact (h.drop _).take _
def uSl (K : PySem.W.Frag) : V → Option Int → Option Int → Hp → VK → Prop := fun x lo hi H Q => rSlL K x lo hi H Q ∨ rSlS x lo hi H Q ∨ rSlA K x lo hi H Q
theorem sl_U : SlR X (uSl X.K) := SlR.or sl_list (SlR.or sl_str sl_tupA)
theorem ox_none {P : Option Int → Own → Prop} (p : P none own) : OX K tNoPart sl own P := fun F V0 σ H hs hl Q q => q none H own hs (Same.refl _) p
theorem ox_some {P : Option Int → Own → Prop} (h : EX K te sl own fun d o => ∃ i, d = .int i ∧ P (some i) o) : OX K (tPart te) sl own P := fun F V0 σ H hs hl Q q => by
  refine h F V0 σ H hs hl _ fun v H1 d o1 hs1 e1 hd1 ⟨i, e, p⟩ => ?_
  subst e
  cases hd1
  exact ⟨i, rfl, q _ H1 o1 hs1 e1 p⟩
def S3X (K : PySem.W.Frag) (d : Dat) (lo hi : Option Int) (own : Own) (P : PD) : Prop := ∀ (F V0 H : Hp) (x : V), Hs K F V0 H own → Da K (vis F own H) x d →
  ∀ Q : VK, (∀ v H' d own', Hs K F V0 H' own' → Same (vis F own H) (vis F own' H') → Da K (vis F own' H') v d → P d own' → Q v H') → uSl K x lo hi H Q
theorem ex_sl {tl th : TO} (h : EX K te sl own fun d o => OX K tl sl o fun lo o2 => OX K th sl o2 fun hi o3 => S3X K d lo hi o3 P) : EX K (tSl (uSl K) te tl th) sl own P := fun F V0 σ H hs hl Q q => by
  refine h F V0 σ H hs hl _ fun v H1 d1 o1 hs1 e1 hd1 p1 => ?_
  refine p1 F V0 σ H1 hs1 (hl.mono e1) _ fun lo H2 o2 hs2 e2 p2 => ?_
  refine p2 F V0 σ H2 hs2 (hl.mono (e1.trans e2)) _ fun hi H3 o3 hs3 e3 p3 => ?_
  exact p3 F V0 H3 v hs3 (hd1.mono (e2.trans e3)) Q fun z H4 d4 o4 hs4 e4 hd4 p4 => q z H4 d4 o4 hs4 (((e1.trans e2).trans e3).trans e4) hd4 p4
theorem sl_lst {lo hi : Option Int} {ds : List Dat} (h : LstD own d ds) (p : P (.lst (cutD ds lo hi)) own) : S3X K d lo hi own P := fun F V0 H x hs hx Q q => by
  obtain ⟨a, vs, rfl, ha, l⟩ := h.sq hs hx
  refine .inl ⟨a, vs, rfl, ha, fun c hc => ?_⟩
  obtain ⟨g1, g2, g3⟩ := vis_newd (o := .lst (cutV vs lo hi)) hs hc
  exact q _ _ _ own g1 g2 (.lst g3 ((l.cut lo hi).mono g2)) p
theorem sl_st {lo hi : Option Int} {z : Str} (hz : z.length ≤ sizeLine) (p : P (.str (cutS z lo hi)) own) : S3X K (.str z) lo hi own P := fun F V0 H x hs hx Q q => by
  cases hx
  exact .inr (.inl ⟨z, rfl, hz, q _ H _ own hs (Same.refl _) (.str _) p⟩)
theorem cutV_all {vs : List V} {lo hi : Option Int} (h : HT.sIx vs.length 0 lo = 0 ∧ HT.sIx vs.length vs.length hi = vs.length) : cutV vs lo hi = vs := by
  unfold cutV
  rw [h.1, h.2]
  simp
theorem sl_tp {lo hi : Option Int} {ds : List Dat} (p : P (.tup (cutD ds lo hi)) own) : S3X K (.tup ds) lo hi own P := fun F V0 H x hs hx Q q => by
  cases hx with
  | tup ha l =>
    rename_i a xs
    refine .inr (.inr ⟨a, xs, rfl, sq_t vis_sub ha, fun z => ?_, fun z c hc => ?_⟩)
    · have := l.cut lo hi
      rw [cutV_all z] at this
      exact q _ H _ own hs (Same.refl _) (.tup ha this) p
    · obtain ⟨g1, g2, g3⟩ := vis_newd (o := .tup (cutV xs lo hi)) hs hc
      exact q _ _ _ own g1 g2 (.tup (.inl (.inl g3)) ((l.cut lo hi).mono g2)) p

/-! ### fields -/
/-- the attribute f of d is read -/
def FgW (K : PySem.W.Frag) (f : Str) (d : Dat) (o : Own) (P : PD) : Prop := ∃ C ns ds i e, ObjD o d C ns ds ∧ Cls K C ∧ NoAttr K C f ∧ fidx ns f = some i ∧ ds[i]? = some e ∧ P e o
theorem ex_fld {f : Str} (h : EX K ta sl own fun d o => FgW K f d o P) : EX K (tFld K ta f) sl own P := fun F V0 σ H hs hl Q q => by
  refine h F V0 σ H hs hl _ fun v H1 d1 o1 hs1 e1 hd1 ⟨C, ns, ds, i, e, ho, hc, hn, hf, he, p⟩ => ?_
  obtain ⟨a, dx, gs, rfl, ha, hk, hg⟩ := ho.ob hs1 hd1
  obtain ⟨v, e2, e3⟩ := fidx_some hf hk hg he
  exact ⟨a, C, dx, gs, v, rfl, ha, hc, hn, e2, q v H1 e o1 hs1 e1 e3 p⟩

/-! ### tests -/
def TruD (own : Own) (d : Dat) (b : Bool) : Prop := match d with
  | .non => b = false
  | .bl k => b = k
  | .int i => b = (i != 0)
  | .str z => z.length ≤ sizeLine ∧ b = ((z.length : Int) != 0)
  | .tup ds => b = !ds.isEmpty
  | .lst ds => b = !ds.isEmpty
  | .scr ds => b = !ds.isEmpty
  | .ptr a => (∃ ds, (a, Cell.lst ds) ∈ own ∧ b = !ds.isEmpty) ∨ (∃ ks ds, (a, Cell.dK ks ds) ∈ own ∧ b = !ks.isEmpty)
  | _ => False
theorem DaL.empty {W : Hp} {vs : List V} {ds : List Dat} (h : DaL K W vs ds) : vs.isEmpty = ds.isEmpty := by cases h <;> rfl
theorem TruD.ok {F V0 H : Hp} {x : V} {b : Bool} (hs : Hs K F V0 H own) (hd : Da K (vis F own H) x d) (h : TruD own d b) : TruV K x H b := by
  cases hd with
  | non => exact h
  | bl => exact h
  | int => exact h
  | str => exact h
  | tup ha l => exact .inr (.inl ⟨_, sq_t vis_sub ha, by rw [l.empty]; exact h⟩)
  | lst ha l => exact .inl ⟨_, .inl (.inl (vis_sub _ _ ha)), by rw [l.empty]; exact h⟩
  | scr ha l => exact .inl ⟨_, sq_l vis_sub ha, by rw [l.empty]; exact h⟩
  | obj => exact h.elim
  | dic => exact h.elim
  | ptr a =>
    rcases h with ⟨ds, hm, e⟩ | ⟨ks, ds, hm, e⟩
    · have c := hs.cell _ hm
      cases c with
      | lst h l => exact .inl ⟨_, .inl (.inl h), by rw [l.empty]; exact e⟩
    · have c := hs.cell _ hm
      cases c with
      | dK h n u l =>
        refine .inr (.inr ⟨_, h, ?_⟩)
        rw [e, ← n]
        cases ‹List (Key × V)› <;> rfl
theorem tx_test {P : Bool → Own → Prop} (h : EX K te sl own fun d o => ∃ b, d = .bl b ∧ P b o) : TX K (tTest te) sl own P := fun F V0 σ H hs hl Q q => by
  refine h F V0 σ H hs hl _ fun v H1 d1 o1 hs1 e1 hd1 ⟨b, e, p⟩ => ?_
  subst e
  cases hd1
  exact ⟨b, rfl, q b H1 o1 hs1 e1 p⟩
def tTru (K : PySem.W.Frag) (ta : TE) : TT := fun σ H Q => ta σ H fun x H' => ∃ k, TruV K x H' k ∧ Q k H'
theorem pt_tru {a : Expr} (ha : PE X a ta) (he : ∀ whole, isTrue a X.env whole = (do let v ← whole; standAt a.pos; holding [v] (truthy v))) : PT X a (tTru X.K ta) := pt_truth ha he
theorem tx_tru {P : Bool → Own → Prop} (h : EX K te sl own fun d o => ∃ b, TruD o d b ∧ P b o) : TX K (tTru K te) sl own P := fun F V0 σ H hs hl Q q => by
  refine h F V0 σ H hs hl _ fun v H1 d1 o1 hs1 e1 hd1 ⟨b, e, p⟩ => ?_
  exact ⟨b, e.ok hs1 hd1, q b H1 o1 hs1 e1 p⟩
theorem tx_and {t u : TT} {P : Bool → Own → Prop} (h : TX K t sl own fun b o => if b = true then TX K u sl o P else P false o) : TX K (tAnd t u) sl own P := fun F V0 σ H hs hl Q q => by
  refine h F V0 σ H hs hl _ fun b H1 o1 hs1 e1 p => ?_
  cases b with
  | true => exact iteT ((show TX K u sl o1 P from p) F V0 σ H1 hs1 (hl.mono e1) Q fun b H2 o2 hs2 e2 p2 => q b H2 o2 hs2 (e1.trans e2) p2)
  | false => exact iteF (q false H1 o1 hs1 e1 p)
theorem tx_or {t u : TT} {P : Bool → Own → Prop} (h : TX K t sl own fun b o => if b = true then P true o else TX K u sl o P) : TX K (tOr t u) sl own P := fun F V0 σ H hs hl Q q => by
  refine h F V0 σ H hs hl _ fun b H1 o1 hs1 e1 p => ?_
  cases b with
  | true => exact iteT (q true H1 o1 hs1 e1 p)
  | false => exact iteF ((show TX K u sl o1 P from p) F V0 σ H1 hs1 (hl.mono e1) Q fun b H2 o2 hs2 e2 p2 => q b H2 o2 hs2 (e1.trans e2) p2)
theorem tx_not {t : TT} {P : Bool → Own → Prop} (h : TX K t sl own fun b o => P (!b) o) : TX K (tNot t) sl own P := fun F V0 σ H hs hl Q q =>
  h F V0 σ H hs hl _ fun b H1 o1 hs1 e1 p => q _ H1 o1 hs1 e1 p
theorem tx_yes {P : Bool → Own → Prop} (p : P true own) : TX K tYes sl own P := fun F V0 σ H hs hl Q q => q _ H own hs (Same.refl _) p
theorem tx_mono {t : TT} {P P' : Bool → Own → Prop} (h : TX K t sl own P') (m : ∀ b o, P' b o → P b o) : TX K t sl own P := fun F V0 σ H hs hl Q q => h F V0 σ H hs hl Q fun b H1 o1 hs1 e1 p => q b H1 o1 hs1 e1 (m b o1 p)
theorem ex_if {t : TT} (h : TX K t sl own fun b o => if b = true then EX K ta sl o P else EX K tb sl o P) : EX K (tIf t ta tb) sl own P := fun F V0 σ H hs hl Q q => by
  refine h F V0 σ H hs hl _ fun b H1 o1 hs1 e1 p => ?_
  cases b with
  | true => exact iteT ((show EX K ta sl o1 P from p) F V0 σ H1 hs1 (hl.mono e1) Q fun v H2 d o2 hs2 e2 p2 => q v H2 d o2 hs2 (e1.trans e2) p2)
  | false => exact iteF ((show EX K tb sl o1 P from p) F V0 σ H1 hs1 (hl.mono e1) Q fun v H2 d o2 hs2 e2 p2 => q v H2 d o2 hs2 (e1.trans e2) p2)
/-- and, or, not as values -/
theorem ex_andT (h : EX K ta sl own fun d o => ∃ b, TruD o d b ∧ if b = true then EX K tb sl o P else P d o) : EX K (tAndT K ta tb) sl own P := fun F V0 σ H hs hl Q q => by
  refine h F V0 σ H hs hl _ fun v H1 d1 o1 hs1 e1 hd1 ⟨b, e, p⟩ => ⟨b, e.ok hs1 hd1, ?_⟩
  cases b with
  | true => exact iteT ((show EX K tb sl o1 P from p) F V0 σ H1 hs1 (hl.mono e1) Q fun v H2 d o2 hs2 e2 p2 => q v H2 d o2 hs2 (e1.trans e2) p2)
  | false => exact iteF (q v H1 d1 o1 hs1 e1 hd1 p)
theorem ex_orT (h : EX K ta sl own fun d o => ∃ b, TruD o d b ∧ if b = true then P d o else EX K tb sl o P) : EX K (tOrT K ta tb) sl own P := fun F V0 σ H hs hl Q q => by
  refine h F V0 σ H hs hl _ fun v H1 d1 o1 hs1 e1 hd1 ⟨b, e, p⟩ => ⟨b, e.ok hs1 hd1, ?_⟩
  cases b with
  | true => exact iteT (q v H1 d1 o1 hs1 e1 hd1 p)
  | false => exact iteF ((show EX K tb sl o1 P from p) F V0 σ H1 hs1 (hl.mono e1) Q fun v H2 d o2 hs2 e2 p2 => q v H2 d o2 hs2 (e1.trans e2) p2)
theorem ex_notT (h : EX K ta sl own fun d o => ∃ b, TruD o d b ∧ P (.bl (!b)) o) : EX K (tNotT K ta) sl own P := fun F V0 σ H hs hl Q q => by
  refine h F V0 σ H hs hl _ fun v H1 d1 o1 hs1 e1 hd1 ⟨b, e, p⟩ => ⟨b, e.ok hs1 hd1, ?_⟩
  exact q _ H1 _ o1 hs1 e1 (.bl _) p
/-- a < b < c -/
theorem ex_chain {r r' : R2} (h : EX K ta sl own fun x o1 => EX K tb sl o1 fun y o2 => R2X K r x y o2 fun z o3 => ∃ k, z = .bl k ∧ if k = true then EX K tc sl o3 fun w o4 => R2X K r' y w o4 P else P (.bl false) o3) : EX K (tChain r r' ta tb tc) sl own P := fun F V0 σ H hs hl Q q => by
  refine h F V0 σ H hs hl _ fun v H1 d1 o1 hs1 e1 hd1 p1 => ?_
  refine p1 F V0 σ H1 hs1 (hl.mono e1) _ fun w H2 d2 o2 hs2 e2 hd2 p2 => ?_
  refine p2 F V0 H2 v w hs2 (hd1.mono e2) hd2 _ fun z H3 d3 o3 hs3 e3 hd3 ⟨k, e, p3⟩ => ?_
  subst e
  cases hd3
  refine ⟨k, rfl, ?_⟩
  cases k with
  | true =>
    refine iteT ((show EX K tc sl o3 _ from p3) F V0 σ H3 hs3 (hl.mono ((e1.trans e2).trans e3)) _ fun u H4 d4 o4 hs4 e4 hd4 p4 => ?_)
    exact p4 F V0 H4 w u hs4 (hd2.mono (e3.trans e4)) hd4 Q fun z H5 d5 o5 hs5 e5 hd5 p5 => q z H5 d5 o5 hs5 ((((e1.trans e2).trans e3).trans e4).trans e5) hd5 p5
  | false => exact iteF (q _ H3 _ o3 hs3 ((e1.trans e2).trans e3) (.bl _) p3)

/-! ### promises over data -/
/-- what is wanted of an exception: its class, its own dict, the cells -/
abbrev XD := Value → Option Addr → Own → Prop
abbrev Con := List Dat → Own → PD → XD → Prop
def SpG (K : PySem.W.Frag) (C : Con) : Sp := fun vs H Q E => ∃ (F V0 : Hp) (own : Own) (args : List Dat) (P : PD) (XP : XD), Hs K F V0 H own ∧ DaL K (vis F own H) vs args ∧ C args own P XP ∧
  (∀ v H' d own', Hs K F V0 H' own' → Same (vis F own H) (vis F own' H') → Da K (vis F own' H') v d → P d own' → Q v H') ∧
  (∀ c dx H' own', Hs K F V0 H' own' → Same (vis F own H) (vis F own' H') → XP c dx own' → E c dx H')
def noX : XD := fun _ _ _ => False
theorem ex_call {C : Con} {dvs : List V} {dds : List Dat} {E : XK} {t : TA} (hd : ∀ W, DaL K W dvs dds) (h : AX K t sl own fun ds o => C (ds ++ dds) o P noX) : EX K (tCall (SpG K C) dvs E t) sl own P := fun F V0 σ H hs hl Q q => by
  refine h F V0 σ H hs hl _ fun vs H1 ds o1 hs1 e1 hd1 p1 => ?_
  exact ⟨F, V0, o1, ds ++ dds, P, noX, hs1, hd1.append (hd _), p1, fun v H2 d o2 hs2 e2 hd2 p2 => q v H2 d o2 hs2 (e1.trans e2) hd2 p2, fun _ _ _ _ _ _ z => z.elim⟩
theorem ex_call0 {C : Con} {E : XK} {t : TA} (h : AX K t sl own fun ds o => C ds o P noX) : EX K (tCall (SpG K C) [] E t) sl own P := ex_call (dds := []) (fun _ => .nil) (by
  intro F V0 σ H hs hl Q q
  exact h F V0 σ H hs hl Q fun vs H1 ds o1 a b c p => q vs H1 ds o1 a b c (by show C (ds ++ []) o1 P noX; rw [List.append_nil]; exact p))
theorem ex_meth {C : Con} {Ca : Addr} {m : Str} {dvs : List V} {dds : List Dat} {E : XK} {t : TA} (hd : ∀ W, DaL K W dvs dds) (h : EX K ta sl own fun d o => ∃ ns ds0, ObjD o d Ca ns ds0 ∧ fidx ns m = none ∧ AX K t sl o fun ds o => C (d :: (ds ++ dds)) o P noX) : EX K (tMeth Ca m (SpG K C) dvs E ta t) sl own P := fun F V0 σ H hs hl Q q => by
  refine h F V0 σ H hs hl _ fun v H1 d o1 hs1 e1 hd1 ⟨ns, ds0, ho, hm, p1⟩ => ?_
  obtain ⟨a, dx, gs, rfl, ha, hk, hg⟩ := ho.ob hs1 hd1
  refine ⟨a, dx, gs, rfl, ha, fidx_none hm hk, ?_⟩
  refine p1 F V0 σ H1 hs1 (hl.mono e1) _ fun vs H2 ds o2 hs2 e2 hd2 p2 => ?_
  exact ⟨F, V0, o2, d :: (ds ++ dds), P, noX, hs2, .cons (hd1.mono e2) (hd2.append (hd _)), p2, fun v H3 d o3 hs3 e3 hd3 p3 => q v H3 d o3 hs3 ((e1.trans e2).trans e3) hd3 p3, fun _ _ _ _ _ _ z => z.elim⟩
theorem ex_meth0 {C : Con} {Ca : Addr} {m : Str} {E : XK} {t : TA} (h : EX K ta sl own fun d o => ∃ ns ds0, ObjD o d Ca ns ds0 ∧ fidx ns m = none ∧ AX K t sl o fun ds o => C (d :: ds) o P noX) : EX K (tMeth Ca m (SpG K C) [] E ta t) sl own P :=
  ex_meth (dds := []) (fun _ => .nil) (ex_mono h fun d o ⟨ns, ds0, a, b, c⟩ => ⟨ns, ds0, a, b, fun F V0 σ H hs hl Q q => c F V0 σ H hs hl Q fun vs H1 ds o1 x y z p => q vs H1 ds o1 x y z (by show C (d :: (ds ++ [])) o1 P noX; rw [List.append_nil]; exact p)⟩)
/-- C(..): a new instance, an owned cell -/
theorem ex_make {C : Con} {Ca : Addr} {E : XK} {t : TA} (h : AX K t sl own fun ds o => ∀ x, x ∉ o.map (·.1) → C (.ptr x :: ds) ((x, .ins Ca [] []) :: o) (fun d o' => d = .non ∧ P (.ptr x) o') noX) : EX K (tMake Ca (SpG K C) [] E t) sl own P := fun F V0 σ H hs hl Q q => by
  refine h F V0 σ H hs hl _ fun vs H1 ds o1 hs1 e1 hd1 p1 => ?_
  intro x dx nx ndx ne
  have s1 : Same H1 (upd H1 dx (.own x)) := same_new ndx
  have hs2 := hs1.grow s1
  have g1 := vis_grow hs1 s1
  have nx2 : upd H1 dx (.own x) x = none := by rw [upd_ne ne.symm]; exact nx
  have hs3 := hs2.new (o := .ins Ca dx []) nx2 (c := .ins Ca [] []) (.ins (gs := []) upd_same rfl .nil)
  have ev : vis F ((x, Cell.ins Ca [] []) :: o1) (upd (upd H1 dx (.own x)) x (.ins Ca dx [])) = vis F o1 (upd H1 dx (.own x)) := vis_new hs2 nx2
  refine ⟨F, V0, (x, .ins Ca [] []) :: o1, .ptr x :: ds, _, noX, hs3, .cons (.ptr x) ?_, p1 x (fresh_own hs2 nx2), fun v H3 d o3 hs3 e3 hd3 ⟨z, p3⟩ => ?_, fun _ _ _ _ _ _ z => z.elim⟩
  · rw [ev, List.append_nil]; exact hd1.mono g1
  · subst z
    cases hd3
    rw [ev] at e3
    exact ⟨rfl, q _ H3 _ o3 hs3 ((e1.trans g1).trans e3) (.ptr x) p3⟩
/-- built-in functions and methods -/
theorem ex_cb {r : List V → Hp → VK → Prop} {t : TA} (h : AX K t sl own fun ds o => RLX K r ds o P) : EX K (tCB r t) sl own P := fun F V0 σ H hs hl Q q => by
  refine h F V0 σ H hs hl _ fun vs H1 ds o1 hs1 e1 hd1 p1 => ?_
  exact p1 F V0 H1 vs hs1 hd1 Q fun v H2 d o2 hs2 e2 hd2 p2 => q v H2 d o2 hs2 (e1.trans e2) hd2 p2
theorem ex_m1 {r : V → List V → Hp → VK → Prop} (h : EX K ta sl own fun d o => ∃ z, d = .str z ∧ EX K te sl o fun e o2 => RMX K r d [e] o2 P) : EX K (tM1 r ta te) sl own P := fun F V0 σ H hs hl Q q => by
  refine h F V0 σ H hs hl _ fun v H1 d o1 hs1 e1 hd1 ⟨z, e, p1⟩ => ?_
  subst e
  refine ⟨by cases hd1; exact ⟨_, rfl⟩, ?_⟩
  refine p1 F V0 σ H1 hs1 (hl.mono e1) _ fun w H2 d2 o2 hs2 e2 hd2 p2 => ?_
  exact p2 F V0 H2 v [w] hs2 (hd1.mono e2) (.cons hd2 .nil) Q fun v H3 d o3 hs3 e3 hd3 p3 => q v H3 d o3 hs3 ((e1.trans e2).trans e3) hd3 p3
end
end Sy
/-! Rules of the symbolic layer: targets, statements, loops, comprehensions. -/
namespace Sy
open PySem L2

structure DE where
  nx : SL → Own → Prop
  rt : Dat → Own → Prop
  bk : SL → Own → Prop := fun _ _ => False
  ct : SL → Own → Prop := fun _ _ => False
  xp : XD := fun _ _ _ => False

def SS (K : PySem.W.Frag) (E : XK) (t : TS) (sl : SL) (own : Own) (D : DE) : Prop := ∀ (F V0 : Hp) (σ : L2.St) (H : Hp), Hs K F V0 H own → Sl K (vis F own H) σ sl → ∀ D' : Ends,
  (∀ σ' H' sl' own', Hs K F V0 H' own' → Same (vis F own H) (vis F own' H') → Sl K (vis F own' H') σ' sl' → D.nx sl' own' → D'.nx σ' H') →
  (∀ v H' d own', Hs K F V0 H' own' → Same (vis F own H) (vis F own' H') → Da K (vis F own' H') v d → D.rt d own' → D'.rt v H') →
  (∀ σ' H' sl' own', Hs K F V0 H' own' → Same (vis F own H) (vis F own' H') → Sl K (vis F own' H') σ' sl' → D.bk sl' own' → D'.bk σ' H') →
  (∀ σ' H' sl' own', Hs K F V0 H' own' → Same (vis F own H) (vis F own' H') → Sl K (vis F own' H') σ' sl' → D.ct sl' own' → D'.ct σ' H') →
  (∀ c dx H' own', Hs K F V0 H' own' → Same (vis F own H) (vis F own' H') → D.xp c dx own' → E c dx H') → t D' σ H
/-- all slots but js are alike -/
def Agr (js : Nat → Prop) (σ σ' : L2.St) : Prop := σ'.length = σ.length ∧ ∀ j, ¬ js j → σ'[j]? = σ[j]?
abbrev anyJ : Nat → Prop := fun _ => True
/-- a target: js are the slots that it may store -/
def GX (K : PySem.W.Frag) (g : TG) (js : Nat → Prop) (d : Dat) (sl : SL) (own : Own) (P : SL → Own → Prop) : Prop := ∀ (F V0 : Hp) (σ : L2.St) (H : Hp) (x : V), Hs K F V0 H own → Sl K (vis F own H) σ sl → Da K (vis F own H) x d →
  ∀ Q : L2.St → Hp → Prop, (∀ σ' H' sl' own', Hs K F V0 H' own' → Same (vis F own H) (vis F own' H') → Sl K (vis F own' H') σ' sl' → Agr js σ σ' → P sl' own' → Q σ' H') → g x σ H Q
def GsX (K : PySem.W.Frag) (g : TGs) (js : Nat → Prop) (ds : List Dat) (sl : SL) (own : Own) (P : SL → Own → Prop) : Prop := ∀ (F V0 : Hp) (σ : L2.St) (H : Hp) (xs : List V), Hs K F V0 H own → Sl K (vis F own H) σ sl → DaL K (vis F own H) xs ds →
  ∀ Q : L2.St → Hp → Prop, (∀ σ' H' sl' own', Hs K F V0 H' own' → Same (vis F own H) (vis F own' H') → Sl K (vis F own' H') σ' sl' → Agr js σ σ' → P sl' own' → Q σ' H') → g xs σ H Q
def PtX (K : PySem.W.Frag) (t : TSet) (d e f : Dat) (own : Own) (P : Own → Prop) : Prop := ∀ (F V0 H : Hp) (x y z : V), Hs K F V0 H own → Da K (vis F own H) x d → Da K (vis F own H) y e → Da K (vis F own H) z f →
  ∀ Q : Hp → Prop, (∀ H' own', Hs K F V0 H' own' → Same (vis F own H) (vis F own' H') → P own' → Q H') → t x y z H Q

section
variable {K : PySem.W.Frag} {E : XK} {own o1 l r : Own} {sl : SL} {P : PD} {d e : Dat} {X : Cx} {ta tb tc te : TE} {D : DE} {t u : TS} {PS' : SL → Own → Prop}

theorem gx_name {i : Nat} {js : Nat → Prop} (hj : js i) (p : PS' (sl.set i (some d)) own) : GX K (gName i) js d sl own PS' := fun F V0 σ H x hs hl hd Q q =>
  q _ H _ own hs (Same.refl _) (hl.set i hd) ⟨List.length_set .., fun j hj2 => by rw [List.getElem?_set_ne]; intro z; subst z; exact hj2 hj⟩ p
theorem gsx_nil {js : Nat → Prop} (p : PS' sl own) : GsX K gNil js [] sl own PS' := fun F V0 σ H xs hs hl hd Q q => by
  cases hd
  exact ⟨rfl, q σ H sl own hs (Same.refl _) hl ⟨rfl, fun _ _ => rfl⟩ p⟩
theorem gsx_cons {g : TG} {gs : TGs} {js : Nat → Prop} {ds : List Dat} (h : GX K g js d sl own fun sl2 o2 => GsX K gs js ds sl2 o2 PS') : GsX K (gCons g gs) js (d :: ds) sl own PS' := fun F V0 σ H xs hs hl hd Q q => by
  cases hd with
  | cons h1 h2 =>
    refine ⟨_, _, rfl, h F V0 σ H _ hs hl h1 _ fun σ1 H1 sl1 o1 hs1 e1 hl1 j1 p1 => ?_⟩
    refine p1 F V0 σ1 H1 _ hs1 hl1 (h2.mono e1) Q fun σ2 H2 sl2 o2 hs2 e2 hl2 j2 p2 => ?_
    refine q σ2 H2 sl2 o2 hs2 (e1.trans e2) hl2 ⟨j2.1.trans j1.1, fun j hj => ?_⟩ p2
    rw [j2.2 j hj, j1.2 j hj]
theorem gx_tup {n : Nat} {gs : TGs} {js : Nat → Prop} {ds : List Dat} (hn : ds.length = n) (h : GsX K gs js ds sl own PS') : GX K (gTup K n gs) js (.tup ds) sl own PS' := fun F V0 σ H x hs hl hd Q q => by
  cases hd with
  | tup ha la => exact ⟨_, _, rfl, sq_t vis_sub ha, by rw [la.length]; exact hn, h F V0 σ H _ hs hl la Q q⟩
theorem gx_sub {js : Nat → Prop} {to ti : TE} {t : TSet} (h : EX K to sl own fun d1 o1 => EX K ti sl o1 fun d2 o2 => PtX K t d1 d2 d o2 (PS' sl)) : GX K (gSub to ti t) js d sl own PS' := fun F V0 σ H x hs hl hd Q q => by
  refine h F V0 σ H hs hl _ fun v H1 d1 o1 hs1 e1 hd1 p1 => ?_
  refine p1 F V0 σ H1 hs1 (hl.mono e1) _ fun w H2 d2 o2 hs2 e2 hd2 p2 => ?_
  refine p2 F V0 H2 v w x hs2 (hd1.mono e2) hd2 (hd.mono (e1.trans e2)) _ fun H3 o3 hs3 e3 p3 => ?_
  exact q σ H3 sl o3 hs3 ((e1.trans e2).trans e3) (hl.mono ((e1.trans e2).trans e3)) ⟨rfl, fun _ _ => rfl⟩ p3

/-! ### stores by place -/
def rSetDic : V → V → V → Hp → (Hp → Prop) → Prop := fun o i v H Q => ∃ a H', o = .ref a ∧ DPut H a i v H' ∧ Q H'
theorem set_dic (hu : X.A.units + 1 < cLine) : PSet X rSetDic := by
  intro pins s σ H o i v ov iv u Q I ro ri rv h
  obtain ⟨a, H', rfl, g, q⟩ := h
  obtain rfl : ov = Value.ref a := ro
  exact d_setItem hu I g ri rv fun s4 I4 => ⟨H', I4, q⟩
def uSet : TSet := fun o i v H Q => rSetL o i v H Q ∨ rSetDic o i v H Q
theorem set_U (hu : X.A.units + 1 < cLine) : PSet X uSet := by
  intro pins s σ H o i v ov iv u Q I ro ri rv h
  rcases h with h | h
  · exact set_list pins s σ H o i v ov iv u Q I ro ri rv h
  · exact set_dic hu pins s σ H o i v ov iv u Q I ro ri rv h
theorem set_lst {a : Addr} {ds : List Dat} {i : Int} {j : Nat} {f : Dat} {P : Own → Prop} (hj : ixN ds.length i = some j) (p : P (l ++ (a, .lst (ds.set j f)) :: r)) : PtX K uSet (.ptr a) (.int i) f (l ++ (a, .lst ds) :: r) P := fun F V0 H x y z hs hx hy hz Q q => by
  cases hx; cases hy
  have c := hs.cell _ (List.mem_append_right l List.mem_cons_self)
  cases c with
  | lst h1 t =>
    refine .inl ⟨a, _, i, j, rfl, rfl, h1, by rw [t.length]; exact hj, ?_⟩
    refine q _ (l ++ (a, .lst (ds.set j f)) :: r) (hs.put (.lst upd_same (t.set hz j))) ?_ p
    rw [vis_put (c := .lst ds)]; exact Same.refl _
theorem putK_pos {κ : Type} [DecidableEq κ] {p : κ × V} {kws : List (κ × V)} {k : κ} {v : V} (e : p.1 = k) (nd : k ∉ kws.map (·.1)) : putK (p :: kws) k v = (p.1, v) :: kws := by
  unfold putK
  rw [if_pos (by simp [e]), List.map_cons, if_pos e]
  congr 1
  have : ∀ q ∈ kws, (if q.1 = k then (q.1, v) else q) = q := fun q hq => if_neg fun z => nd (List.mem_map.mpr ⟨q, hq, z⟩)
  rw [List.map_congr_left this, List.map_id']
theorem putK_neg {κ : Type} [DecidableEq κ] {p : κ × V} {kws : List (κ × V)} {k : κ} {v : V} (e : ¬ p.1 = k) : putK (p :: kws) k v = p :: putK kws k v := by
  unfold putK
  rw [List.any_cons, decide_eq_false e, Bool.false_or]
  split
  · rw [List.map_cons, if_neg e]
  · rfl
theorem putK_keys {κ : Type} [DecidableEq κ] {W : Hp} {v : V} {k : κ} (hv : Da K W v d) : ∀ {kws : List (κ × V)} {ds : List Dat}, (kws.map (·.1)).Nodup → DaL K W (kws.map (·.2)) ds →
    (putK kws k v).map (·.1) = (match kix (kws.map (·.1)) k with | some _ => kws.map (·.1) | none => kws.map (·.1) ++ [k]) ∧
    DaL K W ((putK kws k v).map (·.2)) (match kix (kws.map (·.1)) k with | some i => ds.set i d | none => ds ++ [d])
  | [], ds, _, h => by
    rw [List.map_nil] at h
    cases h
    exact ⟨rfl, .cons hv .nil⟩
  | p :: kws, ds, nd, h => by
    rw [List.map_cons] at nd h
    obtain ⟨n1, n2⟩ := List.nodup_cons.mp nd
    cases h with
    | cons h1 h2 =>
      by_cases e : p.1 = k
      · have e2 : kix (p.1 :: kws.map (·.1)) k = some 0 := by unfold kix; rw [if_pos e]
        rw [putK_pos e (by rw [← e]; exact n1), List.map_cons, List.map_cons, List.map_cons, e2]
        exact ⟨rfl, .cons hv h2⟩
      · have e2 : kix (p.1 :: kws.map (·.1)) k = (kix (kws.map (·.1)) k).map (· + 1) := by
          show (if p.1 = k then _ else _) = _
          rw [if_neg e]
        obtain ⟨i1, i2⟩ := putK_keys hv (k := k) n2 h2
        rw [putK_neg e, List.map_cons, List.map_cons, List.map_cons, e2, i1]
        cases q : kix (kws.map (·.1)) k with
        | none => rw [q] at i2; exact ⟨rfl, .cons h1 i2⟩
        | some i => rw [q] at i2; exact ⟨rfl, .cons h1 i2⟩
theorem kix_none {κ : Type} [DecidableEq κ] {k : κ} : ∀ {ks : List κ}, kix ks k = none → k ∉ ks
  | [], _, h => by cases h
  | n :: ns, h, hm => by
    unfold kix at h
    by_cases e : n = k
    · rw [if_pos e] at h; cases h
    · rw [if_neg e] at h
      rcases List.mem_cons.mp hm with z | z
      · exact e z.symm
      · exact kix_none (Option.map_eq_none_iff.mp h) z
/-- the keys and values of a dict behind a store -/
def kput {κ : Type} [DecidableEq κ] (ks : List κ) (k : κ) : List κ := match kix ks k with | some _ => ks | none => ks ++ [k]
theorem kput_nd {κ : Type} [DecidableEq κ] {ks : List κ} {k : κ} (h : ks.Nodup) : (kput ks k).Nodup := by
  unfold kput
  cases q : kix ks k with
  | some i => exact h
  | none =>
    rw [List.nodup_append]
    exact ⟨h, List.nodup_cons.mpr ⟨by simp, List.nodup_nil⟩, fun a ha b hb z => by
      rw [List.mem_singleton] at hb
      subst hb
      subst z
      exact kix_none q ha⟩
def dput {κ : Type} [DecidableEq κ] (ks : List κ) (k : κ) (ds : List Dat) (d : Dat) : List Dat := match kix ks k with | some i => ds.set i d | none => ds ++ [d]
theorem set_dc {a : Addr} {ks : List Key} {ds : List Dat} {k : Key} {f : Dat} {P : Own → Prop} (hz : ks.length < sizeLine) (p : P (l ++ (a, .dK (kput ks k) (dput ks k ds f)) :: r)) : PtX K uSet (.ptr a) (keyD k) f (l ++ (a, .dK ks ds) :: r) P := fun F V0 H x y z hs hx hy hzz Q q => by
  cases hx
  obtain rfl := keyD_v hy
  have c := hs.cell _ (List.mem_append_right l List.mem_cons_self)
  cases c with
  | dK h1 n u t =>
    rename_i kws
    obtain ⟨e1, e2⟩ := putK_keys (k := k) hzz (by rw [n]; exact u) t
    rw [n] at e1 e2
    refine .inr ⟨a, _, rfl, .inl ⟨kws, k, h1, rfl, by rw [← n, List.length_map] at hz; exact hz, rfl⟩, ?_⟩
    refine q _ (l ++ (a, .dK (kput ks k) (dput ks k ds f)) :: r) (hs.put (.dK upd_same e1 (kput_nd u) e2)) ?_ p
    rw [vis_put (c := .dK ks ds)]; exact Same.refl _

/-! ### statements -/
theorem ss_seq' (h : SS K E t sl own { D with nx := fun sl2 o2 => SS K E u sl2 o2 D }) : SS K E (tSeq t u) sl own D := fun F V0 σ H hs hl D' n1 r1 b1 c1 x1 => by
  refine h F V0 σ H hs hl { D' with nx := u D' } (fun σ' H' sl' own' a b c p => ?_) r1 b1 c1 x1
  exact p F V0 σ' H' a c D' (fun σ2 H2 sl2 o2 a2 b2 c2 p2 => n1 σ2 H2 sl2 o2 a2 (b.trans b2) c2 p2) (fun v H2 d o2 a2 b2 c2 p2 => r1 v H2 d o2 a2 (b.trans b2) c2 p2)
    (fun σ2 H2 sl2 o2 a2 b2 c2 p2 => b1 σ2 H2 sl2 o2 a2 (b.trans b2) c2 p2) (fun σ2 H2 sl2 o2 a2 b2 c2 p2 => c1 σ2 H2 sl2 o2 a2 (b.trans b2) c2 p2) (fun c dx H2 o2 a2 b2 p2 => x1 c dx H2 o2 a2 (b.trans b2) p2)
theorem ss_next' (p : D.nx sl own) : SS K E tNext sl own D := fun F V0 σ H hs hl D' n1 r1 b1 c1 x1 => n1 σ H sl own hs (Same.refl _) hl p
theorem ss_brk' (p : D.bk sl own) : SS K E tBreak sl own D := fun F V0 σ H hs hl D' n1 r1 b1 c1 x1 => b1 σ H sl own hs (Same.refl _) hl p
theorem ss_cont' (p : D.ct sl own) : SS K E tCont sl own D := fun F V0 σ H hs hl D' n1 r1 b1 c1 x1 => c1 σ H sl own hs (Same.refl _) hl p
theorem ss_drop' (h : EX K te sl own fun _ o => D.nx sl o) : SS K E (tDrop te) sl own D := fun F V0 σ H hs hl D' n1 r1 b1 c1 x1 =>
  h F V0 σ H hs hl _ fun v H1 d o1 hs1 e1 hd1 p => n1 σ H1 sl o1 hs1 e1 (hl.mono e1) p
theorem ss_ret' (h : EX K te sl own D.rt) : SS K E (tRet te) sl own D := fun F V0 σ H hs hl D' n1 r1 b1 c1 x1 =>
  h F V0 σ H hs hl _ fun v H1 d o1 hs1 e1 hd1 p => r1 v H1 d o1 hs1 e1 hd1 p
theorem ss_retN' (h : D.rt .non own) : SS K E tRetN sl own D := fun F V0 σ H hs hl D' n1 r1 b1 c1 x1 => r1 .non H .non own hs (Same.refl _) .non h
theorem ss_asg' {g : TG} (h : EX K te sl own fun d o => GX K g anyJ d sl o D.nx) : SS K E (tAsg te g) sl own D := fun F V0 σ H hs hl D' n1 r1 b1 c1 x1 => by
  refine h F V0 σ H hs hl _ fun v H1 d o1 hs1 e1 hd1 p => ?_
  exact p F V0 σ H1 v hs1 (hl.mono e1) hd1 _ fun σ2 H2 sl2 o2 a2 b2 c2 _ p2 => n1 σ2 H2 sl2 o2 a2 (e1.trans b2) c2 p2
theorem ss_set' {i : Nat} (h : EX K te sl own fun d o => D.nx (sl.set i (some d)) o) : SS K E (tAsg te (gName i)) sl own D := ss_asg' (ex_mono h fun d o p => gx_name trivial p)
theorem ss_if' {c : TT} (h : TX K c sl own fun b o => if b = true then SS K E t sl o D else SS K E u sl o D) : SS K E (tIfS c t u) sl own D := fun F V0 σ H hs hl D' n1 r1 b1 c1 x1 => by
  refine h F V0 σ H hs hl _ fun b H1 o1 hs1 e1 p => ?_
  have go : ∀ w : TS, SS K E w sl o1 D → w D' σ H1 := fun w q => q F V0 σ H1 hs1 (hl.mono e1) D' (fun σ2 H2 sl2 o2 a2 b2 c2 p2 => n1 σ2 H2 sl2 o2 a2 (e1.trans b2) c2 p2) (fun v H2 d o2 a2 b2 c2 p2 => r1 v H2 d o2 a2 (e1.trans b2) c2 p2)
    (fun σ2 H2 sl2 o2 a2 b2 c2 p2 => b1 σ2 H2 sl2 o2 a2 (e1.trans b2) c2 p2) (fun σ2 H2 sl2 o2 a2 b2 c2 p2 => c1 σ2 H2 sl2 o2 a2 (e1.trans b2) c2 p2) (fun c dx H2 o2 a2 b2 p2 => x1 c dx H2 o2 a2 (e1.trans b2) p2)
  cases b with
  | true => exact iteT (go t p)
  | false => exact iteF (go u p)
/-- x op= e on a name -/
theorem ss_aug' {i : Nat} {ti : TIp} (h : sl[i]? = some (some d)) (h2 : EX K te sl own fun e o => R2X K ti d e o fun z o2 => D.nx (sl.set i (some z)) o2) : SS K E (tAug i te ti) sl own D := fun F V0 σ H hs hl D' n1 r1 b1 c1 x1 => by
  obtain ⟨x, e, hx⟩ := hl.2 i d h
  refine ⟨x, e, h2 F V0 σ H hs hl _ fun y H1 d1 o1 hs1 e1 hd1 p1 => ?_⟩
  exact p1 F V0 H1 x y hs1 (hx.mono e1) hd1 _ fun z H2 d2 o2 hs2 e2 hd2 p2 => n1 _ H2 _ o2 hs2 (e1.trans e2) ((hl.mono (e1.trans e2)).set i hd2) p2
/-- o.f = e, o an owned cell -/
theorem ss_fld' {tv : TE} {f : Str} (h : EX K tv sl own fun e o => EX K ta sl o fun d o2 => ∃ a C ns ds l r, d = .ptr a ∧ o2 = l ++ (a, .ins C ns ds) :: r ∧ Cls K C ∧ NoAttr K C f ∧ ns.length < 1000 ∧ D.nx sl (l ++ (a, .ins C (putN ns f) (putX ns f ds e)) :: r)) : SS K E (sFld K ta tv f) sl own D := fun F V0 σ H hs hl D' n1 r1 b1 c1 x1 => by
  refine h F V0 σ H hs hl _ fun y H1 d1 o1 hs1 e1 hd1 p1 => ?_
  refine p1 F V0 σ H1 hs1 (hl.mono e1) _ fun x H2 d2 o2 hs2 e2 hd2 ⟨a, C, ns, ds, l, r, z1, z2, hc, hn, hz, p2⟩ => ?_
  subst z1 z2
  cases hd2
  have c := hs2.cell _ (List.mem_append_right l List.mem_cons_self)
  cases c with
  | ins h1 n t =>
    rename_i dx gs
    obtain ⟨q1, q2⟩ := putF_ok (hd1.mono e2) (f := f) n t
    have e3 : Same (vis F (l ++ (a, Cell.ins C ns ds) :: r) H2) (vis F (l ++ (a, Cell.ins C (putN ns f) (putX ns f ds d1)) :: r) (upd H2 a (.ins C dx (putF f y gs)))) := by
      rw [vis_put (c := .ins C ns ds)]; exact Same.refl _
    refine ⟨a, C, dx, gs, rfl, h1, hc, hn, by rw [← n, List.length_map] at hz; exact hz, ?_⟩
    exact n1 σ _ sl _ (hs2.put (.ins upd_same q1 q2)) ((e1.trans e2).trans e3) (hl.mono ((e1.trans e2).trans e3)) p2
theorem ss_cl (c : Cl own o1) (h : SS K E t sl o1 D) : SS K E t sl own D := fun F V0 σ H hs hl D' n1 r1 b1 c1 x1 => by
  obtain ⟨h1, e1⟩ := c K F V0 H hs
  exact h F V0 σ H h1 (hl.mono e1) D' (fun σ2 H2 sl2 o2 a2 b2 c2 p2 => n1 σ2 H2 sl2 o2 a2 (e1.trans b2) c2 p2) (fun v H2 d o2 a2 b2 c2 p2 => r1 v H2 d o2 a2 (e1.trans b2) c2 p2)
    (fun σ2 H2 sl2 o2 a2 b2 c2 p2 => b1 σ2 H2 sl2 o2 a2 (e1.trans b2) c2 p2) (fun σ2 H2 sl2 o2 a2 b2 c2 p2 => c1 σ2 H2 sl2 o2 a2 (e1.trans b2) c2 p2) (fun c dx H2 o2 a2 b2 p2 => x1 c dx H2 o2 a2 (e1.trans b2) p2)
/-- the drawing's state is opened -/
theorem ss_open {s : Addr} (h : ∀ x y, RngOk x y → SS K E t sl (l ++ (s, .lst [.int x, .int y]) :: r) D) : SS K E t sl (l ++ (s, .rng) :: r) D := fun F V0 σ H hs hl => by
  have c := hs.cell _ (List.mem_append_right l List.mem_cons_self)
  cases c with
  | rng h1 z =>
    rename_i x y
    have hs2 : Hs K F V0 H (l ++ (s, .lst [.int x, .int y]) :: r) := hs.retell fun W _ => .lst h1 (.cons (.int x) (.cons (.int y) .nil))
    have ev : vis F (l ++ (s, Cell.lst [.int x, .int y]) :: r) H = vis F (l ++ (s, Cell.rng) :: r) H := vis_retell
    have q := h x y z F V0 σ H hs2 (by rw [ev]; exact hl)
    rw [ev] at q
    exact q
/-- a slot's list of one's own becomes data -/
theorem ss_frz {a : Addr} {c : Cell} {i : Nat} (hi : sl[i]? = some (some (.ptr a))) (hc : c.dat = some e) (h : SS K E t (sl.set i (some e)) (l ++ r) D) : SS K E t sl (l ++ (a, c) :: r) D := fun F V0 σ H hs hl D' n1 r1 b1 c1 x1 => by
  have e1 : Same (vis F (l ++ (a, c) :: r) H) (vis F (l ++ r) H) := vis_drop
  have hd := freezeA hs hc
  have hl2 := hl.mono e1
  refine h F V0 σ H hs.drop ⟨by rw [List.length_set]; exact hl2.1, fun j f q => ?_⟩ D' (fun σ2 H2 sl2 o2 a2 b2 c2 p2 => n1 σ2 H2 sl2 o2 a2 (e1.trans b2) c2 p2) (fun v H2 d o2 a2 b2 c2 p2 => r1 v H2 d o2 a2 (e1.trans b2) c2 p2)
    (fun σ2 H2 sl2 o2 a2 b2 c2 p2 => b1 σ2 H2 sl2 o2 a2 (e1.trans b2) c2 p2) (fun σ2 H2 sl2 o2 a2 b2 c2 p2 => c1 σ2 H2 sl2 o2 a2 (e1.trans b2) c2 p2) (fun c dx H2 o2 a2 b2 p2 => x1 c dx H2 o2 a2 (e1.trans b2) p2)
  by_cases hj : i = j
  · subst hj
    rw [List.getElem?_set_self (List.getElem?_eq_some_iff.mp hi).1] at q
    cases q
    obtain ⟨v, e2, hv⟩ := hl2.2 i _ hi
    cases hv
    exact ⟨_, e2, hd⟩
  · rw [List.getElem?_set_ne hj] at q
    exact hl2.2 j f q

/-! ### loops -/
/-- what an iterator gives: xs, as long as Keep holds of the cells -/
def Items (K : PySem.W.Frag) (V1 : Hp) (J : It) (xs : List Dat) (Keep : Own → Prop) : Prop := ∃ (G : Hp → Prop) (Y : Nat → Hp → V → Hp → Prop), Walk J xs.length G Y ∧
  (∀ F H own, Hs K F V1 H own → Keep own → G H) ∧ ∀ F i H x H' own, i < xs.length → Hs K F V1 H own → Keep own → Y i H x H' → Same H H' ∧ ∃ d, xs[i]? = some d ∧ Da K (vis F own H') x d
def IX (K : PySem.W.Frag) (wi : TI) (sl : SL) (own : Own) (R : List Dat → (Own → Prop) → Own → Prop) : Prop := ∀ (F V0 : Hp) (σ : L2.St) (H : Hp), Hs K F V0 H own → Sl K (vis F own H) σ sl →
  ∀ Q : It → Hp → Prop, (∀ J H' own' xs Keep, Hs K F V0 H' own' → Same (vis F own H) (vis F own' H') → Items K (vis F own' H') J xs Keep → R xs Keep own' → Q J H') → wi σ H Q
abbrev anyO : Own → Prop := fun _ => True
def iSeq (K : PySem.W.Frag) (tl : TE) : TI := fun σ H R => tl σ H fun x H1 => ∃ a, x = .ref a ∧ ((∃ xs, SqL K H1 a xs) ∧ R (Itl K a) H1 ∨ (∃ xs, SqT K H1 a xs) ∧ R (Itt K a) H1)
theorem pi_seq {tg l : Expr} {tl : TE} (hl : PE X l tl) : PI X tg l (iSeq X.K tl) := by
  refine ⟨fun pins s σ H R I h => ?_⟩
  refine thn (hl.run pins s σ H _ I h) fun v s1 ⟨x, H1, I1, r1, q1⟩ => ?_
  obtain ⟨a, e, q⟩ := q1
  subst e
  cases r1
  rcases q with ⟨⟨xs, hq⟩, q⟩ | ⟨⟨xs, hq⟩, q⟩
  · obtain ⟨its, rv, p, hz⟩ := I1.list hq
    refine wpAny_pyIter_list p.isList ?_
    refine ⟨s1.heap.objs.size, [s1.heap.objs.size], _, _, H1, rfl, I1.kept (t' := s1.toks) fun b o e => Heap.get?_push_of_some _ e, turn_list a _, ⟨_, Heap.get?_push_size _ rfl, rfl, rfl⟩, fun b hb => ?_, q⟩
    have e : b = s1.heap.objs.size := by simpa using hb
    subst e
    exact I1.fpOk (Nat.le_refl _) (I1.hok.fresh (Nat.le_refl _))
  · obtain ⟨its, rv, p, hz⟩ := I1.tuple hq
    refine wpAny_pyIter_tuple (show s1.heap.IsTuple a its.toArray from p) ?_
    refine ⟨s1.heap.objs.size, [s1.heap.objs.size], _, _, H1, rfl, I1.kept (t' := s1.toks) fun b o e => Heap.get?_push_of_some _ e, turn_tuple a _, ⟨_, Heap.get?_push_size _ rfl, rfl, rfl⟩, fun b hb => ?_, q⟩
    have e : b = s1.heap.objs.size := by simpa using hb
    subst e
    exact I1.fpOk (Nat.le_refl _) (I1.hok.fresh (Nat.le_refl _))
theorem ix_seq' {R : List Dat → (Own → Prop) → Own → Prop} (h : EX K te sl own fun d o => ∃ ds Keep, R ds Keep o ∧ ((d = .lst ds ∨ d = .scr ds ∨ d = .tup ds) ∧ Keep = anyO ∨ ∃ a, d = .ptr a ∧ (a, Cell.lst ds) ∈ o ∧ Keep = fun o => (a, Cell.lst ds) ∈ o)) : IX K (iSeq K te) sl own R := fun F V0 σ H hs hl Q q => by
  refine h F V0 σ H hs hl _ fun v H1 d o1 hs1 e1 hd1 ⟨ds, Keep, p, z⟩ => ?_
  rcases z with ⟨z, rfl⟩ | ⟨a, rfl, hm, rfl⟩
  · have lst : ∀ a xs, v = .ref a → SqL K (vis F o1 H1) a xs → DaL K (vis F o1 H1) xs ds → ∃ a, v = .ref a ∧ ((∃ xs, SqL K H1 a xs) ∧ Q (Itl K a) H1 ∨ (∃ xs, SqT K H1 a xs) ∧ Q (Itt K a) H1) := fun a xs e sq dl => by
      refine ⟨a, e, .inl ⟨⟨xs, sq_l vis_sub sq⟩, q _ H1 o1 ds anyO hs1 e1 ⟨_, _, (dl.length ▸ walk_list (K := K) (a := a) (xs := xs)), fun F H own hs _ => sq_l (hs.mo.trans vis_sub) sq, fun F i H x H' own hi hs _ y => ?_⟩ p⟩⟩
      obtain ⟨rfl, y⟩ := y
      refine ⟨Same.refl _, ?_⟩
      obtain ⟨d, e1, e2⟩ := dl.getV y
      exact ⟨d, e1, e2.mono hs.mo⟩
    rcases z with rfl | rfl | rfl
    · cases hd1 with
      | lst ha l => exact lst _ _ rfl (.inl (.inl ha)) l
    · cases hd1 with
      | scr ha l => exact lst _ _ rfl ha l
    · cases hd1 with
      | tup ha l =>
        rename_i a xs
        refine ⟨a, rfl, .inr ⟨⟨xs, sq_t vis_sub ha⟩, q _ H1 o1 ds anyO hs1 e1 ⟨_, _, (l.length ▸ walk_tup (K := K) (a := a) (xs := xs)), fun F H own hs _ => sq_t (hs.mo.trans vis_sub) ha, fun F i H x H' own hi hs _ y => ?_⟩ p⟩⟩
        obtain ⟨rfl, y⟩ := y
        refine ⟨Same.refl _, ?_⟩
        obtain ⟨d, e1, e2⟩ := l.getV y
        exact ⟨d, e1, e2.mono hs.mo⟩
  · cases hd1
    have c := hs1.cell _ hm
    cases c with
    | lst ha l =>
      refine ⟨a, rfl, .inl ⟨⟨_, .inl (.inl ha)⟩, q _ H1 o1 ds _ hs1 e1 ?_ p⟩⟩
      refine ⟨fun H => ∃ xs, SqL K H a xs ∧ xs.length = ds.length, fun i H x H' => H' = H ∧ ∀ xs, SqL K H a xs → xs[i]? = some x, ⟨fun i H hi ⟨xs, sq, e⟩ => ⟨xs, xs[i]'(by omega), sq, by simp [show i < xs.length by omega]⟩, fun H ⟨xs, sq, e⟩ => ⟨xs, sq, by omega⟩, fun i H x H' hi g y => ⟨y.1, y.2⟩⟩, fun F H own hs hk => ?_, fun F i H x H' own hi hs hk y => ?_⟩
      · have c := hs.cell _ hk
        cases c with
        | lst ha l => exact ⟨_, .inl (.inl ha), l.length⟩
      · have c := hs.cell _ hk
        obtain ⟨rfl, y⟩ := y
        cases c with
        | lst ha l => exact ⟨Same.refl _, l.getV (y _ (.inl (.inl ha)))⟩
theorem ix_rng1 {ta : TA} {R : List Dat → (Own → Prop) → Own → Prop} (h : AX K ta sl own fun ds o => ∃ j : Int, ds = [.int j] ∧ -(2 ^ 62) ≤ j ∧ j < 2 ^ 62 ∧ R ((List.range j.toNat).map fun i => .int (i : Nat)) anyO o) : IX K (iRng1 ta) sl own R := fun F V0 σ H hs hl Q q => by
  refine h F V0 σ H hs hl _ fun v H1 d o1 hs1 e1 hd1 ⟨j, z, b1, b2, p⟩ => ?_
  subst z
  cases hd1 with
  | cons h1 t =>
    cases t; cases h1
    refine ⟨j, rfl, b1, b2, q _ H1 o1 _ anyO hs1 e1 ⟨fun _ => True, YFn fun i => .int (0 + (i : Nat)), ?_, fun _ _ _ _ _ => trivial, fun F i H x H' own hi hs _ y => ?_⟩ p⟩
    · rw [List.length_map, List.length_range]; exact walk_range
    · obtain ⟨rfl, rfl⟩ := y
      rw [List.length_map, List.length_range] at hi
      exact ⟨Same.refl _, .int (i : Nat), by simp [hi], by show Da K _ (.int (0 + (i : Nat))) _; rw [Int.zero_add]; exact .int _⟩
theorem ix_rng2 {ta : TA} {R : List Dat → (Own → Prop) → Own → Prop} (h : AX K ta sl own fun ds o => ∃ a b : Int, ds = [.int a, .int b] ∧ (-(2 ^ 62) ≤ a ∧ a < 2 ^ 62 ∧ -(2 ^ 62) ≤ b ∧ b < 2 ^ 62) ∧ R ((List.range (b - a).toNat).map fun i => .int (a + (i : Nat))) anyO o) : IX K (iRng2 ta) sl own R := fun F V0 σ H hs hl Q q => by
  refine h F V0 σ H hs hl _ fun v H1 d o1 hs1 e1 hd1 ⟨a, b, z, bb, p⟩ => ?_
  subst z
  cases hd1 with
  | cons h1 t => cases t with
    | cons h2 t =>
      cases t; cases h1; cases h2
      refine ⟨a, b, rfl, bb, q _ H1 o1 _ anyO hs1 e1 ⟨fun _ => True, YFn fun i => .int (a + (i : Nat)), ?_, fun _ _ _ _ _ => trivial, fun F i H x H' own hi hs _ y => ?_⟩ p⟩
      · rw [List.length_map, List.length_range]; exact walk_range
      · obtain ⟨rfl, rfl⟩ := y
        rw [List.length_map, List.length_range] at hi
        exact ⟨Same.refl _, .int (a + (i : Nat)), by simp [hi], .int _⟩
theorem ss_for' {wi : TI} {g : TG} (h : IX K wi sl own fun xs Keep o => ∃ I : Nat → SL → Own → Prop, I 0 sl o ∧ (∀ i sl o, I i sl o → Keep o) ∧
    (∀ i x sl2 o2, xs[i]? = some x → I i sl2 o2 → GX K g anyJ x sl2 o2 fun sl3 o3 => SS K E t sl3 o3 { D with nx := I (i + 1), ct := I (i + 1), bk := D.nx }) ∧ ∀ sl2 o2, I xs.length sl2 o2 → D.nx sl2 o2) : SS K E (tFor wi g t) sl own D := fun F V0 σ H hs hl D' n1 r1 b1 c1 x1 => by
  refine h F V0 σ H hs hl _ fun J H1 o1 xs Keep hs1 e1 its ⟨I, i0, ik, ib, ie⟩ => ?_
  obtain ⟨G, Y, w, hG, hY⟩ := its
  have e2 : ∀ {H2 o2}, Hs K F (vis F o1 H1) H2 o2 → Same (vis F own H) (vis F o2 H2) := fun a => e1.trans a.mo
  have hb : ∀ {H2 o2}, Hs K F (vis F o1 H1) H2 o2 → Hs K F V0 H2 o2 := fun a => a.from hs1.mo
  refine for_it w (fun i σ H => ∃ sl own, Hs K F (vis F o1 H1) H own ∧ Sl K (vis F own H) σ sl ∧ I i sl own) ⟨sl, o1, hs1.now, hl.mono e1, i0⟩ (fun i σ H _ ⟨sl2, o2, a, b, c⟩ => hG F H o2 a (ik i sl2 o2 c)) (fun i x σ H H' hi ⟨sl2, o2, a, b, c⟩ y => ?_) (fun σ2 H2 ⟨sl2, o2, a, b, c⟩ => n1 σ2 H2 sl2 o2 (hb a) (e2 a) b (ie sl2 o2 c))
  obtain ⟨s1, d, hd, hx⟩ := hY F i H x H' o2 hi a (ik i sl2 o2 c) y
  have g1 := vis_grow a s1
  refine ib i d sl2 o2 hd c F (vis F o1 H1) σ H' x (a.grow s1) (b.mono g1) hx _ fun σ3 H3 sl3 o3 hs3 e3 hl3 _ p3 => ?_
  exact p3 F (vis F o1 H1) σ3 H3 hs3 hl3 _ (fun σ4 H4 sl4 o4 a4 b4 c4 p4 => ⟨sl4, o4, a4, c4, p4⟩) (fun v H4 d o4 a4 b4 c4 p4 => r1 v H4 d o4 (hb a4) (e2 a4) c4 p4)
    (fun σ4 H4 sl4 o4 a4 b4 c4 p4 => n1 σ4 H4 sl4 o4 (hb a4) (e2 a4) c4 p4) (fun σ4 H4 sl4 o4 a4 b4 c4 p4 => ⟨sl4, o4, a4, c4, p4⟩) (fun c dx H4 o4 a4 b4 p4 => x1 c dx H4 o4 (hb a4) (e2 a4) p4)
theorem ss_while' {c : TT} (I : Nat → SL → Own → Prop) {m0 : Nat} (i0 : I m0 sl own) (h : ∀ m sl2 o2, I m sl2 o2 → TX K c sl2 o2 fun b o3 => if b = true then SS K E t sl2 o3 { D with nx := fun s o => ∃ m', m' < m ∧ I m' s o, ct := fun s o => ∃ m', m' < m ∧ I m' s o, bk := D.nx } else D.nx sl2 o3) : SS K E (tWhile c t) sl own D := fun F V0 σ H hs hl D' n1 r1 b1 c1 x1 => by
  have e2 : ∀ {H2 o2}, Hs K F (vis F own H) H2 o2 → Same (vis F own H) (vis F o2 H2) := fun a => a.mo
  have hb : ∀ {H2 o2}, Hs K F (vis F own H) H2 o2 → Hs K F V0 H2 o2 := fun a => a.from hs.mo
  refine ⟨fun m σ H' => ∃ sl2 o2, Hs K F (vis F own H) H' o2 ∧ Sl K (vis F o2 H') σ sl2 ∧ I m sl2 o2, ⟨m0, sl, own, hs.now, hl, i0⟩, fun m σ2 H2 ⟨sl2, o2, a, b, p⟩ => ?_⟩
  refine h m sl2 o2 p F (vis F own H) σ2 H2 a b _ fun k H3 o3 hs3 e3 p3 => ?_
  cases k with
  | true =>
    refine iteT ⟨fun σ H' => ∃ m', m' < m ∧ ∃ sl2 o2, Hs K F (vis F own H) H' o2 ∧ Sl K (vis F o2 H') σ sl2 ∧ I m' sl2 o2, fun _ _ z => z, ?_⟩
    exact (show SS K E t sl2 o3 _ from p3) F (vis F own H) σ2 H3 hs3 (b.mono e3) _ (fun σ4 H4 sl4 o4 a4 b4 c4 ⟨m', hm, p4⟩ => ⟨m', hm, sl4, o4, a4, c4, p4⟩) (fun v H4 d o4 a4 b4 c4 p4 => r1 v H4 d o4 (hb a4) (e2 a4) c4 p4)
      (fun σ4 H4 sl4 o4 a4 b4 c4 p4 => n1 σ4 H4 sl4 o4 (hb a4) (e2 a4) c4 p4) (fun σ4 H4 sl4 o4 a4 b4 c4 ⟨m', hm, p4⟩ => ⟨m', hm, sl4, o4, a4, c4, p4⟩) (fun c dx H4 o4 a4 b4 p4 => x1 c dx H4 o4 (hb a4) (e2 a4) p4)
  | false => exact iteF (n1 σ2 H3 sl2 o3 (hb hs3) (e2 hs3) (b.mono e3) p3)
end
end Sy
namespace Sy
open PySem L2
section
variable {K : PySem.W.Frag} {E : XK} {own : Own} {sl : SL} {D D' : DE} {t u : TS}
theorem ss_mono (h : SS K E t sl own D) (h1 : ∀ s o, D.nx s o → D'.nx s o) (h2 : ∀ d o, D.rt d o → D'.rt d o) (h3 : ∀ s o, D.bk s o → D'.bk s o) (h4 : ∀ s o, D.ct s o → D'.ct s o) (h5 : ∀ c dx o, D.xp c dx o → D'.xp c dx o) : SS K E t sl own D' := fun F V0 σ H hs hl D2 n1 r1 b1 c1 x1 =>
  h F V0 σ H hs hl D2 (fun a b c d e f g i => n1 a b c d e f g (h1 _ _ i)) (fun a b c d e f g i => r1 a b c d e f g (h2 _ _ i)) (fun a b c d e f g i => b1 a b c d e f g (h3 _ _ i)) (fun a b c d e f g i => c1 a b c d e f g (h4 _ _ i)) (fun a b c d e f i => x1 a b c d e f (h5 _ _ _ i))
/-- two statements with what stands between them -/
theorem ss_mid' (M : SL → Own → Prop) (h : SS K E t sl own { D with nx := M }) (k : ∀ s o, M s o → SS K E u s o D) : SS K E (tSeq t u) sl own D := ss_seq' (ss_mono h k (fun _ _ z => z) (fun _ _ z => z) (fun _ _ z => z) fun _ _ _ z => z)
end
end Sy
namespace Sy
open PySem L2
section
variable {K : PySem.W.Frag} {E : XK} {own : Own} {sl : SL} {D : DE} {ta tv : TE}
theorem fidx_hd {f : Str} {ns : List Str} : fidx (f :: ns) f = some 0 := by unfold fidx; rw [if_pos rfl]
theorem fidx_tl {n f : Str} {ns : List Str} {i : Nat} (h : ¬ n = f) (h2 : fidx ns f = some i) : fidx (n :: ns) f = some (i + 1) := by unfold fidx; rw [if_neg h, h2]; rfl
/-- o.f = e: a field more, or one that is there -/
theorem ss_fld2' {f : Str} (h : EX K tv sl own fun e o => EX K ta sl o fun d o2 => ∃ a C ns ds l r, d = .ptr a ∧ o2 = l ++ (a, .ins C ns ds) :: r ∧ Cls K C ∧ NoAttr K C f ∧ ns.length < 1000 ∧
    ((fidx ns f = none ∧ D.nx sl (l ++ (a, .ins C (ns ++ [f]) (ds ++ [e])) :: r)) ∨ ∃ i, fidx ns f = some i ∧ D.nx sl (l ++ (a, .ins C ns (ds.set i e)) :: r))) : SS K E (sFld K ta tv f) sl own D :=
  ss_fld' (ex_mono h fun e o h2 => ex_mono h2 fun d o2 ⟨a, C, ns, ds, l, r, h1, h2, h3, h4, h5, h6⟩ => ⟨a, C, ns, ds, l, r, h1, h2, h3, h4, h5, by
    unfold putN putX
    rcases h6 with ⟨q, p⟩ | ⟨i, q, p⟩
    · rw [q]; exact p
    · rw [q]; exact p⟩)
end
end Sy
namespace Sy
open PySem L2
/-! the statements' rules with the ends spelled out -/
section
variable {K : PySem.W.Frag} {E : XK} {own : Own} {sl : SL} {nx bk ct : SL → Own → Prop} {rt : Dat → Own → Prop} {xp : XD} {ta tv te : TE} {t u : TS} {d : Dat}
theorem ss_seq (h : SS K E t sl own ⟨fun sl2 o2 => SS K E u sl2 o2 ⟨nx, rt, bk, ct, xp⟩, rt, bk, ct, xp⟩) : SS K E (tSeq t u) sl own ⟨nx, rt, bk, ct, xp⟩ := ss_seq' h
theorem ss_next (p : nx sl own) : SS K E tNext sl own ⟨nx, rt, bk, ct, xp⟩ := ss_next' p
theorem ss_brk (p : bk sl own) : SS K E tBreak sl own ⟨nx, rt, bk, ct, xp⟩ := ss_brk' p
theorem ss_cont (p : ct sl own) : SS K E tCont sl own ⟨nx, rt, bk, ct, xp⟩ := ss_cont' p
theorem ss_drop (h : EX K te sl own fun _ o => nx sl o) : SS K E (tDrop te) sl own ⟨nx, rt, bk, ct, xp⟩ := ss_drop' h
theorem ss_ret (h : EX K te sl own rt) : SS K E (tRet te) sl own ⟨nx, rt, bk, ct, xp⟩ := ss_ret' h
theorem ss_retN (h : rt .non own) : SS K E tRetN sl own ⟨nx, rt, bk, ct, xp⟩ := ss_retN' h
theorem ss_asg {g : TG} (h : EX K te sl own fun d o => GX K g anyJ d sl o nx) : SS K E (tAsg te g) sl own ⟨nx, rt, bk, ct, xp⟩ := ss_asg' h
theorem ss_set {i : Nat} (h : EX K te sl own fun d o => nx (sl.set i (some d)) o) : SS K E (tAsg te (gName i)) sl own ⟨nx, rt, bk, ct, xp⟩ := ss_set' h
theorem ss_if {c : TT} (h : TX K c sl own fun b o => if b = true then SS K E t sl o ⟨nx, rt, bk, ct, xp⟩ else SS K E u sl o ⟨nx, rt, bk, ct, xp⟩) : SS K E (tIfS c t u) sl own ⟨nx, rt, bk, ct, xp⟩ := ss_if' h
theorem ss_aug {i : Nat} {ti : TIp} (h : sl[i]? = some (some d)) (h2 : EX K te sl own fun e o => R2X K ti d e o fun z o2 => nx (sl.set i (some z)) o2) : SS K E (tAug i te ti) sl own ⟨nx, rt, bk, ct, xp⟩ := ss_aug' h h2
/-- a field is stored: what is asked of the cells -/
def FldW (K : PySem.W.Frag) (f : Str) (d e : Dat) (o : Own) (N : Own → Prop) : Prop := ∃ a C ns ds l r, d = .ptr a ∧ o = l ++ (a, .ins C ns ds) :: r ∧ Cls K C ∧ NoAttr K C f ∧ ns.length < 1000 ∧
    ((fidx ns f = none ∧ N (l ++ (a, .ins C (ns ++ [f]) (ds ++ [e])) :: r)) ∨ ∃ i, fidx ns f = some i ∧ N (l ++ (a, .ins C ns (ds.set i e)) :: r))
theorem ss_fld2 {f : Str} (h : EX K tv sl own fun e o => EX K ta sl o fun d o2 => FldW K f d e o2 (nx sl)) : SS K E (sFld K ta tv f) sl own ⟨nx, rt, bk, ct, xp⟩ := ss_fld2' h
theorem ss_for {wi : TI} {g : TG} (h : IX K wi sl own fun xs Keep o => ∃ I : Nat → SL → Own → Prop, I 0 sl o ∧ (∀ i sl o, I i sl o → Keep o) ∧
    (∀ i x sl2 o2, xs[i]? = some x → I i sl2 o2 → GX K g anyJ x sl2 o2 fun sl3 o3 => SS K E t sl3 o3 ⟨I (i + 1), rt, nx, I (i + 1), xp⟩) ∧ ∀ sl2 o2, I xs.length sl2 o2 → nx sl2 o2) : SS K E (tFor wi g t) sl own ⟨nx, rt, bk, ct, xp⟩ := ss_for' h
theorem ss_while {c : TT} (I : Nat → SL → Own → Prop) {m0 : Nat} (i0 : I m0 sl own) (h : ∀ m sl2 o2, I m sl2 o2 → TX K c sl2 o2 fun b o3 => if b = true then SS K E t sl2 o3 ⟨fun s o => ∃ m', m' < m ∧ I m' s o, rt, nx, fun s o => ∃ m', m' < m ∧ I m' s o, xp⟩ else nx sl2 o3) : SS K E (tWhile c t) sl own ⟨nx, rt, bk, ct, xp⟩ := ss_while' I i0 h
theorem ss_mid (M : SL → Own → Prop) (h : SS K E t sl own ⟨M, rt, bk, ct, xp⟩) (k : ∀ s o, M s o → SS K E u s o ⟨nx, rt, bk, ct, xp⟩) : SS K E (tSeq t u) sl own ⟨nx, rt, bk, ct, xp⟩ := ss_mid' M h k
end
end Sy
/-! Rules of the symbolic layer: comprehensions, built-ins, defs. -/
namespace Sy
open PySem L2

def wipeS (sl : SL) : List Nat → SL
  | [] => sl
  | v :: vs => (wipeS sl vs).set v none
section
variable {K : PySem.W.Frag} {E : XK} {own o1 l r : Own} {sl : SL} {P : PD} {d e : Dat} {X : Cx} {ta tb tc te : TE} {D : DE} {t u : TS}
theorem Sl.wipe {W : Hp} {σ : L2.St} (h : Sl K W σ sl) : ∀ vs : List Nat, Sl K W (wipe σ vs) (wipeS sl vs)
  | [] => h
  | v :: vs => (Sl.wipe h vs).unset v none
theorem wipe_at (σ : L2.St) (j : Nat) : ∀ vs : List Nat, (wipe σ vs)[j]? = if j < σ.length then (if j ∈ vs then some none else σ[j]?) else none
  | [] => by
    unfold wipe
    by_cases h : j < σ.length
    · simp [h]
    · simp [h]
  | v :: vs => by
    unfold wipe
    have ih := wipe_at σ j vs
    by_cases h : v = j
    · subst h
      by_cases hl : v < σ.length
      · rw [List.getElem?_set_self (by rw [wipe_length]; exact hl)]; simp [hl]
      · rw [List.getElem?_eq_none (by rw [List.length_set, wipe_length]; omega)]; simp [hl]
    · rw [List.getElem?_set_ne h, ih]
      have e : (j ∈ v :: vs) ↔ j ∈ vs := by rw [List.mem_cons]; exact ⟨fun z => z.elim (fun q => absurd q.symm h) id, .inr⟩
      by_cases hl : j < σ.length
      · simp [hl, e]
      · simp [hl]
theorem wipe_same {σ σ' : L2.St} {vs : List Nat} (h : ∀ j, ¬ j ∈ vs → σ'[j]? = (wipe σ vs)[j]?) (hl : σ'.length = σ.length) : wipe σ' vs = wipe σ vs := by
  apply List.ext_getElem?
  intro j
  rw [wipe_at, wipe_at, hl]
  by_cases hlt : j < σ.length
  · rw [if_pos hlt, if_pos hlt]
    by_cases hm : j ∈ vs
    · rw [if_pos hm, if_pos hm]
    · rw [if_neg hm, if_neg hm, h j hm, wipe_at, if_pos hlt, if_neg hm]
  · rw [if_neg hlt, if_neg hlt]
theorem reframe {F V0 H : Hp} {a : Addr} {o o' : HO} {own : Own} (h : Hs K (upd F a o) V0 H own) (hf : F a = none) : Hs K (upd F a o') V0 (upd H a o') own ∧ vis (upd F a o') own (upd H a o') = vis (upd F a o) own H := by
  have n1 : a ∉ own.map (·.1) := fun z => by
    obtain ⟨p, hp, rfl⟩ := List.mem_map.mp z
    have q := h.out p hp
    rw [upd_same] at q; cases q
  have ev : vis (upd F a o') own (upd H a o') = vis (upd F a o) own H := by
    funext b
    unfold vis
    by_cases hb : b = a
    · subst hb
      rw [if_pos (.inl (by rw [upd_same]; rfl)), if_pos (.inl (by rw [upd_same]; rfl))]
    · rw [upd_ne hb, upd_ne hb, upd_ne hb]
  refine ⟨⟨h.nd, fun p hp => ?_, by rw [ev]; exact h.mo, fun b u e => ?_, fun p hp => ?_⟩, ev⟩
  · rw [ev]
    refine (h.cell p hp).stay (Same.refl _) (upd_ne fun z => n1 ?_)
    rw [← z]; exact List.mem_map.mpr ⟨p, hp, rfl⟩
  · by_cases hb : b = a
    · subst hb; rw [upd_same] at e; cases e; exact upd_same
    · rw [upd_ne hb] at e ⊢
      exact h.fr b u (by rw [upd_ne hb]; exact e)
  · have q := h.out p hp
    by_cases hb : p.1 = a
    · exact absurd (List.mem_map.mpr ⟨p, hp, hb⟩) n1
    · rw [upd_ne hb] at q ⊢; exact q
/-- [e for .. if ..]: a new list, one's own (P says what of it) -/
theorem ex_lc {wi : TI} {g : TG} {tt : TT} {vs : List Nat} (h : IX K wi sl own fun xs Keep o => ∃ I : Nat → List Dat → Own → Prop, I 0 [] o ∧ (∀ i acc o, I i acc o → Keep o) ∧
    (∀ i x acc o2, xs[i]? = some x → I i acc o2 → GX K g (· ∈ vs) x (wipeS sl vs) o2 fun sl3 o3 => TX K tt sl3 o3 fun b o4 => if b = true then EX K te sl3 o4 fun y o5 => acc.length < sizeLine ∧ I (i + 1) (acc ++ [y]) o5 else I (i + 1) acc o4) ∧
    ∀ acc o2, I xs.length acc o2 → P (.lst acc) o2) : EX K (tLc wi g tt te vs) sl own P := fun F V0 σ H hs hl Q q => by
  refine h F V0 σ H hs hl _ fun J H1 o1 xs Keep hs1 e1 its ⟨I, i0, ik, ib, ie⟩ => ?_
  obtain ⟨G, Y, w, hG, hY⟩ := its
  intro D hD
  have hf : F D = none := fresh_fr hs1 hD
  have hl1 := hl.mono e1
  have hs2 : Hs K (upd F D (.lst [])) (vis F o1 H1) (upd H1 D (.lst [])) o1 := by
    have a := (hs1.now).new (o := .lst []) hD (c := .lst []) (.lst upd_same .nil)
    exact a.hide upd_same
  refine lc_it w (fun i H => ∃ acc avs own, Hs K (upd F D (.lst avs)) (vis F o1 H1) H own ∧ DaL K (vis (upd F D (.lst avs)) own H) avs acc ∧ I i acc own) ⟨[], [], o1, hs2, .nil, i0⟩ (fun i H _ ⟨acc, avs, o2, a, b, c⟩ => hG _ H o2 a (ik i acc o2 c)) (fun i x H H' hi ⟨acc, avs, o2, a, b, c⟩ y => ?_) (fun H2 ⟨acc, avs, o2, a, b, c⟩ => ?_)
  · obtain ⟨s1, d, hd, hx⟩ := hY _ i H x H' o2 hi a (ik i acc o2 c) y
    have g1 := vis_grow a s1
    refine ib i d acc o2 hd c _ (vis F o1 H1) (wipe σ vs) H' x (a.grow s1) ((hl1.wipe vs).mono (a.mo.trans g1)) hx _ fun σ3 H3 sl3 o3 hs3 e3 hl3 j3 p3 => ?_
    have hb3 := (b.mono g1).mono e3
    refine ⟨?_, ?_⟩
    · have e := wipe_same (σ := σ) (σ' := σ3) (vs := vs) j3.2 (j3.1.trans (wipe_length σ vs))
      rw [e]
    · refine p3 _ (vis F o1 H1) σ3 H3 hs3 hl3 _ fun k H4 o4 hs4 e4 p4 => ?_
      have hb4 := hb3.mono e4
      cases k with
      | true =>
        refine iteT ((show EX K te sl3 o4 _ from p4) _ (vis F o1 H1) σ3 H4 hs4 (hl3.mono e4) _ fun z H5 d5 o5 hs5 e5 hd5 ⟨zl, p5⟩ => ?_)
        obtain ⟨r1, r2⟩ := reframe (o' := .lst (avs ++ [z])) hs5 hf
        refine ⟨avs, hs5.fr D _ upd_same, by rw [b.length]; exact zl, acc ++ [d5], avs ++ [z], o5, r1, ?_, p5⟩
        rw [r2]
        exact (hb4.mono e5).append (.cons hd5 .nil)
      | false => exact iteF ⟨acc, avs, o4, hs4, hb4, p4⟩
  · have hHD : H2 D = some (.lst avs) := a.fr D _ upd_same
    have bk : Hs K F (vis F o1 H1) H2 ((D, .lst acc) :: o2) := a.back hf (.lst hHD b)
    have dr := Hs.drop (l := []) bk
    have fz := freeze (l := []) bk
    exact q _ H2 (.lst acc) o2 (dr.from hs1.mo) (e1.trans dr.mo) fz (ie acc o2 c)
end
end Sy
/-! Rules of the symbolic layer: built-ins, defs. -/
namespace Sy
open PySem L2

section
variable {K : PySem.W.Frag} {own : Own} {P : PD} {d e : Dat} {X : Cx}
theorem rl_of {r : List V → Hp → VK → Prop} {ds : List Dat} {z : Dat} (h : ∀ (F V0 H : Hp) (xs : List V), Hs K F V0 H own → DaL K (vis F own H) xs ds → ∃ v, (∀ W, Da K W v z) ∧ ∀ (Q : VK), Q v H → r xs H Q) (p : P z own) : RLX K r ds own P := fun F V0 H xs hs hx Q q => by
  obtain ⟨v, hv, hr⟩ := h F V0 H xs hs hx
  exact hr Q (q v H z own hs (Same.refl _) (hv _) p)
/-! ### len, int, max, min, list, tuple, sum, any, all, str -/
def uLen (K : PySem.W.Frag) : List V → Hp → VK → Prop := fun xs H Q => (∃ p ys, xs = [.ref p] ∧ (SqL K H p ys ∨ SqT K H p ys) ∧ Q (.int ys.length) H) ∨ (∃ z, xs = [.str z] ∧ z.length ≤ sizeLine ∧ Q (.int z.length) H) ∨ ∃ a kvs, xs = [V.ref a] ∧ H a = some (.dK kvs) ∧ Q (.int kvs.length) H
theorem call_lenU : CallR X (.builtin "len") (uLen X.K) := CallR.or call_len_seq (CallR.or call_len_str call_lenD)
theorem len_seq {ds : List Dat} (h : SeqD own d ds) (p : P (.int ds.length) own) : RLX K (uLen K) [d] own P := rl_of (fun F V0 H xs hs hx => by
  cases hx with
  | cons h1 t =>
    cases t
    obtain ⟨a, vs, rfl, ha, l⟩ := h.sq hs h1
    exact ⟨_, fun _ => .int _, fun Q q => .inl ⟨a, vs, rfl, ha, by rw [l.length]; exact q⟩⟩) p
theorem len_str {z : Str} (hz : z.length ≤ sizeLine) (p : P (.int z.length) own) : RLX K (uLen K) [.str z] own P := rl_of (fun F V0 H xs hs hx => by
  cases hx with
  | cons h1 t =>
    cases t; cases h1
    exact ⟨_, fun _ => .int _, fun Q q => .inr (.inl ⟨z, rfl, hz, q⟩)⟩) p
def rInt1 : List V → Hp → VK → Prop := fun xs H Q => (∃ i, xs = [.int i] ∧ Q (.int i) H) ∨ ∃ k, xs = [.bl k] ∧ Q (.int (if k then 1 else 0)) H
theorem call_intU : CallR X (.type "int") rInt1 := call_int1
theorem int_int {i : Int} (p : P (.int i) own) : RLX K rInt1 [.int i] own P := rl_of (fun F V0 H xs hs hx => by
  cases hx with
  | cons h1 t =>
    cases t; cases h1
    exact ⟨_, fun _ => .int _, fun Q q => .inl ⟨i, rfl, q⟩⟩) p
theorem int_bl {i : Bool} (p : P (.int (if i then 1 else 0)) own) : RLX K rInt1 [.bl i] own P := rl_of (fun F V0 H xs hs hx => by
  cases hx with
  | cons h1 t =>
    cases t; cases h1
    exact ⟨_, fun _ => .int _, fun Q q => .inr ⟨i, rfl, q⟩⟩) p
/-- max and min: of two ints, of a list of ints -/
def uMax (K : PySem.W.Frag) : List V → Hp → VK → Prop := fun xs H Q => (∃ i j, xs = [.int i, .int j] ∧ Q (.int (if j > i then j else i)) H) ∨ rMax K xs H Q
def uMin (K : PySem.W.Frag) : List V → Hp → VK → Prop := fun xs H Q => (∃ i j, xs = [.int i, .int j] ∧ Q (.int (if j < i then j else i)) H) ∨ rMin K xs H Q
theorem call_maxU (hc : X.calm = true) : CallR X (.builtin "max") (uMax X.K) := CallR.or (call_max2 hc) (cr_max hc)
theorem call_minU (hc : X.calm = true) : CallR X (.builtin "min") (uMin X.K) := CallR.or (call_min2 hc) (cr_min hc)
theorem max_two {i j : Int} (p : P (.int (max i j)) own) : RLX K (uMax K) [.int i, .int j] own P := rl_of (fun F V0 H xs hs hx => by
  cases hx with
  | cons h1 t => cases t with
    | cons h2 t =>
      cases t; cases h1; cases h2
      refine ⟨_, fun _ => .int _, fun Q q => .inl ⟨i, j, rfl, ?_⟩⟩
      rw [show (if j > i then j else i) = max i j by split <;> omega]
      exact q) p
theorem min_two {i j : Int} (p : P (.int (min i j)) own) : RLX K (uMin K) [.int i, .int j] own P := rl_of (fun F V0 H xs hs hx => by
  cases hx with
  | cons h1 t => cases t with
    | cons h2 t =>
      cases t; cases h1; cases h2
      refine ⟨_, fun _ => .int _, fun Q q => .inl ⟨i, j, rfl, ?_⟩⟩
      rw [show (if j < i then j else i) = min i j by split <;> omega]
      exact q) p
theorem max_lst {ns : List Int} (h : LstD own d (ns.map Dat.int)) (hn : 0 < ns.length) (p : ∀ m, m ∈ ns → (∀ y, y ∈ ns → y ≤ m) → P (.int m) own) : RLX K (uMax K) [d] own P := fun F V0 H xs hs hx Q q => by
  cases hx with
  | cons h1 t =>
    cases t
    obtain ⟨a, vs, rfl, ha, l⟩ := h.sq hs h1
    have e := l.ints
    subst e
    exact .inr ⟨a, ns, rfl, ha, hn, fun m h1 h2 => q _ H _ own hs (Same.refl _) (.int m) (p m h1 h2)⟩
theorem min_lst {ns : List Int} (h : LstD own d (ns.map Dat.int)) (hn : 0 < ns.length) (p : ∀ m, m ∈ ns → (∀ y, y ∈ ns → m ≤ y) → P (.int m) own) : RLX K (uMin K) [d] own P := fun F V0 H xs hs hx Q q => by
  cases hx with
  | cons h1 t =>
    cases t
    obtain ⟨a, vs, rfl, ha, l⟩ := h.sq hs h1
    have e := l.ints
    subst e
    exact .inr ⟨a, ns, rfl, ha, hn, fun m h1 h2 => q _ H _ own hs (Same.refl _) (.int m) (p m h1 h2)⟩
def rListOf (K : PySem.W.Frag) : List V → Hp → VK → Prop := fun xs H Q => ∃ p ys, xs = [.ref p] ∧ (SqL K H p ys ∨ SqT K H p ys) ∧ ∀ l, H l = none → Q (.ref l) (upd H l (.lst ys))
theorem call_listU : CallR X (.type "list") (rListOf X.K) := call_list_of
theorem list_of {ds : List Dat} (h : SeqD own d ds) (p : P (.lst ds) own) : RLX K (rListOf K) [d] own P := fun F V0 H xs hs hx Q q => by
  cases hx with
  | cons h1 t =>
    cases t
    obtain ⟨a, vs, rfl, ha, l⟩ := h.sq hs h1
    refine ⟨a, vs, rfl, ha, fun c hc => ?_⟩
    obtain ⟨g1, g2, g3⟩ := vis_newd (o := .lst vs) hs hc
    exact q _ _ _ own g1 g2 (.lst g3 (l.mono g2)) p
theorem list_ofO {ds : List Dat} (h : SeqD own d ds) (p : ∀ a, a ∉ own.map (·.1) → P (.ptr a) ((a, .lst ds) :: own)) : RLX K (rListOf K) [d] own P := fun F V0 H xs hs hx Q q => by
  cases hx with
  | cons h1 t =>
    cases t
    obtain ⟨a, vs, rfl, ha, l⟩ := h.sq hs h1
    refine ⟨a, vs, rfl, ha, fun c hc => ?_⟩
    refine q _ _ _ ((c, .lst ds) :: own) (hs.new hc (.lst upd_same l)) ?_ (.ptr c) (p c (fresh_own hs hc))
    rw [vis_new hs hc]; exact Same.refl _
def rTupOf (K : PySem.W.Frag) : List V → Hp → VK → Prop := fun xs H Q => ∃ p ys, xs = [.ref p] ∧ ((SqL K H p ys ∧ ∀ l, H l = none → Q (.ref l) (upd H l (.tup ys))) ∨ (SqT K H p ys ∧ Q (.ref p) H))
theorem call_tupU : CallR X (.type "tuple") (rTupOf X.K) := call_tuple_of
theorem tup_of {ds : List Dat} (h : SeqD own d ds) (p : P (.tup ds) own) : RLX K (rTupOf K) [d] own P := fun F V0 H xs hs hx Q q => by
  cases hx with
  | cons h1 t =>
    cases t
    rcases h with h | rfl
    · obtain ⟨a, vs, rfl, ha, l⟩ := h.sq hs h1
      refine ⟨a, vs, rfl, .inl ⟨ha, fun c hc => ?_⟩⟩
      obtain ⟨g1, g2, g3⟩ := vis_newd (o := .tup vs) hs hc
      exact q _ _ _ own g1 g2 (.tup (.inl (.inl g3)) (l.mono g2)) p
    · cases h1 with
      | tup ha l => exact ⟨_, _, rfl, .inr ⟨sq_t vis_sub ha, q _ H _ own hs (Same.refl _) (.tup ha l) p⟩⟩
theorem sum_lst {ns : List Int} (h : LstD own d (ns.map Dat.int)) (p : P (.int ns.sum) own) : RLX K (rSum K) [d] own P := rl_of (fun F V0 H xs hs hx => by
  cases hx with
  | cons h1 t =>
    cases t
    obtain ⟨a, vs, rfl, ha, l⟩ := h.sq hs h1
    have e := l.ints
    subst e
    exact ⟨_, fun _ => .int _, fun Q q => ⟨a, ns, rfl, ha, q⟩⟩) p
theorem any_lst {ns : List Bool} (h : LstD own d (ns.map Dat.bl)) (p : P (.bl (ns.any id)) own) : RLX K (rAny K) [d] own P := rl_of (fun F V0 H xs hs hx => by
  cases hx with
  | cons h1 t =>
    cases t
    obtain ⟨a, vs, rfl, ha, l⟩ := h.sq hs h1
    have e := l.bools
    subst e
    exact ⟨_, fun _ => .bl _, fun Q q => ⟨a, ns, rfl, ha, q⟩⟩) p
theorem all_lst {ns : List Bool} (h : LstD own d (ns.map Dat.bl)) (p : P (.bl (ns.all id)) own) : RLX K (rAll K) [d] own P := rl_of (fun F V0 H xs hs hx => by
  cases hx with
  | cons h1 t =>
    cases t
    obtain ⟨a, vs, rfl, ha, l⟩ := h.sq hs h1
    have e := l.bools
    subst e
    exact ⟨_, fun _ => .bl _, fun Q q => ⟨a, ns, rfl, ha, q⟩⟩) p
def rStrI : List V → Hp → VK → Prop := fun xs H Q => ∃ i, xs = [.int i] ∧ i.natAbs.log2 < 1920 ∧ Q (.str (toString i)) H
theorem call_strU : CallR X (.type "str") rStrI := call_str_int
theorem str_int {i : Int} (hi : i.natAbs.log2 < 1920) (p : P (.str (toString i)) own) : RLX K rStrI [.int i] own P := rl_of (fun F V0 H xs hs hx => by
  cases hx with
  | cons h1 t =>
    cases t; cases h1
    exact ⟨_, fun _ => .str _, fun Q q => ⟨i, rfl, hi, q⟩⟩) p
/-! ### methods of texts and lists -/
def rJoin (K : PySem.W.Frag) : V → List V → Hp → VK → Prop := fun x xs H Q => ∃ a p, ∃ ys : List Str, x = .str a ∧ xs = [.ref p] ∧ (SqL K H p (ys.map V.str) ∨ SqT K H p (ys.map V.str)) ∧ (ys.map (·.length)).sum + ys.length * a.length ≤ 16777216 ∧ Q (.str (Txt.join a ys)) H
theorem pe_joinU {o e : Expr} {to te : TE} {apos pos : Pos} (ho : PE X o to) (he : PE X e te) (hs : starEach [e] X.env = [(false, eval e X.env)] := by rfl) (hbase : attributeBase o "join" X.env (eval o X.env) = eval o X.env := by rfl) (hline : (apos.endLine == pos.line) = true := by rfl) :
    PE X (.Call (.Attribute o "join" apos) [e] [] pos) (tM1 (rJoin X.K) to te) := pe_join ho he hs hbase hline
theorem join_lst {a : Str} {ys : List Str} (h : SeqD own d (ys.map Dat.str)) (hz : (ys.map (·.length)).sum + ys.length * a.length ≤ 16777216) (p : P (.str (Txt.join a ys)) own) : RMX K (rJoin K) (.str a) [d] own P := fun F V0 H x xs hs hx hl Q q => by
  cases hx
  cases hl with
  | cons h1 t =>
    cases t
    obtain ⟨b, vs, rfl, hb, l⟩ := h.sq hs h1
    have e := l.strs
    subst e
    exact ⟨a, b, ys, rfl, rfl, hb, hz, q _ H _ own hs (Same.refl _) (.str _) p⟩
def rStarts : V → List V → Hp → VK → Prop := fun x xs H Q => ∃ a b, x = .str a ∧ xs = [.str b] ∧ Q (.bl (Txt.startswith a b)) H
theorem pe_startsU {o e : Expr} {to te : TE} {apos pos : Pos} (ho : PE X o to) (he : PE X e te) (hs : starEach [e] X.env = [(false, eval e X.env)] := by rfl) (hbase : attributeBase o "startswith" X.env (eval o X.env) = eval o X.env := by rfl) (hline : (apos.endLine == pos.line) = true := by rfl) :
    PE X (.Call (.Attribute o "startswith" apos) [e] [] pos) (tM1 rStarts to te) := pe_m1 PySem.F.slot_str_startswith PySem.F.type_str_startswith mt_startswith ho he hs hbase hline
theorem starts_str {a b : Str} (p : P (.bl (Txt.startswith a b)) own) : RMX K rStarts (.str a) [.str b] own P := fun F V0 H x xs hs hx hl Q q => by
  cases hx
  cases hl with
  | cons h1 t => cases t; cases h1; exact ⟨a, b, rfl, rfl, q _ H _ own hs (Same.refl _) (.bl _) p⟩
theorem ex_bm {T : String} {sl : SL} {r : V → List V → Hp → VK → Prop} {to : TE} {t : TA} (h : EX K to sl own fun d o => (∀ F V0 H x, Hs K F V0 H o → Da K (vis F o H) x d → tyV K T x H) ∧ AX K t sl o fun ds o2 => RMX K r d ds o2 P) : EX K (tBM K T r to t) sl own P := fun F V0 σ H hs hl Q q => by
  refine h F V0 σ H hs hl _ fun v H1 d o1 hs1 e1 hd1 ⟨z, p1⟩ => ⟨z F V0 H1 v hs1 hd1, ?_⟩
  refine p1 F V0 σ H1 hs1 (hl.mono e1) _ fun vs H2 ds o2 hs2 e2 hd2 p2 => ?_
  exact p2 F V0 H2 v vs hs2 (hd1.mono e2) hd2 Q fun v H3 d o3 hs3 e3 hd3 p3 => q v H3 d o3 hs3 ((e1.trans e2).trans e3) hd3 p3
theorem ty_lst {ds : List Dat} {o : Own} (h : LstD o d ds) : ∀ F V0 H x, Hs K F V0 H o → Da K (vis F o H) x d → tyV K "list" x H := fun F V0 H x hs hx => by
  obtain ⟨a, vs, rfl, ha, l⟩ := h.sq hs hx
  exact .inl ⟨rfl, _, ha⟩
/-- xs.append(e), xs.extend(ys) on a list of one's own -/
theorem app_lst {a : Addr} {ds : List Dat} {l r : Own} (hz : ds.length < sizeLine) (p : P .non (l ++ (a, .lst (ds ++ [e])) :: r)) : RMX K rAppend (.ptr a) [e] (l ++ (a, .lst ds) :: r) P := fun F V0 H x xs hs hx hl Q q => by
  cases hx
  cases hl with
  | cons h1 t =>
    cases t
    have c := hs.cell _ (List.mem_append_right l List.mem_cons_self)
    cases c with
    | lst h2 t2 =>
      refine ⟨a, _, _, rfl, rfl, h2, by rw [t2.length]; exact hz, q _ _ .non (l ++ (a, .lst (ds ++ [e])) :: r) (hs.put (.lst upd_same (t2.append (.cons h1 .nil)))) ?_ .non p⟩
      rw [vis_put (c := .lst ds)]; exact Same.refl _
theorem ext_lst {a : Addr} {ds es : List Dat} {l r : Own} (h : TrkD (l ++ (a, .lst ds) :: r) e es) (hz : ds.length + es.length ≤ sizeLine) (p : P .non (l ++ (a, .lst (ds ++ es)) :: r)) : RMX K rExtend (.ptr a) [e] (l ++ (a, .lst ds) :: r) P := fun F V0 H x xs hs hx hl Q q => by
  cases hx
  cases hl with
  | cons h1 t =>
    cases t
    obtain ⟨b, us, rfl, hb, l1⟩ := h.tk hs h1
    have c := hs.cell _ (List.mem_append_right l List.mem_cons_self)
    cases c with
    | lst h2 t2 =>
      refine ⟨a, b, _, us, rfl, rfl, h2, hb, by rw [t2.length, l1.length]; exact hz, q _ _ .non (l ++ (a, .lst (ds ++ es)) :: r) (hs.put (.lst upd_same (t2.append l1))) ?_ .non p⟩
      rw [vis_put (c := .lst ds)]; exact Same.refl _
/-- list(range(n)) -/
theorem ex_lrg {te : TE} {sl : SL} (h : EX K te sl own fun d o => ∃ n : Int, d = .int n ∧ RgOk 0 n ∧ P (.lst ((List.range n.toNat).map fun i => .int (i : Nat))) o) : EX K (tLstRg (tRg1 te)) sl own P := fun F V0 σ H hs hl Q q => by
  refine h F V0 σ H hs hl _ fun v H1 d o1 hs1 e1 hd1 ⟨n, z, ok, p⟩ => ?_
  subst z
  cases hd1
  refine ⟨n, rfl, ok, fun c hc => ?_⟩
  obtain ⟨g1, g2, g3⟩ := vis_newd (o := .lst (rgV 0 n)) hs1 hc
  refine q _ _ _ o1 g1 (e1.trans g2) (.lst g3 ?_) p
  have e : rgV 0 n = ((List.range n.toNat).map fun i => ((i : Nat) : Int)).map V.int := by
    unfold rgV
    simp
  rw [e, show ((List.range n.toNat).map fun i => Dat.int (i : Nat)) = ((List.range n.toNat).map fun i => ((i : Nat) : Int)).map Dat.int by simp]
  exact daL_ints _
end

/-! ### defs -/
section
variable {P : Program} {w : World} {K : PySem.W.Frag} {mg : Str → Option Value} {base : Heap}
theorem start_sl {W : Hp} {N : List Str} {vs : List V} {args : List Dat} (h : DaL K W vs args) : Sl K W (L2.start N vs) (args.map some ++ List.replicate (N.length - args.length) none) := by
  unfold L2.start
  refine ⟨by simp [h.length], fun i d q => ?_⟩
  rw [List.getElem?_append] at q
  split at q
  · next hi =>
    rw [List.length_map] at hi
    rw [List.getElem?_map] at q
    obtain ⟨e, he, hd⟩ := Option.map_eq_some_iff.mp q
    cases hd
    obtain ⟨v, e1, e2⟩ := h.get he
    exact ⟨v, by rw [List.getElem?_append_left (by rw [List.length_map, h.length]; exact hi), List.getElem?_map, e1]; rfl, e2⟩
  · rw [List.getElem?_replicate] at q
    split at q <;> cases q
/-- a def that raises nothing -/
theorem okS {x qual : Str} {st : Stmt} {f : Addr} {fd : FuncData} {N ps : List Str} {k : Nat} {C : Con} (F : Fun K x qual st f fd) (S : FnScope N ps (defScope st)) (len : ∀ args own P XP, C args own P XP → args.length = ps.length)
    (hbody : ∀ (cdv : Value) (A : Around) (outer : List Env) (s : Shared) (H : Hp) (E : XK), Room k (A.deeper (PyProof.Rows.envOfC qual (defScope st) s.heap.objs.size f cdv)) →
      ∃ t, PSs (cxOf CX0 P w K mg base N qual (defScope st) f cdv A outer s H E).nox (defBody st) t ∧ ∀ args own P XP, C args own P XP → SS K E0 t (args.map some ++ List.replicate (N.length - args.length) none) own { nx := fun _ o => P .non o, rt := P }) :
    FnOk P w K mg base CX0 (k + 1) f fd ps (SpG K C) := by
  refine F.ok S (fun vs H Q E ⟨F, V0, own, args, P, XP, hs, hd, hc, _, _⟩ => hd.length.trans (len args own P XP hc)) fun cdv A outer s H vs Q E hr ⟨F, V0, own, args, PP, XP, hs, hd, hc, k1, k2⟩ => ?_
  obtain ⟨t, ht, hb⟩ := hbody cdv A outer s H E hr
  refine ⟨t, ht, hb args own PP XP hc F V0 (L2.start N vs) H hs (start_sl hd) _ (fun σ' H' sl' own' a b c p => k1 .non H' .non own' a b .non p) (fun v H' d own' a b c p => k1 v H' d own' a b c p) (fun _ _ _ _ _ _ _ z => z.elim) (fun _ _ _ _ _ _ _ z => z.elim) (fun _ _ _ _ _ _ z => z.elim)⟩
/-- a def that may raise -/
theorem okSX {x qual : Str} {st : Stmt} {f : Addr} {fd : FuncData} {N ps : List Str} {k : Nat} {C : Con} (F : Fun K x qual st f fd) (S : FnScope N ps (defScope st)) (len : ∀ args own P XP, C args own P XP → args.length = ps.length)
    (hbody : ∀ (cdv : Value) (A : Around) (outer : List Env) (s : Shared) (H : Hp) (E : XK), Room k (A.deeper (PyProof.Rows.envOfC qual (defScope st) s.heap.objs.size f cdv)) →
      ∃ t, PSs (cxOf (L2.CX P w) P w K mg base N qual (defScope st) f cdv A outer s H E) (defBody st) t ∧ ∀ args own P XP, C args own P XP → SS K E t (args.map some ++ List.replicate (N.length - args.length) none) own { nx := fun _ o => P .non o, rt := P, xp := XP }) :
    FnOk P w K mg base (L2.CX P w) (k + 1) f fd ps (SpG K C) := by
  refine F.okX S (fun vs H Q E ⟨F, V0, own, args, P, XP, hs, hd, hc, _, _⟩ => hd.length.trans (len args own P XP hc)) fun cdv A outer s H vs Q E hr ⟨F, V0, own, args, PP, XP, hs, hd, hc, k1, k2⟩ => ?_
  obtain ⟨t, ht, hb⟩ := hbody cdv A outer s H E hr
  refine ⟨t, ht, hb args own PP XP hc F V0 (L2.start N vs) H hs (start_sl hd) _ (fun σ' H' sl' own' a b c p => k1 .non H' .non own' a b .non p) (fun v H' d own' a b c p => k1 v H' d own' a b c p) (fun _ _ _ _ _ _ _ z => z.elim) (fun _ _ _ _ _ _ _ z => z.elim) (fun c dx H' own' a b p => k2 c dx H' own' a b p)⟩
end
end Sy
namespace Sy
open PySem L2
/-! the rules with the written part named: within comprehensions the context hangs on more -/
section
variable {X : Cx} {K : PySem.W.Frag} {e o a b : Expr} {es rest : List Expr} {te ta tb to tl : TE} {t : TA} {f : Str} {pos pos' apos cpos : Pos}
theorem k_add (hK : X.K = K) : OpR X (binaryOp .Add) (uAdd K) := hK ▸ op_addU
theorem k_eq (hK : X.K = K) (hu : X.A.units + 64 < cLine) : OpR X (compareOp .Eq) (uEq K) := hK ▸ op_eqU hu
theorem k_ne (hK : X.K = K) (hu : X.A.units + 64 < cLine) : OpR X (compareOp .NotEq) (uNe K) := hK ▸ op_neU hu
theorem k_in (hK : X.K = K) (hu : X.A.units + 65 < cLine) : OpR X (compareOp .In) (uIn K false) := hK ▸ op_inU hu
theorem k_notIn (hK : X.K = K) (hu : X.A.units + 65 < cLine) : OpR X (compareOp .NotIn) (uIn K true) := hK ▸ op_notInU hu
theorem k_ix (hK : X.K = K) (hu : X.A.units + 1 < cLine) : IxR X (uIx K) := hK ▸ ix_U hu
theorem k_sl (hK : X.K = K) : SlR X (uSl K) := hK ▸ sl_U
theorem k_tru (hK : X.K = K) (ha : PE X a ta) (he : ∀ whole, isTrue a X.env whole = (do let v ← whole; standAt a.pos; holding [v] (truthy v))) : PT X a (tTru K ta) := hK ▸ pt_tru ha he
theorem k_len (hK : X.K = K) : CallR X (.builtin "len") (uLen K) := hK ▸ call_lenU
theorem k_max (hK : X.K = K) (hc : X.calm = true) : CallR X (.builtin "max") (uMax K) := hK ▸ call_maxU hc
theorem k_min (hK : X.K = K) (hc : X.calm = true) : CallR X (.builtin "min") (uMin K) := hK ▸ call_minU hc
theorem k_list (hK : X.K = K) : CallR X (.type "list") (rListOf K) := hK ▸ call_listU
theorem k_tup (hK : X.K = K) : CallR X (.type "tuple") (rTupOf K) := hK ▸ call_tupU
theorem k_sum (hK : X.K = K) (hc : X.calm = true) : CallR X (.builtin "sum") (rSum K) := hK ▸ cr_sum hc
theorem k_any (hK : X.K = K) (hc : X.calm = true) : CallR X (.builtin "any") (rAny K) := hK ▸ cr_any hc
theorem k_all (hK : X.K = K) (hc : X.calm = true) : CallR X (.builtin "all") (rAll K) := hK ▸ cr_all hc
theorem k_join (hK : X.K = K) (ho : PE X o to) (he : PE X e te) (hs : starEach [e] X.env = [(false, eval e X.env)] := by rfl) (hbase : attributeBase o "join" X.env (eval o X.env) = eval o X.env := by rfl) (hline : (apos.endLine == pos.line) = true := by rfl) :
    PE X (.Call (.Attribute o "join" apos) [e] [] pos) (tM1 (rJoin K) to te) := hK ▸ pe_joinU ho he hs hbase hline
theorem k_fld (hK : X.K = K) (he : PE X e ta) (hb : attributeBase e f X.env (eval e X.env) = eval e X.env) : PE X (.Attribute e f pos) (tFld K ta f) := hK ▸ pe_fld he hb
theorem k_and (hK : X.K = K) (ha : PE X a ta) (hb : PE X (.BoolOp .And (b :: rest) pos) tb) : PE X (.BoolOp .And (a :: b :: rest) pos) (tAndT K ta tb) := hK ▸ pe_andT ha hb
theorem k_or (hK : X.K = K) (ha : PE X a ta) (hb : PE X (.BoolOp .Or (b :: rest) pos) tb) : PE X (.BoolOp .Or (a :: b :: rest) pos) (tOrT K ta tb) := hK ▸ pe_orT ha hb
theorem k_not (hK : X.K = K) (ha : PE X a ta) : PE X (.UnaryOp .Not a pos) (tNotT K ta) := hK ▸ pe_notT ha
theorem k_seq {tg : Expr} (hK : X.K = K) (hl : PE X e tl) : PI X tg e (iSeq K tl) := hK ▸ pi_seq hl
theorem k_bm {T id : String} {r : V → List V → Hp → VK → Prop} {name : Str} (hK : X.K = K) (pa : PlainAttrs T) (slot : Slot T name id) (hty : typeOf (.builtin id) = pure (.type "method_descriptor")) (hm : MtR X id r) (ho : PE X o to) (ha : PA X (e :: es) t)
    (hbase : attributeBase o name X.env (eval o X.env) = eval o X.env := by rfl)
    (hfew : ((backTo cpos (starEach (e :: es) X.env)).all (fun x => !x.1) && (backToKw cpos (keywordEach [] X.env)).all (fun x => x.1.isSome)
      && decide ((e :: es).length + ([] : List Keyword).length + (if ([] : List Keyword).isEmpty then 0 else 1) < 30)) = true := by rfl)
    (hline : (apos.endLine == cpos.line) = true := by rfl) (hs : starEach (e :: es) X.env = (false, eval e X.env) :: starEach es X.env := by rfl) (hplain : (backTo cpos (starEach es X.env)).any (·.1) = false := by rfl) :
    PE X (.Call (.Attribute o name apos) (e :: es) [] cpos) (tBM K T r to t) := hK ▸ pe_bm pa slot hty hm ho ha hbase hfew hline hs hplain
end
end Sy
/-! What the laws share: branches, the drawing, the start. -/
namespace Sy
open PySem L2
theorem iteD {c A B : Prop} [Decidable c] (h1 : c → A) (h2 : ¬ c → B) : if decide c = true then A else B := by
  by_cases h : c
  · rw [decide_eq_true h]; exact iteT (h1 h)
  · rw [decide_eq_false h]; exact iteF (h2 h)
theorem iteN {c A B : Prop} [Decidable c] (h1 : ¬ c → A) (h2 : c → B) : if (!decide c) = true then A else B := by
  by_cases h : c
  · rw [decide_eq_true h]; exact iteF (h2 h)
  · rw [decide_eq_false h]; exact iteT (h1 h)
theorem iteB {b : Bool} {A B : Prop} (h1 : b = true → A) (h2 : b = false → B) : if b = true then A else B := by
  cases b with
  | true => exact iteT (h1 rfl)
  | false => exact iteF (h2 rfl)
theorem iteNB {b : Bool} {A B : Prop} (h1 : b = false → A) (h2 : b = true → B) : if (!b) = true then A else B := by
  cases b with
  | true => exact iteF (h2 rfl)
  | false => exact iteT (h1 rfl)
theorem ble {a b : Nat} (h : Nat.ble a b = true := by rfl) : a ≤ b := Nat.le_of_ble_eq_true h
section
variable {K : PySem.W.Frag} {own l r : Own} {P : PD} {d e : Dat}
theorem trk_lst {ds : List Dat} : TrkD own (.lst ds) ds := .inl rfl
theorem trk_ptr {a : Addr} {ds : List Dat} : TrkD (l ++ (a, .lst ds) :: r) (.ptr a) ds := .inr ⟨a, rfl, List.mem_append_right _ List.mem_cons_self⟩
end
/-- numbers with few bits -/
theorem mul_ok {i j : Int} {a b : Nat} (ha : i.natAbs < 2 ^ a) (hb : j.natAbs < 2 ^ b) (h : a + b ≤ 100000000) (h0 : 0 < a := by decide) (h1 : 0 < b := by decide) : IntMulOk i j := by
  have x := PySem.Flt.log2_lt_of h0 ha
  have y := PySem.Flt.log2_lt_of h1 hb
  have bb : ∀ x : Int, Builtin.Int.intBits x ≤ x.natAbs.log2 + 1 := fun x => by
    unfold Builtin.Int.intBits
    split <;> omega
  have h1 := bb i
  have h2 := bb j
  have e : bitsLine = 134217728 := by decide
  unfold IntMulOk
  intro z
  rw [Bool.and_eq_true] at z
  have z2 := z.2
  unfold Builtin.Int.intTooBig at z2
  have z3 := of_decide_eq_true z2
  rw [e] at z3
  omega
theorem mul_ok64 {i j : Int} (ha : i.natAbs < 2 ^ 64) (hb : j.natAbs < 2 ^ 64) : IntMulOk i j := mul_ok ha hb (by decide)
theorem lt_bits {n : Int} {k : Nat} (h : Builtin.Int.intBits n ≤ k) : n.natAbs < 2 ^ (k + 1) := by
  unfold Builtin.Int.intBits at h
  split at h
  · next e => 
    rw [show n.natAbs = 0 by simp_all]
    exact Nat.two_pow_pos _
  · exact Nat.lt_of_lt_of_le (Nat.lt_log2_self) (Nat.pow_le_pow_right (by decide) (by omega))
/-- the script as data -/
theorem law_data {K : PySem.W.Frag} {H : Hp} {a : Addr} {ns : List Int} (hS : SqL K H a (ns.map V.int)) : ∃ F V0 : Hp, Hs K F V0 H [] ∧ Da K (vis F [] H) (.ref a) (.scr (ns.map Dat.int)) := by
  have ev : vis (fun _ => none) [] H = H := by funext b; unfold vis; simp
  refine ⟨fun _ => none, H, ⟨List.nodup_nil, fun p hp => (List.not_mem_nil hp).elim, (by rw [ev]; exact Same.refl _), fun b o e => (nomatch e), fun p hp => (List.not_mem_nil hp).elim⟩, ?_⟩
  rw [ev]
  exact .scr hS (daL_ints ns)
/-- how many bits a number of the script has at most -/
def sB : Nat := 1048577
/-- a law's promise: every script of at most 63 numbers of not too many bits -/
def con_law0 : Con := fun args own P XP => ∃ ns : List Int, args = [.scr (ns.map Dat.int)] ∧ own = [] ∧ ns.length ≤ 63 ∧ (∀ z ∈ ns, z.natAbs < 2 ^ sB) ∧ ∀ o, P (.bl true) o
theorem law_start {K : PySem.W.Frag} {H : Hp} {a : Addr} {ns : List Int} (hl : ns.length ≤ 63) (hb : ∀ z ∈ ns, Builtin.Int.intBits z ≤ 1048576) (hS : SqL K H a (ns.map V.int)) :
    SpG K con_law0 [.ref a] H (fun v _ => v = .bl true) fun _ _ _ => False := by
  obtain ⟨F, V0, hs, hd⟩ := law_data hS
  exact ⟨F, V0, [], [.scr (ns.map Dat.int)], fun d _ => d = .bl true, noX, hs, .cons hd .nil, ⟨ns, rfl, rfl, hl, fun z hz => lt_bits (hb z hz), fun _ => rfl⟩, fun v H' d own' _ _ hv e => by subst e; cases hv; rfl, fun _ _ _ _ _ _ z => z⟩
end Sy
namespace Sy
open PySem L2
/-! numbers of so many bits -/
def Bd (n : Int) (k : Nat) : Prop := n.natAbs < 2 ^ k
theorem Bd.mono {n : Int} {j k : Nat} (h : Bd n j) (e : j ≤ k) : Bd n k := Nat.lt_of_lt_of_le h (Nat.pow_le_pow_right (by decide) e)
theorem Bd.add {a b : Int} {k : Nat} (ha : Bd a k) (hb : Bd b k) : Bd (a + b) (k + 1) := by
  unfold Bd at *
  rw [Nat.pow_succ]
  have := Int.natAbs_add_le a b
  omega
theorem Bd.sub {a b : Int} {k : Nat} (ha : Bd a k) (hb : Bd b k) : Bd (a - b) (k + 1) := by
  unfold Bd at *
  rw [Nat.pow_succ]
  have := Int.natAbs_sub_le a b
  omega
theorem Bd.mul {a b : Int} {j k : Nat} (ha : Bd a j) (hb : Bd b k) : Bd (a * b) (j + k) := wide_lt ha hb
theorem Bd.ok {a b : Int} {j k : Nat} (ha : Bd a j) (hb : Bd b k) (h : j + k ≤ 100000000) (h0 : 0 < j := by decide) (h1 : 0 < k := by decide) : IntMulOk a b := mul_ok ha hb h h0 h1
theorem bd_lit {n : Int} {k : Nat} (h : n.natAbs < 2 ^ k) : Bd n k := h
theorem bd_of {n m : Int} {k : Nat} (h0 : 0 ≤ n) (h : n ≤ m) (hm : Bd m k) : Bd n k := by unfold Bd at *; omega
theorem atI_ok {α : Type} {xs : List α} {i : Int} (h0 : 0 ≤ i) (h1 : i < xs.length) : ∃ z, xs[i.toNat]? = some z ∧ z ∈ xs ∧ atI xs i = some z := by
  have hl : i.toNat < xs.length := by omega
  refine ⟨xs[i.toNat], by simp [hl], List.getElem_mem hl, ?_⟩
  unfold atI ixN
  rw [if_pos h0, if_pos h1]
  simp [hl]
theorem atI_map {α β : Type} {xs : List α} {f : α → β} {i : Int} : atI (xs.map f) i = (atI xs i).map f := by
  unfold atI
  rw [List.length_map]
  cases ixN xs.length i with
  | none => rfl
  | some j => simp
end Sy
namespace Sy
open PySem L2
/-! the drawing -/
def drw (x y m : Int) : Int × Int × Int :=
  if x < m then
    let one := (y * y + 48271 * y + 12345) % 2305843009213693951
    let two := (one * one + 69621 * one + 77) % 618970019642690137449562111
    let x' := m + (two * two + one) % 162259276829213363391578010288127
    (x' % m, x' / m, two)
  else (x % m, x / m, y)
theorem Bd.div {a m : Int} {k : Nat} (h0 : 0 ≤ a) (h1 : 1 ≤ m) (h : Bd a k) : Bd (a / m) k :=
  bd_of (Int.ediv_nonneg h0 (by omega)) (Int.ediv_le_self _ h0) h
theorem drw_ok {x y m : Int} (z : RngOk x y) (h : 1 ≤ m) (hm : Bd m 64) : 0 ≤ (drw x y m).1 ∧ (drw x y m).1 < m ∧ RngOk (drw x y m).2.1 (drw x y m).2.2 := by
  obtain ⟨x0, xb, y0, yb⟩ := z
  unfold drw
  split
  · simp only
    generalize ((y * y + 48271 * y + 12345) % 2305843009213693951) = one
    have t0 := Int.emod_nonneg (one * one + 69621 * one + 77) (show (618970019642690137449562111 : Int) ≠ 0 by decide)
    have t1 := Int.emod_lt_of_pos (one * one + 69621 * one + 77) (show (0 : Int) < 618970019642690137449562111 by decide)
    generalize (one * one + 69621 * one + 77) % 618970019642690137449562111 = two at t0 t1
    have u0 := Int.emod_nonneg (two * two + one) (show (162259276829213363391578010288127 : Int) ≠ 0 by decide)
    have u1 := Int.emod_lt_of_pos (two * two + one) (show (0 : Int) < 162259276829213363391578010288127 by decide)
    generalize (two * two + one) % 162259276829213363391578010288127 = u at u0 u1
    refine ⟨Int.emod_nonneg _ (by omega), Int.emod_lt_of_pos _ (by omega), Int.ediv_nonneg (by omega) (by omega), ?_, t0, ?_⟩
    · refine Bd.div (by omega) h (Bd.mono (k := rB) (j := 120) ?_ (by decide))
      unfold Bd at *
      omega
    · refine Bd.mono (j := 120) (k := rB) ?_ (by decide)
      unfold Bd
      omega
  · exact ⟨Int.emod_nonneg _ (by omega), Int.emod_lt_of_pos _ (by omega), Int.ediv_nonneg x0 (by omega), Bd.div x0 h xb, y0, yb⟩
end Sy
/-! Texts, loops: what proofs of laws ask often. -/
namespace Sy
open PySem L2
/-! ### texts by their codes -/
def codes (z : Str) : List Nat := z.cps.toList
theorem codes_inj {a b : Str} (h : codes a = codes b) : a = b := by
  cases a; cases b
  unfold codes at h
  simp only [Str.mk.injEq]
  exact Array.toList_inj.mp h
theorem codes_len (z : Str) : (codes z).length = z.length := by unfold codes Str.length; simp
theorem starts_iff {x y : Str} : Txt.startswith x y = true ↔ codes y <+: codes x := by
  unfold Txt.startswith Builtin.Str.subAt
  rw [Bool.and_eq_true, decide_eq_true_eq, beq_iff_eq]
  constructor
  · rintro ⟨h1, h2⟩
    have : codes y = (codes x).take y.length := by
      unfold codes
      rw [← h2]
      simp
    rw [this]
    exact List.take_prefix _ _
  · intro h
    have hl := h.length_le
    rw [codes_len, codes_len] at hl
    refine ⟨by omega, ?_⟩
    apply Array.toList_inj.mp
    have e := List.prefix_iff_eq_take.mp h
    rw [codes_len] at e
    unfold codes at e
    rw [e]
    simp
theorem cut_iff {x y : Str} : cutS x none (some (y.length : Int)) = y ↔ codes y <+: codes x := by
  have e : codes (cutS x none (some (y.length : Int))) = (codes x).take (min y.length x.length) := by
    unfold cutS codes
    rw [HT.sIx_none, HT.sIx_nat]
    simp
  constructor
  · intro h
    rw [h] at e
    rw [e]
    exact List.take_prefix _ _
  · intro h
    apply codes_inj
    have hl := h.length_le
    rw [codes_len, codes_len] at hl
    rw [e, Nat.min_eq_left hl, ← codes_len]
    exact (List.prefix_iff_eq_take.mp h).symm
theorem starts_cut {x y : Str} : Txt.startswith x y = decide (cutS x none (some (y.length : Int)) = y) := by
  rw [Bool.eq_iff_iff, starts_iff, decide_eq_true_eq, cut_iff]
theorem codes_join0 (ys : List Str) : codes (Txt.join Str.empty ys) = (ys.map codes).flatten := by
  rw [TL.join_eq]
  induction ys with
  | nil => rfl
  | cons y ys ih =>
    cases ys with
    | nil => simp [Str.join]
    | cons z zs =>
      have : Str.join Str.empty (y :: z :: zs) = y ++ Str.empty ++ Str.join Str.empty (z :: zs) := rfl
      rw [this, List.map_cons, List.flatten_cons, ← ih]
      show TL.tl _ = TL.tl _ ++ TL.tl _
      rw [TL.tl_append, TL.tl_append]
      show _ ++ [] ++ _ = _
      simp
/-- only signs of the list -/
def Dg (S : List Nat) (z : Str) : Prop := ∀ c ∈ codes z, c ∈ S
theorem Dg.join {S : List Nat} {ys : List Str} (h : ∀ y ∈ ys, Dg S y) : Dg S (Txt.join Str.empty ys) := by
  intro c hc
  rw [codes_join0, List.mem_flatten] at hc
  obtain ⟨l, hl, hc⟩ := hc
  obtain ⟨y, hy, rfl⟩ := List.mem_map.mp hl
  exact h y hy c hc
theorem join_len {ys : List Str} (h : ∀ y ∈ ys, y.length = 1) : (Txt.join Str.empty ys).length = ys.length := by
  rw [← codes_len, codes_join0]
  induction ys with
  | nil => rfl
  | cons y ys ih =>
    rw [List.map_cons, List.flatten_cons, List.length_append, ih fun z hz => h z (List.mem_cons_of_mem _ hz), codes_len, h y List.mem_cons_self, List.length_cons]
    omega
theorem sum_len {ys : List Str} (h : ∀ y ∈ ys, y.length = 1) : (ys.map (·.length)).sum = ys.length := by
  induction ys with
  | nil => rfl
  | cons y ys ih =>
    rw [List.map_cons, List.sum_cons, ih fun z hz => h z (List.mem_cons_of_mem _ hz), h y List.mem_cons_self, List.length_cons]
    omega
theorem strOk_dg {S : List Nat} {z : Str} (h : Dg S z) (hS : ∀ c ∈ S, c < 1114112) : PyData.strOk z = true := by
  unfold PyData.strOk
  rw [Array.all_eq_true]
  intro i hi
  exact decide_eq_true (hS _ (h _ (by unfold codes; simp)))
def dS : List Nat := [48, 49, 50, 51, 52, 53, 54, 55, 56, 57]
/-- one digit as a text -/
theorem digit_str {d : Int} (h0 : 0 ≤ d) (h1 : d < 10) : (codes (Str.ofString (toString d)) = [48 + d.toNat]) := by
  obtain ⟨n, rfl⟩ : ∃ n : Nat, d = n := ⟨d.toNat, by omega⟩
  have : n < 10 := by omega
  rcases n with _ | _ | _ | _ | _ | _ | _ | _ | _ | _ | n
  all_goals first | (exfalso; omega) | decide +kernel
theorem small_log {d : Int} (h0 : 0 ≤ d) (h1 : d < 2 ^ 64) : d.natAbs.log2 < 1920 := by
  have := PySem.Flt.log2_lt_of (n := d.natAbs) (k := 64) (by decide) (by omega)
  omega

/-- digits below m -/
def Dgt (m : Nat) (z : Str) : Prop := ∀ c ∈ codes z, 48 ≤ c ∧ c < 48 + m
theorem Dgt.join {m : Nat} {ys : List Str} (h : ∀ y ∈ ys, Dgt m y) : Dgt m (Txt.join Str.empty ys) := by
  intro c hc
  rw [codes_join0, List.mem_flatten] at hc
  obtain ⟨l, hl, hc⟩ := hc
  obtain ⟨y, hy, rfl⟩ := List.mem_map.mp hl
  exact h y hy c hc
theorem Dgt.ok {m : Nat} {z : Str} (h : Dgt m z) (hm : m ≤ 1000) : PyData.strOk z = true := by
  unfold PyData.strOk
  rw [Array.all_eq_true]
  intro i hi
  exact decide_eq_true (by have := (h _ (show z.cps[i] ∈ codes z by unfold codes; simp)).2; omega)
theorem str_digit {d : Int} {m : Nat} (h0 : 0 ≤ d) (h1 : d < m) (hm : m ≤ 10) : (Str.ofString (toString d)).length = 1 ∧ Dgt m (Str.ofString (toString d)) := by
  have hc := digit_str h0 (by omega)
  refine ⟨by rw [← codes_len, hc]; rfl, fun e he => ?_⟩
  rw [hc, List.mem_singleton] at he
  subst he
  omega

/-! ### loops -/
section
variable {K : PySem.W.Frag} {own : Own} {sl : SL} {te : TE} {R : List Dat → (Own → Prop) → Own → Prop}
theorem ix_s (h : EX K te sl own fun d o => ∃ ds, (d = .lst ds ∨ d = .scr ds ∨ d = .tup ds) ∧ R ds anyO o) : IX K (iSeq K te) sl own R :=
  ix_seq' (ex_mono h fun d o ⟨ds, h1, h2⟩ => ⟨ds, anyO, h2, .inl ⟨h1, rfl⟩⟩)
theorem ix_p (h : EX K te sl own fun d o => ∃ a ds, d = .ptr a ∧ (a, Cell.lst ds) ∈ o ∧ R ds (fun o => (a, Cell.lst ds) ∈ o) o) : IX K (iSeq K te) sl own R :=
  ix_seq' (ex_mono h fun d o ⟨a, ds, h1, h2, h3⟩ => ⟨ds, _, h3, .inr ⟨a, h1, h2, rfl⟩⟩)
end
theorem rng_at {n : Nat} {i : Nat} {x : Dat} (h : ((List.range n).map fun i => Dat.int (i : Nat))[i]? = some x) : i < n ∧ x = .int (i : Nat) := by
  rw [List.getElem?_map] at h
  by_cases hi : i < n
  · simp [hi] at h; exact ⟨hi, h.symm⟩
  · simp [hi] at h
theorem rng2_at {a : Int} {n : Nat} {i : Nat} {x : Dat} (h : ((List.range n).map fun i => Dat.int (a + (i : Nat)))[i]? = some x) : i < n ∧ x = .int (a + (i : Nat)) := by
  rw [List.getElem?_map] at h
  by_cases hi : i < n
  · simp [hi] at h; exact ⟨hi, h.symm⟩
  · simp [hi] at h
theorem map_at {α β : Type} {f : α → β} {xs : List α} {i : Nat} {x : β} (h : (xs.map f)[i]? = some x) : ∃ a, xs[i]? = some a ∧ x = f a := by
  rw [List.getElem?_map] at h
  obtain ⟨a, h1, h2⟩ := Option.map_eq_some_iff.mp h
  exact ⟨a, h1, h2.symm⟩
/-- the drawing's state among the cells -/
def Rg (s : Addr) (own : Own) : Prop := ∃ l r, own = l ++ (s, Cell.rng) :: r
theorem Rg.c {s : Addr} {own : Own} {p : Addr × Cell} (h : Rg s own) : Rg s (p :: own) := by
  obtain ⟨l, r, rfl⟩ := h
  exact ⟨p :: l, r, rfl⟩
theorem rg0 {s : Addr} {own : Own} : Rg s ((s, Cell.rng) :: own) := ⟨[], own, rfl⟩
section
variable {own : Own} {Q : Bool → Prop}
theorem tru_bl {k : Bool} (p : Q k) : ∃ b, TruD own (.bl k) b ∧ Q b := ⟨k, rfl, p⟩
theorem tru_non (p : Q false) : ∃ b, TruD own .non b ∧ Q b := ⟨false, rfl, p⟩
theorem tru_int {i : Int} (p : Q (i != 0)) : ∃ b, TruD own (.int i) b ∧ Q b := ⟨_, rfl, p⟩
theorem tru_lst {ds : List Dat} (p : Q (!ds.isEmpty)) : ∃ b, TruD own (.lst ds) b ∧ Q b := ⟨_, rfl, p⟩
theorem tru_tup {ds : List Dat} (p : Q (!ds.isEmpty)) : ∃ b, TruD own (.tup ds) b ∧ Q b := ⟨_, rfl, p⟩
end
theorem dv_lit {i j : Int} (h : 0 < j) (h2 : j.natAbs.log2 < 9000) : CDivW i j := ⟨h, h2⟩
section
variable {K : PySem.W.Frag} {own : Own} {P : PD} {b : Bool} {i : Int} {z : Str} {ds : List Dat} {ns : List Str} {a C : Addr}
theorem isn_non (p : P (.bl true) own) : R2X K rIsN' .non .non own P := is_non p
theorem isn_bl (p : P (.bl false) own) : R2X K rIsN' (.bl b) .non own P := is_non p
theorem isn_int (p : P (.bl false) own) : R2X K rIsN' (.int i) .non own P := is_non p
theorem isn_str (p : P (.bl false) own) : R2X K rIsN' (.str z) .non own P := is_non p
theorem isn_tup (p : P (.bl false) own) : R2X K rIsN' (.tup ds) .non own P := is_non p
theorem isn_lst (p : P (.bl false) own) : R2X K rIsN' (.lst ds) .non own P := is_non p
theorem isn_obj (p : P (.bl false) own) : R2X K rIsN' (.obj C ns ds) .non own P := is_non p
theorem isn_ptr (p : P (.bl false) own) : R2X K rIsN' (.ptr a) .non own P := is_non p
theorem ntn_non (p : P (.bl false) own) : R2X K rNotN' .non .non own P := not_non p
theorem ntn_bl (p : P (.bl true) own) : R2X K rNotN' (.bl b) .non own P := not_non p
theorem ntn_int (p : P (.bl true) own) : R2X K rNotN' (.int i) .non own P := not_non p
theorem ntn_str (p : P (.bl true) own) : R2X K rNotN' (.str z) .non own P := not_non p
theorem ntn_tup (p : P (.bl true) own) : R2X K rNotN' (.tup ds) .non own P := not_non p
theorem ntn_lst (p : P (.bl true) own) : R2X K rNotN' (.lst ds) .non own P := not_non p
theorem ntn_obj (p : P (.bl true) own) : R2X K rNotN' (.obj C ns ds) .non own P := not_non p
theorem ntn_ptr (p : P (.bl true) own) : R2X K rNotN' (.ptr a) .non own P := not_non p
end
section
variable {K : PySem.W.Frag} {own l r : Own} {P : PD} {d e : Dat} {ds : List Dat} {ns : List Str} {a C : Addr} {f : Str} {i : Nat} {N : Own → Prop}
theorem fgE (h1 : ObjD own d C ns ds) (h2 : Cls K C) (h3 : NoAttr K C f) (h4 : fidx ns f = some i) (h5 : ds[i]? = some e) (p : P e own) : FgW K f d own P := ⟨C, ns, ds, i, e, h1, h2, h3, h4, h5, p⟩
theorem fsN (h0 : own = l ++ (a, Cell.ins C ns ds) :: r) (h2 : Cls K C) (h3 : NoAttr K C f) (h5 : ns.length < 1000) (h4 : fidx ns f = none) (p : N (l ++ (a, .ins C (ns ++ [f]) (ds ++ [e])) :: r)) : FldW K f (.ptr a) e own N :=
  ⟨a, C, ns, ds, l, r, rfl, h0, h2, h3, h5, .inl ⟨h4, p⟩⟩
theorem fsS (h0 : own = l ++ (a, Cell.ins C ns ds) :: r) (h2 : Cls K C) (h3 : NoAttr K C f) (h5 : ns.length < 1000) (h4 : fidx ns f = some i) (p : N (l ++ (a, .ins C ns (ds.set i e)) :: r)) : FldW K f (.ptr a) e own N :=
  ⟨a, C, ns, ds, l, r, rfl, h0, h2, h3, h5, .inr ⟨i, h4, p⟩⟩
theorem odO (h : d = .obj C ns ds) : ObjD own d C ns ds := .inl h
theorem odP (h : d = .ptr a) (hm : (a, Cell.ins C ns ds) ∈ own) : ObjD own d C ns ds := .inr ⟨a, h, hm⟩
end
theorem nd_inj {α β : Type} {f : α → β} : ∀ {l : List α}, (l.map f).Nodup → ∀ a ∈ l, ∀ b ∈ l, f a = f b → a = b
  | [], _, a, h, _, _, _ => (List.not_mem_nil h).elim
  | x :: l, nd, a, ha, b, hb, e => by
    rw [List.map_cons] at nd
    obtain ⟨n1, n2⟩ := List.nodup_cons.mp nd
    rcases List.mem_cons.mp ha with e1 | ha1
    · rcases List.mem_cons.mp hb with e2 | hb1
      · rw [e1, e2]
      · exact (n1 (List.mem_map.mpr ⟨b, hb1, by rw [← e, e1]⟩)).elim
    · rcases List.mem_cons.mp hb with e2 | hb1
      · exact (n1 (List.mem_map.mpr ⟨a, ha1, by rw [e, e2]⟩)).elim
      · exact nd_inj n2 a ha1 b hb1 e
section
variable {K : PySem.W.Frag} {own : Own} {P : PD} {d e : Dat} {C : Addr} {ns : List Str} {ds : List Dat} {m : Str} {R : Prop}
theorem mtE (h1 : ObjD own d C ns ds) (h2 : fidx ns m = none) (p : R) : ∃ ns ds, ObjD own d C ns ds ∧ fidx ns m = none ∧ R := ⟨ns, ds, h1, h2, p⟩
theorem ne_same {n : Nat} (h : Sh n d) (e1 : d = e) (p : P (.bl false) own) (hn : n ≤ 64 := by decide) : R2X K (uNe K) d e own P := by
  subst e1
  refine ne_dat h h (fun b hb => ?_) hn hn
  rw [hb.mpr rfl]
  exact p
theorem eq_same {n : Nat} (h : Sh n d) (e1 : d = e) (p : P (.bl true) own) (hn : n ≤ 64 := by decide) : R2X K (uEq K) d e own P := by
  subst e1
  refine eq_dat h h (fun b hb => ?_) hn hn
  rw [hb.mpr rfl]
  exact p
end
section
variable {K : PySem.W.Frag} {own l r : Own} {P : PD} {Q : Bool → Prop}
theorem neg_int {i : Int} (p : P (.int (-i)) own) : R1X K (rU fun i => .int (-i)) (.int i) own P := fun F V0 H x hs hx Q q => by
  cases hx
  exact ⟨_, rfl, q _ H _ own hs (Same.refl _) (.int _) p⟩
theorem tru_own {a : Addr} {ds : List Dat} (p : Q (!ds.isEmpty)) : ∃ b, TruD (l ++ (a, .lst ds) :: r) (.ptr a) b ∧ Q b := ⟨_, .inl ⟨ds, List.mem_append_right _ List.mem_cons_self, rfl⟩, p⟩
theorem tru_own0 {a : Addr} {ds : List Dat} (p : Q (!ds.isEmpty)) : ∃ b, TruD ((a, .lst ds) :: r) (.ptr a) b ∧ Q b := tru_own (l := []) p
theorem atI_last {α : Type} {xs : List α} {x : α} : atI (xs ++ [x]) (-1) = some x := by
  unfold atI
  have : ixN (xs ++ [x]).length (-1) = some xs.length := by
    unfold ixN
    simp only [List.length_append, List.length_singleton]
    split
    · omega
    · split
      · congr 1; omega
      · omega
  rw [this]
  simp
theorem ixN_last {n : Nat} : ixN (n + 1) (-1) = some n := by
  unfold ixN
  split
  · omega
  · split
    · congr 1; omega
    · omega
end
section
variable {α : Type} {a b c d e f : α} {xs : List α}
theorem atN {xs : List α} {n : Nat} {a : α} (h : xs[n]? = some a) : atI xs (n : Int) = some a := by
  have hl := (List.getElem?_eq_some_iff.mp h).1
  obtain ⟨z, h1, _, h2⟩ := atI_ok (xs := xs) (i := (n : Int)) (by omega) (by omega)
  rw [h2]
  rw [Int.toNat_natCast, h] at h1
  exact h1.symm
theorem at0 : atI (a :: xs) 0 = some a := atN (n := 0) rfl
theorem at1 : atI (a :: b :: xs) 1 = some b := atN (n := 1) rfl
theorem at2 : atI (a :: b :: c :: xs) 2 = some c := atN (n := 2) rfl
theorem at3 : atI (a :: b :: c :: d :: xs) 3 = some d := atN (n := 3) rfl
theorem at4 : atI (a :: b :: c :: d :: e :: xs) 4 = some e := atN (n := 4) rfl
theorem at5 : atI (a :: b :: c :: d :: e :: f :: xs) 5 = some f := atN (n := 5) rfl
end
theorem iteNt {A B : Prop} (b : B) : if (!true) = true then A else B := b
theorem iteNf {A B : Prop} (a : A) : if (!false) = true then A else B := a
end Sy
namespace Law
open PySem L2 Sy
def top (i : Nat) : Stmt := PySem.Challenge.pw_copperline_k13_prices_add_up.main.body.getD i (.Pass ⟨0, 0, 0, 0⟩)
abbrev s__law_state : Stmt := top 10
abbrev s_Tariff_init : Stmt := inClass (top 4) 0
abbrev s__law_draw : Stmt := top 11
abbrev s_Band_init : Stmt := inClass (top 3) 0
abbrev s__law_tariff : Stmt := top 12
abbrev s__law_called : Stmt := top 13
abbrev s_Band_holds : Stmt := inClass (top 3) 1
abbrev s_Tariff_band_at : Stmt := inClass (top 4) 1
abbrev s_stretches : Stmt := top 7
abbrev s_price_lines : Stmt := top 8
abbrev s__law_rows : Stmt := top 15
abbrev s__law_sum : Stmt := top 14
abbrev s__law_cuts : Stmt := top 16
abbrev s_law : Stmt := top 17
abbrev N__law_state : List Str := ["script", "k", "salt", "cell"]
theorem sc__law_state : FnScope N__law_state ["script", "k", "salt"] (defScope s__law_state) := ⟨rfl, rfl, rfl, by decide +kernel, rfl, by decide +kernel, by decide +kernel⟩
abbrev N_Tariff_init : List Str := ["self", "setup_price", "bands"]
theorem sc_Tariff_init : FnScope N_Tariff_init ["self", "setup_price", "bands"] (defScope s_Tariff_init) := ⟨rfl, rfl, rfl, by decide +kernel, rfl, by decide +kernel, by decide +kernel⟩
abbrev N__law_draw : List Str := ["state", "many", "digit", "one", "two"]
theorem sc__law_draw : FnScope N__law_draw ["state", "many"] (defScope s__law_draw) := ⟨rfl, rfl, rfl, by decide +kernel, rfl, by decide +kernel, by decide +kernel⟩
abbrev N_Band_init : List Str := ["self", "label", "prefix", "from_hour", "to_hour", "price"]
theorem sc_Band_init : FnScope N_Band_init ["self", "label", "prefix", "from_hour", "to_hour", "price"] (defScope s_Band_init) := ⟨rfl, rfl, rfl, by decide +kernel, rfl, by decide +kernel, by decide +kernel⟩
abbrev N__law_tariff : List Str := ["state", "times", "bands", "k", "prefix", "begin", "at"]
theorem sc__law_tariff : FnScope N__law_tariff ["state", "times"] (defScope s__law_tariff) := ⟨rfl, rfl, rfl, by decide +kernel, rfl, by decide +kernel, by decide +kernel⟩
abbrev N__law_called : List Str := ["state", "at"]
theorem sc__law_called : FnScope N__law_called ["state"] (defScope s__law_called) := ⟨rfl, rfl, rfl, by decide +kernel, rfl, by decide +kernel, by decide +kernel⟩
abbrev N_Band_holds : List Str := ["self", "called", "clock", "hour"]
theorem sc_Band_holds : FnScope N_Band_holds ["self", "called", "clock"] (defScope s_Band_holds) := ⟨rfl, rfl, rfl, by decide +kernel, rfl, by decide +kernel, by decide +kernel⟩
abbrev N_Tariff_band_at : List Str := ["self", "called", "clock", "best", "band"]
theorem sc_Tariff_band_at : FnScope N_Tariff_band_at ["self", "called", "clock"] (defScope s_Tariff_band_at) := ⟨rfl, rfl, rfl, by decide +kernel, rfl, by decide +kernel, by decide +kernel⟩
abbrev N_stretches : List Str := ["tariff", "called", "start", "begin", "till", "found", "place", "band", "after"]
theorem sc_stretches : FnScope N_stretches ["tariff", "called", "start", "begin", "till"] (defScope s_stretches) := ⟨rfl, rfl, rfl, by decide +kernel, rfl, by decide +kernel, by decide +kernel⟩
abbrev N_price_lines : List Str := ["tariff", "called", "start", "begin", "till", "pieces", "lines", "band", "low", "high", "minutes"]
theorem sc_price_lines : FnScope N_price_lines ["tariff", "called", "start", "begin", "till"] (defScope s_price_lines) := ⟨rfl, rfl, rfl, by decide +kernel, rfl, by decide +kernel, by decide +kernel⟩
abbrev N__law_rows : List Str := ["pieces", "rows", "band", "low", "high"]
theorem sc__law_rows : FnScope N__law_rows ["pieces"] (defScope s__law_rows) := ⟨rfl, rfl, rfl, by decide +kernel, rfl, by decide +kernel, by decide +kernel⟩
abbrev N__law_sum : List Str := ["lines", "line"]
theorem sc__law_sum : FnScope N__law_sum ["lines"] (defScope s__law_sum) := ⟨rfl, rfl, rfl, by decide +kernel, rfl, by decide +kernel, by decide +kernel⟩
abbrev N__law_cuts : List Str := ["tariff", "called", "start", "begin", "till", "middle", "whole", "ahead", "behind", "pieces", "rows", "more", "band", "low", "high"]
theorem sc__law_cuts : FnScope N__law_cuts ["tariff", "called", "start", "begin", "till", "middle"] (defScope s__law_cuts) := ⟨rfl, rfl, rfl, by decide +kernel, rfl, by decide +kernel, by decide +kernel⟩
abbrev N_law : List Str := ["script", "k", "state", "times", "again", "tariff", "dear", "called", "start", "begin", "till", "whole", "late", "costly", "middles", "pieces", "middle", "line", "row"]
theorem sc_law : FnScope N_law ["script"] (defScope s_law) := ⟨rfl, rfl, rfl, by decide +kernel, rfl, by decide +kernel, by decide +kernel⟩
/-- where the defs and classes of the program stand -/
structure Ad where
  a__law_state : Addr
  d__law_state : FuncData
  a_Tariff_init : Addr
  d_Tariff_init : FuncData
  a__law_draw : Addr
  d__law_draw : FuncData
  a_Band_init : Addr
  d_Band_init : FuncData
  a__law_tariff : Addr
  d__law_tariff : FuncData
  a__law_called : Addr
  d__law_called : FuncData
  a_Band_holds : Addr
  d_Band_holds : FuncData
  a_Tariff_band_at : Addr
  d_Tariff_band_at : FuncData
  a_stretches : Addr
  d_stretches : FuncData
  a_price_lines : Addr
  d_price_lines : FuncData
  a__law_rows : Addr
  d__law_rows : FuncData
  a__law_sum : Addr
  d__law_sum : FuncData
  a__law_cuts : Addr
  d__law_cuts : FuncData
  a_law : Addr
  d_law : FuncData
  c_Band : Addr
  c_Tariff : Addr
structure Tx (K : PySem.W.Frag) (mg : Str → Option Value) (ad : Ad) : Prop where
  b_int : mg "int" = none
  b_len : mg "len" = none
  b_max : mg "max" = none
  b_min : mg "min" = none
  b_range : mg "range" = none
  b_str : mg "str" = none
  b_sum : mg "sum" = none
  b_tuple : mg "tuple" = none
  g_DAY : ∃ t, mg "DAY" = some (.int 86400 t)
  g_HOUR : ∃ t, mg "HOUR" = some (.int 3600 t)
  g_MINUTE : ∃ t, mg "MINUTE" = some (.int 60 t)
  m__law_state : mg "_law_state" = some (.ref ad.a__law_state)
  F__law_state : Fun K "_law_state" "_law_state" s__law_state ad.a__law_state ad.d__law_state
  B__law_state : Binds K ad.d__law_state ["script", "k", "salt"] []
  F_Tariff_init : Fun K "__init__" "Tariff.__init__" s_Tariff_init ad.a_Tariff_init ad.d_Tariff_init
  B_Tariff_init : Binds K ad.d_Tariff_init ["self", "setup_price", "bands"] []
  m__law_draw : mg "_law_draw" = some (.ref ad.a__law_draw)
  F__law_draw : Fun K "_law_draw" "_law_draw" s__law_draw ad.a__law_draw ad.d__law_draw
  B__law_draw : Binds K ad.d__law_draw ["state", "many"] []
  F_Band_init : Fun K "__init__" "Band.__init__" s_Band_init ad.a_Band_init ad.d_Band_init
  B_Band_init : Binds K ad.d_Band_init ["self", "label", "prefix", "from_hour", "to_hour", "price"] []
  m__law_tariff : mg "_law_tariff" = some (.ref ad.a__law_tariff)
  F__law_tariff : Fun K "_law_tariff" "_law_tariff" s__law_tariff ad.a__law_tariff ad.d__law_tariff
  B__law_tariff : Binds K ad.d__law_tariff ["state", "times"] []
  m__law_called : mg "_law_called" = some (.ref ad.a__law_called)
  F__law_called : Fun K "_law_called" "_law_called" s__law_called ad.a__law_called ad.d__law_called
  B__law_called : Binds K ad.d__law_called ["state"] []
  F_Band_holds : Fun K "holds" "Band.holds" s_Band_holds ad.a_Band_holds ad.d_Band_holds
  B_Band_holds : Binds K ad.d_Band_holds ["self", "called", "clock"] []
  M_Band_holds : Meth K ad.c_Band "holds" ad.a_Band_holds
  F_Tariff_band_at : Fun K "band_at" "Tariff.band_at" s_Tariff_band_at ad.a_Tariff_band_at ad.d_Tariff_band_at
  B_Tariff_band_at : Binds K ad.d_Tariff_band_at ["self", "called", "clock"] []
  M_Tariff_band_at : Meth K ad.c_Tariff "band_at" ad.a_Tariff_band_at
  m_stretches : mg "stretches" = some (.ref ad.a_stretches)
  F_stretches : Fun K "stretches" "stretches" s_stretches ad.a_stretches ad.d_stretches
  B_stretches : Binds K ad.d_stretches ["tariff", "called", "start", "begin", "till"] []
  m_price_lines : mg "price_lines" = some (.ref ad.a_price_lines)
  F_price_lines : Fun K "price_lines" "price_lines" s_price_lines ad.a_price_lines ad.d_price_lines
  B_price_lines : Binds K ad.d_price_lines ["tariff", "called", "start", "begin", "till"] []
  m__law_rows : mg "_law_rows" = some (.ref ad.a__law_rows)
  F__law_rows : Fun K "_law_rows" "_law_rows" s__law_rows ad.a__law_rows ad.d__law_rows
  B__law_rows : Binds K ad.d__law_rows ["pieces"] []
  m__law_sum : mg "_law_sum" = some (.ref ad.a__law_sum)
  F__law_sum : Fun K "_law_sum" "_law_sum" s__law_sum ad.a__law_sum ad.d__law_sum
  B__law_sum : Binds K ad.d__law_sum ["lines"] []
  m__law_cuts : mg "_law_cuts" = some (.ref ad.a__law_cuts)
  F__law_cuts : Fun K "_law_cuts" "_law_cuts" s__law_cuts ad.a__law_cuts ad.d__law_cuts
  B__law_cuts : Binds K ad.d__law_cuts ["tariff", "called", "start", "begin", "till", "middle"] []
  m_law : mg "law" = some (.ref ad.a_law)
  F_law : Fun K "law" "law" s_law ad.a_law ad.d_law
  B_law : Binds K ad.d_law ["script"] []
  m_Band : mg "Band" = some (.ref ad.c_Band)
  cl_Band : Cls K ad.c_Band
  K_Band : Mk K ad.c_Band ad.a_Band_init
  n_Band_label : NoAttr K ad.c_Band "label"
  n_Band_prefix : NoAttr K ad.c_Band "prefix"
  n_Band_from_hour : NoAttr K ad.c_Band "from_hour"
  n_Band_to_hour : NoAttr K ad.c_Band "to_hour"
  n_Band_price : NoAttr K ad.c_Band "price"
  m_Tariff : mg "Tariff" = some (.ref ad.c_Tariff)
  cl_Tariff : Cls K ad.c_Tariff
  K_Tariff : Mk K ad.c_Tariff ad.a_Tariff_init
  n_Tariff_setup_price : NoAttr K ad.c_Tariff "setup_price"
  n_Tariff_bands : NoAttr K ad.c_Tariff "bands"
set_option hygiene false
local macro_rules | `(tactic| walk_at "o") => `(tactic| first
  | (with_reducible assumption) | omega | (with_reducible rfl) | exact ble rfl | decide)
local macro_rules | `(tactic| walk_at "at") => `(tactic| first | with_reducible exact at0 | with_reducible exact at1 | with_reducible exact at2 | with_reducible exact at3 | with_reducible exact at4 | with_reducible exact at5)
local macro_rules | `(tactic| walk_at "tk") => `(tactic| first
  | exact .inl rfl
  | exact .inr ⟨_, rfl, List.mem_cons_self⟩ | exact .inr ⟨_, rfl, List.mem_cons_of_mem _ List.mem_cons_self⟩ | exact .inr ⟨_, rfl, List.mem_cons_of_mem _ (List.mem_cons_of_mem _ List.mem_cons_self)⟩)
local macro_rules | `(tactic| walk_at "ls") => `(tactic| first | exact .inl (by walk_at "tk") | exact .inr rfl)
local macro_rules | `(tactic| walk_at "sq") => `(tactic| first | exact .inl (by walk_at "ls") | exact .inr rfl)
local macro_rules | `(tactic| walk_at "1") => `(tactic| first
  | with_reducible refine ss_set ?_
  | ((with_reducible apply ex_var); (· exact rfl))
  | with_reducible refine ex_int ?_
  | with_reducible refine ex_str ?_
  | with_reducible refine ex_bl ?_
  | with_reducible refine ex_non ?_
  | with_reducible refine ex_op ?_
  | with_reducible refine ex_un ?_
  | with_reducible refine ax_nil ?_
  | with_reducible refine ax_cons ?_
  | with_reducible refine ss_fld2 ?_
  | with_reducible refine ss_if ?_
  | with_reducible refine ss_ret ?_
  | with_reducible refine ss_retN ?_
  | with_reducible refine ss_drop ?_
  | with_reducible refine ss_next ?_
  | with_reducible refine ss_asg ?_
  | with_reducible refine tx_test ?_
  | with_reducible refine tx_tru ?_
  | with_reducible refine tx_and ?_
  | with_reducible refine tx_or ?_
  | with_reducible refine tx_not ?_
  | with_reducible refine tx_yes ?_
  | with_reducible refine ⟨_, rfl, ?_⟩
  | with_reducible refine ex_if ?_
  | with_reducible refine ex_chain ?_
  | with_reducible refine ex_tup ?_
  | with_reducible refine ex_sl ?_
  | with_reducible refine ox_none ?_
  | with_reducible refine ox_some ?_
  | with_reducible refine ex_cb ?_
  | with_reducible refine ex_m1 ?_
  | with_reducible refine ex_call0 ?_
  | with_reducible refine ex_notT ?_
  | with_reducible refine ex_andT ?_
  | with_reducible refine ex_orT ?_
  | with_reducible refine tru_bl ?_
  | with_reducible refine tru_non ?_
  | with_reducible refine ex_fld ?_
  | walk_at "fg"
  | ((with_reducible apply mtE); (· walk_at "od"); (· decide +kernel))
  | ((with_reducible show FldW _ _ _ _ _ _); walk_at "fs")
  | with_reducible refine starts_str ?_
  | with_reducible refine neg_int ?_
  | with_reducible refine tru_own0 ?_
  | with_reducible refine ex_meth0 ?_
  | with_reducible refine add_int ?_
  | with_reducible refine sub_int ?_
  | ((with_reducible refine mul_int ?_ ?_); (· walk_at "o"))
  | ((with_reducible refine div_int ?_ ?_); (· first | walk_at "o" | exact ⟨by decide, by decide +kernel⟩))
  | ((with_reducible refine mod_int ?_ ?_); (· walk_at "o"))
  | ((with_reducible apply pow_int); (· exact ⟨by decide, by decide, by decide⟩))
  | with_reducible refine eq_int ?_
  | with_reducible refine ne_int ?_
  | with_reducible refine eq_str ?_
  | with_reducible refine ne_str ?_
  | with_reducible refine lt_int ?_
  | with_reducible refine le_int ?_
  | with_reducible refine gt_int ?_
  | with_reducible refine ge_int ?_
  | with_reducible refine isn_non ?_
  | with_reducible refine isn_bl ?_
  | with_reducible refine isn_int ?_
  | with_reducible refine isn_str ?_
  | with_reducible refine isn_tup ?_
  | with_reducible refine isn_lst ?_
  | with_reducible refine isn_obj ?_
  | with_reducible refine isn_ptr ?_
  | with_reducible refine ntn_non ?_
  | with_reducible refine ntn_bl ?_
  | with_reducible refine ntn_int ?_
  | with_reducible refine ntn_str ?_
  | with_reducible refine ntn_tup ?_
  | with_reducible refine ntn_lst ?_
  | with_reducible refine ntn_obj ?_
  | with_reducible refine ntn_ptr ?_
  | with_reducible refine int_int ?_
  | with_reducible refine int_bl ?_
  | with_reducible refine max_two ?_
  | with_reducible refine min_two ?_
  | with_reducible refine gx_name trivial ?_
  | ((with_reducible refine gx_name ?_ ?_); (· decide))
  | ((with_reducible apply gx_tup); (· exact rfl))
  | with_reducible refine gsx_cons ?_
  | with_reducible refine gsx_nil ?_
  | with_reducible refine gx_sub ?_
  | with_reducible refine ix_rng1 ?_
  | with_reducible refine ix_rng2 ?_
  | with_reducible refine ix_seq' ?_
  | with_reducible refine iteT ?_
  | with_reducible refine iteF ?_
  | with_reducible refine iteNt ?_
  | with_reducible refine iteNf ?_
  | ((with_reducible refine ⟨?_, ?_⟩); (· exact ble rfl))
  | ((with_reducible apply ix_lst); (· walk_at "ls"); (· walk_at "at"))
  | ((with_reducible apply ix_tp); (· walk_at "at"))
  | ((with_reducible apply len_seq); (· walk_at "sq")))
local macro_rules | `(tactic| walk_at "e") => `(tactic| repeat walk_at "1")
local macro_rules | `(tactic| walk_at "st") => `(tactic| ((with_reducible refine ss_seq ?_); walk_at "e"))
local macro_rules | `(tactic| walk_at "go") => `(tactic| repeat (first | with_reducible refine ss_seq ?_ | walk_at "1"))
local macro_rules | `(tactic| walk_at "rg") => `(tactic| first | exact ⟨[], _, rfl⟩ | exact ⟨[_], _, rfl⟩ | exact ⟨[_, _], _, rfl⟩ | exact ⟨[_, _, _], _, rfl⟩ | assumption)
local macro_rules | `(tactic| walk_at "fx") => `(tactic| first | with_reducible exact fidx_hd | ((with_reducible apply fidx_tl); (· decide +kernel); (· walk_at "fx")))
local macro_rules | `(tactic| walk_at "mem") => `(tactic| first | with_reducible exact List.mem_cons_self | ((with_reducible refine List.mem_cons_of_mem _ ?_); walk_at "mem") | assumption)
local macro_rules | `(tactic| walk_at "od") => `(tactic| first | with_reducible exact odO rfl | ((with_reducible apply odP); (· (with_reducible rfl)); (· walk_at "mem")))
local macro_rules | `(tactic| walk_at "cut") => `(tactic| first | (with_reducible rfl) | with_reducible exact (List.nil_append _).symm | exact show _ = [_] ++ _ from rfl | exact show _ = [_, _] ++ _ from rfl | exact show _ = [_, _, _] ++ _ from rfl)
local macro_rules | `(tactic| walk_at "fs") => `(tactic| first
  | ((with_reducible apply fsN); (· walk_at "cut"); (· walk_at "cl"); (· walk_at "na"); (· exact Nat.lt_of_lt_of_le (show _ < 999 from ble rfl) (by decide)); (· decide +kernel))
  | ((with_reducible apply fsS); (· walk_at "cut"); (· walk_at "cl"); (· walk_at "na"); (· exact Nat.lt_of_lt_of_le (show _ < 999 from ble rfl) (by decide)); (· walk_at "fx")))
local macro_rules | `(tactic| walk_at "fg") => `(tactic| ((with_reducible apply fgE); (· walk_at "od"); (· walk_at "cl"); (· walk_at "na"); (· walk_at "fx"); (· exact rfl)))
local macro_rules | `(tactic| walk_at "nz") => `(tactic| (try simp only [List.set_cons_succ, List.set_cons_zero, and_true]); try trivial)
local macro_rules | `(tactic| walk_at "sl") => `(tactic| simp only [List.set_cons_succ, List.set_cons_zero])

local macro_rules | `(tactic| walk_at "cl") => `(tactic| first | with_reducible exact T.cl_Band | with_reducible exact T.cl_Tariff)
local macro_rules | `(tactic| walk_at "na") => `(tactic| first | with_reducible exact T.n_Band_label | with_reducible exact T.n_Band_prefix | with_reducible exact T.n_Band_from_hour | with_reducible exact T.n_Band_to_hour | with_reducible exact T.n_Band_price | with_reducible exact T.n_Tariff_setup_price | with_reducible exact T.n_Tariff_bands)
/-! ### bands -/
structure Row where
  label : Str
  pre : Str
  lo : Int
  hi : Int
  price : Int
noncomputable instance : DecidableEq Row := fun _ _ => Classical.propDecidable _
def hour (clock : Int) : Int := clock % 86400 / 3600
def holdsB (called : Str) (clock : Int) (r : Row) : Bool := Txt.startswith called r.pre && (decide (r.lo ≤ hour clock) && decide (hour clock < r.hi))
def longer (b : Option Row) (r : Row) : Bool := match b with
  | none => true
  | some b => decide (b.pre.length < r.pre.length)
def stepB (called : Str) (clock : Int) (b : Option Row) (r : Row) : Option Row := if holdsB called clock r = true ∧ longer b r = true then some r else b
def bestB (called : Str) (clock : Int) (rows : List Row) : Option Row := rows.foldl (stepB called clock) none
abbrev bandNs : List Str := ["label", "prefix", "from_hour", "to_hour", "price"]
abbrev bandD (ad : Ad) (r : Row) : Dat := .obj ad.c_Band bandNs [.str r.label, .str r.pre, .int r.lo, .int r.hi, .int r.price]
abbrev tariffNs : List Str := ["setup_price", "bands"]
abbrev tariffD (ad : Ad) (setup : Int) (rows : List Row) : Dat := .obj ad.c_Tariff tariffNs [.int setup, .tup (rows.map (bandD ad))]
def optD (f : Row → Dat) : Option Row → Dat
  | none => .non
  | some r => f r
theorem best_in {called : Str} {clock : Int} {rows : List Row} : ∀ {b0 : Option Row} {b : Row}, rows.foldl (stepB called clock) b0 = some b → b0 = some b ∨ b ∈ rows := by
  induction rows with
  | nil => intro b0 b h; exact .inl h
  | cons r rows ih =>
    intro b0 b h
    rw [List.foldl_cons] at h
    rcases ih h with h | h
    · unfold stepB at h
      split at h
      · cases h; exact .inr List.mem_cons_self
      · exact .inl h
    · exact .inr (List.mem_cons_of_mem _ h)
theorem best_mem {called : Str} {clock : Int} {rows : List Row} {b : Row} (h : bestB called clock rows = some b) : b ∈ rows := (best_in h).elim (fun z => nomatch z) id
theorem best_hour {called : Str} {c c' : Int} (h : hour c = hour c') (rows : List Row) : bestB called c rows = bestB called c' rows := by
  have e : stepB called c = stepB called c' := by
    funext b r
    unfold stepB holdsB
    rw [h]
  unfold bestB
  rw [e]
def scale (t : Int) (r : Row) : Row := { r with price := t * r.price }
theorem best_scale {called : Str} {c t : Int} (rows : List Row) : ∀ b, (rows.map (scale t)).foldl (stepB called c) (b.map (scale t)) = (rows.foldl (stepB called c) b).map (scale t) := by
  induction rows with
  | nil => intro b; rfl
  | cons r rows ih =>
    intro b
    rw [List.map_cons, List.foldl_cons, List.foldl_cons, ← ih]
    congr 1
    unfold stepB
    have e1 : holdsB called c (scale t r) = holdsB called c r := rfl
    have e2 : longer (b.map (scale t)) (scale t r) = longer b r := by cases b <;> rfl
    rw [e1, e2]
    split <;> rfl
/-- the band of a second -/
def bs (called : Str) (start : Int) (rows : List Row) (p : Int) : Option Row := bestB called (start + p) rows
theorem bs_scale {called : Str} {start t : Int} {rows : List Row} : bs called start (rows.map (scale t)) = fun p => (bs called start rows p).map (scale t) := by
  funext p
  exact best_scale rows none
theorem bs_day {called : Str} {start d : Int} {rows : List Row} : bs called (start + 86400 * d) rows = bs called start rows := by
  funext p
  exact best_hour (by unfold hour; omega) rows
theorem bs_const {called : Str} {start p q : Int} {rows : List Row} (h1 : p ≤ q) (h2 : q < p + 3600 - (start + p) % 3600) : bs called start rows q = bs called start rows p := best_hour (by unfold hour; omega) rows
structure TarOk (rows : List Row) : Prop where
  each : ∀ r ∈ rows, r.pre.length ≤ 4 ∧ 0 ≤ r.price ∧ r.price < 1000 ∧ PyData.strOk r.label = true
  inj : ∀ r ∈ rows, ∀ s ∈ rows, r.label = s.label → r = s
theorem TarOk.sc {rows : List Row} {t : Int} (h : TarOk rows) (hp : ∀ r ∈ rows, r.price < 100) (t0 : 1 ≤ t) (t1 : t ≤ 9) : TarOk (rows.map (scale t)) := by
  constructor
  · intro r hr
    obtain ⟨s, hs, rfl⟩ := List.mem_map.mp hr
    obtain ⟨h1, h2, h3, h4⟩ := h.each s hs
    have h5 := hp s hs
    refine ⟨h1, Int.mul_nonneg (by omega) h2, ?_, h4⟩
    show t * s.price < 1000
    have : t = 1 ∨ t = 2 ∨ t = 3 ∨ t = 4 ∨ t = 5 ∨ t = 6 ∨ t = 7 ∨ t = 8 ∨ t = 9 := by omega
    rcases this with rfl | rfl | rfl | rfl | rfl | rfl | rfl | rfl | rfl <;> omega
  · intro r hr s hs e
    obtain ⟨r2, hr2, rfl⟩ := List.mem_map.mp hr
    obtain ⟨s2, hs2, rfl⟩ := List.mem_map.mp hs
    have e2 : r2.label = s2.label := e
    rw [h.inj r2 hr2 s2 hs2 e2]
structure WinOk (start begin till : Int) : Prop where
  s0 : 0 ≤ start
  s1 : start < 10000000
  b0 : 0 ≤ begin
  bt : begin ≤ till
  t1 : till < 1000000
/-! ### the mathematics of stretches -/
section
variable {α : Type} [DecidableEq α]
abbrev Pc (α : Type) := α × Int × Int
def push (ps : List (Pc α)) (r : α) (lo hi : Int) : List (Pc α) := match ps.getLast? with
  | some (s, l, _) => if s = r then ps.dropLast ++ [(r, l, hi)] else ps ++ [(r, lo, hi)]
  | none => [(r, lo, hi)]
theorem push_nil (r : α) (lo hi : Int) : push [] r lo hi = [(r, lo, hi)] := rfl
theorem push_snoc (ps : List (Pc α)) (s r : α) (l h lo hi : Int) : push (ps ++ [(s, l, h)]) r lo hi = if s = r then ps ++ [(r, l, hi)] else ps ++ [(s, l, h), (r, lo, hi)] := by
  unfold push
  rw [List.getLast?_append]
  simp
theorem last_cases {β : Type} (ps : List β) : ps = [] ∨ ∃ qs t, ps = qs ++ [t] := by
  rcases List.eq_nil_or_concat ps with h | ⟨l, b, h⟩
  · exact .inl h
  · exact .inr ⟨l, b, by rw [h]; simp⟩
theorem push_push (ps : List (Pc α)) (r : α) (a b c d : Int) : push (push ps r a b) r c d = push ps r a d := by
  rcases last_cases ps with rfl | ⟨qs, ⟨s, l, h⟩, rfl⟩
  · rw [push_nil, push_nil, show [(r, a, b)] = [] ++ [(r, a, b)] from rfl, push_snoc, if_pos rfl]; rfl
  · rw [push_snoc, push_snoc]
    by_cases e : s = r
    · rw [if_pos e, if_pos e, push_snoc, if_pos rfl]
    · rw [if_neg e, if_neg e, show qs ++ [(s, l, h), (r, a, b)] = (qs ++ [(s, l, h)]) ++ [(r, a, b)] by simp, push_snoc, if_pos rfl]; simp
/-- the stretches of f on the seconds from a on, n of them -/
def rle (f : Int → Option α) (a : Int) : Nat → Option (List (Pc α))
  | 0 => some []
  | n + 1 => match rle f a n, f (a + n) with
    | some ps, some r => some (push ps r (a + n) (a + n + 1))
    | _, _ => none
theorem rle_some {f : Int → Option α} {a : Int} {n : Nat} {ps : List (Pc α)} (h : rle f a (n + 1) = some ps) : ∃ qs r, rle f a n = some qs ∧ f (a + n) = some r ∧ ps = push qs r (a + n) (a + n + 1) := by
  rw [rle] at h
  split at h
  · next qs r e1 e2 => cases h; exact ⟨qs, r, e1, e2, rfl⟩
  · cases h
/-- on with one and the same -/
theorem rle_const {f : Int → Option α} {a : Int} {n : Nat} {r : α} {ps : List (Pc α)} (h : rle f a n = some ps) : ∀ {k : Nat}, (∀ i : Nat, i < k + 1 → f (a + n + i) = some r) → rle f a (n + k + 1) = some (push ps r (a + n) (a + n + k + 1))
  | 0, hf => by
    have e : f (a + n) = some r := by have := hf 0 (by omega); simpa using this
    rw [Nat.add_zero, rle, h, e]
    simp
  | k + 1, hf => by
    have ih := rle_const h (k := k) (fun i hi => hf i (by omega))
    have e : f (a + ((n + k + 1 : Nat) : Int)) = some r := by
      rw [← hf (k + 1) (by omega)]; congr 1; push_cast; omega
    show rle f a ((n + k + 1) + 1) = _
    rw [rle, ih, e]
    show some (push (push ps r _ _) r _ _) = _
    rw [push_push]
    congr 2
    push_cast; omega
theorem rle_none {f : Int → Option α} {a : Int} {n : Nat} (i : Nat) (h : f (a + i) = none) (hi : i < n) : rle f a n = none := by
  induction n with
  | zero => omega
  | succ n ih =>
    rw [rle]
    rcases Nat.lt_or_ge i n with q | q
    · rw [ih q]
    · have : i = n := by omega
      subst this
      rw [h]
      split
      · next h2 => cases h2
      · rfl
/-- a cut's two parts put together -/
def joinR (x y : List (Pc α)) : List (Pc α) := match y with
  | [] => x
  | (r, lo, hi) :: y => push x r lo hi ++ y
theorem joinR_nil (x : List (Pc α)) : joinR x [] = x := rfl
theorem push_append {x y : List (Pc α)} {r : α} {lo hi : Int} (h : y ≠ []) : push (x ++ y) r lo hi = x ++ push y r lo hi := by
  rcases last_cases y with rfl | ⟨qs, ⟨s, l, k⟩, rfl⟩
  · exact absurd rfl h
  · rw [← List.append_assoc, push_snoc, push_snoc]
    by_cases e : s = r
    · rw [if_pos e, if_pos e]; simp
    · rw [if_neg e, if_neg e]; simp
theorem push_ne (x : List (Pc α)) (r : α) (lo hi : Int) : push x r lo hi ≠ [] := by
  rcases last_cases x with rfl | ⟨qs, ⟨s, l, h⟩, rfl⟩
  · exact List.cons_ne_nil _ _
  · rw [push_snoc]; split <;> simp
theorem push_join (x y : List (Pc α)) (r : α) (lo hi : Int) : push (joinR x y) r lo hi = joinR x (push y r lo hi) := by
  cases y with
  | nil => rw [push_nil]; show push x r lo hi = push x r lo hi ++ []; simp
  | cons t y =>
    obtain ⟨s, l, h⟩ := t
    rcases last_cases y with rfl | ⟨qs, ⟨s2, l2, h2⟩, rfl⟩
    · show push (push x s l h ++ []) r lo hi = _
      rw [List.append_nil, show [(s, l, h)] = [] ++ [(s, l, h)] from rfl, push_snoc]
      by_cases e : s = r
      · subst e
        rw [push_push, if_pos rfl]
        show _ = push x s l hi ++ []
        simp
      · rw [if_neg e]
        show _ = push x s l h ++ [(r, lo, hi)]
        have : ∃ q v w, push x s l h = q ++ [(s, v, w)] := by
          rcases last_cases x with rfl | ⟨qs, ⟨s3, l3, h3⟩, rfl⟩
          · exact ⟨[], l, h, rfl⟩
          · rw [push_snoc]
            by_cases e3 : s3 = s
            · rw [if_pos e3]; exact ⟨qs, l3, h, rfl⟩
            · rw [if_neg e3]; exact ⟨qs ++ [(s3, l3, h3)], l, h, by simp⟩
        obtain ⟨q, v, w, e4⟩ := this
        rw [e4, push_snoc, if_neg e]; simp
    · show push (push x s l h ++ (qs ++ [(s2, l2, h2)])) r lo hi = _
      rw [push_append (by simp), show (s, l, h) :: (qs ++ [(s2, l2, h2)]) = ((s, l, h) :: qs) ++ [(s2, l2, h2)] from rfl, push_snoc, push_snoc]
      by_cases e : s2 = r
      · rw [if_pos e, if_pos e]; rfl
      · rw [if_neg e, if_neg e]; rfl
theorem rle_cut {f : Int → Option α} {a : Int} {m : Nat} : ∀ {n : Nat}, rle f a (m + n) = match rle f a m, rle f (a + m) n with | some x, some y => some (joinR x y) | _, _ => none
  | 0 => by
    rw [Nat.add_zero]
    show _ = match rle f a m, some [] with | some x, some y => some (joinR x y) | _, _ => none
    cases rle f a m with
    | none => rfl
    | some x => rfl
  | n + 1 => by
    show rle f a ((m + n) + 1) = _
    rw [rle, rle, rle_cut]
    have e : a + ((m + n : Nat) : Int) = a + m + n := by push_cast; omega
    rw [e]
    cases rle f a m with
    | none => rfl
    | some x => cases rle f (a + m) n with
      | none => rfl
      | some y => cases f (a + m + n) with
        | none => rfl
        | some r => exact congrArg some (push_join x y r _ _)
/-- what is known of each stretch -/
theorem rle_in {f : Int → Option α} {a : Int} : ∀ {n : Nat} {ps : List (Pc α)}, rle f a n = some ps → ∀ t ∈ ps, a ≤ t.2.1 ∧ t.2.1 < t.2.2 ∧ t.2.2 ≤ a + n ∧ ∃ p, f p = some t.1
  | 0, ps, h => by cases h; exact fun t ht => (List.not_mem_nil ht).elim
  | n + 1, ps, h => by
    obtain ⟨qs, r, h1, h2, rfl⟩ := rle_some h
    have ih := rle_in h1
    rcases last_cases qs with rfl | ⟨qs, ⟨s, l, k⟩, rfl⟩
    · intro t ht
      rw [push_nil, List.mem_singleton] at ht
      subst ht
      exact ⟨by dsimp; omega, by dsimp; omega, by dsimp; omega, _, h2⟩
    · intro t ht
      rw [push_snoc] at ht
      have i1 := ih (s, l, k) (by simp)
      dsimp only at i1
      split at ht
      · rcases List.mem_append.mp ht with ht | ht
        · have := ih t (by simp [ht]); exact ⟨this.1, this.2.1, by omega, this.2.2.2⟩
        · rw [List.mem_singleton] at ht; subst ht
          exact ⟨by dsimp; omega, by dsimp; omega, by dsimp; omega, _, h2⟩
      · rcases List.mem_append.mp ht with ht | ht
        · have := ih t (by simp [ht]); exact ⟨this.1, this.2.1, by omega, this.2.2.2⟩
        · simp only [List.mem_cons, List.not_mem_nil, or_false] at ht
          rcases ht with rfl | rfl
          · exact ⟨i1.1, i1.2.1, by dsimp; omega, i1.2.2.2⟩
          · exact ⟨by dsimp; omega, by dsimp; omega, by dsimp; omega, _, h2⟩
/-- the last one ends where all end -/
theorem rle_last {f : Int → Option α} {a : Int} {n : Nat} {ps : List (Pc α)} (h : rle f a (n + 1) = some ps) : ∃ qs r l, ps = qs ++ [(r, l, a + n + 1)] := by
  obtain ⟨qs, r, h1, h2, rfl⟩ := rle_some h
  rcases last_cases qs with rfl | ⟨qs, ⟨s, l, k⟩, rfl⟩
  · exact ⟨[], r, _, rfl⟩
  · rw [push_snoc]
    split
    · exact ⟨qs, r, l, rfl⟩
    · exact ⟨qs ++ [(s, l, k)], r, a + n, by simp⟩
theorem rle_first {f : Int → Option α} {a : Int} : ∀ {n : Nat} {ps : List (Pc α)}, rle f a (n + 1) = some ps → ∃ qs r h, ps = (r, a, h) :: qs
  | 0, ps, h => by
    obtain ⟨qs, r, h1, h2, rfl⟩ := rle_some h
    cases h1
    exact ⟨[], r, a + 1, by rw [push_nil]; simp⟩
  | n + 1, ps, h => by
    obtain ⟨qs, r, h1, h2, rfl⟩ := rle_some h
    obtain ⟨qs', r', k, rfl⟩ := rle_first h1
    rcases last_cases qs' with rfl | ⟨qs, ⟨s, l, k2⟩, rfl⟩
    · rw [show [(r', a, k)] = [] ++ [(r', a, k)] from rfl, push_snoc]
      split
      · exact ⟨_, r, _, rfl⟩
      · exact ⟨_, r', _, rfl⟩
    · rw [show (r', a, k) :: (qs ++ [(s, l, k2)]) = ((r', a, k) :: qs) ++ [(s, l, k2)] from rfl, push_snoc]
      split <;> exact ⟨_, r', _, rfl⟩
def Alt (l : List (Pc α)) : Prop := ∀ l1 s t l2, l = l1 ++ s :: t :: l2 → s.1 ≠ t.1
theorem alt_nil : Alt ([] : List (Pc α)) := fun l1 s t l2 h => by cases l1 <;> cases h
theorem alt_one (t : Pc α) : Alt [t] := fun l1 s t2 l2 h => by
  cases l1 with
  | nil => cases h
  | cons _ l1 => cases l1 <;> cases h
theorem alt_snoc {qs : List (Pc α)} {s t : Pc α} (h : Alt (qs ++ [s])) (e : s.1 ≠ t.1) : Alt (qs ++ [s] ++ [t]) := fun l1 s2 t2 l2 q => by
  rcases last_cases l2 with rfl | ⟨l2, u, rfl⟩
  · have q' : (qs ++ [s]) ++ [t] = (l1 ++ [s2]) ++ [t2] := by rw [q]; simp
    obtain ⟨q1, q2⟩ := List.append_inj' q' rfl
    obtain ⟨_, q3⟩ := List.append_inj' q1 rfl
    cases q2; cases q3
    exact e
  · have q' : (qs ++ [s]) ++ [t] = (l1 ++ s2 :: t2 :: l2) ++ [u] := by rw [q]; simp
    obtain ⟨q1, _⟩ := List.append_inj' q' rfl
    exact h l1 s2 t2 l2 q1
theorem alt_last {qs : List (Pc α)} {s t : Pc α} (h : Alt (qs ++ [s])) (e : s.1 = t.1) : Alt (qs ++ [t]) := by
  rcases last_cases qs with rfl | ⟨qs, u, rfl⟩
  · exact alt_one t
  · refine alt_snoc ?_ ?_
    · intro l1 s2 t2 l2 q
      exact h l1 s2 t2 (l2 ++ [s]) (by rw [q]; simp)
    · rw [← e]
      exact h qs u s [] (by simp)
theorem rle_alt {f : Int → Option α} {a : Int} : ∀ {n : Nat} {ps : List (Pc α)}, rle f a n = some ps → Alt ps
  | 0, ps, h => by cases h; exact alt_nil
  | n + 1, ps, h => by
    obtain ⟨qs, r, h1, h2, rfl⟩ := rle_some h
    have ih := rle_alt h1
    rcases last_cases qs with rfl | ⟨qs, ⟨s, l, k⟩, rfl⟩
    · exact alt_one _
    · rw [push_snoc]
      split
      · next e => exact alt_last ih e
      · next e =>
        have := alt_snoc ih (t := (r, a + n, a + n + 1)) e
        simpa using this
theorem rle_map {β : Type} [DecidableEq β] {f : Int → Option α} {g : α → β} {a : Int} (inj : ∀ p q x y, f p = some x → f q = some y → g x = g y → x = y) : ∀ {n : Nat}, rle (fun p => (f p).map g) a n = (rle f a n).map fun ps => ps.map fun t => (g t.1, t.2.1, t.2.2)
  | 0 => rfl
  | n + 1 => by
    rw [rle, rle, rle_map inj]
    cases h : rle f a n with
    | none => rfl
    | some ps => cases h2 : f (a + n) with
      | none => rfl
      | some r =>
        show some (push _ (g r) _ _) = some _
        congr 1
        rcases last_cases ps with rfl | ⟨qs, ⟨s, l, k⟩, rfl⟩
        · rfl
        · have hs := rle_in h (s, l, k) (by simp)
          obtain ⟨p, hp⟩ := hs.2.2.2
          dsimp only
          rw [List.map_append, push_snoc, List.map_singleton, push_snoc]
          by_cases e : s = r
          · rw [if_pos e, if_pos (by rw [e])]; simp
          · rw [if_neg e, if_neg (fun z => e (inj _ _ _ _ hp h2 z))]; simp
end
section
variable {α : Type} [DecidableEq α] {lab : α → Str} {pr : α → Int}
abbrev Lr := Str × Int × Int
def lb (lab : α → Str) (t : Pc α) : Lr := (lab t.1, t.2.1, t.2.2)
def pushL (rows : List Lr) (t : Lr) : List Lr := match rows.getLast? with
  | some (s, l, k) => if s = t.1 ∧ k = t.2.1 then rows.dropLast ++ [(t.1, l, t.2.2)] else rows ++ [t]
  | none => [t]
theorem pushL_snoc (ps : List Lr) (s : Str) (l k : Int) (t : Lr) : pushL (ps ++ [(s, l, k)]) t = if s = t.1 ∧ k = t.2.1 then ps ++ [(t.1, l, t.2.2)] else ps ++ [(s, l, k)] ++ [t] := by
  unfold pushL
  rw [List.getLast?_append]
  simp
def rowsF (lab : α → Str) (ps : List (Pc α)) : List Lr := (ps.map (lb lab)).foldl pushL []
theorem rows_alt : ∀ {B A : List (Pc α)}, Alt (A ++ B) → (∀ s ∈ A ++ B, ∀ t ∈ A ++ B, lab s.1 = lab t.1 → s.1 = t.1) → (B.map (lb lab)).foldl pushL (A.map (lb lab)) = (A ++ B).map (lb lab)
  | [], A, _, _ => by simp
  | b :: B, A, h, inj => by
    have e : pushL (A.map (lb lab)) (lb lab b) = (A ++ [b]).map (lb lab) := by
      rcases last_cases A with rfl | ⟨A, s, rfl⟩
      · rfl
      · rw [List.map_append, List.map_singleton]
        show pushL (_ ++ [(lab s.1, s.2.1, s.2.2)]) _ = _
        rw [pushL_snoc, if_neg]
        · simp [lb]
        · rintro ⟨z, _⟩
          exact h A s b B (by simp) (inj s (by simp) b (by simp) z)
    rw [List.map_cons, List.foldl_cons, e, rows_alt (by simpa using h) (by simpa using inj)]
    simp
theorem cut_cases {f : Int → Option α} {a : Int} {m n : Nat} {ps : List (Pc α)} (h : rle f a (m + n) = some ps) (hm : 0 < m) (hn : 0 < n) : ∃ x y, rle f a m = some x ∧ rle f (a + m) n = some y ∧
    (ps = x ++ y ∨ ∃ x' r l k y', x = x' ++ [(r, l, a + m)] ∧ y = (r, a + m, k) :: y' ∧ ps = x' ++ (r, l, k) :: y' ) := by
  rw [rle_cut] at h
  obtain ⟨m, rfl⟩ : ∃ m', m = m' + 1 := ⟨m - 1, by omega⟩
  obtain ⟨n, rfl⟩ : ∃ n', n = n' + 1 := ⟨n - 1, by omega⟩
  split at h
  · next x y e1 e2 =>
    cases h
    refine ⟨x, y, e1, e2, ?_⟩
    obtain ⟨qs, s, l, rfl⟩ := rle_last e1
    obtain ⟨y', r, k, rfl⟩ := rle_first e2
    have e : a + ((m + 1 : Nat) : Int) = a + m + 1 := by push_cast; omega
    by_cases c : s = r
    · subst c
      right
      refine ⟨qs, s, l, k, y', by rw [e], rfl, ?_⟩
      show push _ s _ _ ++ y' = _
      rw [push_snoc, if_pos rfl]; simp
    · left
      show push _ r _ _ ++ y' = _
      rw [push_snoc, if_neg c]; simp
  · cases h
theorem rows_cut {f : Int → Option α} {a : Int} {m n : Nat} {ps x y : List (Pc α)} (h : rle f a (m + n) = some ps) (h1 : rle f a m = some x) (h2 : rle f (a + m) n = some y) (hm : 0 < m) (hn : 0 < n)
    (inj : ∀ p q s t, f p = some s → f q = some t → lab s = lab t → s = t) : rowsF lab (x ++ y) = rowsF lab ps := by
  have halt := rle_alt h
  have hin := rle_in h
  have hinj : ∀ s ∈ ps, ∀ t ∈ ps, lab s.1 = lab t.1 → s.1 = t.1 := fun s hs t ht e => by
    obtain ⟨p, hp⟩ := (hin s hs).2.2.2
    obtain ⟨q, hq⟩ := (hin t ht).2.2.2
    exact inj _ _ _ _ hp hq e
  have e0 : rowsF lab ps = ps.map (lb lab) := rows_alt (A := []) (B := ps) halt hinj
  obtain ⟨x2, y2, i1, i2, h⟩ := cut_cases h hm hn
  rw [h1] at i1; cases i1
  rw [h2] at i2; cases i2
  rcases h with rfl | ⟨x', r, l, k, y', rfl, rfl, rfl⟩
  · rfl
  · have haltx := rle_alt h1
    have hinx := rle_in h1
    rw [e0]
    have e1 : rowsF lab (x' ++ [(r, l, a + m)]) = (x' ++ [(r, l, a + m)]).map (lb lab) := rows_alt (A := []) (B := x' ++ [(r, l, a + m)]) haltx fun s hs t ht e => by
      obtain ⟨p, hp⟩ := (hinx s hs).2.2.2
      obtain ⟨q, hq⟩ := (hinx t ht).2.2.2
      exact inj _ _ _ _ hp hq e
    unfold rowsF at e1 ⊢
    rw [List.map_append, List.foldl_append, e1, List.map_cons, List.foldl_cons, List.map_append, List.map_singleton]
    show List.foldl pushL (pushL (_ ++ [(lab r, l, a + m)]) (lab r, a + m, k)) _ = _
    rw [pushL_snoc, if_pos ⟨rfl, rfl⟩]
    have := rows_alt (lab := lab) (A := x' ++ [(r, l, k)]) (B := y') (by simpa using halt) (by simpa using hinj)
    rw [List.map_append, List.map_singleton] at this
    show List.foldl pushL (_ ++ [(lab r, l, k)]) _ = _
    rw [show [(lab r, l, k)] = [lb lab (r, l, k)] from rfl, this]
    simp
def cost (pr : α → Int) (t : Pc α) : Int := pr t.1 * ((t.2.2 - t.2.1 + 60 - 1) / 60)
def total (pr : α → Int) (ps : List (Pc α)) : Int := (ps.map (cost pr)).sum
theorem total_app (x y : List (Pc α)) : total pr (x ++ y) = total pr x + total pr y := by unfold total; rw [List.map_append, List.sum_append]
theorem total_cons (t : Pc α) (y : List (Pc α)) : total pr (t :: y) = cost pr t + total pr y := by unfold total; rw [List.map_cons, List.sum_cons]
theorem ceil_cut {l M h : Int} (h1 : l < M) (h2 : M < h) : ((M - l + 60 - 1) / 60 + (h - M + 60 - 1) / 60 - (h - l + 60 - 1) / 60 = 0 ∨ (M - l + 60 - 1) / 60 + (h - M + 60 - 1) / 60 - (h - l + 60 - 1) / 60 = 1 ∧ (M - l) % 60 ≠ 0) := by omega
theorem cut_more {f : Int → Option α} {a : Int} {m n : Nat} {ps x y : List (Pc α)} (h : rle f a (m + n) = some ps) (h1 : rle f a m = some x) (h2 : rle f (a + m) n = some y) (hm : 0 < m) (hn : 0 < n) :
    (∀ t ∈ ps, t.2.1 < a + m → a + m < t.2.2 → (total pr x + total pr y - total pr ps = 0 ∨ total pr x + total pr y - total pr ps = pr t.1)) ∧
    ((∀ t ∈ ps, t.2.1 < a + m → a + m < t.2.2 → (a + m - t.2.1) % 60 = 0) → total pr x + total pr y - total pr ps = 0) := by
  have ix := rle_in h1
  have iy := rle_in h2
  obtain ⟨x2, y2, i1, i2, h⟩ := cut_cases h hm hn
  rw [h1] at i1; cases i1
  rw [h2] at i2; cases i2
  rcases h with rfl | ⟨x', r, l, k, y', rfl, rfl, rfl⟩
  · rw [total_app]
    refine ⟨fun t _ _ _ => .inl (by omega), fun _ => by omega⟩
  · have il := ix (r, l, a + m) (by simp)
    have ir := iy (r, a + m, k) (by simp)
    dsimp only at il ir
    have e : total pr (x' ++ [(r, l, a + m)]) + total pr ((r, a + m, k) :: y') - total pr (x' ++ (r, l, k) :: y') = pr r * ((a + m - l + 60 - 1) / 60 + (k - (a + m) + 60 - 1) / 60 - (k - l + 60 - 1) / 60) := by
      rw [total_app, total_app, total_cons, total_cons, total_cons, Int.mul_sub, Int.mul_add]
      have z : total pr ([] : List (Pc α)) = 0 := rfl
      rw [z]
      unfold cost
      dsimp only
      omega
    rw [e]
    have hc := ceil_cut (l := l) (M := a + m) (h := k) il.2.1 ir.2.1
    refine ⟨fun t ht h3 h4 => ?_, fun hz => ?_⟩
    · have ht2 : t.1 = r := by
        rcases List.mem_append.mp ht with ht | ht
        · have := (ix t (by simp [ht])).2.2.1
          omega
        · rcases List.mem_cons.mp ht with rfl | ht
          · rfl
          · have := (iy t (by simp [ht])).1
            omega
      rw [ht2]
      rcases hc with hc | ⟨hc, _⟩
      · rw [hc]; left; omega
      · rw [hc]; right; omega
    · have := hz (r, l, k) (by simp) il.2.1 ir.2.1
      dsimp only at this
      rcases hc with hc | ⟨_, hc⟩
      · rw [hc]; omega
      · exact absurd this hc
end
section
variable {α : Type} [DecidableEq α]
theorem push_len (ps : List (Pc α)) (r : α) (a b : Int) : (push ps r a b).length ≤ ps.length + 1 := by
  rcases last_cases ps with rfl | ⟨qs, ⟨s, l, h⟩, rfl⟩
  · exact Nat.le_refl _
  · rw [push_snoc]
    split <;> simp
theorem rle_len {f : Int → Option α} {a : Int} : ∀ {n : Nat} {ps : List (Pc α)}, rle f a n = some ps → ps.length ≤ n
  | 0, ps, h => by cases h; exact Nat.le_refl _
  | n + 1, ps, h => by
    obtain ⟨qs, r, h1, h2, rfl⟩ := rle_some h
    have := push_len qs r (a + n) (a + n + 1)
    have := rle_len h1
    omega
end
section
variable {P : Program} {w : World} {K : PySem.W.Frag} {mg : Str → Option Value} {base : Heap} {ad : Ad}
/-! ### _law_state -/
def con__law_state (_ : Ad) : Con := fun args own P _ => ∃ (ns : List Int) (k salt : Int), args = [.scr (ns.map Dat.int), .int k, .int salt] ∧ ns.length ≤ 63 ∧ (∀ z ∈ ns, z.natAbs < 2 ^ sB) ∧ 0 ≤ k ∧ k < 1000 ∧ 0 ≤ salt ∧ salt < 1000 ∧
  ∀ a, a ∉ own.map (·.1) → P (.ptr a) ((a, .rng) :: own)
theorem rng_of {a b : Int} {j : Nat} (ha : 0 ≤ a) (hb : 0 ≤ b) (h1 : Bd a j) (h2 : Bd b j) (h : j ≤ rB) : RngOk a b := ⟨ha, h1.mono h, hb, h2.mono h⟩
theorem ok__law_state (T : Tx K mg ad) : FnOk P w K mg base CX0 1 ad.a__law_state ad.d__law_state ["script", "k", "salt"] (SpG K (con__law_state ad)) := by
  refine okS T.F__law_state sc__law_state (by rintro args own P XP ⟨_, _, _, rfl, _⟩; rfl) fun cdv A outer s H E hr => ?_
  have hu1 := hu_of hr
  have hu64 := hr.units
  have hu65 : (A.deeper (PyProof.Rows.envOfC "_law_state" (defScope s__law_state) s.heap.objs.size ad.a__law_state cdv)).units + 65 < cLine := by have := hr.un; omega
  refine ⟨_, (pss_cons (ps_set (i := 3) sc__law_state.nd rfl (by first | exact Or.inl rfl | exact Or.inr rfl) pe_int)
      (pss_cons (ps_if (pt_cmpR op_gt (pe_callB (k_len (K := K) rfl) (by rfl) T.b_len (by decide +kernel) (pa_cons (pv 0) pa_nil)) pe_int (nomark _)) (pss_one (ps_set (i := 3) sc__law_state.nd rfl (by first | exact Or.inl rfl | exact Or.inr rfl) (pe_callTy call_intU (by rfl) T.b_int (by decide +kernel) (pa_cons (pe_ix (k_ix (K := K) rfl hu1) (pv 0) (pe_op op_mod (pe_callTy call_intU (by rfl) T.b_int (by decide +kernel) (pa_cons (pv 1) pa_nil)) (pe_callB (k_len (K := K) rfl) (by rfl) T.b_len (by decide +kernel) (pa_cons (pv 0) pa_nil))) (fun _ _ => rfl)) pa_nil)))) pss_nil)
      (pss_cons (ps_if (pt_cmpR op_lt (pv 3) pe_int (nomark _)) (pss_one (ps_set (i := 3) sc__law_state.nd rfl (by first | exact Or.inl rfl | exact Or.inr rfl) (pe_op op_sub pe_int (pe_op op_mulU pe_int (pv 3))))) pss_nil)
      (pss_cons (ps_if (PW.pt (pw_and (pt_cmpR op_lt (pv 1) (pe_callB (k_len (K := K) rfl) (by rfl) T.b_len (by decide +kernel) (pa_cons (pv 0) pa_nil)) (nomark _)) (pw_and1 (pt_cmpR op_ge (pv 3) (pe_op op_pow pe_int pe_int) (nomark _))))) (pss_one (ps_ret (pe_lst (pa_cons (pv 3) (pa_cons (pe_op (k_add (K := K) rfl) (pv 2) pe_int) pa_nil))))) pss_nil)
      (pss_one (ps_ret (pe_lst (pa_cons pe_int (pa_cons (pe_op (k_add (K := K) rfl) (pe_op (k_add (K := K) rfl) (pe_op (k_add (K := K) rfl) (pe_op op_mulU (pv 3) pe_int) (pe_op op_mulU pe_int (pv 1))) (pe_op op_mulU pe_int (pv 2))) pe_int) pa_nil))))))))), ?_⟩
  try dsimp only [cxOf]
  rintro args own P XP ⟨ns, k, salt, rfl, hl, hb, k0, k1, s0, s1, hq⟩
  show SS K E0 _ [some _, some _, some _, none] _ _
  walk_at "st"
  refine ss_mid (fun s o => ∃ c : Int, s = [some (.scr (ns.map Dat.int)), some (.int k), some (.int salt), some (.int c)] ∧ o = own ∧ Bd c sB) ?_ ?_
  · walk_at "go"
    refine iteD (fun h => ?_) (fun h => ?_)
    · walk_at "go"
      obtain ⟨z, _, hz, hi⟩ := atI_ok (xs := ns.map Dat.int) (i := k % ((ns.map Dat.int).length : Int)) (Int.emod_nonneg _ (by omega)) (Int.emod_lt_of_pos _ (by omega))
      obtain ⟨c, hc, rfl⟩ := List.mem_map.mp hz
      refine ix_lst (.inr rfl) hi ?_
      walk_at "go"
      exact ⟨rfl, hb c hc⟩
    · walk_at "go"
      exact ⟨rfl, Nat.two_pow_pos _⟩
  rintro s o ⟨c, rfl, rfl, hc⟩
  refine ss_mid (fun s o' => ∃ c : Int, s = [some (.scr (ns.map Dat.int)), some (.int k), some (.int salt), some (.int c)] ∧ o' = o ∧ 0 ≤ c ∧ Bd c (sB + 2)) ?_ ?_
  · walk_at "go"
    refine iteD (fun h => ?_) (fun h => ?_)
    · have m1 : IntMulOk 2 c := Bd.ok (bd_lit (k := 2) (by decide)) hc (by decide)
      walk_at "go"
      have hd := Bd.add hc hc
      refine ⟨rfl, by omega, ?_⟩
      have := Bd.sub (a := 1) ((bd_lit (k := 1) (by decide)).mono (by decide)) hd
      rwa [show c + c = 2 * c by omega] at this
    · walk_at "go"
      exact ⟨rfl, by omega, hc.mono (by decide)⟩
  rintro s o ⟨c, rfl, rfl, c0, hc⟩
  refine ss_mid (fun s o' => s = [some (.scr (ns.map Dat.int)), some (.int k), some (.int salt), some (.int c)] ∧ o' = o) ?_ ?_
  · walk_at "go"
    refine iteD (fun h => ?_) (fun h => ?_)
    · walk_at "go"
      refine iteD (fun h => ?_) (fun h => ?_)
      · walk_at "go"
        refine ex_lstR (x := 0) (y := 0) ?_
        walk_at "go"
        exact ⟨_, _, rfl, rng_of (j := sB + 2) c0 (by omega) hc ((bd_lit (k := 64) (by omega)).mono (by decide)) (by decide), hq⟩
      · walk_at "go"
        exact ⟨rfl, rfl⟩
    · walk_at "go"
      exact ⟨rfl, rfl⟩
  rintro s o' ⟨rfl, rfl⟩
  have m1 : IntMulOk c 61 := Bd.ok hc (bd_lit (k := 6) (by decide)) (by decide)
  have m2 : IntMulOk 7919 k := Bd.ok (bd_lit (k := 64) (by decide)) (bd_lit (k := 64) (by omega)) (by decide)
  have m3 : IntMulOk 104729 salt := Bd.ok (bd_lit (k := 64) (by decide)) (bd_lit (k := 64) (by omega)) (by decide)
  walk_at "1"
  refine ex_lstR (x := 0) (y := 0) ?_
  walk_at "go"
  refine ⟨_, _, rfl, rng_of (j := sB + 10) (by decide) (by omega) ((bd_lit (k := 1) (by decide)).mono (by decide)) ?_ (by decide), hq⟩
  have h1 := (hc.mul (bd_lit (n := 61) (k := 6) (by decide))).mono (show sB + 2 + 6 ≤ sB + 9 by decide)
  have h2 : Bd (7919 * k + 104729 * salt + 1) (sB + 9) := (bd_lit (k := 64) (by omega)).mono (by decide)
  have := h1.add h2
  have e : c * 61 + 7919 * k + 104729 * salt + 1 = c * 61 + (7919 * k + 104729 * salt + 1) := by omega
  rw [e]; exact this
/-! ### Tariff.__init__ -/
def con_Tariff_init (ad : Ad) : Con := fun args own P _ => ∃ p r d1 d2 ds, args = [.ptr p, d1, d2] ∧ own = (p, .ins ad.c_Tariff [] []) :: r ∧ (d2 = .lst ds ∨ d2 = .tup ds) ∧ P .non ((p, .ins ad.c_Tariff tariffNs [d1, .tup ds]) :: r)
theorem ok_Tariff_init (T : Tx K mg ad) : FnOk P w K mg base CX0 1 ad.a_Tariff_init ad.d_Tariff_init ["self", "setup_price", "bands"] (SpG K (con_Tariff_init ad)) := by
  refine okS T.F_Tariff_init sc_Tariff_init (by rintro args own P XP ⟨_, _, _, _, _, rfl, _⟩; rfl) fun cdv A outer s H E hr => ?_
  have hu1 := hu_of hr
  have hu64 := hr.units
  have hu65 : (A.deeper (PyProof.Rows.envOfC "Tariff.__init__" (defScope s_Tariff_init) s.heap.objs.size ad.a_Tariff_init cdv)).units + 65 < cLine := by have := hr.un; omega
  refine ⟨_, (pss_cons (ps_fld (pv 0) (pv 1) rfl)
      (pss_one (ps_fld (pv 0) (pe_callTy (k_tup (K := K) rfl) (by rfl) T.b_tuple (by decide +kernel) (pa_cons (pv 2) pa_nil)) rfl))), ?_⟩
  try dsimp only [cxOf]
  rintro args own P XP ⟨p, r, d1, d2, ds, rfl, rfl, hd, hq⟩
  show SS K E0 _ [some _, some _, some _] _ _
  walk_at "go"
  refine tup_of (ds := ds) ?_ ?_
  · rcases hd with rfl | rfl
    · exact .inl (.inl (.inl rfl))
    · exact .inr rfl
  walk_at "go"
  exact hq
/-! ### _law_draw -/
def con__law_draw (_ : Ad) : Con := fun args own P _ => ∃ (s : Addr) (m : Int), args = [.ptr s, .int m] ∧ 1 ≤ m ∧ Bd m 64 ∧ ((Rg s own ∧ ∀ d, 0 ≤ d → d < m → P (.int d) own) ∨
  ∃ l r x y, own = l ++ (s, .lst [.int x, .int y]) :: r ∧ RngOk x y ∧ P (.int (drw x y m).1) (l ++ (s, .lst [.int (drw x y m).2.1, .int (drw x y m).2.2]) :: r))
theorem dr {ad : Ad} {own : Own} {P : PD} {XP : XD} {s : Addr} {m : Int} (h : Rg s own) (h1 : 1 ≤ m) (h2 : m < 18446744073709551616) (k : ∀ d, 0 ≤ d → d < m → P (.int d) own) : con__law_draw ad [.ptr s, .int m] own P XP :=
  ⟨s, m, rfl, h1, by unfold Bd; omega, .inl ⟨h, k⟩⟩
/-- "".join([str(_law_draw(state, m)) for .. in range(..)]) -/
theorem ex_digs {ad : Ad} {K : PySem.W.Frag} {sl : SL} {own : Own} {P : PD} {ta : TA} {i j : Nat} {m : Int} {vs : List Nat} (hv : i ∈ vs) (h : AX K ta sl own fun ds o => ∃ (n : Int) (s : Addr), ds = [.int n] ∧ 0 ≤ n ∧ n ≤ 1000 ∧ Rg s o ∧ (∀ d, ((wipeS sl vs).set i d)[j]? = some (some (.ptr s))) ∧ 1 ≤ m ∧ m ≤ 10 ∧ ∀ z, Dgt m.toNat z → z.length = n.toNat → P (.str z) o) :
    EX K (tLc (iRng1 ta) (gName i) tYes (tCB rStrI (tCons (tCall (SpG K (con__law_draw ad)) [] E0 (tCons (tVar j) (tCons (tC (.int m)) tNil))) tNil)) vs) sl own (fun e o2 => RMX K (rJoin K) (.str (Str.ofString "")) [e] o2 P) := by
  refine ex_lc (ix_rng1 ?_)
  intro F V0 σ H hs hl Q q
  refine h F V0 σ H hs hl Q fun xs H' ds o a b c ⟨n, s, e, n0, n1, hr, hj, m0, m1, hq⟩ => q xs H' ds o a b c ?_
  refine ⟨n, e, by omega, by omega, fun i acc o' => o' = o ∧ ∃ ys : List Str, acc = ys.map Dat.str ∧ ys.length = i ∧ ∀ y ∈ ys, y.length = 1 ∧ Dgt m.toNat y, ⟨rfl, [], rfl, rfl, fun y h => (List.not_mem_nil h).elim⟩, fun _ _ _ _ => trivial, ?_, ?_⟩
  · rintro k x acc o' hx ⟨rfl, ys, rfl, hi, hy⟩
    obtain ⟨hlt, rfl⟩ := rng_at hx
    refine gx_name hv (tx_yes (iteT (ex_cb (ax_cons (ex_call0 (ax_cons (ex_var (hj _) (ax_cons (ex_int (ax_nil ?_))))))))))
    refine dr hr m0 (by omega) fun c c0 c1 => ax_nil (str_int (small_log c0 (by omega)) ?_)
    refine ⟨by rw [List.length_map]; show _ < 16777216; omega, rfl, ys ++ [Str.ofString (toString c)], by rw [List.map_append]; rfl, by rw [List.length_append, hi]; rfl, fun y h => ?_⟩
    rcases List.mem_append.mp h with h | h
    · exact hy y h
    · rw [List.mem_singleton] at h
      subst h
      exact str_digit c0 (by omega) (by omega)
  · rintro acc o' ⟨rfl, ys, rfl, hi, hy⟩
    rw [List.length_map, List.length_range] at hi
    have h1 := fun y h => (hy y h).1
    have h2 : (Str.ofString "").length = 0 := by decide +kernel
    refine join_lst (.inl (.inl (.inl rfl))) (by rw [sum_len h1, h2]; omega) (hq _ (Dgt.join fun y h => (hy y h).2) ?_)
    show (Txt.join Str.empty ys).length = _
    rw [join_len h1]
    exact hi
theorem ok__law_draw (T : Tx K mg ad) : FnOk P w K mg base CX0 1 ad.a__law_draw ad.d__law_draw ["state", "many"] (SpG K (con__law_draw ad)) := by
  refine okS T.F__law_draw sc__law_draw (by rintro args own P XP ⟨_, _, rfl, _⟩; rfl) fun cdv A outer s H E hr => ?_
  have hu1 := hu_of hr
  have hu64 := hr.units
  have hu65 : (A.deeper (PyProof.Rows.envOfC "_law_draw" (defScope s__law_draw) s.heap.objs.size ad.a__law_draw cdv)).units + 65 < cLine := by have := hr.un; omega
  refine ⟨_, (pss_cons (ps_if (pt_cmpR op_lt (pe_ix (k_ix (K := K) rfl hu1) (pv 0) pe_int (fun _ _ => rfl)) (pv 1) (nomark _)) (pss_cons (ps_set (i := 3) sc__law_draw.nd rfl (by first | exact Or.inl rfl | exact Or.inr rfl) (pe_op op_mod (pe_callTy call_intU (by rfl) T.b_int (by decide +kernel) (pa_cons (pe_op (k_add (K := K) rfl) (pe_op (k_add (K := K) rfl) (pe_op op_mulU (pe_ix (k_ix (K := K) rfl hu1) (pv 0) pe_int (fun _ _ => rfl)) (pe_ix (k_ix (K := K) rfl hu1) (pv 0) pe_int (fun _ _ => rfl))) (pe_op op_mulU pe_int (pe_ix (k_ix (K := K) rfl hu1) (pv 0) pe_int (fun _ _ => rfl)))) pe_int) pa_nil)) pe_int))
      (pss_cons (ps_set (i := 4) sc__law_draw.nd rfl (by first | exact Or.inl rfl | exact Or.inr rfl) (pe_op op_mod (pe_callTy call_intU (by rfl) T.b_int (by decide +kernel) (pa_cons (pe_op (k_add (K := K) rfl) (pe_op (k_add (K := K) rfl) (pe_op op_mulU (pv 3) (pv 3)) (pe_op op_mulU pe_int (pv 3))) pe_int) pa_nil)) pe_int))
      (pss_cons (ps_asg (pv 4) (pg_sub (pv 0) pe_int (set_U hu1)))
      (pss_one (ps_asg (pe_op (k_add (K := K) rfl) (pv 1) (pe_op op_mod (pe_callTy call_intU (by rfl) T.b_int (by decide +kernel) (pa_cons (pe_op (k_add (K := K) rfl) (pe_op op_mulU (pv 4) (pv 4)) (pv 3)) pa_nil)) pe_int)) (pg_sub (pv 0) pe_int (set_U hu1))))))) pss_nil)
      (pss_cons (ps_set (i := 2) sc__law_draw.nd rfl (by first | exact Or.inl rfl | exact Or.inr rfl) (pe_op op_mod (pe_callTy call_intU (by rfl) T.b_int (by decide +kernel) (pa_cons (pe_ix (k_ix (K := K) rfl hu1) (pv 0) pe_int (fun _ _ => rfl)) pa_nil)) (pv 1)))
      (pss_cons (ps_asg (pe_op op_fdivW (pe_ix (k_ix (K := K) rfl hu1) (pv 0) pe_int (fun _ _ => rfl)) (pv 1)) (pg_sub (pv 0) pe_int (set_U hu1)))
      (pss_one (ps_ret (pv 2)))))), ?_⟩
  try dsimp only [cxOf]
  rintro args own P XP ⟨s, m, rfl, m1, hm, h⟩
  show SS K E0 _ [some _, some _, none, none, none] _ _
  rcases h with ⟨⟨l, r, rfl⟩, hq⟩ | ⟨l, r, x, y, rfl, z, hq⟩
  case' inl =>
    refine ss_open fun x y z => ?_
    have hq2 : ∃ o', Cl (l ++ (s, .lst [.int (drw x y m).2.1, .int (drw x y m).2.2]) :: r) o' ∧ P (.int (drw x y m).1) o' := by
      obtain ⟨d0, d1, d2⟩ := drw_ok z m1 hm
      exact ⟨_, cl_rng d2, hq _ d0 d1⟩
  case' inr =>
    have hq2 : ∃ o', Cl (l ++ (s, .lst [.int (drw x y m).2.1, .int (drw x y m).2.2]) :: r) o' ∧ P (.int (drw x y m).1) o' := ⟨_, Cl.refl _, hq⟩
  all_goals
    clear hq
    have tk : ∀ {x y : Int}, LstD (l ++ (s, Cell.lst [.int x, .int y]) :: r) (.ptr s) [.int x, .int y] := .inl trk_ptr
    obtain ⟨x0, xb, y0, yb⟩ := id z
    have sq := (Bd.ok yb yb (show rB + rB ≤ 100000000 by decide))
    have s2 := (Bd.ok (bd_lit (n := 48271) (k := 64) (by decide)) yb (show 64 + rB ≤ 100000000 by decide))
    refine ss_mid (fun sl o => ∃ u w x' y', sl = [some (.ptr s), some (.int m), none, u, w] ∧ o = l ++ (s, .lst [.int x', .int y']) :: r ∧ drw x y m = (x' % m, x' / m, y') ∧ 0 ≤ x') ?_ ?_
    · walk_at "go"
      refine ix_lst tk rfl ?_
      walk_at "go"
      refine iteD (fun h => ?_) (fun h => ?_)
      · walk_at "st"
        refine ix_lst tk rfl ?_
        walk_at "go"
        refine ix_lst tk rfl ?_
        walk_at "go"
        refine ix_lst tk rfl ?_
        walk_at "go"
        generalize hone : (y * y + 48271 * y + 12345) % 2305843009213693951 = one
        have b0 := Int.emod_nonneg (y * y + 48271 * y + 12345) (show (2305843009213693951 : Int) ≠ 0 by decide)
        have b1 := Int.emod_lt_of_pos (y * y + 48271 * y + 12345) (show (0 : Int) < 2305843009213693951 by decide)
        rw [hone] at b0 b1
        have o1 : IntMulOk one one := Bd.ok (k := 64) (j := 64) (bd_lit (by omega)) (bd_lit (by omega)) (by decide)
        have o2 : IntMulOk 69621 one := Bd.ok (k := 64) (j := 64) (bd_lit (by omega)) (bd_lit (by omega)) (by decide)
        walk_at "go"
        generalize htwo : (one * one + 69621 * one + 77) % 618970019642690137449562111 = two
        have c0 := Int.emod_nonneg (one * one + 69621 * one + 77) (show (618970019642690137449562111 : Int) ≠ 0 by decide)
        have c1 := Int.emod_lt_of_pos (one * one + 69621 * one + 77) (show (0 : Int) < 618970019642690137449562111 by decide)
        rw [htwo] at c0 c1
        have o3 : IntMulOk two two := Bd.ok (k := 100) (j := 100) (bd_lit (by omega)) (bd_lit (by omega)) (by decide)
        refine set_lst (j := 1) rfl ?_
        walk_at "go"
        refine set_lst (j := 0) rfl ?_
        have d0 := Int.emod_nonneg (two * two + one) (show (162259276829213363391578010288127 : Int) ≠ 0 by decide)
        exact ⟨_, _, _, _, rfl, rfl, by unfold drw; rw [if_pos h]; simp only [hone, htwo], by omega⟩
      · walk_at "go"
        exact ⟨_, _, _, _, rfl, rfl, by unfold drw; rw [if_neg h], x0⟩
    · rintro sl o ⟨u, w, x', y', rfl, rfl, he, x0'⟩
      walk_at "go"
      refine ix_lst tk rfl ?_
      walk_at "go"
      have dv : CDivW x' m := wide_div (by omega) hm (by decide) (by decide)
      refine ix_lst tk rfl ?_
      walk_at "go"
      refine set_lst (j := 0) rfl ?_
      walk_at "1"
      refine ex_end ?_
      walk_at "go"
      rw [he] at hq2
      exact hq2
/-! ### Band.__init__ -/
def con_Band_init (ad : Ad) : Con := fun args own P _ => ∃ p r d1 d2 d3 d4 d5, args = [.ptr p, d1, d2, d3, d4, d5] ∧ own = (p, .ins ad.c_Band [] []) :: r ∧ P .non ((p, .ins ad.c_Band bandNs [d1, d2, d3, d4, d5]) :: r)
theorem ok_Band_init (T : Tx K mg ad) : FnOk P w K mg base CX0 1 ad.a_Band_init ad.d_Band_init ["self", "label", "prefix", "from_hour", "to_hour", "price"] (SpG K (con_Band_init ad)) := by
  refine okS T.F_Band_init sc_Band_init (by rintro args own P XP ⟨_, _, _, _, _, _, _, rfl, _⟩; rfl) fun cdv A outer s H E hr => ?_
  have hu1 := hu_of hr
  have hu64 := hr.units
  have hu65 : (A.deeper (PyProof.Rows.envOfC "Band.__init__" (defScope s_Band_init) s.heap.objs.size ad.a_Band_init cdv)).units + 65 < cLine := by have := hr.un; omega
  refine ⟨_, (pss_cons (ps_fld (pv 0) (pv 1) rfl)
      (pss_cons (ps_fld (pv 0) (pv 2) rfl)
      (pss_cons (ps_fld (pv 0) (pv 3) rfl)
      (pss_cons (ps_fld (pv 0) (pv 4) rfl)
      (pss_one (ps_fld (pv 0) (pv 5) rfl)))))), ?_⟩
  try dsimp only [cxOf]
  rintro args own P XP ⟨p, r, d1, d2, d3, d4, d5, rfl, rfl, hq⟩
  show SS K E0 _ [some _, some _, some _, some _, some _, some _] _ _
  walk_at "go"
  exact hq
/-! ### _law_tariff -/
abbrev G2 := Int × Int
abbrev sc (s : Addr) (t : G2) : Addr × Cell := (s, .lst [.int t.1, .int t.2])
def strF (m : Int) : Nat → G2 → List Str × G2
  | 0, s => ([], s)
  | n + 1, s => ((strF m n s).1 ++ [Str.ofString (toString (drw (strF m n s).2.1 (strF m n s).2.2 m).1)], (drw (strF m n s).2.1 (strF m n s).2.2 m).2)
theorem strF_ok {m : Int} {t : G2} (z : RngOk t.1 t.2) (m1 : 1 ≤ m) (m2 : m ≤ 10) : ∀ n, RngOk (strF m n t).2.1 (strF m n t).2.2 ∧ (strF m n t).1.length = n ∧ ∀ y ∈ (strF m n t).1, y.length = 1 ∧ Dgt m.toNat y
  | 0 => ⟨z, rfl, fun y h => (List.not_mem_nil h).elim⟩
  | n + 1 => by
    obtain ⟨h1, h2, h3⟩ := strF_ok z m1 m2 n
    obtain ⟨d0, d1, d2⟩ := drw_ok h1 m1 (bd_lit (k := 64) (by omega))
    refine ⟨d2, by show (_ ++ [_]).length = _; rw [List.length_append, h2]; rfl, fun y hy => ?_⟩
    rcases List.mem_append.mp hy with hy | hy
    · exact h3 y hy
    · rw [List.mem_singleton] at hy
      rw [hy]
      exact str_digit d0 (by omega) (by omega)
theorem drd {ad : Ad} {own l r : Own} {P : PD} {XP : XD} {s : Addr} {m : Int} {t : G2} (e : own = l ++ sc s t :: r) (z : RngOk t.1 t.2) (h1 : 1 ≤ m) (h2 : m < 18446744073709551616)
    (k : 0 ≤ (drw t.1 t.2 m).1 → (drw t.1 t.2 m).1 < m → RngOk (drw t.1 t.2 m).2.1 (drw t.1 t.2 m).2.2 → P (.int (drw t.1 t.2 m).1) (l ++ sc s (drw t.1 t.2 m).2 :: r)) : con__law_draw ad [.ptr s, .int m] own P XP := by
  obtain ⟨d0, d1, d2⟩ := drw_ok z h1 (bd_lit (k := 64) (by omega))
  exact ⟨s, m, rfl, h1, by unfold Bd; omega, .inr ⟨l, r, t.1, t.2, e, z, k d0 d1 d2⟩⟩
theorem ex_digsD {ad : Ad} {K : PySem.W.Frag} {sl : SL} {own : Own} {P : PD} {ta : TA} {i j : Nat} {m : Int} {vs : List Nat} (hv : i ∈ vs) (h : AX K ta sl own fun ds o => ∃ (n : Int) (s : Addr) (t : G2) (l r : Own), ds = [.int n] ∧ 0 ≤ n ∧ n ≤ 1000 ∧ o = l ++ sc s t :: r ∧ RngOk t.1 t.2 ∧ (∀ d, ((wipeS sl vs).set i d)[j]? = some (some (.ptr s))) ∧ 1 ≤ m ∧ m ≤ 10 ∧ P (.str (Txt.join Str.empty (strF m n.toNat t).1)) (l ++ sc s (strF m n.toNat t).2 :: r)) :
    EX K (tLc (iRng1 ta) (gName i) tYes (tCB rStrI (tCons (tCall (SpG K (con__law_draw ad)) [] E0 (tCons (tVar j) (tCons (tC (.int m)) tNil))) tNil)) vs) sl own (fun e o2 => RMX K (rJoin K) (.str (Str.ofString "")) [e] o2 P) := by
  refine ex_lc (ix_rng1 ?_)
  intro F V0 σ H hs hl Q q
  refine h F V0 σ H hs hl Q fun xs H' ds o a b c w => ?_
  obtain ⟨n, s, t, l, r, e, n0, n1, rfl, z, hj, m0, m1, hq⟩ := w
  refine q xs H' ds _ a b c ?_
  refine ⟨n, e, by omega, by omega, fun i acc o' => o' = l ++ sc s (strF m i t).2 :: r ∧ acc = (strF m i t).1.map Dat.str, ⟨rfl, rfl⟩, fun _ _ _ _ => trivial, ?_, ?_⟩
  · rintro k x acc o' hx ⟨rfl, rfl⟩
    obtain ⟨hlt, rfl⟩ := rng_at hx
    obtain ⟨z2, hlen, _⟩ := strF_ok z m0 m1 k
    refine gx_name hv (tx_yes (iteT (ex_cb (ax_cons (ex_call0 (ax_cons (ex_var (hj _) (ax_cons (ex_int (ax_nil ?_))))))))))
    refine drd rfl z2 m0 (by omega) fun d0 d1 d2 => ax_nil (str_int (small_log d0 (by omega)) ?_)
    refine ⟨by rw [List.length_map, hlen]; show k < 16777216; omega, rfl, ?_⟩
    show _ = ((strF m k t).1 ++ [_]).map Dat.str
    rw [List.map_append]; rfl
  · rintro acc o' ⟨rfl, rfl⟩
    rw [List.length_map, List.length_range]
    obtain ⟨z2, hlen, hy⟩ := strF_ok z m0 m1 n.toNat
    have h2 : (Str.ofString "").length = 0 := by decide +kernel
    exact join_lst (.inl (.inl (.inl rfl))) (by rw [sum_len fun y h => (hy y h).1, h2, hlen]; omega) hq
theorem lb1 : (codes (Str.ofString "b")).length = 1 := by decide +kernel
def labelOf (i : Nat) : Str := Str.ofString "b" ++ Str.ofString (toString (i : Int))
def bandF (k : Nat) (t : G2) : Row × G2 :=
  let n := drw t.1 t.2 3
  let ys := strF 3 n.1.toNat n.2
  let b := drw ys.2.1 ys.2.2 24
  let e := drw b.2.1 b.2.2 (24 - b.1)
  let p := drw e.2.1 e.2.2 90
  (⟨labelOf k, Txt.join Str.empty ys.1, b.1, b.1 + 1 + e.1, p.1⟩, p.2)
def bandsF : Nat → G2 → List Row × G2
  | 0, t => ([], t)
  | n + 1, t => ((bandsF n t).1 ++ [(bandF n (bandsF n t).2).1], (bandF n (bandsF n t).2).2)
def tarF (t : G2) : Int × List Row × G2 :=
  let n := drw t.1 t.2 6
  let bs := bandsF n.1.toNat n.2
  let c := drw bs.2.1 bs.2.2 5
  if c.1 > 0 then
    let p := drw c.2.1 c.2.2 90
    let z := drw p.2.1 p.2.2 40
    (z.1, bs.1 ++ [⟨Str.ofString "all", Str.ofString "", 0, 24, p.1⟩], z.2)
  else
    let z := drw c.2.1 c.2.2 40
    (z.1, bs.1, z.2)
theorem bandF_ok {k : Nat} {t : G2} (z : RngOk t.1 t.2) : (bandF k t).1.label = labelOf k ∧ (bandF k t).1.pre.length ≤ 2 ∧ 0 ≤ (bandF k t).1.price ∧ (bandF k t).1.price < 90 ∧ RngOk (bandF k t).2.1 (bandF k t).2.2 := by
  obtain ⟨a0, a1, a2⟩ := drw_ok z (m := 3) (by decide) (bd_lit (k := 64) (by decide))
  obtain ⟨s1, s2, s3⟩ := strF_ok a2 (m := 3) (by decide) (by decide) (drw t.1 t.2 3).1.toNat
  obtain ⟨b0, b1, b2⟩ := drw_ok s1 (m := 24) (by decide) (bd_lit (k := 64) (by decide))
  obtain ⟨c0, c1, c2⟩ := drw_ok b2 (m := 24 - (drw (strF 3 (drw t.1 t.2 3).1.toNat (drw t.1 t.2 3).2).2.1 (strF 3 (drw t.1 t.2 3).1.toNat (drw t.1 t.2 3).2).2.2 24).1) (by omega) (bd_lit (k := 64) (by omega))
  obtain ⟨p0, p1, p2⟩ := drw_ok c2 (m := 90) (by decide) (bd_lit (k := 64) (by decide))
  refine ⟨rfl, ?_, p0, p1, p2⟩
  show (Txt.join Str.empty _).length ≤ 2
  rw [join_len fun y h => (s3 y h).1, s2]
  omega
theorem bandsF_ok {t : G2} (z : RngOk t.1 t.2) : ∀ n, (bandsF n t).1.map (·.label) = (List.range n).map labelOf ∧ (∀ r ∈ (bandsF n t).1, r.pre.length ≤ 2 ∧ 0 ≤ r.price ∧ r.price < 90) ∧ RngOk (bandsF n t).2.1 (bandsF n t).2.2
  | 0 => ⟨rfl, fun r h => (List.not_mem_nil h).elim, z⟩
  | n + 1 => by
    obtain ⟨h1, h2, h3⟩ := bandsF_ok z n
    obtain ⟨b1, b2, b3, b4, b5⟩ := bandF_ok (k := n) h3
    refine ⟨?_, fun r hr => ?_, b5⟩
    · show ((bandsF n t).1 ++ [_]).map _ = _
      rw [List.map_append, h1, List.range_succ, List.map_append, List.map_singleton, b1]; rfl
    · rcases List.mem_append.mp hr with hr | hr
      · exact h2 r hr
      · rw [List.mem_singleton] at hr; rw [hr]; exact ⟨b2, b3, b4⟩
theorem tarF_ok {t : G2} (z : RngOk t.1 t.2) : 0 ≤ (tarF t).1 ∧ (tarF t).1 < 40 ∧ RngOk (tarF t).2.2.1 (tarF t).2.2.2 ∧ TarOk (tarF t).2.1 ∧ ∀ r ∈ (tarF t).2.1, r.price < 100 := by
  obtain ⟨a0, a1, a2⟩ := drw_ok z (m := 6) (by decide) (bd_lit (k := 64) (by decide))
  obtain ⟨s1, s2, s3⟩ := bandsF_ok a2 (drw t.1 t.2 6).1.toNat
  obtain ⟨b0, b1, b2⟩ := drw_ok s3 (m := 5) (by decide) (bd_lit (k := 64) (by decide))
  have hle : (drw t.1 t.2 6).1.toNat ≤ 6 := by omega
  generalize hbs : bandsF (drw t.1 t.2 6).1.toNat (drw t.1 t.2 6).2 = bs at *
  have hk : ((List.range 6).map labelOf ++ [Str.ofString "all"]).Nodup ∧ ∀ x ∈ (List.range 6).map labelOf ++ [Str.ofString "all"], PyData.strOk x = true := by decide +kernel
  have hsub : List.Sublist ((List.range (drw t.1 t.2 6).1.toNat).map labelOf) ((List.range 6).map labelOf) := by
    have : (List.range (drw t.1 t.2 6).1.toNat).map labelOf = ((List.range 6).map labelOf).take (drw t.1 t.2 6).1.toNat := by
      rw [← List.map_take, List.take_range, Nat.min_eq_left hle]
    rw [this]
    exact List.take_sublist _ _
  unfold tarF
  dsimp only
  rw [hbs]
  by_cases c : (drw bs.2.1 bs.2.2 5).1 > 0
  · rw [if_pos c]
    obtain ⟨p0, p1, p2⟩ := drw_ok b2 (m := 90) (by decide) (bd_lit (k := 64) (by decide))
    obtain ⟨q0, q1, q2⟩ := drw_ok p2 (m := 40) (by decide) (bd_lit (k := 64) (by decide))
    have hlab : List.Sublist ((bs.1 ++ [(⟨Str.ofString "all", Str.ofString "", 0, 24, (drw (drw bs.2.1 bs.2.2 5).2.1 (drw bs.2.1 bs.2.2 5).2.2 90).1⟩ : Row)]).map (·.label)) ((List.range 6).map labelOf ++ [Str.ofString "all"]) := by
      rw [List.map_append, s1]
      exact List.Sublist.append hsub (List.Sublist.refl _)
    have e0 : (Str.ofString "").length ≤ 4 := by decide +kernel
    refine ⟨q0, q1, q2, ⟨fun r hr => ?_, ?_⟩, fun r hr => ?_⟩
    · have h4 := hk.2 r.label (hlab.subset (List.mem_map.mpr ⟨r, hr, rfl⟩))
      rcases List.mem_append.mp hr with hr | hr
      · have := s2 r hr
        exact ⟨by omega, this.2.1, by omega, h4⟩
      · rw [List.mem_singleton] at hr
        refine ⟨?_, ?_, ?_, h4⟩
        · rw [hr]; exact e0
        · rw [hr]; exact p0
        · rw [hr]; exact Int.lt_trans p1 (by decide)
    · exact nd_inj (hk.1.sublist hlab)
    · rcases List.mem_append.mp hr with hr | hr
      · have := s2 r hr; omega
      · rw [List.mem_singleton] at hr
        rw [hr]; exact Int.lt_trans p1 (by decide)
  · rw [if_neg c]
    obtain ⟨q0, q1, q2⟩ := drw_ok b2 (m := 40) (by decide) (bd_lit (k := 64) (by decide))
    have hlab : List.Sublist (bs.1.map (·.label)) ((List.range 6).map labelOf ++ [Str.ofString "all"]) := by
      rw [s1]
      exact hsub.trans (List.sublist_append_left _ _)
    refine ⟨q0, q1, q2, ⟨fun r hr => ?_, nd_inj (hk.1.sublist hlab)⟩, fun r hr => ?_⟩
    · have h4 := hk.2 r.label (hlab.subset (List.mem_map.mpr ⟨r, hr, rfl⟩))
      have := s2 r hr
      exact ⟨by omega, this.2.1, by omega, h4⟩
    · have := s2 r hr; omega
def con__law_tariff (ad : Ad) : Con := fun args own P _ => ∃ (s : Addr) (times : Int) (t : G2) (l r : Own), args = [.ptr s, .int times] ∧ 1 ≤ times ∧ times ≤ 9 ∧ own = l ++ sc s t :: r ∧ RngOk t.1 t.2 ∧ P (tariffD ad (times * (tarF t).1) ((tarF t).2.1.map (scale times))) (l ++ sc s (tarF t).2.2 :: r)
theorem ok__law_tariff (T : Tx K mg ad) : FnOk P w K mg base CX0 3 ad.a__law_tariff ad.d__law_tariff ["state", "times"] (SpG K (con__law_tariff ad)) := by
  refine okS T.F__law_tariff sc__law_tariff (by rintro args own P XP ⟨_, _, _, _, _, rfl, _⟩; rfl) fun cdv A outer s H E hr => ?_
  have hu1 := hu_of hr
  have hu64 := hr.units
  have hu65 : (A.deeper (PyProof.Rows.envOfC "_law_tariff" (defScope s__law_tariff) s.heap.objs.size ad.a__law_tariff cdv)).units + 65 < cLine := by have := hr.un; omega
  refine ⟨_, (pss_cons (ps_set (i := 2) sc__law_tariff.nd rfl (by first | exact Or.inl rfl | exact Or.inr rfl) (pe_lst pa_nil))
      (pss_cons (ps_for PassesOwn.never rfl (pi_range1 (by rfl) T.b_range (pa_cons (pe_call (ok__law_draw T) (hr.mono (by decide)) rfl T.m__law_draw T.F__law_draw.kp T.B__law_draw .nil pass0 (pa_cons (pv 0) (pa_cons pe_int pa_nil))) pa_nil)) (pg_name (i := 3) sc__law_tariff.nd rfl (by first | exact Or.inl rfl | exact Or.inr rfl)) (pss_cons (ps_set (i := 4) sc__law_tariff.nd rfl (by first | exact Or.inl rfl | exact Or.inr rfl) (k_join (K := K) rfl pe_str (pe_lc (own := [("at", 6)]) rfl sc__law_tariff.nd (pi_range1 (by rfl) T.b_range (pa_cons (pe_call (ok__law_draw T) (hr.mono (by decide)) rfl T.m__law_draw T.F__law_draw.kp T.B__law_draw .nil pass0 (pa_cons (pv 0) (pa_cons pe_int pa_nil))) pa_nil)) (blkOk_by (N := N__law_tariff) (sc := defScope s__law_tariff) (by decide +kernel)) (fun _ _ _ _ _ => (pg_name (i := 6) sc__law_tariff.nd rfl (by first | exact Or.inl rfl | exact Or.inr rfl))) (fun _ _ _ _ _ => pts_nil) (fun _ _ _ _ _ => (pe_callTy call_strU (by rfl) T.b_str (by decide +kernel) (pa_cons (pe_call (ok__law_draw T) (hr.mono (by decide)) rfl T.m__law_draw T.F__law_draw.kp T.B__law_draw .nil pass0 (pa_cons (pv 0) (pa_cons pe_int pa_nil))) pa_nil))))))
      (pss_cons (ps_set (i := 5) sc__law_tariff.nd rfl (by first | exact Or.inl rfl | exact Or.inr rfl) (pe_call (ok__law_draw T) (hr.mono (by decide)) rfl T.m__law_draw T.F__law_draw.kp T.B__law_draw .nil pass0 (pa_cons (pv 0) (pa_cons pe_int pa_nil))))
      (pss_one (ps_expr (k_bm (K := K) rfl PySem.F.plainAttrs_list PySem.F.slot_list_append PySem.F.type_list_append mt_append (pv 2) (pa_cons (pe_make T.K_Band (ok_Band_init T) hr rfl T.m_Band T.B_Band_init .nil pass0 (pa_cons (pe_op (k_add (K := K) rfl) pe_str (pe_callTy call_strU (by rfl) T.b_str (by decide +kernel) (pa_cons (pv 3) pa_nil))) (pa_cons (pv 4) (pa_cons (pv 5) (pa_cons (pe_op (k_add (K := K) rfl) (pe_op (k_add (K := K) rfl) (pv 5) pe_int) (pe_call (ok__law_draw T) (hr.mono (by decide)) rfl T.m__law_draw T.F__law_draw.kp T.B__law_draw .nil pass0 (pa_cons (pv 0) (pa_cons (pe_op op_sub pe_int (pv 5)) pa_nil)))) (pa_cons (pe_op op_mulU (pv 1) (pe_call (ok__law_draw T) (hr.mono (by decide)) rfl T.m__law_draw T.F__law_draw.kp T.B__law_draw .nil pass0 (pa_cons (pv 0) (pa_cons pe_int pa_nil)))) pa_nil)))))) pa_nil)))))))
      (pss_cons (ps_if (pt_cmpR op_gt (pe_call (ok__law_draw T) (hr.mono (by decide)) rfl T.m__law_draw T.F__law_draw.kp T.B__law_draw .nil pass0 (pa_cons (pv 0) (pa_cons pe_int pa_nil))) pe_int (nomark _)) (pss_one (ps_expr (k_bm (K := K) rfl PySem.F.plainAttrs_list PySem.F.slot_list_append PySem.F.type_list_append mt_append (pv 2) (pa_cons (pe_make T.K_Band (ok_Band_init T) hr rfl T.m_Band T.B_Band_init .nil pass0 (pa_cons pe_str (pa_cons pe_str (pa_cons pe_int (pa_cons pe_int (pa_cons (pe_op op_mulU (pv 1) (pe_call (ok__law_draw T) (hr.mono (by decide)) rfl T.m__law_draw T.F__law_draw.kp T.B__law_draw .nil pass0 (pa_cons (pv 0) (pa_cons pe_int pa_nil)))) pa_nil)))))) pa_nil)))) pss_nil)
      (pss_one (ps_ret (pe_make T.K_Tariff (ok_Tariff_init T) hr rfl T.m_Tariff T.B_Tariff_init .nil pass0 (pa_cons (pe_op op_mulU (pv 1) (pe_call (ok__law_draw T) (hr.mono (by decide)) rfl T.m__law_draw T.F__law_draw.kp T.B__law_draw .nil pass0 (pa_cons (pv 0) (pa_cons pe_int pa_nil)))) (pa_cons (pe_callTy (k_tup (K := K) rfl) (by rfl) T.b_tuple (by decide +kernel) (pa_cons (pv 2) pa_nil)) pa_nil)))))))), ?_⟩
  try dsimp only [cxOf]
  rintro args own P XP ⟨s, times, t, l, r, rfl, t1, t9, rfl, z, hq⟩
  show SS K E0 _ [some _, some _, none, none, none, none, none] _ _
  walk_at "go"
  refine ex_lstO ?_
  walk_at "go"
  intro a ha
  walk_at "go"
  refine ss_for ?_
  walk_at "go"
  refine drd (l := (a, .lst []) :: l) rfl z (by decide) (by decide) fun a0 a1 a2 => ?_
  walk_at "go"
  obtain ⟨n, hn⟩ : ∃ n, n = (drw t.1 t.2 6).1 := ⟨_, rfl⟩
  obtain ⟨t2, ht2⟩ : ∃ t2, t2 = (drw t.1 t.2 6).2 := ⟨_, rfl⟩
  have htar : tarF t = tarF t := rfl
  conv at htar => rhs; unfold tarF
  dsimp only at htar
  rw [← hn, ← ht2] at htar
  rw [← hn] at a0 a1 ⊢
  rw [← ht2] at a2 ⊢
  refine ⟨by omega, by omega, fun i sl o => ∃ v3 v4 v5 v6, sl = [some (.ptr s), some (.int times), some (.ptr a), v3, v4, v5, v6] ∧ o = (a, .lst (((bandsF i t2).1.map (scale times)).map (bandD ad))) :: (l ++ sc s (bandsF i t2).2 :: r), ⟨none, none, none, none, rfl, rfl⟩, fun _ _ _ _ => trivial, ?_, ?_⟩
  · rintro i x sl o hx ⟨v3, v4, v5, v6, rfl, rfl⟩
    obtain ⟨hlt, rfl⟩ := rng_at hx
    obtain ⟨s1, s2, z3⟩ := bandsF_ok a2 i
    have hlen : (bandsF i t2).1.length = i := by have := congrArg List.length s1; simpa using this
    have hstep : bandsF (i + 1) t2 = ((bandsF i t2).1 ++ [(bandF i (bandsF i t2).2).1], (bandF i (bandsF i t2).2).2) := rfl
    simp only [hstep]
    clear hstep
    generalize bandsF i t2 = bb at *
    obtain ⟨bl, t3⟩ := bb
    dsimp only at *
    have hband : bandF i t3 = bandF i t3 := rfl
    conv at hband => rhs; unfold bandF
    dsimp only at hband
    walk_at "go"
    refine ex_digsD List.mem_cons_self ?_
    walk_at "go"
    refine drd (l := (a, .lst ((bl.map (scale times)).map (bandD ad))) :: l) rfl z3 (by decide) (by decide) fun d0 d1 d2 => ?_
    walk_at "go"
    refine ⟨_, s, _, (a, .lst ((bl.map (scale times)).map (bandD ad))) :: l, r, rfl, by omega, by omega, rfl, d2, fun _ => rfl, by decide, by decide, ?_⟩
    obtain ⟨q1, q2, q3⟩ := strF_ok d2 (m := 3) (by decide) (by decide) (drw t3.1 t3.2 3).1.toNat
    generalize hys : strF 3 (drw t3.1 t3.2 3).1.toNat (drw t3.1 t3.2 3).2 = ys at *
    walk_at "go"
    refine drd (l := (a, .lst ((bl.map (scale times)).map (bandD ad))) :: l) rfl q1 (by decide) (by decide) fun b0 b1 b2 => ?_
    generalize hb : drw ys.2.1 ys.2.2 24 = b at *
    walk_at "go"
    refine ex_bm ?_
    walk_at "go"
    refine ⟨ty_lst (.inl (.inr ⟨a, rfl, List.mem_cons_self⟩)), ?_⟩
    walk_at "go"
    refine ex_frz ?_
    refine ex_make ?_
    walk_at "go"
    refine str_int (small_log (by omega) (by omega)) ?_
    walk_at "go"
    refine add_str (by rw [← codes_len, ← codes_len, digit_str (by omega) (by omega), lb1]; exact ble) ?_
    walk_at "go"
    refine drd (l := (a, .lst ((bl.map (scale times)).map (bandD ad))) :: l) rfl b2 (by omega) (by omega) fun e0 e1 e2 => ?_
    generalize he : drw b.2.1 b.2.2 (24 - b.1) = e at *
    walk_at "go"
    refine drd (l := (a, .lst ((bl.map (scale times)).map (bandD ad))) :: l) rfl e2 (by decide) (by decide) fun p0 p1 p2 => ?_
    generalize hp : drw e.2.1 e.2.2 90 = p at *
    have mok : IntMulOk times p.1 := mul_ok64 (by omega) (by omega)
    walk_at "go"
    intro x hx
    refine ⟨x, _, _, _, _, _, _, rfl, rfl, rfl, x, _, [], _, _, rfl, rfl, rfl, ?_⟩
    walk_at "go"
    refine app_lst (l := []) (by rw [List.length_map, List.length_map]; exact Nat.lt_of_lt_of_le (show _ < 1000 by omega) ble) ?_
    refine ⟨_, _, _, _, rfl, ?_⟩
    rw [hband, List.map_append, List.map_append]
    rfl
  · rintro sl o ⟨v3, v4, v5, v6, rfl, rfl⟩
    rw [List.length_map, List.length_range]
    obtain ⟨s1, s2, z3⟩ := bandsF_ok a2 n.toNat
    have hlen : (bandsF n.toNat t2).1.length = n.toNat := by have := congrArg List.length s1; simpa using this
    generalize bandsF n.toNat t2 = bb at *
    obtain ⟨bl, t3⟩ := bb
    dsimp only at *
    walk_at "go"
    refine drd (l := (a, .lst ((bl.map (scale times)).map (bandD ad))) :: l) rfl z3 (by decide) (by decide) fun d0 d1 d2 => ?_
    walk_at "go"
    rw [htar] at hq
    refine iteD (fun c => ?_) (fun c => ?_)
    · rw [if_pos c] at hq
      dsimp only at hq
      generalize drw t3.1 t3.2 5 = d at *
      walk_at "go"
      refine ex_bm ?_
      walk_at "go"
      refine ⟨ty_lst (.inl (.inr ⟨a, rfl, List.mem_cons_self⟩)), ?_⟩
      walk_at "go"
      refine ex_frz ?_
      refine ex_make ?_
      walk_at "go"
      refine drd (l := (a, .lst ((bl.map (scale times)).map (bandD ad))) :: l) rfl d2 (by decide) (by decide) fun p0 p1 p2 => ?_
      generalize drw d.2.1 d.2.2 90 = p at *
      have mok : IntMulOk times p.1 := mul_ok64 (by omega) (by omega)
      walk_at "go"
      intro x hx
      refine ⟨x, _, _, _, _, _, _, rfl, rfl, rfl, x, _, [], _, _, rfl, rfl, rfl, ?_⟩
      walk_at "go"
      refine app_lst (l := []) (by rw [List.length_map, List.length_map]; exact Nat.lt_of_lt_of_le (show _ < 1000 by omega) ble) ?_
      walk_at "1"
      refine ex_end ?_
      refine ex_frz ?_
      refine ex_make ?_
      walk_at "go"
      refine drd (l := (a, .lst ((bl.map (scale times)).map (bandD ad) ++ [_])) :: l) rfl p2 (by decide) (by decide) fun z0 z1 z2 => ?_
      generalize drw p.2.1 p.2.2 40 = zz at *
      have mok : IntMulOk times zz.1 := mul_ok64 (by omega) (by omega)
      walk_at "go"
      refine tup_of (ds := ((bl ++ [(⟨Str.ofString "all", Str.ofString "", 0, 24, p.1⟩ : Row)]).map (scale times)).map (bandD ad)) (.inl (.inl (.inr ⟨a, rfl, by rw [List.map_append, List.map_append]; exact List.mem_cons_self⟩))) ?_
      walk_at "go"
      intro y hy
      exact ⟨y, _, _, _, _, rfl, rfl, .inr rfl, rfl, y, _, [], _, _, rfl, rfl, rfl, _, cl_drop (l := []), hq⟩
    · rw [if_neg c] at hq
      dsimp only at hq
      generalize drw t3.1 t3.2 5 = d at *
      walk_at "1"
      walk_at "1"
      refine ex_end ?_
      refine ex_frz ?_
      refine ex_make ?_
      walk_at "go"
      refine drd (l := (a, .lst ((bl.map (scale times)).map (bandD ad))) :: l) rfl d2 (by decide) (by decide) fun z0 z1 z2 => ?_
      generalize drw d.2.1 d.2.2 40 = zz at *
      have mok : IntMulOk times zz.1 := mul_ok64 (by omega) (by omega)
      walk_at "go"
      refine tup_of (ds := (bl.map (scale times)).map (bandD ad)) (.inl (.inl (.inr ⟨a, rfl, List.mem_cons_self⟩))) ?_
      walk_at "go"
      intro y hy
      exact ⟨y, _, _, _, _, rfl, rfl, .inr rfl, rfl, y, _, [], _, _, rfl, rfl, rfl, _, cl_drop (l := []), hq⟩
/-! ### _law_called -/
def con__law_called (_ : Ad) : Con := fun args own P _ => ∃ s, args = [.ptr s] ∧ Rg s own ∧ ∀ z, P (.str z) own
theorem ok__law_called (T : Tx K mg ad) : FnOk P w K mg base CX0 2 ad.a__law_called ad.d__law_called ["state"] (SpG K (con__law_called ad)) := by
  refine okS T.F__law_called sc__law_called (by rintro args own P XP ⟨_, rfl, _⟩; rfl) fun cdv A outer s H E hr => ?_
  have hu1 := hu_of hr
  have hu64 := hr.units
  have hu65 : (A.deeper (PyProof.Rows.envOfC "_law_called" (defScope s__law_called) s.heap.objs.size ad.a__law_called cdv)).units + 65 < cLine := by have := hr.un; omega
  refine ⟨_, (pss_one (ps_ret (k_join (K := K) rfl pe_str (pe_lc (own := [("at", 1)]) rfl sc__law_called.nd (pi_range1 (by rfl) T.b_range (pa_cons (pe_op (k_add (K := K) rfl) pe_int (pe_call (ok__law_draw T) hr rfl T.m__law_draw T.F__law_draw.kp T.B__law_draw .nil pass0 (pa_cons (pv 0) (pa_cons pe_int pa_nil)))) pa_nil)) (blkOk_by (N := N__law_called) (sc := defScope s__law_called) (by decide +kernel)) (fun _ _ _ _ _ => (pg_name (i := 1) sc__law_called.nd rfl (by first | exact Or.inl rfl | exact Or.inr rfl))) (fun _ _ _ _ _ => pts_nil) (fun _ _ _ _ _ => (pe_callTy call_strU (by rfl) T.b_str (by decide +kernel) (pa_cons (pe_call (ok__law_draw T) hr rfl T.m__law_draw T.F__law_draw.kp T.B__law_draw .nil pass0 (pa_cons (pv 0) (pa_cons pe_int pa_nil))) pa_nil))))))), ?_⟩
  try dsimp only [cxOf]
  rintro args own P XP ⟨s, rfl, hs, hq⟩
  show SS K E0 _ [some _, none] _ _
  walk_at "go"
  refine ex_digs List.mem_cons_self ?_
  walk_at "go"
  refine dr hs (by decide) (by decide) fun d d0 d1 => ?_
  walk_at "go"
  exact ⟨_, s, rfl, by omega, by omega, hs, fun _ => rfl, by decide, by decide, fun z h1 h2 => hq z⟩
/-! ### Band.holds -/
def con_Band_holds (ad : Ad) : Con := fun args own P _ => ∃ (r : Row) (called : Str) (clock : Int), args = [bandD ad r, .str called, .int clock] ∧ P (.bl (holdsB called clock r)) own
theorem ok_Band_holds (T : Tx K mg ad) : FnOk P w K mg base CX0 1 ad.a_Band_holds ad.d_Band_holds ["self", "called", "clock"] (SpG K (con_Band_holds ad)) := by
  refine okS T.F_Band_holds sc_Band_holds (by rintro args own P XP ⟨_, _, _, rfl, _⟩; rfl) fun cdv A outer s H E hr => ?_
  have hu1 := hu_of hr
  have hu64 := hr.units
  have hu65 : (A.deeper (PyProof.Rows.envOfC "Band.holds" (defScope s_Band_holds) s.heap.objs.size ad.a_Band_holds cdv)).units + 65 < cLine := by have := hr.un; omega
  obtain ⟨_, g_DAY⟩ := T.g_DAY
  obtain ⟨_, g_HOUR⟩ := T.g_HOUR
  refine ⟨_, (pss_cons (ps_set (i := 3) sc_Band_holds.nd rfl (by first | exact Or.inl rfl | exact Or.inr rfl) (pe_op op_fdivW (pe_op op_mod (pv 2) (pe_glob (v := .int 86400) rfl g_DAY ⟨_, rfl⟩)) (pe_glob (v := .int 3600) rfl g_HOUR ⟨_, rfl⟩)))
      (pss_one (ps_ret (k_and (K := K) rfl (pe_startsU (pv 1) (k_fld (K := K) rfl (pv 0) rfl)) (k_and (K := K) rfl (pe_cmpR op_le (k_fld (K := K) rfl (pv 0) rfl) (pv 3) (nomark _)) (pe_one (pe_cmpR op_lt (pv 3) (k_fld (K := K) rfl (pv 0) rfl) (nomark _)))))))), ?_⟩
  try dsimp only [cxOf]
  rintro args own P XP ⟨r, called, clock, rfl, hq⟩
  show SS K E0 _ [some _, some _, some _, none] _ _
  walk_at "go"
  have fin : holdsB called clock r = (Txt.startswith called r.pre && (decide (r.lo ≤ clock % 86400 / 3600) && decide (clock % 86400 / 3600 < r.hi))) := rfl
  rw [fin] at hq
  generalize Txt.startswith called r.pre = b1 at hq ⊢
  cases b1 with
  | false => walk_at "go"; exact hq
  | true =>
    walk_at "go"
    generalize decide (r.lo ≤ clock % 86400 / 3600) = b2 at hq ⊢
    cases b2 with
    | false => walk_at "go"; exact hq
    | true =>
      walk_at "go"
      exact hq
/-! ### Tariff.band_at -/
def con_Tariff_band_at (ad : Ad) : Con := fun args own P _ => ∃ (setup : Int) (rows : List Row) (called : Str) (clock : Int), args = [tariffD ad setup rows, .str called, .int clock] ∧ (∀ r ∈ rows, r.pre.length ≤ 4) ∧ P (optD (bandD ad) (bestB called clock rows)) own
theorem ok_Tariff_band_at (T : Tx K mg ad) : FnOk P w K mg base CX0 2 ad.a_Tariff_band_at ad.d_Tariff_band_at ["self", "called", "clock"] (SpG K (con_Tariff_band_at ad)) := by
  refine okS T.F_Tariff_band_at sc_Tariff_band_at (by rintro args own P XP ⟨_, _, _, _, rfl, _⟩; rfl) fun cdv A outer s H E hr => ?_
  have hu1 := hu_of hr
  have hu64 := hr.units
  have hu65 : (A.deeper (PyProof.Rows.envOfC "Tariff.band_at" (defScope s_Tariff_band_at) s.heap.objs.size ad.a_Tariff_band_at cdv)).units + 65 < cLine := by have := hr.un; omega
  refine ⟨_, (pss_cons (ps_set (i := 3) sc_Tariff_band_at.nd rfl (by first | exact Or.inl rfl | exact Or.inr rfl) pe_non)
      (pss_cons (ps_for PassesOwn.never rfl (k_seq (K := K) rfl (k_fld (K := K) rfl (pv 0) rfl)) (pg_name (i := 4) sc_Tariff_band_at.nd rfl (by first | exact Or.inl rfl | exact Or.inr rfl)) (pss_one (ps_if (PW.pt (pw_and (k_tru (K := K) rfl (pe_meth (pv 4) T.cl_Band T.M_Band_holds (ok_Band_holds T) hr T.B_Band_holds .nil pass0 (pa_cons (pv 1) (pa_cons (pv 2) pa_nil))) (by intro _; rfl)) (pw_and1 (PW.pt (pw_or (pt_cmpR op_isU (pv 3) pe_non (nomark _)) (pw_or1 (pt_cmpR op_gt (pe_callB (k_len (K := K) rfl) (by rfl) T.b_len (by decide +kernel) (pa_cons (k_fld (K := K) rfl (pv 4) rfl) pa_nil)) (pe_callB (k_len (K := K) rfl) (by rfl) T.b_len (by decide +kernel) (pa_cons (k_fld (K := K) rfl (pv 3) rfl) pa_nil)) (nomark _)))))))) (pss_one (ps_set (i := 3) sc_Tariff_band_at.nd rfl (by first | exact Or.inl rfl | exact Or.inr rfl) (pv 4))) pss_nil)))
      (pss_one (ps_ret (pv 3))))), ?_⟩
  try dsimp only [cxOf]
  rintro args own P XP ⟨setup, rows, called, clock, rfl, hr, hq⟩
  show SS K E0 _ [some _, some _, some _, none, none] _ _
  walk_at "go"
  refine ss_for (ix_s ?_)
  walk_at "go"
  refine ⟨_, .inr (.inr rfl), fun i sl o => ∃ u, sl = [some (tariffD ad setup rows), some (.str called), some (.int clock), some (optD (bandD ad) (bestB called clock (rows.take i))), u] ∧ o = own, ⟨none, rfl, rfl⟩, fun _ _ _ _ => trivial, ?_, ?_⟩
  · rintro i x sl o hx ⟨u, rfl, rfl⟩
    obtain ⟨r, hi, rfl⟩ := map_at hx
    have hrl := hr r (List.mem_of_getElem? hi)
    have hstep : bestB called clock (rows.take (i + 1)) = stepB called clock (bestB called clock (rows.take i)) r := by
      unfold bestB
      rw [List.take_add_one, hi]
      simp
    have hbm : ∀ b, bestB called clock (rows.take i) = some b → b.pre.length ≤ 4 := fun b hb => hr b (List.mem_of_mem_take (best_mem hb))
    generalize bestB called clock (rows.take i) = best at hbm hstep ⊢
    walk_at "go"
    refine ⟨r, called, clock, rfl, ?_⟩
    walk_at "go"
    simp only [hstep]
    unfold stepB
    refine iteB (fun h => ?_) (fun h => ?_)
    · walk_at "go"
      cases best with
      | none =>
        dsimp only [optD]
        walk_at "go"
        exact ⟨_, by rw [if_pos ⟨h, rfl⟩]; rfl, rfl⟩
      | some b =>
        have hb4 := hbm b rfl
        dsimp only [optD]
        walk_at "go"
        refine len_str (Nat.le_trans hrl ble) ?_
        walk_at "go"
        refine len_str (Nat.le_trans hb4 ble) ?_
        walk_at "go"
        refine iteD (fun h2 => ?_) (fun h2 => ?_)
        · walk_at "go"
          exact ⟨_, by rw [if_pos ⟨h, decide_eq_true (by omega)⟩]; rfl, rfl⟩
        · walk_at "go"
          exact ⟨_, by rw [if_neg fun z => h2 (by have := of_decide_eq_true z.2; omega)]; rfl, rfl⟩
    · walk_at "go"
      exact ⟨_, by rw [if_neg fun z => by rw [h] at z; cases z.1]; rfl, rfl⟩
  · rintro sl o ⟨u, rfl, rfl⟩
    rw [List.length_map, List.take_length]
    walk_at "go"
    exact hq
/-! ### stretches -/
abbrev pcD (ad : Ad) (t : Pc Row) : Dat := .tup [bandD ad t.1, .int t.2.1, .int t.2.2]
def lstOpt {β : Type} (g : β → Dat) : Option (List β) → Dat
  | none => .non
  | some l => .lst (l.map g)
def con_stretches (ad : Ad) : Con := fun args own P _ => ∃ (setup : Int) (rows : List Row) (called : Str) (start begin till : Int), args = [tariffD ad setup rows, .str called, .int start, .int begin, .int till] ∧ TarOk rows ∧ WinOk start begin till ∧ P (lstOpt (pcD ad) (rle (bs called start rows) begin (till - begin).toNat)) own
theorem ok_stretches (T : Tx K mg ad) : FnOk P w K mg base CX0 3 ad.a_stretches ad.d_stretches ["tariff", "called", "start", "begin", "till"] (SpG K (con_stretches ad)) := by
  refine okS T.F_stretches sc_stretches (by rintro args own P XP ⟨_, _, _, _, _, _, rfl, _⟩; rfl) fun cdv A outer s H E hr => ?_
  have hu1 := hu_of hr
  have hu64 := hr.units
  have hu65 : (A.deeper (PyProof.Rows.envOfC "stretches" (defScope s_stretches) s.heap.objs.size ad.a_stretches cdv)).units + 65 < cLine := by have := hr.un; omega
  obtain ⟨_, g_HOUR⟩ := T.g_HOUR
  refine ⟨_, (pss_cons (ps_set (i := 5) sc_stretches.nd rfl (by first | exact Or.inl rfl | exact Or.inr rfl) (pe_lst pa_nil))
      (pss_cons (ps_set (i := 6) sc_stretches.nd rfl (by first | exact Or.inl rfl | exact Or.inr rfl) (pv 3))
      (pss_cons (ps_while PassesOwn.never (pt_cmpR op_lt (pv 6) (pv 4) (nomark _)) (pss_cons (ps_set (i := 7) sc_stretches.nd rfl (by first | exact Or.inl rfl | exact Or.inr rfl) (pe_meth (pv 0) T.cl_Tariff T.M_Tariff_band_at (ok_Tariff_band_at T) hr T.B_Tariff_band_at .nil pass0 (pa_cons (pv 1) (pa_cons (pe_op (k_add (K := K) rfl) (pv 2) (pv 6)) pa_nil))))
      (pss_cons (ps_if (pt_cmpR op_isU (pv 7) pe_non (nomark _)) (pss_one (ps_ret pe_non)) pss_nil)
      (pss_cons (ps_set (i := 8) sc_stretches.nd rfl (by first | exact Or.inl rfl | exact Or.inr rfl) (pe_callB (k_min (K := K) rfl rfl) (by rfl) T.b_min (by decide +kernel) (pa_cons (pv 4) (pa_cons (pe_op op_sub (pe_op (k_add (K := K) rfl) (pv 6) (pe_glob (v := .int 3600) rfl g_HOUR ⟨_, rfl⟩)) (pe_op op_mod (pe_op (k_add (K := K) rfl) (pv 2) (pv 6)) (pe_glob (v := .int 3600) rfl g_HOUR ⟨_, rfl⟩))) pa_nil))))
      (pss_cons (ps_if (PW.pt (pw_and (k_tru (K := K) rfl (pv 5) (by intro _; rfl)) (pw_and1 (pt_cmpR (k_eq (K := K) rfl hu64) (k_fld (K := K) rfl (pe_ix (k_ix (K := K) rfl hu1) (pe_ix (k_ix (K := K) rfl hu1) (pv 5) (pe_un un_neg pe_int) (fun _ _ => rfl)) pe_int (fun _ _ => rfl)) rfl) (k_fld (K := K) rfl (pv 7) rfl) (nomark _))))) (pss_one (ps_asg (pe_tup (pa_cons (pv 7) (pa_cons (pe_ix (k_ix (K := K) rfl hu1) (pe_ix (k_ix (K := K) rfl hu1) (pv 5) (pe_un un_neg pe_int) (fun _ _ => rfl)) pe_int (fun _ _ => rfl)) (pa_cons (pv 8) pa_nil)))) (pg_sub (pv 5) (pe_un un_neg pe_int) (set_U hu1)))) (pss_one (ps_expr (k_bm (K := K) rfl PySem.F.plainAttrs_list PySem.F.slot_list_append PySem.F.type_list_append mt_append (pv 5) (pa_cons (pe_tup (pa_cons (pv 7) (pa_cons (pv 6) (pa_cons (pv 8) pa_nil)))) pa_nil)))))
      (pss_one (ps_set (i := 6) sc_stretches.nd rfl (by first | exact Or.inl rfl | exact Or.inr rfl) (pv 8))))))))
      (pss_one (ps_ret (pv 5)))))), ?_⟩
  try dsimp only [cxOf]
  rintro args own P XP ⟨setup, rows, called, start, begin, till, rfl, ht, hw, hq⟩
  obtain ⟨s0, s1, b0, bt, t1⟩ := hw
  show SS K E0 _ [some _, some _, some _, some _, some _, none, none, none, none] _ _
  walk_at "go"
  refine ex_lstO ?_
  walk_at "go"
  intro a ha
  walk_at "go"
  refine ss_while (m0 := (till - begin).toNat) (fun m sl o => ∃ (p : Nat) (ps : List (Pc Row)) (u7 u8 : Option Dat), sl = [some (tariffD ad setup rows), some (.str called), some (.int start), some (.int begin), some (.int till), some (.ptr a), some (.int (begin + p)), u7, u8] ∧ o = (a, .lst (ps.map (pcD ad))) :: own ∧ p ≤ (till - begin).toNat ∧ rle (bs called start rows) begin p = some ps ∧ m = (till - begin).toNat - p) ⟨0, [], none, none, by simp, rfl, by omega, rfl, by omega⟩ ?_
  rintro m sl o ⟨p, ps, u7, u8, rfl, rfl, hp, hrl, rfl⟩
  walk_at "go"
  refine iteD (fun hlt => ?_) (fun hlt => ?_)
  · walk_at "go"
    refine ⟨setup, rows, called, start + (begin + p), rfl, fun r hr => (ht.each r hr).1, ?_⟩
    have hbs : bestB called (start + (begin + p)) rows = bs called start rows (begin + p) := rfl
    rw [hbs]
    cases hb : bs called start rows (begin + p) with
    | none =>
      dsimp only [optD]
      refine ss_cl (cl_drop (l := [])) ?_
      walk_at "go"
      rw [rle_none p hb (by omega)] at hq
      exact hq
    | some b =>
      dsimp only [optD]
      walk_at "go"
      obtain ⟨k, hk⟩ : ∃ k : Nat, min till (begin + p + 3600 - (start + (begin + p)) % 3600) = begin + p + k + 1 := ⟨(min till (begin + p + 3600 - (start + (begin + p)) % 3600) - begin - p - 1).toNat, by omega⟩
      rw [hk]
      have hpush := rle_const hrl (k := k) fun i hi => (bs_const (q := begin + p + i) (by omega) (by omega)).trans hb
      have hle := rle_len hpush
      rcases last_cases ps with rfl | ⟨qs, ⟨s, l, h⟩, rfl⟩
      · rw [push_nil] at hpush
        refine iteF ?_
        walk_at "go"
        refine ex_bm ?_
        walk_at "go"
        refine ⟨ty_lst (.inl (.inr ⟨a, rfl, List.mem_cons_self⟩)), ?_⟩
        walk_at "go"
        refine app_lst (l := []) ble ?_
        walk_at "go"
        exact ⟨_, by omega, p + k + 1, _, _, _, by push_cast; simp only [← Int.add_assoc]; rfl, rfl, by omega, hpush, rfl⟩
      · rw [push_snoc] at hpush
        have hem : (List.map (pcD ad) (qs ++ [(s, l, h)])).isEmpty = false := by simp
        rw [hem]
        walk_at "go"
        have hmap : List.map (pcD ad) (qs ++ [(s, l, h)]) = List.map (pcD ad) qs ++ [pcD ad (s, l, h)] := by simp
        rw [hmap]
        refine ix_lst (.inl (.inr ⟨a, rfl, List.mem_cons_self⟩)) atI_last ?_
        walk_at "go"
        have hsb : s.label = b.label ↔ s = b := by
          obtain ⟨p1, hp1⟩ := (rle_in hrl (s, l, h) (by simp)).2.2.2
          exact ⟨ht.inj s (best_mem hp1) b (best_mem hb), fun z => by rw [z]⟩
        refine iteD (fun he => ?_) (fun he => ?_)
        · have e2 := hsb.mp he
          rw [if_pos e2] at hpush
          walk_at "go"
          refine ix_lst (.inl (.inr ⟨a, rfl, List.mem_cons_self⟩)) atI_last ?_
          walk_at "go"
          refine set_lst (l := []) (by rw [List.length_append]; exact ixN_last) ?_
          walk_at "go"
          exact ⟨_, by omega, p + k + 1, _, _, _, by push_cast; simp only [← Int.add_assoc]; rfl, by simp, by omega, hpush, rfl⟩
        · rw [if_neg fun z => he (hsb.mpr z)] at hpush
          walk_at "go"
          refine ex_bm ?_
          walk_at "go"
          refine ⟨ty_lst (.inl (.inr ⟨a, rfl, List.mem_cons_self⟩)), ?_⟩
          walk_at "go"
          refine app_lst (l := []) ?_ ?_
          · rw [← hmap, List.length_map]
            exact Nat.lt_of_le_of_lt (rle_len hrl) (Nat.lt_of_lt_of_le (show p < 1000000 by omega) ble)
          walk_at "go"
          exact ⟨_, by omega, p + k + 1, _, _, _, by push_cast; simp only [← Int.add_assoc]; rfl, by simp, by omega, hpush, rfl⟩
  · obtain rfl : p = (till - begin).toNat := by omega
    rw [hrl] at hq
    walk_at "1"
    refine ex_frz ?_
    walk_at "go"
    exact ⟨a, _, [], _, _, rfl, rfl, rfl, hq⟩
/-! ### price_lines -/
abbrev Ln := Str × Int × Int × Int
abbrev lnD (t : Ln) : Dat := .tup [.str t.1, .int t.2.1, .int t.2.2.1, .int t.2.2.2]
def lineOf (t : Pc Row) : Ln := (t.1.label, t.2.1, t.2.2, cost Row.price t)
def linesOf (setup begin : Int) (ps : List (Pc Row)) : List Ln := (Str.ofString "setup", begin, begin, setup) :: ps.map lineOf
def con_price_lines (ad : Ad) : Con := fun args own P _ => ∃ (setup : Int) (rows : List Row) (called : Str) (start begin till : Int), args = [tariffD ad setup rows, .str called, .int start, .int begin, .int till] ∧ TarOk rows ∧ WinOk start begin till ∧ P (lstOpt lnD ((rle (bs called start rows) begin (till - begin).toNat).map (linesOf setup begin))) own
theorem ok_price_lines (T : Tx K mg ad) : FnOk P w K mg base CX0 4 ad.a_price_lines ad.d_price_lines ["tariff", "called", "start", "begin", "till"] (SpG K (con_price_lines ad)) := by
  refine okS T.F_price_lines sc_price_lines (by rintro args own P XP ⟨_, _, _, _, _, _, rfl, _⟩; rfl) fun cdv A outer s H E hr => ?_
  have hu1 := hu_of hr
  have hu64 := hr.units
  have hu65 : (A.deeper (PyProof.Rows.envOfC "price_lines" (defScope s_price_lines) s.heap.objs.size ad.a_price_lines cdv)).units + 65 < cLine := by have := hr.un; omega
  obtain ⟨_, g_MINUTE⟩ := T.g_MINUTE
  refine ⟨_, (pss_cons (ps_set (i := 5) sc_price_lines.nd rfl (by first | exact Or.inl rfl | exact Or.inr rfl) (pe_call (ok_stretches T) hr rfl T.m_stretches T.F_stretches.kp T.B_stretches .nil pass0 (pa_cons (pv 0) (pa_cons (pv 1) (pa_cons (pv 2) (pa_cons (pv 3) (pa_cons (pv 4) pa_nil)))))))
      (pss_cons (ps_if (pt_cmpR op_isU (pv 5) pe_non (nomark _)) (pss_one (ps_ret pe_non)) pss_nil)
      (pss_cons (ps_set (i := 6) sc_price_lines.nd rfl (by first | exact Or.inl rfl | exact Or.inr rfl) (pe_lst (pa_cons (pe_tup (pa_cons pe_str (pa_cons (pv 3) (pa_cons (pv 3) (pa_cons (k_fld (K := K) rfl (pv 0) rfl) pa_nil))))) pa_nil)))
      (pss_cons (ps_for PassesOwn.never rfl (k_seq (K := K) rfl (pv 5)) (pg_tup (by rfl) (pgs_cons (pg_name (i := 7) sc_price_lines.nd rfl (by first | exact Or.inl rfl | exact Or.inr rfl)) (pgs_cons (pg_name (i := 8) sc_price_lines.nd rfl (by first | exact Or.inl rfl | exact Or.inr rfl)) (pgs_cons (pg_name (i := 9) sc_price_lines.nd rfl (by first | exact Or.inl rfl | exact Or.inr rfl)) pgs_nil)))) (pss_cons (ps_set (i := 10) sc_price_lines.nd rfl (by first | exact Or.inl rfl | exact Or.inr rfl) (pe_op op_fdivW (pe_op op_sub (pe_op (k_add (K := K) rfl) (pe_op op_sub (pv 9) (pv 8)) (pe_glob (v := .int 60) rfl g_MINUTE ⟨_, rfl⟩)) pe_int) (pe_glob (v := .int 60) rfl g_MINUTE ⟨_, rfl⟩)))
      (pss_one (ps_expr (k_bm (K := K) rfl PySem.F.plainAttrs_list PySem.F.slot_list_append PySem.F.type_list_append mt_append (pv 6) (pa_cons (pe_tup (pa_cons (k_fld (K := K) rfl (pv 7) rfl) (pa_cons (pv 8) (pa_cons (pv 9) (pa_cons (pe_op op_mulU (k_fld (K := K) rfl (pv 7) rfl) (pv 10)) pa_nil))))) pa_nil))))))
      (pss_one (ps_ret (pv 6))))))), ?_⟩
  try dsimp only [cxOf]
  rintro args own P XP ⟨setup, rows, called, start, begin, till, rfl, ht, hw, hq⟩
  show SS K E0 _ [some _, some _, some _, some _, some _, none, none, none, none, none, none] _ _
  walk_at "go"
  refine ⟨setup, rows, called, start, begin, till, rfl, ht, hw, ?_⟩
  cases hr : rle (bs called start rows) begin (till - begin).toNat with
  | none =>
    rw [hr] at hq
    dsimp only [lstOpt, Option.map] at hq ⊢
    walk_at "go"
    exact hq
  | some ps =>
    rw [hr] at hq
    dsimp only [lstOpt, Option.map] at hq ⊢
    walk_at "go"
    refine ex_lstO ?_
    walk_at "go"
    intro a ha
    walk_at "go"
    refine ss_for (ix_s ?_)
    walk_at "go"
    refine ⟨_, .inl rfl, fun i sl o => ∃ v7 v8 v9 v10, sl = [some (tariffD ad setup rows), some (.str called), some (.int start), some (.int begin), some (.int till), some (.lst (ps.map (pcD ad))), some (.ptr a), v7, v8, v9, v10] ∧ o = (a, .lst ((linesOf setup begin (ps.take i)).map lnD)) :: own, ⟨none, none, none, none, rfl, rfl⟩, fun _ _ _ _ => trivial, ?_, ?_⟩
    · rintro i x sl o hx ⟨v7, v8, v9, v10, rfl, rfl⟩
      obtain ⟨t, hi, rfl⟩ := map_at hx
      have htm := List.mem_of_getElem? hi
      have hil := (List.getElem?_eq_some_iff.mp hi).1
      have hin := rle_in hr t htm
      have hpr := ht.each t.1 (by obtain ⟨p, hp⟩ := hin.2.2.2; exact best_mem hp)
      have hlen := rle_len hr
      obtain ⟨w1, w2, w3, w4, w5⟩ := hw
      walk_at "go"
      have mok : IntMulOk t.1.price ((t.2.2 - t.2.1 + 60 - 1) / 60) := mul_ok64 (by omega) (by omega)
      walk_at "go"
      refine ex_bm ?_
      walk_at "go"
      refine ⟨ty_lst (.inl (.inr ⟨a, rfl, List.mem_cons_self⟩)), ?_⟩
      walk_at "go"
      refine app_lst (l := []) ?_ ?_
      · rw [List.length_map]
        show (ps.take i |>.map lineOf).length + 1 < _
        rw [List.length_map, List.length_take]
        exact Nat.lt_of_lt_of_le (show _ < 1000002 by omega) ble
      walk_at "go"
      refine ⟨_, _, _, _, rfl, ?_⟩
      have e : linesOf setup begin (ps.take (i + 1)) = linesOf setup begin (ps.take i) ++ [lineOf t] := by
        unfold linesOf
        rw [List.take_add_one, hi, List.map_append]
        rfl
      rw [e, List.map_append]
      rfl
    · rintro sl o ⟨v7, v8, v9, v10, rfl, rfl⟩
      rw [List.length_map, List.take_length]
      walk_at "1"
      refine ex_frz ?_
      walk_at "go"
      exact ⟨a, _, [], _, _, rfl, rfl, rfl, hq⟩
/-! ### _law_rows -/
abbrev lrD (t : Lr) : Dat := .tup [.str t.1, .int t.2.1, .int t.2.2]
theorem sh_lr {ts : List Lr} (h : ∀ t ∈ ts, PyData.strOk t.1 = true) : ShL 1 (ts.map lrD) := shL_of fun d hd => by
  obtain ⟨t, ht, rfl⟩ := List.mem_map.mp hd
  exact .tup (.cons (.str (h t ht)) (.cons (.int _) (.cons (.int _) .nil)))
theorem pushL_ok {ts : List Lr} {t : Lr} (h : ∀ t ∈ ts, PyData.strOk t.1 = true) (ht : PyData.strOk t.1 = true) : ∀ s ∈ pushL ts t, PyData.strOk s.1 = true := by
  rcases last_cases ts with rfl | ⟨qs, ⟨s, l, k⟩, rfl⟩
  · intro s hs
    have : s = t := by simpa [pushL] using hs
    rw [this]; exact ht
  · rw [pushL_snoc]
    intro u hu
    split at hu
    · rcases List.mem_append.mp hu with hu | hu
      · exact h u (by simp [hu])
      · rw [List.mem_singleton] at hu; subst hu; exact ht
    · rcases List.mem_append.mp hu with hu | hu
      · exact h u hu
      · rw [List.mem_singleton] at hu; subst hu; exact ht
theorem pushL_len (ts : List Lr) (t : Lr) : (pushL ts t).length ≤ ts.length + 1 := by
  rcases last_cases ts with rfl | ⟨qs, ⟨s, l, k⟩, rfl⟩
  · exact Nat.le_refl _
  · rw [pushL_snoc]
    split <;> simp
def con__law_rows (ad : Ad) : Con := fun args own P _ => ∃ (ps : List (Pc Row)), args = [.lst (ps.map (pcD ad))] ∧ ps.length ≤ 2000000 ∧ (∀ t ∈ ps, PyData.strOk t.1.label = true) ∧ P (.lst ((rowsF Row.label ps).map lrD)) own
theorem ok__law_rows (T : Tx K mg ad) : FnOk P w K mg base CX0 1 ad.a__law_rows ad.d__law_rows ["pieces"] (SpG K (con__law_rows ad)) := by
  refine okS T.F__law_rows sc__law_rows (by rintro args own P XP ⟨_, rfl, _⟩; rfl) fun cdv A outer s H E hr => ?_
  have hu1 := hu_of hr
  have hu64 := hr.units
  have hu65 : (A.deeper (PyProof.Rows.envOfC "_law_rows" (defScope s__law_rows) s.heap.objs.size ad.a__law_rows cdv)).units + 65 < cLine := by have := hr.un; omega
  refine ⟨_, (pss_cons (ps_set (i := 1) sc__law_rows.nd rfl (by first | exact Or.inl rfl | exact Or.inr rfl) (pe_lst pa_nil))
      (pss_cons (ps_for PassesOwn.never rfl (k_seq (K := K) rfl (pv 0)) (pg_tup (by rfl) (pgs_cons (pg_name (i := 2) sc__law_rows.nd rfl (by first | exact Or.inl rfl | exact Or.inr rfl)) (pgs_cons (pg_name (i := 3) sc__law_rows.nd rfl (by first | exact Or.inl rfl | exact Or.inr rfl)) (pgs_cons (pg_name (i := 4) sc__law_rows.nd rfl (by first | exact Or.inl rfl | exact Or.inr rfl)) pgs_nil)))) (pss_one (ps_if (PW.pt (pw_and (pt_cmpR (k_ne (K := K) rfl hu64) (pv 1) (pe_lst pa_nil) (nomark _)) (pw_and (pt_cmpR (k_eq (K := K) rfl hu64) (pe_ix (k_ix (K := K) rfl hu1) (pe_ix (k_ix (K := K) rfl hu1) (pv 1) (pe_un un_neg pe_int) (fun _ _ => rfl)) pe_int (fun _ _ => rfl)) (k_fld (K := K) rfl (pv 2) rfl) (nomark _)) (pw_and1 (pt_cmpR (k_eq (K := K) rfl hu64) (pe_ix (k_ix (K := K) rfl hu1) (pe_ix (k_ix (K := K) rfl hu1) (pv 1) (pe_un un_neg pe_int) (fun _ _ => rfl)) pe_int (fun _ _ => rfl)) (pv 3) (nomark _)))))) (pss_one (ps_asg (pe_tup (pa_cons (k_fld (K := K) rfl (pv 2) rfl) (pa_cons (pe_ix (k_ix (K := K) rfl hu1) (pe_ix (k_ix (K := K) rfl hu1) (pv 1) (pe_un un_neg pe_int) (fun _ _ => rfl)) pe_int (fun _ _ => rfl)) (pa_cons (pv 4) pa_nil)))) (pg_sub (pv 1) (pe_un un_neg pe_int) (set_U hu1)))) (pss_one (ps_expr (k_bm (K := K) rfl PySem.F.plainAttrs_list PySem.F.slot_list_append PySem.F.type_list_append mt_append (pv 1) (pa_cons (pe_tup (pa_cons (k_fld (K := K) rfl (pv 2) rfl) (pa_cons (pv 3) (pa_cons (pv 4) pa_nil)))) pa_nil)))))))
      (pss_one (ps_ret (pv 1))))), ?_⟩
  try dsimp only [cxOf]
  rintro args own P XP ⟨ps, rfl, hl, hok, hq⟩
  show SS K E0 _ [some _, none, none, none, none] _ _
  walk_at "go"
  refine ex_lstO ?_
  walk_at "go"
  intro a ha
  walk_at "go"
  refine ss_for (ix_s ?_)
  walk_at "go"
  refine ⟨_, .inl rfl, fun i sl o => ∃ v2 v3 v4 ts, sl = [some (.lst (ps.map (pcD ad))), some (.ptr a), v2, v3, v4] ∧ o = (a, .lst (ts.map lrD)) :: own ∧ ts = rowsF Row.label (ps.take i) ∧ (∀ t ∈ ts, PyData.strOk t.1 = true) ∧ ts.length ≤ i, ⟨none, none, none, [], rfl, rfl, rfl, fun t h => (List.not_mem_nil h).elim, Nat.le_refl _⟩, fun _ _ _ _ => trivial, ?_, ?_⟩
  · rintro i x sl o hx ⟨v2, v3, v4, ts, rfl, rfl, hts, hto, htl⟩
    obtain ⟨t, hi, rfl⟩ := map_at hx
    have htm := List.mem_of_getElem? hi
    have hil := (List.getElem?_eq_some_iff.mp hi).1
    have hstep : rowsF Row.label (ps.take (i + 1)) = pushL ts (lb Row.label t) := by
      rw [hts]
      unfold rowsF
      rw [List.take_add_one, hi, List.map_append, List.foldl_append]
      rfl
    have hok2 := pushL_ok (t := lb Row.label t) hto (hok t htm)
    have hlen2 := pushL_len ts (lb Row.label t)
    clear hts
    walk_at "go"
    refine ex_lst ?_
    walk_at "go"
    refine ne_lst (.inr ⟨a, rfl, List.mem_cons_self⟩) (.inl rfl) (sh_lr hto) (n := 1) (m := 1) .nil fun b hb => ?_
    walk_at "go"
    have hadd : ∀ {A : List Lr}, A.length ≤ i → (List.map lrD A).length < sizeLine := fun h => by
      rw [List.length_map]; exact Nat.lt_of_le_of_lt h (Nat.lt_of_lt_of_le (show i < 2000000 by omega) ble)
    rcases last_cases ts with rfl | ⟨qs, ⟨s, l, k⟩, rfl⟩
    · obtain rfl : b = true := hb.mpr rfl
      refine iteF ?_
      walk_at "go"
      refine ex_bm ?_
      walk_at "go"
      refine ⟨ty_lst (.inl (.inr ⟨a, rfl, List.mem_cons_self⟩)), ?_⟩
      walk_at "go"
      refine app_lst (l := []) (hadd htl) ?_
      exact ⟨_, _, _, pushL [] (lb Row.label t), rfl, rfl, hstep.symm, hok2, by omega⟩
    · obtain rfl : b = false := by
        cases b with
        | false => rfl
        | true => have := hb.mp rfl; simp at this
      refine iteT ?_
      have hmap : List.map lrD (qs ++ [(s, l, k)]) = List.map lrD qs ++ [lrD (s, l, k)] := by simp
      rw [pushL_snoc] at hstep hok2 hlen2
      rw [hmap]
      walk_at "go"
      refine ix_lst (.inl (.inr ⟨a, rfl, List.mem_cons_self⟩)) atI_last ?_
      walk_at "go"
      refine iteD (fun he => ?_) (fun he => ?_)
      · walk_at "go"
        refine ix_lst (.inl (.inr ⟨a, rfl, List.mem_cons_self⟩)) atI_last ?_
        walk_at "go"
        refine iteD (fun he2 => ?_) (fun he2 => ?_)
        · have hc : s = (lb Row.label t).1 ∧ k = (lb Row.label t).2.1 := ⟨he, he2⟩
          rw [if_pos hc] at hstep hok2 hlen2
          walk_at "go"
          refine ix_lst (.inl (.inr ⟨a, rfl, List.mem_cons_self⟩)) atI_last ?_
          walk_at "go"
          refine set_lst (l := []) (by rw [List.length_append]; exact ixN_last) ?_
          exact ⟨_, _, _, _, rfl, by rw [← hmap]; simp [lb], hstep.symm, hok2, by omega⟩
        · have hc : ¬ (s = (lb Row.label t).1 ∧ k = (lb Row.label t).2.1) := fun z => he2 z.2
          rw [if_neg hc] at hstep hok2 hlen2
          walk_at "go"
          refine ex_bm ?_
          walk_at "go"
          refine ⟨ty_lst (.inl (.inr ⟨a, rfl, List.mem_cons_self⟩)), ?_⟩
          walk_at "go"
          refine app_lst (l := []) (by rw [← hmap]; exact hadd htl) ?_
          exact ⟨_, _, _, _, rfl, by rw [← hmap]; simp [lb], hstep.symm, hok2, by omega⟩
      · have hc : ¬ (s = (lb Row.label t).1 ∧ k = (lb Row.label t).2.1) := fun z => he z.1
        rw [if_neg hc] at hstep hok2 hlen2
        walk_at "go"
        refine ex_bm ?_
        walk_at "go"
        refine ⟨ty_lst (.inl (.inr ⟨a, rfl, List.mem_cons_self⟩)), ?_⟩
        walk_at "go"
        refine app_lst (l := []) (by rw [← hmap]; exact hadd htl) ?_
        exact ⟨_, _, _, _, rfl, by rw [← hmap]; simp [lb], hstep.symm, hok2, by omega⟩
  · rintro sl o ⟨v2, v3, v4, ts, rfl, rfl, hts, hto, htl⟩
    rw [List.length_map, List.take_length] at hts
    subst hts
    walk_at "1"
    refine ex_frz ?_
    walk_at "go"
    exact ⟨a, _, [], _, _, rfl, rfl, rfl, hq⟩
/-! ### _law_sum -/
def con__law_sum (_ : Ad) : Con := fun args own P _ => ∃ (ls : List Ln), args = [.lst (ls.map lnD)] ∧ ls.length ≤ 1000001 ∧ P (.int (ls.map (·.2.2.2)).sum) own
theorem ok__law_sum (T : Tx K mg ad) : FnOk P w K mg base CX0 1 ad.a__law_sum ad.d__law_sum ["lines"] (SpG K (con__law_sum ad)) := by
  refine okS T.F__law_sum sc__law_sum (by rintro args own P XP ⟨_, rfl, _⟩; rfl) fun cdv A outer s H E hr => ?_
  have hu1 := hu_of hr
  have hu64 := hr.units
  have hu65 : (A.deeper (PyProof.Rows.envOfC "_law_sum" (defScope s__law_sum) s.heap.objs.size ad.a__law_sum cdv)).units + 65 < cLine := by have := hr.un; omega
  refine ⟨_, (pss_one (ps_ret (pe_callB (k_sum (K := K) rfl rfl) (by rfl) T.b_sum (by decide +kernel) (pa_cons (pe_lc (own := [("line", 1)]) rfl sc__law_sum.nd (k_seq (K := K) rfl (pv 0)) (blkOk_by (N := N__law_sum) (sc := defScope s__law_sum) (by decide +kernel)) (fun _ _ _ _ _ => (pg_name (i := 1) sc__law_sum.nd rfl (by first | exact Or.inl rfl | exact Or.inr rfl))) (fun _ _ _ _ _ => pts_nil) (fun _ _ _ _ _ => (pe_ix (k_ix (K := K) rfl hu1) (pv 1) pe_int (fun _ _ => rfl)))) pa_nil)))), ?_⟩
  try dsimp only [cxOf]
  rintro args own P XP ⟨ls, rfl, hl, hq⟩
  show SS K E0 _ [some _, none] _ _
  walk_at "go"
  refine ex_lc (ix_s ?_)
  walk_at "go"
  refine ⟨_, .inl rfl, fun i acc o => o = own ∧ acc = (ls.take i).map (fun t => Dat.int t.2.2.2), ⟨rfl, rfl⟩, fun _ _ _ _ => trivial, ?_, ?_⟩
  · rintro i x acc o hx ⟨rfl, rfl⟩
    obtain ⟨t, hi, rfl⟩ := map_at hx
    walk_at "go"
    refine ⟨?_, rfl, ?_⟩
    · rw [List.length_map, List.length_take]; exact Nat.lt_of_lt_of_le (show _ < 1000003 by omega) ble
    · rw [List.take_add_one, hi, List.map_append]; rfl
  · rintro acc o ⟨rfl, rfl⟩
    rw [List.length_map, List.take_length]
    walk_at "go"
    exact sum_lst (ns := ls.map (·.2.2.2)) (.inl (.inl (by rw [List.map_map]; rfl))) hq
/-! ### _law_cuts -/
theorem sum_lines (setup begin : Int) (ps : List (Pc Row)) : ((linesOf setup begin ps).map (·.2.2.2)).sum = setup + total Row.price ps := by
  unfold linesOf total
  rw [List.map_cons, List.sum_cons, List.map_map]
  rfl
theorem lab_ok {rows : List Row} (ht : TarOk rows) {f : Int → Option Row} (hf : ∀ p r, f p = some r → r ∈ rows) {a : Int} {n : Nat} {ps : List (Pc Row)} (h : rle f a n = some ps) : ∀ t ∈ ps, PyData.strOk t.1.label = true := fun t hm => by
  obtain ⟨p, hp⟩ := (rle_in h t hm).2.2.2
  exact (ht.each _ (hf p _ hp)).2.2.2
theorem pushL_all {A : List Lr} : ∀ {B : List Lr}, (∀ t ∈ B, PyData.strOk t.1 = true) → (∀ t ∈ A, PyData.strOk t.1 = true) → ∀ t ∈ A.foldl pushL B, PyData.strOk t.1 = true := by
  induction A with
  | nil => intro B h _; exact h
  | cons a A ih => intro B h h2; exact ih (pushL_ok h (h2 a List.mem_cons_self)) fun t ht => h2 t (List.mem_cons_of_mem _ ht)
def con__law_cuts (ad : Ad) : Con := fun args own P _ => ∃ (setup : Int) (rows : List Row) (called : Str) (start begin till middle : Int), args = [tariffD ad setup rows, .str called, .int start, .int begin, .int till, .int middle] ∧ TarOk rows ∧ WinOk start begin till ∧ begin < middle ∧ middle < till ∧ P (.bl true) own
theorem ok__law_cuts (T : Tx K mg ad) : FnOk P w K mg base CX0 5 ad.a__law_cuts ad.d__law_cuts ["tariff", "called", "start", "begin", "till", "middle"] (SpG K (con__law_cuts ad)) := by
  refine okS T.F__law_cuts sc__law_cuts (by rintro args own P XP ⟨_, _, _, _, _, _, _, rfl, _⟩; rfl) fun cdv A outer s H E hr => ?_
  have hu1 := hu_of hr
  have hu64 := hr.units
  have hu65 : (A.deeper (PyProof.Rows.envOfC "_law_cuts" (defScope s__law_cuts) s.heap.objs.size ad.a__law_cuts cdv)).units + 65 < cLine := by have := hr.un; omega
  refine ⟨_, (pss_cons (ps_set (i := 6) sc__law_cuts.nd rfl (by first | exact Or.inl rfl | exact Or.inr rfl) (pe_call (ok_price_lines T) hr rfl T.m_price_lines T.F_price_lines.kp T.B_price_lines .nil pass0 (pa_cons (pv 0) (pa_cons (pv 1) (pa_cons (pv 2) (pa_cons (pv 3) (pa_cons (pv 4) pa_nil)))))))
      (pss_cons (ps_set (i := 7) sc__law_cuts.nd rfl (by first | exact Or.inl rfl | exact Or.inr rfl) (pe_call (ok_price_lines T) hr rfl T.m_price_lines T.F_price_lines.kp T.B_price_lines .nil pass0 (pa_cons (pv 0) (pa_cons (pv 1) (pa_cons (pv 2) (pa_cons (pv 3) (pa_cons (pv 5) pa_nil)))))))
      (pss_cons (ps_set (i := 8) sc__law_cuts.nd rfl (by first | exact Or.inl rfl | exact Or.inr rfl) (pe_call (ok_price_lines T) hr rfl T.m_price_lines T.F_price_lines.kp T.B_price_lines .nil pass0 (pa_cons (pv 0) (pa_cons (pv 1) (pa_cons (pv 2) (pa_cons (pv 5) (pa_cons (pv 4) pa_nil)))))))
      (pss_cons (ps_if (PW.pt (pw_or (pt_cmpR op_isU (pv 6) pe_non (nomark _)) (pw_or (pt_cmpR op_isU (pv 7) pe_non (nomark _)) (pw_or1 (pt_cmpR op_isU (pv 8) pe_non (nomark _)))))) (pss_one (ps_ret (k_and (K := K) rfl (pe_cmpR op_isU (pv 6) pe_non (nomark _)) (pe_one (k_or (K := K) rfl (pe_cmpR op_isU (pv 7) pe_non (nomark _)) (pe_one (pe_cmpR op_isU (pv 8) pe_non (nomark _)))))))) pss_nil)
      (pss_cons (ps_set (i := 9) sc__law_cuts.nd rfl (by first | exact Or.inl rfl | exact Or.inr rfl) (pe_call (ok_stretches T) (hr.mono (by decide)) rfl T.m_stretches T.F_stretches.kp T.B_stretches .nil pass0 (pa_cons (pv 0) (pa_cons (pv 1) (pa_cons (pv 2) (pa_cons (pv 3) (pa_cons (pv 4) pa_nil)))))))
      (pss_cons (ps_set (i := 10) sc__law_cuts.nd rfl (by first | exact Or.inl rfl | exact Or.inr rfl) (pe_call (ok__law_rows T) (hr.mono (by decide)) rfl T.m__law_rows T.F__law_rows.kp T.B__law_rows .nil pass0 (pa_cons (pe_op (k_add (K := K) rfl) (pe_call (ok_stretches T) (hr.mono (by decide)) rfl T.m_stretches T.F_stretches.kp T.B_stretches .nil pass0 (pa_cons (pv 0) (pa_cons (pv 1) (pa_cons (pv 2) (pa_cons (pv 3) (pa_cons (pv 5) pa_nil)))))) (pe_call (ok_stretches T) (hr.mono (by decide)) rfl T.m_stretches T.F_stretches.kp T.B_stretches .nil pass0 (pa_cons (pv 0) (pa_cons (pv 1) (pa_cons (pv 2) (pa_cons (pv 5) (pa_cons (pv 4) pa_nil))))))) pa_nil)))
      (pss_cons (ps_if (pt_cmpR (k_ne (K := K) rfl hu64) (pv 10) (pe_call (ok__law_rows T) (hr.mono (by decide)) rfl T.m__law_rows T.F__law_rows.kp T.B__law_rows .nil pass0 (pa_cons (pv 9) pa_nil)) (nomark _)) (pss_one (ps_ret pe_bl)) pss_nil)
      (pss_cons (ps_set (i := 11) sc__law_cuts.nd rfl (by first | exact Or.inl rfl | exact Or.inr rfl) (pe_op op_sub (pe_op op_sub (pe_op (k_add (K := K) rfl) (pe_call (ok__law_sum T) (hr.mono (by decide)) rfl T.m__law_sum T.F__law_sum.kp T.B__law_sum .nil pass0 (pa_cons (pv 7) pa_nil)) (pe_call (ok__law_sum T) (hr.mono (by decide)) rfl T.m__law_sum T.F__law_sum.kp T.B__law_sum .nil pass0 (pa_cons (pv 8) pa_nil))) (k_fld (K := K) rfl (pv 0) rfl)) (pe_call (ok__law_sum T) (hr.mono (by decide)) rfl T.m__law_sum T.F__law_sum.kp T.B__law_sum .nil pass0 (pa_cons (pv 6) pa_nil))))
      (pss_cons (ps_for PassesOwn.never rfl (k_seq (K := K) rfl (pv 9)) (pg_tup (by rfl) (pgs_cons (pg_name (i := 12) sc__law_cuts.nd rfl (by first | exact Or.inl rfl | exact Or.inr rfl)) (pgs_cons (pg_name (i := 13) sc__law_cuts.nd rfl (by first | exact Or.inl rfl | exact Or.inr rfl)) (pgs_cons (pg_name (i := 14) sc__law_cuts.nd rfl (by first | exact Or.inl rfl | exact Or.inr rfl)) pgs_nil)))) (pss_one (ps_if (PW.pt (pw_and (pt_chain op_lt op_lt (pv 13) (pv 5) (pv 14)) (pw_and1 (pt_cmpR (k_ne (K := K) rfl hu64) (pe_op op_mod (pe_callTy call_intU (by rfl) T.b_int (by decide +kernel) (pa_cons (pe_op op_sub (pv 5) (pv 13)) pa_nil)) pe_int) pe_int (nomark _))))) (pss_one (ps_ret (pe_cmpR (k_in (K := K) rfl hu65) (pv 11) (pe_tup (pa_cons pe_int (pa_cons (k_fld (K := K) rfl (pv 12) rfl) pa_nil))) rfl))) pss_nil)))
      (pss_one (ps_ret (pe_cmpR (k_eq (K := K) rfl hu64) (pv 11) pe_int (nomark _))))))))))))), ?_⟩
  try dsimp only [cxOf]
  rintro args own P XP ⟨setup, rows, called, start, begin, till, middle, rfl, ht, hw, h1, h2, hq⟩
  obtain ⟨m, rfl⟩ : ∃ m : Nat, middle = begin + m := ⟨(middle - begin).toNat, by omega⟩
  obtain ⟨n, rfl⟩ : ∃ n : Nat, till = begin + m + n := ⟨(till - (begin + m)).toNat, by omega⟩
  have hm : 0 < m := by omega
  have hn : 0 < n := by omega
  have hw1 : WinOk start begin (begin + m) := ⟨hw.s0, hw.s1, hw.b0, by omega, by have := hw.t1; omega⟩
  have hw2 : WinOk start (begin + m) (begin + m + n) := ⟨hw.s0, hw.s1, by have := hw.b0; omega, by omega, by have := hw.t1; omega⟩
  have eN : (begin + m + n - begin).toNat = m + n := by omega
  have eM : (begin + m - begin).toNat = m := by omega
  have eK : (begin + m + n - (begin + m)).toNat = n := by omega
  have hf : ∀ p r, bs called start rows p = some r → r ∈ rows := fun p r h => best_mem h
  have hcut := rle_cut (f := bs called start rows) (a := begin) (m := m) (n := n)
  have hlw := hw.t1
  have hlb := hw.b0
  show SS K E0 _ [some _, some _, some _, some _, some _, some _, none, none, none, none, none, none, none, none, none] _ _
  walk_at "go"
  refine ⟨setup, rows, called, start, begin, _, rfl, ht, hw, ?_⟩
  walk_at "go"
  refine ⟨setup, rows, called, start, begin, _, rfl, ht, hw1, ?_⟩
  walk_at "go"
  refine ⟨setup, rows, called, start, begin + m, _, rfl, ht, hw2, ?_⟩
  rw [eN, eM, eK]
  cases hA : rle (bs called start rows) begin m with
  | none =>
    rw [hA] at hcut
    dsimp only at hcut
    rw [hcut]
    dsimp only [lstOpt, Option.map]
    walk_at "go"
    exact hq
  | some x => cases hB : rle (bs called start rows) (begin + m) n with
    | none =>
      rw [hA, hB] at hcut
      dsimp only at hcut
      rw [hcut]
      dsimp only [lstOpt, Option.map]
      walk_at "go"
      exact hq
    | some y =>
      rw [hA, hB] at hcut
      dsimp only at hcut
      rw [hcut]
      obtain ⟨ps, hps⟩ : ∃ ps, ps = joinR x y := ⟨_, rfl⟩
      rw [← hps] at hcut ⊢
      dsimp only [lstOpt, Option.map]
      walk_at "go"
      refine ⟨setup, rows, called, start, begin, _, rfl, ht, hw, ?_⟩
      rw [eN, hcut]
      dsimp only [lstOpt]
      walk_at "go"
      refine ⟨setup, rows, called, start, begin, _, rfl, ht, hw1, ?_⟩
      rw [eM, hA]
      dsimp only [lstOpt]
      walk_at "go"
      refine ⟨setup, rows, called, start, begin + m, _, rfl, ht, hw2, ?_⟩
      rw [eK, hB]
      dsimp only [lstOpt]
      have lx := rle_len hA
      have ly := rle_len hB
      have lp := rle_len hcut
      refine add_lst (.inl rfl) (.inl rfl) (by rw [List.length_map, List.length_map]; exact Nat.le_trans (show _ ≤ 1000000 by omega) ble) ?_
      walk_at "go"
      have okx := lab_ok ht hf hA
      have oky := lab_ok ht hf hB
      have okp := lab_ok ht hf hcut
      have okxy : ∀ t ∈ x ++ y, PyData.strOk t.1.label = true := fun t h => by
        rcases List.mem_append.mp h with h | h
        · exact okx t h
        · exact oky t h
      refine ⟨x ++ y, by rw [List.map_append], by rw [List.length_append]; omega, okxy, ?_⟩
      walk_at "go"
      refine ⟨ps, rfl, by omega, okp, ?_⟩
      walk_at "go"
      have hrows := rows_cut (lab := Row.label) hcut hA hB hm hn fun p q s t hp hq e => ht.inj s (hf p s hp) t (hf q t hq) e
      refine ne_same (n := 2) (.lst (sh_lr (pushL_all (fun t h => (List.not_mem_nil h).elim) fun t h => by obtain ⟨u, hu, rfl⟩ := List.mem_map.mp h; exact okxy u hu))) (by rw [hrows]) ?_
      walk_at "go"
      have ll : ∀ (b : Int) (z : List (Pc Row)), (linesOf setup b z).length = z.length + 1 := fun b z => by simp [linesOf]
      refine ⟨_, rfl, by rw [ll]; omega, ?_⟩
      walk_at "go"
      refine ⟨_, rfl, by rw [ll]; omega, ?_⟩
      walk_at "go"
      refine ⟨_, rfl, by rw [ll]; omega, ?_⟩
      rw [sum_lines, sum_lines, sum_lines]
      have hmore := cut_more (pr := Row.price) hcut hA hB hm hn
      obtain ⟨more, hmo⟩ : ∃ more, more = setup + total Row.price x + (setup + total Row.price y) - setup - (setup + total Row.price ps) := ⟨_, rfl⟩
      have e2 : total Row.price x + total Row.price y - total Row.price ps = more := by omega
      rw [e2] at hmore
      obtain ⟨hm1, hm2⟩ := hmore
      walk_at "go"
      rw [← hmo]
      refine ss_for (ix_s ?_)
      walk_at "go"
      refine ⟨_, .inl rfl, fun i sl o => ∃ v12 v13 v14 v10, sl = [some (tariffD ad setup rows), some (.str called), some (.int start), some (.int begin), some (.int (begin + m + n)), some (.int (begin + m)), some (.lst ((linesOf setup begin ps).map lnD)), some (.lst ((linesOf setup begin x).map lnD)), some (.lst ((linesOf setup (begin + m) y).map lnD)), some (.lst (ps.map (pcD ad))), v10, some (.int more), v12, v13, v14] ∧ o = own ∧ ∀ t ∈ ps.take i, t.2.1 < begin + m → begin + m < t.2.2 → (begin + m - t.2.1) % 60 = 0, ⟨none, none, none, _, rfl, rfl, fun t h => (List.not_mem_nil h).elim⟩, fun _ _ _ _ => trivial, ?_, ?_⟩
      · rintro i z sl o hx ⟨v12, v13, v14, v10, rfl, rfl, hall⟩
        obtain ⟨t, hi, rfl⟩ := map_at hx
        have htm := List.mem_of_getElem? hi
        have hnext : ((t.2.1 < begin + m → begin + m < t.2.2 → (begin + m - t.2.1) % 60 = 0)) → ∀ t ∈ ps.take (i + 1), t.2.1 < begin + m → begin + m < t.2.2 → (begin + m - t.2.1) % 60 = 0 := fun h u hu => by
          rw [List.take_add_one, hi] at hu
          rcases List.mem_append.mp hu with hu | hu
          · exact hall u hu
          · have : u = t := by simpa using hu
            rw [this]; exact h
        walk_at "go"
        refine iteD (fun c1 => ?_) (fun c1 => ?_)
        · walk_at "go"
          refine iteD (fun c2 => ?_) (fun c2 => ?_)
          · walk_at "go"
            refine iteN (fun c3 => ?_) (fun c3 => ?_)
            · walk_at "go"
              refine in_seq (n := 0) (m := 0) (.inr rfl) (.int _) (.cons (.int _) (.cons (.int _) .nil)) fun b hb => ?_
              have : b = true := hb.mpr (by
                rcases hm1 t htm c1 c2 with h | h
                · rw [h]; simp
                · rw [h]; simp)
              rw [this]
              exact hq
            · walk_at "go"
              exact ⟨_, _, _, _, rfl, rfl, hnext fun _ _ => c3⟩
          · walk_at "go"
            exact ⟨_, _, _, _, rfl, rfl, hnext fun _ h => absurd h c2⟩
        · walk_at "go"
          exact ⟨_, _, _, _, rfl, rfl, hnext fun h => absurd h c1⟩
      · rintro sl o ⟨v12, v13, v14, v10, rfl, rfl, hall⟩
        rw [List.length_map, List.take_length] at hall
        have := hm2 hall
        walk_at "go"
        rw [decide_eq_true this]
        exact hq
/-! ### law -/
def con_law (_ : Ad) : Con := con_law0
theorem sh_ln {ts : List Ln} (h : ∀ t ∈ ts, PyData.strOk t.1 = true) : ShL 1 (ts.map lnD) := shL_of fun d hd => by
  obtain ⟨t, ht, rfl⟩ := List.mem_map.mp hd
  exact .tup (.cons (.str (h t ht)) (.cons (.int _) (.cons (.int _) (.cons (.int _) .nil))))
theorem lines_ok {setup begin : Int} {ps : List (Pc Row)} (h : ∀ t ∈ ps, PyData.strOk t.1.label = true) : ∀ t ∈ linesOf setup begin ps, PyData.strOk t.1 = true := fun t ht => by
  rcases List.mem_cons.mp ht with rfl | ht
  · show PyData.strOk (Str.ofString "setup") = true
    decide +kernel
  · obtain ⟨u, hu, rfl⟩ := List.mem_map.mp ht
    exact h u hu
theorem ok_law (T : Tx K mg ad) : FnOk P w K mg base CX0 6 ad.a_law ad.d_law ["script"] (SpG K (con_law ad)) := by
  refine okS T.F_law sc_law (by rintro args own P XP ⟨_, rfl, _⟩; rfl) fun cdv A outer s H E hr => ?_
  have hu1 := hu_of hr
  have hu64 := hr.units
  have hu65 : (A.deeper (PyProof.Rows.envOfC "law" (defScope s_law) s.heap.objs.size ad.a_law cdv)).units + 65 < cLine := by have := hr.un; omega
  refine ⟨_, (pss_cons (ps_for PassesOwn.never rfl (pi_range1 (by rfl) T.b_range (pa_cons (pe_callB (k_min (K := K) rfl rfl) (by rfl) T.b_min (by decide +kernel) (pa_cons pe_int (pa_cons (pe_op (k_add (K := K) rfl) pe_int (pe_callB (k_len (K := K) rfl) (by rfl) T.b_len (by decide +kernel) (pa_cons (pv 0) pa_nil))) pa_nil))) pa_nil)) (pg_name (i := 1) sc_law.nd rfl (by first | exact Or.inl rfl | exact Or.inr rfl)) (pss_cons (ps_set (i := 2) sc_law.nd rfl (by first | exact Or.inl rfl | exact Or.inr rfl) (pe_call (ok__law_state T) (hr.mono (by decide)) rfl T.m__law_state T.F__law_state.kp T.B__law_state .nil pass0 (pa_cons (pv 0) (pa_cons (pv 1) (pa_cons pe_int pa_nil)))))
      (pss_cons (ps_set (i := 3) sc_law.nd rfl (by first | exact Or.inl rfl | exact Or.inr rfl) (pe_op (k_add (K := K) rfl) pe_int (pe_call (ok__law_draw T) (hr.mono (by decide)) rfl T.m__law_draw T.F__law_draw.kp T.B__law_draw .nil pass0 (pa_cons (pv 2) (pa_cons pe_int pa_nil)))))
      (pss_cons (ps_set (i := 4) sc_law.nd rfl (by first | exact Or.inl rfl | exact Or.inr rfl) (pe_lst (pa_cons (pe_ix (k_ix (K := K) rfl hu1) (pv 2) pe_int (fun _ _ => rfl)) (pa_cons (pe_ix (k_ix (K := K) rfl hu1) (pv 2) pe_int (fun _ _ => rfl)) pa_nil))))
      (pss_cons (ps_set (i := 5) sc_law.nd rfl (by first | exact Or.inl rfl | exact Or.inr rfl) (pe_call (ok__law_tariff T) (hr.mono (by decide)) rfl T.m__law_tariff T.F__law_tariff.kp T.B__law_tariff .nil pass0 (pa_cons (pv 2) (pa_cons pe_int pa_nil))))
      (pss_cons (ps_set (i := 6) sc_law.nd rfl (by first | exact Or.inl rfl | exact Or.inr rfl) (pe_call (ok__law_tariff T) (hr.mono (by decide)) rfl T.m__law_tariff T.F__law_tariff.kp T.B__law_tariff .nil pass0 (pa_cons (pv 4) (pa_cons (pv 3) pa_nil))))
      (pss_cons (ps_set (i := 7) sc_law.nd rfl (by first | exact Or.inl rfl | exact Or.inr rfl) (pe_call (ok__law_called T) (hr.mono (by decide)) rfl T.m__law_called T.F__law_called.kp T.B__law_called .nil pass0 (pa_cons (pv 2) pa_nil)))
      (pss_cons (ps_set (i := 8) sc_law.nd rfl (by first | exact Or.inl rfl | exact Or.inr rfl) (pe_ix (k_ix (K := K) rfl hu1) (pe_tup (pa_cons (pe_call (ok__law_draw T) (hr.mono (by decide)) rfl T.m__law_draw T.F__law_draw.kp T.B__law_draw .nil pass0 (pa_cons (pv 2) (pa_cons pe_int pa_nil))) (pa_cons (pe_op op_sub (pe_op op_mulU pe_int (pe_call (ok__law_draw T) (hr.mono (by decide)) rfl T.m__law_draw T.F__law_draw.kp T.B__law_draw .nil pass0 (pa_cons (pv 2) (pa_cons pe_int pa_nil)))) (pe_call (ok__law_draw T) (hr.mono (by decide)) rfl T.m__law_draw T.F__law_draw.kp T.B__law_draw .nil pass0 (pa_cons (pv 2) (pa_cons pe_int pa_nil)))) pa_nil))) (pe_call (ok__law_draw T) (hr.mono (by decide)) rfl T.m__law_draw T.F__law_draw.kp T.B__law_draw .nil pass0 (pa_cons (pv 2) (pa_cons pe_int pa_nil))) (fun _ _ => rfl)))
      (pss_cons (ps_set (i := 8) sc_law.nd rfl (by first | exact Or.inl rfl | exact Or.inr rfl) (pe_callB (k_max (K := K) rfl rfl) (by rfl) T.b_max (by decide +kernel) (pa_cons pe_int (pa_cons (pv 8) pa_nil))))
      (pss_cons (ps_set (i := 9) sc_law.nd rfl (by first | exact Or.inl rfl | exact Or.inr rfl) (pe_op op_mulU (pe_call (ok__law_draw T) (hr.mono (by decide)) rfl T.m__law_draw T.F__law_draw.kp T.B__law_draw .nil pass0 (pa_cons (pv 2) (pa_cons pe_int pa_nil))) (pe_call (ok__law_draw T) (hr.mono (by decide)) rfl T.m__law_draw T.F__law_draw.kp T.B__law_draw .nil pass0 (pa_cons (pv 2) (pa_cons pe_int pa_nil)))))
      (pss_cons (ps_set (i := 10) sc_law.nd rfl (by first | exact Or.inl rfl | exact Or.inr rfl) (pe_op (k_add (K := K) rfl) (pe_op (k_add (K := K) rfl) (pv 9) pe_int) (pe_call (ok__law_draw T) (hr.mono (by decide)) rfl T.m__law_draw T.F__law_draw.kp T.B__law_draw .nil pass0 (pa_cons (pv 2) (pa_cons (pe_ix (k_ix (K := K) rfl hu1) (pe_tup (pa_cons pe_int (pa_cons pe_int pa_nil))) (pe_call (ok__law_draw T) (hr.mono (by decide)) rfl T.m__law_draw T.F__law_draw.kp T.B__law_draw .nil pass0 (pa_cons (pv 2) (pa_cons pe_int pa_nil))) (fun _ _ => rfl)) pa_nil)))))
      (pss_cons (ps_set (i := 11) sc_law.nd rfl (by first | exact Or.inl rfl | exact Or.inr rfl) (pe_call (ok_price_lines T) (hr.mono (by decide)) rfl T.m_price_lines T.F_price_lines.kp T.B_price_lines .nil pass0 (pa_cons (pv 5) (pa_cons (pv 7) (pa_cons (pv 8) (pa_cons (pv 9) (pa_cons (pv 10) pa_nil)))))))
      (pss_cons (ps_set (i := 12) sc_law.nd rfl (by first | exact Or.inl rfl | exact Or.inr rfl) (pe_call (ok_price_lines T) (hr.mono (by decide)) rfl T.m_price_lines T.F_price_lines.kp T.B_price_lines .nil pass0 (pa_cons (pv 5) (pa_cons (pv 7) (pa_cons (pe_op (k_add (K := K) rfl) (pv 8) (pe_op op_mulU pe_int (pe_op (k_add (K := K) rfl) pe_int (pe_call (ok__law_draw T) (hr.mono (by decide)) rfl T.m__law_draw T.F__law_draw.kp T.B__law_draw .nil pass0 (pa_cons (pv 2) (pa_cons pe_int pa_nil)))))) (pa_cons (pv 9) (pa_cons (pv 10) pa_nil)))))))
      (pss_cons (ps_if (pt_cmpR (k_ne (K := K) rfl hu64) (pv 12) (pv 11) (nomark _)) (pss_one (ps_ret pe_bl)) pss_nil)
      (pss_cons (ps_set (i := 13) sc_law.nd rfl (by first | exact Or.inl rfl | exact Or.inr rfl) (pe_call (ok_price_lines T) (hr.mono (by decide)) rfl T.m_price_lines T.F_price_lines.kp T.B_price_lines .nil pass0 (pa_cons (pv 6) (pa_cons (pv 7) (pa_cons (pv 8) (pa_cons (pv 9) (pa_cons (pv 10) pa_nil)))))))
      (pss_cons (ps_if (pt_cmpR op_isU (pv 11) pe_non (nomark _)) (pss_one (ps_if (pt_cmpR op_notU (pv 13) pe_non (nomark _)) (pss_one (ps_ret pe_bl)) pss_nil)) (pss_one (ps_if (pt_cmpR (k_ne (K := K) rfl hu64) (pv 13) (pe_lc (own := [("line", 17)]) rfl sc_law.nd (k_seq (K := K) rfl (pv 11)) (blkOk_by (N := N_law) (sc := defScope s_law) (by decide +kernel)) (fun _ _ _ _ _ => (pg_name (i := 17) sc_law.nd rfl (by first | exact Or.inl rfl | exact Or.inr rfl))) (fun _ _ _ _ _ => pts_nil) (fun _ _ _ _ _ => (pe_tup (pa_cons (pe_ix (k_ix (K := K) rfl hu1) (pv 17) pe_int (fun _ _ => rfl)) (pa_cons (pe_ix (k_ix (K := K) rfl hu1) (pv 17) pe_int (fun _ _ => rfl)) (pa_cons (pe_ix (k_ix (K := K) rfl hu1) (pv 17) pe_int (fun _ _ => rfl)) (pa_cons (pe_op op_mulU (pv 3) (pe_ix (k_ix (K := K) rfl hu1) (pv 17) pe_int (fun _ _ => rfl))) pa_nil))))))) (nomark _)) (pss_one (ps_ret pe_bl)) pss_nil)))
      (pss_cons (ps_set (i := 14) sc_law.nd rfl (by first | exact Or.inl rfl | exact Or.inr rfl) (pe_lst (pa_cons (pe_op (k_add (K := K) rfl) (pe_op (k_add (K := K) rfl) (pv 9) pe_int) (pe_call (ok__law_draw T) (hr.mono (by decide)) rfl T.m__law_draw T.F__law_draw.kp T.B__law_draw .nil pass0 (pa_cons (pv 2) (pa_cons (pe_op op_sub (pe_op op_sub (pv 10) (pv 9)) pe_int) pa_nil)))) (pa_cons (pe_callB (k_min (K := K) rfl rfl) (by rfl) T.b_min (by decide +kernel) (pa_cons (pe_op op_sub (pv 10) pe_int) (pa_cons (pe_op (k_add (K := K) rfl) (pv 9) (pe_op op_mulU pe_int (pe_op (k_add (K := K) rfl) pe_int (pe_call (ok__law_draw T) (hr.mono (by decide)) rfl T.m__law_draw T.F__law_draw.kp T.B__law_draw .nil pass0 (pa_cons (pv 2) (pa_cons pe_int pa_nil)))))) pa_nil))) pa_nil))))
      (pss_cons (ps_set (i := 15) sc_law.nd rfl (by first | exact Or.inl rfl | exact Or.inr rfl) (pe_call (ok_stretches T) (hr.mono (by decide)) rfl T.m_stretches T.F_stretches.kp T.B_stretches .nil pass0 (pa_cons (pv 5) (pa_cons (pv 7) (pa_cons (pv 8) (pa_cons (pv 9) (pa_cons (pv 10) pa_nil)))))))
      (pss_cons (ps_if (pt_cmpR op_notU (pv 15) pe_non (nomark _)) (pss_one (ps_set (i := 14) sc_law.nd rfl (by first | exact Or.inl rfl | exact Or.inr rfl) (pe_op (k_add (K := K) rfl) (pv 14) (pe_lc (own := [("row", 18)]) rfl sc_law.nd (k_seq (K := K) rfl (pe_slice (k_sl (K := K) rfl) (pv 15) (po_some pe_int) (po_some pe_int))) (blkOk_by (N := N_law) (sc := defScope s_law) (by decide +kernel)) (fun _ _ _ _ _ => (pg_name (i := 18) sc_law.nd rfl (by first | exact Or.inl rfl | exact Or.inr rfl))) (fun _ _ _ _ _ => pts_nil) (fun _ _ _ _ _ => (pe_ix (k_ix (K := K) rfl hu1) (pv 18) pe_int (fun _ _ => rfl))))))) pss_nil)
      (pss_one (ps_for PassesOwn.never rfl (k_seq (K := K) rfl (pv 14)) (pg_name (i := 16) sc_law.nd rfl (by first | exact Or.inl rfl | exact Or.inr rfl)) (pss_one (ps_if (PW.pt (pw_and (pt_chain op_lt op_lt (pv 9) (pv 16) (pv 10)) (pw_and1 (pt_not (k_tru (K := K) rfl (pe_call (ok__law_cuts T) hr rfl T.m__law_cuts T.F__law_cuts.kp T.B__law_cuts .nil pass0 (pa_cons (pv 5) (pa_cons (pv 7) (pa_cons (pv 8) (pa_cons (pv 9) (pa_cons (pv 10) (pa_cons (pv 16) pa_nil))))))) (by intro _; rfl)))))) (pss_one (ps_ret pe_bl)) pss_nil)))))))))))))))))))))))
      (pss_one (ps_ret pe_bl))), ?_⟩
  try dsimp only [cxOf]
  rintro args own P XP ⟨ns, rfl, rfl, hl, hb, hq⟩
  show SS K E0 _ [some _, none, none, none, none, none, none, none, none, none, none, none, none, none, none, none, none, none, none] _ _
  refine ss_mid (fun _ _ => True) ?_ ?_
  · refine ss_for ?_
    walk_at "go"
    refine ⟨by omega, by omega, fun i sl o => ∃ u1 u2 u3 u4 u5 u6 u7 u8 u9 u10 u11 u12 u13 u14 u15 u16 u17 u18, sl = [some (.scr (ns.map Dat.int)), u1, u2, u3, u4, u5, u6, u7, u8, u9, u10, u11, u12, u13, u14, u15, u16, u17, u18], ⟨none, none, none, none, none, none, none, none, none, none, none, none, none, none, none, none, none, none, rfl⟩, fun _ _ _ _ => trivial, ?_, fun _ _ _ => trivial⟩
    rintro i x sl o hx ⟨u1, u2, u3, u4, u5, u6, u7, u8, u9, u10, u11, u12, u13, u14, u15, u16, u17, u18, rfl⟩
    obtain ⟨hlt, rfl⟩ := rng_at hx
    walk_at "go"
    refine ⟨ns, i, 37, rfl, hl, hb, by omega, by omega, by decide, by decide, fun s hs => ?_⟩
    walk_at "go"
    refine dr rg0 (by decide) (by decide) fun d d0 d1 => ?_
    walk_at "e"
    refine ss_open (l := []) fun x y z => ?_
    walk_at "go"
    refine ex_lstO ?_
    walk_at "go"
    intro a ha
    walk_at "e"
    walk_at "go"
    refine ⟨s, 1, (x, y), [(a, .lst [.int x, .int y])], o, rfl, by decide, by decide, rfl, z, ?_⟩
    walk_at "go"
    refine ⟨a, 1 + d, (x, y), [], _, rfl, by omega, by omega, rfl, z, ?_⟩
    obtain ⟨f1, f2, f3, f4, f5⟩ := tarF_ok (t := (x, y)) z
    generalize tarF (x, y) = tf at *
    obtain ⟨setup, rows, t2⟩ := tf
    dsimp only at *
    refine ss_cl (cl_drop (l := [])) ?_
    refine ss_cl (cl_rng (l := []) f3) ?_
    have es : rows.map (scale 1) = rows := by
      conv => rhs; rw [← List.map_id rows]
      refine List.map_congr_left fun r _ => ?_
      show ({ r with price := 1 * r.price } : Row) = r
      rw [Int.one_mul]
    rw [es]
    clear es
    walk_at "go"
    refine ⟨s, rfl, rg0, fun called => ?_⟩
    walk_at "go"
    refine dr rg0 (by decide) (by decide) fun e1 e10 e11 => ?_
    walk_at "go"
    refine dr rg0 (by decide) (by decide) fun e2 e20 e21 => ?_
    have m1 : IntMulOk 3600 e2 := mul_ok64 (by decide) (by omega)
    walk_at "go"
    refine dr rg0 (by decide) (by decide) fun e3 e30 e31 => ?_
    walk_at "go"
    refine dr rg0 (by decide) (by decide) fun e4 e40 e41 => ?_
    obtain ⟨st, hst, st0⟩ : ∃ st : Int, atI [Dat.int e1, .int (3600 * e2 - e3)] e4 = some (.int st) ∧ st < 400000 := by
      have : e4 = 0 ∨ e4 = 1 := by omega
      rcases this with rfl | rfl
      · exact ⟨e1, rfl, e11⟩
      · exact ⟨3600 * e2 - e3, rfl, by omega⟩
    refine ix_tp hst ?_
    walk_at "go"
    refine dr rg0 (by decide) (by decide) fun e5 e50 e51 => ?_
    walk_at "go"
    refine dr rg0 (by decide) (by decide) fun e6 e60 e61 => ?_
    have m2 : IntMulOk e5 e6 := mul_ok64 (by omega) (by omega)
    walk_at "go"
    refine dr rg0 (by decide) (by decide) fun e7 e70 e71 => ?_
    obtain ⟨mn, hmn, mn0, mn1⟩ : ∃ mn : Int, atI [Dat.int 200, .int 30000] e7 = some (.int mn) ∧ 1 ≤ mn ∧ mn ≤ 30000 := by
      have : e7 = 0 ∨ e7 = 1 := by omega
      rcases this with rfl | rfl
      · exact ⟨200, rfl, by decide, by decide⟩
      · exact ⟨30000, rfl, by decide, by decide⟩
    refine ix_tp hmn ?_
    walk_at "go"
    refine dr rg0 mn0 (by omega) fun e8 e80 e81 => ?_
    have hbeg : 0 ≤ e5 * e6 ∧ e5 * e6 < 5000 := by
      have : e5 = 0 ∨ e5 = 1 := by omega
      rcases this with rfl | rfl <;> omega
    walk_at "go"
    generalize hstart : max 0 st = start
    generalize hbegin : e5 * e6 = begin at *
    generalize htill : begin + 2 + e8 = till
    have s0 : 0 ≤ start := by omega
    have s1 : start < 400000 := by omega
    have hw : WinOk start begin till := ⟨s0, by omega, hbeg.1, by omega, by omega⟩
    refine ⟨1 * setup, rows, called, start, begin, till, rfl, f4, hw, ?_⟩
    walk_at "go"
    refine dr rg0 (by decide) (by decide) fun e9 e90 e91 => ?_
    have m3 : IntMulOk 86400 (1 + e9) := mul_ok64 (by decide) (by omega)
    walk_at "go"
    refine ⟨1 * setup, rows, called, start + 86400 * (1 + e9), begin, till, rfl, f4, ⟨by omega, by omega, hbeg.1, by omega, by omega⟩, ?_⟩
    rw [bs_day]
    have hok : ∀ {f : Int → Option Row} {n : Nat} {ps : List (Pc Row)}, (∀ p r, f p = some r → r ∈ rows) → rle f begin n = some ps → ∀ t ∈ ps, PyData.strOk t.1.label = true := fun hf h => lab_ok f4 hf h
    have hsh : Sh 2 (lstOpt lnD ((rle (bs called start rows) begin (till - begin).toNat).map (linesOf (1 * setup) begin))) := by
      cases hW : rle (bs called start rows) begin (till - begin).toNat with
      | none => exact .non
      | some ps => exact .lst (sh_ln (lines_ok (lab_ok f4 (fun p r h => best_mem h) hW)))
    walk_at "go"
    refine ne_same hsh rfl ?_
    walk_at "go"
    refine ⟨(1 + d) * setup, rows.map (scale (1 + d)), called, start, begin, till, rfl, f4.sc f5 (by omega) (by omega), hw, ?_⟩
    walk_at "sl"
    refine ss_mid (fun sl o' => ∃ v11 v12 v13 v14 v15 v16 v17 v18, sl = [some (.scr (ns.map Dat.int)), some (.int i), some (.ptr s), some (.int (1 + d)), some (.ptr a), some (tariffD ad (1 * setup) rows), some (tariffD ad ((1 + d) * setup) (rows.map (scale (1 + d)))), some (.str called), some (.int start), some (.int begin), some (.int till), v11, v12, v13, v14, v15, v16, v17, v18] ∧ o' = (s, .rng) :: o) ?_ ?_
    · have hinj : ∀ p q r s, bs called start rows p = some r → bs called start rows q = some s → scale (1 + d) r = scale (1 + d) s → r = s := fun p q r s hp hq e => f4.inj r (best_mem hp) s (best_mem hq) (by have := congrArg Row.label e; exact this)
      rw [bs_scale, rle_map hinj]
      cases hW : rle (bs called start rows) begin (till - begin).toNat with
      | none =>
        dsimp only [lstOpt, Option.map]
        walk_at "go"
        walk_at "nz"
        first | exact ⟨_, _, _, _, _, _, _, _, rfl⟩ | exact ⟨_, _, _, _, _, _, _, _, rfl, rfl⟩
      | some ps =>
        dsimp only [lstOpt, Option.map]
        walk_at "go"
        refine ex_lc (ix_s ?_)
        walk_at "go"
        have hlen := rle_len hW
        have hbd : ∀ t ∈ linesOf (1 * setup) begin ps, IntMulOk (1 + d) t.2.2.2 := fun t ht => by
          rcases List.mem_cons.mp ht with rfl | ht
          · exact mul_ok64 (by omega) (show (1 * setup).natAbs < _ by omega)
          · obtain ⟨u, hu, rfl⟩ := List.mem_map.mp ht
            obtain ⟨i1, i2, i3, p, hp⟩ := rle_in hW u hu
            have hr := f4.each u.1 (best_mem hp)
            have b1 : Bd u.1.price 11 := bd_lit (by omega)
            have b2 : Bd ((u.2.2 - u.2.1 + 60 - 1) / 60) 30 := bd_lit (by omega)
            have b3 : Bd (1 + d) 10 := bd_lit (by omega)
            exact Bd.ok b3 (b1.mul b2) (by decide)
        have hll : (linesOf (1 * setup) begin ps).length = ps.length + 1 := by simp [linesOf]
        refine ⟨_, .inl rfl, fun i acc o' => o' = (s, .rng) :: o ∧ acc = ((linesOf (1 * setup) begin ps).take i).map (fun t => Dat.tup [.str t.1, .int t.2.1, .int t.2.2.1, .int ((1 + d) * t.2.2.2)]), ⟨rfl, rfl⟩, fun _ _ _ _ => trivial, ?_, ?_⟩
        · rintro i x acc o' hx ⟨rfl, rfl⟩
          obtain ⟨t, hi, rfl⟩ := map_at hx
          have mok := hbd t (List.mem_of_getElem? hi)
          have hil := (List.getElem?_eq_some_iff.mp hi).1
          walk_at "go"
          refine ⟨?_, rfl, ?_⟩
          · rw [List.length_map, List.length_take]; exact Nat.lt_of_lt_of_le (show _ < 1000003 by omega) ble
          · rw [List.take_add_one, hi, List.map_append]; rfl
        rintro acc o' ⟨rfl, rfl⟩
        rw [List.length_map, List.take_length]
        have heq : (linesOf ((1 + d) * setup) begin (ps.map fun t => (scale (1 + d) t.1, t.2.1, t.2.2))).map lnD = (linesOf (1 * setup) begin ps).map (fun t => Dat.tup [.str t.1, .int t.2.1, .int t.2.2.1, .int ((1 + d) * t.2.2.2)]) := by
          unfold linesOf
          rw [List.map_cons, List.map_cons, List.map_map, List.map_map, List.map_map, Int.one_mul]
          congr 1
          refine List.map_congr_left fun t _ => ?_
          show Dat.tup [_, _, _, .int ((1 + d) * t.1.price * _)] = Dat.tup [_, _, _, .int ((1 + d) * (t.1.price * _))]
          rw [Int.mul_assoc]
          rfl
        refine ne_same (n := 2) (.lst (sh_ln (lines_ok fun t ht => ?_))) (congrArg Dat.lst heq) ?_
        · obtain ⟨u, hu, rfl⟩ := List.mem_map.mp ht
          exact lab_ok f4 (fun p r h => best_mem h) hW u hu
        walk_at "go"
        walk_at "nz"
        first | exact ⟨_, _, _, _, _, _, _, _, rfl⟩ | exact ⟨_, _, _, _, _, _, _, _, rfl, rfl⟩
    · rintro sl o' ⟨v11, v12, v13, v14, v15, v16, v17, v18, rfl, rfl⟩
      walk_at "go"
      refine ex_lst ?_
      walk_at "go"
      refine dr rg0 (by clear hw; omega) (by clear hw; omega) fun a1 a10 a11 => ?_
      walk_at "go"
      refine dr rg0 (by omega) (by omega) fun a2 a20 a21 => ?_
      have m4 : IntMulOk 60 (1 + a2) := mul_ok64 (by decide) (by omega)
      walk_at "go"
      refine ⟨1 * setup, rows, called, start, begin, till, rfl, f4, hw, ?_⟩
      walk_at "sl"
      refine ss_mid (fun sl o' => ∃ (ms : List Int), ∃ v11 v12 v13 v15 v16 v17 v18, sl = [some (.scr (ns.map Dat.int)), some (.int i), some (.ptr s), some (.int (1 + d)), some (.ptr a), some (tariffD ad (1 * setup) rows), some (tariffD ad ((1 + d) * setup) (rows.map (scale (1 + d)))), some (.str called), some (.int start), some (.int begin), some (.int till), v11, v12, v13, some (.lst (ms.map Dat.int)), v15, v16, v17, v18] ∧ o' = (s, .rng) :: o) ?_ ?_
      · cases hW : rle (bs called start rows) begin (till - begin).toNat with
        | none =>
          dsimp only [lstOpt]
          walk_at "go"
          walk_at "nz"
          first | exact ⟨[_, _], _, _, _, _, _, _, _, rfl⟩ | exact ⟨[_, _], _, _, _, _, _, _, _, rfl, rfl⟩
        | some ps =>
          dsimp only [lstOpt]
          walk_at "go"
          refine ex_lc (ix_s ?_)
          walk_at "go"
          refine sl_lst (.inl (.inl rfl)) ?_
          have hcl : (cutD (ps.map (pcD ad)) (some 1) (some 4)).length ≤ 1000 := by
            unfold cutD
            rw [List.length_take]
            refine Nat.le_trans (Nat.min_le_left _ _) ?_
            unfold HT.sIx
            dsimp only
            rw [if_neg (by decide)]
            omega
          have hcm : ∀ e ∈ cutD (ps.map (pcD ad)) (some 1) (some 4), ∃ t, e = pcD ad t := fun e he => by
            have := List.mem_of_mem_drop (List.mem_of_mem_take he)
            obtain ⟨t, _, rfl⟩ := List.mem_map.mp this
            exact ⟨t, rfl⟩
          generalize cutD (ps.map (pcD ad)) (some 1) (some 4) = cs at *
          refine ⟨_, .inl rfl, fun i acc o' => o' = (s, .rng) :: o ∧ ∃ ms : List Int, acc = ms.map Dat.int ∧ ms.length = i, ⟨rfl, [], rfl, rfl⟩, fun _ _ _ _ => trivial, ?_, ?_⟩
          · rintro i x acc o' hx ⟨rfl, ms, rfl, hms⟩
            obtain ⟨t, rfl⟩ := hcm x (List.mem_of_getElem? hx)
            have hil := (List.getElem?_eq_some_iff.mp hx).1
            walk_at "go"
            refine ⟨?_, rfl, ms ++ [_], by rw [List.map_append]; rfl, by rw [List.length_append, hms]; rfl⟩
            rw [List.length_map, hms]; exact Nat.lt_of_lt_of_le (show _ < 1000003 by omega) ble
          rintro acc o' ⟨rfl, ms, rfl, hms⟩
          refine add_lst (.inl rfl) (.inl rfl) (by rw [List.length_map, hms]; exact Nat.le_trans (Nat.add_le_add_left hcl _) ble) ?_
          walk_at "nz"
          first | exact ⟨_ :: _ :: ms, _, _, _, _, _, _, _, rfl⟩ | exact ⟨_ :: _ :: ms, _, _, _, _, _, _, _, rfl, rfl⟩
      · rintro sl o' ⟨ms, v11, v12, v13, v15, v16, v17, v18, rfl, rfl⟩
        walk_at "go"
        refine ss_for (ix_s ?_)
        walk_at "go"
        refine ⟨_, .inl rfl, fun j sl o' => ∃ v11 v12 v13 v15 v16 v17 v18, sl = [some (.scr (ns.map Dat.int)), some (.int i), some (.ptr s), some (.int (1 + d)), some (.ptr a), some (tariffD ad (1 * setup) rows), some (tariffD ad ((1 + d) * setup) (rows.map (scale (1 + d)))), some (.str called), some (.int start), some (.int begin), some (.int till), v11, v12, v13, some (.lst (ms.map Dat.int)), v15, v16, v17, v18] ∧ o' = (s, .rng) :: o, ⟨_, _, _, _, _, _, _, rfl, rfl⟩, fun _ _ _ _ => trivial, ?_, ?_⟩
        · rintro j x sl o' hx ⟨v11, v12, v13, v15, v16, v17, v18, rfl, rfl⟩
          obtain ⟨mid, hi, rfl⟩ := map_at hx
          walk_at "go"
          refine iteD (fun c1 => ?_) (fun c1 => ?_)
          · walk_at "go"
            refine iteD (fun c2 => ?_) (fun c2 => ?_)
            · walk_at "go"
              refine ⟨1 * setup, rows, called, start, begin, till, mid, rfl, f4, hw, c1, c2, ?_⟩
              walk_at "go"
              walk_at "nz"
              first | exact ⟨_, _, _, _, _, _, _, rfl⟩ | exact ⟨_, _, _, _, _, _, _, rfl, rfl⟩
            · walk_at "go"
              walk_at "nz"
              first | exact ⟨_, _, _, _, _, _, _, rfl⟩ | exact ⟨_, _, _, _, _, _, _, rfl, rfl⟩
          · walk_at "go"
            walk_at "nz"
            first | exact ⟨_, _, _, _, _, _, _, rfl⟩ | exact ⟨_, _, _, _, _, _, _, rfl, rfl⟩
        · rintro sl o' ⟨v11, v12, v13, v15, v16, v17, v18, rfl, rfl⟩
          exact ⟨_, _, _, _, _, _, _, _, _, _, _, _, _, _, _, _, _, _, rfl⟩
  · intro sl o _
    walk_at "go"
    exact hq _
end

theorem all_mk {l : PySem.W.OpenLaw} {w : World} {K : PySem.W.Frag} {h : Heap} {mg : Str → Option Value} {fa : Addr} (X : K.In h) (G : h.Ns mainGlobals mg) (hfa : mg "law" = some (.ref fa))
    {c_Band : Addr} {c_Tariff : Addr}
    {a__law_state : Addr} {od__law_state an__law_state : Option Addr} {sl__law_state : Array (Option Value)} {oc__law_state kV__law_state dc__law_state pm__law_state cd__law_state ct__law_state : Value}
    {a_Tariff_init : Addr} {od_Tariff_init an_Tariff_init : Option Addr} {sl_Tariff_init : Array (Option Value)} {oc_Tariff_init kV_Tariff_init dc_Tariff_init pm_Tariff_init cd_Tariff_init ct_Tariff_init : Value}
    {a__law_draw : Addr} {od__law_draw an__law_draw : Option Addr} {sl__law_draw : Array (Option Value)} {oc__law_draw kV__law_draw dc__law_draw pm__law_draw cd__law_draw ct__law_draw : Value}
    {a_Band_init : Addr} {od_Band_init an_Band_init : Option Addr} {sl_Band_init : Array (Option Value)} {oc_Band_init kV_Band_init dc_Band_init pm_Band_init cd_Band_init ct_Band_init : Value}
    {a__law_tariff : Addr} {od__law_tariff an__law_tariff : Option Addr} {sl__law_tariff : Array (Option Value)} {oc__law_tariff kV__law_tariff dc__law_tariff pm__law_tariff cd__law_tariff ct__law_tariff : Value}
    {a__law_called : Addr} {od__law_called an__law_called : Option Addr} {sl__law_called : Array (Option Value)} {oc__law_called kV__law_called dc__law_called pm__law_called cd__law_called ct__law_called : Value}
    {a_Band_holds : Addr} {od_Band_holds an_Band_holds : Option Addr} {sl_Band_holds : Array (Option Value)} {oc_Band_holds kV_Band_holds dc_Band_holds pm_Band_holds cd_Band_holds ct_Band_holds : Value}
    {a_Tariff_band_at : Addr} {od_Tariff_band_at an_Tariff_band_at : Option Addr} {sl_Tariff_band_at : Array (Option Value)} {oc_Tariff_band_at kV_Tariff_band_at dc_Tariff_band_at pm_Tariff_band_at cd_Tariff_band_at ct_Tariff_band_at : Value}
    {a_stretches : Addr} {od_stretches an_stretches : Option Addr} {sl_stretches : Array (Option Value)} {oc_stretches kV_stretches dc_stretches pm_stretches cd_stretches ct_stretches : Value}
    {a_price_lines : Addr} {od_price_lines an_price_lines : Option Addr} {sl_price_lines : Array (Option Value)} {oc_price_lines kV_price_lines dc_price_lines pm_price_lines cd_price_lines ct_price_lines : Value}
    {a__law_rows : Addr} {od__law_rows an__law_rows : Option Addr} {sl__law_rows : Array (Option Value)} {oc__law_rows kV__law_rows dc__law_rows pm__law_rows cd__law_rows ct__law_rows : Value}
    {a__law_sum : Addr} {od__law_sum an__law_sum : Option Addr} {sl__law_sum : Array (Option Value)} {oc__law_sum kV__law_sum dc__law_sum pm__law_sum cd__law_sum ct__law_sum : Value}
    {a__law_cuts : Addr} {od__law_cuts an__law_cuts : Option Addr} {sl__law_cuts : Array (Option Value)} {oc__law_cuts kV__law_cuts dc__law_cuts pm__law_cuts cd__law_cuts ct__law_cuts : Value}
    {a_law : Addr} {od_law an_law : Option Addr} {sl_law : Array (Option Value)} {oc_law kV_law dc_law pm_law cd_law ct_law : Value}
    {t_DAY : Tok}
    {t_HOUR : Tok}
    {t_MINUTE : Tok}
    (y_Band : PySem.W.nsIn K mainGlobals "Band" = some (some (.ref c_Band)))
    (y_Tariff : PySem.W.nsIn K mainGlobals "Tariff" = some (some (.ref c_Tariff)))
    (x__law_state : PySem.W.nsIn K mainGlobals "_law_state" = some (some (.ref a__law_state)))
    (l__law_state : K.lookup a__law_state = some ⟨oc__law_state, od__law_state, .func (PySem.W.fnOf "_law_state" "_law_state" (defArgs s__law_state) (defBody s__law_state) (defScope s__law_state) .none kV__law_state dc__law_state pm__law_state an__law_state cd__law_state ct__law_state), sl__law_state⟩)
    (e__law_state : PySem.W.codeIn K cd__law_state "_law_state" = true)
    (k__law_state : PySem.W.keepIn K (.ref a__law_state) = true)
    (x_Tariff_init : PySem.W.findIn K (.ref c_Tariff) "__init__" = some (some (.ref a_Tariff_init)))
    (i_Tariff_init : PySem.W.isFn K (.ref a_Tariff_init) = true)
    (l_Tariff_init : K.lookup a_Tariff_init = some ⟨oc_Tariff_init, od_Tariff_init, .func (PySem.W.fnOf "__init__" "Tariff.__init__" (defArgs s_Tariff_init) (defBody s_Tariff_init) (defScope s_Tariff_init) .none kV_Tariff_init dc_Tariff_init pm_Tariff_init an_Tariff_init cd_Tariff_init ct_Tariff_init), sl_Tariff_init⟩)
    (e_Tariff_init : PySem.W.codeIn K cd_Tariff_init "Tariff.__init__" = true)
    (k_Tariff_init : PySem.W.keepIn K (.ref a_Tariff_init) = true)
    (x__law_draw : PySem.W.nsIn K mainGlobals "_law_draw" = some (some (.ref a__law_draw)))
    (l__law_draw : K.lookup a__law_draw = some ⟨oc__law_draw, od__law_draw, .func (PySem.W.fnOf "_law_draw" "_law_draw" (defArgs s__law_draw) (defBody s__law_draw) (defScope s__law_draw) .none kV__law_draw dc__law_draw pm__law_draw an__law_draw cd__law_draw ct__law_draw), sl__law_draw⟩)
    (e__law_draw : PySem.W.codeIn K cd__law_draw "_law_draw" = true)
    (k__law_draw : PySem.W.keepIn K (.ref a__law_draw) = true)
    (x_Band_init : PySem.W.findIn K (.ref c_Band) "__init__" = some (some (.ref a_Band_init)))
    (i_Band_init : PySem.W.isFn K (.ref a_Band_init) = true)
    (l_Band_init : K.lookup a_Band_init = some ⟨oc_Band_init, od_Band_init, .func (PySem.W.fnOf "__init__" "Band.__init__" (defArgs s_Band_init) (defBody s_Band_init) (defScope s_Band_init) .none kV_Band_init dc_Band_init pm_Band_init an_Band_init cd_Band_init ct_Band_init), sl_Band_init⟩)
    (e_Band_init : PySem.W.codeIn K cd_Band_init "Band.__init__" = true)
    (k_Band_init : PySem.W.keepIn K (.ref a_Band_init) = true)
    (x__law_tariff : PySem.W.nsIn K mainGlobals "_law_tariff" = some (some (.ref a__law_tariff)))
    (l__law_tariff : K.lookup a__law_tariff = some ⟨oc__law_tariff, od__law_tariff, .func (PySem.W.fnOf "_law_tariff" "_law_tariff" (defArgs s__law_tariff) (defBody s__law_tariff) (defScope s__law_tariff) .none kV__law_tariff dc__law_tariff pm__law_tariff an__law_tariff cd__law_tariff ct__law_tariff), sl__law_tariff⟩)
    (e__law_tariff : PySem.W.codeIn K cd__law_tariff "_law_tariff" = true)
    (k__law_tariff : PySem.W.keepIn K (.ref a__law_tariff) = true)
    (x__law_called : PySem.W.nsIn K mainGlobals "_law_called" = some (some (.ref a__law_called)))
    (l__law_called : K.lookup a__law_called = some ⟨oc__law_called, od__law_called, .func (PySem.W.fnOf "_law_called" "_law_called" (defArgs s__law_called) (defBody s__law_called) (defScope s__law_called) .none kV__law_called dc__law_called pm__law_called an__law_called cd__law_called ct__law_called), sl__law_called⟩)
    (e__law_called : PySem.W.codeIn K cd__law_called "_law_called" = true)
    (k__law_called : PySem.W.keepIn K (.ref a__law_called) = true)
    (x_Band_holds : PySem.W.findIn K (.ref c_Band) "holds" = some (some (.ref a_Band_holds)))
    (i_Band_holds : PySem.W.isFn K (.ref a_Band_holds) = true)
    (l_Band_holds : K.lookup a_Band_holds = some ⟨oc_Band_holds, od_Band_holds, .func (PySem.W.fnOf "holds" "Band.holds" (defArgs s_Band_holds) (defBody s_Band_holds) (defScope s_Band_holds) .none kV_Band_holds dc_Band_holds pm_Band_holds an_Band_holds cd_Band_holds ct_Band_holds), sl_Band_holds⟩)
    (e_Band_holds : PySem.W.codeIn K cd_Band_holds "Band.holds" = true)
    (k_Band_holds : PySem.W.keepIn K (.ref a_Band_holds) = true)
    (x_Tariff_band_at : PySem.W.findIn K (.ref c_Tariff) "band_at" = some (some (.ref a_Tariff_band_at)))
    (i_Tariff_band_at : PySem.W.isFn K (.ref a_Tariff_band_at) = true)
    (l_Tariff_band_at : K.lookup a_Tariff_band_at = some ⟨oc_Tariff_band_at, od_Tariff_band_at, .func (PySem.W.fnOf "band_at" "Tariff.band_at" (defArgs s_Tariff_band_at) (defBody s_Tariff_band_at) (defScope s_Tariff_band_at) .none kV_Tariff_band_at dc_Tariff_band_at pm_Tariff_band_at an_Tariff_band_at cd_Tariff_band_at ct_Tariff_band_at), sl_Tariff_band_at⟩)
    (e_Tariff_band_at : PySem.W.codeIn K cd_Tariff_band_at "Tariff.band_at" = true)
    (k_Tariff_band_at : PySem.W.keepIn K (.ref a_Tariff_band_at) = true)
    (x_stretches : PySem.W.nsIn K mainGlobals "stretches" = some (some (.ref a_stretches)))
    (l_stretches : K.lookup a_stretches = some ⟨oc_stretches, od_stretches, .func (PySem.W.fnOf "stretches" "stretches" (defArgs s_stretches) (defBody s_stretches) (defScope s_stretches) .none kV_stretches dc_stretches pm_stretches an_stretches cd_stretches ct_stretches), sl_stretches⟩)
    (e_stretches : PySem.W.codeIn K cd_stretches "stretches" = true)
    (k_stretches : PySem.W.keepIn K (.ref a_stretches) = true)
    (x_price_lines : PySem.W.nsIn K mainGlobals "price_lines" = some (some (.ref a_price_lines)))
    (l_price_lines : K.lookup a_price_lines = some ⟨oc_price_lines, od_price_lines, .func (PySem.W.fnOf "price_lines" "price_lines" (defArgs s_price_lines) (defBody s_price_lines) (defScope s_price_lines) .none kV_price_lines dc_price_lines pm_price_lines an_price_lines cd_price_lines ct_price_lines), sl_price_lines⟩)
    (e_price_lines : PySem.W.codeIn K cd_price_lines "price_lines" = true)
    (k_price_lines : PySem.W.keepIn K (.ref a_price_lines) = true)
    (x__law_rows : PySem.W.nsIn K mainGlobals "_law_rows" = some (some (.ref a__law_rows)))
    (l__law_rows : K.lookup a__law_rows = some ⟨oc__law_rows, od__law_rows, .func (PySem.W.fnOf "_law_rows" "_law_rows" (defArgs s__law_rows) (defBody s__law_rows) (defScope s__law_rows) .none kV__law_rows dc__law_rows pm__law_rows an__law_rows cd__law_rows ct__law_rows), sl__law_rows⟩)
    (e__law_rows : PySem.W.codeIn K cd__law_rows "_law_rows" = true)
    (k__law_rows : PySem.W.keepIn K (.ref a__law_rows) = true)
    (x__law_sum : PySem.W.nsIn K mainGlobals "_law_sum" = some (some (.ref a__law_sum)))
    (l__law_sum : K.lookup a__law_sum = some ⟨oc__law_sum, od__law_sum, .func (PySem.W.fnOf "_law_sum" "_law_sum" (defArgs s__law_sum) (defBody s__law_sum) (defScope s__law_sum) .none kV__law_sum dc__law_sum pm__law_sum an__law_sum cd__law_sum ct__law_sum), sl__law_sum⟩)
    (e__law_sum : PySem.W.codeIn K cd__law_sum "_law_sum" = true)
    (k__law_sum : PySem.W.keepIn K (.ref a__law_sum) = true)
    (x__law_cuts : PySem.W.nsIn K mainGlobals "_law_cuts" = some (some (.ref a__law_cuts)))
    (l__law_cuts : K.lookup a__law_cuts = some ⟨oc__law_cuts, od__law_cuts, .func (PySem.W.fnOf "_law_cuts" "_law_cuts" (defArgs s__law_cuts) (defBody s__law_cuts) (defScope s__law_cuts) .none kV__law_cuts dc__law_cuts pm__law_cuts an__law_cuts cd__law_cuts ct__law_cuts), sl__law_cuts⟩)
    (e__law_cuts : PySem.W.codeIn K cd__law_cuts "_law_cuts" = true)
    (k__law_cuts : PySem.W.keepIn K (.ref a__law_cuts) = true)
    (x_law : PySem.W.nsIn K mainGlobals "law" = some (some (.ref a_law)))
    (l_law : K.lookup a_law = some ⟨oc_law, od_law, .func (PySem.W.fnOf "law" "law" (defArgs s_law) (defBody s_law) (defScope s_law) .none kV_law dc_law pm_law an_law cd_law ct_law), sl_law⟩)
    (e_law : PySem.W.codeIn K cd_law "law" = true)
    (k_law : PySem.W.keepIn K (.ref a_law) = true)
    (pg_Band : PySem.W.plainGet K c_Band Str.empty = true)
    (hd_Band : PySem.W.hasDictIn K c_Band = true)
    (po_Band : PySem.W.plainOver K c_Band = true)
    (sa_Band : PySem.W.findIn K (.ref c_Band) "__setattr__" = some (some (.builtin "object.__setattr__")))
    (mk_Band : PySem.W.makesIn K c_Band = true)
    (kc_Band : PySem.W.keepIn K (.ref c_Band) = true)
    (n_Band_label : PySem.W.findIn K (.ref c_Band) "label" = some none)
    (n_Band_prefix : PySem.W.findIn K (.ref c_Band) "prefix" = some none)
    (n_Band_from_hour : PySem.W.findIn K (.ref c_Band) "from_hour" = some none)
    (n_Band_to_hour : PySem.W.findIn K (.ref c_Band) "to_hour" = some none)
    (n_Band_price : PySem.W.findIn K (.ref c_Band) "price" = some none)
    (pg_Tariff : PySem.W.plainGet K c_Tariff Str.empty = true)
    (hd_Tariff : PySem.W.hasDictIn K c_Tariff = true)
    (po_Tariff : PySem.W.plainOver K c_Tariff = true)
    (sa_Tariff : PySem.W.findIn K (.ref c_Tariff) "__setattr__" = some (some (.builtin "object.__setattr__")))
    (mk_Tariff : PySem.W.makesIn K c_Tariff = true)
    (kc_Tariff : PySem.W.keepIn K (.ref c_Tariff) = true)
    (n_Tariff_setup_price : PySem.W.findIn K (.ref c_Tariff) "setup_price" = some none)
    (n_Tariff_bands : PySem.W.findIn K (.ref c_Tariff) "bands" = some none)
    (z_int : PySem.W.nsIn K mainGlobals "int" = some none)
    (z_len : PySem.W.nsIn K mainGlobals "len" = some none)
    (z_max : PySem.W.nsIn K mainGlobals "max" = some none)
    (z_min : PySem.W.nsIn K mainGlobals "min" = some none)
    (z_range : PySem.W.nsIn K mainGlobals "range" = some none)
    (z_str : PySem.W.nsIn K mainGlobals "str" = some none)
    (z_sum : PySem.W.nsIn K mainGlobals "sum" = some none)
    (z_tuple : PySem.W.nsIn K mainGlobals "tuple" = some none)
    (g_DAY : PySem.W.nsIn K mainGlobals "DAY" = some (some (.int 86400 t_DAY)))
    (g_HOUR : PySem.W.nsIn K mainGlobals "HOUR" = some (some (.int 3600 t_HOUR)))
    (g_MINUTE : PySem.W.nsIn K mainGlobals "MINUTE" = some (some (.int 60 t_MINUTE))) :
    ∃ fd : FuncData, (∀ (s : Shared) (v : Value), BindsTo s fd ⟨[v], []⟩ [("script", v)]) ∧ ∀ base : Heap, K.In base → base.Ns mainGlobals mg → FnOk l.prog w K mg base CX0 6 fa fd ["script"] (SpG K con_law0) := by
  have e := hfa.symm.trans (PySem.W.mg_of X G x_law)
  have e2 : a_law = fa := by injection e with e; injection e with e; exact e.symm
  subst e2
  have F__law_state := fun_mk (st := s__law_state) l__law_state e__law_state k__law_state
  have F_Tariff_init := fun_mk (st := s_Tariff_init) l_Tariff_init e_Tariff_init k_Tariff_init
  have F__law_draw := fun_mk (st := s__law_draw) l__law_draw e__law_draw k__law_draw
  have F_Band_init := fun_mk (st := s_Band_init) l_Band_init e_Band_init k_Band_init
  have F__law_tariff := fun_mk (st := s__law_tariff) l__law_tariff e__law_tariff k__law_tariff
  have F__law_called := fun_mk (st := s__law_called) l__law_called e__law_called k__law_called
  have F_Band_holds := fun_mk (st := s_Band_holds) l_Band_holds e_Band_holds k_Band_holds
  have F_Tariff_band_at := fun_mk (st := s_Tariff_band_at) l_Tariff_band_at e_Tariff_band_at k_Tariff_band_at
  have F_stretches := fun_mk (st := s_stretches) l_stretches e_stretches k_stretches
  have F_price_lines := fun_mk (st := s_price_lines) l_price_lines e_price_lines k_price_lines
  have F__law_rows := fun_mk (st := s__law_rows) l__law_rows e__law_rows k__law_rows
  have F__law_sum := fun_mk (st := s__law_sum) l__law_sum e__law_sum k__law_sum
  have F__law_cuts := fun_mk (st := s__law_cuts) l__law_cuts e__law_cuts k__law_cuts
  have F_law := fun_mk (st := s_law) l_law e_law k_law
  have T : Tx K mg ⟨a__law_state, PySem.W.fnOf "_law_state" "_law_state" (defArgs s__law_state) (defBody s__law_state) (defScope s__law_state) .none kV__law_state dc__law_state pm__law_state an__law_state cd__law_state ct__law_state, a_Tariff_init, PySem.W.fnOf "__init__" "Tariff.__init__" (defArgs s_Tariff_init) (defBody s_Tariff_init) (defScope s_Tariff_init) .none kV_Tariff_init dc_Tariff_init pm_Tariff_init an_Tariff_init cd_Tariff_init ct_Tariff_init, a__law_draw, PySem.W.fnOf "_law_draw" "_law_draw" (defArgs s__law_draw) (defBody s__law_draw) (defScope s__law_draw) .none kV__law_draw dc__law_draw pm__law_draw an__law_draw cd__law_draw ct__law_draw, a_Band_init, PySem.W.fnOf "__init__" "Band.__init__" (defArgs s_Band_init) (defBody s_Band_init) (defScope s_Band_init) .none kV_Band_init dc_Band_init pm_Band_init an_Band_init cd_Band_init ct_Band_init, a__law_tariff, PySem.W.fnOf "_law_tariff" "_law_tariff" (defArgs s__law_tariff) (defBody s__law_tariff) (defScope s__law_tariff) .none kV__law_tariff dc__law_tariff pm__law_tariff an__law_tariff cd__law_tariff ct__law_tariff, a__law_called, PySem.W.fnOf "_law_called" "_law_called" (defArgs s__law_called) (defBody s__law_called) (defScope s__law_called) .none kV__law_called dc__law_called pm__law_called an__law_called cd__law_called ct__law_called, a_Band_holds, PySem.W.fnOf "holds" "Band.holds" (defArgs s_Band_holds) (defBody s_Band_holds) (defScope s_Band_holds) .none kV_Band_holds dc_Band_holds pm_Band_holds an_Band_holds cd_Band_holds ct_Band_holds, a_Tariff_band_at, PySem.W.fnOf "band_at" "Tariff.band_at" (defArgs s_Tariff_band_at) (defBody s_Tariff_band_at) (defScope s_Tariff_band_at) .none kV_Tariff_band_at dc_Tariff_band_at pm_Tariff_band_at an_Tariff_band_at cd_Tariff_band_at ct_Tariff_band_at, a_stretches, PySem.W.fnOf "stretches" "stretches" (defArgs s_stretches) (defBody s_stretches) (defScope s_stretches) .none kV_stretches dc_stretches pm_stretches an_stretches cd_stretches ct_stretches, a_price_lines, PySem.W.fnOf "price_lines" "price_lines" (defArgs s_price_lines) (defBody s_price_lines) (defScope s_price_lines) .none kV_price_lines dc_price_lines pm_price_lines an_price_lines cd_price_lines ct_price_lines, a__law_rows, PySem.W.fnOf "_law_rows" "_law_rows" (defArgs s__law_rows) (defBody s__law_rows) (defScope s__law_rows) .none kV__law_rows dc__law_rows pm__law_rows an__law_rows cd__law_rows ct__law_rows, a__law_sum, PySem.W.fnOf "_law_sum" "_law_sum" (defArgs s__law_sum) (defBody s__law_sum) (defScope s__law_sum) .none kV__law_sum dc__law_sum pm__law_sum an__law_sum cd__law_sum ct__law_sum, a__law_cuts, PySem.W.fnOf "_law_cuts" "_law_cuts" (defArgs s__law_cuts) (defBody s__law_cuts) (defScope s__law_cuts) .none kV__law_cuts dc__law_cuts pm__law_cuts an__law_cuts cd__law_cuts ct__law_cuts, a_law, PySem.W.fnOf "law" "law" (defArgs s_law) (defBody s_law) (defScope s_law) .none kV_law dc_law pm_law an_law cd_law ct_law, c_Band, c_Tariff⟩ := {
    b_int := PySem.W.mg_none_of X G z_int
    b_len := PySem.W.mg_none_of X G z_len
    b_max := PySem.W.mg_none_of X G z_max
    b_min := PySem.W.mg_none_of X G z_min
    b_range := PySem.W.mg_none_of X G z_range
    b_str := PySem.W.mg_none_of X G z_str
    b_sum := PySem.W.mg_none_of X G z_sum
    b_tuple := PySem.W.mg_none_of X G z_tuple
    g_DAY := ⟨_, PySem.W.mg_of X G g_DAY⟩
    g_HOUR := ⟨_, PySem.W.mg_of X G g_HOUR⟩
    g_MINUTE := ⟨_, PySem.W.mg_of X G g_MINUTE⟩
    m__law_state := PySem.W.mg_of X G x__law_state
    F__law_state := F__law_state
    B__law_state := F__law_state.binds (ps := ["script", "k", "salt"]) fun _ _ _ _ _ _ us hl => match us, hl with | [_, _, _], _ => rfl
    F_Tariff_init := F_Tariff_init
    B_Tariff_init := F_Tariff_init.binds (ps := ["self", "setup_price", "bands"]) fun _ _ _ _ _ _ us hl => match us, hl with | [_, _, _], _ => rfl
    m__law_draw := PySem.W.mg_of X G x__law_draw
    F__law_draw := F__law_draw
    B__law_draw := F__law_draw.binds (ps := ["state", "many"]) fun _ _ _ _ _ _ us hl => match us, hl with | [_, _], _ => rfl
    F_Band_init := F_Band_init
    B_Band_init := F_Band_init.binds (ps := ["self", "label", "prefix", "from_hour", "to_hour", "price"]) fun _ _ _ _ _ _ us hl => match us, hl with | [_, _, _, _, _, _], _ => rfl
    m__law_tariff := PySem.W.mg_of X G x__law_tariff
    F__law_tariff := F__law_tariff
    B__law_tariff := F__law_tariff.binds (ps := ["state", "times"]) fun _ _ _ _ _ _ us hl => match us, hl with | [_, _], _ => rfl
    m__law_called := PySem.W.mg_of X G x__law_called
    F__law_called := F__law_called
    B__law_called := F__law_called.binds (ps := ["state"]) fun _ _ _ _ _ _ us hl => match us, hl with | [_], _ => rfl
    F_Band_holds := F_Band_holds
    B_Band_holds := F_Band_holds.binds (ps := ["self", "called", "clock"]) fun _ _ _ _ _ _ us hl => match us, hl with | [_, _, _], _ => rfl
    M_Band_holds := ⟨x_Band_holds, i_Band_holds, k_Band_holds⟩
    F_Tariff_band_at := F_Tariff_band_at
    B_Tariff_band_at := F_Tariff_band_at.binds (ps := ["self", "called", "clock"]) fun _ _ _ _ _ _ us hl => match us, hl with | [_, _, _], _ => rfl
    M_Tariff_band_at := ⟨x_Tariff_band_at, i_Tariff_band_at, k_Tariff_band_at⟩
    m_stretches := PySem.W.mg_of X G x_stretches
    F_stretches := F_stretches
    B_stretches := F_stretches.binds (ps := ["tariff", "called", "start", "begin", "till"]) fun _ _ _ _ _ _ us hl => match us, hl with | [_, _, _, _, _], _ => rfl
    m_price_lines := PySem.W.mg_of X G x_price_lines
    F_price_lines := F_price_lines
    B_price_lines := F_price_lines.binds (ps := ["tariff", "called", "start", "begin", "till"]) fun _ _ _ _ _ _ us hl => match us, hl with | [_, _, _, _, _], _ => rfl
    m__law_rows := PySem.W.mg_of X G x__law_rows
    F__law_rows := F__law_rows
    B__law_rows := F__law_rows.binds (ps := ["pieces"]) fun _ _ _ _ _ _ us hl => match us, hl with | [_], _ => rfl
    m__law_sum := PySem.W.mg_of X G x__law_sum
    F__law_sum := F__law_sum
    B__law_sum := F__law_sum.binds (ps := ["lines"]) fun _ _ _ _ _ _ us hl => match us, hl with | [_], _ => rfl
    m__law_cuts := PySem.W.mg_of X G x__law_cuts
    F__law_cuts := F__law_cuts
    B__law_cuts := F__law_cuts.binds (ps := ["tariff", "called", "start", "begin", "till", "middle"]) fun _ _ _ _ _ _ us hl => match us, hl with | [_, _, _, _, _, _], _ => rfl
    m_law := PySem.W.mg_of X G x_law
    F_law := F_law
    B_law := F_law.binds (ps := ["script"]) fun _ _ _ _ _ _ us hl => match us, hl with | [_], _ => rfl
    m_Band := PySem.W.mg_of X G y_Band
    cl_Band := ⟨pg_Band, hd_Band, po_Band, sa_Band⟩
    K_Band := ⟨mk_Band, x_Band_init, i_Band_init, kc_Band⟩
    n_Band_label := n_Band_label
    n_Band_prefix := n_Band_prefix
    n_Band_from_hour := n_Band_from_hour
    n_Band_to_hour := n_Band_to_hour
    n_Band_price := n_Band_price
    m_Tariff := PySem.W.mg_of X G y_Tariff
    cl_Tariff := ⟨pg_Tariff, hd_Tariff, po_Tariff, sa_Tariff⟩
    K_Tariff := ⟨mk_Tariff, x_Tariff_init, i_Tariff_init, kc_Tariff⟩
    n_Tariff_setup_price := n_Tariff_setup_price
    n_Tariff_bands := n_Tariff_bands }
  exact ⟨_, fun s v => .of_eq rfl, fun base _ _ => ok_law T⟩
theorem walk {l : PySem.W.OpenLaw} {q : Program} {loose : List Str} {XP : (Str → Option Value) → Heap → Prop} {YP : World → Heap → Prop} {d : DefRec} {K : Params → PySem.W.Frag} (hn : l.most = some 63) (hdf : d.params.defaults = [])
    (hY : ∀ (w : World) (h : Heap), YP w h → (K w.params).In h)
    (F : ∀ (w : World) (mg : Str → Option Value) (fa : Addr) (h : Heap), (K w.params).In h → h.Ns mainGlobals mg → mg d.name = some (.ref fa) →
      ∃ fd : FuncData, (∀ (s : Shared) (u : Value), BindsTo s fd ⟨[u], []⟩ [("script", u)]) ∧ ∀ base : Heap, (K w.params).In base → base.Ns mainGlobals mg → FnOk l.prog w (K w.params) mg base CX0 6 fa fd ["script"] (SpG (K w.params) con_law0)) :
    PySem.W.WalkO q loose XP YP l.row.toRowW d [] (fun f vs => PySem.call f vs) :=
  L2.walk_ofB (n := 63) (k := 6) (x := "script") (CX := fun _ => CX0) (sp := fun w => SpG (K w.params) con_law0) hn (by decide) hdf ⟨rfl, by decide, by decide⟩ hY F (fun w H a ns hl hb _ hS => law_start hl hb hS) fun _ _ _ _ _ z => z
end Law
open PySem PySem.W PyProof.Rows
set_option maxRecDepth 100000 in
set_option maxHeartbeats 0 in
theorem PySem.Challenge.cw_copperline_k13_prices_add_up_holds : PySem.Challenge.rw_copperline_k13_prices_add_up.Holds := by
  w_on; o_law; k_head; (case hw => w_witness2)
  k_fill
  refine Law.walk (l := PySem.Challenge.rw_copperline_k13_prices_add_up) rfl rfl (fun w h Y => PySem.W.kIn_of Y) ?F
  case F =>
    intro w mg fa h KX G hmg
    refine' Law.all_mk KX G hmg ?y_Band ?y_Tariff ?x__law_state ?l__law_state ?e__law_state ?k__law_state ?x_Tariff_init ?i_Tariff_init ?l_Tariff_init ?e_Tariff_init ?k_Tariff_init ?x__law_draw ?l__law_draw ?e__law_draw ?k__law_draw ?x_Band_init ?i_Band_init ?l_Band_init ?e_Band_init ?k_Band_init ?x__law_tariff ?l__law_tariff ?e__law_tariff ?k__law_tariff ?x__law_called ?l__law_called ?e__law_called ?k__law_called ?x_Band_holds ?i_Band_holds ?l_Band_holds ?e_Band_holds ?k_Band_holds ?x_Tariff_band_at ?i_Tariff_band_at ?l_Tariff_band_at ?e_Tariff_band_at ?k_Tariff_band_at ?x_stretches ?l_stretches ?e_stretches ?k_stretches ?x_price_lines ?l_price_lines ?e_price_lines ?k_price_lines ?x__law_rows ?l__law_rows ?e__law_rows ?k__law_rows ?x__law_sum ?l__law_sum ?e__law_sum ?k__law_sum ?x__law_cuts ?l__law_cuts ?e__law_cuts ?k__law_cuts ?x_law ?l_law ?e_law ?k_law ?pg_Band ?hd_Band ?po_Band ?sa_Band ?mk_Band ?kc_Band ?n_Band_label ?n_Band_prefix ?n_Band_from_hour ?n_Band_to_hour ?n_Band_price ?pg_Tariff ?hd_Tariff ?po_Tariff ?sa_Tariff ?mk_Tariff ?kc_Tariff ?n_Tariff_setup_price ?n_Tariff_bands ?z_int ?z_len ?z_max ?z_min ?z_range ?z_str ?z_sum ?z_tuple ?g_DAY ?g_HOUR ?g_MINUTE
    (case y_Band => k_is)
    (case y_Tariff => k_is)
    (case x__law_state => k_is)
    (case l__law_state => k_is)
    (case e__law_state => k_is)
    (case k__law_state => k_is)
    (case x_Tariff_init => k_is)
    (case i_Tariff_init => k_is)
    (case l_Tariff_init => k_is)
    (case e_Tariff_init => k_is)
    (case k_Tariff_init => k_is)
    (case x__law_draw => k_is)
    (case l__law_draw => k_is)
    (case e__law_draw => k_is)
    (case k__law_draw => k_is)
    (case x_Band_init => k_is)
    (case i_Band_init => k_is)
    (case l_Band_init => k_is)
    (case e_Band_init => k_is)
    (case k_Band_init => k_is)
    (case x__law_tariff => k_is)
    (case l__law_tariff => k_is)
    (case e__law_tariff => k_is)
    (case k__law_tariff => k_is)
    (case x__law_called => k_is)
    (case l__law_called => k_is)
    (case e__law_called => k_is)
    (case k__law_called => k_is)
    (case x_Band_holds => k_is)
    (case i_Band_holds => k_is)
    (case l_Band_holds => k_is)
    (case e_Band_holds => k_is)
    (case k_Band_holds => k_is)
    (case x_Tariff_band_at => k_is)
    (case i_Tariff_band_at => k_is)
    (case l_Tariff_band_at => k_is)
    (case e_Tariff_band_at => k_is)
    (case k_Tariff_band_at => k_is)
    (case x_stretches => k_is)
    (case l_stretches => k_is)
    (case e_stretches => k_is)
    (case k_stretches => k_is)
    (case x_price_lines => k_is)
    (case l_price_lines => k_is)
    (case e_price_lines => k_is)
    (case k_price_lines => k_is)
    (case x__law_rows => k_is)
    (case l__law_rows => k_is)
    (case e__law_rows => k_is)
    (case k__law_rows => k_is)
    (case x__law_sum => k_is)
    (case l__law_sum => k_is)
    (case e__law_sum => k_is)
    (case k__law_sum => k_is)
    (case x__law_cuts => k_is)
    (case l__law_cuts => k_is)
    (case e__law_cuts => k_is)
    (case k__law_cuts => k_is)
    (case x_law => k_is)
    (case l_law => k_is)
    (case e_law => k_is)
    (case k_law => k_is)
    (case pg_Band => k_is)
    (case hd_Band => k_is)
    (case po_Band => k_is)
    (case sa_Band => k_is)
    (case mk_Band => k_is)
    (case kc_Band => k_is)
    (case n_Band_label => k_is)
    (case n_Band_prefix => k_is)
    (case n_Band_from_hour => k_is)
    (case n_Band_to_hour => k_is)
    (case n_Band_price => k_is)
    (case pg_Tariff => k_is)
    (case hd_Tariff => k_is)
    (case po_Tariff => k_is)
    (case sa_Tariff => k_is)
    (case mk_Tariff => k_is)
    (case kc_Tariff => k_is)
    (case n_Tariff_setup_price => k_is)
    (case n_Tariff_bands => k_is)
    (case z_int => k_is)
    (case z_len => k_is)
    (case z_max => k_is)
    (case z_min => k_is)
    (case z_range => k_is)
    (case z_str => k_is)
    (case z_sum => k_is)
    (case z_tuple => k_is)
    (case g_DAY => k_is)
    (case g_HOUR => k_is)
    (case g_MINUTE => k_is)
