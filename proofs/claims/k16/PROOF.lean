import PyProof.Rows.All
import Wide.All
import OpenK.AllK
import Wide.FinOn
import HandS.CallSlots
import HandS.Conv
import HandS.Deep
import HandS.EndBits
import HandS.Exc
import HandS.ExcField
import HandS.ExcInit
import HandS.ExcOwn
import HandS.FStr
import HandS.Flow
import HandS.ForMost
import HandS.NoneIn
import HandS.RevRange
import HandS.SortKw
import HandS.Strs
import HandS.TryOnly
import HandS.TupAny
import HandS.Walk
import HandS.Wide
import HandS.WordsExc
import KE.KExcSuper
import PySem.Challenge.RW_copperline_k16_histories_that_say_the_sa
set_option Elab.async false
set_option linter.all false
set_option maxRecDepth 100000
set_option maxHeartbeats 4000000
/-! The symbolic layer: data trees and owned cells over the hand layer's readings. -/
namespace Sy
open PySem L2

/-- data: a tree that nobody changes; ptr: the address of an owned cell -/
inductive Dat where
  | non | bl (b : Bool) | int (i : Int) | str (x : Str)
  | tup (ds : List Dat) | lst (ds : List Dat) | scr (ds : List Dat)
  | obj (C : Addr) (ns : List Str) (ds : List Dat)
  | dic (ks : List Key) (ds : List Dat)
  | ptr (a : Addr)

mutual
inductive Da (K : PySem.W.Frag) (H : Hp) : V → Dat → Prop
  | non : Da K H .non .non
  | bl (b : Bool) : Da K H (.bl b) (.bl b)
  | int (i : Int) : Da K H (.int i) (.int i)
  | str (x : Str) : Da K H (.str x) (.str x)
  | tup {a : Addr} {xs : List V} {ds : List Dat} : H a = some (.tup xs) → DaL K H xs ds → Da K H (.ref a) (.tup ds)
  | lst {a : Addr} {xs : List V} {ds : List Dat} : H a = some (.lst xs) → DaL K H xs ds → Da K H (.ref a) (.lst ds)
  | scr {a : Addr} {xs : List V} {ds : List Dat} : SqL K H a xs → DaL K H xs ds → Da K H (.ref a) (.scr ds)
  | obj {a C dx : Addr} {gs : List (Str × V)} {ns : List Str} {ds : List Dat} : H a = some (.ins C dx gs) → gs.map (·.1) = ns → DaL K H (gs.map (·.2)) ds → Da K H (.ref a) (.obj C ns ds)
  | dic {a : Addr} {kvs : List (Key × V)} {ks : List Key} {ds : List Dat} : Rd H a (.dK kvs) → kvs.map (·.1) = ks → DaL K H (kvs.map (·.2)) ds → Da K H (.ref a) (.dic ks ds)
  | ptr (a : Addr) : Da K H (.ref a) (.ptr a)
inductive DaL (K : PySem.W.Frag) (H : Hp) : List V → List Dat → Prop
  | nil : DaL K H [] []
  | cons {v : V} {d : Dat} {vs : List V} {ds : List Dat} : Da K H v d → DaL K H vs ds → DaL K H (v :: vs) (d :: ds)
end

theorem sq_l {K : PySem.W.Frag} {H H' : Hp} {a : Addr} {xs : List V} (e : Same H H') (h : SqL K H a xs) : SqL K H' a xs := e.seq h
theorem tq {K : PySem.W.Frag} {H H' : Hp} {a : Addr} {xs : List V} (e : Same H H') (h : H a = some (.tup xs)) : SqT K H' a xs := .inl (.inl (e _ _ h))
theorem sq_t {K : PySem.W.Frag} {H H' : Hp} {a : Addr} {xs : List V} (e : Same H H') (h : SqT K H a xs) : SqT K H' a xs := by
  rcases h with (h | ⟨o, h⟩) | h
  · exact .inl (.inl (e _ _ h))
  · exact .inl (.inr ⟨o, e _ _ h⟩)
  · exact .inr h
theorem sq_rd {H H' : Hp} {a : Addr} {u : HO} (e : Same H H') (h : Rd H a u) : Rd H' a u := by
  rcases h with h | ⟨o, h⟩
  · exact .inl (e _ _ h)
  · exact .inr ⟨o, e _ _ h⟩
mutual
theorem Da.mono {K : PySem.W.Frag} {H H' : Hp} (e : Same H H') : ∀ {v : V} {d : Dat}, Da K H v d → Da K H' v d
  | _, _, .non => .non
  | _, _, .bl b => .bl b
  | _, _, .int i => .int i
  | _, _, .str x => .str x
  | _, _, .tup h l => .tup (e _ _ h) (DaL.mono e l)
  | _, _, .lst h l => .lst (e _ _ h) (DaL.mono e l)
  | _, _, .scr h l => .scr (sq_l e h) (DaL.mono e l)
  | _, _, .obj h n l => .obj (e _ _ h) n (DaL.mono e l)
  | _, _, .dic h n l => .dic (sq_rd e h) n (DaL.mono e l)
  | _, _, .ptr a => .ptr a
theorem DaL.mono {K : PySem.W.Frag} {H H' : Hp} (e : Same H H') : ∀ {vs : List V} {ds : List Dat}, DaL K H vs ds → DaL K H' vs ds
  | _, _, .nil => .nil
  | _, _, .cons h t => .cons (Da.mono e h) (DaL.mono e t)
end
section
variable {K : PySem.W.Frag} {H : Hp}
theorem DaL.length : ∀ {vs : List V} {ds : List Dat}, DaL K H vs ds → vs.length = ds.length
  | _, _, .nil => rfl
  | _, _, .cons _ t => by rw [List.length_cons, List.length_cons, DaL.length t]
theorem DaL.get : ∀ {vs : List V} {ds : List Dat} {i : Nat} {d : Dat}, DaL K H vs ds → ds[i]? = some d → ∃ v, vs[i]? = some v ∧ Da K H v d
  | _, _, _, _, .nil, e => by simp at e
  | _, _, 0, _, .cons h _, e => by simp at e; subst e; exact ⟨_, rfl, h⟩
  | _, _, i + 1, d, .cons _ t, e => by
    obtain ⟨v, e1, h⟩ := DaL.get (i := i) (d := d) t (by simpa using e)
    exact ⟨v, by simpa using e1, h⟩
theorem DaL.getV : ∀ {vs : List V} {ds : List Dat} {i : Nat} {v : V}, DaL K H vs ds → vs[i]? = some v → ∃ d, ds[i]? = some d ∧ Da K H v d
  | _, _, _, _, .nil, e => by simp at e
  | _, _, 0, _, .cons h _, e => by simp at e; subst e; exact ⟨_, rfl, h⟩
  | _, _, i + 1, d, .cons _ t, e => by
    obtain ⟨v, e1, h⟩ := DaL.getV (i := i) (v := d) t (by simpa using e)
    exact ⟨v, by simpa using e1, h⟩
theorem DaL.append : ∀ {vs us : List V} {ds es : List Dat}, DaL K H vs ds → DaL K H us es → DaL K H (vs ++ us) (ds ++ es)
  | _, _, _, _, .nil, h => h
  | _, _, _, _, .cons h t, g => .cons h (DaL.append t g)
theorem DaL.take : ∀ {vs : List V} {ds : List Dat} (n : Nat), DaL K H vs ds → DaL K H (vs.take n) (ds.take n)
  | _, _, 0, _ => .nil
  | _, _, _ + 1, .nil => .nil
  | _, _, n + 1, .cons h t => .cons h (DaL.take n t)
theorem DaL.drop : ∀ {vs : List V} {ds : List Dat} (n : Nat), DaL K H vs ds → DaL K H (vs.drop n) (ds.drop n)
  | _, _, 0, h => h
  | _, _, _ + 1, .nil => .nil
  | _, _, n + 1, .cons _ t => DaL.drop n t
theorem DaL.set {v : V} {d : Dat} (h : Da K H v d) : ∀ {vs : List V} {ds : List Dat} (i : Nat), DaL K H vs ds → DaL K H (vs.set i v) (ds.set i d)
  | _, _, _, .nil => .nil
  | _, _, 0, .cons _ t => .cons h t
  | _, _, i + 1, .cons q t => .cons q (DaL.set h i t)
theorem DaL.reverse {vs : List V} {ds : List Dat} (h : DaL K H vs ds) : DaL K H vs.reverse ds.reverse := by
  induction vs generalizing ds with
  | nil => cases h; exact .nil
  | cons v vs ih =>
    cases h with
    | cons a b =>
      rw [List.reverse_cons, List.reverse_cons]
      exact (ih b).append (.cons a .nil)
theorem DaL.ints : ∀ {vs : List V} {ns : List Int}, DaL K H vs (ns.map Dat.int) → vs = ns.map V.int
  | [], [], _ => rfl
  | [], _ :: _, h => by cases h
  | _ :: _, [], h => by cases h
  | _ :: _, n :: ns, .cons a b => by cases a; rw [DaL.ints b]; rfl
theorem DaL.strs : ∀ {vs : List V} {ns : List Str}, DaL K H vs (ns.map Dat.str) → vs = ns.map V.str
  | [], [], _ => rfl
  | [], _ :: _, h => by cases h
  | _ :: _, [], h => by cases h
  | _ :: _, n :: ns, .cons a b => by cases a; rw [DaL.strs b]; rfl
theorem DaL.bools : ∀ {vs : List V} {ns : List Bool}, DaL K H vs (ns.map Dat.bl) → vs = ns.map V.bl
  | [], [], _ => rfl
  | [], _ :: _, h => by cases h
  | _ :: _, [], h => by cases h
  | _ :: _, n :: ns, .cons a b => by cases a; rw [DaL.bools b]; rfl
theorem daL_ints : ∀ (ns : List Int), DaL K H (ns.map V.int) (ns.map Dat.int)
  | [] => .nil
  | n :: ns => .cons (.int n) (daL_ints ns)
end

/-! ### owned cells -/
/-- the numbers of the laws' drawing: what the two items of its state may be -/
def rB : Nat := 1048700
def RngOk (x y : Int) : Prop := 0 ≤ x ∧ x.natAbs < 2 ^ rB ∧ 0 ≤ y ∧ y.natAbs < 2 ^ rB

/-- the place of a name -/
def fidx : List Str → Str → Option Nat
  | [], _ => none
  | n :: ns, f => if n = f then some 0 else (fidx ns f).map (· + 1)

inductive Cell where
  | lst (ds : List Dat)
  | dK (ks : List Key) (ds : List Dat)
  | dT (ks : List (List Key)) (ds : List Dat)
  | ins (C : Addr) (ns : List Str) (ds : List Dat)
  | xd (ns : List Str) (ds : List Dat)
  | rng
abbrev Own := List (Addr × Cell)
abbrev SL := List (Option Dat)

/-- what is seen: neither the frame (F: hidden, kept as it is) nor the owned cells -/
def vis (F : Hp) (own : Own) (H : Hp) : Hp := fun b => if (F b).isSome = true ∨ b ∈ own.map (·.1) then none else H b

inductive CellOk (K : PySem.W.Frag) (W H : Hp) (a : Addr) : Cell → Prop
  | lst {vs : List V} {ds : List Dat} : H a = some (.lst vs) → DaL K W vs ds → CellOk K W H a (.lst ds)
  | dK {kws : List (Key × V)} {ks : List Key} {ds : List Dat} : H a = some (.dK kws) → kws.map (·.1) = ks → ks.Nodup → DaL K W (kws.map (·.2)) ds → CellOk K W H a (.dK ks ds)
  | dT {kws : List (List Key × V)} {ks : List (List Key)} {ds : List Dat} : H a = some (.dT kws) → kws.map (·.1) = ks → ks.Nodup → DaL K W (kws.map (·.2)) ds → CellOk K W H a (.dT ks ds)
  | ins {C dx : Addr} {gs : List (Str × V)} {ns : List Str} {ds : List Dat} : H a = some (.ins C dx gs) → gs.map (·.1) = ns → DaL K W (gs.map (·.2)) ds → CellOk K W H a (.ins C ns ds)
  | xd {gs : List (Str × V)} {ns : List Str} {ds : List Dat} : H a = some (.xd gs) → gs.map (·.1) = ns → DaL K W (gs.map (·.2)) ds → CellOk K W H a (.xd ns ds)
  | rng {x y : Int} : H a = some (.lst [.int x, .int y]) → RngOk x y → CellOk K W H a .rng

section
variable {K : PySem.W.Frag} {F W W' V0 H H' : Hp} {a : Addr} {c c' : Cell} {own l r : Own}
theorem CellOk.there (h : CellOk K W H a c) : ∃ o, H a = some o := by cases h <;> exact ⟨_, by assumption⟩
theorem CellOk.stay (h : CellOk K W H a c) (e : Same W W') (q : H' a = H a) : CellOk K W' H' a c := by
  cases h with
  | lst h t => exact .lst (q.trans h) (t.mono e)
  | dK h n u t => exact .dK (q.trans h) n u (t.mono e)
  | dT h n u t => exact .dT (q.trans h) n u (t.mono e)
  | ins h n t => exact .ins (q.trans h) n (t.mono e)
  | xd h n t => exact .xd (q.trans h) n (t.mono e)
  | rng h z => exact .rng (q.trans h) z
structure HsC (K : PySem.W.Frag) (F V0 H : Hp) (own : Own) : Prop where
  nd : (own.map (·.1)).Nodup
  cell : ∀ p ∈ own, CellOk K (vis F own H) H p.1 p.2
  mo : Same V0 (vis F own H)
  fr : Same F H
  out : ∀ p ∈ own, F p.1 = none
theorem vis_sub : Same (vis F own H) H := fun b o e => by
  unfold vis at e
  split at e
  · cases e
  · exact e
theorem HsC.thr (h : HsC K F V0 H own) (ha : a ∈ own.map (·.1)) : ∃ o, H a = some o := by
  obtain ⟨p, hp, rfl⟩ := List.mem_map.mp ha
  exact (h.cell p hp).there
theorem fresh_ownC (hs : HsC K F V0 H own) (hp : H a = none) : a ∉ own.map (·.1) := fun z => by obtain ⟨u, hu⟩ := hs.thr z; rw [hp] at hu; cases hu
theorem fresh_frC (hs : HsC K F V0 H own) (hp : H a = none) : F a = none := hs.fr.free hp
theorem vis_growC (h : HsC K F V0 H own) (e : Same H H') : Same (vis F own H) (vis F own H') := fun b o q => by
  unfold vis at q ⊢
  by_cases hb : (F b).isSome = true ∨ b ∈ own.map (·.1)
  · rw [if_pos hb] at q; cases q
  · rw [if_neg hb] at q ⊢; exact e _ _ q
/-- a new object that stays as it is, seen -/
theorem vis_atC {o : HO} (hs : HsC K F V0 H own) (hp : H a = none) : vis F own (upd H a o) a = some o := by
  unfold vis
  rw [if_neg, upd_same]
  rintro (z | z)
  · rw [fresh_frC hs hp] at z; cases z
  · exact fresh_ownC hs hp z
/-- what was tracked stands as it was -/
theorem HsC.grow (h : HsC K F V0 H own) (e : Same H H') : HsC K F V0 H' own := by
  have g := vis_growC h e
  refine ⟨h.nd, fun p hp => ?_, h.mo.trans g, h.fr.trans e, h.out⟩
  have c := h.cell p hp
  obtain ⟨o, ho⟩ := c.there
  exact c.stay g ((e _ _ ho).trans ho.symm)
theorem HsC.from (h : HsC K F V0 H own) {V1 : Hp} (e : Same V1 V0) : HsC K F V1 H own := ⟨h.nd, h.cell, e.trans h.mo, h.fr, h.out⟩
theorem HsC.now (h : HsC K F V0 H own) : HsC K F (vis F own H) H own := ⟨h.nd, h.cell, Same.refl _, h.fr, h.out⟩
/-- a new owned cell -/
theorem vis_newC {o : HO} (hs : HsC K F V0 H own) (hn : H a = none) : vis F ((a, c) :: own) (upd H a o) = vis F own H := by
  funext b
  unfold vis
  rw [List.map_cons]
  by_cases hb : b = a
  · subst hb
    rw [if_pos (.inr List.mem_cons_self), if_neg]
    · exact hn.symm
    · rintro (z | z)
      · rw [fresh_frC hs hn] at z; cases z
      · exact fresh_ownC hs hn z
  · have e : (b ∈ (a, c).1 :: own.map (·.1)) ↔ b ∈ own.map (·.1) := by
      rw [List.mem_cons]
      exact ⟨fun z => z.elim (fun q => absurd q hb) id, .inr⟩
    by_cases hm : (F b).isSome = true ∨ b ∈ own.map (·.1)
    · rw [if_pos hm, if_pos (hm.imp id e.mpr)]
    · rw [if_neg hm, if_neg (fun z => hm (z.imp id e.mp)), upd_ne hb]
theorem HsC.new {o : HO} (h : HsC K F V0 H own) (hn : H a = none) (hc : CellOk K (vis F own H) (upd H a o) a c) : HsC K F V0 (upd H a o) ((a, c) :: own) := by
  have hna := fresh_ownC h hn
  refine ⟨List.nodup_cons.mpr ⟨hna, h.nd⟩, fun p hp => ?_, ?_, h.fr.trans (fun b u e => by rw [upd_ne (ne_of_none e hn)]; exact e), fun p hp => ?_⟩
  · rw [vis_newC h hn]
    rcases List.mem_cons.mp hp with rfl | hp
    · exact hc
    · refine (h.cell p hp).stay (Same.refl _) (upd_ne fun z => hna ?_)
      rw [← z]
      exact List.mem_map.mpr ⟨p, hp, rfl⟩
  · rw [vis_newC h hn]; exact h.mo
  · rcases List.mem_cons.mp hp with rfl | hp
    · exact fresh_frC h hn
    · exact h.out p hp
/-- an owned cell is written -/
theorem vis_put {o : HO} : vis F (l ++ (a, c') :: r) (upd H a o) = vis F (l ++ (a, c) :: r) H := by
  funext b
  unfold vis
  have e : (l ++ (a, c') :: r).map (·.1) = (l ++ (a, c) :: r).map (·.1) := by simp
  rw [e]
  split
  · rfl
  · next h => rw [upd_ne fun z => h (.inr (by subst z; simp))]
theorem HsC.put {o : HO} (h : HsC K F V0 H (l ++ (a, c) :: r)) (hc : CellOk K (vis F (l ++ (a, c) :: r) H) (upd H a o) a c') : HsC K F V0 (upd H a o) (l ++ (a, c') :: r) := by
  have nd := h.nd
  rw [List.map_append, List.map_cons, List.nodup_append] at nd
  obtain ⟨n1, n2, n3⟩ := nd
  obtain ⟨n4, n5⟩ := List.nodup_cons.mp n2
  have mid : (a, c) ∈ l ++ (a, c) :: r := List.mem_append_right _ List.mem_cons_self
  refine ⟨?_, fun p hp => ?_, ?_, fun b u e => ?_, fun p hp => ?_⟩
  · have e : (l ++ (a, c') :: r).map (·.1) = (l ++ (a, c) :: r).map (·.1) := by simp
    rw [e]; exact h.nd
  · rw [vis_put (c := c)]
    rcases List.mem_append.mp hp with hp | hp
    · exact (h.cell p (List.mem_append_left _ hp)).stay (Same.refl _) (upd_ne (n3 _ (List.mem_map.mpr ⟨p, hp, rfl⟩) _ List.mem_cons_self))
    · rcases List.mem_cons.mp hp with rfl | hp
      · exact hc
      · exact (h.cell p (List.mem_append_right _ (List.mem_cons_of_mem _ hp))).stay (Same.refl _) (upd_ne fun z => n4 (by rw [← z]; exact List.mem_map.mpr ⟨p, hp, rfl⟩))
  · rw [vis_put (c := c)]; exact h.mo
  · rw [upd_ne fun z => ?_]
    · exact h.fr b u e
    · have q := h.out _ mid
      rw [z] at e
      rw [q] at e; cases e
  · rcases List.mem_append.mp hp with hp | hp
    · exact h.out p (List.mem_append_left _ hp)
    · rcases List.mem_cons.mp hp with rfl | hp
      · show F a = none
        exact h.out (a, c) mid
      · exact h.out p (List.mem_append_right _ (List.mem_cons_of_mem _ hp))
/-- what a cell's description says may be told otherwise -/
theorem HsC.retell (h : HsC K F V0 H (l ++ (a, c) :: r)) (hc : ∀ W, CellOk K W H a c → CellOk K W H a c') : HsC K F V0 H (l ++ (a, c') :: r) := by
  have q := h.put (o := (h.cell _ (List.mem_append_right _ List.mem_cons_self)).there.choose) (c' := c') (by
    have s := (h.cell _ (List.mem_append_right _ List.mem_cons_self)).there.choose_spec
    refine (hc _ (h.cell _ (List.mem_append_right _ List.mem_cons_self))).stay (Same.refl _) ?_
    rw [upd_same]; exact s.symm)
  have s := (h.cell _ (List.mem_append_right _ List.mem_cons_self)).there.choose_spec
  rwa [show upd H a (h.cell _ (List.mem_append_right _ List.mem_cons_self)).there.choose = H from by
    funext b
    unfold upd
    split
    · next e => rw [e]; exact s.symm
    · rfl] at q
theorem vis_retell : vis F (l ++ (a, c') :: r) H = vis F (l ++ (a, c) :: r) H := by
  funext b
  unfold vis
  have e : (l ++ (a, c') :: r).map (·.1) = (l ++ (a, c) :: r).map (·.1) := by simp
  rw [e]
/-- a cell is owned no more -/
theorem vis_drop : Same (vis F (l ++ (a, c) :: r) H) (vis F (l ++ r) H) := fun b o e => by
  unfold vis at e ⊢
  split at e
  · cases e
  · next hm =>
    rw [if_neg fun z => hm ?_]
    · exact e
    · refine z.imp id fun z => ?_
      rw [List.map_append, List.mem_append] at z ⊢
      exact z.imp id fun q => List.mem_cons_of_mem _ q
theorem HsC.drop (h : HsC K F V0 H (l ++ (a, c) :: r)) : HsC K F V0 H (l ++ r) := by
  have nd := h.nd
  rw [List.map_append, List.map_cons, List.nodup_append] at nd
  obtain ⟨n1, n2, n3⟩ := nd
  obtain ⟨n4, n5⟩ := List.nodup_cons.mp n2
  have sub : ∀ p, p ∈ l ++ r → p ∈ l ++ (a, c) :: r := fun p hp => by
    rcases List.mem_append.mp hp with hp | hp
    · exact List.mem_append_left _ hp
    · exact List.mem_append_right _ (List.mem_cons_of_mem _ hp)
  refine ⟨?_, fun p hp => (h.cell p (sub p hp)).stay vis_drop rfl, h.mo.trans vis_drop, h.fr, fun p hp => h.out p (sub p hp)⟩
  rw [List.map_append, List.nodup_append]
  exact ⟨n1, n5, fun x hx y hy => n3 x hx y (List.mem_cons_of_mem _ hy)⟩
theorem HsC.drop_vis (h : HsC K F V0 H (l ++ (a, c) :: r)) : vis F (l ++ r) H a = H a := by
  have nd := h.nd
  rw [List.map_append, List.map_cons, List.nodup_append] at nd
  obtain ⟨n1, n2, n3⟩ := nd
  unfold vis
  rw [if_neg]
  rintro (z | z)
  · have q := h.out _ (List.mem_append_right l (List.mem_cons_self (a := (a, c)) (l := r)))
    rw [q] at z; cases z
  · rw [List.map_append, List.mem_append] at z
    rcases z with z | z
    · exact n3 _ z _ List.mem_cons_self rfl
    · exact (List.nodup_cons.mp n2).1 z
/-- a cell goes into the frame, and comes back -/
theorem vis_frame {o : HO} : vis (upd F a o) own H = vis F ((a, c) :: own) H := by
  funext b
  unfold vis
  rw [List.map_cons]
  by_cases hb : b = a
  · subst hb
    rw [if_pos (.inl (by rw [upd_same]; rfl)), if_pos (.inr List.mem_cons_self)]
  · rw [upd_ne hb]
    have e : (b ∈ (a, c).1 :: own.map (·.1)) ↔ b ∈ own.map (·.1) := by
      rw [List.mem_cons]
      exact ⟨fun z => z.elim (fun q => absurd q hb) id, .inr⟩
    by_cases hm : (F b).isSome = true ∨ b ∈ own.map (·.1)
    · rw [if_pos hm, if_pos (hm.imp id e.mpr)]
    · rw [if_neg hm, if_neg fun z => hm (z.imp id e.mp)]
theorem HsC.hide {o : HO} (h : HsC K F V0 H ((a, c) :: own)) (ho : H a = some o) : HsC K (upd F a o) V0 H own := by
  obtain ⟨n1, n2⟩ := List.nodup_cons.mp h.nd
  refine ⟨n2, fun p hp => ?_, ?_, fun b u e => ?_, fun p hp => ?_⟩
  · rw [vis_frame (c := c)]; exact h.cell p (List.mem_cons_of_mem _ hp)
  · rw [vis_frame (c := c)]; exact h.mo
  · by_cases hb : b = a
    · subst hb; rw [upd_same] at e; cases e; exact ho
    · rw [upd_ne hb] at e; exact h.fr b u e
  · rw [upd_ne fun z => n1 (by rw [← z]; exact List.mem_map.mpr ⟨p, hp, rfl⟩)]; exact h.out p (List.mem_cons_of_mem _ hp)
theorem HsC.back {o : HO} (h : HsC K (upd F a o) V0 H own) (hf : F a = none) (hc : CellOk K (vis (upd F a o) own H) H a c) : HsC K F V0 H ((a, c) :: own) := by
  have n1 : a ∉ own.map (·.1) := fun z => by
    obtain ⟨p, hp, rfl⟩ := List.mem_map.mp z
    have q := h.out p hp
    rw [upd_same] at q; cases q
  rw [vis_frame (c := c)] at hc
  refine ⟨List.nodup_cons.mpr ⟨n1, h.nd⟩, fun p hp => ?_, by rw [← vis_frame (o := o)]; exact h.mo, fun b u e => h.fr b u ?_, fun p hp => ?_⟩
  · rcases List.mem_cons.mp hp with rfl | hp
    · exact hc
    · rw [← vis_frame (o := o)]; exact h.cell p hp
  · rw [upd_ne (ne_of_none e hf)]; exact e
  · rcases List.mem_cons.mp hp with rfl | hp
    · exact hf
    · have q := h.out p hp
      rwa [upd_ne fun z => n1 (by rw [← z]; exact List.mem_map.mpr ⟨p, hp, rfl⟩)] at q
end

/-! ### slots -/
def Sl (K : PySem.W.Frag) (W : Hp) (σ : L2.St) (sl : SL) : Prop := σ.length = sl.length ∧ ∀ (i : Nat) (d : Dat), sl[i]? = some (some d) → ∃ v, σ[i]? = some (some v) ∧ Da K W v d
section
variable {K : PySem.W.Frag} {W W' : Hp} {σ : L2.St} {sl : SL} {v : V} {d : Dat}
theorem Sl.mono (h : Sl K W σ sl) (e : Same W W') : Sl K W' σ sl := ⟨h.1, fun i d q => let ⟨v, a, b⟩ := h.2 i d q; ⟨v, a, b.mono e⟩⟩
theorem Sl.set (h : Sl K W σ sl) (i : Nat) (hd : Da K W v d) : Sl K W (σ.set i (some v)) (sl.set i (some d)) := by
  refine ⟨by rw [List.length_set, List.length_set, h.1], fun j e q => ?_⟩
  by_cases hj : i = j
  · subst hj
    by_cases hl : i < sl.length
    · rw [List.getElem?_set_self hl] at q
      cases q
      exact ⟨v, by rw [List.getElem?_set_self (by rw [h.1]; exact hl)], hd⟩
    · rw [List.getElem?_eq_none (by rw [List.length_set]; omega)] at q; cases q
  · rw [List.getElem?_set_ne hj] at q ⊢
    exact h.2 j e q
theorem Sl.unset (h : Sl K W σ sl) (i : Nat) (u : Option V) : Sl K W (σ.set i u) (sl.set i none) := by
  refine ⟨by rw [List.length_set, List.length_set, h.1], fun j e q => ?_⟩
  by_cases hj : i = j
  · subst hj
    by_cases hl : i < sl.length
    · rw [List.getElem?_set_self hl] at q; cases q
    · rw [List.getElem?_eq_none (by rw [List.length_set]; omega)] at q; cases q
  · rw [List.getElem?_set_ne hj] at q ⊢
    exact h.2 j e q
end

/-! ### states with what is wished of exceptions -/
structure KX where
  K : PySem.W.Frag
  w : Value → Option Addr → L2.St → Hp → Prop
  xp : Value → Option Addr → SL → Own → Prop
instance : Coe KX PySem.W.Frag := ⟨KX.K⟩
def XOk (K : KX) (F V0 : Hp) : Prop := ∀ (c : Value) (dx : Option Addr) (σ : L2.St) (sl : SL) (H : Hp) (own : Own), HsC K.K F V0 H own → Sl K.K (vis F own H) σ sl → K.xp c dx sl own → K.w c dx σ H
structure Hs (K : KX) (F V0 H : Hp) (own : Own) : Prop where
  c : HsC K.K F V0 H own
  x : XOk K F V0
section
variable {K : KX} {F W W' V0 V1 H H' : Hp} {a : Addr} {c c' : Cell} {own l r : Own}
theorem Hs.cell (h : Hs K F V0 H own) : ∀ p ∈ own, CellOk K.K (vis F own H) H p.1 p.2 := h.c.cell
theorem Hs.mo (h : Hs K F V0 H own) : Same V0 (vis F own H) := h.c.mo
theorem Hs.fr (h : Hs K F V0 H own) : Same F H := h.c.fr
theorem Hs.nd (h : Hs K F V0 H own) : (own.map (·.1)).Nodup := h.c.nd
theorem Hs.out (h : Hs K F V0 H own) : ∀ p ∈ own, F p.1 = none := h.c.out
theorem Hs.thr (h : Hs K F V0 H own) (ha : a ∈ own.map (·.1)) : ∃ o, H a = some o := h.c.thr ha
theorem fresh_own (hs : Hs K F V0 H own) (hp : H a = none) : a ∉ own.map (·.1) := fresh_ownC hs.c hp
theorem fresh_fr (hs : Hs K F V0 H own) (hp : H a = none) : F a = none := fresh_frC hs.c hp
theorem vis_grow (h : Hs K F V0 H own) (e : Same H H') : Same (vis F own H) (vis F own H') := vis_growC h.c e
theorem vis_at {o : HO} (hs : Hs K F V0 H own) (hp : H a = none) : vis F own (upd H a o) a = some o := vis_atC hs.c hp
theorem Hs.grow (h : Hs K F V0 H own) (e : Same H H') : Hs K F V0 H' own := ⟨h.c.grow e, h.x⟩
theorem XOk.on (x : XOk K F V0) (e : Same V0 V1) : XOk K F V1 := fun c dx σ sl H own h l p => x c dx σ sl H own (h.from e) l p
/-- back to a ground that stood before -/
theorem Hs.from (h : Hs K F V1 H own) (g : Hs K F V0 W l) (e : Same V0 V1) : Hs K F V0 H own := ⟨h.c.from e, g.x⟩
theorem Hs.now (h : Hs K F V0 H own) : Hs K F (vis F own H) H own := ⟨h.c.now, h.x.on h.c.mo⟩
theorem vis_new {o : HO} (hs : Hs K F V0 H own) (hn : H a = none) : vis F ((a, c) :: own) (upd H a o) = vis F own H := vis_newC hs.c hn
theorem Hs.new {o : HO} (h : Hs K F V0 H own) (hn : H a = none) (hc : CellOk K.K (vis F own H) (upd H a o) a c) : Hs K F V0 (upd H a o) ((a, c) :: own) := ⟨h.c.new hn hc, h.x⟩
theorem Hs.put {o : HO} (h : Hs K F V0 H (l ++ (a, c) :: r)) (hc : CellOk K.K (vis F (l ++ (a, c) :: r) H) (upd H a o) a c') : Hs K F V0 (upd H a o) (l ++ (a, c') :: r) := ⟨h.c.put hc, h.x⟩
theorem Hs.retell (h : Hs K F V0 H (l ++ (a, c) :: r)) (hc : ∀ W, CellOk K.K W H a c → CellOk K.K W H a c') : Hs K F V0 H (l ++ (a, c') :: r) := ⟨h.c.retell hc, h.x⟩
theorem Hs.drop (h : Hs K F V0 H (l ++ (a, c) :: r)) : Hs K F V0 H (l ++ r) := ⟨h.c.drop, h.x⟩
theorem Hs.drop_vis (h : Hs K F V0 H (l ++ (a, c) :: r)) : vis F (l ++ r) H a = H a := h.c.drop_vis
/-- a hidden object is hidden no more -/
theorem HsC.bare {K : PySem.W.Frag} {o : HO} (h : HsC K (upd F a o) V0 H own) (hf : F a = none) : HsC K F V0 H own ∧ Same (vis (upd F a o) own H) (vis F own H) := by
  have sub : Same (vis (upd F a o) own H) (vis F own H) := fun b u e => by
    unfold vis at e ⊢
    split at e
    · cases e
    · next hm =>
      have hm2 : ¬ ((F b).isSome = true ∨ b ∈ own.map (·.1)) := fun z => hm (z.imp (fun q => by
        by_cases hb : b = a
        · subst hb; rw [upd_same]; rfl
        · rw [upd_ne hb]; exact q) id)
      rw [if_neg hm2]; exact e
  refine ⟨⟨h.nd, fun p hp => (h.cell p hp).stay sub rfl, h.mo.trans sub, fun b u e => h.fr b u (by rw [upd_ne (ne_of_none e hf)]; exact e), fun p hp => ?_⟩, sub⟩
  have q := h.out p hp
  by_cases hb : p.1 = a
  · rw [hb, upd_same] at q; cases q
  · rwa [upd_ne hb] at q
theorem XOk.hide {o : HO} (x : XOk K F V0) (hf : F a = none) : XOk K (upd F a o) V0 := fun c dx σ sl H own h l p =>
  let ⟨h1, e⟩ := h.bare hf
  x c dx σ sl H own h1 (l.mono e) p
theorem Hs.hide {o : HO} (h : Hs K F V0 H ((a, c) :: own)) (ho : H a = some o) : Hs K (upd F a o) V0 H own := ⟨h.c.hide ho, h.x.hide (h.c.out (a, c) List.mem_cons_self)⟩
theorem Hs.back {o : HO} (h : Hs K (upd F a o) V0 H own) (x : XOk K F V0) (hf : F a = none) (hc : CellOk K.K (vis (upd F a o) own H) H a c) : Hs K F V0 H ((a, c) :: own) := ⟨h.c.back hf hc, x⟩
end
/-! ### what an expression does, over data -/
abbrev PD := Dat → Own → Prop
def EX (K : KX) (te : TE) (sl : SL) (own : Own) (P : PD) : Prop := ∀ (F V0 : Hp) (σ : L2.St) (H : Hp), Hs K F V0 H own → Sl K (vis F own H) σ sl →
  ∀ Q : VK, (∀ v H' d own', Hs K F V0 H' own' → Same (vis F own H) (vis F own' H') → Da K (vis F own' H') v d → P d own' → Q v H') → te σ H Q
def TX (K : KX) (tt : TT) (sl : SL) (own : Own) (P : Bool → Own → Prop) : Prop := ∀ (F V0 : Hp) (σ : L2.St) (H : Hp), Hs K F V0 H own → Sl K (vis F own H) σ sl →
  ∀ Q : Bool → Hp → Prop, (∀ b H' own', Hs K F V0 H' own' → Same (vis F own H) (vis F own' H') → P b own' → Q b H') → tt σ H Q
def AX (K : KX) (ta : TA) (sl : SL) (own : Own) (P : List Dat → Own → Prop) : Prop := ∀ (F V0 : Hp) (σ : L2.St) (H : Hp), Hs K F V0 H own → Sl K (vis F own H) σ sl →
  ∀ Q : List V → Hp → Prop, (∀ vs H' ds own', Hs K F V0 H' own' → Same (vis F own H) (vis F own' H') → DaL K (vis F own' H') vs ds → P ds own' → Q vs H') → ta σ H Q
def OX (K : KX) (to : TO) (sl : SL) (own : Own) (P : Option Int → Own → Prop) : Prop := ∀ (F V0 : Hp) (σ : L2.St) (H : Hp), Hs K F V0 H own → Sl K (vis F own H) σ sl →
  ∀ Q : Option Int → Hp → Prop, (∀ o H' own', Hs K F V0 H' own' → Same (vis F own H) (vis F own' H') → P o own' → Q o H') → to σ H Q
/-- two values, one value, a list of values -/
def R2X (K : KX) (r : R2) (d e : Dat) (own : Own) (P : PD) : Prop := ∀ (F V0 H : Hp) (x y : V), Hs K F V0 H own → Da K (vis F own H) x d → Da K (vis F own H) y e →
  ∀ Q : VK, (∀ v H' d own', Hs K F V0 H' own' → Same (vis F own H) (vis F own' H') → Da K (vis F own' H') v d → P d own' → Q v H') → r x y H Q
def R1X (K : KX) (r : V → Hp → VK → Prop) (d : Dat) (own : Own) (P : PD) : Prop := ∀ (F V0 H : Hp) (x : V), Hs K F V0 H own → Da K (vis F own H) x d →
  ∀ Q : VK, (∀ v H' d own', Hs K F V0 H' own' → Same (vis F own H) (vis F own' H') → Da K (vis F own' H') v d → P d own' → Q v H') → r x H Q
def RLX (K : KX) (r : List V → Hp → VK → Prop) (ds : List Dat) (own : Own) (P : PD) : Prop := ∀ (F V0 H : Hp) (xs : List V), Hs K F V0 H own → DaL K (vis F own H) xs ds →
  ∀ Q : VK, (∀ v H' d own', Hs K F V0 H' own' → Same (vis F own H) (vis F own' H') → Da K (vis F own' H') v d → P d own' → Q v H') → r xs H Q
def RMX (K : KX) (r : V → List V → Hp → VK → Prop) (d : Dat) (ds : List Dat) (own : Own) (P : PD) : Prop := ∀ (F V0 H : Hp) (x : V) (xs : List V), Hs K F V0 H own → Da K (vis F own H) x d → DaL K (vis F own H) xs ds →
  ∀ Q : VK, (∀ v H' d own', Hs K F V0 H' own' → Same (vis F own H) (vis F own' H') → Da K (vis F own' H') v d → P d own' → Q v H') → r x xs H Q

section
variable {K : KX} {sl : SL} {own : Own} {P : PD} {ta tb te : TE} {d e : Dat}
theorem ex_var {i : Nat} (h : sl[i]? = some (some d)) (p : P d own) : EX K (tVar i) sl own P := fun F V0 σ H hs hl Q q => by
  obtain ⟨v, e, hd⟩ := hl.2 i d h
  exact ⟨v, e, q v H d own hs (Same.refl _) hd p⟩
theorem ex_int {i : Int} (p : P (.int i) own) : EX K (tC (.int i)) sl own P := fun F V0 σ H hs hl Q q => q _ H _ own hs (Same.refl _) (.int i) p
theorem ex_str {i : Str} (p : P (.str i) own) : EX K (tC (.str i)) sl own P := fun F V0 σ H hs hl Q q => q _ H _ own hs (Same.refl _) (.str i) p
theorem ex_bl {i : Bool} (p : P (.bl i) own) : EX K (tC (.bl i)) sl own P := fun F V0 σ H hs hl Q q => q _ H _ own hs (Same.refl _) (.bl i) p
theorem ex_non (p : P .non own) : EX K (tC .non) sl own P := fun F V0 σ H hs hl Q q => q _ H _ own hs (Same.refl _) .non p
/-- a constant of the module, known as data -/
theorem ex_cst {v : V} (hd : ∀ H, Da K H v d) (p : P d own) : EX K (tC v) sl own P := fun F V0 σ H hs hl Q q => q _ H _ own hs (Same.refl _) (hd _) p
theorem ex_op {r : R2} (h : EX K ta sl own fun x o1 => EX K tb sl o1 fun y o2 => R2X K r x y o2 P) : EX K (tOp r ta tb) sl own P := fun F V0 σ H hs hl Q q => by
  refine h F V0 σ H hs hl _ fun v H1 d1 o1 hs1 e1 hd1 p1 => ?_
  refine p1 F V0 σ H1 hs1 (hl.mono e1) _ fun w H2 d2 o2 hs2 e2 hd2 p2 => ?_
  exact p2 F V0 H2 v w hs2 (hd1.mono e2) hd2 Q fun z H3 d3 o3 hs3 e3 hd3 p3 => q z H3 d3 o3 hs3 ((e1.trans e2).trans e3) hd3 p3
theorem ex_un {r : V → Hp → VK → Prop} (h : EX K ta sl own fun x o1 => R1X K r x o1 P) : EX K (tUn r ta) sl own P := fun F V0 σ H hs hl Q q => by
  refine h F V0 σ H hs hl _ fun v H1 d1 o1 hs1 e1 hd1 p1 => ?_
  exact p1 F V0 H1 v hs1 hd1 Q fun z H3 d3 o3 hs3 e3 hd3 p3 => q z H3 d3 o3 hs3 (e1.trans e3) hd3 p3
theorem ax_nil {P : List Dat → Own → Prop} (p : P [] own) : AX K tNil sl own P := fun F V0 σ H hs hl Q q => q _ H _ own hs (Same.refl _) .nil p
theorem ax_cons {P : List Dat → Own → Prop} {tr : TA} (h : EX K ta sl own fun x o1 => AX K tr sl o1 fun xs o2 => P (x :: xs) o2) : AX K (tCons ta tr) sl own P := fun F V0 σ H hs hl Q q => by
  refine h F V0 σ H hs hl _ fun v H1 d1 o1 hs1 e1 hd1 p1 => ?_
  exact p1 F V0 σ H1 hs1 (hl.mono e1) _ fun w H2 d2 o2 hs2 e2 hd2 p2 => q _ H2 _ o2 hs2 (e1.trans e2) (.cons (hd1.mono e2) hd2) p2
theorem same_new {H : Hp} {p : Addr} {o : HO} (h : H p = none) : Same H (upd H p o) := fun b u e => by rw [upd_ne (ne_of_none e h)]; exact e
/-- a display: a new tuple; a new list that stays as it is; a new list of one's own -/
theorem ex_tup {t : TA} (h : AX K t sl own fun ds o => ds.length ≤ sizeLine ∧ P (.tup ds) o) : EX K (tTup t) sl own P := fun F V0 σ H hs hl Q q => by
  refine h F V0 σ H hs hl _ fun vs H1 ds o1 hs1 e1 hd1 ⟨z, p1⟩ => ⟨by rw [hd1.length]; exact z, fun p hp => ?_⟩
  have e2 := same_new (o := HO.tup vs) hp
  have g := vis_grow hs1 e2
  refine q _ _ _ o1 (hs1.grow e2) (e1.trans g) (.tup (vis_at hs1 hp) (hd1.mono g)) p1
theorem ex_lst {t : TA} (h : AX K t sl own fun ds o => ds.length ≤ sizeLine ∧ P (.lst ds) o) : EX K (tLst t) sl own P := fun F V0 σ H hs hl Q q => by
  refine h F V0 σ H hs hl _ fun vs H1 ds o1 hs1 e1 hd1 ⟨z, p1⟩ => ⟨by rw [hd1.length]; exact z, fun p hp => ?_⟩
  have e2 := same_new (o := HO.lst vs) hp
  have g := vis_grow hs1 e2
  refine q _ _ _ o1 (hs1.grow e2) (e1.trans g) (.lst (vis_at hs1 hp) (hd1.mono g)) p1
theorem ex_lstO {t : TA} (h : AX K t sl own fun ds o => ds.length ≤ sizeLine ∧ ∀ a, a ∉ o.map (·.1) → P (.ptr a) ((a, .lst ds) :: o)) : EX K (tLst t) sl own P := fun F V0 σ H hs hl Q q => by
  refine h F V0 σ H hs hl _ fun vs H1 ds o1 hs1 e1 hd1 ⟨z, p1⟩ => ⟨by rw [hd1.length]; exact z, fun p hp => ?_⟩
  refine q _ _ _ ((p, .lst ds) :: o1) (hs1.new hp (.lst upd_same hd1)) ?_ (.ptr p) (p1 p (fresh_own hs1 hp))
  rw [vis_new hs1 hp]; exact e1
theorem ex_lstR {x y : Int} {t : TA} (h : AX K t sl own fun ds o => ∃ x y, ds = [.int x, .int y] ∧ RngOk x y ∧ ∀ a, a ∉ o.map (·.1) → P (.ptr a) ((a, .rng) :: o)) : EX K (tLst t) sl own P := fun F V0 σ H hs hl Q q => by
  refine h F V0 σ H hs hl _ fun vs H1 ds o1 hs1 e1 hd1 ⟨x, y, e, z, p1⟩ => ?_
  subst e
  cases hd1 with
  | cons h1 t1 => cases t1 with
    | cons h2 t2 =>
      cases t2; cases h1; cases h2
      refine ⟨by show 2 ≤ sizeLine; decide, fun p hp => ?_⟩
      refine q _ _ _ ((p, .rng) :: o1) (hs1.new hp (.rng upd_same z)) ?_ (.ptr p) (p1 p (fresh_own hs1 hp))
      rw [vis_new hs1 hp]; exact e1
end
end Sy
/-! Rules of the symbolic layer. -/
namespace Sy
open PySem L2

/-! ### what reads as a list, a sequence, an object -/
def TrkD (own : Own) (d : Dat) (ds : List Dat) : Prop := d = .lst ds ∨ ∃ a, d = .ptr a ∧ (a, Cell.lst ds) ∈ own
def LstD (own : Own) (d : Dat) (ds : List Dat) : Prop := TrkD own d ds ∨ d = .scr ds
def SeqD (own : Own) (d : Dat) (ds : List Dat) : Prop := LstD own d ds ∨ d = .tup ds
def ObjD (own : Own) (d : Dat) (C : Addr) (ns : List Str) (ds : List Dat) : Prop := d = .obj C ns ds ∨ ∃ a, d = .ptr a ∧ (a, Cell.ins C ns ds) ∈ own
def DicD (own : Own) (d : Dat) (ks : List Key) (ds : List Dat) : Prop := d = .dic ks ds ∨ ∃ a, d = .ptr a ∧ (a, Cell.dK ks ds) ∈ own
section
variable {K : KX} {F V0 H : Hp} {own : Own} {x : V} {d : Dat} {ds : List Dat} {C : Addr} {ns : List Str}
theorem TrkD.tk (h : TrkD own d ds) (hs : Hs K F V0 H own) (hd : Da K (vis F own H) x d) : ∃ a vs, x = .ref a ∧ H a = some (.lst vs) ∧ DaL K (vis F own H) vs ds := by
  rcases h with rfl | ⟨a, rfl, hm⟩
  · cases hd with
    | lst h l => exact ⟨_, _, rfl, vis_sub _ _ h, l⟩
  · cases hd
    have c := hs.cell _ hm
    cases c with
    | lst h l => exact ⟨_, _, rfl, h, l⟩
theorem LstD.sq (h : LstD own d ds) (hs : Hs K F V0 H own) (hd : Da K (vis F own H) x d) : ∃ a vs, x = .ref a ∧ SqL K H a vs ∧ DaL K (vis F own H) vs ds := by
  rcases h with h | rfl
  · obtain ⟨a, vs, e, q, l⟩ := h.tk hs hd
    exact ⟨a, vs, e, .inl (.inl q), l⟩
  · cases hd with
    | scr h l => exact ⟨_, _, rfl, sq_l vis_sub h, l⟩
theorem SeqD.sq (h : SeqD own d ds) (hs : Hs K F V0 H own) (hd : Da K (vis F own H) x d) : ∃ a vs, x = .ref a ∧ (SqL K H a vs ∨ SqT K H a vs) ∧ DaL K (vis F own H) vs ds := by
  rcases h with h | rfl
  · obtain ⟨a, vs, e, q, l⟩ := h.sq hs hd
    exact ⟨a, vs, e, .inl q, l⟩
  · cases hd with
    | tup h l => exact ⟨_, _, rfl, .inr (tq vis_sub h), l⟩
theorem ObjD.ob (h : ObjD own d C ns ds) (hs : Hs K F V0 H own) (hd : Da K (vis F own H) x d) : ∃ a dx gs, x = .ref a ∧ H a = some (.ins C dx gs) ∧ gs.map (·.1) = ns ∧ DaL K (vis F own H) (gs.map (·.2)) ds := by
  rcases h with rfl | ⟨a, rfl, hm⟩
  · cases hd with
    | obj h n l => exact ⟨_, _, _, rfl, vis_sub _ _ h, n, l⟩
  · cases hd
    have c := hs.cell _ hm
    cases c with
    | ins h n l => exact ⟨_, _, _, rfl, h, n, l⟩
theorem DicD.rd {ks : List Key} (h : DicD own d ks ds) (hs : Hs K F V0 H own) (hd : Da K (vis F own H) x d) : ∃ a kvs, x = .ref a ∧ Rd H a (.dK kvs) ∧ kvs.map (·.1) = ks ∧ DaL K (vis F own H) (kvs.map (·.2)) ds := by
  rcases h with rfl | ⟨a, rfl, hm⟩
  · cases hd with
    | dic h n l => exact ⟨_, _, rfl, sq_rd vis_sub h, n, l⟩
  · cases hd
    have c := hs.cell _ hm
    cases c with
    | dK h n u l => exact ⟨_, _, rfl, .inl h, n, l⟩
theorem fidx_some : ∀ {ns : List Str} {f : Str} {i : Nat} {gs : List (Str × V)} {ds : List Dat} {e : Dat} {W : Hp}, fidx ns f = some i → gs.map (·.1) = ns → DaL K W (gs.map (·.2)) ds → ds[i]? = some e → ∃ v, gs.lookup f = some v ∧ Da K W v e
  | [], _, _, _, _, _, _, h, _, _, _ => by simp [fidx] at h
  | n :: ns, f, i, [], _, _, _, _, h, _, _ => by simp at h
  | n :: ns, f, i, (m, v) :: gs, ds, e, W, h, hn, hl, he => by
    rw [List.map_cons] at hn hl
    obtain ⟨rfl, hn2⟩ := List.cons.inj hn
    unfold fidx at h
    cases hl with
    | cons h1 h2 =>
      by_cases q : m = f
      · rw [if_pos q] at h
        cases h
        subst q
        simp at he
        subst he
        exact ⟨v, by rw [List.lookup_cons, beq_self_eq_true], h1⟩
      · rw [if_neg q] at h
        obtain ⟨j, hj, rfl⟩ := Option.map_eq_some_iff.mp h
        obtain ⟨u, e1, e2⟩ := fidx_some hj hn2 h2 (by simpa using he)
        refine ⟨u, ?_, e2⟩
        rw [List.lookup_cons, show (f == m) = false from beq_false_of_ne (Ne.symm q)]
        exact e1
theorem fidx_none : ∀ {ns : List Str} {f : Str} {gs : List (Str × V)}, fidx ns f = none → gs.map (·.1) = ns → gs.lookup f = none
  | [], _, [], _, _ => rfl
  | [], _, _ :: _, _, h => by simp at h
  | n :: ns, _, [], _, h => by simp at h
  | n :: ns, f, (m, v) :: gs, h, hn => by
    rw [List.map_cons] at hn
    obtain ⟨rfl, hn2⟩ := List.cons.inj hn
    unfold fidx at h
    by_cases q : m = f
    · rw [if_pos q] at h; cases h
    · rw [if_neg q] at h
      rw [List.lookup_cons, show (f == m) = false from beq_false_of_ne (Ne.symm q)]
      exact fidx_none (Option.map_eq_none_iff.mp h) hn2
/-- the fields behind a store -/
def putN (ns : List Str) (f : Str) : List Str := match fidx ns f with | some _ => ns | none => ns ++ [f]
def putX (ns : List Str) (f : Str) (ds : List Dat) (e : Dat) : List Dat := match fidx ns f with | some i => ds.set i e | none => ds ++ [e]
theorem putF_ok {W : Hp} {v : V} {e : Dat} (hv : Da K W v e) : ∀ {ns : List Str} {f : Str} {gs : List (Str × V)} {ds : List Dat}, gs.map (·.1) = ns → DaL K W (gs.map (·.2)) ds →
    (putF f v gs).map (·.1) = putN ns f ∧ DaL K W ((putF f v gs).map (·.2)) (putX ns f ds e)
  | _, f, [], ds, hn, hl => by
    rw [List.map_nil] at hn hl
    subst hn
    cases hl
    exact ⟨rfl, .cons hv .nil⟩
  | _, f, (m, u) :: gs, ds, hn, hl => by
    rw [List.map_cons] at hn hl
    subst hn
    cases hl with
    | cons h1 h2 =>
      by_cases q : m = f
      · have e1 : putF f v ((m, u) :: gs) = (m, v) :: gs := by
          show (if m = f then _ else _) = _
          rw [if_pos q]
        rw [e1]
        unfold putN putX fidx
        rw [if_pos q]
        exact ⟨rfl, .cons hv h2⟩
      · have e1 : putF f v ((m, u) :: gs) = (m, u) :: putF f v gs := by
          show (if m = f then _ else _) = _
          rw [if_neg q]
        obtain ⟨i1, i2⟩ := putF_ok hv (ns := gs.map (·.1)) (f := f) rfl h2
        rw [e1, List.map_cons, List.map_cons, i1]
        have e2 : fidx ((m, u).1 :: gs.map (·.1)) f = (fidx (gs.map (·.1)) f).map (· + 1) := by
          show (if m = f then _ else _) = _
          rw [if_neg q]
        unfold putN putX at *
        rw [e2]
        cases r : fidx (gs.map (·.1)) f with
        | none => rw [r] at i2; exact ⟨rfl, .cons h1 i2⟩
        | some j => rw [r] at i2; exact ⟨rfl, .cons h1 i2⟩
end

/-! ### frames: an owned cell that is not touched -/
section
variable {K : KX} {sl : SL} {own o1 o2 l r : Own} {P : PD} {ta tb te : TE} {d e : Dat}
/-- cells told otherwise -/
def Cl (o o' : Own) : Prop := ∀ (K : PySem.W.Frag) (F V0 H : Hp), HsC K F V0 H o → HsC K F V0 H o' ∧ Same (vis F o H) (vis F o' H)
theorem Cl.hs {K : KX} {F V0 H : Hp} {o o' : Own} (c : Cl o o') (h : Hs K F V0 H o) : Hs K F V0 H o' ∧ Same (vis F o H) (vis F o' H) := ⟨⟨(c K.K F V0 H h.c).1, h.x⟩, (c K.K F V0 H h.c).2⟩
theorem Cl.refl (o : Own) : Cl o o := fun _ _ _ _ h => ⟨h, Same.refl _⟩
theorem Cl.trans (a : Cl own o1) (b : Cl o1 o2) : Cl own o2 := fun K F V0 H h => let ⟨h1, e1⟩ := a K F V0 H h; let ⟨h2, e2⟩ := b K F V0 H h1; ⟨h2, e1.trans e2⟩
theorem cl_rng {s : Addr} {x y : Int} (z : RngOk x y) : Cl (l ++ (s, .lst [.int x, .int y]) :: r) (l ++ (s, .rng) :: r) := fun K F V0 H h =>
  ⟨h.retell fun W c => by
    cases c with
    | lst h1 t =>
      cases t with
      | cons a t => cases t with
        | cons b t => cases t; cases a; cases b; exact .rng h1 z, by rw [vis_retell (c := .lst [.int x, .int y]) (c' := .rng)]; exact Same.refl _⟩
theorem cl_drop {p : Addr × Cell} : Cl (l ++ p :: r) (l ++ r) := fun K F V0 H h => ⟨h.drop, vis_drop⟩
theorem ex_cl (c : Cl own o1) (h : EX K te sl o1 P) : EX K te sl own P := fun F V0 σ H hs hl Q q => by
  obtain ⟨h1, e1⟩ := c.hs hs
  exact h F V0 σ H h1 (hl.mono e1) Q fun v H' d o' a b => q v H' d o' a (e1.trans b)
/-- the end told otherwise -/
theorem ex_end (h : EX K te sl own fun d o => ∃ o', Cl o o' ∧ P d o') : EX K te sl own P := fun F V0 σ H hs hl Q q => by
  refine h F V0 σ H hs hl Q fun v H' d o' a b hd ⟨o2, c, p⟩ => ?_
  obtain ⟨h1, e1⟩ := c.hs a
  exact q v H' d o2 h1 (b.trans e1) (hd.mono e1) p
theorem ex_mono {P' : PD} (h : EX K te sl own P') (m : ∀ d o, P' d o → P d o) : EX K te sl own P := fun F V0 σ H hs hl Q q => h F V0 σ H hs hl Q fun v H' d o' a b hd p => q v H' d o' a b hd (m d o' p)
/-- a list of one's own becomes data -/
theorem freeze {a : Addr} {F V0 H : Hp} {ds : List Dat} (h : Hs K F V0 H (l ++ (a, .lst ds) :: r)) : Da K (vis F (l ++ r) H) (.ref a) (.lst ds) := by
  have c := h.cell _ (List.mem_append_right l List.mem_cons_self)
  cases c with
  | lst h1 t => exact .lst (h.drop_vis.trans h1) (t.mono vis_drop)
theorem freezeO {a C : Addr} {F V0 H : Hp} {ns : List Str} {ds : List Dat} (h : Hs K F V0 H (l ++ (a, .ins C ns ds) :: r)) : Da K (vis F (l ++ r) H) (.ref a) (.obj C ns ds) := by
  have c := h.cell _ (List.mem_append_right l List.mem_cons_self)
  cases c with
  | ins h1 n t => exact .obj (h.drop_vis.trans h1) n (t.mono vis_drop)
theorem freezeD {a : Addr} {F V0 H : Hp} {ks : List Key} {ds : List Dat} (h : Hs K F V0 H (l ++ (a, .dK ks ds) :: r)) : Da K (vis F (l ++ r) H) (.ref a) (.dic ks ds) := by
  have c := h.cell _ (List.mem_append_right l List.mem_cons_self)
  cases c with
  | dK h1 n u t => exact .dic (.inl (h.drop_vis.trans h1)) n (t.mono vis_drop)
/-- p as data: the frozen form of a cell -/
def Cell.dat : Cell → Option Dat
  | .lst ds => some (.lst ds)
  | .ins C ns ds => some (.obj C ns ds)
  | .dK ks ds => some (.dic ks ds)
  | _ => none
theorem freezeA {a : Addr} {c : Cell} {F V0 H : Hp} {e : Dat} (h : Hs K F V0 H (l ++ (a, c) :: r)) (he : c.dat = some e) : Da K (vis F (l ++ r) H) (.ref a) e := by
  cases c <;> simp [Cell.dat] at he <;> subst he
  · exact freeze h
  · exact freezeD h
  · exact freezeO h
theorem ex_frz (h : EX K te sl own fun d o => ∃ a c l r e, d = .ptr a ∧ o = l ++ (a, c) :: r ∧ c.dat = some e ∧ P e (l ++ r)) : EX K te sl own P := fun F V0 σ H hs hl Q q => by
  refine h F V0 σ H hs hl Q fun v H' d o' hs' b hd ⟨a, c, l, r, e, e1, e2, e3, p⟩ => ?_
  subst e1 e2
  cases hd
  exact q _ H' _ _ hs'.drop (b.trans vis_drop) (freezeA hs' e3) p
end

/-! ### operators -/
section
variable {K : KX} {own : Own} {P : PD} {d e : Dat} {X : Cx}
theorem r2_of {r : R2} {z : Dat} (h : ∀ (W : Hp) (x y : V), Da K W x d → Da K W y e → ∃ v, (∀ W, Da K W v z) ∧ ∀ (H : Hp) (Q : VK), Q v H → r x y H Q) (p : P z own) : R2X K r d e own P := fun F V0 H x y hs hx hy Q q => by
  obtain ⟨v, hv, hr⟩ := h _ x y hx hy
  exact hr H Q (q v H z own hs (Same.refl _) (hv _) p)
def rStr2 (g : Str → Str → V) : R2 := fun x y H Q => ∃ i j, x = .str i ∧ y = .str j ∧ Q (g i j) H
/-- + -/
def rAddS' : R2 := fun x y H Q => ∃ i j, x = .str i ∧ y = .str j ∧ i.length + j.length ≤ sizeLine ∧ Q (.str (i ++ j)) H
def uAdd (K : PySem.W.Frag) : R2 := fun x y H Q => rI0 (fun i j => .int (i + j)) x y H Q ∨ rAddS' x y H Q ∨ rCat x y H Q ∨ rCatA K x y H Q
theorem op_addU : OpR X (binaryOp .Add) (uAdd X.K) := OpR.or op_add (OpR.or op_add_str (OpR.or op_cat op_catA))
theorem add_int {i j : Int} (p : P (.int (i + j)) own) : R2X K (uAdd K) (.int i) (.int j) own P := r2_of (fun W x y hx hy => by cases hx; cases hy; exact ⟨_, fun _ => .int _, fun H Q q => .inl ⟨i, j, rfl, rfl, q⟩⟩) p
theorem add_str {i j : Str} (hl : i.length + j.length ≤ sizeLine) (p : P (.str (i ++ j)) own) : R2X K (uAdd K) (.str i) (.str j) own P := r2_of (fun W x y hx hy => by cases hx; cases hy; exact ⟨_, fun _ => .str _, fun H Q q => .inr (.inl ⟨i, j, rfl, rfl, hl, q⟩)⟩) p
theorem sub_int {i j : Int} (p : P (.int (i - j)) own) : R2X K (rI0 fun i j => .int (i - j)) (.int i) (.int j) own P := r2_of (fun W x y hx hy => by cases hx; cases hy; exact ⟨_, fun _ => .int _, fun H Q q => ⟨i, j, rfl, rfl, q⟩⟩) p
def uMul : R2 := rI IntMulOk fun i j => .int (i * j)
theorem op_mulU : OpR X (binaryOp .Mult) uMul := opI fun _ _ _ _ _ _ _ hc q => PySem.P.mul_int q hc
theorem mul_int {i j : Int} (h : IntMulOk i j) (p : P (.int (i * j)) own) : R2X K uMul (.int i) (.int j) own P := r2_of (fun W x y hx hy => by cases hx; cases hy; exact ⟨_, fun _ => .int _, fun H Q q => ⟨i, j, rfl, rfl, h, q⟩⟩) p
theorem div_int {i j : Int} (h : CDivW i j) (p : P (.int (i / j)) own) : R2X K (rI CDivW fun i j => .int (i / j)) (.int i) (.int j) own P := r2_of (fun W x y hx hy => by cases hx; cases hy; exact ⟨_, fun _ => .int _, fun H Q q => ⟨i, j, rfl, rfl, h, q⟩⟩) p
theorem mod_int {i j : Int} (h : 0 < j) (p : P (.int (i % j)) own) : R2X K (rI (fun _ j => 0 < j) fun i j => .int (i % j)) (.int i) (.int j) own P := r2_of (fun W x y hx hy => by cases hx; cases hy; exact ⟨_, fun _ => .int _, fun H Q q => ⟨i, j, rfl, rfl, h, q⟩⟩) p
theorem pow_int {i j : Int} (h : CPow i j) (p : P (.int (i ^ j.toNat)) own) : R2X K (rI CPow fun i j => .int (i ^ j.toNat)) (.int i) (.int j) own P := r2_of (fun W x y hx hy => by cases hx; cases hy; exact ⟨_, fun _ => .int _, fun H Q q => ⟨i, j, rfl, rfl, h, q⟩⟩) p
/-- lists end to end: a new list, as data -/
theorem vis_newd {F V0 H : Hp} {p : Addr} {o : HO} (hs : Hs K F V0 H own) (hp : H p = none) : Hs K F V0 (upd H p o) own ∧ Same (vis F own H) (vis F own (upd H p o)) ∧ vis F own (upd H p o) p = some o :=
  ⟨hs.grow (same_new hp), vis_grow hs (same_new hp), vis_at hs hp⟩
theorem add_lst {ds es : List Dat} (h1 : TrkD own d ds) (h2 : TrkD own e es) (hl : ds.length + es.length ≤ sizeLine) (p : P (.lst (ds ++ es)) own) : R2X K (uAdd K) d e own P := fun F V0 H x y hs hx hy Q q => by
  obtain ⟨a, vs, rfl, ha, la⟩ := h1.tk hs hx
  obtain ⟨b, us, rfl, hb, lb⟩ := h2.tk hs hy
  refine .inr (.inr (.inl ⟨a, b, vs, us, rfl, rfl, ha, hb, by rw [la.length, lb.length]; exact hl, fun c hc => ?_⟩))
  obtain ⟨g1, g2, g3⟩ := vis_newd (o := .lst (vs ++ us)) hs hc
  exact q _ _ _ own g1 g2 (.lst g3 ((la.append lb).mono g2)) p
theorem add_tup {ds es : List Dat} (hl : ds.length + es.length ≤ sizeLine) (p : P (.tup (ds ++ es)) own) : R2X K (uAdd K) (.tup ds) (.tup es) own P := fun F V0 H x y hs hx hy Q q => by
  cases hx with
  | tup ha la =>
    cases hy with
    | tup hb lb =>
      rename_i a xs b ys
      refine .inr (.inr (.inr ⟨a, b, xs, ys, rfl, rfl, tq vis_sub ha, tq vis_sub hb, by rw [la.length, lb.length]; exact hl, fun z => ?_, fun z1 z2 => ?_, fun z1 z2 c hc => ?_⟩))
      · subst z
        cases la
        exact q _ H _ own hs (Same.refl _) (.tup hb lb) p
      · subst z2
        cases lb
        rw [List.append_nil] at p
        exact q _ H _ own hs (Same.refl _) (.tup ha la) p
      · obtain ⟨g1, g2, g3⟩ := vis_newd (o := .tup (xs ++ ys)) hs hc
        exact q _ _ _ own g1 g2 (.tup g3 ((la.append lb).mono g2)) p
end
end Sy
/-! Rules of the symbolic layer: equality, in, items, order. -/
namespace Sy
open PySem L2

/-! ### data that can be compared -/
mutual
def Dat.py : Dat → PyData
  | .non => .none | .bl b => .bool b | .int i => .int i | .str x => .str x
  | .tup ds => .tuple (Dat.pyL ds) | .lst ds => .list (Dat.pyL ds) | .scr ds => .list (Dat.pyL ds)
  | .obj _ _ _ => .none | .dic _ _ => .none | .ptr _ => .none
def Dat.pyL : List Dat → List PyData
  | [] => []
  | d :: ds => Dat.py d :: Dat.pyL ds
end
mutual
/-- no bool, no object, no written list; texts of real signs; at most n deep -/
inductive Sh : Nat → Dat → Prop
  | non {n : Nat} : Sh n .non
  | int {n : Nat} (i : Int) : Sh n (.int i)
  | str {n : Nat} {x : Str} : PyData.strOk x = true → Sh n (.str x)
  | tup {n : Nat} {ds : List Dat} : ShL n ds → Sh (n + 1) (.tup ds)
  | lst {n : Nat} {ds : List Dat} : ShL n ds → Sh (n + 1) (.lst ds)
inductive ShL : Nat → List Dat → Prop
  | nil {n : Nat} : ShL n []
  | cons {n : Nat} {d : Dat} {ds : List Dat} : Sh n d → ShL n ds → ShL n (d :: ds)
end
theorem shL_of {n : Nat} : ∀ {ds : List Dat}, (∀ d ∈ ds, Sh n d) → ShL n ds
  | [], _ => .nil
  | d :: ds, h => .cons (h d List.mem_cons_self) (shL_of fun e he => h e (List.mem_cons_of_mem _ he))
theorem shL_mem {n : Nat} : ∀ {ds : List Dat}, ShL n ds → ∀ d ∈ ds, Sh n d
  | _, .nil, d, h => by cases h
  | _, .cons a b, d, h => by
    rcases List.mem_cons.mp h with rfl | h
    · exact a
    · exact shL_mem b d h
mutual
theorem Sh.lay : ∀ {n : Nat} {d : Dat}, Sh n d → d.py.canLay0 = true ∧ d.py.depth ≤ n
  | _, _, .non => ⟨by simp [Dat.py, PyData.canLay0], by simp [Dat.py, PyData.depth]⟩
  | _, _, .int i => ⟨by simp [Dat.py, PyData.canLay0], by simp [Dat.py, PyData.depth]⟩
  | _, _, .str h => ⟨by simp [Dat.py, PyData.canLay0, h], by simp [Dat.py, PyData.depth]⟩
  | _, _, .tup h => by
    have := ShL.lay h
    simp [Dat.py, PyData.canLay0, PyData.depth, this.1]; exact this.2
  | _, _, .lst h => by
    have := ShL.lay h
    simp [Dat.py, PyData.canLay0, PyData.depth, this.1]; exact this.2
theorem ShL.lay : ∀ {n : Nat} {ds : List Dat}, ShL n ds → PyData.canLayAll0 (Dat.pyL ds) = true ∧ PyData.depthAll (Dat.pyL ds) ≤ n
  | _, _, .nil => ⟨by simp [Dat.pyL, PyData.canLayAll0], by simp [Dat.pyL, PyData.depthAll]⟩
  | _, _, .cons a b => by
    have h1 := Sh.lay a
    have h2 := ShL.lay b
    refine ⟨by simp [Dat.pyL, PyData.canLayAll0, h1.1, h2.1], ?_⟩
    simp only [Dat.pyL, PyData.depthAll]
    omega
end
theorem Sh.shaped {n : Nat} {d : Dat} (h : Sh n d) (hn : n ≤ 64) : SeqAt.shaped d.py = true := by
  unfold SeqAt.shaped
  rw [h.lay.1, Bool.true_and]
  exact decide_eq_true (Nat.le_trans h.lay.2 hn)
mutual
theorem Sh.dp {K : PySem.W.Frag} {H : Hp} : ∀ {n : Nat} {d : Dat} {v : V}, Sh n d → Da K H v d → Dp K H v d.py
  | _, _, _, .non, h => by cases h; simp only [Dat.py]; exact .non
  | _, _, _, .int i, h => by cases h; simp only [Dat.py]; exact .int i
  | _, _, _, .str q, h => by cases h; simp only [Dat.py]; exact .str _
  | _, _, _, .tup q, h => by cases h with | tup a b => simp only [Dat.py]; exact .tup (.inl (.inl a)) (ShL.dp q b)
  | _, _, _, .lst q, h => by cases h with | lst a b => simp only [Dat.py]; exact .lst (.inl (.inl a)) (ShL.dp q b)
theorem ShL.dp {K : PySem.W.Frag} {H : Hp} : ∀ {n : Nat} {ds : List Dat} {vs : List V}, ShL n ds → DaL K H vs ds → DpAll K H vs (Dat.pyL ds)
  | _, _, _, .nil, h => by cases h; simp only [Dat.pyL]; exact .nil
  | _, _, _, .cons a b, h => by cases h with | cons c d => simp only [Dat.pyL]; exact .cons (Sh.dp a c) (ShL.dp b d)
end
mutual
theorem eqv_iff : ∀ {n m : Nat} {d e : Dat}, Sh n d → Sh m e → (PyData.eqv d.py e.py = true ↔ d = e)
  | _, _, _, _, .non, .non => by simp [Dat.py, PyData.eqv]
  | _, _, _, _, .non, .int _ => by simp [Dat.py, PyData.eqv]
  | _, _, _, _, .non, .str _ => by simp [Dat.py, PyData.eqv]
  | _, _, _, _, .non, .tup _ => by simp [Dat.py, PyData.eqv]
  | _, _, _, _, .non, .lst _ => by simp [Dat.py, PyData.eqv]
  | _, _, _, _, .int _, .non => by simp [Dat.py, PyData.eqv]
  | _, _, _, _, .int _, .int _ => by simp [Dat.py, PyData.eqv]
  | _, _, _, _, .int _, .str _ => by simp [Dat.py, PyData.eqv]
  | _, _, _, _, .int _, .tup _ => by simp [Dat.py, PyData.eqv]
  | _, _, _, _, .int _, .lst _ => by simp [Dat.py, PyData.eqv]
  | _, _, _, _, .str _, .non => by simp [Dat.py, PyData.eqv]
  | _, _, _, _, .str _, .int _ => by simp [Dat.py, PyData.eqv]
  | _, _, _, _, .str _, .str _ => by simp [Dat.py, PyData.eqv]
  | _, _, _, _, .str _, .tup _ => by simp [Dat.py, PyData.eqv]
  | _, _, _, _, .str _, .lst _ => by simp [Dat.py, PyData.eqv]
  | _, _, _, _, .tup _, .non => by simp [Dat.py, PyData.eqv]
  | _, _, _, _, .tup _, .int _ => by simp [Dat.py, PyData.eqv]
  | _, _, _, _, .tup _, .str _ => by simp [Dat.py, PyData.eqv]
  | _, _, _, _, .tup a, .tup b => by
    have := eqvL_iff a b
    simp only [Dat.py, PyData.eqv, Dat.tup.injEq]; exact this
  | _, _, _, _, .tup _, .lst _ => by simp [Dat.py, PyData.eqv]
  | _, _, _, _, .lst _, .non => by simp [Dat.py, PyData.eqv]
  | _, _, _, _, .lst _, .int _ => by simp [Dat.py, PyData.eqv]
  | _, _, _, _, .lst _, .str _ => by simp [Dat.py, PyData.eqv]
  | _, _, _, _, .lst _, .tup _ => by simp [Dat.py, PyData.eqv]
  | _, _, _, _, .lst a, .lst b => by
    have := eqvL_iff a b
    simp only [Dat.py, PyData.eqv, Dat.lst.injEq]; exact this
theorem eqvL_iff : ∀ {n m : Nat} {ds es : List Dat}, ShL n ds → ShL m es → (PyData.eqvAll (Dat.pyL ds) (Dat.pyL es) = true ↔ ds = es)
  | _, _, _, _, .nil, .nil => by simp [Dat.pyL, PyData.eqvAll]
  | _, _, _, _, .nil, .cons _ _ => by simp [Dat.pyL, PyData.eqvAll]
  | _, _, _, _, .cons _ _, .nil => by simp [Dat.pyL, PyData.eqvAll]
  | _, _, _, _, .cons a b, .cons c d => by
    have h1 := eqv_iff a c
    have h2 := eqvL_iff b d
    simp only [Dat.pyL, PyData.eqvAll, Bool.and_eq_true, List.cons.injEq, h1, h2]
end

section
variable {K : KX} {own : Own} {P : PD} {d e : Dat} {X : Cx}
/-! ### == and != -/
def uEq (K : PySem.W.Frag) : R2 := fun x y H Q => rEq x y H Q ∨ rEqD K x y H Q
def uNe (K : PySem.W.Frag) : R2 := fun x y H Q => rNe x y H Q ∨ rNeD K x y H Q
theorem op_eqU (hu : X.A.units + 64 < cLine) : OpR X (compareOp .Eq) (uEq X.K) := OpR.or op_eq (op_eqD hu)
theorem op_neU (hu : X.A.units + 64 < cLine) : OpR X (compareOp .NotEq) (uNe X.K) := OpR.or op_ne (op_neD hu)
theorem eq_int {i j : Int} (p : P (.bl (decide (i = j))) own) : R2X K (uEq K) (.int i) (.int j) own P := r2_of (fun W x y hx hy => by
  cases hx; cases hy
  refine ⟨_, fun _ => .bl _, fun H Q q => .inl ⟨rfl, ?_⟩⟩
  have e : decide (V.int i = V.int j) = decide (i = j) := by simp
  rw [e]; exact q) p
theorem eq_str {i j : Str} (p : P (.bl (decide (i = j))) own) : R2X K (uEq K) (.str i) (.str j) own P := r2_of (fun W x y hx hy => by
  cases hx; cases hy
  refine ⟨_, fun _ => .bl _, fun H Q q => .inl ⟨rfl, ?_⟩⟩
  have e : decide (V.str i = V.str j) = decide (i = j) := by simp
  rw [e]; exact q) p
theorem ne_int {i j : Int} (p : P (.bl (!decide (i = j))) own) : R2X K (uNe K) (.int i) (.int j) own P := r2_of (fun W x y hx hy => by
  cases hx; cases hy
  refine ⟨_, fun _ => .bl _, fun H Q q => .inl ⟨rfl, ?_⟩⟩
  have e : decide (V.int i = V.int j) = decide (i = j) := by simp
  rw [e]; exact q) p
theorem ne_str {i j : Str} (p : P (.bl (!decide (i = j))) own) : R2X K (uNe K) (.str i) (.str j) own P := r2_of (fun W x y hx hy => by
  cases hx; cases hy
  refine ⟨_, fun _ => .bl _, fun H Q q => .inl ⟨rfl, ?_⟩⟩
  have e : decide (V.str i = V.str j) = decide (i = j) := by simp
  rw [e]; exact q) p
theorem eq_dat {n m : Nat} (h1 : Sh n d) (h2 : Sh m e) (p : ∀ b : Bool, (b = true ↔ d = e) → P (.bl b) own) (hn : n ≤ 64 := by decide) (hm : m ≤ 64 := by decide) : R2X K (uEq K) d e own P := fun F V0 H x y hs hx hy Q q =>
  .inr ⟨_, _, h1.dp (hx.mono vis_sub), h2.dp (hy.mono vis_sub), h1.shaped hn, h2.shaped hm, q _ H _ own hs (Same.refl _) (.bl _) (p _ (eqv_iff h1 h2))⟩
theorem ne_dat {n m : Nat} (h1 : Sh n d) (h2 : Sh m e) (p : ∀ b : Bool, (b = true ↔ d = e) → P (.bl (!b)) own) (hn : n ≤ 64 := by decide) (hm : m ≤ 64 := by decide) : R2X K (uNe K) d e own P := fun F V0 H x y hs hx hy Q q =>
  .inr ⟨_, _, h1.dp (hx.mono vis_sub), h2.dp (hy.mono vis_sub), h1.shaped hn, h2.shaped hm, q _ H _ own hs (Same.refl _) (.bl _) (p _ (eqv_iff h1 h2))⟩
/-- an owned list against data: its items are what counts -/
theorem trk_dp {F V0 H : Hp} {x : V} {ds : List Dat} {n : Nat} (h : TrkD own d ds) (hs : Hs K F V0 H own) (hx : Da K (vis F own H) x d) (q : ShL n ds) : Dp K H x (Dat.lst ds).py := by
  obtain ⟨a, vs, rfl, ha, l⟩ := h.tk hs hx
  simp only [Dat.py]
  exact .lst (.inl (.inl ha)) (q.dp (l.mono vis_sub))
theorem eq_lst {ds es : List Dat} {n m : Nat} (h1 : TrkD own d ds) (h2 : TrkD own e es) (s1 : ShL n ds) (s2 : ShL m es) (p : ∀ b : Bool, (b = true ↔ ds = es) → P (.bl b) own) (hn : n < 64 := by decide) (hm : m < 64 := by decide) : R2X K (uEq K) d e own P := fun F V0 H x y hs hx hy Q q =>
  .inr ⟨_, _, trk_dp h1 hs hx s1, trk_dp h2 hs hy s2, (Sh.lst s1).shaped hn, (Sh.lst s2).shaped hm, q _ H _ own hs (Same.refl _) (.bl _) (p _ ((eqv_iff (.lst s1) (.lst s2)).trans (by simp)))⟩
theorem ne_lst {ds es : List Dat} {n m : Nat} (h1 : TrkD own d ds) (h2 : TrkD own e es) (s1 : ShL n ds) (s2 : ShL m es) (p : ∀ b : Bool, (b = true ↔ ds = es) → P (.bl (!b)) own) (hn : n < 64 := by decide) (hm : m < 64 := by decide) : R2X K (uNe K) d e own P := fun F V0 H x y hs hx hy Q q =>
  .inr ⟨_, _, trk_dp h1 hs hx s1, trk_dp h2 hs hy s2, (Sh.lst s1).shaped hn, (Sh.lst s2).shaped hm, q _ H _ own hs (Same.refl _) (.bl _) (p _ ((eqv_iff (.lst s1) (.lst s2)).trans (by simp)))⟩

/-! ### order of ints -/
theorem lt_int {i j : Int} (p : P (.bl (decide (i < j))) own) : R2X K (rI0 fun i j => .bl (decide (i < j))) (.int i) (.int j) own P := r2_of (fun W x y hx hy => by cases hx; cases hy; exact ⟨_, fun _ => .bl _, fun H Q q => ⟨i, j, rfl, rfl, q⟩⟩) p
theorem le_int {i j : Int} (p : P (.bl (decide (i ≤ j))) own) : R2X K (rI0 fun i j => .bl (decide (i ≤ j))) (.int i) (.int j) own P := r2_of (fun W x y hx hy => by cases hx; cases hy; exact ⟨_, fun _ => .bl _, fun H Q q => ⟨i, j, rfl, rfl, q⟩⟩) p
theorem gt_int {i j : Int} (p : P (.bl (decide (j < i))) own) : R2X K (rI0 fun i j => .bl (decide (j < i))) (.int i) (.int j) own P := r2_of (fun W x y hx hy => by cases hx; cases hy; exact ⟨_, fun _ => .bl _, fun H Q q => ⟨i, j, rfl, rfl, q⟩⟩) p
theorem ge_int {i j : Int} (p : P (.bl (decide (j ≤ i))) own) : R2X K (rI0 fun i j => .bl (decide (j ≤ i))) (.int i) (.int j) own P := r2_of (fun W x y hx hy => by cases hx; cases hy; exact ⟨_, fun _ => .bl _, fun H Q q => ⟨i, j, rfl, rfl, q⟩⟩) p
/-! ### is None -/
def rIsN' : R2 := fun x y H Q => y = .non ∧ Q (.bl (decide (x = .non))) H
def rNotN' : R2 := fun x y H Q => y = .non ∧ Q (.bl (!decide (x = .non))) H
theorem op_isU : OpR X (compareOp .Is) rIsN' := op_isN
theorem op_notU : OpR X (compareOp .IsNot) rNotN' := op_notN
def Dat.isN : Dat → Bool
  | .non => true
  | _ => false
theorem Da.isN {W : Hp} {v : V} (h : Da K W v d) : decide (v = .non) = d.isN := by cases h <;> first | rfl | (simp [Dat.isN])
theorem is_non (p : P (.bl d.isN) own) : R2X K rIsN' d .non own P := fun F V0 H x y hs hx hy Q q => by
  cases hy
  exact ⟨rfl, by rw [hx.isN]; exact q _ H _ own hs (Same.refl _) (.bl _) p⟩
theorem not_non (p : P (.bl (!d.isN)) own) : R2X K rNotN' d .non own P := fun F V0 H x y hs hx hy Q q => by
  cases hy
  exact ⟨rfl, by rw [hx.isN]; exact q _ H _ own hs (Same.refl _) (.bl _) p⟩

/-! ### in -/
def rInQ (K : PySem.W.Frag) (neg : Bool) : R2 := fun x y H Q => ∃ d ds, Dp K H x d ∧ (Dp K H y (.list ds) ∨ Dp K H y (.tuple ds)) ∧ SeqAt.shaped d = true ∧ SeqAt.shaped (.list ds) = true ∧ Q (.bl (if neg then !ds.any fun z => PyData.eqv z d else ds.any fun z => PyData.eqv z d)) H
theorem op_inQ (hu : X.A.units + 65 < cLine) : OpR X (compareOp .In) (rInQ X.K false) := by
  intro pins s σ H x y v u Q I rx ry h
  obtain ⟨d, ds, hd, he, sd, se, q⟩ := h
  obtain ⟨as, r1⟩ := Dp.reads I d x v hd rx
  rcases he with he | he
  · obtain ⟨bs, r2⟩ := Dp.reads I (.list ds) y u he ry
    exact SeqAt.in_list_reads r2 r1 (SeqAt.canLay_of_shaped se) (SeqAt.canLay_of_shaped sd) (PyProof.Rows.room_in_shaped sd hu) ⟨.bl _, H, I, rfl, q⟩
  · obtain ⟨bs, r2⟩ := Dp.reads I (.tuple ds) y u he ry
    exact SeqAt.in_tuple_reads r2 r1 (SeqAt.canLay_of_shaped se) (SeqAt.canLay_of_shaped sd) (PyProof.Rows.room_in_shaped sd hu) ⟨.bl _, H, I, rfl, q⟩
theorem op_notInQ (hu : X.A.units + 65 < cLine) : OpR X (compareOp .NotIn) (rInQ X.K true) := by
  intro pins s σ H x y v u Q I rx ry h
  obtain ⟨d, ds, hd, he, sd, se, q⟩ := h
  obtain ⟨as, r1⟩ := Dp.reads I d x v hd rx
  rcases he with he | he
  · obtain ⟨bs, r2⟩ := Dp.reads I (.list ds) y u he ry
    exact SeqAt.notIn_list_reads r2 r1 (SeqAt.canLay_of_shaped se) (SeqAt.canLay_of_shaped sd) (PyProof.Rows.room_in_shaped sd hu) ⟨.bl _, H, I, rfl, q⟩
  · obtain ⟨bs, r2⟩ := Dp.reads I (.tuple ds) y u he ry
    exact SeqAt.notIn_tuple_reads r2 r1 (SeqAt.canLay_of_shaped se) (SeqAt.canLay_of_shaped sd) (PyProof.Rows.room_in_shaped sd hu) ⟨.bl _, H, I, rfl, q⟩
def rInDic (neg : Bool) : R2 := fun y x H Q => ∃ a o, x = .ref a ∧ DGet H a y o ∧ Q (.bl (if neg then !o.isSome else o.isSome)) H
theorem op_inDic (hu : X.A.units + 1 < cLine) : OpR X (compareOp .In) (rInDic false) := by
  intro pins s σ H y x v u Q I ry rx h
  obtain ⟨a, o, rfl, g, q⟩ := h
  obtain rfl : u = Value.ref a := rx
  exact d_in hu I g ry fun s3 I3 => ⟨.bl o.isSome, H, I3, rfl, q⟩
theorem op_notInDic (hu : X.A.units + 1 < cLine) : OpR X (compareOp .NotIn) (rInDic true) := by
  intro pins s σ H y x v u Q I ry rx h
  obtain ⟨a, o, rfl, g, q⟩ := h
  obtain rfl : u = Value.ref a := rx
  exact d_notIn hu I g ry fun s3 I3 => ⟨.bl (!o.isSome), H, I3, rfl, q⟩
def rInStr (neg : Bool) : R2 := fun x y H Q => ∃ i j, x = .str i ∧ y = .str j ∧ Q (.bl (if neg then !(!(Builtin.Str.occurrences j i 0 j.length 1).isEmpty) else !(Builtin.Str.occurrences j i 0 j.length 1).isEmpty)) H
def uIn (K : PySem.W.Frag) (neg : Bool) : R2 := fun x y H Q => rInQ K neg x y H Q ∨ rInDic neg x y H Q ∨ rInStr neg x y H Q
theorem op_inU (hu : X.A.units + 65 < cLine) : OpR X (compareOp .In) (uIn X.K false) := OpR.or (op_inQ hu) (OpR.or (op_inDic (Nat.lt_of_le_of_lt (Nat.add_le_add_left (by decide) _) hu)) op_in_str)
theorem op_notInU (hu : X.A.units + 65 < cLine) : OpR X (compareOp .NotIn) (uIn X.K true) := OpR.or (op_notInQ hu) (OpR.or (op_notInDic (Nat.lt_of_le_of_lt (Nat.add_le_add_left (by decide) _) hu)) op_notin_str)
theorem any_eqv {n m : Nat} (h1 : Sh n d) : ∀ {ds : List Dat}, ShL m ds → (((Dat.pyL ds).any fun z => PyData.eqv z d.py) = true ↔ d ∈ ds)
  | _, .nil => by simp [Dat.pyL]
  | _, .cons a b => by
    have i := any_eqv h1 b
    have j := eqv_iff a h1
    simp only [Dat.pyL, List.any_cons, Bool.or_eq_true, List.mem_cons, i, j]
    exact ⟨fun z => z.imp Eq.symm id, fun z => z.imp Eq.symm id⟩
theorem seq_dp {F V0 H : Hp} {x : V} {ds : List Dat} {n : Nat} (h : SeqD own e ds) (hs : Hs K F V0 H own) (hx : Da K (vis F own H) x e) (q : ShL n ds) : Dp K H x (.list (Dat.pyL ds)) ∨ Dp K H x (.tuple (Dat.pyL ds)) := by
  obtain ⟨a, vs, rfl, ha, l⟩ := h.sq hs hx
  rcases ha with ha | ha
  · exact .inl (.lst ha (q.dp (l.mono vis_sub)))
  · exact .inr (.tup ha (q.dp (l.mono vis_sub)))
theorem in_seq {neg : Bool} {ds : List Dat} {n m : Nat} (h : SeqD own e ds) (h1 : Sh n d) (h2 : ShL m ds) (p : ∀ b : Bool, (b = true ↔ d ∈ ds) → P (.bl (if neg then !b else b)) own) (hn : n ≤ 64 := by decide) (hm : m < 64 := by decide) : R2X K (uIn K neg) d e own P := fun F V0 H x y hs hx hy Q q =>
  .inl ⟨_, _, h1.dp (hx.mono vis_sub), seq_dp h hs hy h2, h1.shaped hn, by
    have := (Sh.lst h2).shaped (Nat.succ_le_of_lt hm)
    simpa [Dat.py] using this, q _ H _ own hs (Same.refl _) (.bl _) (p _ (any_eqv h1 h2))⟩
def keyD : Key → Dat
  | .inl i => .int i
  | .inr x => .str x
theorem keyD_v {W : Hp} {k : Key} {v : V} (h : Da K W v (keyD k)) : v = kV k := by cases k <;> (simp only [keyD] at h; cases h; rfl)
/-- the place of a key -/
def kix {κ : Type} [DecidableEq κ] : List κ → κ → Option Nat
  | [], _ => none
  | n :: ns, f => if n = f then some 0 else (kix ns f).map (· + 1)
theorem valV_kix {κ : Type} [DecidableEq κ] {k : κ} : ∀ {kvs : List (κ × V)}, valV kvs k = (kix (kvs.map (·.1)) k).bind fun i => (kvs.map (·.2))[i]?
  | [] => rfl
  | p :: kvs => by
    have ih := valV_kix (k := k) (kvs := kvs)
    unfold valV at ih ⊢
    rw [List.find?_cons, List.map_cons, List.map_cons]
    unfold kix
    by_cases e : p.1 = k
    · rw [if_pos e, decide_eq_true e]; rfl
    · rw [if_neg e, decide_eq_false e]
      show Option.map _ (List.find? _ kvs) = _
      rw [ih]
      cases kix (kvs.map (·.1)) k <;> simp
theorem kix_lt {κ : Type} [DecidableEq κ] {k : κ} : ∀ {ks : List κ} {i : Nat}, kix ks k = some i → i < ks.length ∧ ks[i]? = some k
  | [], _, h => by cases h
  | n :: ns, i, h => by
    unfold kix at h
    by_cases e : n = k
    · rw [if_pos e] at h; cases h; subst e; exact ⟨Nat.zero_lt_succ _, rfl⟩
    · rw [if_neg e] at h
      obtain ⟨j, hj, rfl⟩ := Option.map_eq_some_iff.mp h
      obtain ⟨a, b⟩ := kix_lt hj
      exact ⟨Nat.succ_lt_succ a, by simpa using b⟩
theorem valV_isSome {κ : Type} [DecidableEq κ] {kvs : List (κ × V)} {k : κ} : (valV kvs k).isSome = (kix (kvs.map (·.1)) k).isSome := by
  rw [valV_kix]
  cases h : kix (kvs.map (·.1)) k with
  | none => rfl
  | some i =>
    have := (kix_lt h).1
    rw [List.length_map] at this
    simp [this]
theorem in_dic {neg : Bool} {k : Key} {ks : List Key} {ds : List Dat} (h : DicD own e ks ds) (p : P (.bl (if neg then !(kix ks k).isSome else (kix ks k).isSome)) own) : R2X K (uIn K neg) (keyD k) e own P := fun F V0 H x y hs hx hy Q q => by
  obtain ⟨a, kvs, rfl, ha, hk, l⟩ := h.rd hs hy
  obtain rfl := keyD_v hx
  refine .inr (.inl ⟨a, _, rfl, .inl ⟨kvs, k, ha, rfl, rfl⟩, ?_⟩)
  rw [valV_isSome, hk]
  exact q _ H _ own hs (Same.refl _) (.bl _) p
end
end Sy
/-! Rules of the symbolic layer: items, slices, fields, tests, calls. -/
namespace Sy
open PySem L2
section
variable {K : KX} {own o1 l r : Own} {sl : SL} {P : PD} {d e : Dat} {X : Cx} {ta tb tc te : TE}

/-! ### items -/
theorem DaL.atI {W : Hp} {vs : List V} {ds : List Dat} {i : Int} (h : DaL K W vs ds) (e : atI ds i = some d) : ∃ v, L2.atI vs i = some v ∧ Da K W v d := by
  unfold L2.atI at e ⊢
  rw [h.length]
  cases q : ixN ds.length i with
  | none => rw [q] at e; cases e
  | some j =>
    rw [q] at e
    exact h.get e
def rIxDic : R2 := fun x y H Q => ∃ a v, x = .ref a ∧ DGet H a y (some v) ∧ Q v H
theorem ix_dic (hu : X.A.units + 1 < cLine) : IxR X rIxDic := by
  intro value slice pins s σ H x y v u Q I rx ry h hs
  obtain ⟨a, z, rfl, g, q⟩ := h
  obtain rfl : v = Value.ref a := rx
  have hT := dict_typeIs I g
  have hl := PySem.F.slot_dict_getitem.lookup
  have h' : wpAny (model X.prog X.w) X.A (getItem (.ref a) u) (EP X pins σ Q) X.xe s := d_getItem hu I g ry fun w' s3 I3 rw' => ⟨z, H, I3, rw', q⟩
  unfold PyProof.Rows.subscriptTail
  refine wpAny_bind ?_
  rw [getitemInPython_of_ne hT.not_modules]
  refine wpAny_bind (wpAny_specialOf hT hl ?_)
  have fin : wpAny (model X.prog X.w) X.A (subscripted slice false (.ref a) u) (fun r s₃ => wpAny (model X.prog X.w) X.A (letTemporaryGo value (.ref a) r >>= fun _ => pure r) (EP X pins σ Q) X.xe s₃) X.xe s := by
    rw [hs]
    exact wpAny_operating (wpAny_mono h' (fun r s₃ h₃ => wpAny_bind (wpAny_letTemporaryGo (wpAny_pure h₃))) fun _ _ x => x)
  first
    | exact wpAny_pure (wpAny_bind fin)
    | exact wpAny_bind (wpAny_pure (wpAny_bind fin))
    | exact wpAny_bind fin
def uIx (K : PySem.W.Frag) : R2 := fun x y H Q => rIxL K x y H Q ∨ rIxT K x y H Q ∨ rIxS x y H Q ∨ rIxDic x y H Q
theorem ix_U (hu : X.A.units + 1 < cLine) : IxR X (uIx X.K) := IxR.or ix_list (IxR.or ix_tup (IxR.or ix_str (ix_dic hu)))
theorem ix_lst {ds : List Dat} {i : Int} (h : LstD own d ds) (hi : atI ds i = some e) (p : P e own) : R2X K (uIx K) d (.int i) own P := fun F V0 H x y hs hx hy Q q => by
  obtain ⟨a, vs, rfl, ha, l⟩ := h.sq hs hx
  cases hy
  obtain ⟨v, e1, e2⟩ := l.atI hi
  exact .inl ⟨a, vs, i, v, rfl, rfl, ha, e1, q _ H _ own hs (Same.refl _) e2 p⟩
theorem ix_tp {ds : List Dat} {i : Int} (hi : atI ds i = some e) (p : P e own) : R2X K (uIx K) (.tup ds) (.int i) own P := fun F V0 H x y hs hx hy Q q => by
  cases hx with
  | tup ha l =>
    cases hy
    obtain ⟨v, e1, e2⟩ := l.atI hi
    exact .inr (.inl ⟨_, _, i, v, rfl, rfl, tq vis_sub ha, e1, q _ H _ own hs (Same.refl _) e2 p⟩)
theorem ix_st {z : Str} {i : Int} {c : Nat} (hz : z.length ≤ sizeLine) (hi : atI z.cps.toList i = some c) (p : P (.str ⟨#[c]⟩) own) : R2X K (uIx K) (.str z) (.int i) own P := fun F V0 H x y hs hx hy Q q => by
  cases hx; cases hy
  exact .inr (.inr (.inl ⟨z, i, c, rfl, rfl, hz, hi, q _ H _ own hs (Same.refl _) (.str _) p⟩))
theorem ix_dc {k : Key} {ks : List Key} {ds : List Dat} {i : Nat} (h : DicD own d ks ds) (hi : kix ks k = some i) (he : ds[i]? = some e) (p : P e own) : R2X K (uIx K) d (keyD k) own P := fun F V0 H x y hs hx hy Q q => by
  obtain ⟨a, kvs, rfl, ha, hk, l⟩ := h.rd hs hx
  obtain rfl := keyD_v hy
  obtain ⟨v, e1, e2⟩ := l.get he
  refine .inr (.inr (.inr ⟨a, v, rfl, .inl ⟨kvs, k, ha, rfl, ?_⟩, q _ H _ own hs (Same.refl _) e2 p⟩))
  rw [valV_kix, hk, hi]
  exact e1.symm

/-! ### slices -/
def cutD (ds : List Dat) (lo hi : Option Int) : List Dat := (ds.drop (HT.sIx ds.length 0 lo)).take (HT.sIx ds.length ds.length hi - HT.sIx ds.length 0 lo)
theorem DaL.cut {W : Hp} {vs : List V} {ds : List Dat} (h : DaL K W vs ds) (lo hi : Option Int) : DaL K W (cutV vs lo hi) (cutD ds lo hi) := by
  unfold cutV cutD
  rw [h.length]
  exact (h.drop _).take _
def uSl (K : PySem.W.Frag) : V → Option Int → Option Int → Hp → VK → Prop := fun x lo hi H Q => rSlL K x lo hi H Q ∨ rSlS x lo hi H Q ∨ rSlA K x lo hi H Q
theorem sl_U : SlR X (uSl X.K) := SlR.or sl_list (SlR.or sl_str sl_tupA)
theorem ox_none {P : Option Int → Own → Prop} (p : P none own) : OX K tNoPart sl own P := fun F V0 σ H hs hl Q q => q none H own hs (Same.refl _) p
theorem ox_some {P : Option Int → Own → Prop} (h : EX K te sl own fun d o => ∃ i, d = .int i ∧ P (some i) o) : OX K (tPart te) sl own P := fun F V0 σ H hs hl Q q => by
  refine h F V0 σ H hs hl _ fun v H1 d o1 hs1 e1 hd1 ⟨i, e, p⟩ => ?_
  subst e
  cases hd1
  exact ⟨i, rfl, q _ H1 o1 hs1 e1 p⟩
def S3X (K : KX) (d : Dat) (lo hi : Option Int) (own : Own) (P : PD) : Prop := ∀ (F V0 H : Hp) (x : V), Hs K F V0 H own → Da K (vis F own H) x d →
  ∀ Q : VK, (∀ v H' d own', Hs K F V0 H' own' → Same (vis F own H) (vis F own' H') → Da K (vis F own' H') v d → P d own' → Q v H') → uSl K x lo hi H Q
theorem ex_sl {tl th : TO} (h : EX K te sl own fun d o => OX K tl sl o fun lo o2 => OX K th sl o2 fun hi o3 => S3X K d lo hi o3 P) : EX K (tSl (uSl K) te tl th) sl own P := fun F V0 σ H hs hl Q q => by
  refine h F V0 σ H hs hl _ fun v H1 d1 o1 hs1 e1 hd1 p1 => ?_
  refine p1 F V0 σ H1 hs1 (hl.mono e1) _ fun lo H2 o2 hs2 e2 p2 => ?_
  refine p2 F V0 σ H2 hs2 (hl.mono (e1.trans e2)) _ fun hi H3 o3 hs3 e3 p3 => ?_
  exact p3 F V0 H3 v hs3 (hd1.mono (e2.trans e3)) Q fun z H4 d4 o4 hs4 e4 hd4 p4 => q z H4 d4 o4 hs4 (((e1.trans e2).trans e3).trans e4) hd4 p4
theorem sl_lst {lo hi : Option Int} {ds : List Dat} (h : LstD own d ds) (p : P (.lst (cutD ds lo hi)) own) : S3X K d lo hi own P := fun F V0 H x hs hx Q q => by
  obtain ⟨a, vs, rfl, ha, l⟩ := h.sq hs hx
  refine .inl ⟨a, vs, rfl, ha, fun c hc => ?_⟩
  obtain ⟨g1, g2, g3⟩ := vis_newd (o := .lst (cutV vs lo hi)) hs hc
  exact q _ _ _ own g1 g2 (.lst g3 ((l.cut lo hi).mono g2)) p
theorem sl_st {lo hi : Option Int} {z : Str} (hz : z.length ≤ sizeLine) (p : P (.str (cutS z lo hi)) own) : S3X K (.str z) lo hi own P := fun F V0 H x hs hx Q q => by
  cases hx
  exact .inr (.inl ⟨z, rfl, hz, q _ H _ own hs (Same.refl _) (.str _) p⟩)
theorem cutV_all {vs : List V} {lo hi : Option Int} (h : HT.sIx vs.length 0 lo = 0 ∧ HT.sIx vs.length vs.length hi = vs.length) : cutV vs lo hi = vs := by
  unfold cutV
  rw [h.1, h.2]
  simp
theorem sl_tp {lo hi : Option Int} {ds : List Dat} (p : P (.tup (cutD ds lo hi)) own) : S3X K (.tup ds) lo hi own P := fun F V0 H x hs hx Q q => by
  cases hx with
  | tup ha l =>
    rename_i a xs
    refine .inr (.inr ⟨a, xs, rfl, tq vis_sub ha, fun z => ?_, fun z c hc => ?_⟩)
    · have := l.cut lo hi
      rw [cutV_all z] at this
      exact q _ H _ own hs (Same.refl _) (.tup ha this) p
    · obtain ⟨g1, g2, g3⟩ := vis_newd (o := .tup (cutV xs lo hi)) hs hc
      exact q _ _ _ own g1 g2 (.tup g3 ((l.cut lo hi).mono g2)) p

/-! ### fields -/
/-- the attribute f of d is read -/
def FgW (K : KX) (f : Str) (d : Dat) (o : Own) (P : PD) : Prop := ∃ C ns ds i e, ObjD o d C ns ds ∧ Cls K C ∧ NoAttr K C f ∧ fidx ns f = some i ∧ ds[i]? = some e ∧ P e o
theorem ex_fld {f : Str} (h : EX K ta sl own fun d o => FgW K f d o P) : EX K (tFld K ta f) sl own P := fun F V0 σ H hs hl Q q => by
  refine h F V0 σ H hs hl _ fun v H1 d1 o1 hs1 e1 hd1 ⟨C, ns, ds, i, e, ho, hc, hn, hf, he, p⟩ => ?_
  obtain ⟨a, dx, gs, rfl, ha, hk, hg⟩ := ho.ob hs1 hd1
  obtain ⟨v, e2, e3⟩ := fidx_some hf hk hg he
  exact ⟨a, C, dx, gs, v, rfl, ha, hc, hn, e2, q v H1 e o1 hs1 e1 e3 p⟩

/-! ### tests -/
def TruD (own : Own) (d : Dat) (b : Bool) : Prop := match d with
  | .non => b = false
  | .bl k => b = k
  | .int i => b = (i != 0)
  | .str z => z.length ≤ sizeLine ∧ b = ((z.length : Int) != 0)
  | .tup ds => b = !ds.isEmpty
  | .lst ds => b = !ds.isEmpty
  | .scr ds => b = !ds.isEmpty
  | .ptr a => (∃ ds, (a, Cell.lst ds) ∈ own ∧ b = !ds.isEmpty) ∨ (∃ ks ds, (a, Cell.dK ks ds) ∈ own ∧ b = !ks.isEmpty)
  | _ => False
theorem DaL.empty {W : Hp} {vs : List V} {ds : List Dat} (h : DaL K W vs ds) : vs.isEmpty = ds.isEmpty := by cases h <;> rfl
theorem TruD.ok {F V0 H : Hp} {x : V} {b : Bool} (hs : Hs K F V0 H own) (hd : Da K (vis F own H) x d) (h : TruD own d b) : TruV K x H b := by
  cases hd with
  | non => exact h
  | bl => exact h
  | int => exact h
  | str => exact h
  | tup ha l => exact .inr (.inl ⟨_, tq vis_sub ha, by rw [l.empty]; exact h⟩)
  | lst ha l => exact .inl ⟨_, .inl (.inl (vis_sub _ _ ha)), by rw [l.empty]; exact h⟩
  | scr ha l => exact .inl ⟨_, sq_l vis_sub ha, by rw [l.empty]; exact h⟩
  | obj => exact h.elim
  | dic => exact h.elim
  | ptr a =>
    rcases h with ⟨ds, hm, e⟩ | ⟨ks, ds, hm, e⟩
    · have c := hs.cell _ hm
      cases c with
      | lst h l => exact .inl ⟨_, .inl (.inl h), by rw [l.empty]; exact e⟩
    · have c := hs.cell _ hm
      cases c with
      | dK h n u l =>
        refine .inr (.inr ⟨_, h, ?_⟩)
        rw [e, ← n]
        cases ‹List (Key × V)› <;> rfl
theorem tx_test {P : Bool → Own → Prop} (h : EX K te sl own fun d o => ∃ b, d = .bl b ∧ P b o) : TX K (tTest te) sl own P := fun F V0 σ H hs hl Q q => by
  refine h F V0 σ H hs hl _ fun v H1 d1 o1 hs1 e1 hd1 ⟨b, e, p⟩ => ?_
  subst e
  cases hd1
  exact ⟨b, rfl, q b H1 o1 hs1 e1 p⟩
def tTru (K : PySem.W.Frag) (ta : TE) : TT := fun σ H Q => ta σ H fun x H' => ∃ k, TruV K x H' k ∧ Q k H'
theorem pt_tru {a : Expr} (ha : PE X a ta) (he : ∀ whole, isTrue a X.env whole = (do let v ← whole; standAt a.pos; holding [v] (truthy v))) : PT X a (tTru X.K ta) := pt_truth ha he
theorem tx_tru {P : Bool → Own → Prop} (h : EX K te sl own fun d o => ∃ b, TruD o d b ∧ P b o) : TX K (tTru K te) sl own P := fun F V0 σ H hs hl Q q => by
  refine h F V0 σ H hs hl _ fun v H1 d1 o1 hs1 e1 hd1 ⟨b, e, p⟩ => ?_
  exact ⟨b, e.ok hs1 hd1, q b H1 o1 hs1 e1 p⟩
theorem tx_and {t u : TT} {P : Bool → Own → Prop} (h : TX K t sl own fun b o => if b = true then TX K u sl o P else P false o) : TX K (tAnd t u) sl own P := fun F V0 σ H hs hl Q q => by
  refine h F V0 σ H hs hl _ fun b H1 o1 hs1 e1 p => ?_
  cases b with
  | true => exact iteT ((show TX K u sl o1 P from p) F V0 σ H1 hs1 (hl.mono e1) Q fun b H2 o2 hs2 e2 p2 => q b H2 o2 hs2 (e1.trans e2) p2)
  | false => exact iteF (q false H1 o1 hs1 e1 p)
theorem tx_or {t u : TT} {P : Bool → Own → Prop} (h : TX K t sl own fun b o => if b = true then P true o else TX K u sl o P) : TX K (tOr t u) sl own P := fun F V0 σ H hs hl Q q => by
  refine h F V0 σ H hs hl _ fun b H1 o1 hs1 e1 p => ?_
  cases b with
  | true => exact iteT (q true H1 o1 hs1 e1 p)
  | false => exact iteF ((show TX K u sl o1 P from p) F V0 σ H1 hs1 (hl.mono e1) Q fun b H2 o2 hs2 e2 p2 => q b H2 o2 hs2 (e1.trans e2) p2)
theorem tx_not {t : TT} {P : Bool → Own → Prop} (h : TX K t sl own fun b o => P (!b) o) : TX K (tNot t) sl own P := fun F V0 σ H hs hl Q q =>
  h F V0 σ H hs hl _ fun b H1 o1 hs1 e1 p => q _ H1 o1 hs1 e1 p
theorem tx_yes {P : Bool → Own → Prop} (p : P true own) : TX K tYes sl own P := fun F V0 σ H hs hl Q q => q _ H own hs (Same.refl _) p
theorem tx_mono {t : TT} {P P' : Bool → Own → Prop} (h : TX K t sl own P') (m : ∀ b o, P' b o → P b o) : TX K t sl own P := fun F V0 σ H hs hl Q q => h F V0 σ H hs hl Q fun b H1 o1 hs1 e1 p => q b H1 o1 hs1 e1 (m b o1 p)
theorem ex_if {t : TT} (h : TX K t sl own fun b o => if b = true then EX K ta sl o P else EX K tb sl o P) : EX K (tIf t ta tb) sl own P := fun F V0 σ H hs hl Q q => by
  refine h F V0 σ H hs hl _ fun b H1 o1 hs1 e1 p => ?_
  cases b with
  | true => exact iteT ((show EX K ta sl o1 P from p) F V0 σ H1 hs1 (hl.mono e1) Q fun v H2 d o2 hs2 e2 p2 => q v H2 d o2 hs2 (e1.trans e2) p2)
  | false => exact iteF ((show EX K tb sl o1 P from p) F V0 σ H1 hs1 (hl.mono e1) Q fun v H2 d o2 hs2 e2 p2 => q v H2 d o2 hs2 (e1.trans e2) p2)
/-- and, or, not as values -/
theorem ex_andT (h : EX K ta sl own fun d o => ∃ b, TruD o d b ∧ if b = true then EX K tb sl o P else P d o) : EX K (tAndT K ta tb) sl own P := fun F V0 σ H hs hl Q q => by
  refine h F V0 σ H hs hl _ fun v H1 d1 o1 hs1 e1 hd1 ⟨b, e, p⟩ => ⟨b, e.ok hs1 hd1, ?_⟩
  cases b with
  | true => exact iteT ((show EX K tb sl o1 P from p) F V0 σ H1 hs1 (hl.mono e1) Q fun v H2 d o2 hs2 e2 p2 => q v H2 d o2 hs2 (e1.trans e2) p2)
  | false => exact iteF (q v H1 d1 o1 hs1 e1 hd1 p)
theorem ex_orT (h : EX K ta sl own fun d o => ∃ b, TruD o d b ∧ if b = true then P d o else EX K tb sl o P) : EX K (tOrT K ta tb) sl own P := fun F V0 σ H hs hl Q q => by
  refine h F V0 σ H hs hl _ fun v H1 d1 o1 hs1 e1 hd1 ⟨b, e, p⟩ => ⟨b, e.ok hs1 hd1, ?_⟩
  cases b with
  | true => exact iteT (q v H1 d1 o1 hs1 e1 hd1 p)
  | false => exact iteF ((show EX K tb sl o1 P from p) F V0 σ H1 hs1 (hl.mono e1) Q fun v H2 d o2 hs2 e2 p2 => q v H2 d o2 hs2 (e1.trans e2) p2)
theorem ex_notT (h : EX K ta sl own fun d o => ∃ b, TruD o d b ∧ P (.bl (!b)) o) : EX K (tNotT K ta) sl own P := fun F V0 σ H hs hl Q q => by
  refine h F V0 σ H hs hl _ fun v H1 d1 o1 hs1 e1 hd1 ⟨b, e, p⟩ => ⟨b, e.ok hs1 hd1, ?_⟩
  exact q _ H1 _ o1 hs1 e1 (.bl _) p
/-- a < b < c -/
theorem ex_chain {r r' : R2} (h : EX K ta sl own fun x o1 => EX K tb sl o1 fun y o2 => R2X K r x y o2 fun z o3 => ∃ k, z = .bl k ∧ if k = true then EX K tc sl o3 fun w o4 => R2X K r' y w o4 P else P (.bl false) o3) : EX K (tChain r r' ta tb tc) sl own P := fun F V0 σ H hs hl Q q => by
  refine h F V0 σ H hs hl _ fun v H1 d1 o1 hs1 e1 hd1 p1 => ?_
  refine p1 F V0 σ H1 hs1 (hl.mono e1) _ fun w H2 d2 o2 hs2 e2 hd2 p2 => ?_
  refine p2 F V0 H2 v w hs2 (hd1.mono e2) hd2 _ fun z H3 d3 o3 hs3 e3 hd3 ⟨k, e, p3⟩ => ?_
  subst e
  cases hd3
  refine ⟨k, rfl, ?_⟩
  cases k with
  | true =>
    refine iteT ((show EX K tc sl o3 _ from p3) F V0 σ H3 hs3 (hl.mono ((e1.trans e2).trans e3)) _ fun u H4 d4 o4 hs4 e4 hd4 p4 => ?_)
    exact p4 F V0 H4 w u hs4 (hd2.mono (e3.trans e4)) hd4 Q fun z H5 d5 o5 hs5 e5 hd5 p5 => q z H5 d5 o5 hs5 ((((e1.trans e2).trans e3).trans e4).trans e5) hd5 p5
  | false => exact iteF (q _ H3 _ o3 hs3 ((e1.trans e2).trans e3) (.bl _) p3)

/-! ### promises over data -/
/-- what is wanted of an exception: its class, its own dict, the cells -/
abbrev XD := Value → Option Addr → Own → Prop
abbrev Con := List Dat → Own → PD → XD → Prop
def SpG (K : PySem.W.Frag) (C : Con) : Sp := fun vs H Q E => ∃ (F V0 : Hp) (own : Own) (args : List Dat) (P : PD) (XP : XD), HsC K F V0 H own ∧ DaL K (vis F own H) vs args ∧ C args own P XP ∧
  (∀ v H' d own', HsC K F V0 H' own' → Same (vis F own H) (vis F own' H') → Da K (vis F own' H') v d → P d own' → Q v H') ∧
  (∀ c dx H' own', HsC K F V0 H' own' → Same (vis F own H) (vis F own' H') → XP c dx own' → E c dx H')
def noX : XD := fun _ _ _ => False
theorem ex_call {C : Con} {dvs : List V} {dds : List Dat} {E : XK} {t : TA} (hd : ∀ W, DaL K.K W dvs dds) (h : AX K t sl own fun ds o => C (ds ++ dds) o P noX) : EX K (tCall (SpG K.K C) dvs E t) sl own P := fun F V0 σ H hs hl Q q => by
  refine h F V0 σ H hs hl _ fun vs H1 ds o1 hs1 e1 hd1 p1 => ?_
  exact ⟨F, V0, o1, ds ++ dds, P, noX, hs1.c, hd1.append (hd _), p1, fun v H2 d o2 hs2 e2 hd2 p2 => q v H2 d o2 ⟨hs2, hs1.x⟩ (e1.trans e2) hd2 p2, fun _ _ _ _ _ _ z => z.elim⟩
theorem ex_call0 {C : Con} {E : XK} {t : TA} (h : AX K t sl own fun ds o => C ds o P noX) : EX K (tCall (SpG K.K C) [] E t) sl own P := ex_call (dds := []) (fun _ => .nil) (by
  intro F V0 σ H hs hl Q q
  exact h F V0 σ H hs hl Q fun vs H1 ds o1 a b c p => q vs H1 ds o1 a b c (by show C (ds ++ []) o1 P noX; rw [List.append_nil]; exact p))
/-- what is wished of an exception, the slots given -/
abbrev KX.x (K : KX) (sl : SL) : XD := fun c dx o => K.xp c dx sl o
abbrev KX.E (K : KX) : L2.St → XK := fun σ c d H => K.w c d σ H
/-- a call that may raise -/
theorem ex_callX {C : Con} {t : TA} (h : AX K t sl own fun ds o => C ds o P (K.x sl)) : EX K (tCallSD (SpG K.K C) [] K.E t) sl own P := fun F V0 σ H hs hl Q q => by
  refine h F V0 σ H hs hl _ fun vs H1 ds o1 hs1 e1 hd1 p1 => ?_
  refine ⟨F, V0, o1, ds, P, K.x sl, hs1.c, by rw [List.append_nil]; exact hd1, p1, fun v H2 d o2 hs2 e2 hd2 p2 => q v H2 d o2 ⟨hs2, hs1.x⟩ (e1.trans e2) hd2 p2, fun c dx H2 o2 hs2 e2 p2 => ?_⟩
  exact hs1.x c dx σ sl H2 o2 hs2 (hl.mono (e1.trans e2)) p2
theorem ex_meth {C : Con} {Ca : Addr} {m : Str} {dvs : List V} {dds : List Dat} {E : XK} {t : TA} (hd : ∀ W, DaL K.K W dvs dds) (h : EX K ta sl own fun d o => ∃ ns ds0, ObjD o d Ca ns ds0 ∧ fidx ns m = none ∧ AX K t sl o fun ds o => C (d :: (ds ++ dds)) o P noX) : EX K (tMeth Ca m (SpG K.K C) dvs E ta t) sl own P := fun F V0 σ H hs hl Q q => by
  refine h F V0 σ H hs hl _ fun v H1 d o1 hs1 e1 hd1 ⟨ns, ds0, ho, hm, p1⟩ => ?_
  obtain ⟨a, dx, gs, rfl, ha, hk, hg⟩ := ho.ob hs1 hd1
  refine ⟨a, dx, gs, rfl, ha, fidx_none hm hk, ?_⟩
  refine p1 F V0 σ H1 hs1 (hl.mono e1) _ fun vs H2 ds o2 hs2 e2 hd2 p2 => ?_
  exact ⟨F, V0, o2, d :: (ds ++ dds), P, noX, hs2.c, .cons (hd1.mono e2) (hd2.append (hd _)), p2, fun v H3 d o3 hs3 e3 hd3 p3 => q v H3 d o3 ⟨hs3, hs2.x⟩ ((e1.trans e2).trans e3) hd3 p3, fun _ _ _ _ _ _ z => z.elim⟩
theorem ex_meth0 {C : Con} {Ca : Addr} {m : Str} {E : XK} {t : TA} (h : EX K ta sl own fun d o => ∃ ns ds0, ObjD o d Ca ns ds0 ∧ fidx ns m = none ∧ AX K t sl o fun ds o => C (d :: ds) o P noX) : EX K (tMeth Ca m (SpG K.K C) [] E ta t) sl own P :=
  ex_meth (dds := []) (fun _ => .nil) (ex_mono h fun d o ⟨ns, ds0, a, b, c⟩ => ⟨ns, ds0, a, b, fun F V0 σ H hs hl Q q => c F V0 σ H hs hl Q fun vs H1 ds o1 x y z p => q vs H1 ds o1 x y z (by show C (d :: (ds ++ [])) o1 P noX; rw [List.append_nil]; exact p)⟩)
/-- o.m(e, ..) where what is raised is wished for at the caller's slots -/
def tMethSD (C : Addr) (m : Str) (sp : Sp) (E : L2.St → XK) (ta : TE) (t : TA) : TE := fun σ H Q => ta σ H fun x H1 => ∃ a dx fs, x = .ref a ∧ H1 a = some (.ins C dx fs) ∧ fs.lookup m = none ∧ t σ H1 fun vs H2 => sp (.ref a :: vs) H2 Q (E σ)
theorem ex_methX {C : Con} {Ca : Addr} {m : Str} {t : TA} (h : EX K ta sl own fun d o => ∃ ns ds0, ObjD o d Ca ns ds0 ∧ fidx ns m = none ∧ AX K t sl o fun ds o => C (d :: ds) o P (K.x sl)) : EX K (tMethSD Ca m (SpG K.K C) K.E ta t) sl own P := fun F V0 σ H hs hl Q q => by
  refine h F V0 σ H hs hl _ fun v H1 d o1 hs1 e1 hd1 ⟨ns, ds0, ho, hm, p1⟩ => ?_
  obtain ⟨a, dx, gs, rfl, ha, hk, hg⟩ := ho.ob hs1 hd1
  refine ⟨a, dx, gs, rfl, ha, fidx_none hm hk, ?_⟩
  refine p1 F V0 σ H1 hs1 (hl.mono e1) _ fun vs H2 ds o2 hs2 e2 hd2 p2 => ?_
  refine ⟨F, V0, o2, d :: ds, P, K.x sl, hs2.c, .cons (hd1.mono e2) hd2, p2, fun v H3 d o3 hs3 e3 hd3 p3 => q v H3 d o3 ⟨hs3, hs2.x⟩ ((e1.trans e2).trans e3) hd3 p3, fun c dx H3 o3 hs3 e3 p3 => ?_⟩
  exact hs2.x c dx σ sl H3 o3 hs3 (hl.mono ((e1.trans e2).trans e3)) p3
section
variable {CX : CXT} {k : Nat} {C f : Addr} {m : Str} {fd : FuncData} {ps : List Str} {sp : Sp} {E : L2.St → XK} {o e1 : Expr} {es : List Expr} {t : TA} {apos pos : Pos}
theorem pe_methSD {pl : Sem Bool} (he : PE X o ta) (c : Cls X.K C) (hm : Meth X.K C m f) (F : FnOk X.prog X.w X.K X.mg X.base CX k f fd ps sp) (hr : Room k X.A) (hb : Binds X.K fd ps []) (hx : ∀ σ, PassesAt CX X σ (E σ)) (ha : PA X (e1 :: es) t)
    (h1 : starEach (e1 :: es) X.env = (false, eval e1 X.env) :: starEach es X.env := by rfl) (h2 : (backTo pos (starEach es X.env)).any (·.1) = false := by rfl)
    (h3 : eval (.Call (.Attribute o m apos) (e1 :: es) [] pos) X.env = (do
      let ov ← eval o X.env
      standAt apos.atName
      let fx ← holding [ov] (getMethod ov m pl)
      callWith pos fx.1 fx.2 (backTo pos (starEach (e1 :: es) X.env)) (backToKw pos (keywordEach [] X.env))) := by rfl) : PE X (.Call (.Attribute o m apos) (e1 :: es) [] pos) (tMethSD C m sp E ta t) :=
  ⟨fun pins s σ H Q I h => PySem.W.methodCall_KW (pl := pl) (thn (he.run pins s σ H _ I h) fun u s1 ⟨x, H1, I1, rx, a, dx, fs, ex, ea, l, q⟩ => by
    subst ex
    obtain rfl : u = Value.ref a := rx
    exact getmeth_ok I1 ea c hm l (PySem.W.callWith_K (first := [.ref a]) (h₀ := X.base) I.ok.mod.kin hm.kp (thn (ha.run pos pins s1 σ H1 _ I1 q) fun us s2 ⟨vs, H2, I2, r, q2⟩ => ⟨I2.kIn, run_fnSD (us := .ref a :: us) (vs := .ref a :: vs) (dvs := []) F hr hb .nil (hx σ) I2 (.cons rfl r) (by rw [List.append_nil]; exact q2)⟩) h1 h2)) h3⟩
theorem pe_methSD0 {pl : Sem Bool} (he : PE X o ta) (c : Cls X.K C) (hm : Meth X.K C m f) (F : FnOk X.prog X.w X.K X.mg X.base CX k f fd ps sp) (hr : Room k X.A) (hb : Binds X.K fd ps []) (hx : ∀ σ, PassesAt CX X σ (E σ))
    (h3 : eval (.Call (.Attribute o m apos) [] [] pos) X.env = (do
      let ov ← eval o X.env
      standAt apos.atName
      let fx ← holding [ov] (getMethod ov m pl)
      callWith pos fx.1 fx.2 (backTo pos (starEach [] X.env)) (backToKw pos (keywordEach [] X.env))) := by rfl) : PE X (.Call (.Attribute o m apos) [] [] pos) (tMethSD C m sp E ta tNil) :=
  ⟨fun pins s σ H Q I h => PySem.W.methodCall_KW (pl := pl) (thn (he.run pins s σ H _ I h) fun u s1 ⟨x, H1, I1, rx, a, dx, fs, ex, ea, l, q⟩ => by
    subst ex
    obtain rfl : u = Value.ref a := rx
    exact getmeth_ok I1 ea c hm l (PySem.W.callWith_K0 (first := [.ref a]) I1.kIn hm.kp (run_fnSD (us := [.ref a]) (vs := [.ref a]) (dvs := []) F hr hb .nil (hx σ) I1 (.cons rfl .nil) q))) h3⟩
end
/-- C(..): a new instance, an owned cell -/
theorem ex_make {C : Con} {Ca : Addr} {E : XK} {t : TA} (h : AX K t sl own fun ds o => ∀ x, x ∉ o.map (·.1) → C (.ptr x :: ds) ((x, .ins Ca [] []) :: o) (fun d o' => d = .non ∧ P (.ptr x) o') noX) : EX K (tMake Ca (SpG K.K C) [] E t) sl own P := fun F V0 σ H hs hl Q q => by
  refine h F V0 σ H hs hl _ fun vs H1 ds o1 hs1 e1 hd1 p1 => ?_
  intro x dx nx ndx ne
  have s1 : Same H1 (upd H1 dx (.own x)) := same_new ndx
  have hs2 := hs1.grow s1
  have g1 := vis_grow hs1 s1
  have nx2 : upd H1 dx (.own x) x = none := by rw [upd_ne ne.symm]; exact nx
  have hs3 := hs2.new (o := .ins Ca dx []) nx2 (c := .ins Ca [] []) (.ins (gs := []) upd_same rfl .nil)
  have ev : vis F ((x, Cell.ins Ca [] []) :: o1) (upd (upd H1 dx (.own x)) x (.ins Ca dx [])) = vis F o1 (upd H1 dx (.own x)) := vis_new hs2 nx2
  refine ⟨F, V0, (x, .ins Ca [] []) :: o1, .ptr x :: ds, _, noX, hs3.c, .cons (.ptr x) ?_, p1 x (fresh_own hs2 nx2), fun v H3 d o3 hs3 e3 hd3 ⟨z, p3⟩ => ?_, fun _ _ _ _ _ _ z => z.elim⟩
  · rw [ev, List.append_nil]; exact hd1.mono g1
  · subst z
    cases hd3
    rw [ev] at e3
    exact ⟨rfl, q _ H3 _ o3 ⟨hs3, hs2.x⟩ ((e1.trans g1).trans e3) (.ptr x) p3⟩
/-- built-in functions and methods -/
theorem ex_cb {r : List V → Hp → VK → Prop} {t : TA} (h : AX K t sl own fun ds o => RLX K r ds o P) : EX K (tCB r t) sl own P := fun F V0 σ H hs hl Q q => by
  refine h F V0 σ H hs hl _ fun vs H1 ds o1 hs1 e1 hd1 p1 => ?_
  exact p1 F V0 H1 vs hs1 hd1 Q fun v H2 d o2 hs2 e2 hd2 p2 => q v H2 d o2 hs2 (e1.trans e2) hd2 p2
theorem ex_m1 {r : V → List V → Hp → VK → Prop} (h : EX K ta sl own fun d o => ∃ z, d = .str z ∧ EX K te sl o fun e o2 => RMX K r d [e] o2 P) : EX K (tM1 r ta te) sl own P := fun F V0 σ H hs hl Q q => by
  refine h F V0 σ H hs hl _ fun v H1 d o1 hs1 e1 hd1 ⟨z, e, p1⟩ => ?_
  subst e
  refine ⟨by cases hd1; exact ⟨_, rfl⟩, ?_⟩
  refine p1 F V0 σ H1 hs1 (hl.mono e1) _ fun w H2 d2 o2 hs2 e2 hd2 p2 => ?_
  exact p2 F V0 H2 v [w] hs2 (hd1.mono e2) (.cons hd2 .nil) Q fun v H3 d o3 hs3 e3 hd3 p3 => q v H3 d o3 hs3 ((e1.trans e2).trans e3) hd3 p3
end
end Sy
/-! Rules of the symbolic layer: targets, statements, loops, comprehensions. -/
namespace Sy
open PySem L2

structure DE where
  nx : SL → Own → Prop
  rt : Dat → Own → Prop
  bk : SL → Own → Prop := fun _ _ => False
  ct : SL → Own → Prop := fun _ _ => False

def SS (K : KX) (t : TS) (sl : SL) (own : Own) (D : DE) : Prop := ∀ (F V0 : Hp) (σ : L2.St) (H : Hp), Hs K F V0 H own → Sl K (vis F own H) σ sl → ∀ D' : Ends,
  (∀ σ' H' sl' own', Hs K F V0 H' own' → Same (vis F own H) (vis F own' H') → Sl K (vis F own' H') σ' sl' → D.nx sl' own' → D'.nx σ' H') →
  (∀ v H' d own', Hs K F V0 H' own' → Same (vis F own H) (vis F own' H') → Da K (vis F own' H') v d → D.rt d own' → D'.rt v H') →
  (∀ σ' H' sl' own', Hs K F V0 H' own' → Same (vis F own H) (vis F own' H') → Sl K (vis F own' H') σ' sl' → D.bk sl' own' → D'.bk σ' H') →
  (∀ σ' H' sl' own', Hs K F V0 H' own' → Same (vis F own H) (vis F own' H') → Sl K (vis F own' H') σ' sl' → D.ct sl' own' → D'.ct σ' H') →
  t D' σ H
/-- all slots but js are alike -/
def Agr (js : Nat → Prop) (σ σ' : L2.St) : Prop := σ'.length = σ.length ∧ ∀ j, ¬ js j → σ'[j]? = σ[j]?
abbrev anyJ : Nat → Prop := fun _ => True
/-- a target: js are the slots that it may store -/
def GX (K : KX) (g : TG) (js : Nat → Prop) (d : Dat) (sl : SL) (own : Own) (P : SL → Own → Prop) : Prop := ∀ (F V0 : Hp) (σ : L2.St) (H : Hp) (x : V), Hs K F V0 H own → Sl K (vis F own H) σ sl → Da K (vis F own H) x d →
  ∀ Q : L2.St → Hp → Prop, (∀ σ' H' sl' own', Hs K F V0 H' own' → Same (vis F own H) (vis F own' H') → Sl K (vis F own' H') σ' sl' → Agr js σ σ' → P sl' own' → Q σ' H') → g x σ H Q
def GsX (K : KX) (g : TGs) (js : Nat → Prop) (ds : List Dat) (sl : SL) (own : Own) (P : SL → Own → Prop) : Prop := ∀ (F V0 : Hp) (σ : L2.St) (H : Hp) (xs : List V), Hs K F V0 H own → Sl K (vis F own H) σ sl → DaL K (vis F own H) xs ds →
  ∀ Q : L2.St → Hp → Prop, (∀ σ' H' sl' own', Hs K F V0 H' own' → Same (vis F own H) (vis F own' H') → Sl K (vis F own' H') σ' sl' → Agr js σ σ' → P sl' own' → Q σ' H') → g xs σ H Q
def PtX (K : KX) (t : TSet) (d e f : Dat) (own : Own) (P : Own → Prop) : Prop := ∀ (F V0 H : Hp) (x y z : V), Hs K F V0 H own → Da K (vis F own H) x d → Da K (vis F own H) y e → Da K (vis F own H) z f →
  ∀ Q : Hp → Prop, (∀ H' own', Hs K F V0 H' own' → Same (vis F own H) (vis F own' H') → P own' → Q H') → t x y z H Q

section
variable {K : KX} {own o1 l r : Own} {sl : SL} {P : PD} {d e : Dat} {X : Cx} {ta tb tc te : TE} {D : DE} {t u : TS} {PS' : SL → Own → Prop}

theorem gx_name {i : Nat} {js : Nat → Prop} (hj : js i) (p : PS' (sl.set i (some d)) own) : GX K (gName i) js d sl own PS' := fun F V0 σ H x hs hl hd Q q =>
  q _ H _ own hs (Same.refl _) (hl.set i hd) ⟨List.length_set .., fun j hj2 => by rw [List.getElem?_set_ne]; intro z; subst z; exact hj2 hj⟩ p
theorem gsx_nil {js : Nat → Prop} (p : PS' sl own) : GsX K gNil js [] sl own PS' := fun F V0 σ H xs hs hl hd Q q => by
  cases hd
  exact ⟨rfl, q σ H sl own hs (Same.refl _) hl ⟨rfl, fun _ _ => rfl⟩ p⟩
theorem gsx_cons {g : TG} {gs : TGs} {js : Nat → Prop} {ds : List Dat} (h : GX K g js d sl own fun sl2 o2 => GsX K gs js ds sl2 o2 PS') : GsX K (gCons g gs) js (d :: ds) sl own PS' := fun F V0 σ H xs hs hl hd Q q => by
  cases hd with
  | cons h1 h2 =>
    refine ⟨_, _, rfl, h F V0 σ H _ hs hl h1 _ fun σ1 H1 sl1 o1 hs1 e1 hl1 j1 p1 => ?_⟩
    refine p1 F V0 σ1 H1 _ hs1 hl1 (h2.mono e1) Q fun σ2 H2 sl2 o2 hs2 e2 hl2 j2 p2 => ?_
    refine q σ2 H2 sl2 o2 hs2 (e1.trans e2) hl2 ⟨j2.1.trans j1.1, fun j hj => ?_⟩ p2
    rw [j2.2 j hj, j1.2 j hj]
theorem gx_tup {n : Nat} {gs : TGs} {js : Nat → Prop} {ds : List Dat} (hn : ds.length = n) (h : GsX K gs js ds sl own PS') : GX K (gTup K n gs) js (.tup ds) sl own PS' := fun F V0 σ H x hs hl hd Q q => by
  cases hd with
  | tup ha la => exact ⟨_, _, rfl, tq vis_sub ha, by rw [la.length]; exact hn, h F V0 σ H _ hs hl la Q q⟩
theorem gx_sub {js : Nat → Prop} {to ti : TE} {t : TSet} (h : EX K to sl own fun d1 o1 => EX K ti sl o1 fun d2 o2 => PtX K t d1 d2 d o2 (PS' sl)) : GX K (gSub to ti t) js d sl own PS' := fun F V0 σ H x hs hl hd Q q => by
  refine h F V0 σ H hs hl _ fun v H1 d1 o1 hs1 e1 hd1 p1 => ?_
  refine p1 F V0 σ H1 hs1 (hl.mono e1) _ fun w H2 d2 o2 hs2 e2 hd2 p2 => ?_
  refine p2 F V0 H2 v w x hs2 (hd1.mono e2) hd2 (hd.mono (e1.trans e2)) _ fun H3 o3 hs3 e3 p3 => ?_
  exact q σ H3 sl o3 hs3 ((e1.trans e2).trans e3) (hl.mono ((e1.trans e2).trans e3)) ⟨rfl, fun _ _ => rfl⟩ p3

/-! ### stores by place -/
def rSetDic : V → V → V → Hp → (Hp → Prop) → Prop := fun o i v H Q => ∃ a H', o = .ref a ∧ DPut H a i v H' ∧ Q H'
theorem set_dic (hu : X.A.units + 1 < cLine) : PSet X rSetDic := by
  intro pins s σ H o i v ov iv u Q I ro ri rv h
  obtain ⟨a, H', rfl, g, q⟩ := h
  obtain rfl : ov = Value.ref a := ro
  exact d_setItem hu I g ri rv fun s4 I4 => ⟨H', I4, q⟩
def uSet : TSet := fun o i v H Q => rSetL o i v H Q ∨ rSetDic o i v H Q
theorem set_U (hu : X.A.units + 1 < cLine) : PSet X uSet := by
  intro pins s σ H o i v ov iv u Q I ro ri rv h
  rcases h with h | h
  · exact set_list pins s σ H o i v ov iv u Q I ro ri rv h
  · exact set_dic hu pins s σ H o i v ov iv u Q I ro ri rv h
theorem set_lst {a : Addr} {ds : List Dat} {i : Int} {j : Nat} {f : Dat} {P : Own → Prop} (hj : ixN ds.length i = some j) (p : P (l ++ (a, .lst (ds.set j f)) :: r)) : PtX K uSet (.ptr a) (.int i) f (l ++ (a, .lst ds) :: r) P := fun F V0 H x y z hs hx hy hz Q q => by
  cases hx; cases hy
  have c := hs.cell _ (List.mem_append_right l List.mem_cons_self)
  cases c with
  | lst h1 t =>
    refine .inl ⟨a, _, i, j, rfl, rfl, h1, by rw [t.length]; exact hj, ?_⟩
    refine q _ (l ++ (a, .lst (ds.set j f)) :: r) (hs.put (.lst upd_same (t.set hz j))) ?_ p
    rw [vis_put (c := .lst ds)]; exact Same.refl _
theorem putK_pos {κ : Type} [DecidableEq κ] {p : κ × V} {kws : List (κ × V)} {k : κ} {v : V} (e : p.1 = k) (nd : k ∉ kws.map (·.1)) : putK (p :: kws) k v = (p.1, v) :: kws := by
  unfold putK
  rw [if_pos (by simp [e]), List.map_cons, if_pos e]
  congr 1
  have : ∀ q ∈ kws, (if q.1 = k then (q.1, v) else q) = q := fun q hq => if_neg fun z => nd (List.mem_map.mpr ⟨q, hq, z⟩)
  rw [List.map_congr_left this, List.map_id']
theorem putK_neg {κ : Type} [DecidableEq κ] {p : κ × V} {kws : List (κ × V)} {k : κ} {v : V} (e : ¬ p.1 = k) : putK (p :: kws) k v = p :: putK kws k v := by
  unfold putK
  rw [List.any_cons, decide_eq_false e, Bool.false_or]
  split
  · rw [List.map_cons, if_neg e]
  · rfl
theorem putK_keys {κ : Type} [DecidableEq κ] {W : Hp} {v : V} {k : κ} (hv : Da K W v d) : ∀ {kws : List (κ × V)} {ds : List Dat}, (kws.map (·.1)).Nodup → DaL K W (kws.map (·.2)) ds →
    (putK kws k v).map (·.1) = (match kix (kws.map (·.1)) k with | some _ => kws.map (·.1) | none => kws.map (·.1) ++ [k]) ∧
    DaL K W ((putK kws k v).map (·.2)) (match kix (kws.map (·.1)) k with | some i => ds.set i d | none => ds ++ [d])
  | [], ds, _, h => by
    rw [List.map_nil] at h
    cases h
    exact ⟨rfl, .cons hv .nil⟩
  | p :: kws, ds, nd, h => by
    rw [List.map_cons] at nd h
    obtain ⟨n1, n2⟩ := List.nodup_cons.mp nd
    cases h with
    | cons h1 h2 =>
      by_cases e : p.1 = k
      · have e2 : kix (p.1 :: kws.map (·.1)) k = some 0 := by unfold kix; rw [if_pos e]
        rw [putK_pos e (by rw [← e]; exact n1), List.map_cons, List.map_cons, List.map_cons, e2]
        exact ⟨rfl, .cons hv h2⟩
      · have e2 : kix (p.1 :: kws.map (·.1)) k = (kix (kws.map (·.1)) k).map (· + 1) := by
          show (if p.1 = k then _ else _) = _
          rw [if_neg e]
        obtain ⟨i1, i2⟩ := putK_keys hv (k := k) n2 h2
        rw [putK_neg e, List.map_cons, List.map_cons, List.map_cons, e2, i1]
        cases q : kix (kws.map (·.1)) k with
        | none => rw [q] at i2; exact ⟨rfl, .cons h1 i2⟩
        | some i => rw [q] at i2; exact ⟨rfl, .cons h1 i2⟩
theorem kix_none {κ : Type} [DecidableEq κ] {k : κ} : ∀ {ks : List κ}, kix ks k = none → k ∉ ks
  | [], _, h => by cases h
  | n :: ns, h, hm => by
    unfold kix at h
    by_cases e : n = k
    · rw [if_pos e] at h; cases h
    · rw [if_neg e] at h
      rcases List.mem_cons.mp hm with z | z
      · exact e z.symm
      · exact kix_none (Option.map_eq_none_iff.mp h) z
/-- the keys and values of a dict behind a store -/
def kput {κ : Type} [DecidableEq κ] (ks : List κ) (k : κ) : List κ := match kix ks k with | some _ => ks | none => ks ++ [k]
theorem kput_nd {κ : Type} [DecidableEq κ] {ks : List κ} {k : κ} (h : ks.Nodup) : (kput ks k).Nodup := by
  unfold kput
  cases q : kix ks k with
  | some i => exact h
  | none =>
    rw [List.nodup_append]
    exact ⟨h, List.nodup_cons.mpr ⟨by simp, List.nodup_nil⟩, fun a ha b hb z => by
      rw [List.mem_singleton] at hb
      subst hb
      subst z
      exact kix_none q ha⟩
def dput {κ : Type} [DecidableEq κ] (ks : List κ) (k : κ) (ds : List Dat) (d : Dat) : List Dat := match kix ks k with | some i => ds.set i d | none => ds ++ [d]
theorem set_dc {a : Addr} {ks : List Key} {ds : List Dat} {k : Key} {f : Dat} {P : Own → Prop} (hz : ks.length < sizeLine) (p : P (l ++ (a, .dK (kput ks k) (dput ks k ds f)) :: r)) : PtX K uSet (.ptr a) (keyD k) f (l ++ (a, .dK ks ds) :: r) P := fun F V0 H x y z hs hx hy hzz Q q => by
  cases hx
  obtain rfl := keyD_v hy
  have c := hs.cell _ (List.mem_append_right l List.mem_cons_self)
  cases c with
  | dK h1 n u t =>
    rename_i kws
    obtain ⟨e1, e2⟩ := putK_keys (k := k) hzz (by rw [n]; exact u) t
    rw [n] at e1 e2
    refine .inr ⟨a, _, rfl, .inl ⟨kws, k, h1, rfl, by rw [← n, List.length_map] at hz; exact hz, rfl⟩, ?_⟩
    refine q _ (l ++ (a, .dK (kput ks k) (dput ks k ds f)) :: r) (hs.put (.dK upd_same e1 (kput_nd u) e2)) ?_ p
    rw [vis_put (c := .dK ks ds)]; exact Same.refl _

/-! ### statements -/
theorem ss_seq' (h : SS K t sl own { D with nx := fun sl2 o2 => SS K u sl2 o2 D }) : SS K (tSeq t u) sl own D := fun F V0 σ H hs hl D' n1 r1 b1 c1 => by
  refine h F V0 σ H hs hl { D' with nx := u D' } (fun σ' H' sl' own' a b c p => ?_) r1 b1 c1
  exact p F V0 σ' H' a c D' (fun σ2 H2 sl2 o2 a2 b2 c2 p2 => n1 σ2 H2 sl2 o2 a2 (b.trans b2) c2 p2) (fun v H2 d o2 a2 b2 c2 p2 => r1 v H2 d o2 a2 (b.trans b2) c2 p2)
    (fun σ2 H2 sl2 o2 a2 b2 c2 p2 => b1 σ2 H2 sl2 o2 a2 (b.trans b2) c2 p2) (fun σ2 H2 sl2 o2 a2 b2 c2 p2 => c1 σ2 H2 sl2 o2 a2 (b.trans b2) c2 p2)
theorem ss_next' (p : D.nx sl own) : SS K tNext sl own D := fun F V0 σ H hs hl D' n1 r1 b1 c1 => n1 σ H sl own hs (Same.refl _) hl p
theorem ss_brk' (p : D.bk sl own) : SS K tBreak sl own D := fun F V0 σ H hs hl D' n1 r1 b1 c1 => b1 σ H sl own hs (Same.refl _) hl p
theorem ss_cont' (p : D.ct sl own) : SS K tCont sl own D := fun F V0 σ H hs hl D' n1 r1 b1 c1 => c1 σ H sl own hs (Same.refl _) hl p
theorem ss_drop' (h : EX K te sl own fun _ o => D.nx sl o) : SS K (tDrop te) sl own D := fun F V0 σ H hs hl D' n1 r1 b1 c1 =>
  h F V0 σ H hs hl _ fun v H1 d o1 hs1 e1 hd1 p => n1 σ H1 sl o1 hs1 e1 (hl.mono e1) p
theorem ss_ret' (h : EX K te sl own D.rt) : SS K (tRet te) sl own D := fun F V0 σ H hs hl D' n1 r1 b1 c1 =>
  h F V0 σ H hs hl _ fun v H1 d o1 hs1 e1 hd1 p => r1 v H1 d o1 hs1 e1 hd1 p
theorem ss_retN' (h : D.rt .non own) : SS K tRetN sl own D := fun F V0 σ H hs hl D' n1 r1 b1 c1 => r1 .non H .non own hs (Same.refl _) .non h
theorem ss_asg' {g : TG} (h : EX K te sl own fun d o => GX K g anyJ d sl o D.nx) : SS K (tAsg te g) sl own D := fun F V0 σ H hs hl D' n1 r1 b1 c1 => by
  refine h F V0 σ H hs hl _ fun v H1 d o1 hs1 e1 hd1 p => ?_
  exact p F V0 σ H1 v hs1 (hl.mono e1) hd1 _ fun σ2 H2 sl2 o2 a2 b2 c2 _ p2 => n1 σ2 H2 sl2 o2 a2 (e1.trans b2) c2 p2
theorem ss_set' {i : Nat} (h : EX K te sl own fun d o => D.nx (sl.set i (some d)) o) : SS K (tAsg te (gName i)) sl own D := ss_asg' (ex_mono h fun d o p => gx_name trivial p)
theorem ss_if' {c : TT} (h : TX K c sl own fun b o => if b = true then SS K t sl o D else SS K u sl o D) : SS K (tIfS c t u) sl own D := fun F V0 σ H hs hl D' n1 r1 b1 c1 => by
  refine h F V0 σ H hs hl _ fun b H1 o1 hs1 e1 p => ?_
  have go : ∀ w : TS, SS K w sl o1 D → w D' σ H1 := fun w q => q F V0 σ H1 hs1 (hl.mono e1) D' (fun σ2 H2 sl2 o2 a2 b2 c2 p2 => n1 σ2 H2 sl2 o2 a2 (e1.trans b2) c2 p2) (fun v H2 d o2 a2 b2 c2 p2 => r1 v H2 d o2 a2 (e1.trans b2) c2 p2)
    (fun σ2 H2 sl2 o2 a2 b2 c2 p2 => b1 σ2 H2 sl2 o2 a2 (e1.trans b2) c2 p2) (fun σ2 H2 sl2 o2 a2 b2 c2 p2 => c1 σ2 H2 sl2 o2 a2 (e1.trans b2) c2 p2)
  cases b with
  | true => exact iteT (go t p)
  | false => exact iteF (go u p)
/-- x op= e on a name -/
theorem ss_aug' {i : Nat} {ti : TIp} (h : sl[i]? = some (some d)) (h2 : EX K te sl own fun e o => R2X K ti d e o fun z o2 => D.nx (sl.set i (some z)) o2) : SS K (tAug i te ti) sl own D := fun F V0 σ H hs hl D' n1 r1 b1 c1 => by
  obtain ⟨x, e, hx⟩ := hl.2 i d h
  refine ⟨x, e, h2 F V0 σ H hs hl _ fun y H1 d1 o1 hs1 e1 hd1 p1 => ?_⟩
  exact p1 F V0 H1 x y hs1 (hx.mono e1) hd1 _ fun z H2 d2 o2 hs2 e2 hd2 p2 => n1 _ H2 _ o2 hs2 (e1.trans e2) ((hl.mono (e1.trans e2)).set i hd2) p2
/-- o.f = e, o an owned cell -/
theorem ss_fld' {tv : TE} {f : Str} (h : EX K tv sl own fun e o => EX K ta sl o fun d o2 => ∃ a C ns ds l r, d = .ptr a ∧ o2 = l ++ (a, .ins C ns ds) :: r ∧ Cls K C ∧ NoAttr K C f ∧ ns.length < 1000 ∧ D.nx sl (l ++ (a, .ins C (putN ns f) (putX ns f ds e)) :: r)) : SS K (sFld K ta tv f) sl own D := fun F V0 σ H hs hl D' n1 r1 b1 c1 => by
  refine h F V0 σ H hs hl _ fun y H1 d1 o1 hs1 e1 hd1 p1 => ?_
  refine p1 F V0 σ H1 hs1 (hl.mono e1) _ fun x H2 d2 o2 hs2 e2 hd2 ⟨a, C, ns, ds, l, r, z1, z2, hc, hn, hz, p2⟩ => ?_
  subst z1 z2
  cases hd2
  have c := hs2.cell _ (List.mem_append_right l List.mem_cons_self)
  cases c with
  | ins h1 n t =>
    rename_i dx gs
    obtain ⟨q1, q2⟩ := putF_ok (hd1.mono e2) (f := f) n t
    have e3 : Same (vis F (l ++ (a, Cell.ins C ns ds) :: r) H2) (vis F (l ++ (a, Cell.ins C (putN ns f) (putX ns f ds d1)) :: r) (upd H2 a (.ins C dx (putF f y gs)))) := by
      rw [vis_put (c := .ins C ns ds)]; exact Same.refl _
    refine ⟨a, C, dx, gs, rfl, h1, hc, hn, by rw [← n, List.length_map] at hz; exact hz, ?_⟩
    exact n1 σ _ sl _ (hs2.put (.ins upd_same q1 q2)) ((e1.trans e2).trans e3) (hl.mono ((e1.trans e2).trans e3)) p2
theorem ss_cl (c : Cl own o1) (h : SS K t sl o1 D) : SS K t sl own D := fun F V0 σ H hs hl D' n1 r1 b1 c1 => by
  obtain ⟨h1, e1⟩ := c.hs hs
  exact h F V0 σ H h1 (hl.mono e1) D' (fun σ2 H2 sl2 o2 a2 b2 c2 p2 => n1 σ2 H2 sl2 o2 a2 (e1.trans b2) c2 p2) (fun v H2 d o2 a2 b2 c2 p2 => r1 v H2 d o2 a2 (e1.trans b2) c2 p2)
    (fun σ2 H2 sl2 o2 a2 b2 c2 p2 => b1 σ2 H2 sl2 o2 a2 (e1.trans b2) c2 p2) (fun σ2 H2 sl2 o2 a2 b2 c2 p2 => c1 σ2 H2 sl2 o2 a2 (e1.trans b2) c2 p2)
/-- the drawing's state is opened -/
theorem ss_open {s : Addr} (h : ∀ x y, RngOk x y → SS K t sl (l ++ (s, .lst [.int x, .int y]) :: r) D) : SS K t sl (l ++ (s, .rng) :: r) D := fun F V0 σ H hs hl => by
  have c := hs.cell _ (List.mem_append_right l List.mem_cons_self)
  cases c with
  | rng h1 z =>
    rename_i x y
    have hs2 : Hs K F V0 H (l ++ (s, .lst [.int x, .int y]) :: r) := hs.retell fun W _ => .lst h1 (.cons (.int x) (.cons (.int y) .nil))
    have ev : vis F (l ++ (s, Cell.lst [.int x, .int y]) :: r) H = vis F (l ++ (s, Cell.rng) :: r) H := vis_retell
    have q := h x y z F V0 σ H hs2 (by rw [ev]; exact hl)
    rw [ev] at q
    exact q
/-- a slot's list of one's own becomes data -/
theorem ss_frz {a : Addr} {c : Cell} {i : Nat} (hi : sl[i]? = some (some (.ptr a))) (hc : c.dat = some e) (h : SS K t (sl.set i (some e)) (l ++ r) D) : SS K t sl (l ++ (a, c) :: r) D := fun F V0 σ H hs hl D' n1 r1 b1 c1 => by
  have e1 : Same (vis F (l ++ (a, c) :: r) H) (vis F (l ++ r) H) := vis_drop
  have hd := freezeA hs hc
  have hl2 := hl.mono e1
  refine h F V0 σ H hs.drop ⟨by rw [List.length_set]; exact hl2.1, fun j f q => ?_⟩ D' (fun σ2 H2 sl2 o2 a2 b2 c2 p2 => n1 σ2 H2 sl2 o2 a2 (e1.trans b2) c2 p2) (fun v H2 d o2 a2 b2 c2 p2 => r1 v H2 d o2 a2 (e1.trans b2) c2 p2)
    (fun σ2 H2 sl2 o2 a2 b2 c2 p2 => b1 σ2 H2 sl2 o2 a2 (e1.trans b2) c2 p2) (fun σ2 H2 sl2 o2 a2 b2 c2 p2 => c1 σ2 H2 sl2 o2 a2 (e1.trans b2) c2 p2)
  by_cases hj : i = j
  · subst hj
    rw [List.getElem?_set_self (List.getElem?_eq_some_iff.mp hi).1] at q
    cases q
    obtain ⟨v, e2, hv⟩ := hl2.2 i _ hi
    cases hv
    exact ⟨_, e2, hd⟩
  · rw [List.getElem?_set_ne hj] at q
    exact hl2.2 j f q

/-! ### loops -/
/-- what an iterator gives: xs, as long as Keep holds of the cells -/
def Items (K : KX) (V1 : Hp) (J : It) (xs : List Dat) (Keep : Own → Prop) : Prop := ∃ (G : Hp → Prop) (Y : Nat → Hp → V → Hp → Prop), Walk J xs.length G Y ∧
  (∀ F H own, Hs K F V1 H own → Keep own → G H) ∧ ∀ F i H x H' own, i < xs.length → Hs K F V1 H own → Keep own → Y i H x H' → Same H H' ∧ ∃ d, xs[i]? = some d ∧ Da K (vis F own H') x d
def IX (K : KX) (wi : TI) (sl : SL) (own : Own) (R : List Dat → (Own → Prop) → Own → Prop) : Prop := ∀ (F V0 : Hp) (σ : L2.St) (H : Hp), Hs K F V0 H own → Sl K (vis F own H) σ sl →
  ∀ Q : It → Hp → Prop, (∀ J H' own' xs Keep, Hs K F V0 H' own' → Same (vis F own H) (vis F own' H') → Items K (vis F own' H') J xs Keep → R xs Keep own' → Q J H') → wi σ H Q
abbrev anyO : Own → Prop := fun _ => True
def iSeq (K : PySem.W.Frag) (tl : TE) : TI := fun σ H R => tl σ H fun x H1 => ∃ a, x = .ref a ∧ ((∃ xs, SqL K H1 a xs) ∧ R (Itl K a) H1 ∨ (∃ xs, SqT K H1 a xs) ∧ R (Itt K a) H1)
theorem pi_seq {tg l : Expr} {tl : TE} (hl : PE X l tl) : PI X tg l (iSeq X.K tl) := by
  refine ⟨fun pins s σ H R I h => ?_⟩
  refine thn (hl.run pins s σ H _ I h) fun v s1 ⟨x, H1, I1, r1, q1⟩ => ?_
  obtain ⟨a, e, q⟩ := q1
  subst e
  cases r1
  rcases q with ⟨⟨xs, hq⟩, q⟩ | ⟨⟨xs, hq⟩, q⟩
  · obtain ⟨its, rv, p, hz⟩ := I1.list hq
    refine wpAny_pyIter_list p.isList ?_
    refine ⟨s1.heap.objs.size, [s1.heap.objs.size], _, _, H1, rfl, I1.kept (t' := s1.toks) fun b o e => Heap.get?_push_of_some _ e, turn_list a _, ⟨_, Heap.get?_push_size _ rfl, rfl, rfl⟩, fun b hb => ?_, q⟩
    have e : b = s1.heap.objs.size := by simpa using hb
    subst e
    exact I1.fpOk (Nat.le_refl _) (I1.hok.fresh (Nat.le_refl _))
  · obtain ⟨its, rv, p, hz⟩ := I1.tuple hq
    refine wpAny_pyIter_tuple (show s1.heap.IsTuple a its.toArray from p) ?_
    refine ⟨s1.heap.objs.size, [s1.heap.objs.size], _, _, H1, rfl, I1.kept (t' := s1.toks) fun b o e => Heap.get?_push_of_some _ e, turn_tuple a _, ⟨_, Heap.get?_push_size _ rfl, rfl, rfl⟩, fun b hb => ?_, q⟩
    have e : b = s1.heap.objs.size := by simpa using hb
    subst e
    exact I1.fpOk (Nat.le_refl _) (I1.hok.fresh (Nat.le_refl _))
theorem ix_seq' {R : List Dat → (Own → Prop) → Own → Prop} (h : EX K te sl own fun d o => ∃ ds Keep, R ds Keep o ∧ ((d = .lst ds ∨ d = .scr ds ∨ d = .tup ds) ∧ Keep = anyO ∨ ∃ a, d = .ptr a ∧ (a, Cell.lst ds) ∈ o ∧ Keep = fun o => (a, Cell.lst ds) ∈ o)) : IX K (iSeq K te) sl own R := fun F V0 σ H hs hl Q q => by
  refine h F V0 σ H hs hl _ fun v H1 d o1 hs1 e1 hd1 ⟨ds, Keep, p, z⟩ => ?_
  rcases z with ⟨z, rfl⟩ | ⟨a, rfl, hm, rfl⟩
  · have lst : ∀ a xs, v = .ref a → SqL K (vis F o1 H1) a xs → DaL K (vis F o1 H1) xs ds → ∃ a, v = .ref a ∧ ((∃ xs, SqL K H1 a xs) ∧ Q (Itl K a) H1 ∨ (∃ xs, SqT K H1 a xs) ∧ Q (Itt K a) H1) := fun a xs e sq dl => by
      refine ⟨a, e, .inl ⟨⟨xs, sq_l vis_sub sq⟩, q _ H1 o1 ds anyO hs1 e1 ⟨_, _, (dl.length ▸ walk_list (K := K) (a := a) (xs := xs)), fun F H own hs _ => sq_l (hs.mo.trans vis_sub) sq, fun F i H x H' own hi hs _ y => ?_⟩ p⟩⟩
      obtain ⟨rfl, y⟩ := y
      refine ⟨Same.refl _, ?_⟩
      obtain ⟨d, e1, e2⟩ := dl.getV y
      exact ⟨d, e1, e2.mono hs.mo⟩
    rcases z with rfl | rfl | rfl
    · cases hd1 with
      | lst ha l => exact lst _ _ rfl (.inl (.inl ha)) l
    · cases hd1 with
      | scr ha l => exact lst _ _ rfl ha l
    · cases hd1 with
      | tup ha l =>
        rename_i a xs
        refine ⟨a, rfl, .inr ⟨⟨xs, tq vis_sub ha⟩, q _ H1 o1 ds anyO hs1 e1 ⟨_, _, (l.length ▸ walk_tup (K := K) (a := a) (xs := xs)), fun F H own hs _ => tq (hs.mo.trans vis_sub) ha, fun F i H x H' own hi hs _ y => ?_⟩ p⟩⟩
        obtain ⟨rfl, y⟩ := y
        refine ⟨Same.refl _, ?_⟩
        obtain ⟨d, e1, e2⟩ := l.getV y
        exact ⟨d, e1, e2.mono hs.mo⟩
  · cases hd1
    have c := hs1.cell _ hm
    cases c with
    | lst ha l =>
      refine ⟨a, rfl, .inl ⟨⟨_, .inl (.inl ha)⟩, q _ H1 o1 ds _ hs1 e1 ?_ p⟩⟩
      refine ⟨fun H => ∃ xs, SqL K H a xs ∧ xs.length = ds.length, fun i H x H' => H' = H ∧ ∀ xs, SqL K H a xs → xs[i]? = some x, ⟨fun i H hi ⟨xs, sq, e⟩ => ⟨xs, xs[i]'(by omega), sq, by simp [show i < xs.length by omega]⟩, fun H ⟨xs, sq, e⟩ => ⟨xs, sq, by omega⟩, fun i H x H' hi g y => ⟨y.1, y.2⟩⟩, fun F H own hs hk => ?_, fun F i H x H' own hi hs hk y => ?_⟩
      · have c := hs.cell _ hk
        cases c with
        | lst ha l => exact ⟨_, .inl (.inl ha), l.length⟩
      · have c := hs.cell _ hk
        obtain ⟨rfl, y⟩ := y
        cases c with
        | lst ha l => exact ⟨Same.refl _, l.getV (y _ (.inl (.inl ha)))⟩
theorem ix_rng1 {ta : TA} {R : List Dat → (Own → Prop) → Own → Prop} (h : AX K ta sl own fun ds o => ∃ j : Int, ds = [.int j] ∧ -(2 ^ 62) ≤ j ∧ j < 2 ^ 62 ∧ R ((List.range j.toNat).map fun i => .int (i : Nat)) anyO o) : IX K (iRng1 ta) sl own R := fun F V0 σ H hs hl Q q => by
  refine h F V0 σ H hs hl _ fun v H1 d o1 hs1 e1 hd1 ⟨j, z, b1, b2, p⟩ => ?_
  subst z
  cases hd1 with
  | cons h1 t =>
    cases t; cases h1
    refine ⟨j, rfl, b1, b2, q _ H1 o1 _ anyO hs1 e1 ⟨fun _ => True, YFn fun i => .int (0 + (i : Nat)), ?_, fun _ _ _ _ _ => trivial, fun F i H x H' own hi hs _ y => ?_⟩ p⟩
    · rw [List.length_map, List.length_range]; exact walk_range
    · obtain ⟨rfl, rfl⟩ := y
      rw [List.length_map, List.length_range] at hi
      exact ⟨Same.refl _, .int (i : Nat), by simp [hi], by show Da K _ (.int (0 + (i : Nat))) _; rw [Int.zero_add]; exact .int _⟩
theorem ix_rng2 {ta : TA} {R : List Dat → (Own → Prop) → Own → Prop} (h : AX K ta sl own fun ds o => ∃ a b : Int, ds = [.int a, .int b] ∧ (-(2 ^ 62) ≤ a ∧ a < 2 ^ 62 ∧ -(2 ^ 62) ≤ b ∧ b < 2 ^ 62) ∧ R ((List.range (b - a).toNat).map fun i => .int (a + (i : Nat))) anyO o) : IX K (iRng2 ta) sl own R := fun F V0 σ H hs hl Q q => by
  refine h F V0 σ H hs hl _ fun v H1 d o1 hs1 e1 hd1 ⟨a, b, z, bb, p⟩ => ?_
  subst z
  cases hd1 with
  | cons h1 t => cases t with
    | cons h2 t =>
      cases t; cases h1; cases h2
      refine ⟨a, b, rfl, bb, q _ H1 o1 _ anyO hs1 e1 ⟨fun _ => True, YFn fun i => .int (a + (i : Nat)), ?_, fun _ _ _ _ _ => trivial, fun F i H x H' own hi hs _ y => ?_⟩ p⟩
      · rw [List.length_map, List.length_range]; exact walk_range
      · obtain ⟨rfl, rfl⟩ := y
        rw [List.length_map, List.length_range] at hi
        exact ⟨Same.refl _, .int (a + (i : Nat)), by simp [hi], .int _⟩
theorem ss_for' {wi : TI} {g : TG} (h : IX K wi sl own fun xs Keep o => ∃ I : Nat → SL → Own → Prop, I 0 sl o ∧ (∀ i sl o, I i sl o → Keep o) ∧
    (∀ i x sl2 o2, xs[i]? = some x → I i sl2 o2 → GX K g anyJ x sl2 o2 fun sl3 o3 => SS K t sl3 o3 { D with nx := I (i + 1), ct := I (i + 1), bk := D.nx }) ∧ ∀ sl2 o2, I xs.length sl2 o2 → D.nx sl2 o2) : SS K (tFor wi g t) sl own D := fun F V0 σ H hs hl D' n1 r1 b1 c1 => by
  refine h F V0 σ H hs hl _ fun J H1 o1 xs Keep hs1 e1 its ⟨I, i0, ik, ib, ie⟩ => ?_
  obtain ⟨G, Y, w, hG, hY⟩ := its
  have e2 : ∀ {H2 o2}, Hs K F (vis F o1 H1) H2 o2 → Same (vis F own H) (vis F o2 H2) := fun a => e1.trans a.mo
  have hb : ∀ {H2 o2}, Hs K F (vis F o1 H1) H2 o2 → Hs K F V0 H2 o2 := fun a => a.from hs1 hs1.mo
  refine for_it w (fun i σ H => ∃ sl own, Hs K F (vis F o1 H1) H own ∧ Sl K (vis F own H) σ sl ∧ I i sl own) ⟨sl, o1, hs1.now, hl.mono e1, i0⟩ (fun i σ H _ ⟨sl2, o2, a, b, c⟩ => hG F H o2 a (ik i sl2 o2 c)) (fun i x σ H H' hi ⟨sl2, o2, a, b, c⟩ y => ?_) (fun σ2 H2 ⟨sl2, o2, a, b, c⟩ => n1 σ2 H2 sl2 o2 (hb a) (e2 a) b (ie sl2 o2 c))
  obtain ⟨s1, d, hd, hx⟩ := hY F i H x H' o2 hi a (ik i sl2 o2 c) y
  have g1 := vis_grow a s1
  refine ib i d sl2 o2 hd c F (vis F o1 H1) σ H' x (a.grow s1) (b.mono g1) hx _ fun σ3 H3 sl3 o3 hs3 e3 hl3 _ p3 => ?_
  exact p3 F (vis F o1 H1) σ3 H3 hs3 hl3 _ (fun σ4 H4 sl4 o4 a4 b4 c4 p4 => ⟨sl4, o4, a4, c4, p4⟩) (fun v H4 d o4 a4 b4 c4 p4 => r1 v H4 d o4 (hb a4) (e2 a4) c4 p4)
    (fun σ4 H4 sl4 o4 a4 b4 c4 p4 => n1 σ4 H4 sl4 o4 (hb a4) (e2 a4) c4 p4) (fun σ4 H4 sl4 o4 a4 b4 c4 p4 => ⟨sl4, o4, a4, c4, p4⟩)
theorem ss_while' {c : TT} (I : Nat → SL → Own → Prop) {m0 : Nat} (i0 : I m0 sl own) (h : ∀ m sl2 o2, I m sl2 o2 → TX K c sl2 o2 fun b o3 => if b = true then SS K t sl2 o3 { D with nx := fun s o => ∃ m', m' < m ∧ I m' s o, ct := fun s o => ∃ m', m' < m ∧ I m' s o, bk := D.nx } else D.nx sl2 o3) : SS K (tWhile c t) sl own D := fun F V0 σ H hs hl D' n1 r1 b1 c1 => by
  have e2 : ∀ {H2 o2}, Hs K F (vis F own H) H2 o2 → Same (vis F own H) (vis F o2 H2) := fun a => a.mo
  have hb : ∀ {H2 o2}, Hs K F (vis F own H) H2 o2 → Hs K F V0 H2 o2 := fun a => a.from hs hs.mo
  refine ⟨fun m σ H' => ∃ sl2 o2, Hs K F (vis F own H) H' o2 ∧ Sl K (vis F o2 H') σ sl2 ∧ I m sl2 o2, ⟨m0, sl, own, hs.now, hl, i0⟩, fun m σ2 H2 ⟨sl2, o2, a, b, p⟩ => ?_⟩
  refine h m sl2 o2 p F (vis F own H) σ2 H2 a b _ fun k H3 o3 hs3 e3 p3 => ?_
  cases k with
  | true =>
    refine iteT ⟨fun σ H' => ∃ m', m' < m ∧ ∃ sl2 o2, Hs K F (vis F own H) H' o2 ∧ Sl K (vis F o2 H') σ sl2 ∧ I m' sl2 o2, fun _ _ z => z, ?_⟩
    exact (show SS K t sl2 o3 _ from p3) F (vis F own H) σ2 H3 hs3 (b.mono e3) _ (fun σ4 H4 sl4 o4 a4 b4 c4 ⟨m', hm, p4⟩ => ⟨m', hm, sl4, o4, a4, c4, p4⟩) (fun v H4 d o4 a4 b4 c4 p4 => r1 v H4 d o4 (hb a4) (e2 a4) c4 p4)
      (fun σ4 H4 sl4 o4 a4 b4 c4 p4 => n1 σ4 H4 sl4 o4 (hb a4) (e2 a4) c4 p4) (fun σ4 H4 sl4 o4 a4 b4 c4 ⟨m', hm, p4⟩ => ⟨m', hm, sl4, o4, a4, c4, p4⟩)
  | false => exact iteF (n1 σ2 H3 sl2 o3 (hb hs3) (e2 hs3) (b.mono e3) p3)
end
end Sy
namespace Sy
open PySem L2
section
variable {K : KX} {own : Own} {sl : SL} {D D' : DE} {t u : TS}
theorem ss_mono (h : SS K t sl own D) (h1 : ∀ s o, D.nx s o → D'.nx s o) (h2 : ∀ d o, D.rt d o → D'.rt d o) (h3 : ∀ s o, D.bk s o → D'.bk s o) (h4 : ∀ s o, D.ct s o → D'.ct s o) : SS K t sl own D' := fun F V0 σ H hs hl D2 n1 r1 b1 c1 =>
  h F V0 σ H hs hl D2 (fun a b c d e f g i => n1 a b c d e f g (h1 _ _ i)) (fun a b c d e f g i => r1 a b c d e f g (h2 _ _ i)) (fun a b c d e f g i => b1 a b c d e f g (h3 _ _ i)) (fun a b c d e f g i => c1 a b c d e f g (h4 _ _ i))
/-- two statements with what stands between them -/
theorem ss_mid' (M : SL → Own → Prop) (h : SS K t sl own { D with nx := M }) (k : ∀ s o, M s o → SS K u s o D) : SS K (tSeq t u) sl own D := ss_seq' (ss_mono h k (fun _ _ z => z) (fun _ _ z => z) (fun _ _ z => z))
end
end Sy
namespace Sy
open PySem L2
section
variable {K : KX} {own : Own} {sl : SL} {D : DE} {ta tv : TE}
theorem fidx_hd {f : Str} {ns : List Str} : fidx (f :: ns) f = some 0 := by unfold fidx; rw [if_pos rfl]
theorem fidx_tl {n f : Str} {ns : List Str} {i : Nat} (h : ¬ n = f) (h2 : fidx ns f = some i) : fidx (n :: ns) f = some (i + 1) := by unfold fidx; rw [if_neg h, h2]; rfl
/-- o.f = e: a field more, or one that is there -/
theorem ss_fld2' {f : Str} (h : EX K tv sl own fun e o => EX K ta sl o fun d o2 => ∃ a C ns ds l r, d = .ptr a ∧ o2 = l ++ (a, .ins C ns ds) :: r ∧ Cls K C ∧ NoAttr K C f ∧ ns.length < 1000 ∧
    ((fidx ns f = none ∧ D.nx sl (l ++ (a, .ins C (ns ++ [f]) (ds ++ [e])) :: r)) ∨ ∃ i, fidx ns f = some i ∧ D.nx sl (l ++ (a, .ins C ns (ds.set i e)) :: r))) : SS K (sFld K ta tv f) sl own D :=
  ss_fld' (ex_mono h fun e o h2 => ex_mono h2 fun d o2 ⟨a, C, ns, ds, l, r, h1, h2, h3, h4, h5, h6⟩ => ⟨a, C, ns, ds, l, r, h1, h2, h3, h4, h5, by
    unfold putN putX
    rcases h6 with ⟨q, p⟩ | ⟨i, q, p⟩
    · rw [q]; exact p
    · rw [q]; exact p⟩)
end
end Sy
namespace Sy
open PySem L2
/-! the statements' rules with the ends spelled out -/
section
variable {K : KX} {own : Own} {sl : SL} {nx bk ct : SL → Own → Prop} {rt : Dat → Own → Prop} {ta tv te : TE} {t u : TS} {d : Dat}
theorem ss_seq (h : SS K t sl own ⟨fun sl2 o2 => SS K u sl2 o2 ⟨nx, rt, bk, ct⟩, rt, bk, ct⟩) : SS K (tSeq t u) sl own ⟨nx, rt, bk, ct⟩ := ss_seq' h
theorem ss_next (p : nx sl own) : SS K tNext sl own ⟨nx, rt, bk, ct⟩ := ss_next' p
theorem ss_brk (p : bk sl own) : SS K tBreak sl own ⟨nx, rt, bk, ct⟩ := ss_brk' p
theorem ss_cont (p : ct sl own) : SS K tCont sl own ⟨nx, rt, bk, ct⟩ := ss_cont' p
theorem ss_drop (h : EX K te sl own fun _ o => nx sl o) : SS K (tDrop te) sl own ⟨nx, rt, bk, ct⟩ := ss_drop' h
theorem ss_ret (h : EX K te sl own rt) : SS K (tRet te) sl own ⟨nx, rt, bk, ct⟩ := ss_ret' h
theorem ss_retN (h : rt .non own) : SS K tRetN sl own ⟨nx, rt, bk, ct⟩ := ss_retN' h
theorem ss_asg {g : TG} (h : EX K te sl own fun d o => GX K g anyJ d sl o nx) : SS K (tAsg te g) sl own ⟨nx, rt, bk, ct⟩ := ss_asg' h
theorem ss_set {i : Nat} (h : EX K te sl own fun d o => nx (sl.set i (some d)) o) : SS K (tAsg te (gName i)) sl own ⟨nx, rt, bk, ct⟩ := ss_set' h
theorem ss_if {c : TT} (h : TX K c sl own fun b o => if b = true then SS K t sl o ⟨nx, rt, bk, ct⟩ else SS K u sl o ⟨nx, rt, bk, ct⟩) : SS K (tIfS c t u) sl own ⟨nx, rt, bk, ct⟩ := ss_if' h
theorem ss_aug {i : Nat} {ti : TIp} (h : sl[i]? = some (some d)) (h2 : EX K te sl own fun e o => R2X K ti d e o fun z o2 => nx (sl.set i (some z)) o2) : SS K (tAug i te ti) sl own ⟨nx, rt, bk, ct⟩ := ss_aug' h h2
/-- a field is stored: what is asked of the cells -/
def FldW (K : KX) (f : Str) (d e : Dat) (o : Own) (N : Own → Prop) : Prop := ∃ a C ns ds l r, d = .ptr a ∧ o = l ++ (a, .ins C ns ds) :: r ∧ Cls K C ∧ NoAttr K C f ∧ ns.length < 1000 ∧
    ((fidx ns f = none ∧ N (l ++ (a, .ins C (ns ++ [f]) (ds ++ [e])) :: r)) ∨ ∃ i, fidx ns f = some i ∧ N (l ++ (a, .ins C ns (ds.set i e)) :: r))
theorem ss_fld2 {f : Str} (h : EX K tv sl own fun e o => EX K ta sl o fun d o2 => FldW K f d e o2 (nx sl)) : SS K (sFld K ta tv f) sl own ⟨nx, rt, bk, ct⟩ := ss_fld2' h
theorem ss_for {wi : TI} {g : TG} (h : IX K wi sl own fun xs Keep o => ∃ I : Nat → SL → Own → Prop, I 0 sl o ∧ (∀ i sl o, I i sl o → Keep o) ∧
    (∀ i x sl2 o2, xs[i]? = some x → I i sl2 o2 → GX K g anyJ x sl2 o2 fun sl3 o3 => SS K t sl3 o3 ⟨I (i + 1), rt, nx, I (i + 1)⟩) ∧ ∀ sl2 o2, I xs.length sl2 o2 → nx sl2 o2) : SS K (tFor wi g t) sl own ⟨nx, rt, bk, ct⟩ := ss_for' h
theorem ss_while {c : TT} (I : Nat → SL → Own → Prop) {m0 : Nat} (i0 : I m0 sl own) (h : ∀ m sl2 o2, I m sl2 o2 → TX K c sl2 o2 fun b o3 => if b = true then SS K t sl2 o3 ⟨fun s o => ∃ m', m' < m ∧ I m' s o, rt, nx, fun s o => ∃ m', m' < m ∧ I m' s o⟩ else nx sl2 o3) : SS K (tWhile c t) sl own ⟨nx, rt, bk, ct⟩ := ss_while' I i0 h
theorem ss_mid (M : SL → Own → Prop) (h : SS K t sl own ⟨M, rt, bk, ct⟩) (k : ∀ s o, M s o → SS K u s o ⟨nx, rt, bk, ct⟩) : SS K (tSeq t u) sl own ⟨nx, rt, bk, ct⟩ := ss_mid' M h k
end
end Sy
/-! Rules of the symbolic layer: comprehensions, built-ins, defs. -/
namespace Sy
open PySem L2

def wipeS (sl : SL) : List Nat → SL
  | [] => sl
  | v :: vs => (wipeS sl vs).set v none
section
variable {K : KX} {own o1 l r : Own} {sl : SL} {P : PD} {d e : Dat} {X : Cx} {ta tb tc te : TE} {D : DE} {t u : TS}
theorem Sl.wipe {W : Hp} {σ : L2.St} (h : Sl K W σ sl) : ∀ vs : List Nat, Sl K W (wipe σ vs) (wipeS sl vs)
  | [] => h
  | v :: vs => (Sl.wipe h vs).unset v none
theorem wipe_at (σ : L2.St) (j : Nat) : ∀ vs : List Nat, (wipe σ vs)[j]? = if j < σ.length then (if j ∈ vs then some none else σ[j]?) else none
  | [] => by
    unfold wipe
    by_cases h : j < σ.length
    · simp [h]
    · simp [h]
  | v :: vs => by
    unfold wipe
    have ih := wipe_at σ j vs
    by_cases h : v = j
    · subst h
      by_cases hl : v < σ.length
      · rw [List.getElem?_set_self (by rw [wipe_length]; exact hl)]; simp [hl]
      · rw [List.getElem?_eq_none (by rw [List.length_set, wipe_length]; omega)]; simp [hl]
    · rw [List.getElem?_set_ne h, ih]
      have e : (j ∈ v :: vs) ↔ j ∈ vs := by rw [List.mem_cons]; exact ⟨fun z => z.elim (fun q => absurd q.symm h) id, .inr⟩
      by_cases hl : j < σ.length
      · simp [hl, e]
      · simp [hl]
theorem wipe_same {σ σ' : L2.St} {vs : List Nat} (h : ∀ j, ¬ j ∈ vs → σ'[j]? = (wipe σ vs)[j]?) (hl : σ'.length = σ.length) : wipe σ' vs = wipe σ vs := by
  apply List.ext_getElem?
  intro j
  rw [wipe_at, wipe_at, hl]
  by_cases hlt : j < σ.length
  · rw [if_pos hlt, if_pos hlt]
    by_cases hm : j ∈ vs
    · rw [if_pos hm, if_pos hm]
    · rw [if_neg hm, if_neg hm, h j hm, wipe_at, if_pos hlt, if_neg hm]
  · rw [if_neg hlt, if_neg hlt]
theorem reframe {F V0 H : Hp} {a : Addr} {o o' : HO} {own : Own} (h : Hs K (upd F a o) V0 H own) (x : XOk K F V0) (hf : F a = none) : Hs K (upd F a o') V0 (upd H a o') own ∧ vis (upd F a o') own (upd H a o') = vis (upd F a o) own H := by
  have n1 : a ∉ own.map (·.1) := fun z => by
    obtain ⟨p, hp, rfl⟩ := List.mem_map.mp z
    have q := h.out p hp
    rw [upd_same] at q; cases q
  have ev : vis (upd F a o') own (upd H a o') = vis (upd F a o) own H := by
    funext b
    unfold vis
    by_cases hb : b = a
    · subst hb
      rw [if_pos (.inl (by rw [upd_same]; rfl)), if_pos (.inl (by rw [upd_same]; rfl))]
    · rw [upd_ne hb, upd_ne hb, upd_ne hb]
  refine ⟨⟨⟨h.nd, fun p hp => ?_, by rw [ev]; exact h.mo, fun b u e => ?_, fun p hp => ?_⟩, x.hide hf⟩, ev⟩
  · rw [ev]
    refine (h.cell p hp).stay (Same.refl _) (upd_ne fun z => n1 ?_)
    rw [← z]; exact List.mem_map.mpr ⟨p, hp, rfl⟩
  · by_cases hb : b = a
    · subst hb; rw [upd_same] at e; cases e; exact upd_same
    · rw [upd_ne hb] at e ⊢
      exact h.fr b u (by rw [upd_ne hb]; exact e)
  · have q := h.out p hp
    by_cases hb : p.1 = a
    · exact absurd (List.mem_map.mpr ⟨p, hp, hb⟩) n1
    · rw [upd_ne hb] at q ⊢; exact q
/-- [e for .. if ..]: a new list, one's own (P says what of it) -/
theorem ex_lc {wi : TI} {g : TG} {tt : TT} {vs : List Nat} (h : IX K wi sl own fun xs Keep o => ∃ I : Nat → List Dat → Own → Prop, I 0 [] o ∧ (∀ i acc o, I i acc o → Keep o) ∧
    (∀ i x acc o2, xs[i]? = some x → I i acc o2 → GX K g (· ∈ vs) x (wipeS sl vs) o2 fun sl3 o3 => TX K tt sl3 o3 fun b o4 => if b = true then EX K te sl3 o4 fun y o5 => acc.length < sizeLine ∧ I (i + 1) (acc ++ [y]) o5 else I (i + 1) acc o4) ∧
    ∀ acc o2, I xs.length acc o2 → P (.lst acc) o2) : EX K (tLc wi g tt te vs) sl own P := fun F V0 σ H hs hl Q q => by
  refine h F V0 σ H hs hl _ fun J H1 o1 xs Keep hs1 e1 its ⟨I, i0, ik, ib, ie⟩ => ?_
  obtain ⟨G, Y, w, hG, hY⟩ := its
  intro D hD
  have hf : F D = none := fresh_fr hs1 hD
  have hl1 := hl.mono e1
  have hs2 : Hs K (upd F D (.lst [])) (vis F o1 H1) (upd H1 D (.lst [])) o1 := by
    have a := (hs1.now).new (o := .lst []) hD (c := .lst []) (.lst upd_same .nil)
    exact a.hide upd_same
  refine lc_it w (fun i H => ∃ acc avs own, Hs K (upd F D (.lst avs)) (vis F o1 H1) H own ∧ DaL K (vis (upd F D (.lst avs)) own H) avs acc ∧ I i acc own) ⟨[], [], o1, hs2, .nil, i0⟩ (fun i H _ ⟨acc, avs, o2, a, b, c⟩ => hG _ H o2 a (ik i acc o2 c)) (fun i x H H' hi ⟨acc, avs, o2, a, b, c⟩ y => ?_) (fun H2 ⟨acc, avs, o2, a, b, c⟩ => ?_)
  · obtain ⟨s1, d, hd, hx⟩ := hY _ i H x H' o2 hi a (ik i acc o2 c) y
    have g1 := vis_grow a s1
    refine ib i d acc o2 hd c _ (vis F o1 H1) (wipe σ vs) H' x (a.grow s1) ((hl1.wipe vs).mono (a.mo.trans g1)) hx _ fun σ3 H3 sl3 o3 hs3 e3 hl3 j3 p3 => ?_
    have hb3 := (b.mono g1).mono e3
    refine ⟨?_, ?_⟩
    · have e := wipe_same (σ := σ) (σ' := σ3) (vs := vs) j3.2 (j3.1.trans (wipe_length σ vs))
      rw [e]
    · refine p3 _ (vis F o1 H1) σ3 H3 hs3 hl3 _ fun k H4 o4 hs4 e4 p4 => ?_
      have hb4 := hb3.mono e4
      cases k with
      | true =>
        refine iteT ((show EX K te sl3 o4 _ from p4) _ (vis F o1 H1) σ3 H4 hs4 (hl3.mono e4) _ fun z H5 d5 o5 hs5 e5 hd5 ⟨zl, p5⟩ => ?_)
        obtain ⟨r1, r2⟩ := reframe (o' := .lst (avs ++ [z])) hs5 hs1.now.x hf
        refine ⟨avs, hs5.fr D _ upd_same, by rw [b.length]; exact zl, acc ++ [d5], avs ++ [z], o5, r1, ?_, p5⟩
        rw [r2]
        exact (hb4.mono e5).append (.cons hd5 .nil)
      | false => exact iteF ⟨acc, avs, o4, hs4, hb4, p4⟩
  · have hHD : H2 D = some (.lst avs) := a.fr D _ upd_same
    have bk : Hs K F (vis F o1 H1) H2 ((D, .lst acc) :: o2) := a.back hs1.now.x hf (.lst hHD b)
    have dr := Hs.drop (l := []) bk
    have fz := freeze (l := []) bk
    exact q _ H2 (.lst acc) o2 (dr.from hs1 hs1.mo) (e1.trans dr.mo) fz (ie acc o2 c)
end
end Sy
/-! Rules of the symbolic layer: built-ins, defs. -/
namespace Sy
open PySem L2

section
variable {K : KX} {own : Own} {P : PD} {d e : Dat} {X : Cx}
theorem rl_of {r : List V → Hp → VK → Prop} {ds : List Dat} {z : Dat} (h : ∀ (F V0 H : Hp) (xs : List V), Hs K F V0 H own → DaL K (vis F own H) xs ds → ∃ v, (∀ W, Da K W v z) ∧ ∀ (Q : VK), Q v H → r xs H Q) (p : P z own) : RLX K r ds own P := fun F V0 H xs hs hx Q q => by
  obtain ⟨v, hv, hr⟩ := h F V0 H xs hs hx
  exact hr Q (q v H z own hs (Same.refl _) (hv _) p)
/-! ### len, int, max, min, list, tuple, sum, any, all, str -/
def uLen (K : PySem.W.Frag) : List V → Hp → VK → Prop := fun xs H Q => (∃ p ys, xs = [.ref p] ∧ (SqL K H p ys ∨ SqT K H p ys) ∧ Q (.int ys.length) H) ∨ (∃ z, xs = [.str z] ∧ z.length ≤ sizeLine ∧ Q (.int z.length) H) ∨ ∃ a kvs, xs = [V.ref a] ∧ H a = some (.dK kvs) ∧ Q (.int kvs.length) H
theorem call_lenU : CallR X (.builtin "len") (uLen X.K) := CallR.or call_len_seq (CallR.or call_len_str call_lenD)
theorem len_seq {ds : List Dat} (h : SeqD own d ds) (p : P (.int ds.length) own) : RLX K (uLen K) [d] own P := rl_of (fun F V0 H xs hs hx => by
  cases hx with
  | cons h1 t =>
    cases t
    obtain ⟨a, vs, rfl, ha, l⟩ := h.sq hs h1
    exact ⟨_, fun _ => .int _, fun Q q => .inl ⟨a, vs, rfl, ha, by rw [l.length]; exact q⟩⟩) p
theorem len_str {z : Str} (hz : z.length ≤ sizeLine) (p : P (.int z.length) own) : RLX K (uLen K) [.str z] own P := rl_of (fun F V0 H xs hs hx => by
  cases hx with
  | cons h1 t =>
    cases t; cases h1
    exact ⟨_, fun _ => .int _, fun Q q => .inr (.inl ⟨z, rfl, hz, q⟩)⟩) p
def rInt1 : List V → Hp → VK → Prop := fun xs H Q => (∃ i, xs = [.int i] ∧ Q (.int i) H) ∨ ∃ k, xs = [.bl k] ∧ Q (.int (if k then 1 else 0)) H
theorem call_intU : CallR X (.type "int") rInt1 := call_int1
theorem int_int {i : Int} (p : P (.int i) own) : RLX K rInt1 [.int i] own P := rl_of (fun F V0 H xs hs hx => by
  cases hx with
  | cons h1 t =>
    cases t; cases h1
    exact ⟨_, fun _ => .int _, fun Q q => .inl ⟨i, rfl, q⟩⟩) p
theorem int_bl {i : Bool} (p : P (.int (if i then 1 else 0)) own) : RLX K rInt1 [.bl i] own P := rl_of (fun F V0 H xs hs hx => by
  cases hx with
  | cons h1 t =>
    cases t; cases h1
    exact ⟨_, fun _ => .int _, fun Q q => .inr ⟨i, rfl, q⟩⟩) p
/-- max and min: of two ints, of a list of ints -/
def uMax (K : PySem.W.Frag) : List V → Hp → VK → Prop := fun xs H Q => (∃ i j, xs = [.int i, .int j] ∧ Q (.int (if j > i then j else i)) H) ∨ rMax K xs H Q
def uMin (K : PySem.W.Frag) : List V → Hp → VK → Prop := fun xs H Q => (∃ i j, xs = [.int i, .int j] ∧ Q (.int (if j < i then j else i)) H) ∨ rMin K xs H Q
theorem call_maxU (hc : X.calm = true) : CallR X (.builtin "max") (uMax X.K) := CallR.or (call_max2 hc) (cr_max hc)
theorem call_minU (hc : X.calm = true) : CallR X (.builtin "min") (uMin X.K) := CallR.or (call_min2 hc) (cr_min hc)
theorem max_two {i j : Int} (p : P (.int (max i j)) own) : RLX K (uMax K) [.int i, .int j] own P := rl_of (fun F V0 H xs hs hx => by
  cases hx with
  | cons h1 t => cases t with
    | cons h2 t =>
      cases t; cases h1; cases h2
      refine ⟨_, fun _ => .int _, fun Q q => .inl ⟨i, j, rfl, ?_⟩⟩
      rw [show (if j > i then j else i) = max i j by split <;> omega]
      exact q) p
theorem min_two {i j : Int} (p : P (.int (min i j)) own) : RLX K (uMin K) [.int i, .int j] own P := rl_of (fun F V0 H xs hs hx => by
  cases hx with
  | cons h1 t => cases t with
    | cons h2 t =>
      cases t; cases h1; cases h2
      refine ⟨_, fun _ => .int _, fun Q q => .inl ⟨i, j, rfl, ?_⟩⟩
      rw [show (if j < i then j else i) = min i j by split <;> omega]
      exact q) p
theorem max_lst {ns : List Int} (h : LstD own d (ns.map Dat.int)) (hn : 0 < ns.length) (p : ∀ m, m ∈ ns → (∀ y, y ∈ ns → y ≤ m) → P (.int m) own) : RLX K (uMax K) [d] own P := fun F V0 H xs hs hx Q q => by
  cases hx with
  | cons h1 t =>
    cases t
    obtain ⟨a, vs, rfl, ha, l⟩ := h.sq hs h1
    have e := l.ints
    subst e
    exact .inr ⟨a, ns, rfl, ha, hn, fun m h1 h2 => q _ H _ own hs (Same.refl _) (.int m) (p m h1 h2)⟩
theorem min_lst {ns : List Int} (h : LstD own d (ns.map Dat.int)) (hn : 0 < ns.length) (p : ∀ m, m ∈ ns → (∀ y, y ∈ ns → m ≤ y) → P (.int m) own) : RLX K (uMin K) [d] own P := fun F V0 H xs hs hx Q q => by
  cases hx with
  | cons h1 t =>
    cases t
    obtain ⟨a, vs, rfl, ha, l⟩ := h.sq hs h1
    have e := l.ints
    subst e
    exact .inr ⟨a, ns, rfl, ha, hn, fun m h1 h2 => q _ H _ own hs (Same.refl _) (.int m) (p m h1 h2)⟩
def rListOf (K : PySem.W.Frag) : List V → Hp → VK → Prop := fun xs H Q => ∃ p ys, xs = [.ref p] ∧ (SqL K H p ys ∨ SqT K H p ys) ∧ ∀ l, H l = none → Q (.ref l) (upd H l (.lst ys))
theorem call_listU : CallR X (.type "list") (rListOf X.K) := call_list_of
theorem list_of {ds : List Dat} (h : SeqD own d ds) (p : P (.lst ds) own) : RLX K (rListOf K) [d] own P := fun F V0 H xs hs hx Q q => by
  cases hx with
  | cons h1 t =>
    cases t
    obtain ⟨a, vs, rfl, ha, l⟩ := h.sq hs h1
    refine ⟨a, vs, rfl, ha, fun c hc => ?_⟩
    obtain ⟨g1, g2, g3⟩ := vis_newd (o := .lst vs) hs hc
    exact q _ _ _ own g1 g2 (.lst g3 (l.mono g2)) p
theorem list_ofO {ds : List Dat} (h : SeqD own d ds) (p : ∀ a, a ∉ own.map (·.1) → P (.ptr a) ((a, .lst ds) :: own)) : RLX K (rListOf K) [d] own P := fun F V0 H xs hs hx Q q => by
  cases hx with
  | cons h1 t =>
    cases t
    obtain ⟨a, vs, rfl, ha, l⟩ := h.sq hs h1
    refine ⟨a, vs, rfl, ha, fun c hc => ?_⟩
    refine q _ _ _ ((c, .lst ds) :: own) (hs.new hc (.lst upd_same l)) ?_ (.ptr c) (p c (fresh_own hs hc))
    rw [vis_new hs hc]; exact Same.refl _
def rTupOf (K : PySem.W.Frag) : List V → Hp → VK → Prop := fun xs H Q => ∃ p ys, xs = [.ref p] ∧ ((SqL K H p ys ∧ ∀ l, H l = none → Q (.ref l) (upd H l (.tup ys))) ∨ (SqT K H p ys ∧ Q (.ref p) H))
theorem call_tupU : CallR X (.type "tuple") (rTupOf X.K) := call_tuple_of
theorem tup_of {ds : List Dat} (h : SeqD own d ds) (p : P (.tup ds) own) : RLX K (rTupOf K) [d] own P := fun F V0 H xs hs hx Q q => by
  cases hx with
  | cons h1 t =>
    cases t
    rcases h with h | rfl
    · obtain ⟨a, vs, rfl, ha, l⟩ := h.sq hs h1
      refine ⟨a, vs, rfl, .inl ⟨ha, fun c hc => ?_⟩⟩
      obtain ⟨g1, g2, g3⟩ := vis_newd (o := .tup vs) hs hc
      exact q _ _ _ own g1 g2 (.tup g3 (l.mono g2)) p
    · cases h1 with
      | tup ha l => exact ⟨_, _, rfl, .inr ⟨tq vis_sub ha, q _ H _ own hs (Same.refl _) (.tup ha l) p⟩⟩
theorem sum_lst {ns : List Int} (h : LstD own d (ns.map Dat.int)) (p : P (.int ns.sum) own) : RLX K (rSum K) [d] own P := rl_of (fun F V0 H xs hs hx => by
  cases hx with
  | cons h1 t =>
    cases t
    obtain ⟨a, vs, rfl, ha, l⟩ := h.sq hs h1
    have e := l.ints
    subst e
    exact ⟨_, fun _ => .int _, fun Q q => ⟨a, ns, rfl, ha, q⟩⟩) p
theorem any_lst {ns : List Bool} (h : LstD own d (ns.map Dat.bl)) (p : P (.bl (ns.any id)) own) : RLX K (rAny K) [d] own P := rl_of (fun F V0 H xs hs hx => by
  cases hx with
  | cons h1 t =>
    cases t
    obtain ⟨a, vs, rfl, ha, l⟩ := h.sq hs h1
    have e := l.bools
    subst e
    exact ⟨_, fun _ => .bl _, fun Q q => ⟨a, ns, rfl, ha, q⟩⟩) p
theorem all_lst {ns : List Bool} (h : LstD own d (ns.map Dat.bl)) (p : P (.bl (ns.all id)) own) : RLX K (rAll K) [d] own P := rl_of (fun F V0 H xs hs hx => by
  cases hx with
  | cons h1 t =>
    cases t
    obtain ⟨a, vs, rfl, ha, l⟩ := h.sq hs h1
    have e := l.bools
    subst e
    exact ⟨_, fun _ => .bl _, fun Q q => ⟨a, ns, rfl, ha, q⟩⟩) p
def rStrI : List V → Hp → VK → Prop := fun xs H Q => ∃ i, xs = [.int i] ∧ i.natAbs.log2 < 1920 ∧ Q (.str (toString i)) H
theorem call_strU : CallR X (.type "str") rStrI := call_str_int
theorem str_int {i : Int} (hi : i.natAbs.log2 < 1920) (p : P (.str (toString i)) own) : RLX K rStrI [.int i] own P := rl_of (fun F V0 H xs hs hx => by
  cases hx with
  | cons h1 t =>
    cases t; cases h1
    exact ⟨_, fun _ => .str _, fun Q q => ⟨i, rfl, hi, q⟩⟩) p
/-! ### methods of texts and lists -/
def rJoin (K : PySem.W.Frag) : V → List V → Hp → VK → Prop := fun x xs H Q => ∃ a p, ∃ ys : List Str, x = .str a ∧ xs = [.ref p] ∧ (SqL K H p (ys.map V.str) ∨ SqT K H p (ys.map V.str)) ∧ (ys.map (·.length)).sum + ys.length * a.length ≤ 16777216 ∧ Q (.str (Txt.join a ys)) H
theorem pe_joinU {o e : Expr} {to te : TE} {apos pos : Pos} (ho : PE X o to) (he : PE X e te) (hs : starEach [e] X.env = [(false, eval e X.env)] := by rfl) (hbase : attributeBase o "join" X.env (eval o X.env) = eval o X.env := by rfl) (hline : (apos.endLine == pos.line) = true := by rfl) :
    PE X (.Call (.Attribute o "join" apos) [e] [] pos) (tM1 (rJoin X.K) to te) := pe_join ho he hs hbase hline
theorem join_lst {a : Str} {ys : List Str} (h : SeqD own d (ys.map Dat.str)) (hz : (ys.map (·.length)).sum + ys.length * a.length ≤ 16777216) (p : P (.str (Txt.join a ys)) own) : RMX K (rJoin K) (.str a) [d] own P := fun F V0 H x xs hs hx hl Q q => by
  cases hx
  cases hl with
  | cons h1 t =>
    cases t
    obtain ⟨b, vs, rfl, hb, l⟩ := h.sq hs h1
    have e := l.strs
    subst e
    exact ⟨a, b, ys, rfl, rfl, hb, hz, q _ H _ own hs (Same.refl _) (.str _) p⟩
def rStarts : V → List V → Hp → VK → Prop := fun x xs H Q => ∃ a b, x = .str a ∧ xs = [.str b] ∧ Q (.bl (Txt.startswith a b)) H
theorem pe_startsU {o e : Expr} {to te : TE} {apos pos : Pos} (ho : PE X o to) (he : PE X e te) (hs : starEach [e] X.env = [(false, eval e X.env)] := by rfl) (hbase : attributeBase o "startswith" X.env (eval o X.env) = eval o X.env := by rfl) (hline : (apos.endLine == pos.line) = true := by rfl) :
    PE X (.Call (.Attribute o "startswith" apos) [e] [] pos) (tM1 rStarts to te) := pe_m1 PySem.F.slot_str_startswith PySem.F.type_str_startswith mt_startswith ho he hs hbase hline
theorem starts_str {a b : Str} (p : P (.bl (Txt.startswith a b)) own) : RMX K rStarts (.str a) [.str b] own P := fun F V0 H x xs hs hx hl Q q => by
  cases hx
  cases hl with
  | cons h1 t => cases t; cases h1; exact ⟨a, b, rfl, rfl, q _ H _ own hs (Same.refl _) (.bl _) p⟩
theorem ex_bm {T : String} {sl : SL} {r : V → List V → Hp → VK → Prop} {to : TE} {t : TA} (h : EX K to sl own fun d o => (∀ F V0 H x, Hs K F V0 H o → Da K (vis F o H) x d → tyV K T x H) ∧ AX K t sl o fun ds o2 => RMX K r d ds o2 P) : EX K (tBM K T r to t) sl own P := fun F V0 σ H hs hl Q q => by
  refine h F V0 σ H hs hl _ fun v H1 d o1 hs1 e1 hd1 ⟨z, p1⟩ => ⟨z F V0 H1 v hs1 hd1, ?_⟩
  refine p1 F V0 σ H1 hs1 (hl.mono e1) _ fun vs H2 ds o2 hs2 e2 hd2 p2 => ?_
  exact p2 F V0 H2 v vs hs2 (hd1.mono e2) hd2 Q fun v H3 d o3 hs3 e3 hd3 p3 => q v H3 d o3 hs3 ((e1.trans e2).trans e3) hd3 p3
theorem ty_lst {ds : List Dat} {o : Own} (h : LstD o d ds) : ∀ F V0 H x, Hs K F V0 H o → Da K (vis F o H) x d → tyV K "list" x H := fun F V0 H x hs hx => by
  obtain ⟨a, vs, rfl, ha, l⟩ := h.sq hs hx
  exact .inl ⟨rfl, _, ha⟩
/-- xs.append(e), xs.extend(ys) on a list of one's own -/
theorem app_lst {a : Addr} {ds : List Dat} {l r : Own} (hz : ds.length < sizeLine) (p : P .non (l ++ (a, .lst (ds ++ [e])) :: r)) : RMX K rAppend (.ptr a) [e] (l ++ (a, .lst ds) :: r) P := fun F V0 H x xs hs hx hl Q q => by
  cases hx
  cases hl with
  | cons h1 t =>
    cases t
    have c := hs.cell _ (List.mem_append_right l List.mem_cons_self)
    cases c with
    | lst h2 t2 =>
      refine ⟨a, _, _, rfl, rfl, h2, by rw [t2.length]; exact hz, q _ _ .non (l ++ (a, .lst (ds ++ [e])) :: r) (hs.put (.lst upd_same (t2.append (.cons h1 .nil)))) ?_ .non p⟩
      rw [vis_put (c := .lst ds)]; exact Same.refl _
theorem ext_lst {a : Addr} {ds es : List Dat} {l r : Own} (h : TrkD (l ++ (a, .lst ds) :: r) e es) (hz : ds.length + es.length ≤ sizeLine) (p : P .non (l ++ (a, .lst (ds ++ es)) :: r)) : RMX K rExtend (.ptr a) [e] (l ++ (a, .lst ds) :: r) P := fun F V0 H x xs hs hx hl Q q => by
  cases hx
  cases hl with
  | cons h1 t =>
    cases t
    obtain ⟨b, us, rfl, hb, l1⟩ := h.tk hs h1
    have c := hs.cell _ (List.mem_append_right l List.mem_cons_self)
    cases c with
    | lst h2 t2 =>
      refine ⟨a, b, _, us, rfl, rfl, h2, hb, by rw [t2.length, l1.length]; exact hz, q _ _ .non (l ++ (a, .lst (ds ++ es)) :: r) (hs.put (.lst upd_same (t2.append l1))) ?_ .non p⟩
      rw [vis_put (c := .lst ds)]; exact Same.refl _
/-- list(range(n)) -/
theorem ex_lrg {te : TE} {sl : SL} (h : EX K te sl own fun d o => ∃ n : Int, d = .int n ∧ RgOk 0 n ∧ P (.lst ((List.range n.toNat).map fun i => .int (i : Nat))) o) : EX K (tLstRg (tRg1 te)) sl own P := fun F V0 σ H hs hl Q q => by
  refine h F V0 σ H hs hl _ fun v H1 d o1 hs1 e1 hd1 ⟨n, z, ok, p⟩ => ?_
  subst z
  cases hd1
  refine ⟨n, rfl, ok, fun c hc => ?_⟩
  obtain ⟨g1, g2, g3⟩ := vis_newd (o := .lst (rgV 0 n)) hs1 hc
  refine q _ _ _ o1 g1 (e1.trans g2) (.lst g3 ?_) p
  have e : rgV 0 n = ((List.range n.toNat).map fun i => ((i : Nat) : Int)).map V.int := by
    unfold rgV
    simp
  rw [e, show ((List.range n.toNat).map fun i => Dat.int (i : Nat)) = ((List.range n.toNat).map fun i => ((i : Nat) : Int)).map Dat.int by simp]
  exact daL_ints _
end

/-! ### defs -/
section
variable {P : Program} {w : World} {K : PySem.W.Frag} {mg : Str → Option Value} {base : Heap}
theorem start_sl {W : Hp} {N : List Str} {vs : List V} {args : List Dat} (h : DaL K W vs args) : Sl K W (L2.start N vs) (args.map some ++ List.replicate (N.length - args.length) none) := by
  unfold L2.start
  refine ⟨by simp [h.length], fun i d q => ?_⟩
  rw [List.getElem?_append] at q
  split at q
  · next hi =>
    rw [List.length_map] at hi
    rw [List.getElem?_map] at q
    obtain ⟨e, he, hd⟩ := Option.map_eq_some_iff.mp q
    cases hd
    obtain ⟨v, e1, e2⟩ := h.get he
    exact ⟨v, by rw [List.getElem?_append_left (by rw [List.length_map, h.length]; exact hi), List.getElem?_map, e1]; rfl, e2⟩
  · rw [List.getElem?_replicate] at q
    split at q <;> cases q
/-- a def that raises nothing -/
abbrev KX.no (K : PySem.W.Frag) : KX := ⟨K, fun _ _ _ _ => False, fun _ _ _ _ => False⟩
theorem no_ok {F V0 : Hp} : XOk (KX.no K) F V0 := fun _ _ _ _ _ _ _ _ z => z.elim
theorem okS {x qual : Str} {st : Stmt} {f : Addr} {fd : FuncData} {N ps : List Str} {k : Nat} {C : Con} (F : Fun K x qual st f fd) (S : FnScope N ps (defScope st)) (len : ∀ args own P XP, C args own P XP → args.length = ps.length)
    (hbody : ∀ (cdv : Value) (A : Around) (outer : List Env) (s : Shared) (H : Hp) (E : XK), Room k (A.deeper (PyProof.Rows.envOfC qual (defScope st) s.heap.objs.size f cdv)) →
      ∃ t, PSs (cxOf CX0 P w K mg base N qual (defScope st) f cdv A outer s H E).nox (defBody st) t ∧ ∀ args own P XP, C args own P XP → SS (KX.no K) t (args.map some ++ List.replicate (N.length - args.length) none) own { nx := fun _ o => P .non o, rt := P }) :
    FnOk P w K mg base CX0 (k + 1) f fd ps (SpG K C) := by
  refine F.ok S (fun vs H Q E ⟨F, V0, own, args, P, XP, hs, hd, hc, _, _⟩ => hd.length.trans (len args own P XP hc)) fun cdv A outer s H vs Q E hr ⟨F, V0, own, args, PP, XP, hs, hd, hc, k1, k2⟩ => ?_
  obtain ⟨t, ht, hb⟩ := hbody cdv A outer s H E hr
  refine ⟨t, ht, hb args own PP XP hc F V0 (L2.start N vs) H ⟨hs, no_ok⟩ (start_sl hd) _ (fun σ' H' sl' own' a b c p => k1 .non H' .non own' a.c b .non p) (fun v H' d own' a b c p => k1 v H' d own' a.c b c p) (fun _ _ _ _ _ _ _ z => z.elim) (fun _ _ _ _ _ _ _ z => z.elim)⟩
/-- a def that may raise -/
abbrev KX.df (K : PySem.W.Frag) (E : XK) (XP : XD) : KX := ⟨K, fun c d _ H => E c d H, fun c d _ o => XP c d o⟩
theorem okSX {x qual : Str} {st : Stmt} {f : Addr} {fd : FuncData} {N ps : List Str} {k : Nat} {C : Con} (F : Fun K x qual st f fd) (S : FnScope N ps (defScope st)) (len : ∀ args own P XP, C args own P XP → args.length = ps.length)
    (hbody : ∀ (cdv : Value) (A : Around) (outer : List Env) (s : Shared) (H : Hp) (E : XK), Room k (A.deeper (PyProof.Rows.envOfC qual (defScope st) s.heap.objs.size f cdv)) →
      ∃ t, PSs (cxOf (L2.CX P w) P w K mg base N qual (defScope st) f cdv A outer s H E) (defBody st) t ∧ ∀ args own P XP, C args own P XP → SS (KX.df K E XP) t (args.map some ++ List.replicate (N.length - args.length) none) own { nx := fun _ o => P .non o, rt := P }) :
    FnOk P w K mg base (L2.CX P w) (k + 1) f fd ps (SpG K C) := by
  refine F.okX S (fun vs H Q E ⟨F, V0, own, args, P, XP, hs, hd, hc, _, _⟩ => hd.length.trans (len args own P XP hc)) fun cdv A outer s H vs Q E hr ⟨F, V0, own, args, PP, XP, hs, hd, hc, k1, k2⟩ => ?_
  obtain ⟨t, ht, hb⟩ := hbody cdv A outer s H E hr
  have hx : XOk (KX.df K E XP) F (vis F own H) := fun c dx σ sl H2 own2 h2 _ p => k2 c dx H2 own2 (h2.from hs.mo) h2.mo p
  refine ⟨t, ht, hb args own PP XP hc F (vis F own H) (L2.start N vs) H ⟨hs.now, hx⟩ (start_sl hd) _ (fun σ' H' sl' own' a b c p => k1 .non H' .non own' (a.c.from hs.mo) b .non p) (fun v H' d own' a b c p => k1 v H' d own' (a.c.from hs.mo) b c p) (fun _ _ _ _ _ _ _ z => z.elim) (fun _ _ _ _ _ _ _ z => z.elim)⟩
end
end Sy
namespace Sy
open PySem L2
/-! the rules with the written part named: within comprehensions the context hangs on more -/
section
variable {X : Cx} {K : PySem.W.Frag} {e o a b : Expr} {es rest : List Expr} {te ta tb to tl : TE} {t : TA} {f : Str} {pos pos' apos cpos : Pos}
theorem k_add (hK : X.K = K) : OpR X (binaryOp .Add) (uAdd K) := hK ▸ op_addU
theorem k_eq (hK : X.K = K) (hu : X.A.units + 64 < cLine) : OpR X (compareOp .Eq) (uEq K) := hK ▸ op_eqU hu
theorem k_ne (hK : X.K = K) (hu : X.A.units + 64 < cLine) : OpR X (compareOp .NotEq) (uNe K) := hK ▸ op_neU hu
theorem k_in (hK : X.K = K) (hu : X.A.units + 65 < cLine) : OpR X (compareOp .In) (uIn K false) := hK ▸ op_inU hu
theorem k_notIn (hK : X.K = K) (hu : X.A.units + 65 < cLine) : OpR X (compareOp .NotIn) (uIn K true) := hK ▸ op_notInU hu
theorem k_ix (hK : X.K = K) (hu : X.A.units + 1 < cLine) : IxR X (uIx K) := hK ▸ ix_U hu
theorem k_sl (hK : X.K = K) : SlR X (uSl K) := hK ▸ sl_U
theorem k_tru (hK : X.K = K) (ha : PE X a ta) (he : ∀ whole, isTrue a X.env whole = (do let v ← whole; standAt a.pos; holding [v] (truthy v))) : PT X a (tTru K ta) := hK ▸ pt_tru ha he
theorem k_len (hK : X.K = K) : CallR X (.builtin "len") (uLen K) := hK ▸ call_lenU
theorem k_max (hK : X.K = K) (hc : X.calm = true) : CallR X (.builtin "max") (uMax K) := hK ▸ call_maxU hc
theorem k_min (hK : X.K = K) (hc : X.calm = true) : CallR X (.builtin "min") (uMin K) := hK ▸ call_minU hc
theorem k_list (hK : X.K = K) : CallR X (.type "list") (rListOf K) := hK ▸ call_listU
theorem k_tup (hK : X.K = K) : CallR X (.type "tuple") (rTupOf K) := hK ▸ call_tupU
theorem k_sum (hK : X.K = K) (hc : X.calm = true) : CallR X (.builtin "sum") (rSum K) := hK ▸ cr_sum hc
theorem k_any (hK : X.K = K) (hc : X.calm = true) : CallR X (.builtin "any") (rAny K) := hK ▸ cr_any hc
theorem k_all (hK : X.K = K) (hc : X.calm = true) : CallR X (.builtin "all") (rAll K) := hK ▸ cr_all hc
theorem k_join (hK : X.K = K) (ho : PE X o to) (he : PE X e te) (hs : starEach [e] X.env = [(false, eval e X.env)] := by rfl) (hbase : attributeBase o "join" X.env (eval o X.env) = eval o X.env := by rfl) (hline : (apos.endLine == pos.line) = true := by rfl) :
    PE X (.Call (.Attribute o "join" apos) [e] [] pos) (tM1 (rJoin K) to te) := hK ▸ pe_joinU ho he hs hbase hline
theorem k_fld (hK : X.K = K) (he : PE X e ta) (hb : attributeBase e f X.env (eval e X.env) = eval e X.env) : PE X (.Attribute e f pos) (tFld K ta f) := hK ▸ pe_fld he hb
theorem k_and (hK : X.K = K) (ha : PE X a ta) (hb : PE X (.BoolOp .And (b :: rest) pos) tb) : PE X (.BoolOp .And (a :: b :: rest) pos) (tAndT K ta tb) := hK ▸ pe_andT ha hb
theorem k_or (hK : X.K = K) (ha : PE X a ta) (hb : PE X (.BoolOp .Or (b :: rest) pos) tb) : PE X (.BoolOp .Or (a :: b :: rest) pos) (tOrT K ta tb) := hK ▸ pe_orT ha hb
theorem k_not (hK : X.K = K) (ha : PE X a ta) : PE X (.UnaryOp .Not a pos) (tNotT K ta) := hK ▸ pe_notT ha
theorem k_seq {tg : Expr} (hK : X.K = K) (hl : PE X e tl) : PI X tg e (iSeq K tl) := hK ▸ pi_seq hl
theorem k_bm {T id : String} {r : V → List V → Hp → VK → Prop} {name : Str} (hK : X.K = K) (pa : PlainAttrs T) (slot : Slot T name id) (hty : typeOf (.builtin id) = pure (.type "method_descriptor")) (hm : MtR X id r) (ho : PE X o to) (ha : PA X (e :: es) t)
    (hbase : attributeBase o name X.env (eval o X.env) = eval o X.env := by rfl)
    (hfew : ((backTo cpos (starEach (e :: es) X.env)).all (fun x => !x.1) && (backToKw cpos (keywordEach [] X.env)).all (fun x => x.1.isSome)
      && decide ((e :: es).length + ([] : List Keyword).length + (if ([] : List Keyword).isEmpty then 0 else 1) < 30)) = true := by rfl)
    (hline : (apos.endLine == cpos.line) = true := by rfl) (hs : starEach (e :: es) X.env = (false, eval e X.env) :: starEach es X.env := by rfl) (hplain : (backTo cpos (starEach es X.env)).any (·.1) = false := by rfl) :
    PE X (.Call (.Attribute o name apos) (e :: es) [] cpos) (tBM K T r to t) := hK ▸ pe_bm pa slot hty hm ho ha hbase hfew hline hs hplain
end
end Sy
/-! What the laws share: branches, the drawing, the start. -/
namespace Sy
open PySem L2
theorem iteD {c A B : Prop} [Decidable c] (h1 : c → A) (h2 : ¬ c → B) : if decide c = true then A else B := by
  by_cases h : c
  · rw [decide_eq_true h]; exact iteT (h1 h)
  · rw [decide_eq_false h]; exact iteF (h2 h)
theorem iteN {c A B : Prop} [Decidable c] (h1 : ¬ c → A) (h2 : c → B) : if (!decide c) = true then A else B := by
  by_cases h : c
  · rw [decide_eq_true h]; exact iteF (h2 h)
  · rw [decide_eq_false h]; exact iteT (h1 h)
theorem iteB {b : Bool} {A B : Prop} (h1 : b = true → A) (h2 : b = false → B) : if b = true then A else B := by
  cases b with
  | true => exact iteT (h1 rfl)
  | false => exact iteF (h2 rfl)
theorem iteNB {b : Bool} {A B : Prop} (h1 : b = false → A) (h2 : b = true → B) : if (!b) = true then A else B := by
  cases b with
  | true => exact iteF (h2 rfl)
  | false => exact iteT (h1 rfl)
theorem ble {a b : Nat} (h : Nat.ble a b = true := by rfl) : a ≤ b := Nat.le_of_ble_eq_true h
section
variable {K : KX} {own l r : Own} {P : PD} {d e : Dat}
theorem trk_lst {ds : List Dat} : TrkD own (.lst ds) ds := .inl rfl
theorem trk_ptr {a : Addr} {ds : List Dat} : TrkD (l ++ (a, .lst ds) :: r) (.ptr a) ds := .inr ⟨a, rfl, List.mem_append_right _ List.mem_cons_self⟩
end
/-- numbers with few bits -/
theorem mul_ok {i j : Int} {a b : Nat} (ha : i.natAbs < 2 ^ a) (hb : j.natAbs < 2 ^ b) (h : a + b ≤ 100000000) (h0 : 0 < a := by decide) (h1 : 0 < b := by decide) : IntMulOk i j := by
  have x := PySem.Flt.log2_lt_of h0 ha
  have y := PySem.Flt.log2_lt_of h1 hb
  have bb : ∀ x : Int, Builtin.Int.intBits x ≤ x.natAbs.log2 + 1 := fun x => by
    unfold Builtin.Int.intBits
    split <;> omega
  have h1 := bb i
  have h2 := bb j
  have e : bitsLine = 134217728 := by decide
  unfold IntMulOk
  intro z
  rw [Bool.and_eq_true] at z
  have z2 := z.2
  unfold Builtin.Int.intTooBig at z2
  have z3 := of_decide_eq_true z2
  rw [e] at z3
  omega
theorem mul_ok64 {i j : Int} (ha : i.natAbs < 2 ^ 64) (hb : j.natAbs < 2 ^ 64) : IntMulOk i j := mul_ok ha hb (by decide)
theorem lt_bits {n : Int} {k : Nat} (h : Builtin.Int.intBits n ≤ k) : n.natAbs < 2 ^ (k + 1) := by
  unfold Builtin.Int.intBits at h
  split at h
  · next e => 
    rw [show n.natAbs = 0 by simp_all]
    exact Nat.two_pow_pos _
  · exact Nat.lt_of_lt_of_le (Nat.lt_log2_self) (Nat.pow_le_pow_right (by decide) (by omega))
/-- the script as data -/
theorem law_data {K : PySem.W.Frag} {H : Hp} {a : Addr} {ns : List Int} (hS : SqL K H a (ns.map V.int)) : ∃ F V0 : Hp, HsC K F V0 H [] ∧ Da K (vis F [] H) (.ref a) (.scr (ns.map Dat.int)) := by
  have ev : vis (fun _ => none) [] H = H := by funext b; unfold vis; simp
  refine ⟨fun _ => none, H, ⟨List.nodup_nil, fun p hp => (List.not_mem_nil hp).elim, (by rw [ev]; exact Same.refl _), fun b o e => (nomatch e), fun p hp => (List.not_mem_nil hp).elim⟩, ?_⟩
  rw [ev]
  exact .scr hS (daL_ints ns)
/-- how many bits a number of the script has at most -/
def sB : Nat := 1048577
/-- a law's promise: every script of at most 63 numbers of not too many bits -/
def con_law0 : Con := fun args own P XP => ∃ ns : List Int, args = [.scr (ns.map Dat.int)] ∧ own = [] ∧ ns.length ≤ 63 ∧ (∀ z ∈ ns, z.natAbs < 2 ^ sB) ∧ ∀ o, P (.bl true) o
theorem law_start {K : PySem.W.Frag} {H : Hp} {a : Addr} {ns : List Int} (hl : ns.length ≤ 63) (hb : ∀ z ∈ ns, Builtin.Int.intBits z ≤ 1048576) (hS : SqL K H a (ns.map V.int)) :
    SpG K con_law0 [.ref a] H (fun v _ => v = .bl true) fun _ _ _ => False := by
  obtain ⟨F, V0, hs, hd⟩ := law_data hS
  exact ⟨F, V0, [], [.scr (ns.map Dat.int)], fun d _ => d = .bl true, noX, hs, .cons hd .nil, ⟨ns, rfl, rfl, hl, fun z hz => lt_bits (hb z hz), fun _ => rfl⟩, fun v H' d own' _ _ hv e => by subst e; cases hv; rfl, fun _ _ _ _ _ _ z => z⟩
end Sy
namespace Sy
open PySem L2
/-! numbers of so many bits -/
def Bd (n : Int) (k : Nat) : Prop := n.natAbs < 2 ^ k
theorem Bd.mono {n : Int} {j k : Nat} (h : Bd n j) (e : j ≤ k) : Bd n k := Nat.lt_of_lt_of_le h (Nat.pow_le_pow_right (by decide) e)
theorem Bd.add {a b : Int} {k : Nat} (ha : Bd a k) (hb : Bd b k) : Bd (a + b) (k + 1) := by
  unfold Bd at *
  rw [Nat.pow_succ]
  have := Int.natAbs_add_le a b
  omega
theorem Bd.sub {a b : Int} {k : Nat} (ha : Bd a k) (hb : Bd b k) : Bd (a - b) (k + 1) := by
  unfold Bd at *
  rw [Nat.pow_succ]
  have := Int.natAbs_sub_le a b
  omega
theorem Bd.mul {a b : Int} {j k : Nat} (ha : Bd a j) (hb : Bd b k) : Bd (a * b) (j + k) := wide_lt ha hb
theorem Bd.ok {a b : Int} {j k : Nat} (ha : Bd a j) (hb : Bd b k) (h : j + k ≤ 100000000) (h0 : 0 < j := by decide) (h1 : 0 < k := by decide) : IntMulOk a b := mul_ok ha hb h h0 h1
theorem bd_lit {n : Int} {k : Nat} (h : n.natAbs < 2 ^ k) : Bd n k := h
theorem bd_of {n m : Int} {k : Nat} (h0 : 0 ≤ n) (h : n ≤ m) (hm : Bd m k) : Bd n k := by unfold Bd at *; omega
theorem atI_ok {α : Type} {xs : List α} {i : Int} (h0 : 0 ≤ i) (h1 : i < xs.length) : ∃ z, xs[i.toNat]? = some z ∧ z ∈ xs ∧ atI xs i = some z := by
  have hl : i.toNat < xs.length := by omega
  refine ⟨xs[i.toNat], by simp [hl], List.getElem_mem hl, ?_⟩
  unfold atI ixN
  rw [if_pos h0, if_pos h1]
  simp [hl]
theorem atI_map {α β : Type} {xs : List α} {f : α → β} {i : Int} : atI (xs.map f) i = (atI xs i).map f := by
  unfold atI
  rw [List.length_map]
  cases ixN xs.length i with
  | none => rfl
  | some j => simp
end Sy
namespace Sy
open PySem L2
/-! the drawing -/
def drw (x y m : Int) : Int × Int × Int :=
  if x < m then
    let one := (y * y + 48271 * y + 12345) % 2305843009213693951
    let two := (one * one + 69621 * one + 77) % 618970019642690137449562111
    let x' := m + (two * two + one) % 162259276829213363391578010288127
    (x' % m, x' / m, two)
  else (x % m, x / m, y)
theorem Bd.div {a m : Int} {k : Nat} (h0 : 0 ≤ a) (h1 : 1 ≤ m) (h : Bd a k) : Bd (a / m) k :=
  bd_of (Int.ediv_nonneg h0 (by omega)) (Int.ediv_le_self _ h0) h
theorem drw_ok {x y m : Int} (z : RngOk x y) (h : 1 ≤ m) (hm : Bd m 64) : 0 ≤ (drw x y m).1 ∧ (drw x y m).1 < m ∧ RngOk (drw x y m).2.1 (drw x y m).2.2 := by
  obtain ⟨x0, xb, y0, yb⟩ := z
  unfold drw
  split
  · simp only
    generalize ((y * y + 48271 * y + 12345) % 2305843009213693951) = one
    have t0 := Int.emod_nonneg (one * one + 69621 * one + 77) (show (618970019642690137449562111 : Int) ≠ 0 by decide)
    have t1 := Int.emod_lt_of_pos (one * one + 69621 * one + 77) (show (0 : Int) < 618970019642690137449562111 by decide)
    generalize (one * one + 69621 * one + 77) % 618970019642690137449562111 = two at t0 t1
    have u0 := Int.emod_nonneg (two * two + one) (show (162259276829213363391578010288127 : Int) ≠ 0 by decide)
    have u1 := Int.emod_lt_of_pos (two * two + one) (show (0 : Int) < 162259276829213363391578010288127 by decide)
    generalize (two * two + one) % 162259276829213363391578010288127 = u at u0 u1
    refine ⟨Int.emod_nonneg _ (by omega), Int.emod_lt_of_pos _ (by omega), Int.ediv_nonneg (by omega) (by omega), ?_, t0, ?_⟩
    · refine Bd.div (by omega) h (Bd.mono (k := rB) (j := 120) ?_ (by decide))
      unfold Bd at *
      omega
    · refine Bd.mono (j := 120) (k := rB) ?_ (by decide)
      unfold Bd
      omega
  · exact ⟨Int.emod_nonneg _ (by omega), Int.emod_lt_of_pos _ (by omega), Int.ediv_nonneg x0 (by omega), Bd.div x0 h xb, y0, yb⟩
end Sy
/-! Texts, loops: what proofs of laws ask often. -/
namespace Sy
open PySem L2
/-! ### texts by their codes -/
def codes (z : Str) : List Nat := z.cps.toList
theorem codes_inj {a b : Str} (h : codes a = codes b) : a = b := by
  cases a; cases b
  unfold codes at h
  simp only [Str.mk.injEq]
  exact Array.toList_inj.mp h
theorem codes_len (z : Str) : (codes z).length = z.length := by unfold codes Str.length; simp
theorem starts_iff {x y : Str} : Txt.startswith x y = true ↔ codes y <+: codes x := by
  unfold Txt.startswith Builtin.Str.subAt
  rw [Bool.and_eq_true, decide_eq_true_eq, beq_iff_eq]
  constructor
  · rintro ⟨h1, h2⟩
    have : codes y = (codes x).take y.length := by
      unfold codes
      rw [← h2]
      simp
    rw [this]
    exact List.take_prefix _ _
  · intro h
    have hl := h.length_le
    rw [codes_len, codes_len] at hl
    refine ⟨by omega, ?_⟩
    apply Array.toList_inj.mp
    have e := List.prefix_iff_eq_take.mp h
    rw [codes_len] at e
    unfold codes at e
    rw [e]
    simp
theorem cut_iff {x y : Str} : cutS x none (some (y.length : Int)) = y ↔ codes y <+: codes x := by
  have e : codes (cutS x none (some (y.length : Int))) = (codes x).take (min y.length x.length) := by
    unfold cutS codes
    rw [HT.sIx_none, HT.sIx_nat]
    simp
  constructor
  · intro h
    rw [h] at e
    rw [e]
    exact List.take_prefix _ _
  · intro h
    apply codes_inj
    have hl := h.length_le
    rw [codes_len, codes_len] at hl
    rw [e, Nat.min_eq_left hl, ← codes_len]
    exact (List.prefix_iff_eq_take.mp h).symm
theorem starts_cut {x y : Str} : Txt.startswith x y = decide (cutS x none (some (y.length : Int)) = y) := by
  rw [Bool.eq_iff_iff, starts_iff, decide_eq_true_eq, cut_iff]
theorem codes_join0 (ys : List Str) : codes (Txt.join Str.empty ys) = (ys.map codes).flatten := by
  rw [TL.join_eq]
  induction ys with
  | nil => rfl
  | cons y ys ih =>
    cases ys with
    | nil => simp [Str.join]
    | cons z zs =>
      have : Str.join Str.empty (y :: z :: zs) = y ++ Str.empty ++ Str.join Str.empty (z :: zs) := rfl
      rw [this, List.map_cons, List.flatten_cons, ← ih]
      show TL.tl _ = TL.tl _ ++ TL.tl _
      rw [TL.tl_append, TL.tl_append]
      show _ ++ [] ++ _ = _
      simp
/-- only signs of the list -/
def Dg (S : List Nat) (z : Str) : Prop := ∀ c ∈ codes z, c ∈ S
theorem Dg.join {S : List Nat} {ys : List Str} (h : ∀ y ∈ ys, Dg S y) : Dg S (Txt.join Str.empty ys) := by
  intro c hc
  rw [codes_join0, List.mem_flatten] at hc
  obtain ⟨l, hl, hc⟩ := hc
  obtain ⟨y, hy, rfl⟩ := List.mem_map.mp hl
  exact h y hy c hc
theorem join_len {ys : List Str} (h : ∀ y ∈ ys, y.length = 1) : (Txt.join Str.empty ys).length = ys.length := by
  rw [← codes_len, codes_join0]
  induction ys with
  | nil => rfl
  | cons y ys ih =>
    rw [List.map_cons, List.flatten_cons, List.length_append, ih fun z hz => h z (List.mem_cons_of_mem _ hz), codes_len, h y List.mem_cons_self, List.length_cons]
    omega
theorem sum_len {ys : List Str} (h : ∀ y ∈ ys, y.length = 1) : (ys.map (·.length)).sum = ys.length := by
  induction ys with
  | nil => rfl
  | cons y ys ih =>
    rw [List.map_cons, List.sum_cons, ih fun z hz => h z (List.mem_cons_of_mem _ hz), h y List.mem_cons_self, List.length_cons]
    omega
theorem strOk_dg {S : List Nat} {z : Str} (h : Dg S z) (hS : ∀ c ∈ S, c < 1114112) : PyData.strOk z = true := by
  unfold PyData.strOk
  rw [Array.all_eq_true]
  intro i hi
  exact decide_eq_true (hS _ (h _ (by unfold codes; simp)))
def dS : List Nat := [48, 49, 50, 51, 52, 53, 54, 55, 56, 57]
/-- one digit as a text -/
theorem digit_str {d : Int} (h0 : 0 ≤ d) (h1 : d < 10) : (codes (Str.ofString (toString d)) = [48 + d.toNat]) := by
  obtain ⟨n, rfl⟩ : ∃ n : Nat, d = n := ⟨d.toNat, by omega⟩
  have : n < 10 := by omega
  rcases n with _ | _ | _ | _ | _ | _ | _ | _ | _ | _ | n
  all_goals first | (exfalso; omega) | decide +kernel
theorem small_log {d : Int} (h0 : 0 ≤ d) (h1 : d < 2 ^ 64) : d.natAbs.log2 < 1920 := by
  have := PySem.Flt.log2_lt_of (n := d.natAbs) (k := 64) (by decide) (by omega)
  omega

/-- digits below m -/
def Dgt (m : Nat) (z : Str) : Prop := ∀ c ∈ codes z, 48 ≤ c ∧ c < 48 + m
theorem Dgt.join {m : Nat} {ys : List Str} (h : ∀ y ∈ ys, Dgt m y) : Dgt m (Txt.join Str.empty ys) := by
  intro c hc
  rw [codes_join0, List.mem_flatten] at hc
  obtain ⟨l, hl, hc⟩ := hc
  obtain ⟨y, hy, rfl⟩ := List.mem_map.mp hl
  exact h y hy c hc
theorem Dgt.ok {m : Nat} {z : Str} (h : Dgt m z) (hm : m ≤ 1000) : PyData.strOk z = true := by
  unfold PyData.strOk
  rw [Array.all_eq_true]
  intro i hi
  exact decide_eq_true (by have := (h _ (show z.cps[i] ∈ codes z by unfold codes; simp)).2; omega)
theorem str_digit {d : Int} {m : Nat} (h0 : 0 ≤ d) (h1 : d < m) (hm : m ≤ 10) : (Str.ofString (toString d)).length = 1 ∧ Dgt m (Str.ofString (toString d)) := by
  have hc := digit_str h0 (by omega)
  refine ⟨by rw [← codes_len, hc]; rfl, fun e he => ?_⟩
  rw [hc, List.mem_singleton] at he
  subst he
  omega

/-! ### loops -/
section
variable {K : KX} {own : Own} {sl : SL} {te : TE} {R : List Dat → (Own → Prop) → Own → Prop}
theorem ix_s (h : EX K te sl own fun d o => ∃ ds, (d = .lst ds ∨ d = .scr ds ∨ d = .tup ds) ∧ R ds anyO o) : IX K (iSeq K te) sl own R :=
  ix_seq' (ex_mono h fun d o ⟨ds, h1, h2⟩ => ⟨ds, anyO, h2, .inl ⟨h1, rfl⟩⟩)
theorem ix_p (h : EX K te sl own fun d o => ∃ a ds, d = .ptr a ∧ (a, Cell.lst ds) ∈ o ∧ R ds (fun o => (a, Cell.lst ds) ∈ o) o) : IX K (iSeq K te) sl own R :=
  ix_seq' (ex_mono h fun d o ⟨a, ds, h1, h2, h3⟩ => ⟨ds, _, h3, .inr ⟨a, h1, h2, rfl⟩⟩)
end
theorem rng_at {n : Nat} {i : Nat} {x : Dat} (h : ((List.range n).map fun i => Dat.int (i : Nat))[i]? = some x) : i < n ∧ x = .int (i : Nat) := by
  rw [List.getElem?_map] at h
  by_cases hi : i < n
  · simp [hi] at h; exact ⟨hi, h.symm⟩
  · simp [hi] at h
theorem rng2_at {a : Int} {n : Nat} {i : Nat} {x : Dat} (h : ((List.range n).map fun i => Dat.int (a + (i : Nat)))[i]? = some x) : i < n ∧ x = .int (a + (i : Nat)) := by
  rw [List.getElem?_map] at h
  by_cases hi : i < n
  · simp [hi] at h; exact ⟨hi, h.symm⟩
  · simp [hi] at h
theorem map_at {α β : Type} {f : α → β} {xs : List α} {i : Nat} {x : β} (h : (xs.map f)[i]? = some x) : ∃ a, xs[i]? = some a ∧ x = f a := by
  rw [List.getElem?_map] at h
  obtain ⟨a, h1, h2⟩ := Option.map_eq_some_iff.mp h
  exact ⟨a, h1, h2.symm⟩
/-- the drawing's state among the cells -/
def Rg (s : Addr) (own : Own) : Prop := ∃ l r, own = l ++ (s, Cell.rng) :: r
theorem Rg.c {s : Addr} {own : Own} {p : Addr × Cell} (h : Rg s own) : Rg s (p :: own) := by
  obtain ⟨l, r, rfl⟩ := h
  exact ⟨p :: l, r, rfl⟩
theorem rg0 {s : Addr} {own : Own} : Rg s ((s, Cell.rng) :: own) := ⟨[], own, rfl⟩
section
variable {own : Own} {Q : Bool → Prop}
theorem tru_bl {k : Bool} (p : Q k) : ∃ b, TruD own (.bl k) b ∧ Q b := ⟨k, rfl, p⟩
theorem tru_non (p : Q false) : ∃ b, TruD own .non b ∧ Q b := ⟨false, rfl, p⟩
theorem tru_int {i : Int} (p : Q (i != 0)) : ∃ b, TruD own (.int i) b ∧ Q b := ⟨_, rfl, p⟩
theorem tru_lst {ds : List Dat} (p : Q (!ds.isEmpty)) : ∃ b, TruD own (.lst ds) b ∧ Q b := ⟨_, rfl, p⟩
theorem tru_tup {ds : List Dat} (p : Q (!ds.isEmpty)) : ∃ b, TruD own (.tup ds) b ∧ Q b := ⟨_, rfl, p⟩
end
theorem dv_lit {i j : Int} (h : 0 < j) (h2 : j.natAbs.log2 < 9000) : CDivW i j := ⟨h, h2⟩
section
variable {K : KX} {own : Own} {P : PD} {b : Bool} {i : Int} {z : Str} {ds : List Dat} {ns : List Str} {a C : Addr}
theorem isn_non (p : P (.bl true) own) : R2X K rIsN' .non .non own P := is_non p
theorem isn_bl (p : P (.bl false) own) : R2X K rIsN' (.bl b) .non own P := is_non p
theorem isn_int (p : P (.bl false) own) : R2X K rIsN' (.int i) .non own P := is_non p
theorem isn_str (p : P (.bl false) own) : R2X K rIsN' (.str z) .non own P := is_non p
theorem isn_tup (p : P (.bl false) own) : R2X K rIsN' (.tup ds) .non own P := is_non p
theorem isn_lst (p : P (.bl false) own) : R2X K rIsN' (.lst ds) .non own P := is_non p
theorem isn_obj (p : P (.bl false) own) : R2X K rIsN' (.obj C ns ds) .non own P := is_non p
theorem isn_ptr (p : P (.bl false) own) : R2X K rIsN' (.ptr a) .non own P := is_non p
theorem ntn_non (p : P (.bl false) own) : R2X K rNotN' .non .non own P := not_non p
theorem ntn_bl (p : P (.bl true) own) : R2X K rNotN' (.bl b) .non own P := not_non p
theorem ntn_int (p : P (.bl true) own) : R2X K rNotN' (.int i) .non own P := not_non p
theorem ntn_str (p : P (.bl true) own) : R2X K rNotN' (.str z) .non own P := not_non p
theorem ntn_tup (p : P (.bl true) own) : R2X K rNotN' (.tup ds) .non own P := not_non p
theorem ntn_lst (p : P (.bl true) own) : R2X K rNotN' (.lst ds) .non own P := not_non p
theorem ntn_obj (p : P (.bl true) own) : R2X K rNotN' (.obj C ns ds) .non own P := not_non p
theorem ntn_ptr (p : P (.bl true) own) : R2X K rNotN' (.ptr a) .non own P := not_non p
end
section
variable {K : KX} {own l r : Own} {P : PD} {d e : Dat} {ds : List Dat} {ns : List Str} {a C : Addr} {f : Str} {i : Nat} {N : Own → Prop}
theorem fgE (h1 : ObjD own d C ns ds) (h2 : Cls K C) (h3 : NoAttr K C f) (h4 : fidx ns f = some i) (h5 : ds[i]? = some e) (p : P e own) : FgW K f d own P := ⟨C, ns, ds, i, e, h1, h2, h3, h4, h5, p⟩
theorem fsN (h0 : own = l ++ (a, Cell.ins C ns ds) :: r) (h2 : Cls K C) (h3 : NoAttr K C f) (h5 : ns.length < 1000) (h4 : fidx ns f = none) (p : N (l ++ (a, .ins C (ns ++ [f]) (ds ++ [e])) :: r)) : FldW K f (.ptr a) e own N :=
  ⟨a, C, ns, ds, l, r, rfl, h0, h2, h3, h5, .inl ⟨h4, p⟩⟩
theorem fsS (h0 : own = l ++ (a, Cell.ins C ns ds) :: r) (h2 : Cls K C) (h3 : NoAttr K C f) (h5 : ns.length < 1000) (h4 : fidx ns f = some i) (p : N (l ++ (a, .ins C ns (ds.set i e)) :: r)) : FldW K f (.ptr a) e own N :=
  ⟨a, C, ns, ds, l, r, rfl, h0, h2, h3, h5, .inr ⟨i, h4, p⟩⟩
theorem odO (h : d = .obj C ns ds) : ObjD own d C ns ds := .inl h
theorem odP (h : d = .ptr a) (hm : (a, Cell.ins C ns ds) ∈ own) : ObjD own d C ns ds := .inr ⟨a, h, hm⟩
end
theorem nd_inj {α β : Type} {f : α → β} : ∀ {l : List α}, (l.map f).Nodup → ∀ a ∈ l, ∀ b ∈ l, f a = f b → a = b
  | [], _, a, h, _, _, _ => (List.not_mem_nil h).elim
  | x :: l, nd, a, ha, b, hb, e => by
    rw [List.map_cons] at nd
    obtain ⟨n1, n2⟩ := List.nodup_cons.mp nd
    rcases List.mem_cons.mp ha with e1 | ha1
    · rcases List.mem_cons.mp hb with e2 | hb1
      · rw [e1, e2]
      · exact (n1 (List.mem_map.mpr ⟨b, hb1, by rw [← e, e1]⟩)).elim
    · rcases List.mem_cons.mp hb with e2 | hb1
      · exact (n1 (List.mem_map.mpr ⟨a, ha1, by rw [e, e2]⟩)).elim
      · exact nd_inj n2 a ha1 b hb1 e
section
variable {K : KX} {own : Own} {P : PD} {d e : Dat} {C : Addr} {ns : List Str} {ds : List Dat} {m : Str} {R : Prop}
theorem mtE (h1 : ObjD own d C ns ds) (h2 : fidx ns m = none) (p : R) : ∃ ns ds, ObjD own d C ns ds ∧ fidx ns m = none ∧ R := ⟨ns, ds, h1, h2, p⟩
theorem ne_same {n : Nat} (h : Sh n d) (e1 : d = e) (p : P (.bl false) own) (hn : n ≤ 64 := by decide) : R2X K (uNe K) d e own P := by
  subst e1
  refine ne_dat h h (fun b hb => ?_) hn hn
  rw [hb.mpr rfl]
  exact p
theorem eq_same {n : Nat} (h : Sh n d) (e1 : d = e) (p : P (.bl true) own) (hn : n ≤ 64 := by decide) : R2X K (uEq K) d e own P := by
  subst e1
  refine eq_dat h h (fun b hb => ?_) hn hn
  rw [hb.mpr rfl]
  exact p
end
section
variable {K : KX} {own l r : Own} {P : PD} {Q : Bool → Prop}
theorem neg_int {i : Int} (p : P (.int (-i)) own) : R1X K (rU fun i => .int (-i)) (.int i) own P := fun F V0 H x hs hx Q q => by
  cases hx
  exact ⟨_, rfl, q _ H _ own hs (Same.refl _) (.int _) p⟩
theorem tru_own {a : Addr} {ds : List Dat} (p : Q (!ds.isEmpty)) : ∃ b, TruD (l ++ (a, .lst ds) :: r) (.ptr a) b ∧ Q b := ⟨_, .inl ⟨ds, List.mem_append_right _ List.mem_cons_self, rfl⟩, p⟩
theorem tru_own0 {a : Addr} {ds : List Dat} (p : Q (!ds.isEmpty)) : ∃ b, TruD ((a, .lst ds) :: r) (.ptr a) b ∧ Q b := tru_own (l := []) p
theorem atI_last {α : Type} {xs : List α} {x : α} : atI (xs ++ [x]) (-1) = some x := by
  unfold atI
  have : ixN (xs ++ [x]).length (-1) = some xs.length := by
    unfold ixN
    simp only [List.length_append, List.length_singleton]
    split
    · omega
    · split
      · congr 1; omega
      · omega
  rw [this]
  simp
theorem ixN_last {n : Nat} : ixN (n + 1) (-1) = some n := by
  unfold ixN
  split
  · omega
  · split
    · congr 1; omega
    · omega
end
section
variable {α : Type} {a b c d e f : α} {xs : List α}
theorem atN {xs : List α} {n : Nat} {a : α} (h : xs[n]? = some a) : atI xs (n : Int) = some a := by
  have hl := (List.getElem?_eq_some_iff.mp h).1
  obtain ⟨z, h1, _, h2⟩ := atI_ok (xs := xs) (i := (n : Int)) (by omega) (by omega)
  rw [h2]
  rw [Int.toNat_natCast, h] at h1
  exact h1.symm
theorem at0 : atI (a :: xs) 0 = some a := atN (n := 0) rfl
theorem at1 : atI (a :: b :: xs) 1 = some b := atN (n := 1) rfl
theorem at2 : atI (a :: b :: c :: xs) 2 = some c := atN (n := 2) rfl
theorem at3 : atI (a :: b :: c :: d :: xs) 3 = some d := atN (n := 3) rfl
theorem at4 : atI (a :: b :: c :: d :: e :: xs) 4 = some e := atN (n := 4) rfl
theorem at5 : atI (a :: b :: c :: d :: e :: f :: xs) 5 = some f := atN (n := 5) rfl
end
theorem iteNt {A B : Prop} (b : B) : if (!true) = true then A else B := b
theorem iteNf {A B : Prop} (a : A) : if (!false) = true then A else B := a
end Sy
/-! dicts with tuple keys, enumerate, index -/
namespace Sy
open PySem L2

section
variable {K : KX} {F V0 H : Hp} {own l r : Own} {P : PD} {d e : Dat} {x : V} {sl : SL}
/-- the data of a tuple key -/
abbrev keyT (k : List Key) : Dat := .tup (k.map keyD)
theorem daL_keys {W : Hp} : ∀ {k : List Key} {vs : List V}, DaL K W vs (k.map keyD) → vs = k.map kV
  | [], _, .nil => rfl
  | k :: ks, _, .cons h t => by rw [keyD_v h, daL_keys t]; rfl
theorem keyT_v {W : Hp} {k : List Key} {v : V} (h : Da K W v (keyT k)) : ∃ b, v = .ref b ∧ W b = some (.tup (k.map kV)) := by
  cases h with
  | tup ha l => rw [daL_keys l] at ha; exact ⟨_, rfl, ha⟩
/-- an owned dict with tuple keys -/
def DicT (own : Own) (d : Dat) (ks : List (List Key)) (ds : List Dat) : Prop := ∃ a, d = .ptr a ∧ (a, Cell.dT ks ds) ∈ own
theorem DicT.rd {ks : List (List Key)} {ds : List Dat} (h : DicT own d ks ds) (hs : Hs K F V0 H own) (hd : Da K (vis F own H) x d) : ∃ a kvs, x = .ref a ∧ H a = some (.dT kvs) ∧ kvs.map (·.1) = ks ∧ DaL K (vis F own H) (kvs.map (·.2)) ds := by
  obtain ⟨a, rfl, hm⟩ := h
  cases hd
  have c := hs.cell _ hm
  cases c with
  | dT h n u l => exact ⟨_, _, rfl, h, n, l⟩
theorem ix_dcT {k : List Key} {ks : List (List Key)} {ds : List Dat} {i : Nat} (h : DicT own d ks ds) (hi : kix ks k = some i) (he : ds[i]? = some e) (p : P e own) : R2X K (uIx K) d (keyT k) own P := fun F V0 H x y hs hx hy Q q => by
  obtain ⟨a, kvs, rfl, ha, hk, l⟩ := h.rd hs hx
  obtain ⟨b, rfl, hb⟩ := keyT_v hy
  obtain ⟨v, e1, e2⟩ := l.get he
  refine .inr (.inr (.inr ⟨a, v, rfl, .inr ⟨kvs, k, b, .inl ha, rfl, vis_sub _ _ hb, ?_⟩, q _ H _ own hs (Same.refl _) e2 p⟩))
  rw [valV_kix, hk, hi]
  exact e1.symm
theorem in_dicT {neg : Bool} {k : List Key} {ks : List (List Key)} {ds : List Dat} (h : DicT own e ks ds) (p : P (.bl (if neg then !(kix ks k).isSome else (kix ks k).isSome)) own) : R2X K (uIn K neg) (keyT k) e own P := fun F V0 H x y hs hx hy Q q => by
  obtain ⟨a, kvs, rfl, ha, hk, l⟩ := h.rd hs hy
  obtain ⟨b, rfl, hb⟩ := keyT_v hx
  refine .inr (.inl ⟨a, _, rfl, .inr ⟨kvs, k, b, .inl ha, rfl, vis_sub _ _ hb, rfl⟩, ?_⟩)
  rw [valV_isSome, hk]
  exact q _ H _ own hs (Same.refl _) (.bl _) p
theorem set_dcT {a : Addr} {ks : List (List Key)} {ds : List Dat} {k : List Key} {f : Dat} {P : Own → Prop} (hz : ks.length < sizeLine) (p : P (l ++ (a, .dT (kput ks k) (dput ks k ds f)) :: r)) : PtX K uSet (.ptr a) (keyT k) f (l ++ (a, .dT ks ds) :: r) P := fun F V0 H x y z hs hx hy hzz Q q => by
  cases hx
  obtain ⟨b, rfl, hb⟩ := keyT_v hy
  have c := hs.cell _ (List.mem_append_right l List.mem_cons_self)
  cases c with
  | dT h1 n u t =>
    rename_i kws
    obtain ⟨e1, e2⟩ := putK_keys (k := k) hzz (by rw [n]; exact u) t
    rw [n] at e1 e2
    refine .inr ⟨a, _, rfl, .inr ⟨kws, k, b, h1, rfl, vis_sub _ _ hb, by rw [← n, List.length_map] at hz; exact hz, rfl⟩, ?_⟩
    refine q _ (l ++ (a, .dT (kput ks k) (dput ks k ds f)) :: r) (hs.put (.dT upd_same e1 (kput_nd u) e2)) ?_ p
    rw [vis_put (c := .dT ks ds)]; exact Same.refl _
/-! ### enumerate -/
def enumD (ds : List Dat) : List Dat := ds.zipIdx.map fun p => .tup [.int (p.2 : Nat), p.1]
theorem enumD_len (ds : List Dat) : (enumD ds).length = ds.length := by unfold enumD; rw [List.length_map, List.length_zipIdx]
theorem enumD_at {ds : List Dat} {i : Nat} (h : ds[i]? = some d) : (enumD ds)[i]? = some (.tup [.int (i : Nat), d]) := by
  unfold enumD
  rw [List.getElem?_map, List.getElem?_zipIdx, h]
  simp
theorem enum_at {ds : List Dat} {i : Nat} {z : Dat} (h : (enumD ds)[i]? = some z) : ∃ d, ds[i]? = some d ∧ z = .tup [.int (i : Nat), d] := by
  have hl := (List.getElem?_eq_some_iff.mp h).1
  rw [enumD_len] at hl
  have e : ds[i]? = some ds[i] := by simp [hl]
  rw [enumD_at e] at h
  cases h
  exact ⟨_, e, rfl⟩
theorem ix_enum {ta : TA} {R : List Dat → (Own → Prop) → Own → Prop} (h : AX K ta sl own fun zs o => ∃ ds d, zs = [d] ∧ (d = .lst ds ∨ d = .scr ds) ∧ R (enumD ds) anyO o) : IX K (iEnum K ta) sl own R := fun F V0 σ H hs hl Q q => by
  refine h F V0 σ H hs hl _ fun v H1 zs o1 hs1 e1 hd1 ⟨ds, d, ez, hz, p⟩ => ?_
  subst ez
  cases hd1 with
  | cons hd t =>
    rename_i x xs
    cases t
    have main : ∀ a xs, x = .ref a → SqL K (vis F o1 H1) a xs → DaL K (vis F o1 H1) xs ds → ∃ a xs, [x] = [V.ref a] ∧ SqL K H1 a xs ∧ Q (Ite K a) H1 := fun a xs e sq dl => by
      subst e
      refine ⟨a, xs, rfl, sq_l vis_sub sq, q _ H1 o1 (enumD ds) anyO hs1 e1 ⟨_, _, (by rw [enumD_len, ← dl.length]; exact walk_enum), fun F H own hs _ => sq_l (hs.mo.trans vis_sub) sq, fun F i H x H' own hi hs _ y => ?_⟩ p⟩
      obtain ⟨T, y1, y2, rfl, hT, rfl, h1, h2⟩ := y
      cases h1
      obtain ⟨d, e1, e2⟩ := dl.getV h2
      have g := vis_grow hs (same_new (o := HO.tup [.int (i : Nat), y2]) hT)
      exact ⟨same_new hT, _, enumD_at e1, .tup (vis_at hs hT) (.cons (.int _) (.cons ((e2.mono hs.mo).mono g) .nil))⟩
    rcases hz with rfl | rfl
    · cases hd with
      | lst ha l => exact main _ _ rfl (.inl (.inl ha)) l
    · cases hd with
      | scr ha l => exact main _ _ rfl ha l
/-! ### t.index(x) of a tuple of texts -/
def rTIdx (K : PySem.W.Frag) : V → List V → Hp → VK → Prop := fun x xs H Q => ∃ p, ∃ ys : List Str, ∃ z j, x = .ref p ∧ xs = [.str z] ∧ SqT K H p (ys.map V.str) ∧ ys[j]? = some z ∧ (∀ m, m < j → ys[m]? ≠ some z) ∧ Q (.int (j : Nat)) H
theorem k_tidx {X : Cx} {K : PySem.W.Frag} (hK : X.K = K) : MtR X "tuple.index" (rTIdx K) := hK ▸ mt_tup_index
theorem tidx {ys : List Str} {z : Str} {j : Nat} (h1 : ys[j]? = some z) (h2 : ∀ m, m < j → ys[m]? ≠ some z) (p : P (.int (j : Nat)) own) : RMX K (rTIdx K) (.tup (ys.map Dat.str)) [.str z] own P := fun F V0 H x xs hs hx hl Q q => by
  cases hx with
  | tup ha l =>
    cases hl with
    | cons hz t =>
      cases t; cases hz
      rw [l.strs] at ha
      exact ⟨_, ys, z, j, rfl, rfl, tq vis_sub ha, h1, h2, q _ H _ own hs (Same.refl _) (.int _) p⟩
end
end Sy
set_option maxHeartbeats 400000
namespace Sy
open PySem L2
/-! ### max(xs, default=d) of ints -/
section
variable {prog : Program} {w : World} {A : Around} {R : Result → Shared → Prop} {i0 : Addr} {fs ws : List Addr} {n : Nat} {P : Nat → Value → Prop} {St : Nat → Heap → Prop}
abbrev mxCell (xs : Array Value) (c : Nat) : Obj := { cls := .type "list", dict := none, data := .seq xs c, slots := #[] }
theorem mx_name : (toString "max" ++ toString ".loop" : String) = "max.loop" := by decide
theorem mx_more (wk : Walks prog w A.in1 i0 fs ws n P St) {bt : Nat → Nat → Bool} (cm : CmpOf prog w A.in1 .Gt P bt) {b : Addr} (nb : b ∉ fs) (kw : List (Str × Value)) :
    ∀ (m j : Nat) (s : Shared) (v : Value) (c : Nat), n = j + 1 + m → St (j + 1) s.heap → P (argBest bt j) v → s.heap.get? b = some (mxCell #[v, v] c) →
    (∀ u h' tk, P (argBest bt (n - 1)) u → (∀ a o, a ∉ ws → a ≠ b → s.heap.get? a = some o → h'.get? a = some o) → R (.ok (.ret u)) { s with heap := h', toks := tk }) →
    codeAny (model prog w) A (.builtin "max.loop" ⟨[.ref i0, .none, .ref b], kw⟩) R s := by
  have nw : b ∉ ws := fun z => nb (wk.sub _ z)
  intro m
  induction m with
  | zero =>
    intro j s v c e st pv hb k
    have e1 : n = j + 1 := e
    refine codeAny_builtin F.entry_max_loop (by
      rw [Around.under_plainId F.plain_max_loop _]
      show wpAny _ A.in1 (seqItems? (.ref b) >>= _) _ _ s
      refine wpAny_bind (wpAny_seqItems hb rfl (show wpAny _ A.in1 (tryCatch (pyNext (.ref i0)) _ >>= _) _ _ s from ?_))
      refine wpAny_bind (wpAny_tryCatch (wk.done s _ _ (e1 ▸ st) fun h1 tk kp => (show wpAny _ A.in1 (updateSeq b (fun _ => #[]) >>= _) _ _ _ from ?_)))
      refine wpAny_bind ?_
      have hb1 := kp b _ nw hb
      refine wpAny_updateSeq hb1 rfl (wpAny_bind (wpAny_letGo (wpAny_pure ?_)))
      exact k v _ tk (by rw [e1]; exact pv) fun a o q1 q2 q3 => (Heap.get?_update_other _ _ (Ne.symm q2)).trans (kp a o q1 q3))
  | succ m ih =>
    intro j s v c e st pv hb k
    have lt : j + 1 < n := by omega
    refine codeAny_builtin F.entry_max_loop (by
      rw [Around.under_plainId F.plain_max_loop _]
      show wpAny _ A.in1 (seqItems? (.ref b) >>= _) _ _ s
      refine wpAny_bind (wpAny_seqItems hb rfl (show wpAny _ A.in1 (tryCatch (pyNext (.ref i0)) _ >>= _) _ _ s from ?_))
      refine wpAny_bind (wpAny_tryCatch (wk.item (j + 1) s _ _ lt st fun u h1 tk pu st1 kp => ?_))
      have hb1 := kp b _ nw hb
      show wpAny _ A.in1 (tryCatch (holding [u, u] (richCompare .Gt u v >>= _)) _ >>= _) _ _ _
      refine wpAny_bind (wpAny_tryCatch (wpAny_holding (wpAny_bind (cm (j + 1) (argBest bt j) u v _ _ _ pu pv ?_))))
      refine wpAny_bind (wpAny_holding (wpAny_truthy_bool ?_))
      refine wpAny_bind (wpAny_letGo (wpAny_pure ?_))
      by_cases z : bt (j + 1) (argBest bt j) = true
      · rw [z]
        simp only [if_true]
        refine wpAny_bind ?_
        refine wpAny_updateSeq hb1 rfl (wpAny_bind (wpAny_letGo ?_))
        rw [mx_name]
        refine wpAny_pure ⟨plainId_quiet F.plain_max_loop _, ih (j + 1) _ u _ (by omega) (wk.frame _ _ _ st1 fun a q o q2 => (Heap.get?_update_other _ _ (fun y : b = a => nb (y ▸ q))).trans q2) (by rw [argBest, if_pos z]; exact pu) (Heap.get?_update_self _ hb1 rfl) fun x h2 tk2 px k2 => ?_⟩
        exact k x h2 tk2 px fun a o q1 q2 q3 => k2 a o q1 q2 ((Heap.get?_update_other _ _ (Ne.symm q2)).trans (kp a o q1 q3))
      · rw [Bool.not_eq_true] at z
        rw [z]
        simp only [Bool.false_eq_true, if_false]
        refine wpAny_bind (wpAny_letGo ?_)
        rw [mx_name]
        refine wpAny_pure ⟨plainId_quiet F.plain_max_loop _, ih (j + 1) _ v c (by omega) st1 (by rw [argBest, z]; exact pv) hb1 fun x h2 tk2 px k2 => ?_⟩
        exact k x h2 tk2 px fun a o q1 q2 q3 => k2 a o q1 q2 (kp a o q1 q3))
theorem mx_first (wk : Walks prog w A.in1 i0 fs ws n P St) {bt : Nat → Nat → Bool} (cm : CmpOf prog w A.in1 .Gt P bt) {b : Addr} (nb : b ∉ fs) (d : Value) {s : Shared} {c : Nat} (st : St 0 s.heap) (hb : s.heap.get? b = some (mxCell #[] c))
    (k0 : n = 0 → ∀ h' tk, (∀ a o, a ∉ ws → a ≠ b → s.heap.get? a = some o → h'.get? a = some o) → R (.ok (.ret d)) { s with heap := h', toks := tk })
    (k : 0 < n → ∀ u h' tk, P (argBest bt (n - 1)) u → (∀ a o, a ∉ ws → a ≠ b → s.heap.get? a = some o → h'.get? a = some o) → R (.ok (.ret u)) { s with heap := h', toks := tk }) :
    codeAny (model prog w) A (.builtin "max.loop" ⟨[.ref i0, .none, .ref b], [(Str.ofString "default", d)]⟩) R s := by
  have nw : b ∉ ws := fun z => nb (wk.sub _ z)
  refine codeAny_builtin F.entry_max_loop (by
    rw [Around.under_plainId F.plain_max_loop _]
    show wpAny _ A.in1 (seqItems? (.ref b) >>= _) _ _ s
    refine wpAny_bind (wpAny_seqItems hb rfl (show wpAny _ A.in1 (tryCatch (pyNext (.ref i0)) _ >>= _) _ _ s from ?_))
    rcases Nat.eq_zero_or_pos n with z | z
    · refine wpAny_bind (wpAny_tryCatch (wk.done s _ _ (z ▸ st) fun h1 tk kp => ?_))
      refine wpAny_bind (wpAny_rule (wpAny_pure ?_))
      exact k0 z h1 tk fun a o q1 _ q3 => kp a o q1 q3
    · refine wpAny_bind (wpAny_tryCatch (wk.item 0 s _ _ z st fun u h1 tk pu st1 kp => ?_))
      have hb1 := kp b _ nw hb
      show wpAny _ A.in1 (updateSeq b (fun _ => #[u, u]) >>= _) _ _ _
      refine wpAny_bind ?_
      refine wpAny_updateSeq hb1 rfl ?_
      rw [mx_name]
      refine wpAny_pure ⟨plainId_quiet F.plain_max_loop _, mx_more wk cm nb _ (n - 1) 0 _ u _ (by omega) (wk.frame _ _ _ st1 fun a q o q2 => (Heap.get?_update_other _ _ (fun y : b = a => nb (y ▸ q))).trans q2) pu (Heap.get?_update_self _ hb1 rfl) fun x h2 tk2 px k2 => ?_⟩
      exact k z x h2 tk2 px fun a o q1 q2 q3 => k2 a o q1 q2 ((Heap.get?_update_other _ _ (Ne.symm q2)).trans (kp a o q1 q3)))
theorem args_mxd (a d : Value) : argsOk "max" ⟨[a], [(Str.ofString "default", d)]⟩ := by unfold argsOk; kernel_rfl
end
section
variable {prog : Program} {w : World} {A : Around} {E : Value → Shared → Prop} {s : Shared}
theorem call_tree_kw {id : String} {f : Builtin} {xs : List Value} {kw : List (Str × Value)} {Q : Value → Shared → Prop} (k1 : builtinKind id = none) (k2 : plainId id = true) (k3 : entryFor table id = some f) (k4 : argsOk id ⟨xs, kw⟩)
    (h : wpAny (model prog w) A.in1 (f ⟨xs, kw⟩) (fun fin s' => match fin with
      | .done f => (match (Except.ok f : Result) with | .ok (.ret v) => Q v s' | .ok _ => False | .error e => E e s')
      | .again c => c.quiet = true ∧ codeAny (model prog w) A c (fun r s' => match r with | .ok (.ret v) => Q v s' | .ok _ => False | .error e => E e s') s') E s) : wpAny (model prog w) A (call (.builtin id) xs kw) Q E s := by
  refine wpAny_call (codeAny_call_builtin k2 k3 (by
    simp only [checkBuiltinCall, k1]
    cases e : Manifest.signature? id with
    | none => exact wpAny_pure h
    | some sg =>
      have k5 : Bind.checkArgs id sg ⟨xs, kw⟩ = pure () := by simpa only [argsOk, e] using k4
      show wpAny _ A.in1 (Bind.checkArgs id sg ⟨xs, kw⟩) _ _ s
      rw [k5]; exact wpAny_pure h))
theorem call_mxd {x d : Value} {Q : Value → Shared → Prop}
    (h : wpAny (model prog w) A.in1 (pyIter x) (fun it s2 => ∃ i0 fs ws n P St bt, it = .ref i0 ∧ Walks prog w A.in1 i0 fs ws n P St ∧ St 0 s2.heap ∧ (∀ b ∈ fs, b < s2.heap.objs.size) ∧ CmpOf prog w A.in1 .Gt P bt ∧
      (n = 0 → ∀ h' tk, (∀ b o, b ∉ ws → s2.heap.get? b = some o → h'.get? b = some o) → Q d { s2 with heap := h', toks := tk }) ∧
      (0 < n → ∀ v h' tk, P (argBest bt (n - 1)) v → (∀ b o, b ∉ ws → s2.heap.get? b = some o → h'.get? b = some o) → Q v { s2 with heap := h', toks := tk })) E s) :
    wpAny (model prog w) A (call (.builtin "max") [x] [(Str.ofString "default", d)]) Q E s := by
  refine call_tree_kw F.kind_max F.plain_max F.entry_max (args_mxd _ _) (by
    show wpAny _ A.in1 (Builtin.Builtins.bindParams "max" ["key", "default"] 0 ⟨[], [(Str.ofString "default", d)]⟩ >>= _) _ _ s
    refine wpAny_bind (wpAny_of_eq (show Builtin.Builtins.bindParams "max" ["key", "default"] 0 ⟨[], [(Str.ofString "default", d)]⟩ = pure [none, some d] from rfl) (wpAny_bind (wpAny_pure ?_)))
    refine wpAny_bind (wpAny_mono h (fun it s2 h2 => ?_) fun _ _ e => e)
    obtain ⟨i0, fs, ws, n, P, St, bt, rfl, wk, st, lt, cm, q0, q1⟩ := h2
    refine wpAny_bind (wpAny_newObj_type ?_)
    have nb : s2.heap.objs.size ∉ fs := fun z => Nat.lt_irrefl _ (lt _ z)
    rw [mx_name]
    refine wpAny_pure ⟨plainId_quiet F.plain_max_loop _, mx_first wk cm nb d (wk.frame _ _ _ st fun b _ o e => Heap.get?_push_of_some _ e) (Heap.get?_push_size _ rfl) (fun z h' tk kp => ?_) fun z v h' tk pv kp => ?_⟩
    · exact q0 z h' tk fun b o nw e => kp b o nw (Nat.ne_of_lt (Heap.lt_size e)) (Heap.get?_push_of_some _ e)
    · exact q1 z v h' tk pv fun b o nw e => kp b o nw (Nat.ne_of_lt (Heap.lt_size e)) (Heap.get?_push_of_some _ e))
end
section
variable {prog : Program} {w : World} {A : Around} {E : Value → Shared → Prop} {s : Shared} {its : List Value} {ns : List Int}
theorem mxd_ints {a : Addr} {d : Value} {Q : Value → Shared → Prop} (hh : A.handled = none) (hl : s.heap.IsList a its.toArray) (hi : PyProof.Rows.IntsAre its ns)
    (q0 : ns = [] → ∀ h' tk, (∀ b o, s.heap.get? b = some o → h'.get? b = some o) → Q d { s with heap := h', toks := tk })
    (q1 : ∀ h' tk m t', (∀ b o, s.heap.get? b = some o → h'.get? b = some o) → m ∈ ns → (∀ y, y ∈ ns → y ≤ m) → Q (.int m t') { s with heap := h', toks := tk }) :
    wpAny (model prog w) A (call (.builtin "max") [.ref a] [(Str.ofString "default", d)]) Q E s := by
  obtain ⟨xs, e⟩ := hi.allInts.items
  have hn : numsOf (intItems xs).toList = ns := by rw [← e]; exact hi.numsOf
  rw [nums_intItems] at hn
  subst hn
  rw [e] at hl
  refine call_mxd (iter_intList hl fun s2 e2 st lt l2 => ?_)
  subst e2
  refine ⟨_, _, _, _, _, _, _, rfl, Walks.list (A := A.in1) hh _ a l2 (intItems xs), st, lt, CmpOf.ints_gt (numAt xs) (fun _ _ => intItems_at), fun z h' tk kp => ?_, fun z v h' tk pv kp => ?_⟩
  · have hz : xs.size = 0 := by simpa [intItems] using z
    exact q0 (by have : xs.toList = [] := List.eq_nil_of_length_eq_zero (by simpa using hz); rw [this]; rfl) h' tk (old_kept kp)
  · have hz : 0 < xs.size := by simpa [intItems] using z
    have hv : (intItems xs)[argBest (fun i j => decide (numAt xs i > numAt xs j)) (xs.size - 1)]? = some v := by simpa [intItems] using pv
    obtain ⟨t, rfl⟩ := intItems_at hv
    obtain ⟨g1, g2⟩ := argBest_gt (numAt xs) (xs.size - 1)
    refine q1 h' tk _ t (old_kept kp) ?_ fun y hy => ?_
    · rw [numAt_eq]; exact PySem.getD_mem (by rw [List.length_map, Array.length_toList]; omega)
    · obtain ⟨j, hj, rfl⟩ := mem_getD hy
      rw [List.length_map, Array.length_toList] at hj
      rw [← numAt_eq]; exact g2 j (by omega)
end
section
variable {X : Cx} {K : PySem.W.Frag}
def rMaxD (K : PySem.W.Frag) : List V → List V → Hp → VK → Prop := fun vs zs H Q => ∃ (a : Addr) (ns : List Int) (d : Int), vs = [V.ref a] ∧ zs = [.int d] ∧ SqL K H a (ns.map V.int) ∧ (ns = [] → Q (.int d) H) ∧ ∀ m, m ∈ ns → (∀ y, y ∈ ns → y ≤ m) → Q (.int m) H
theorem cr_maxd (hc : X.calm = true) : CallRK X (.builtin "max") [Str.ofString "default"] (rMaxD X.K) := by
  intro pins s σ H vs zs us ws Q I r rz h
  obtain ⟨a, ns, d, rfl, rfl, hs, q0, q1⟩ := h
  obtain ⟨its, rv, hl, _⟩ := I.list hs
  rw [Vals.ref1 r]
  obtain ⟨w1, rfl, e1⟩ := vals1 rz
  obtain ⟨t, rfl⟩ := e1
  exact mxd_ints (I.ok.hd hc) hl.isList rv.ints (fun e h' tk kp => ⟨.int d, H, I.kept kp, ⟨_, rfl⟩, q0 e⟩) fun h' tk m t' kp h1 h2 => ⟨.int _, H, I.kept kp, ⟨_, rfl⟩, q1 m h1 h2⟩
theorem k_maxd (hK : X.K = K) (hc : X.calm = true) : CallRK X (.builtin "max") [Str.ofString "default"] (rMaxD K) := hK ▸ cr_maxd hc
end
section
variable {K : KX} {own : Own} {P : PD} {d : Dat} {sl : SL}
/-- a call with keywords, by data -/
def RKX (K : KX) (r : List V → List V → Hp → VK → Prop) (ds es : List Dat) (own : Own) (P : PD) : Prop := ∀ (F V0 H : Hp) (xs zs : List V), Hs K F V0 H own → DaL K (vis F own H) xs ds → DaL K (vis F own H) zs es →
  ∀ Q : VK, (∀ v H' e o2, Hs K F V0 H' o2 → Same (vis F own H) (vis F o2 H') → Da K (vis F o2 H') v e → P e o2 → Q v H') → r xs zs H Q
theorem ex_ckw {r : List V → List V → Hp → VK → Prop} {t tk : TA} (h : AX K t sl own fun ds o => AX K tk sl o fun es o2 => RKX K r ds es o2 P) : EX K (tCKw r t tk) sl own P := fun F V0 σ H hs hl Q q => by
  refine h F V0 σ H hs hl _ fun xs H1 ds o1 hs1 e1 hd1 h1 => ?_
  refine h1 F V0 σ H1 hs1 (hl.mono e1) _ fun zs H2 es o2 hs2 e2 hd2 h2 => ?_
  exact h2 F V0 H2 xs zs hs2 (hd1.mono e2) hd2 Q fun v H3 e o3 hs3 e3 hd3 p => q v H3 e o3 hs3 ((e1.trans e2).trans e3) hd3 p
theorem max_def {ns : List Int} {z : Int} (h : LstD own d (ns.map Dat.int)) (p0 : ns = [] → P (.int z) own) (p1 : ∀ m, m ∈ ns → (∀ y, y ∈ ns → y ≤ m) → P (.int m) own) : RKX K (rMaxD K) [d] [.int z] own P := fun F V0 H xs zs hs hx hz Q q => by
  cases hx with
  | cons hd t =>
    cases t
    cases hz with
    | cons hz t =>
      cases t; cases hz
      obtain ⟨a, vs, rfl, ha, l⟩ := h.sq hs hd
      rw [l.ints] at ha
      exact ⟨a, ns, z, rfl, rfl, ha, fun e => q _ H _ own hs (Same.refl _) (.int _) (p0 e), fun m h1 h2 => q _ H _ own hs (Same.refl _) (.int _) (p1 m h1 h2)⟩
end
/-! ### a method of a tuple that is written out: (a, b, ..).name(e) -/
section
variable {X : Cx} {e : Expr} {es0 es : List Expr} {t0 t : TA} {name : Str} {id : String} {r : V → List V → Hp → VK → Prop} {p0 apos cpos : Pos}
def tTM (r : V → List V → Hp → VK → Prop) (t0 t : TA) : TE := fun σ H Q => t0 σ H fun xs H1 => xs.length ≤ sizeLine ∧ ∀ p, H1 p = none → t σ (upd H1 p (.tup xs)) fun vs H2 => r (.ref p) vs H2 Q
theorem pe_tm {x1} (pa : PlainAttrs "tuple") (slot : Slot "tuple" name id) (hty : typeOf (.builtin id) = pure (.type "method_descriptor")) (hm : MtR X id r) (h0 : PA X es0 t0) (ha : PA X (e :: es) t)
    (hb : attributeBase (.Tuple es0 x1 p0) name X.env (eval (.Tuple es0 x1 p0) X.env) = eval (.Tuple es0 x1 p0) X.env := by rfl)
    (hf : ((backTo cpos (starEach (e :: es) X.env)).all (fun x => !x.1) && (backToKw cpos (keywordEach [] X.env)).all (fun x => x.1.isSome) && decide ((e :: es).length + ([] : List Keyword).length + (if ([] : List Keyword).isEmpty then 0 else 1) < 30)) = true := by rfl)
    (hl : (apos.endLine == cpos.line) = true := by rfl) (hs : starEach (e :: es) X.env = (false, eval e X.env) :: starEach es X.env := by rfl) (hp : (backTo cpos (starEach es X.env)).any (·.1) = false := by rfl) :
    PE X (.Call (.Attribute (.Tuple es0 x1 p0) name apos) (e :: es) [] cpos) (tTM r t0 t) := by
  refine ⟨fun pins s σ H Q I h => wpAny_Call_method_late hb hf hl rfl (wpAny_Tuple_spliced (thn (h0.run p0 pins s σ H _ I h) fun us s1 ⟨xs, H1, I1, r1, z, q⟩ => ⟨by rw [← r1.length]; exact z, ?_⟩))⟩
  have fr : H1 s1.heap.objs.size = none := I1.hok.fresh (Nat.le_refl _)
  have gp : (s1.heap.push ({ cls := .type "tuple", data := .seq us.toArray } : Obj)).get? s1.heap.objs.size = some { cls := .type "tuple", data := .seq us.toArray } := Heap.get?_push_size _ rfl
  have I2 : Inv X pins σ (upd H1 s1.heap.objs.size (.tup xs)) { s1 with heap := s1.heap.push ({ cls := .type "tuple", data := .seq us.toArray } : Obj) } := I1.laid (t' := s1.toks) (fun b u k => Heap.get?_push_of_some _ k) (Nat.le_refl _) ⟨z, us, r1, ⟨_, gp, rfl, _, rfl⟩⟩
  refine ⟨"tuple", id, pa, slot, hty, ?_, fun a k => ?_, ?_⟩
  · exact ⟨_, gp, rfl⟩
  · cases k
    exact ⟨_, gp, rfl⟩
  · have hA := ha.run cpos pins _ σ _ _ I2 (q _ fr)
    rw [hs] at hA ⊢
    refine Calls.callWith_builtin (by show (false || (backTo cpos (starEach es X.env)).any (·.1)) = false; rw [hp] <;> rfl) (Calls.evalArgs_plain ?_)
    exact thn hA fun us2 s2 ⟨vs, H2, I3, r2, q2⟩ => hm pins s2 σ H2 (.ref s1.heap.objs.size) vs _ us2 Q I3 rfl r2 q2
end
section
variable {K : KX} {own : Own} {P : PD} {sl : SL}
theorem ex_tm {r : V → List V → Hp → VK → Prop} {t0 t : TA} (h : AX K t0 sl own fun ds o => ds.length ≤ sizeLine ∧ AX K t sl o fun es o2 => RMX K r (.tup ds) es o2 P) : EX K (tTM r t0 t) sl own P := fun F V0 σ H hs hl Q q => by
  refine h F V0 σ H hs hl _ fun xs H1 ds o1 hs1 e1 hd1 ⟨hz, h1⟩ => ⟨by rw [hd1.length]; exact hz, fun p hp => ?_⟩
  have g := same_new (o := HO.tup xs) hp
  have g2 := vis_grow hs1 g
  have e2 := e1.trans g2
  refine h1 F V0 σ _ (hs1.grow g) (hl.mono e2) _ fun vs H2 es o2 hs2 e3 hd2 h2 => ?_
  exact h2 F V0 H2 _ vs hs2 ((Da.tup (vis_at hs1 hp) (hd1.mono g2)).mono e3) hd2 Q fun v H3 e o3 hs3 e4 hd3 p => q v H3 e o3 hs3 ((e2.trans e3).trans e4) hd3 p
theorem k_enum {X : Cx} {K : PySem.W.Frag} {e : Expr} {ta : TA} {p pos tpos : Pos} {elts : List Expr} {kk : Nat} (hK : X.K = K) (hg : Gl X "enumerate") (hm : X.mg "enumerate" = none) (ha : PA X [e] ta) (hs : starEach [e] X.env = [(false, eval e X.env)] := by rfl) :
    PI X (.Tuple elts kk tpos) (.Call (.Name "enumerate" p) [e] [] pos) (iEnum K ta) := hK ▸ pi_enum hg hm ha hs
end
/-! ### objects behind pointers -/
/-- cells of objects, the newest ahead -/
def cellsG {β : Type} (c : β → Cell) : List Addr → List β → Own
  | a :: as, r :: rs => cellsG c as rs ++ [(a, c r)]
  | _, _ => []
theorem cellsG_snoc {β : Type} (c : β → Cell) : ∀ {as : List Addr} {rs : List β} {a : Addr} {r : β}, as.length = rs.length → cellsG c (as ++ [a]) (rs ++ [r]) = (a, c r) :: cellsG c as rs
  | [], [], a, r, _ => rfl
  | b :: as, s :: rs, a, r, h => by
    show cellsG c (as ++ [a]) (rs ++ [r]) ++ _ = _
    rw [cellsG_snoc c (by simpa using h)]
    rfl
theorem cellsG_at {β : Type} (c : β → Cell) : ∀ {as : List Addr} {rs : List β} {i : Nat} {a : Addr} {r : β}, as.length = rs.length → as[i]? = some a → rs[i]? = some r → ∃ l o, cellsG c as rs = l ++ (a, c r) :: o ∧ ∀ r2, cellsG c as (rs.set i r2) = l ++ (a, c r2) :: o
  | [], _, _, _, _, _, h, _ => by simp at h
  | b :: as, [], _, _, _, h, _, _ => by simp at h
  | b :: as, s :: rs, 0, a, r, _, h1, h2 => by
    simp only [List.getElem?_cons_zero, Option.some.injEq] at h1 h2
    subst h1 h2
    exact ⟨cellsG c as rs, [], rfl, fun r2 => rfl⟩
  | b :: as, s :: rs, i + 1, a, r, h, h1, h2 => by
    obtain ⟨l, o, e1, e2⟩ := cellsG_at c (i := i) (by simpa using h) (by simpa using h1) (by simpa using h2)
    refine ⟨l, o ++ [(b, c s)], ?_, fun r2 => ?_⟩
    · show cellsG c as rs ++ _ = _
      rw [e1]; simp
    · show cellsG c as (rs.set i r2) ++ _ = _
      rw [e2]; simp
theorem cl_app : ∀ {l r : Own}, Cl (l ++ r) r
  | [], r => Cl.refl r
  | p :: l, r => Cl.trans (o1 := l ++ r) (cl_drop (l := []) (p := p) (r := l ++ r)) (cl_app (l := l) (r := r))
theorem iteDt {c A B : Prop} [Decidable c] (h : c) (a : A) : if decide c = true then A else B := by rw [decide_eq_true h]; exact a
theorem iteDf {c A B : Prop} [Decidable c] (h : ¬ c) (b : B) : if decide c = true then A else B := by rw [decide_eq_false h]; exact b
end Sy
namespace Sy
open PySem L2
/-! ### loops and comprehensions by what is left -/
theorem zl {n : Nat} (h : n < 1000000) : n < sizeLine := Nat.lt_of_lt_of_le h ble
theorem zle {n : Nat} (h : n ≤ 1000000) : n ≤ sizeLine := Nat.le_trans h ble
theorem drop_at {α : Type} {ys : List α} {i : Nat} {y : α} (h : ys[i]? = some y) : ys.drop i = y :: ys.drop (i + 1) := by
  obtain ⟨hi, rfl⟩ := List.getElem?_eq_some_iff.mp h
  rw [List.getElem_cons_drop]
theorem split_at {α : Type} {ys : List α} {i : Nat} {y : α} (h : ys[i]? = some y) : ys = ys.take i ++ y :: ys.drop (i + 1) := by
  rw [← drop_at h, List.take_append_drop]
section
variable {K : KX} {own : Own} {sl : SL} {nx bk ct : SL → Own → Prop} {rt : Dat → Own → Prop} {P : PD} {ta tv te : TE} {t u : TS} {d : Dat}
theorem ss_forR {α : Type} {wi : TI} {g : TG} (e : α → Dat) (J : List α → SL → Own → Prop) (h : IX K wi sl own fun xs Keep o => ∃ ys : List α, xs = ys.map e ∧ J ys sl o ∧ (∀ r s o, J r s o → Keep o) ∧
    (∀ pre y r sl2 o2, ys = pre ++ y :: r → J (y :: r) sl2 o2 → GX K g anyJ (e y) sl2 o2 fun sl3 o3 => SS K t sl3 o3 ⟨J r, rt, nx, J r⟩) ∧ ∀ sl2 o2, J [] sl2 o2 → nx sl2 o2) : SS K (tFor wi g t) sl own ⟨nx, rt, bk, ct⟩ := by
  refine ss_for ?_
  intro F V0 σ H hs hl Q q
  refine h F V0 σ H hs hl Q fun Jt H' o xs Keep a b c ⟨ys, e1, j0, jk, jb, je⟩ => q Jt H' o xs Keep a b c ?_
  subst e1
  refine ⟨fun i sl o => J (ys.drop i) sl o, j0, fun i sl o h => jk _ _ _ h, fun i x sl2 o2 hx hj => ?_, fun sl2 o2 hj => je sl2 o2 ?_⟩
  · obtain ⟨y, hy, rfl⟩ := map_at hx
    have hj2 : J (ys.drop i) sl2 o2 := hj
    rw [drop_at hy] at hj2
    exact jb (ys.take i) y (ys.drop (i + 1)) sl2 o2 (split_at hy) hj2
  · have hj2 : J (ys.drop (ys.map e).length) sl2 o2 := hj
    rwa [List.length_map, List.drop_length] at hj2
theorem ex_lcR {α : Type} {wi : TI} {g : TG} {tt : TT} {vs : List Nat} (e : α → Dat) (J : List α → List Dat → Own → Prop) (h : IX K wi sl own fun xs Keep o => ∃ ys : List α, xs = ys.map e ∧ ys.length < 1000000 ∧ J ys [] o ∧ (∀ r s o, J r s o → Keep o) ∧
    (∀ pre y r acc o2, ys = pre ++ y :: r → J (y :: r) acc o2 → GX K g (· ∈ vs) (e y) (wipeS sl vs) o2 fun sl3 o3 => TX K tt sl3 o3 fun b o4 => if b = true then EX K te sl3 o4 fun z o5 => J r (acc ++ [z]) o5 else J r acc o4) ∧ ∀ acc o2, J [] acc o2 → P (.lst acc) o2) : EX K (tLc wi g tt te vs) sl own P := by
  refine ex_lc ?_
  intro F V0 σ H hs hl Q q
  refine h F V0 σ H hs hl Q fun Jt H' o xs Keep a b c ⟨ys, e1, hz, j0, jk, jb, je⟩ => q Jt H' o xs Keep a b c ?_
  subst e1
  refine ⟨fun i acc o => acc.length ≤ i ∧ J (ys.drop i) acc o, ⟨Nat.le_refl _, j0⟩, fun i sl o h => jk _ _ _ h.2, fun i x acc o2 hx hj => ?_, fun sl2 o2 hj => je sl2 o2 ?_⟩
  · obtain ⟨y, hy, rfl⟩ := map_at hx
    obtain ⟨hj1, hj2⟩ := hj
    have hi := (List.getElem?_eq_some_iff.mp hy).1
    rw [drop_at hy] at hj2
    have k := jb (ys.take i) y (ys.drop (i + 1)) acc o2 (split_at hy) hj2
    intro F2 V2 σ2 H2 x2 hs2 hl2 hd2 Q2 q2
    refine k F2 V2 σ2 H2 x2 hs2 hl2 hd2 Q2 fun σ' H' sl' own' z1 z2 z3 z4 z5 => q2 σ' H' sl' own' z1 z2 z3 z4 ?_
    refine tx_mono z5 fun b o4 p => ?_
    cases b with
    | true => exact iteT (ex_mono (show EX K te sl' o4 _ from p) fun z o5 p => ⟨zl (by omega), by rw [List.length_append]; exact Nat.add_le_add hj1 (Nat.le_refl _), p⟩)
    | false => exact iteF ⟨Nat.le_trans hj1 (Nat.le_succ _), p⟩
  · have hj2 : J (ys.drop (ys.map e).length) sl2 o2 := hj.2
    rwa [List.length_map, List.drop_length] at hj2
/-- [f y for y in ys if c y], nothing changed -/
theorem ex_lcP {α : Type} {wi : TI} {g : TG} {tt : TT} {vs : List Nat} (e f : α → Dat) (c : α → Bool) (h : IX K wi sl own fun xs Keep o => ∃ ys : List α, xs = ys.map e ∧ ys.length < 1000000 ∧ Keep o ∧
    (∀ y ∈ ys, GX K g (· ∈ vs) (e y) (wipeS sl vs) o fun sl3 o3 => TX K tt sl3 o3 fun b o4 => if b = true then EX K te sl3 o4 fun z o5 => c y = true ∧ z = f y ∧ o5 = o else c y = false ∧ o4 = o) ∧ P (.lst ((ys.filter c).map f)) o) : EX K (tLc wi g tt te vs) sl own P := by
  intro F V0 σ H hs hl Q q
  have key : ∀ o1 : Own, IX K wi sl own fun xs Keep o => (∃ ys : List α, xs = ys.map e ∧ ys.length < 1000000 ∧ ∃ J : List α → List Dat → Own → Prop, J ys [] o ∧ (∀ r s o, J r s o → Keep o) ∧
    (∀ pre y r acc o2, ys = pre ++ y :: r → J (y :: r) acc o2 → GX K g (· ∈ vs) (e y) (wipeS sl vs) o2 fun sl3 o3 => TX K tt sl3 o3 fun b o4 => if b = true then EX K te sl3 o4 fun z o5 => J r (acc ++ [z]) o5 else J r acc o4) ∧ ∀ acc o2, J [] acc o2 → P (.lst acc) o2) := by
    intro o1 F V0 σ H hs hl Q q
    refine h F V0 σ H hs hl Q fun Jt H' o xs Keep a b c2 ⟨ys, e1, hz, hk, hb, hp⟩ => q Jt H' o xs Keep a b c2 ?_
    refine ⟨ys, e1, hz, fun r acc o2 => o2 = o ∧ acc ++ (r.filter c).map f = (ys.filter c).map f, ⟨rfl, rfl⟩, fun r s o2 h => h.1 ▸ hk, ?_, ?_⟩
    · rintro pre y r acc o2 hy ⟨rfl, ha⟩
      have k := hb y (by rw [hy]; simp)
      intro F2 V2 σ2 H2 x2 hs2 hl2 hd2 Q2 q2
      refine k F2 V2 σ2 H2 x2 hs2 hl2 hd2 Q2 fun σ' H' sl' own' z1 z2 z3 z4 z5 => q2 σ' H' sl' own' z1 z2 z3 z4 ?_
      refine tx_mono z5 fun b o4 p => ?_
      cases b with
      | true => exact iteT (ex_mono (show EX K te sl' o4 _ from p) fun z o5 ⟨p1, p2, p3⟩ => ⟨p3, by rw [List.filter_cons, if_pos p1, List.map_cons] at ha; rw [p2, List.append_assoc]; exact ha⟩)
      | false =>
        obtain ⟨p1, p2⟩ : c y = false ∧ o4 = o2 := p
        exact iteF ⟨p2, by rw [List.filter_cons, if_neg (by rw [p1]; decide)] at ha; exact ha⟩
    · rintro acc o2 ⟨rfl, ha⟩
      rw [List.filter_nil, List.map_nil, List.append_nil] at ha
      rw [ha]; exact hp
  refine ex_lc (P := P) ?_ F V0 σ H hs hl Q q
  intro F V0 σ H hs hl Q q
  refine key own F V0 σ H hs hl Q fun Jt H' o xs Keep a b c ⟨ys, e1, hz, J, j0, jk, jb, je⟩ => q Jt H' o xs Keep a b c ?_
  subst e1
  refine ⟨fun i acc o => acc.length ≤ i ∧ J (ys.drop i) acc o, ⟨Nat.le_refl _, j0⟩, fun i sl o h => jk _ _ _ h.2, fun i x acc o2 hx hj => ?_, fun sl2 o2 hj => je sl2 o2 ?_⟩
  · obtain ⟨y, hy, rfl⟩ := map_at hx
    obtain ⟨hj1, hj2⟩ := hj
    have hi := (List.getElem?_eq_some_iff.mp hy).1
    rw [drop_at hy] at hj2
    have k := jb (ys.take i) y (ys.drop (i + 1)) acc o2 (split_at hy) hj2
    intro F2 V2 σ2 H2 x2 hs2 hl2 hd2 Q2 q2
    refine k F2 V2 σ2 H2 x2 hs2 hl2 hd2 Q2 fun σ' H' sl' own' z1 z2 z3 z4 z5 => q2 σ' H' sl' own' z1 z2 z3 z4 ?_
    refine tx_mono z5 fun b o4 p => ?_
    cases b with
    | true => exact iteT (ex_mono (show EX K te sl' o4 _ from p) fun z o5 p => ⟨zl (by omega), by rw [List.length_append]; exact Nat.add_le_add hj1 (Nat.le_refl _), p⟩)
    | false => exact iteF ⟨Nat.le_trans hj1 (Nat.le_succ _), p⟩
  · have hj2 : J (ys.drop (ys.map e).length) sl2 o2 := hj.2
    rwa [List.length_map, List.drop_length] at hj2
/-- [f y for y in ys], nothing changed -/
theorem ex_lcM {α : Type} {wi : TI} {g : TG} {vs : List Nat} (e f : α → Dat) (h : IX K wi sl own fun xs Keep o => ∃ ys : List α, xs = ys.map e ∧ ys.length < 1000000 ∧ Keep o ∧
    (∀ y ∈ ys, GX K g (· ∈ vs) (e y) (wipeS sl vs) o fun sl3 o3 => EX K te sl3 o3 fun z o5 => z = f y ∧ o5 = o) ∧ P (.lst (ys.map f)) o) : EX K (tLc wi g tYes te vs) sl own P := by
  refine ex_lcP e f (fun _ => true) ?_
  intro F V0 σ H hs hl Q q
  refine h F V0 σ H hs hl Q fun Jt H' o xs Keep a b c2 ⟨ys, e1, hz, hk, hb, hp⟩ => q Jt H' o xs Keep a b c2 ⟨ys, e1, hz, hk, fun y hy => ?_, by rw [List.filter_eq_self.mpr fun _ _ => rfl]; exact hp⟩
  have k := hb y hy
  intro F2 V2 σ2 H2 x2 hs2 hl2 hd2 Q2 q2
  exact k F2 V2 σ2 H2 x2 hs2 hl2 hd2 Q2 fun σ' H' sl' own' z1 z2 z3 z4 z5 => q2 σ' H' sl' own' z1 z2 z3 z4 (tx_yes (iteT (ex_mono z5 fun z o5 p => ⟨rfl, p⟩)))
end
section
variable {K : KX} {own : Own} {sl : SL} {P : PD} {te : TE}
/-- [e for .. if ..]: a new list of one's own -/
theorem ex_lcO {wi : TI} {g : TG} {tt : TT} {vs : List Nat} (h : IX K wi sl own fun xs Keep o => ∃ I : Nat → List Dat → Own → Prop, I 0 [] o ∧ (∀ i acc o, I i acc o → Keep o) ∧
    (∀ i x acc o2, xs[i]? = some x → I i acc o2 → GX K g (· ∈ vs) x (wipeS sl vs) o2 fun sl3 o3 => TX K tt sl3 o3 fun b o4 => if b = true then EX K te sl3 o4 fun y o5 => acc.length < sizeLine ∧ I (i + 1) (acc ++ [y]) o5 else I (i + 1) acc o4) ∧
    ∀ acc o2, I xs.length acc o2 → ∀ a, a ∉ o2.map (·.1) → P (.ptr a) ((a, .lst acc) :: o2)) : EX K (tLc wi g tt te vs) sl own P := fun F V0 σ H hs hl Q q => by
  refine h F V0 σ H hs hl _ fun J H1 o1 xs Keep hs1 e1 its ⟨I, i0, ik, ib, ie⟩ => ?_
  obtain ⟨G, Y, w, hG, hY⟩ := its
  intro D hD
  have hf : F D = none := fresh_fr hs1 hD
  have hl1 := hl.mono e1
  have hs2 : Hs K (upd F D (.lst [])) (vis F o1 H1) (upd H1 D (.lst [])) o1 := by
    have a := (hs1.now).new (o := .lst []) hD (c := .lst []) (.lst upd_same .nil)
    exact a.hide upd_same
  refine lc_it w (fun i H => ∃ acc avs own, Hs K (upd F D (.lst avs)) (vis F o1 H1) H own ∧ DaL K (vis (upd F D (.lst avs)) own H) avs acc ∧ I i acc own) ⟨[], [], o1, hs2, .nil, i0⟩ (fun i H _ ⟨acc, avs, o2, a, b, c⟩ => hG _ H o2 a (ik i acc o2 c)) (fun i x H H' hi ⟨acc, avs, o2, a, b, c⟩ y => ?_) (fun H2 ⟨acc, avs, o2, a, b, c⟩ => ?_)
  · obtain ⟨s1, d, hd, hx⟩ := hY _ i H x H' o2 hi a (ik i acc o2 c) y
    have g1 := vis_grow a s1
    refine ib i d acc o2 hd c _ (vis F o1 H1) (wipe σ vs) H' x (a.grow s1) ((hl1.wipe vs).mono (a.mo.trans g1)) hx _ fun σ3 H3 sl3 o3 hs3 e3 hl3 j3 p3 => ?_
    have hb3 := (b.mono g1).mono e3
    refine ⟨?_, ?_⟩
    · have e := wipe_same (σ := σ) (σ' := σ3) (vs := vs) j3.2 (j3.1.trans (wipe_length σ vs))
      rw [e]
    · refine p3 _ (vis F o1 H1) σ3 H3 hs3 hl3 _ fun k H4 o4 hs4 e4 p4 => ?_
      have hb4 := hb3.mono e4
      cases k with
      | true =>
        refine iteT ((show EX K te sl3 o4 _ from p4) _ (vis F o1 H1) σ3 H4 hs4 (hl3.mono e4) _ fun z H5 d5 o5 hs5 e5 hd5 ⟨zl, p5⟩ => ?_)
        obtain ⟨r1, r2⟩ := reframe (o' := .lst (avs ++ [z])) hs5 hs1.now.x hf
        refine ⟨avs, hs5.fr D _ upd_same, by rw [b.length]; exact zl, acc ++ [d5], avs ++ [z], o5, r1, ?_, p5⟩
        rw [r2]
        exact (hb4.mono e5).append (.cons hd5 .nil)
      | false => exact iteF ⟨acc, avs, o4, hs4, hb4, p4⟩
  · have hHD : H2 D = some (.lst avs) := a.fr D _ upd_same
    have bk : Hs K F (vis F o1 H1) H2 ((D, .lst acc) :: o2) := a.back hs1.now.x hf (.lst hHD b)
    have na : D ∉ o2.map (·.1) := (List.nodup_cons.mp bk.nd).1
    exact q _ H2 (.ptr D) _ (bk.from hs1 hs1.mo) (e1.trans bk.mo) (.ptr D) (ie acc o2 c D na)
theorem ex_lcOR {α : Type} {wi : TI} {g : TG} {tt : TT} {vs : List Nat} (e : α → Dat) (J : List α → List Dat → Own → Prop) (h : IX K wi sl own fun xs Keep o => ∃ ys : List α, xs = ys.map e ∧ ys.length < 1000000 ∧ J ys [] o ∧ (∀ r s o, J r s o → Keep o) ∧
    (∀ pre y r acc o2, ys = pre ++ y :: r → J (y :: r) acc o2 → GX K g (· ∈ vs) (e y) (wipeS sl vs) o2 fun sl3 o3 => TX K tt sl3 o3 fun b o4 => if b = true then EX K te sl3 o4 fun z o5 => J r (acc ++ [z]) o5 else J r acc o4) ∧ ∀ acc o2, J [] acc o2 → ∀ a, a ∉ o2.map (·.1) → P (.ptr a) ((a, .lst acc) :: o2)) : EX K (tLc wi g tt te vs) sl own P := by
  refine ex_lcO ?_
  intro F V0 σ H hs hl Q q
  refine h F V0 σ H hs hl Q fun Jt H' o xs Keep a b c ⟨ys, e1, hz, j0, jk, jb, je⟩ => q Jt H' o xs Keep a b c ?_
  subst e1
  refine ⟨fun i acc o => acc.length ≤ i ∧ J (ys.drop i) acc o, ⟨Nat.le_refl _, j0⟩, fun i sl o h => jk _ _ _ h.2, fun i x acc o2 hx hj => ?_, fun sl2 o2 hj => je sl2 o2 ?_⟩
  · obtain ⟨y, hy, rfl⟩ := map_at hx
    obtain ⟨hj1, hj2⟩ := hj
    have hi := (List.getElem?_eq_some_iff.mp hy).1
    rw [drop_at hy] at hj2
    have k := jb (ys.take i) y (ys.drop (i + 1)) acc o2 (split_at hy) hj2
    intro F2 V2 σ2 H2 x2 hs2 hl2 hd2 Q2 q2
    refine k F2 V2 σ2 H2 x2 hs2 hl2 hd2 Q2 fun σ' H' sl' own' z1 z2 z3 z4 z5 => q2 σ' H' sl' own' z1 z2 z3 z4 ?_
    refine tx_mono z5 fun b o4 p => ?_
    cases b with
    | true => exact iteT (ex_mono (show EX K te sl' o4 _ from p) fun z o5 p => ⟨zl (by omega), by rw [List.length_append]; exact Nat.add_le_add hj1 (Nat.le_refl _), p⟩)
    | false => exact iteF ⟨Nat.le_trans hj1 (Nat.le_succ _), p⟩
  · have hj2 : J (ys.drop (ys.map e).length) sl2 o2 := hj.2
    rwa [List.length_map, List.drop_length] at hj2
end
/-! ### cells kept, in any order, others let go -/
inductive Sb : Own → Own → Prop
  | nil (o : Own) : Sb o []
  | refl (o : Own) : Sb o o
  | cons (l : Own) {p : Addr × Cell} {r o2 : Own} : Sb (l ++ r) o2 → Sb (l ++ p :: r) (p :: o2)
  | skip (l : Own) {p : Addr × Cell} {r o2 : Own} : Sb (l ++ r) o2 → Sb (l ++ p :: r) o2
theorem Sb.mem : ∀ {o o2 : Own}, Sb o o2 → ∀ p ∈ o2, p ∈ o
  | _, _, .nil _, p, h => (List.not_mem_nil h).elim
  | _, _, .refl _, p, h => h
  | _, _, .skip l s, p, h => by
    rcases List.mem_append.mp (Sb.mem s p h) with h | h
    · exact List.mem_append_left _ h
    · exact List.mem_append_right _ (List.mem_cons_of_mem _ h)
  | _, _, .cons l s, p, h => by
    rcases List.mem_cons.mp h with rfl | h
    · exact List.mem_append_right _ List.mem_cons_self
    · have := Sb.mem s p h
      rcases List.mem_append.mp this with h | h
      · exact List.mem_append_left _ h
      · exact List.mem_append_right _ (List.mem_cons_of_mem _ h)
theorem Sb.nd : ∀ {o o2 : Own}, Sb o o2 → (o.map (·.1)).Nodup → (o2.map (·.1)).Nodup
  | _, _, .nil _, _ => List.nodup_nil
  | _, _, .refl _, h => h
  | _, _, .skip (p := p) (r := r) (o2 := o2) l s, h => by
    have h2 : ((p :: (l ++ r)).map (·.1)).Nodup := ((List.perm_middle (a := p) (l₁ := l) (l₂ := r)).map (·.1)).nodup_iff.mp h
    rw [List.map_cons] at h2
    exact Sb.nd s (List.nodup_cons.mp h2).2
  | _, _, .cons (p := p) (r := r) (o2 := o2) l s, h => by
    have h2 : ((p :: (l ++ r)).map (·.1)).Nodup := ((List.perm_middle (a := p) (l₁ := l) (l₂ := r)).map (·.1)).nodup_iff.mp h
    rw [List.map_cons] at h2 ⊢
    obtain ⟨n1, n2⟩ := List.nodup_cons.mp h2
    refine List.nodup_cons.mpr ⟨fun z => n1 ?_, Sb.nd s n2⟩
    obtain ⟨q, hq, e⟩ := List.mem_map.mp z
    exact List.mem_map.mpr ⟨q, Sb.mem s q hq, e⟩
theorem cl_sb {o o2 : Own} (s : Sb o o2) : Cl o o2 := fun K F V0 H h => by
  have sub : Same (vis F o H) (vis F o2 H) := fun b u e => by
    unfold vis at e ⊢
    split at e
    · cases e
    · next hm =>
      have hm2 : ¬ ((F b).isSome = true ∨ b ∈ o2.map (·.1)) := fun z => hm (z.imp id fun z => by
        obtain ⟨q, hq, e⟩ := List.mem_map.mp z
        exact List.mem_map.mpr ⟨q, s.mem q hq, e⟩)
      rw [if_neg hm2]
      exact e
  exact ⟨⟨s.nd h.nd, fun p hp => (h.cell p (s.mem p hp)).stay sub rfl, h.mo.trans sub, h.fr, fun p hp => h.out p (s.mem p hp)⟩, sub⟩
theorem cl_mem {o : Own} {p : Addr × Cell} (h : p ∈ o) : Cl o (p :: []) := by
  obtain ⟨l, r, rfl⟩ := List.append_of_mem h
  exact cl_sb (.cons l (.nil _))
/-! ### dicts as functions -/
section
variable {κ β : Type} [DecidableEq κ]
def dget (ks : List κ) (vs : List β) (k : κ) : Option β := (kix ks k).bind fun i => vs[i]?
def dputB (ks : List κ) (k : κ) (vs : List β) (v : β) : List β := match kix ks k with | some i => vs.set i v | none => vs ++ [v]
theorem dput_map {f : β → Dat} {ks : List κ} {k : κ} {vs : List β} {v : β} : dput ks k (vs.map f) (f v) = (dputB ks k vs v).map f := by
  unfold dput dputB
  cases kix ks k with
  | none => simp
  | some i => simp [List.map_set]
theorem dputB_len {ks : List κ} {k : κ} {vs : List β} {v : β} (h : vs.length = ks.length) : (dputB ks k vs v).length = (kput ks k).length := by
  unfold dputB kput
  cases kix ks k with
  | none => simp [h]
  | some i => simp [h]
theorem kput_len {ks : List κ} {k : κ} : (kput ks k).length ≤ ks.length + 1 := by
  unfold kput
  cases kix ks k <;> simp
theorem kix_app {ks : List κ} {k j : κ} : kix (ks ++ [j]) k = match kix ks k with | some i => some i | none => if j = k then some ks.length else none := by
  induction ks with
  | nil =>
    show kix [j] k = _
    unfold kix
    by_cases h : j = k
    · rw [if_pos h]; simp [kix, h]
    · rw [if_neg h]; simp [kix, h]
  | cons n ns ih =>
    rw [List.cons_append]
    unfold kix
    by_cases h : n = k
    · rw [if_pos h, if_pos h]
    · rw [if_neg h, if_neg h, ih]
      cases kix ns k with
      | some i => rfl
      | none =>
        by_cases h2 : j = k
        · simp [h2]
        · simp [h2]
theorem kix_inj {ks : List κ} {k j : κ} {i : Nat} (h1 : kix ks k = some i) (h2 : kix ks j = some i) : k = j := by
  have a := (kix_lt h1).2
  have b := (kix_lt h2).2
  rw [a] at b
  exact Option.some.inj b
theorem dget_put {ks : List κ} {vs : List β} {k j : κ} {v : β} (hl : vs.length = ks.length) : dget (kput ks k) (dputB ks k vs v) j = if j = k then some v else dget ks vs j := by
  unfold dget kput dputB
  cases h : kix ks k with
  | some i =>
    have hi := (kix_lt h).1
    by_cases e : j = k
    · subst e
      rw [if_pos rfl]
      simp only [h, Option.bind_some]
      rw [List.getElem?_set_self (by omega)]
    · rw [if_neg e]
      simp only
      cases h2 : kix ks j with
      | none => rfl
      | some m =>
        simp only [Option.bind_some]
        rw [List.getElem?_set_ne]
        intro z
        subst z
        exact e (kix_inj h2 h)
  | none =>
    simp only
    rw [kix_app]
    by_cases e : j = k
    · subst e
      rw [if_pos rfl, h]
      simp [← hl]
    · rw [if_neg e]
      cases h2 : kix ks j with
      | none =>
        simp only
        rw [if_neg fun z => e z.symm]
        rfl
      | some m =>
        simp only [Option.bind_some]
        have := (kix_lt h2).1
        rw [List.getElem?_append_left (by omega)]
theorem dget_nil {k : κ} : dget ([] : List κ) ([] : List β) k = none := rfl
theorem kix_map {κ' : Type} [DecidableEq κ'] {f : κ → κ'} (hf : ∀ a b, f a = f b → a = b) {k : κ} : ∀ {ks : List κ}, kix (ks.map f) (f k) = kix ks k
  | [] => rfl
  | n :: ns => by
    rw [List.map_cons]
    unfold kix
    by_cases h : n = k
    · rw [if_pos h, if_pos (by rw [h])]
    · rw [if_neg h, if_neg fun z => h (hf _ _ z), kix_map hf]
theorem kput_map {κ' : Type} [DecidableEq κ'] {f : κ → κ'} (hf : ∀ a b, f a = f b → a = b) {k : κ} {ks : List κ} : kput (ks.map f) (f k) = (kput ks k).map f := by
  unfold kput
  rw [kix_map hf]
  cases kix ks k <;> simp
theorem dput_mapK {κ' : Type} [DecidableEq κ'] {f : κ → κ'} (hf : ∀ a b, f a = f b → a = b) {g : β → Dat} {k : κ} {ks : List κ} {vs : List β} {v : β} : dput (ks.map f) (f k) (vs.map g) (g v) = (dputB ks k vs v).map g := by
  rw [← dput_map]
  unfold dput
  rw [kix_map hf]
end
section
variable {α : Type} {a b c d e f g h i j : α} {xs : List α}
theorem at6 : atI (a :: b :: c :: d :: e :: f :: g :: xs) 6 = some g := atN (n := 6) rfl
theorem at7 : atI (a :: b :: c :: d :: e :: f :: g :: h :: xs) 7 = some h := atN (n := 7) rfl
theorem at8 : atI (a :: b :: c :: d :: e :: f :: g :: h :: i :: xs) 8 = some i := atN (n := 8) rfl
theorem at9 : atI (a :: b :: c :: d :: e :: f :: g :: h :: i :: j :: xs) 9 = some j := atN (n := 9) rfl
end
section
variable {K : KX} {own : Own} {P : PD} {z : Str} {ys : List Str}
theorem strIn0 {neg : Bool} (hz : PyData.strOk z = true) (hy : ∀ y ∈ ys, PyData.strOk y = true) (p : P (.bl (if neg then !decide (z ∈ ys) else decide (z ∈ ys))) own) : R2X K (uIn K neg) (.str z) (.tup (ys.map Dat.str)) own P := by
  refine in_seq (n := 0) (m := 0) (.inr rfl) (.str hz) ?_ fun b hb => ?_
  · exact shL_of fun e he => by obtain ⟨y, h, rfl⟩ := List.mem_map.mp he; exact .str (hy y h)
  · have : b = decide (z ∈ ys) := by
      rw [Bool.eq_iff_iff, hb, decide_eq_true_eq]
      simp
    rw [this]; exact p
theorem strIn (hz : PyData.strOk z = true) (hy : ∀ y ∈ ys, PyData.strOk y = true) (p : P (.bl (decide (z ∈ ys))) own) : R2X K (uIn K false) (.str z) (.tup (ys.map Dat.str)) own P := strIn0 hz hy p
theorem strNi (hz : PyData.strOk z = true) (hy : ∀ y ∈ ys, PyData.strOk y = true) (p : P (.bl (!decide (z ∈ ys))) own) : R2X K (uIn K true) (.str z) (.tup (ys.map Dat.str)) own P := strIn0 hz hy p
end
theorem iteNDt {c A B : Prop} [Decidable c] (h : ¬ c) (a : A) : if (!decide c) = true then A else B := by rw [decide_eq_false h]; exact a
theorem iteNDf {c A B : Prop} [Decidable c] (h : c) (b : B) : if (!decide c) = true then A else B := by rw [decide_eq_true h]; exact b
theorem zip_ptr {β : Type} {as : List Addr} {rs : List β} (h : as.length = rs.length) : as.map Dat.ptr = (as.zip rs).map fun y => Dat.ptr y.1 := by
  conv => lhs; rw [← List.map_fst_zip (l₁ := as) (l₂ := rs) (by omega)]
  rw [List.map_map]; rfl
theorem zip_map {β γ : Type} {as : List Addr} {rs : List β} (h : as.length = rs.length) (f : β → γ) : ((as.zip rs).map fun y => f y.2) = rs.map f := by
  conv => rhs; rw [← List.map_snd_zip (l₁ := as) (l₂ := rs) (by omega)]
  rw [List.map_map]; rfl
theorem zip_cell {β : Type} {c : β → Cell} : ∀ {as : List Addr} {rs : List β} {y : Addr × β}, y ∈ as.zip rs → (y.1, c y.2) ∈ cellsG c as rs
  | [], _, _, h => by simp at h
  | a :: as, [], _, h => by simp at h
  | a :: as, r :: rs, y, h => by
    rw [List.zip_cons_cons] at h
    show _ ∈ cellsG c as rs ++ [(a, c r)]
    rcases List.mem_cons.mp h with rfl | h
    · exact List.mem_append_right _ List.mem_cons_self
    · exact List.mem_append_left _ (zip_cell h)
theorem cut_to {ds : List Dat} {k : Nat} (h : k ≤ ds.length) : cutD ds none (some (k : Int)) = ds.take k := by
  unfold cutD
  rw [HT.sIx_none, HT.sIx_nat, Nat.min_eq_left h, Nat.sub_zero, List.drop_zero]
theorem cut_from {ds : List Dat} {k : Nat} (h : k ≤ ds.length) : cutD ds (some (k : Int)) none = ds.drop k := by
  unfold cutD
  rw [HT.sIx_none, HT.sIx_nat, Nat.min_eq_left h, List.take_of_length_le]
  rw [List.length_drop]
  omega
/-- the ends told otherwise -/
abbrev KX.fin (K : KX) : KX := ⟨K.K, K.w, fun c dx sl o => ∃ o', Cl o o' ∧ K.xp c dx sl o'⟩
theorem ss_fin {K : KX} {own : Own} {sl : SL} {nx bk ct : SL → Own → Prop} {rt : Dat → Own → Prop} {t : TS}
    (h : SS K.fin t sl own ⟨fun s o => ∃ o', Cl o o' ∧ nx s o', fun d o => ∃ o', Cl o o' ∧ rt d o', bk, ct⟩) : SS K t sl own ⟨nx, rt, bk, ct⟩ := fun F V0 σ H hs hl D' n1 r1 b1 c1 => by
  refine h F V0 σ H ⟨hs.c, fun c dx σ2 sl2 H2 o2 h2 l2 ⟨o3, k, p⟩ => ?_⟩ hl D' (fun σ' H' sl' o a b c ⟨o2, k, p⟩ => ?_) (fun v H' d o a b c ⟨o2, k, p⟩ => ?_) (fun σ' H' sl' o a b c p => b1 σ' H' sl' o ⟨a.c, hs.x⟩ b c p) (fun σ' H' sl' o a b c p => c1 σ' H' sl' o ⟨a.c, hs.x⟩ b c p)
  · obtain ⟨h3, e3⟩ := k _ F V0 H2 h2
    exact hs.x c dx σ2 sl2 H2 o3 h3 (l2.mono e3) p
  · obtain ⟨h1, e1⟩ := k _ F V0 H' a.c
    exact n1 σ' H' sl' o2 ⟨h1, hs.x⟩ (b.trans e1) (c.mono e1) p
  · obtain ⟨h1, e1⟩ := k _ F V0 H' a.c
    exact r1 v H' d o2 ⟨h1, hs.x⟩ (b.trans e1) (c.mono e1) p
section
variable {K : KX} {own : Own} {sl : SL} {P : PD} {te : TE}
/-- [f y for y in ys if c y], a list of one's own -/
theorem ex_lcOP {α : Type} {wi : TI} {g : TG} {tt : TT} {vs : List Nat} (e f : α → Dat) (c : α → Bool) (h : IX K wi sl own fun xs Keep o => ∃ ys : List α, xs = ys.map e ∧ ys.length < 1000000 ∧ Keep o ∧
    (∀ y ∈ ys, GX K g (· ∈ vs) (e y) (wipeS sl vs) o fun sl3 o3 => TX K tt sl3 o3 fun b o4 => if b = true then EX K te sl3 o4 fun z o5 => c y = true ∧ z = f y ∧ o5 = o else c y = false ∧ o4 = o) ∧ ∀ a, a ∉ o.map (·.1) → P (.ptr a) ((a, .lst ((ys.filter c).map f)) :: o)) : EX K (tLc wi g tt te vs) sl own P := by
  refine ex_lcO (P := P) ?_
  intro F V0 σ H hs hl Q q
  refine h F V0 σ H hs hl Q fun Jt H' o xs Keep a b c2 ⟨ys, e1, hz, hk, hb, hp⟩ => q Jt H' o xs Keep a b c2 ?_
  subst e1
  refine ⟨fun i acc o2 => acc.length ≤ i ∧ o2 = o ∧ acc ++ ((ys.drop i).filter c).map f = (ys.filter c).map f, ⟨Nat.le_refl _, rfl, rfl⟩, fun i sl o2 h => h.2.1 ▸ hk, fun i x acc o2 hx hj => ?_, fun acc o2 hj => ?_⟩
  · obtain ⟨y, hy, rfl⟩ := map_at hx
    obtain ⟨hj1, rfl, hj2⟩ := hj
    have hi := (List.getElem?_eq_some_iff.mp hy).1
    rw [drop_at hy] at hj2
    have k := hb y (List.mem_of_getElem? hy)
    intro F2 V2 σ2 H2 x2 hs2 hl2 hd2 Q2 q2
    refine k F2 V2 σ2 H2 x2 hs2 hl2 hd2 Q2 fun σ' H' sl' own' z1 z2 z3 z4 z5 => q2 σ' H' sl' own' z1 z2 z3 z4 ?_
    refine tx_mono z5 fun b o4 p => ?_
    cases b with
    | true => exact iteT (ex_mono (show EX K te sl' o4 _ from p) fun z o5 ⟨p1, p2, p3⟩ => ⟨zl (by omega), by rw [List.length_append]; exact Nat.add_le_add hj1 (Nat.le_refl _), p3, by rw [List.filter_cons, if_pos p1, List.map_cons] at hj2; rw [p2, List.append_assoc]; exact hj2⟩)
    | false =>
      obtain ⟨p1, p2⟩ : c y = false ∧ o4 = o2 := p
      exact iteF ⟨Nat.le_trans hj1 (Nat.le_succ _), p2, by rw [List.filter_cons, if_neg (by rw [p1]; decide)] at hj2; exact hj2⟩
  · obtain ⟨hj1, rfl, hj2⟩ := hj
    rw [List.length_map, List.drop_length, List.filter_nil, List.map_nil, List.append_nil] at hj2
    rw [hj2]; exact hp
/-- {} -/
theorem ex_dnewK (p : ∀ a, a ∉ own.map (·.1) → P (.ptr a) ((a, .dK [] []) :: own)) : EX K tDNewK sl own P := fun F V0 σ H hs hl Q q => by
  intro a ha
  refine q _ _ _ ((a, .dK [] []) :: own) (hs.new ha (.dK (kws := []) upd_same rfl List.nodup_nil .nil)) ?_ (.ptr a) (p a (fresh_own hs ha))
  rw [vis_new hs ha]; exact Same.refl _
theorem ex_dnewT (p : ∀ a, a ∉ own.map (·.1) → P (.ptr a) ((a, .dT [] []) :: own)) : EX K tDNewT sl own P := fun F V0 σ H hs hl Q q => by
  intro a ha
  refine q _ _ _ ((a, .dT [] []) :: own) (hs.new ha (.dT (kws := []) upd_same rfl List.nodup_nil .nil)) ?_ (.ptr a) (p a (fresh_own hs ha))
  rw [vis_new hs ha]; exact Same.refl _
end
theorem pick {α : Type} {f : α → Dat} {xs : List α} {d : Int} (h0 : 0 ≤ d) (h1 : d < xs.length) : ∃ x ∈ xs, atI (xs.map f) d = some (f x) := by
  obtain ⟨z, _, h, h2⟩ := atI_ok h0 h1
  exact ⟨z, h, by rw [atI_map, h2]; rfl⟩
/-! ### the first i items changed -/
def mapTo {β : Type} (f : β → β) (i : Nat) (rs : List β) : List β := (rs.take i).map f ++ rs.drop i
section
variable {β : Type} {f : β → β} {i : Nat} {rs : List β} {r : β}
theorem mapTo_0 : mapTo f 0 rs = rs := rfl
theorem mapTo_all : mapTo f rs.length rs = rs.map f := by unfold mapTo; simp
theorem mapTo_len : (mapTo f i rs).length = rs.length := by unfold mapTo; simp; omega
theorem mapTo_at (h : rs[i]? = some r) : (mapTo f i rs)[i]? = some r := by
  have hi := (List.getElem?_eq_some_iff.mp h).1
  unfold mapTo
  have e : ((rs.take i).map f).length = i := by rw [List.length_map, List.length_take]; omega
  rw [List.getElem?_append_right (by omega), e, Nat.sub_self, List.getElem?_drop]
  exact h
theorem mapTo_set (h : rs[i]? = some r) : (mapTo f i rs).set i (f r) = mapTo f (i + 1) rs := by
  have hi := (List.getElem?_eq_some_iff.mp h).1
  unfold mapTo
  have e : ((rs.take i).map f).length = i := by rw [List.length_map, List.length_take]; omega
  rw [List.set_append_right _ _ (by omega), e, Nat.sub_self, drop_at h, List.set_cons_zero, List.take_add_one, h, List.map_append]
  simp
theorem mapTo_same (h : rs[i]? = some r) (e : f r = r) : mapTo f (i + 1) rs = mapTo f i rs := by
  rw [← mapTo_set h, e]
  have := mapTo_at (f := f) h
  obtain ⟨hi, e⟩ := List.getElem?_eq_some_iff.mp this
  conv => lhs; rw [← e]
  exact List.set_getElem_self hi
end
end Sy
set_option maxHeartbeats 1000000
/-! An own exception class over ValueError whose __init__ begins with super().__init__(e). -/
namespace Sy
open PySem L2
/-- the frame of a def that closes over __class__ -/
abbrev envS (qual : Str) (sc : Scope) (L f : Addr) (cd : Value) (cc : Addr) : Env := PySem.W.ksEnv qual sc L f cd cc
def cxS (CX : CXT) (P : Program) (w : World) (K : PySem.W.Frag) (mg : Str → Option Value) (base : Heap) (N : List Str) (qual : Str) (sc : Scope) (f : Addr) (cd : Value) (cc : Addr) (A : Around) (outer : List Env) (s : Shared) (H : Hp) (E : XK) : Cx :=
  { prog := P, w := w, K := K, mg := mg, base := base, A := A.deeper (envS qual sc s.heap.objs.size f cd cc), N := N, s_0 := s, H_0 := H, env := envS qual sc s.heap.objs.size f cd cc, outer := outer,
    stack := envS qual sc s.heap.objs.size f cd cc :: outer, ex := [], calm := true, fn := fun _ => false, pn := [],
    xe := fun e s' => wpAny (model P w) (A.deeper (envS qual sc s.heap.objs.size f cd cc)) (leaving (envS qual sc s.heap.objs.size f cd cc) e) (fun _ s2 => CX outer H s E e s2) (fun e' s2 => CX outer H s E e' s2) s' }
structure SupScope (N ps : List Str) (sc : Scope) : Prop where
  kind : sc.kind = .function
  co : sc.isCoroutine = false
  gen : sc.isGenerator = false
  nd : N.Nodup
  pre : N.take ps.length = ps
  par : ∀ x ∈ ps, sc.names.lookup x = some .local
  nocell : ∀ y ∈ sc.names, y.2 ≠ .cell
  free : ∀ y ∈ sc.names, y.2 = .free → y.1 = ("__class__" : Str)
  cls : sc.names.lookup ("__class__" : Str) = some .free
  sup : sc.names.lookup ("super" : Str) = some .globalImplicit
theorem zip_sub {α β : Type} : ∀ (ps : List α) (us : List β), ((ps.zip us).map (·.1)).Sublist ps
  | [], _ => by simp
  | p :: ps, [] => by simp
  | p :: ps, u :: us => by
    rw [List.zip_cons_cons, List.map_cons]
    exact (zip_sub ps us).cons_cons p
theorem lookup_zip {ps : List Str} {us : List Value} (nd : ps.Nodup) {i : Nat} {x : Str} {u : Value} (h1 : ps[i]? = some x) (h2 : us[i]? = some u) : (ps.zip us).reverse.lookup x = some u := by
  have key : ∀ (l : List (Str × Value)), (l.map (·.1)).Nodup → (x, u) ∈ l → l.lookup x = some u := by
    intro l
    induction l with
    | nil => intro _ h; exact (List.not_mem_nil h).elim
    | cons p l ih =>
      intro nd hq
      rw [List.map_cons] at nd
      obtain ⟨n1, n2⟩ := List.nodup_cons.mp nd
      rcases List.mem_cons.mp hq with rfl | h
      · simp [List.lookup_cons]
      · obtain ⟨a, b⟩ := p
        rw [List.lookup_cons]
        have : (x == a) = false := by
          rw [beq_eq_false_iff_ne]
          intro z
          subst z
          exact n1 (List.mem_map.mpr ⟨_, h, rfl⟩)
        rw [this]
        exact ih n2 h
  have hm : (x, u) ∈ ps.zip us := by
    refine List.mem_of_getElem? (i := i) ?_
    rw [List.getElem?_zip_eq_some]
    exact ⟨h1, h2⟩
  refine key _ ?_ (List.mem_reverse.mpr hm)
  rw [List.map_reverse]
  refine (List.reverse_perm _).nodup_iff.mpr ?_
  exact nd.sublist (zip_sub ps us)
section
variable {CX : CXT} {P : Program} {w : World} {K : PySem.W.Frag} {mg : Str → Option Value} {base : Heap} {N ps : List Str} {qual : Str} {sc : Scope} {f cc : Addr} {cd : Value} {A : Around} {outer : List Env} {s : Shared} {H : Hp} {E : XK} {us : List Value} {vs : List V}
theorem inv_sup (S : SupScope N ps sc) (hd : A.handled = none) (e0 : Env0 P w K mg base A outer s H) (hl : vs.length = ps.length) (r : Vals vs us) {cl : Value} {cld : Option Addr} {D : Value} {csl : Array (Option Value)} (hc : K.lookup cc = some ⟨cl, cld, .cell (some D), csl⟩)
    {h1 : Heap} {tk : Nat} (hn : h1.Ns s.heap.objs.size fun x => (ps.zip us).reverse.lookup x) (hk : ∀ b o, s.heap.get? b = some o → h1.get? b = some o) :
    Inv (cxS CX P w K mg base N qual sc f cd cc A outer s H E) [] (L2.start N vs) H { s with heap := h1, toks := tk } := by
  have bc := e0.mod.kin _ _ hc
  obtain ⟨hcs, hcH⟩ := e0.bs _ _ bc
  have noA : ∀ b : Addr, b ∉ (cxS CX P w K mg base N qual sc f cd cc A outer s H E).ex := fun b z => absurd (show b ∈ ([] : List Addr) from z) (by simp)
  have cells : ∀ y c, (cxS CX P w K mg base N qual sc f cd cc A outer s H E).env.cells.lookup y = some c → y = ("__class__" : Str) ∧ c = cc := fun y c h => by
    have h' : List.lookup y [((("__class__" : Str)), cc)] = some c := h
    rw [List.lookup_cons] at h'
    split at h'
    · next e => exact ⟨by simpa using e, (Option.some.inj h').symm⟩
    · cases h'
  have hpl : ps.length ≤ N.length := by have := congrArg List.length S.pre; rw [List.length_take] at this; omega
  have ok : (cxS CX P w K mg base N qual sc f cd cc A outer s H E).Ok := {
    mod := e0.mod, kind := S.kind, glob := rfl, blt := rfl, above := Nat.le_refl _
    inj := fun x y c a b => (cells x c a).1.trans (cells y c b).1.symm
    has := fun x hx => by
      have hx : sc.names.lookup x = some .cell ∨ sc.names.lookup x = some .free := hx
      rcases hx with hx | hx
      · exact absurd rfl (S.nocell _ (PySem.mem_of_lookup hx))
      · have := S.free _ (PySem.mem_of_lookup hx) rfl
        exact ⟨cc, by rw [show x = ("__class__" : Str) from this]; rfl⟩
    cab := fun x c z _ => absurd (show false = true from z) Bool.false_ne_true
    hd := fun _ => hd, frames := Around.frames_deeper e0.frames, stk := .inr ⟨rfl, rfl⟩, exf := fun b z => absurd z (noA b), bs := e0.bs, bsz := e0.bsz, noex := fun b _ _ => noA b
    exfs := fun b z => absurd z (noA b), funs := e0.funs, frf := e0.frf }
  refine ⟨ok, rfl, e0.bare, Un.kept hk, ⟨_, hn, fun i y v q1 q2 q3 => ?_⟩, fun y c h => ?_, e0.hok.fresh (Nat.le_refl _), fun y c h => ?_, fun p hp => absurd (show p ∈ ([] : List (Addr × Obj)) from hp) (by simp), e0.hok.kept hk, ?_⟩
  · have hi : i < vs.length := by
      unfold L2.start at q2
      by_cases hi : i < vs.length
      · exact hi
      · rw [List.getElem?_append_right (by simpa using hi), List.getElem?_replicate] at q2
        split at q2 <;> cases q2
    have ha : vs[i]? = some v := by
      unfold L2.start at q2
      rw [List.getElem?_append_left (by simpa using hi), List.getElem?_map] at q2
      cases e : vs[i]? with
      | none => rw [e] at q2; cases q2
      | some a => rw [e] at q2; cases q2; rfl
    obtain ⟨u, hu, rv⟩ := r.get ha
    have hp : ps[i]? = some y := by rw [← S.pre, List.getElem?_take_of_lt (by omega)]; exact q1
    exact ⟨u, rv, .inl ⟨S.par y (List.mem_of_getElem? hp), lookup_zip (by rw [← S.pre]; exact S.nd.sublist (List.take_sublist _ _)) hp hu⟩⟩
  · obtain ⟨_, rfl⟩ := cells y c h
    exact ⟨_, _, hk _ _ hcs, rfl⟩
  · obtain ⟨_, rfl⟩ := cells y c h
    exact hcH
  · unfold L2.start
    show _ = N.length
    rw [List.length_append, List.length_map, List.length_replicate]
    omega
/-- the bound __init__ is called: of the exception nothing else is told -/
theorem call_mw {X : Cx} {pins : List (Addr × Obj)} {σ : L2.St} {H : Hp} {s : Shared} {u a C : Addr} {us : List Value} {Q : Value → Shared → Prop} (T : OexC X.K C) (I : Inv X pins σ H s) (hu : s.heap.get? u = some (PySem.W.kxs_mw "ValueError.__init__" a))
    (e : H a = some (exo a C none)) (hl : us.length ≤ sizeLine) (h : ∀ s', Inv X pins σ H s' → Q .none s') : wpAny (model X.prog X.w) X.A (call (.ref u) us) Q X.xe s := by
  obtain ⟨nm, q, N, bs, bm, sn, sub, ab, col, dd, k0, k1, k2, k3, k5, hC, hbm⟩ := T.cls
  obtain ⟨t1, ho⟩ := exo_at I.hok e
  have hC2 := I.kIn _ _ hC
  obtain ⟨hp, g, d, t, os⟩ := s
  refine wpAny_call (codeAny_of_tree ?_)
  show wpAny _ X.A.in1 (callAny (.ref u) ⟨us, []⟩) _ _ _
  simp only [callAny]
  refine wpAny_bind (wpAny_load hu ?_)
  simp only [show (Value.type "method-wrapper" == Value.type "method" || Value.type "method-wrapper" == Value.type "builtin_function_or_method" || Value.type "method-wrapper" == Value.type "method-wrapper") = true by decide, if_true]
  refine PySem.W.KFB.if_so (by decide) ?_
  refine wpAny_bind (PySem.W.check_bound_init F.excBase_ValueError.toExcCallFacts hC2 ho rfl ?_)
  refine wpAny_bind (wpAny_pure (wpAny_pure ⟨plainId_quiet F.excBase_ValueError.init.plain _, codeAny_builtin F.excBase_ValueError.initEntry ?_⟩))
  rw [Around.under_plainId F.excBase_ValueError.init.plain _]
  refine PySem.W.exc_init_tree (cls := .ref C) (t0 := t1) (dv := none) (c2 := .none) (c3 := .none) (b4 := .bool false) ho hl fun h' k hx _ => ?_
  have J := I.write (t' := t) (x := a) (e := a) (o := exo a C none) (by rw [e]; exact True.intro) (.inl rfl) k ⟨_, hx⟩ (exo_ok hx)
  have eu : upd H a (exo a C none) = H := by
    funext b
    by_cases hb : b = a
    · rw [hb, upd_same, e]
    · rw [upd_ne hb]
  rw [eu] at J
  exact h _ J
/-- what is told of the def's body: super().__init__(e), then the rest -/
theorem fn_sup {k : Nat} {name : Str} {params : Arguments} {e : Expr} {rest : List Stmt} {dV kV doc pm ct oc : Value} {an od : Option Addr} {osl : Array (Option Value)} {cda D : Addr} {p0 p1 p2 p3 p4 : Pos} {sp : Sp} {ar : Arg} {pl : Nat → Sem Bool}
    {cl ccl : Value} {cld cdd : Option Addr} {csl ccs : Array (Option Value)} {cvs : Array Value} {file : Str} {tf : Tok}
    (lk : K.lookup f = some ⟨oc, od, .func (PySem.W.ksFn name qual params (.Expr (.Call (.Attribute (.Call (.Name "super" p0) [] [] p1) "__init__" p2) [e] [] p3) p4 :: rest) sc dV kV doc pm an (.ref cda) ct cc), osl⟩)
    (hcd : PySem.W.codeIn K (.ref cda) qual = true) (S : SupScope N ps sc) (hp : (params.posonlyargs ++ params.args).head? = some ar) (h0 : ps[0]? = some ar.arg)
    (hcode : K.lookup cda = some ⟨ccl, cdd, .fields cvs, ccs⟩) (hvs : cvs[2]? = some (.str file tf)) (hfile : ((P.main.file : Str) == file) = true)
    (hc : K.lookup cc = some ⟨cl, cld, .cell (some (.ref D)), csl⟩) (hsub : PySem.W.mroIn K D (.ref D) = some true) (hsuper : mg "super" = none) (htop : (P.main.scope.names.lookup ("super" : Str)).isSome = false)
    (hst : PySem.W.nsIn K cStatics "thirdparty.any" = some none) (hm : PySem.W.ks_superIn K D D "__init__" = some (some (.builtin "ValueError.__init__"))) (hB : PySem.W.subIn K (.ref D) (.type "ValueError") = some true) (T : OexC K D)
    (len : ∀ vs H Q E, sp vs H Q E → vs.length = ps.length) (hsw : ∀ (L : Nat), swapsWith (.Call (.Attribute (.Call (.Name "super" p0) [] [] p1) "__init__" p2) [e] [] p3) none p4.line (envS qual sc L f (.ref cda) cc) = pure false)
    (hin : ∀ (L : Nat), interactive (envS qual sc L f (.ref cda) cc) = false)
    (hev : ∀ (L : Nat), eval (.Call (.Attribute (.Call (.Name "super" p0) [] [] p1) "__init__" p2) [e] [] p3) (envS qual sc L f (.ref cda) cc) = (do
      let ov ← attributeBase (.Call (.Name "super" p0) [] [] p1) "__init__" (envS qual sc L f (.ref cda) cc) (eval (.Call (.Name "super" p0) [] [] p1) (envS qual sc L f (.ref cda) cc))
      standAt p2.atName
      let fx ← holding [ov] (getMethod ov "__init__" (pl L))
      callWith p3 fx.1 fx.2 (backTo p3 (starEach [e] (envS qual sc L f (.ref cda) cc))) []))
    (hes : ∀ (L : Nat), starEach [e] (envS qual sc L f (.ref cda) cc) = [(false, eval e (envS qual sc L f (.ref cda) cc))])
    (hbody : ∀ (A : Around) (outer : List Env) (s : Shared) (H : Hp) (vs : List V) (Q : VK) (E : XK), Room k (A.deeper (envS qual sc s.heap.objs.size f (.ref cda) cc)) → sp vs H Q E →
      ∃ (te : TE) (t : TS), PE (cxS CX P w K mg base N qual sc f (.ref cda) cc A outer s H E) e te ∧ PSs (cxS CX P w K mg base N qual sc f (.ref cda) cc A outer s H E) rest t ∧
        ∃ a, vs[0]? = some (.ref a) ∧ H a = some (exo a D none) ∧ te (L2.start N vs) H fun v H1 => H1 a = some (exo a D none) ∧ t { nx := fun _ H' => Q .non H', rt := Q } (L2.start N vs) H1) :
    FnOk P w K mg base CX (k + 1) f (PySem.W.ksFn name qual params (.Expr (.Call (.Attribute (.Call (.Name "super" p0) [] [] p1) "__init__" p2) [e] [] p3) p4 :: rest) sc dV kV doc pm an (.ref cda) ct cc) ps sp := by
  refine ⟨len, fun A outer s H args us vs Q E hr e0 hb r hsp => ?_⟩
  have hl := len _ _ _ _ hsp
  have KX : K.In s.heap := e0.mod.kin.keeps fun b o e => (e0.bs b o e).1
  have lim : s.heap.NoLimit := e0.mod.nolimit.keeps fun b o e => (e0.bs b o e).1
  refine PySem.ks_codeAny_call_defAt (fd := PySem.W.ksFn name qual params _ sc dV kV doc pm an (.ref cda) ct cc) (binds := ps.zip us) hr.depth (KX _ _ lk) rfl lim (PySem.W.codeRec_of KX hcd) rfl hb S.nocell (fun y hy => S.par y.1 (List.of_mem_zip (a := y.1) (b := y.2) hy).1) (fun h1 hn hk => ?_) S.co S.gen S.kind
  obtain ⟨te, t, pe, pt, a, va, ha, ht⟩ := hbody A outer s H vs Q E (hr.deeper _) hsp
  have I : Inv (cxS CX P w K mg base N qual sc f (.ref cda) cc A outer s H E) [] (L2.start N vs) H { s with heap := h1, toks := s.toks + (ps.zip us).length } := inv_sup S hr.hd e0 hl r hc hn hk
  have K1 : K.In h1 := I.kIn
  obtain ⟨ua, hua, rua⟩ := r.get va
  obtain rfl : ua = Value.ref a := rua
  obtain ⟨t1, hoe⟩ := exo_at I.hok ha
  have ndP : ps.Nodup := by rw [← S.pre]; exact S.nd.sublist (List.take_sublist _ _)
  obtain ⟨nm, q, Nn, bs, bm, sn, sub, ab, col, dd, k0, k1, k2, k3, k5, hC, hbm⟩ := T.cls
  have hcl : PySem.W.clsIn K D = some { name := nm, bases := bs, mro := .ref D :: bm, ns := Nn, qualname := q, hasDict := true, slotNames := sn, subclasses := sub, abstract := ab, collection := col, hasDel := false } := by unfold PySem.W.clsIn; rw [hC] <;> rfl
  have Ia : PySem.W.InstAt h1 a { cls := .ref D, dict := none, data := .fields #[.ref t1, .none, .none, .none, .bool false, .none] } D none := ⟨hoe, rfl, rfl, trivial⟩
  refine ks_wpAt_execs_cons (ks_wpAt_Expr_any ?_ (hin _) (hsw _))
  refine ks_wpAt_MethodCall (pl := pl s.heap.objs.size) ?_ (hev _)
  obtain ⟨mb, b1, b2⟩ := e0.mod.blt
  refine ks_wpAt_super_base S.sup S.cls (by decide) rfl (K1 _ _ lk) rfl hp rfl (K1 _ _ hcode) rfl hvs hfile htop ?_
  refine PySem.W.ks_loadName_global S.kind S.sup (Calls.loadGlobal_builtin (e0.mod.glob.keeps I.bk) hsuper (b1.keeps I.bk) ((b2 _ (by decide)).trans (by first | rfl | kernel_rfl)) ⟨rfl, ?_⟩)
  refine wpAny_loadName_free S.kind S.cls rfl ⟨_, K1 _ _ hc, rfl⟩ ?_
  refine wpAny_loadName_local S.kind (S.par _ (List.mem_of_getElem? h0)) hn (lookup_zip ndP h0 hua) ?_
  refine ks_wpAny_isType_cls (K1 _ _ hC) rfl ⟨rfl, ?_⟩
  refine ks_wpAny_call_super (K1 _ _ hC) rfl hoe rfl (fun c z => nomatch z) (PySem.W.looks_mroIn K1 hsub) (fun h2 e2 k2 => ?_)
  have hsup := hm
  unfold PySem.W.ks_superIn at hsup
  rw [hcl] at hsup
  have K2 : K.In h2 := K1.keeps k2
  refine PySem.W.kxs_getMethod PySem.W.kxs_ValueError e2 (PySem.W.looks_opaque K2 hst) (l₀ := Value.ref D :: bm) (fun A Q E s k q => wpAny_bind ((PySem.W.looks_clsIn K2 hcl) A _ E s k (wpAny_pure q))) rfl K2 hsup ((Ia.type.keeps k2).andThen (PySem.W.looks_subIn K2 hB)) (PySem.W.ks_ne K1 Ia hcl) (by decide) ?_
  have up : ∀ b o, h1.get? b = some o → (h2.push (PySem.W.kxs_mw "ValueError.__init__" a)).get? b = some o := fun b o z => Heap.get?_push_of_some _ (k2 b o z)
  have I2 := I.kept (t' := s.toks + (ps.zip us).length + 1) up
  have hu : (h2.push (PySem.W.kxs_mw "ValueError.__init__" a)).get? h2.objs.size = some (PySem.W.kxs_mw "ValueError.__init__" a) := Heap.get?_push_size _ rfl
  have hfr : ∀ b o, h1.get? b = some o → b ≠ h2.objs.size := fun b o z => Nat.ne_of_lt (Heap.lt_size (k2 b o z))
  have nu : H h2.objs.size = none := by
    cases z : H h2.objs.size with
    | none => rfl
    | some o =>
      obtain ⟨ob, y⟩ := objOk_get (I.hok _ _ z)
      exact absurd rfl (hfr _ _ y)
  obtain ⟨ol, _, _, hol, _⟩ := hn
  have I3 : Inv (cxS CX P w K mg base N qual sc f (.ref cda) cc A outer s H E) [(h2.objs.size, PySem.W.kxs_mw "ValueError.__init__" a)] (L2.start N vs) H ⟨h2.push (PySem.W.kxs_mw "ValueError.__init__" a), s.gens, s.drawn, s.toks + (ps.zip us).length + 1, s.os⟩ := I2.pins_of fun p hp => by
    rw [List.mem_singleton] at hp
    subst hp
    refine ⟨hu, nu, fun z => hfr _ _ hol z.symm, fun z => ?_, fun v z => nomatch z⟩
    obtain ⟨_, o, ho, _⟩ := I.ok.funs.mem z
    exact hfr _ _ (hk _ _ ho) rfl
  have hes2 := hes s.heap.objs.size
  have fin : ∀ {σ' : L2.St} {H' : Hp} {v : V} {u : Value} {s' : Shared}, Inv (cxS CX P w K mg base N qual sc f (.ref cda) cc A outer s H E) [] σ' H' s' → RelV v u → Q v H' → CE outer P w H s Q u s' := fun J rv q => ⟨_, _, J.os, J.bare, J.base, J.hok, rv, q⟩
  show wpAny _ _ (callWith p3 (.ref h2.objs.size) [] (backTo p3 (starEach [e] (envS qual sc s.heap.objs.size f (.ref cda) cc))) []) _ _ _
  rw [hes2]
  refine PySem.W.kxs_callWith (i := "ValueError.__init__") (x := a) rfl (Calls.evalArgs_plain (Calls.spliced_cons ?_))
  refine thn (pe.run _ _ (L2.start N vs) H _ I3 ht) fun u2 s2 ⟨x2, H2, J, rv, q1, q2⟩ => Calls.spliced_nil ?_
  refine ⟨(J.pin _ (List.mem_append_right _ List.mem_cons_self)).1, call_mw T J (J.pin _ (List.mem_append_right _ List.mem_cons_self)).1 q1 (ble rfl) fun s3 J3 => ?_⟩
  refine wpAt_of_wpAny (wpAny_mono (pt.run [] s3 (L2.start N vs) H2 _ (J3.pins_of fun p hp => (List.not_mem_nil hp).elim) q2) (fun fl s' hs => ?_) fun e s' hs => hs)
  cases fl with
  | ret u =>
    obtain ⟨v, σ', H', J, rv, q⟩ := hs
    exact fin J rv q
  | next =>
    obtain ⟨σ', H', J, q⟩ := hs
    exact fin (v := V.non) (u := Value.none) J rfl q
  | brk =>
    obtain ⟨_, _, _, q⟩ := hs
    exact q.elim
  | cont =>
    obtain ⟨_, _, _, q⟩ := hs
    exact q.elim
end
/-! ### exceptions over data -/
/-- the promise of such an __init__: its arguments are the fields, in order -/
def spI (D : Addr) (names : List Str) (ok : List V → Prop) : Sp := fun vs H Q _ => ∃ (a : Addr) (ws : List V), vs = .ref a :: ws ∧ ws.length = names.length ∧ ok ws ∧ H a = some (exo a D none) ∧
  ∀ d, H d = none → d ≠ a → Q .non (upd (upd H d (exd d (names.zip ws).reverse)) a (exo a D (some d)))
section
variable {K : KX} {own : Own} {sl : SL} {D : DE} {nx bk ct : SL → Own → Prop} {rt : Dat → Own → Prop} {P : PD} {te : TE}
theorem DaL.zip_snd {W : Hp} : ∀ {names : List Str} {vs : List V} {ds : List Dat}, vs.length = names.length → DaL K.K W vs ds → DaL K.K W ((names.zip vs).map (·.2)) ds
  | [], [], _, _, h => by cases h; exact .nil
  | [], _ :: _, _, e, _ => by simp at e
  | _ :: _, [], _, e, _ => by simp at e
  | n :: ns, v :: vs, _, e, .cons h t => by
    rw [List.zip_cons_cons, List.map_cons]
    exact .cons h (DaL.zip_snd (by simpa using e) t)
theorem zip_fst : ∀ {names : List Str} {vs : List V}, vs.length = names.length → (names.zip vs).map (·.1) = names
  | [], [], _ => rfl
  | [], _ :: _, e => by simp at e
  | _ :: _, [], e => by simp at e
  | n :: ns, v :: vs, e => by rw [List.zip_cons_cons, List.map_cons, zip_fst (by simpa using e)]
/-- raise C(e, ..), C with such an __init__ -/
theorem ss_raiseI {C : Addr} {names : List Str} {ok : List V → Prop} {ta : TA} (h : AX K ta sl own fun ds o => ds.length = names.length ∧ ds.length ≤ 1000 ∧ (∀ W vs, DaL K.K W vs ds → ok vs) ∧ ∀ d, d ∉ o.map (·.1) → K.xp (.ref C) (some d) sl ((d, .xd names.reverse ds.reverse) :: o)) :
    SS K (fun _ σ H => tMkO C (spI C names ok) [] ta σ H fun cls d H' => K.w cls d σ H') sl own D := fun F V0 σ H hs hl D' _ _ _ _ => by
  refine h F V0 σ H hs hl _ fun vs H1 ds o1 hs1 e1 hd1 ⟨p1, p2, p3, p4⟩ => ⟨by rw [hd1.length]; exact p2, fun a ha => ?_⟩
  have hvl : vs.length = names.length := hd1.length.trans p1
  refine ⟨a, vs, by rw [List.append_nil], hvl, p3 _ _ hd1, upd_same, fun d hd hda => ⟨rfl, d, _, upd_same, by rw [upd_ne hda, upd_same], by rw [upd_ne hda] at hd; exact hd, ?_⟩⟩
  rw [upd_ne hda] at hd
  have eH : upd (del (upd (upd (upd H1 a (exo a C none)) d (exd d (names.zip vs).reverse)) a (exo a C (some d))) a) d (.xd (names.zip vs).reverse) = upd H1 d (.xd (names.zip vs).reverse) := by
    funext b
    by_cases hb : b = d
    · subst hb; rw [upd_same, upd_same]
    · rw [upd_ne hb, upd_ne hb]
      by_cases hba : b = a
      · subst hba; rw [del_same, ha]
      · rw [del_ne hba, upd_ne hba, upd_ne hb, upd_ne hba]
  rw [eH]
  have hg := hs1.new (o := .xd (names.zip vs).reverse) hd (c := .xd names.reverse ds.reverse) (.xd upd_same (by rw [List.map_reverse, zip_fst hvl]) (by rw [List.map_reverse]; exact (DaL.zip_snd hvl hd1).reverse))
  refine hs1.x (.ref C) (some d) σ sl _ _ hg.c ?_ (p4 d (fresh_own hs1 hd))
  rw [vis_new hs1 hd]
  exact hl.mono e1
/-- raise C('..'), C without own __init__ -/
theorem ss_raiseO {C : Addr} (h : K.xp (.ref C) none sl own) : SS K (fun _ σ H => (fun (_ : L2.St) (H : Hp) (Q : XK) => Q (.ref C) none H) σ H fun cls d H' => K.w cls d σ H') sl own D := fun F V0 σ H hs hl D' _ _ _ _ => hs.x (.ref C) none σ sl H own hs.c hl h
def tTryAs (K : PySem.W.Frag) (c : Value) (i : Nat) (ts : Addr → Value → Option Addr → TS) (Wout : WX) (tb : WX → TS) : TS := fun D σ H => tb (wAs K c i ts Wout D) D σ H
def tTryO (K : PySem.W.Frag) (c : Value) (ts : Addr → Value → Option Addr → TS) (Wout : WX) (tb : WX → TS) : TS := fun D σ H => tb (wOnly K c ts Wout D) D σ H
section
variable {X : Cx} {x n : Str} {c : Value} {i : Nat} {body suite : List Stmt} {b₀ : Stmt} {np pos pos' : Pos} {tb : WX → TS} {ts : Addr → Value → Option Addr → TS} {Wout : WX}
theorem k_try_as {K : PySem.W.Frag} (hK : X.K = K) (hs : X.stack = X.env :: X.outer) (hf : X.env.frame = some X.env.locals) (hN : X.N.Nodup) (hi : X.N[i]? = some n) (hln : X.env.kindOf n = some .local) (hc : Names X x c) (tk : Takes X Wout)
    (hb : ∀ (W : WX) (pn : List (Addr × Obj)) (xe : Value → Shared → Prop), Takes (X.tr pn xe) W → PassesOwn (model X.prog X.w) X.A X.env xe → PSs (X.tr pn xe) body (tb W))
    (hsu : ∀ (a : Addr) (oe : Obj) (cls : Value) (d : Option Addr) (pn : List (Addr × Obj)), Zc cls d oe → (∃ vs, oe.data = .fields vs) → PSs (X.suite a ((a, oe) :: pn)) (b₀ :: suite) (ts a cls d)) :
    PS X (.Try body [.ExceptHandler (some (.Name x np)) (some n) (b₀ :: suite) pos'] [] [] pos) (tTryAs K c i ts Wout tb) := hK ▸ ps_try_as hs hf hN hi hln hc tk hb hsu
theorem k_try_only {K : PySem.W.Frag} (hK : X.K = K) (hs : X.stack = X.env :: X.outer) (hf : X.env.frame = some X.env.locals) (hc : Names X x c) (tk : Takes X Wout)
    (hb : ∀ (W : WX) (pn : List (Addr × Obj)) (xe : Value → Shared → Prop), Takes (X.tr pn xe) W → PassesOwn (model X.prog X.w) X.A X.env xe → PSs (X.tr pn xe) body (tb W))
    (hsu : ∀ (a : Addr) (oe : Obj) (cls : Value) (d : Option Addr) (pn : List (Addr × Obj)), Zc cls d oe → (∃ vs, oe.data = .fields vs) → PSs (X.suite a ((a, oe) :: pn)) (b₀ :: suite) (ts a cls d)) :
    PS X (.Try body [.ExceptHandler (some (.Name x np)) none (b₀ :: suite) pos'] [] [] pos) (tTryO K c ts Wout tb) := hK ▸ ps_try_only hs hf hc tk hb hsu
end
/-- try: .. except c as n: .. -/
theorem ss_try_as {c : Value} {i : Nat} {tb : WX → TS} {ts : Addr → Value → Option Addr → TS} (xh : Value → Option Addr → SL → Own → Prop) (h : ∀ w, SS ⟨K.K, w, xh⟩ (tb w) sl own ⟨nx, rt, bk, ct⟩)
    (hx : ∀ cls d s o, xh cls d s o → ∃ b, PySem.W.exmOne K.K cls c = some b ∧ (b = true → ∀ a, a ∉ o.map (·.1) → SS (KX.no K.K) (ts a cls d) (s.set i (some (.ptr a))) o ⟨fun s o => nx (s.set i none) o, rt, fun s o => bk (s.set i none) o, fun s o => ct (s.set i none) o⟩) ∧ (b = false → K.xp cls d s o)) :
    SS K (tTryAs K.K c i ts K.w tb) sl own ⟨nx, rt, bk, ct⟩ := fun F V0 σ H hs hl D' n1 r1 b1 c1 => by
  have xk : XOk ⟨K.K, wAs K.K c i ts K.w D', xh⟩ F (vis F own H) := fun cls d σ2 sl2 H2 o2 h2 l2 p => by
    obtain ⟨b, e, f, g⟩ := hx cls d sl2 o2 p
    refine ⟨b, e, fun hb a ha => ?_, fun hb => hs.x cls d σ2 sl2 H2 o2 (h2.from hs.mo) l2 (g hb)⟩
    refine f hb a (fresh_ownC h2 ha) F (vis F own H) (σ2.set i (some (.ref a))) H2 ⟨h2, no_ok⟩ (l2.set i (.ptr a)) _ (fun σ3 H3 sl3 o3 a3 _ l3 p3 => ?_) (fun v H3 d o3 a3 _ q3 p3 => ?_) (fun σ3 H3 sl3 o3 a3 _ l3 p3 => ?_) (fun σ3 H3 sl3 o3 a3 _ l3 p3 => ?_)
    · exact n1 _ H3 _ o3 ⟨a3.c.from hs.mo, hs.x⟩ a3.mo (l3.unset i none) p3
    · exact r1 v H3 d o3 ⟨a3.c.from hs.mo, hs.x⟩ a3.mo q3 p3
    · exact b1 _ H3 _ o3 ⟨a3.c.from hs.mo, hs.x⟩ a3.mo (l3.unset i none) p3
    · exact c1 _ H3 _ o3 ⟨a3.c.from hs.mo, hs.x⟩ a3.mo (l3.unset i none) p3
  refine h (wAs K.K c i ts K.w D') F (vis F own H) σ H ⟨hs.c.now, xk⟩ hl D' (fun σ3 H3 sl3 o3 a3 _ l3 p3 => ?_) (fun v H3 d o3 a3 _ q3 p3 => ?_) (fun σ3 H3 sl3 o3 a3 _ l3 p3 => ?_) (fun σ3 H3 sl3 o3 a3 _ l3 p3 => ?_)
  · exact n1 _ H3 _ o3 ⟨a3.c.from hs.mo, hs.x⟩ a3.mo l3 p3
  · exact r1 v H3 d o3 ⟨a3.c.from hs.mo, hs.x⟩ a3.mo q3 p3
  · exact b1 _ H3 _ o3 ⟨a3.c.from hs.mo, hs.x⟩ a3.mo l3 p3
  · exact c1 _ H3 _ o3 ⟨a3.c.from hs.mo, hs.x⟩ a3.mo l3 p3
/-- try: .. except c: .. -/
theorem ss_try_only {c : Value} {tb : WX → TS} {ts : Addr → Value → Option Addr → TS} (xh : Value → Option Addr → SL → Own → Prop) (h : ∀ w, SS ⟨K.K, w, xh⟩ (tb w) sl own ⟨nx, rt, bk, ct⟩)
    (hx : ∀ cls d s o, xh cls d s o → ∃ b, PySem.W.exmOne K.K cls c = some b ∧ (b = true → ∀ a, a ∉ o.map (·.1) → SS (KX.no K.K) (ts a cls d) s o ⟨nx, rt, bk, ct⟩) ∧ (b = false → K.xp cls d s o)) :
    SS K (tTryO K.K c ts K.w tb) sl own ⟨nx, rt, bk, ct⟩ := fun F V0 σ H hs hl D' n1 r1 b1 c1 => by
  have xk : XOk ⟨K.K, wOnly K.K c ts K.w D', xh⟩ F (vis F own H) := fun cls d σ2 sl2 H2 o2 h2 l2 p => by
    obtain ⟨b, e, f, g⟩ := hx cls d sl2 o2 p
    refine ⟨b, e, fun hb a ha => ?_, fun hb => hs.x cls d σ2 sl2 H2 o2 (h2.from hs.mo) l2 (g hb)⟩
    refine f hb a (fresh_ownC h2 ha) F (vis F own H) σ2 H2 ⟨h2, no_ok⟩ l2 _ (fun σ3 H3 sl3 o3 a3 _ l3 p3 => ?_) (fun v H3 d o3 a3 _ q3 p3 => ?_) (fun σ3 H3 sl3 o3 a3 _ l3 p3 => ?_) (fun σ3 H3 sl3 o3 a3 _ l3 p3 => ?_)
    · exact n1 _ H3 _ o3 ⟨a3.c.from hs.mo, hs.x⟩ a3.mo l3 p3
    · exact r1 v H3 d o3 ⟨a3.c.from hs.mo, hs.x⟩ a3.mo q3 p3
    · exact b1 _ H3 _ o3 ⟨a3.c.from hs.mo, hs.x⟩ a3.mo l3 p3
    · exact c1 _ H3 _ o3 ⟨a3.c.from hs.mo, hs.x⟩ a3.mo l3 p3
  refine h (wOnly K.K c ts K.w D') F (vis F own H) σ H ⟨hs.c.now, xk⟩ hl D' (fun σ3 H3 sl3 o3 a3 _ l3 p3 => ?_) (fun v H3 d o3 a3 _ q3 p3 => ?_) (fun σ3 H3 sl3 o3 a3 _ l3 p3 => ?_) (fun σ3 H3 sl3 o3 a3 _ l3 p3 => ?_)
  · exact n1 _ H3 _ o3 ⟨a3.c.from hs.mo, hs.x⟩ a3.mo l3 p3
  · exact r1 v H3 d o3 ⟨a3.c.from hs.mo, hs.x⟩ a3.mo q3 p3
  · exact b1 _ H3 _ o3 ⟨a3.c.from hs.mo, hs.x⟩ a3.mo l3 p3
  · exact c1 _ H3 _ o3 ⟨a3.c.from hs.mo, hs.x⟩ a3.mo l3 p3
/-- e.f, e the caught exception -/
theorem ex_xf {a C : Addr} {cls : Value} {d : Option Addr} {f : Str} (h : EX K te sl own fun v o => v = .ptr a ∧ cls = .ref C ∧ ∃ dd ns ds i e, d = some dd ∧ (dd, Cell.xd ns ds) ∈ o ∧ fidx ns f = some i ∧ ds[i]? = some e ∧ P e o) : EX K (tXf a cls d C f te) sl own P := fun F V0 σ H hs hl Q q => by
  refine h F V0 σ H hs hl _ fun v H1 d1 o1 hs1 e1 hd1 ⟨z, ec, dd, ns, ds, i, e, ed, hm, hf, he, p⟩ => ?_
  subst z ec ed
  cases hd1
  have c := hs1.cell _ hm
  cases c with
  | xd h1 n t =>
    obtain ⟨v, e2, e3⟩ := fidx_some hf n t he
    exact ⟨rfl, rfl, dd, _, v, rfl, h1, e2, q v H1 e o1 hs1 e1 e3 p⟩
end
/-! ### f-strings of texts and ints -/
/-- what an f-string of a message may show -/
def okF (v : V) : Prop := (∃ y : Str, v = .str y ∧ y.length ≤ 10000) ∨ ∃ i : Int, v = .int i ∧ i.natAbs.log2 < 1920 ∧ (Str.ofString (toString i)).length ≤ 10000
section
variable {ts : List TE} {acc z : Str} {σ : L2.St} {H : Hp} {Q : Str → Hp → Prop} {n j : Nat} {v : V}
theorem app_len (a b : Str) : (a ++ b).length = a.length + b.length := by
  rw [← codes_len, ← codes_len, ← codes_len]
  show (TL.tl _).length = _
  rw [TL.tl_append, List.length_append]
  rfl
theorem js_n (h : Q acc H) : tJs [] acc σ H Q := h
theorem js_c (ha : acc.length ≤ n) (h : ∀ a : Str, a.length ≤ n + z.length → tJs ts a σ H Q) (hz : n + z.length ≤ 1000000) : tJs (tC (.str z) :: ts) acc σ H Q :=
  ⟨z, rfl, by rw [app_len]; exact zle (by omega), h _ (by rw [app_len]; omega)⟩
theorem js_v (ha : acc.length ≤ n) (hv : σ[j]? = some (some v)) (ok : okF v) (h : ∀ a : Str, a.length ≤ n + 10000 → tJs ts a σ H Q) (hz : n + 10000 ≤ 1000000) : tJs (tFmt (tVar j) :: ts) acc σ H Q := by
  refine ⟨v, hv, ?_⟩
  rcases ok with ⟨y, rfl, hy⟩ | ⟨i, rfl, hi, hy⟩
  · exact .inl ⟨y, rfl, zle (by omega), y, rfl, by rw [app_len]; exact zle (by omega), h _ (by rw [app_len]; omega)⟩
  · exact .inr ⟨i, rfl, hi, _, rfl, by rw [app_len]; exact zle (by omega), h _ (by rw [app_len]; omega)⟩
end
/-- the stores self.f = p of such an __init__ -/
theorem ost1 {K : PySem.W.Frag} {C a : Addr} {f : Str} {to te : TE} {σ : L2.St} {H : Hp} {D : Ends} {y : V} (T : OexC K C) (hn : PySem.W.findIn K (.ref C) f = some none) (h1 : ∀ Q : VK, Q y H → te σ H Q) (h2 : ∀ Q : VK, Q (.ref a) H → to σ H Q) (ha : H a = some (exo a C none))
    (h : ∀ d, H d = none → d ≠ a → D.nx σ (upd (upd H d (exd d [(f, y)])) a (exo a C (some d)))) : tOst K f to te D σ H := h1 _ (h2 _ ⟨a, C, rfl, T, hn, .inl ⟨ha, h⟩⟩)
theorem ost2 {K : PySem.W.Frag} {C a d : Addr} {f : Str} {to te : TE} {σ : L2.St} {H : Hp} {D : Ends} {y : V} {fs : List (Str × V)} (T : OexC K C) (hn : PySem.W.findIn K (.ref C) f = some none) (h1 : ∀ (H : Hp) (Q : VK), Q y H → te σ H Q) (h2 : ∀ (H : Hp) (Q : VK), Q (.ref a) H → to σ H Q) (hda : d ≠ a) (hl : fs.length ≤ 900)
    (h : D.nx σ (upd (upd H d (exd d ((f, y) :: fs))) a (exo a C (some d)))) : tOst K f to te D σ (upd (upd H d (exd d fs)) a (exo a C (some d))) := by
  refine h1 _ _ (h2 _ _ ⟨a, C, rfl, T, hn, .inr ⟨d, fs, upd_same, by rw [upd_ne hda, upd_same], hl, ?_⟩⟩)
  have e : upd (upd (upd H d (exd d fs)) a (exo a C (some d))) d (exd d ((f, y) :: fs)) = upd (upd H d (exd d ((f, y) :: fs))) a (exo a C (some d)) := by
    funext b
    by_cases hb : b = d
    · subst hb; rw [upd_same, upd_ne hda, upd_same]
    · rw [upd_ne hb]
      by_cases hba : b = a
      · subst hba; rw [upd_same, upd_same]
      · rw [upd_ne hba, upd_ne hb, upd_ne hba, upd_ne hb]
  rw [e]; exact h
end Sy
/-! dicts: get, del -/
namespace Sy
open PySem L2
section
variable {K : KX} {F V0 H : Hp} {own l r : Own} {P : PD} {d e : Dat} {x : V} {sl : SL} {td ty tx : TE} {nx bk ct : SL → Own → Prop} {rt : Dat → Own → Prop}
/-- what is read at a key of a dict: d holds o at the key e -/
inductive GetD (own : Own) : Dat → Dat → Option Dat → Prop
  | k {d : Dat} {ks : List Key} {ds : List Dat} (h : DicD own d ks ds) (k : Key) : GetD own d (keyD k) (dget ks ds k)
  | t {d : Dat} {ks : List (List Key)} {ds : List Dat} (h : DicT own d ks ds) (k : List Key) : GetD own d (keyT k) (dget ks ds k)
def IsDic (own : Own) (d : Dat) : Prop := (∃ ks ds, DicD own d ks ds) ∨ ∃ ks ds, DicT own d ks ds
theorem IsDic.ok (h : IsDic own d) (hs : Hs K F V0 H own) (hd : Da K (vis F own H) x d) : ∃ a, x = .ref a ∧ IsD H a := by
  rcases h with ⟨ks, ds, h⟩ | ⟨ks, ds, h⟩
  · obtain ⟨a, kvs, rfl, ha, _⟩ := h.rd hs hd
    exact ⟨a, rfl, .inl ⟨kvs, ha⟩⟩
  · obtain ⟨a, kvs, rfl, ha, _⟩ := h.rd hs hd
    exact ⟨a, rfl, .inr ⟨kvs, .inl ha⟩⟩
theorem val_dget {κ : Type} [DecidableEq κ] {W : Hp} {kvs : List (κ × V)} {ks : List κ} {ds : List Dat} (hk : kvs.map (·.1) = ks) (l : DaL K W (kvs.map (·.2)) ds) (k : κ) : (valV kvs k = none ∧ dget ks ds k = none) ∨ ∃ v d, valV kvs k = some v ∧ dget ks ds k = some d ∧ Da K W v d := by
  rw [valV_kix, hk]
  unfold dget
  cases h : kix ks k with
  | none => exact .inl ⟨rfl, rfl⟩
  | some i =>
    have hi := (kix_lt h).1
    rw [← hk, List.length_map] at hi
    have hl := l.length
    rw [List.length_map] at hl
    have : ds[i]? = some (ds[i]'(by omega)) := by simp [show i < ds.length by omega]
    obtain ⟨v, e1, e2⟩ := l.get this
    exact .inr ⟨v, _, e1, this, e2⟩
theorem GetD.ok {o : Option Dat} {y : V} (h : GetD own d e o) (hs : Hs K F V0 H own) (hd : Da K (vis F own H) x d) (he : Da K (vis F own H) y e) : ∃ a ov, x = .ref a ∧ DGet H a y ov ∧ ((ov = none ∧ o = none) ∨ ∃ v d, ov = some v ∧ o = some d ∧ Da K (vis F own H) v d) := by
  cases h with
  | k h k =>
    obtain ⟨a, kvs, rfl, ha, hk, l⟩ := h.rd hs hd
    obtain rfl := keyD_v he
    refine ⟨a, _, rfl, .inl ⟨kvs, k, ha, rfl, rfl⟩, ?_⟩
    rcases val_dget hk l k with ⟨a, b⟩ | ⟨v, d, a, b, c⟩
    · exact .inl ⟨a, b⟩
    · exact .inr ⟨v, d, a, b, c⟩
  | t h k =>
    obtain ⟨a, kvs, rfl, ha, hk, l⟩ := h.rd hs hd
    obtain ⟨b, rfl, hb⟩ := keyT_v he
    refine ⟨a, _, rfl, .inr ⟨kvs, k, b, .inl ha, rfl, vis_sub _ _ hb, rfl⟩, ?_⟩
    rcases val_dget hk l k with ⟨a, b⟩ | ⟨v, d, a, b, c⟩
    · exact .inl ⟨a, b⟩
    · exact .inr ⟨v, d, a, b, c⟩
def oDat (z : Dat) : Option Dat → Dat
  | some d => d
  | none => z
/-- d.get(k) -/
theorem ex_get1 (h : EX K td sl own fun d o => IsDic o d ∧ EX K ty sl o fun k o2 => ∃ ov, GetD o2 d k ov ∧ P (oDat .non ov) o2) : EX K (tDGet1 td ty) sl own P := fun F V0 σ H hs hl Q q => by
  refine h F V0 σ H hs hl _ fun v H1 d o1 hs1 e1 hd1 ⟨hi, p1⟩ => ?_
  obtain ⟨a, rfl, ha⟩ := hi.ok hs1 hd1
  refine ⟨a, rfl, ha, p1 F V0 σ H1 hs1 (hl.mono e1) _ fun y H2 k o2 hs2 e2 hd2 ⟨ov, g, p2⟩ => ?_⟩
  obtain ⟨a2, u, e3, dg, c⟩ := g.ok hs2 (hd1.mono e2) hd2
  cases e3
  refine ⟨u, dg, ?_⟩
  rcases c with ⟨rfl, rfl⟩ | ⟨w, z, rfl, rfl, hz⟩
  · exact q _ H2 _ o2 hs2 (e1.trans e2) .non p2
  · exact q _ H2 _ o2 hs2 (e1.trans e2) hz p2
/-- d.get(k, z) -/
theorem ex_get2 (h : EX K td sl own fun d o => IsDic o d ∧ EX K ty sl o fun k o2 => EX K tx sl o2 fun z o3 => ∃ ov, GetD o3 d k ov ∧ P (oDat z ov) o3) : EX K (tDGet2 td ty tx) sl own P := fun F V0 σ H hs hl Q q => by
  refine h F V0 σ H hs hl _ fun v H1 d o1 hs1 e1 hd1 ⟨hi, p1⟩ => ?_
  obtain ⟨a, rfl, ha⟩ := hi.ok hs1 hd1
  refine ⟨a, rfl, ha, p1 F V0 σ H1 hs1 (hl.mono e1) _ fun y H2 k o2 hs2 e2 hd2 p2 => ?_⟩
  refine p2 F V0 σ H2 hs2 (hl.mono (e1.trans e2)) _ fun zv H3 z o3 hs3 e3 hd3 ⟨ov, g, p3⟩ => ?_
  obtain ⟨a2, u, e4, dg, c⟩ := g.ok hs3 (hd1.mono (e2.trans e3)) (hd2.mono e3)
  cases e4
  refine ⟨u, dg, ?_⟩
  rcases c with ⟨rfl, rfl⟩ | ⟨w, z, rfl, rfl, hz⟩
  · exact q _ H3 _ o3 hs3 ((e1.trans e2).trans e3) hd3 p3
  · exact q _ H3 _ o3 hs3 ((e1.trans e2).trans e3) hz p3
/-- a dict without a key -/
def kdrop {κ : Type} [DecidableEq κ] (ks : List κ) (k : κ) : List κ := ks.filter fun j => decide (j ≠ k)
def vdrop {κ β : Type} [DecidableEq κ] (ks : List κ) (k : κ) (vs : List β) : List β := ((ks.zip vs).filter fun p => decide (p.1 ≠ k)).map (·.2)
theorem dropK_ok {κ : Type} [DecidableEq κ] {W : Hp} {k : κ} : ∀ {kvs : List (κ × V)} {ds : List Dat}, DaL K W (kvs.map (·.2)) ds → (dropK kvs k).map (·.1) = kdrop (kvs.map (·.1)) k ∧ DaL K W ((dropK kvs k).map (·.2)) (vdrop (kvs.map (·.1)) k ds)
  | [], _, h => by
    rw [List.map_nil] at h
    cases h
    exact ⟨rfl, .nil⟩
  | p :: kvs, _, h => by
    rw [List.map_cons] at h
    cases h with
    | cons h1 h2 =>
      obtain ⟨i1, i2⟩ := dropK_ok (k := k) h2
      unfold dropK kdrop vdrop at *
      simp only [List.filter_cons, List.map_cons, List.zip_cons_cons]
      by_cases e : p.1 = k
      · rw [if_neg (by simp [e]), if_neg (by simp [e]), if_neg (by simp [e])]
        exact ⟨i1, i2⟩
      · rw [if_pos (by simp [e]), if_pos (by simp [e]), if_pos (by simp [e])]
        refine ⟨?_, ?_⟩
        · rw [List.map_cons, i1]
        · rw [List.map_cons, List.map_cons]; exact .cons h1 i2
/-- del d[k] -/
theorem ss_ddel (h : EX K td sl own fun d o => EX K ty sl o fun e o2 => ∃ a l r ks ds k, d = .ptr a ∧ e = keyD k ∧ o2 = l ++ (a, .dK ks ds) :: r ∧ k ∈ ks ∧ nx sl (l ++ (a, .dK (kdrop ks k) (vdrop ks k ds)) :: r)) : SS K (sDDel td ty) sl own ⟨nx, rt, bk, ct⟩ := fun F V0 σ H hs hl D' n1 r1 b1 c1 => by
  refine h F V0 σ H hs hl _ fun v H1 d o1 hs1 e1 hd1 p1 => ?_
  refine p1 F V0 σ H1 hs1 (hl.mono e1) _ fun y H2 e o2 hs2 e2 hd2 ⟨a, l, r, ks, ds, k, z1, z2, z3, hk, p⟩ => ?_
  subst z1 z2 z3
  cases hd1
  obtain rfl := keyD_v hd2
  have c := hs2.cell _ (List.mem_append_right l List.mem_cons_self)
  cases c with
  | dK h1 n u t =>
    rename_i kws
    obtain ⟨q1, q2⟩ := dropK_ok (k := k) t
    rw [n] at q1 q2
    refine ⟨a, kws, k, rfl, h1, rfl, ?_, ?_⟩
    · rw [valV_isSome, n]
      cases e : kix ks k with
      | none => exact absurd hk (kix_none e)
      | some _ => rfl
    · have e3 : Same (vis F (l ++ (a, Cell.dK ks ds) :: r) H2) (vis F (l ++ (a, .dK (kdrop ks k) (vdrop ks k ds)) :: r) (upd H2 a (.dK (dropK kws k)))) := by
        rw [vis_put (c := .dK ks ds)]; exact Same.refl _
      refine n1 σ _ sl _ (hs2.put (.dK upd_same q1 ?_ q2)) ((e1.trans e2).trans e3) (hl.mono ((e1.trans e2).trans e3)) p
      exact u.sublist List.filter_sublist
end
theorem dget_drop {κ β : Type} [DecidableEq κ] {k j : κ} : ∀ {ks : List κ} {vs : List β}, vs.length = ks.length → dget (kdrop ks k) (vdrop ks k vs) j = if j = k then none else dget ks vs j
  | [], [], _ => by unfold dget kdrop; simp [kix]
  | [], _ :: _, h => by simp at h
  | _ :: _, [], h => by simp at h
  | n :: ks, v :: vs, h => by
    have ih := dget_drop (k := k) (j := j) (ks := ks) (vs := vs) (by simpa using h)
    unfold dget kdrop vdrop at *
    rw [List.filter_cons, List.zip_cons_cons, List.filter_cons]
    by_cases e : n = k
    · rw [if_neg (by simp [e]), if_neg (by simp [e]), ih]
      by_cases ej : j = k
      · rw [if_pos ej, if_pos ej]
      · rw [if_neg ej, if_neg ej]
        have : kix (n :: ks) j = (kix ks j).map (· + 1) := by
          show (if n = j then _ else _) = _
          rw [if_neg fun z => ej (z.symm.trans e)]
        rw [this]
        cases kix ks j <;> simp
    · rw [if_pos (by simp [e]), if_pos (by simp [e]), List.map_cons]
      unfold kix
      by_cases ej : n = j
      · rw [if_pos ej, if_pos ej, if_neg fun z => e (ej.trans z)]
        rfl
      · rw [if_neg ej, if_neg ej]
        have e1 : ∀ (o : Option Nat) (x : β) (xs : List β), ((o.map (· + 1)).bind fun i => (x :: xs)[i]?) = o.bind fun i => xs[i]? := fun o x xs => by cases o <;> simp
        rw [e1, e1]
        exact ih
end Sy
namespace Sy
open PySem L2
/-- what the written part says of an exception's __init__ that begins with super().__init__ -/
def SupL (P : Program) (K : PySem.W.Frag) (mg : Str → Option Value) (name qual : Str) (st : Stmt) (f D : Addr) (fd : FuncData) : Prop :=
  ∃ (oc : Value) (od : Option Addr) (kV doc pm : Value) (an : Option Addr) (cda : Addr) (ct : Value) (osl : Array (Option Value)) (cc : Addr) (cl : Value) (cld : Option Addr) (csl : Array (Option Value)) (ccl : Value) (cdd : Option Addr) (cvs : Array Value) (ccs : Array (Option Value)) (file : Str) (tf : Tok),
    fd = PySem.W.ksFn name qual (defArgs st) (defBody st) (defScope st) .none kV doc pm an (.ref cda) ct cc ∧ K.lookup f = some ⟨oc, od, .func fd, osl⟩ ∧ PySem.W.codeIn K (.ref cda) qual = true ∧ K.lookup cda = some ⟨ccl, cdd, .fields cvs, ccs⟩ ∧ cvs[2]? = some (.str file tf) ∧
    ((P.main.file : Str) == file) = true ∧ K.lookup cc = some ⟨cl, cld, .cell (some (.ref D)), csl⟩ ∧ PySem.W.mroIn K D (.ref D) = some true ∧ mg "super" = none ∧ (P.main.scope.names.lookup ("super" : Str)).isSome = false ∧
    PySem.W.nsIn K cStatics "thirdparty.any" = some none ∧ PySem.W.ks_superIn K D D "__init__" = some (some (.builtin "ValueError.__init__")) ∧ PySem.W.subIn K (.ref D) (.type "ValueError") = some true
end Sy
namespace Sy
open PySem L2
section
variable {κ κ' β : Type} [DecidableEq κ] [DecidableEq κ'] {f : κ → κ'} {g : β → Dat} {k : κ}
theorem kdrop_map (hf : ∀ a b, f a = f b → a = b) {ks : List κ} : kdrop (ks.map f) (f k) = (kdrop ks k).map f := by
  unfold kdrop
  rw [List.filter_map]
  congr 1
  refine List.filter_congr fun x _ => ?_
  have : f x ≠ f k ↔ x ≠ k := ⟨fun h z => h (by rw [z]), fun h z => h (hf _ _ z)⟩
  exact decide_eq_decide.mpr this
theorem vdrop_map (hf : ∀ a b, f a = f b → a = b) : ∀ {ks : List κ} {vs : List β}, vdrop (ks.map f) (f k) (vs.map g) = (vdrop ks k vs).map g
  | [], _ => rfl
  | _ :: _, [] => rfl
  | n :: ks, v :: vs => by
    have ih := vdrop_map hf (ks := ks) (vs := vs)
    unfold vdrop at *
    simp only [List.map_cons, List.zip_cons_cons, List.filter_cons]
    by_cases e : n = k
    · rw [if_neg (by simp [e]), if_neg (by simp [e])]; exact ih
    · rw [if_pos (by simp; exact fun z => e (hf _ _ z)), if_pos (by simp [e]), List.map_cons, List.map_cons, List.map_cons, ih]
theorem vdrop_len : ∀ {ks : List κ} {vs : List β}, vs.length = ks.length → (vdrop ks k vs).length = (kdrop ks k).length
  | [], [], _ => rfl
  | [], _ :: _, h => by simp at h
  | _ :: _, [], h => by simp at h
  | n :: ks, v :: vs, h => by
    have ih := vdrop_len (ks := ks) (vs := vs) (by simpa using h)
    unfold vdrop kdrop at *
    simp only [List.zip_cons_cons, List.filter_cons]
    by_cases e : n = k
    · rw [if_neg (by simp [e]), if_neg (by simp [e])]; exact ih
    · rw [if_pos (by simp [e]), if_pos (by simp [e]), List.map_cons, List.length_cons, List.length_cons, ih]
theorem kdrop_len {ks : List κ} : (kdrop ks k).length ≤ ks.length := List.length_filter_le _ _
theorem kix_mem {ks : List κ} (h : (kix ks k).isSome = true) : k ∈ ks := by
  cases e : kix ks k with
  | none => rw [e] at h; cases h
  | some i => exact List.mem_of_getElem? (kix_lt e).2
theorem dget_mapK (hf : ∀ a b, f a = f b → a = b) {ks : List κ} {vs : List β} : dget (ks.map f) (vs.map g) (f k) = (dget ks vs k).map g := by
  unfold dget
  rw [kix_map hf]
  cases kix ks k <;> simp
end
theorem tru_seq {own : Own} {d : Dat} {ds : List Dat} (h : LstD own d ds) : TruD own d (!ds.isEmpty) := by
  rcases h with (rfl | ⟨a, rfl, hm⟩) | rfl
  · exact rfl
  · exact .inl ⟨ds, hm, rfl⟩
  · exact rfl
end Sy
namespace Law
open PySem L2 Sy
def top (i : Nat) : Stmt := PySem.Challenge.pw_copperline_k16_histories_that_say_the_sa.main.body.getD i (.Pass ⟨0, 0, 0, 0⟩)
abbrev s__law_state : Stmt := top 6
abbrev s__law_draw : Stmt := top 7
abbrev s__law_history : Stmt := top 8
abbrev s_Contracts_init : Stmt := inClass (top 4) 0
abbrev s_Contracts_set_history : Stmt := inClass (top 4) 1
abbrev s_Contracts_in_force : Stmt := inClass (top 4) 2
abbrev s__law_due : Stmt := top 9
abbrev s__law_tells : Stmt := top 10
abbrev s__law_more : Stmt := top 12
abbrev s__law_refused : Stmt := top 11
abbrev s_law : Stmt := top 13
abbrev N__law_state : List Str := ["script", "k", "salt", "cell"]
theorem sc__law_state : FnScope N__law_state ["script", "k", "salt"] (defScope s__law_state) := ⟨rfl, rfl, rfl, by decide +kernel, rfl, by decide +kernel, by decide +kernel⟩
abbrev N__law_draw : List Str := ["state", "many", "digit", "one", "two"]
theorem sc__law_draw : FnScope N__law_draw ["state", "many"] (defScope s__law_draw) := ⟨rfl, rfl, rfl, by decide +kernel, rfl, by decide +kernel, by decide +kernel⟩
abbrev N__law_history : List Str := ["state", "rows", "since", "k"]
theorem sc__law_history : FnScope N__law_history ["state"] (defScope s__law_history) := ⟨rfl, rfl, rfl, by decide +kernel, rfl, by decide +kernel, by decide +kernel⟩
abbrev N_Contracts_init : List Str := ["self"]
theorem sc_Contracts_init : FnScope N_Contracts_init ["self"] (defScope s_Contracts_init) := ⟨rfl, rfl, rfl, by decide +kernel, rfl, by decide +kernel, by decide +kernel⟩
abbrev N_Contracts_set_history : List Str := ["self", "line", "rows", "place"]
theorem sc_Contracts_set_history : FnScope N_Contracts_set_history ["self", "line", "rows"] (defScope s_Contracts_set_history) := ⟨rfl, rfl, rfl, by decide +kernel, rfl, by decide +kernel, by decide +kernel⟩
abbrev N_Contracts_in_force : List Str := ["self", "line", "clock", "found", "since", "account", "name"]
theorem sc_Contracts_in_force : FnScope N_Contracts_in_force ["self", "line", "clock"] (defScope s_Contracts_in_force) := ⟨rfl, rfl, rfl, by decide +kernel, rfl, by decide +kernel, by decide +kernel⟩
abbrev N__law_due : List Str := ["rows", "clock", "due", "since", "account", "name"]
theorem sc__law_due : FnScope N__law_due ["rows", "clock"] (defScope s__law_due) := ⟨rfl, rfl, rfl, by decide +kernel, rfl, by decide +kernel, by decide +kernel⟩
abbrev N__law_tells : List Str := ["contracts", "line", "rows", "times", "clock"]
theorem sc__law_tells : FnScope N__law_tells ["contracts", "line", "rows", "times"] (defScope s__law_tells) := ⟨rfl, rfl, rfl, by decide +kernel, rfl, by decide +kernel, by decide +kernel⟩
abbrev N__law_more : List Str := ["rows", "state", "at", "since", "ahead", "row"]
theorem sc__law_more : FnScope N__law_more ["rows", "state"] (defScope s__law_more) := ⟨rfl, rfl, rfl, by decide +kernel, rfl, by decide +kernel, by decide +kernel⟩
abbrev N__law_refused : List Str := ["contracts", "line", "rows", "e"]
theorem sc__law_refused : FnScope N__law_refused ["contracts", "line", "rows"] (defScope s__law_refused) := ⟨rfl, rfl, rfl, by decide +kernel, rfl, by decide +kernel, by decide +kernel⟩
abbrev N_law : List Str := ["script", "k", "state", "rows", "other", "times", "row", "contracts", "given", "clock"]
theorem sc_law : FnScope N_law ["script"] (defScope s_law) := ⟨rfl, rfl, rfl, by decide +kernel, rfl, by decide +kernel, by decide +kernel⟩
/-- where the defs and classes of the program stand -/
structure Ad where
  a__law_state : Addr
  d__law_state : FuncData
  a__law_draw : Addr
  d__law_draw : FuncData
  a__law_history : Addr
  d__law_history : FuncData
  a_Contracts_init : Addr
  d_Contracts_init : FuncData
  a_Contracts_set_history : Addr
  d_Contracts_set_history : FuncData
  a_Contracts_in_force : Addr
  d_Contracts_in_force : FuncData
  a__law_due : Addr
  d__law_due : FuncData
  a__law_tells : Addr
  d__law_tells : FuncData
  a__law_more : Addr
  d__law_more : FuncData
  a__law_refused : Addr
  d__law_refused : FuncData
  a_law : Addr
  d_law : FuncData
  c_Contracts : Addr
  c_BadHistory : Addr
  a_BadHistory_init : Addr
  d_BadHistory_init : FuncData
abbrev s_BadHistory_init : Stmt := inClass (top 2) 0
abbrev N_BadHistory_init : List Str := ["self", "line"]
theorem sc_BadHistory_init : SupScope N_BadHistory_init N_BadHistory_init (defScope s_BadHistory_init) := ⟨rfl, rfl, rfl, by decide +kernel, rfl, by decide +kernel, by decide +kernel, by decide +kernel, rfl, rfl⟩
structure Tx (P : Program) (K : PySem.W.Frag) (mg : Str → Option Value) (ad : Ad) : Prop where
  m_BadHistory : mg "BadHistory" = some (.ref ad.c_BadHistory)
  k_BadHistory : PySem.W.keepIn K (.ref ad.c_BadHistory) = true
  bE_BadHistory : PySem.W.subIn K (.ref ad.c_BadHistory) (.type "BaseException") = some true
  tE_BadHistory : PySem.W.typeIn K (.ref ad.c_BadHistory) = some (.type "type")
  O_BadHistory : OexC K ad.c_BadHistory
  X_BadHistory : XfC K ad.c_BadHistory
  iI_BadHistory : PySem.W.findIn K (.ref ad.c_BadHistory) "__init__" = some (some (.ref ad.a_BadHistory_init))
  tI_BadHistory : PySem.W.typeIn K (.ref ad.a_BadHistory_init) = some (.type "function")
  BI_BadHistory : Binds K ad.d_BadHistory_init N_BadHistory_init []
  L_BadHistory : SupL P K mg "__init__" "BadHistory.__init__" s_BadHistory_init ad.a_BadHistory_init ad.c_BadHistory ad.d_BadHistory_init
  nf_BadHistory_line : PySem.W.findIn K (.ref ad.c_BadHistory) "line" = some none
  ex_BadHistory_BadHistory : PySem.W.exmOne K (.ref ad.c_BadHistory) (.ref ad.c_BadHistory) = some true
  b_int : mg "int" = none
  b_len : mg "len" = none
  b_list : mg "list" = none
  b_max : mg "max" = none
  b_min : mg "min" = none
  b_range : mg "range" = none
  b_tuple : mg "tuple" = none
  m__law_state : mg "_law_state" = some (.ref ad.a__law_state)
  F__law_state : Fun K "_law_state" "_law_state" s__law_state ad.a__law_state ad.d__law_state
  B__law_state : Binds K ad.d__law_state ["script", "k", "salt"] []
  m__law_draw : mg "_law_draw" = some (.ref ad.a__law_draw)
  F__law_draw : Fun K "_law_draw" "_law_draw" s__law_draw ad.a__law_draw ad.d__law_draw
  B__law_draw : Binds K ad.d__law_draw ["state", "many"] []
  m__law_history : mg "_law_history" = some (.ref ad.a__law_history)
  F__law_history : Fun K "_law_history" "_law_history" s__law_history ad.a__law_history ad.d__law_history
  B__law_history : Binds K ad.d__law_history ["state"] []
  F_Contracts_init : Fun K "__init__" "Contracts.__init__" s_Contracts_init ad.a_Contracts_init ad.d_Contracts_init
  B_Contracts_init : Binds K ad.d_Contracts_init ["self"] []
  F_Contracts_set_history : Fun K "set_history" "Contracts.set_history" s_Contracts_set_history ad.a_Contracts_set_history ad.d_Contracts_set_history
  B_Contracts_set_history : Binds K ad.d_Contracts_set_history ["self", "line", "rows"] []
  M_Contracts_set_history : Meth K ad.c_Contracts "set_history" ad.a_Contracts_set_history
  F_Contracts_in_force : Fun K "in_force" "Contracts.in_force" s_Contracts_in_force ad.a_Contracts_in_force ad.d_Contracts_in_force
  B_Contracts_in_force : Binds K ad.d_Contracts_in_force ["self", "line", "clock"] []
  M_Contracts_in_force : Meth K ad.c_Contracts "in_force" ad.a_Contracts_in_force
  m__law_due : mg "_law_due" = some (.ref ad.a__law_due)
  F__law_due : Fun K "_law_due" "_law_due" s__law_due ad.a__law_due ad.d__law_due
  B__law_due : Binds K ad.d__law_due ["rows", "clock"] []
  m__law_tells : mg "_law_tells" = some (.ref ad.a__law_tells)
  F__law_tells : Fun K "_law_tells" "_law_tells" s__law_tells ad.a__law_tells ad.d__law_tells
  B__law_tells : Binds K ad.d__law_tells ["contracts", "line", "rows", "times"] []
  m__law_more : mg "_law_more" = some (.ref ad.a__law_more)
  F__law_more : Fun K "_law_more" "_law_more" s__law_more ad.a__law_more ad.d__law_more
  B__law_more : Binds K ad.d__law_more ["rows", "state"] []
  m__law_refused : mg "_law_refused" = some (.ref ad.a__law_refused)
  F__law_refused : Fun K "_law_refused" "_law_refused" s__law_refused ad.a__law_refused ad.d__law_refused
  B__law_refused : Binds K ad.d__law_refused ["contracts", "line", "rows"] []
  m_law : mg "law" = some (.ref ad.a_law)
  F_law : Fun K "law" "law" s_law ad.a_law ad.d_law
  B_law : Binds K ad.d_law ["script"] []
  m_Contracts : mg "Contracts" = some (.ref ad.c_Contracts)
  cl_Contracts : Cls K ad.c_Contracts
  K_Contracts : Mk K ad.c_Contracts ad.a_Contracts_init
  n_Contracts_histories : NoAttr K ad.c_Contracts "histories"
set_option hygiene false
local macro_rules | `(tactic| walk_at "o") => `(tactic| first
  | (with_reducible assumption) | omega | (with_reducible rfl) | exact ble rfl | decide)
local macro_rules | `(tactic| walk_at "at") => `(tactic| first | with_reducible exact at0 | with_reducible exact at1 | with_reducible exact at2 | with_reducible exact at3 | with_reducible exact at4 | with_reducible exact at5 | with_reducible exact at6 | with_reducible exact at7 | with_reducible exact at8 | with_reducible exact at9)
local macro_rules | `(tactic| walk_at "tk") => `(tactic| first
  | exact .inl rfl
  | exact .inr ⟨_, rfl, List.mem_cons_self⟩ | exact .inr ⟨_, rfl, List.mem_cons_of_mem _ List.mem_cons_self⟩ | exact .inr ⟨_, rfl, List.mem_cons_of_mem _ (List.mem_cons_of_mem _ List.mem_cons_self)⟩)
local macro_rules | `(tactic| walk_at "ls") => `(tactic| first | exact .inl (by walk_at "tk") | exact .inr rfl)
local macro_rules | `(tactic| walk_at "sq") => `(tactic| first | exact .inl (by walk_at "ls") | exact .inr rfl)
local macro_rules | `(tactic| walk_at "1") => `(tactic| first
  | with_reducible refine ss_set ?_
  | ((with_reducible apply ex_var); (· exact rfl))
  | with_reducible refine ex_int ?_
  | with_reducible refine ex_str ?_
  | with_reducible refine ex_bl ?_
  | with_reducible refine ex_non ?_
  | with_reducible refine ex_op ?_
  | with_reducible refine ex_un ?_
  | with_reducible refine ax_nil ?_
  | with_reducible refine ax_cons ?_
  | with_reducible refine ss_fld2 ?_
  | with_reducible refine ss_if ?_
  | with_reducible refine ss_ret ?_
  | with_reducible refine ss_retN ?_
  | with_reducible refine ss_drop ?_
  | with_reducible refine ss_next ?_
  | with_reducible refine ss_asg ?_
  | with_reducible refine tx_test ?_
  | with_reducible refine tx_tru ?_
  | with_reducible refine tx_and ?_
  | with_reducible refine tx_or ?_
  | with_reducible refine tx_not ?_
  | with_reducible refine tx_yes ?_
  | with_reducible refine ⟨_, rfl, ?_⟩
  | with_reducible refine ex_if ?_
  | with_reducible refine ex_chain ?_
  | with_reducible refine ex_tup ?_
  | with_reducible refine ex_sl ?_
  | with_reducible refine ox_none ?_
  | with_reducible refine ox_some ?_
  | with_reducible refine ex_cb ?_
  | with_reducible refine ex_m1 ?_
  | with_reducible refine ex_call0 ?_
  | with_reducible refine ss_raiseI ?_
  | with_reducible refine ex_callX ?_
  | ((with_reducible refine ex_methX ?_))
  | with_reducible refine ex_notT ?_
  | with_reducible refine ex_andT ?_
  | with_reducible refine ex_orT ?_
  | with_reducible refine tru_bl ?_
  | with_reducible refine tru_non ?_
  | with_reducible refine ex_fld ?_
  | walk_at "fg"
  | ((with_reducible apply mtE); (· walk_at "od"); (· decide +kernel))
  | ((with_reducible show FldW _ _ _ _ _ _); walk_at "fs")
  | with_reducible refine starts_str ?_
  | with_reducible refine neg_int ?_
  | with_reducible refine tru_own0 ?_
  | with_reducible refine ex_meth0 ?_
  | with_reducible refine add_int ?_
  | with_reducible refine sub_int ?_
  | ((with_reducible refine mul_int ?_ ?_); (· walk_at "o"))
  | ((with_reducible refine div_int ?_ ?_); (· first | walk_at "o" | exact ⟨by decide, by decide +kernel⟩))
  | ((with_reducible refine mod_int ?_ ?_); (· walk_at "o"))
  | ((with_reducible apply pow_int); (· exact ⟨by decide, by decide, by decide⟩))
  | with_reducible refine eq_int ?_
  | with_reducible refine ne_int ?_
  | with_reducible refine eq_str ?_
  | with_reducible refine ne_str ?_
  | with_reducible refine lt_int ?_
  | with_reducible refine le_int ?_
  | with_reducible refine gt_int ?_
  | with_reducible refine ge_int ?_
  | with_reducible refine isn_non ?_
  | with_reducible refine isn_bl ?_
  | with_reducible refine isn_int ?_
  | with_reducible refine isn_str ?_
  | with_reducible refine isn_tup ?_
  | with_reducible refine isn_lst ?_
  | with_reducible refine isn_obj ?_
  | with_reducible refine isn_ptr ?_
  | with_reducible refine ntn_non ?_
  | with_reducible refine ntn_bl ?_
  | with_reducible refine ntn_int ?_
  | with_reducible refine ntn_str ?_
  | with_reducible refine ntn_tup ?_
  | with_reducible refine ntn_lst ?_
  | with_reducible refine ntn_obj ?_
  | with_reducible refine ntn_ptr ?_
  | with_reducible refine int_int ?_
  | with_reducible refine int_bl ?_
  | with_reducible refine max_two ?_
  | with_reducible refine min_two ?_
  | with_reducible refine gx_name trivial ?_
  | ((with_reducible refine gx_name ?_ ?_); (· decide))
  | ((with_reducible apply gx_tup); (· exact rfl))
  | with_reducible refine gsx_cons ?_
  | with_reducible refine gsx_nil ?_
  | with_reducible refine gx_sub ?_
  | with_reducible refine ix_rng1 ?_
  | with_reducible refine ix_rng2 ?_
  | with_reducible refine ix_seq' ?_
  | with_reducible refine iteT ?_
  | with_reducible refine iteF ?_
  | with_reducible refine iteNt ?_
  | ((with_reducible refine iteDf ?_ ?_); (· decide +kernel))
  | ((with_reducible refine iteDt ?_ ?_); (· decide +kernel))
  | with_reducible refine iteNf ?_
  | ((with_reducible refine iteNDf ?_ ?_); (· decide +kernel))
  | ((with_reducible refine iteNDt ?_ ?_); (· decide +kernel))
  | ((with_reducible refine ⟨?_, ?_⟩); (· exact ble rfl))
  | ((with_reducible apply ix_lst); (· walk_at "ls"); (· walk_at "at"))
  | ((with_reducible apply ix_tp); (· walk_at "at"))
  | ((with_reducible apply len_seq); (· walk_at "sq")))
local macro_rules | `(tactic| walk_at "e") => `(tactic| repeat walk_at "1")
local macro_rules | `(tactic| walk_at "st") => `(tactic| ((with_reducible refine ss_seq ?_); walk_at "e"))
local macro_rules | `(tactic| walk_at "go") => `(tactic| repeat (first | with_reducible refine ss_seq ?_ | walk_at "1"))
local macro_rules | `(tactic| walk_at "rg") => `(tactic| first | exact ⟨[], _, rfl⟩ | exact ⟨[_], _, rfl⟩ | exact ⟨[_, _], _, rfl⟩ | exact ⟨[_, _, _], _, rfl⟩ | assumption)
local macro_rules | `(tactic| walk_at "fx") => `(tactic| first | with_reducible exact fidx_hd | ((with_reducible apply fidx_tl); (· decide +kernel); (· walk_at "fx")))
local macro_rules | `(tactic| walk_at "mem") => `(tactic| first | with_reducible exact List.mem_cons_self | with_reducible exact List.mem_append_right _ List.mem_cons_self | ((with_reducible refine List.mem_cons_of_mem _ ?_); walk_at "mem") | assumption | ((with_reducible refine List.mem_append_right _ ?_); walk_at "mem") | ((with_reducible refine List.mem_append_left _ ?_); walk_at "mem"))
local macro_rules | `(tactic| walk_at "od") => `(tactic| first | with_reducible exact odO rfl | ((with_reducible apply odP); (· (with_reducible rfl)); (· walk_at "mem")))
local macro_rules | `(tactic| walk_at "cut") => `(tactic| first | (with_reducible rfl) | with_reducible exact (List.nil_append _).symm | exact show _ = [_] ++ _ from rfl | exact show _ = [_, _] ++ _ from rfl | exact show _ = [_, _, _] ++ _ from rfl)
local macro_rules | `(tactic| walk_at "fs") => `(tactic| first
  | ((with_reducible apply fsN); (· walk_at "cut"); (· walk_at "cl"); (· walk_at "na"); (· exact Nat.lt_of_lt_of_le (show _ < 999 from ble rfl) (by decide)); (· decide +kernel))
  | ((with_reducible apply fsS); (· walk_at "cut"); (· walk_at "cl"); (· walk_at "na"); (· exact Nat.lt_of_lt_of_le (show _ < 999 from ble rfl) (by decide)); (· walk_at "fx")))
local macro_rules | `(tactic| walk_at "fg") => `(tactic| ((with_reducible apply fgE); (· walk_at "od"); (· walk_at "cl"); (· walk_at "na"); (· walk_at "fx"); (· exact rfl)))
local macro_rules | `(tactic| walk_at "nz") => `(tactic| (try simp only [List.set_cons_succ, List.set_cons_zero, and_true]); try trivial)
local macro_rules | `(tactic| walk_at "sl") => `(tactic| simp only [List.set_cons_succ, List.set_cons_zero])

local macro_rules | `(tactic| walk_at "cl") => `(tactic| first | with_reducible exact T.cl_Contracts)
local macro_rules | `(tactic| walk_at "na") => `(tactic| first | with_reducible exact T.n_Contracts_histories)
def oD {α : Type} (f : α → Dat) : Option α → Dat
  | none => .non
  | some x => f x
structure Hr where
  since : Int
  acc : Option Str
  name : Str
abbrev hD (r : Hr) : Dat := .tup [.int r.since, oD .str r.acc, .str r.name]
abbrev Due := Option (Option Str × Str)
def stepD (clock : Int) (b : Due) (r : Hr) : Due := if r.since ≤ clock then some (r.acc, r.name) else b
def due (rows : List Hr) (clock : Int) : Due := rows.foldl (stepD clock) none
abbrev foundD : Due → Dat := oD fun p => .tup [oD .str p.1, .str p.2]
def dueD : Due → Dat
  | some (some a, n) => .tup [.str a, .str n]
  | _ => .non
def Up (rows : List Hr) : Prop := ∀ i a b, rows[i]? = some a → rows[i + 1]? = some b → a.since < b.since
def HrOk (r : Hr) : Prop := (∀ a, r.acc = some a → PyData.strOk a = true) ∧ PyData.strOk r.name = true
abbrev cC (ad : Ad) (h : Addr) : Cell := .ins ad.c_Contracts ["histories"] [.ptr h]
abbrev hC (ks : List Str) (vs : List (List Hr)) : Cell := .dK (ks.map Sum.inr) (vs.map fun rows => .tup (rows.map hD))
theorem inr_inj {a b : Str} (h : (Sum.inr a : Key) = Sum.inr b) : a = b := Sum.inr.inj h
def Hist (ks : List Str) (vs : List (List Hr)) (f : Str → Option (List Hr)) : Prop := vs.length = ks.length ∧ ks.length ≤ 1000 ∧ ∀ j, dget ks vs j = f j
theorem due_snoc {rows : List Hr} {r : Hr} {clock : Int} : due (rows ++ [r]) clock = stepD clock (due rows clock) r := by unfold due; rw [List.foldl_append]; rfl
section
variable {P : Program} {w : World} {K : PySem.W.Frag} {mg : Str → Option Value} {base : Heap} {ad : Ad}
theorem oki_BadHistory (T : Tx P K mg ad) : FnOk P w K mg base CX0 1 ad.a_BadHistory_init ad.d_BadHistory_init N_BadHistory_init (spI ad.c_BadHistory ["line"] fun ws => ∀ v ∈ ws, okF v) := by
  obtain ⟨oc, od, kV, doc, pm, an, cda, ct, osl, cc, cl, cld, csl, ccl, cdd, cvs, ccs, file, tf, hfd, lk, hcd, hcode, hvs, hfile, hc, hsub, hsuper, htop, hst, hm, hB⟩ := T.L_BadHistory
  rw [hfd] at lk ⊢
  refine fn_sup (k := 0) lk hcd sc_BadHistory_init rfl rfl hcode hvs hfile hc hsub hsuper htop hst hm hB T.O_BadHistory (fun vs H Q E ⟨a, ws, e, hl, _⟩ => by rw [e, List.length_cons, hl]; rfl) (fun _ => rfl) (fun _ => rfl) (fun _ => rfl) (fun _ => rfl) fun A outer s H vs Q E hr ⟨a, ws, e, hl, ok, ha, hq⟩ => ?_
  subst e
  match ws, hl, ok, hq with
  | [x1], _, ok, hq =>
    refine ⟨_, _, pe_joined (PJ.cons pe_str (PJ.cons (pe_fmt (pv 1)) (PJ.cons pe_str PJ.nil))), (pss_one (ps_ost (pv 0) (pv 1))), a, rfl, ha, ?_⟩
    have h0 : (Str.empty : Str).length ≤ 0 := by decide +kernel
    refine js_c h0 (fun acc1 h1 => ?_) (ble (by rfl))
    refine js_v h1 (v := x1) rfl (ok _ (by simp)) (fun acc2 h2 => ?_) (ble (by rfl))
    refine js_c h2 (fun acc3 h3 => ?_) (ble (by rfl))
    refine ⟨ha, ?_⟩
    exact ost1 (y := x1) T.O_BadHistory T.nf_BadHistory_line (fun Q q => ⟨x1, rfl, q⟩) (fun Q q => ⟨.ref a, rfl, q⟩) ha fun d hd hda => hq d hd hda
/-! ### _law_state -/
def con__law_state (_ : Ad) : Con := fun args own P _ => ∃ (ns : List Int) (k salt : Int), args = [.scr (ns.map Dat.int), .int k, .int salt] ∧ ns.length ≤ 63 ∧ (∀ z ∈ ns, z.natAbs < 2 ^ sB) ∧ 0 ≤ k ∧ k < 1000 ∧ 0 ≤ salt ∧ salt < 1000 ∧
  ∀ a, a ∉ own.map (·.1) → P (.ptr a) ((a, .rng) :: own)
theorem rng_of {a b : Int} {j : Nat} (ha : 0 ≤ a) (hb : 0 ≤ b) (h1 : Bd a j) (h2 : Bd b j) (h : j ≤ rB) : RngOk a b := ⟨ha, h1.mono h, hb, h2.mono h⟩
theorem ok__law_state (T : Tx P K mg ad) : FnOk P w K mg base CX0 1 ad.a__law_state ad.d__law_state ["script", "k", "salt"] (SpG K (con__law_state ad)) := by
  refine okS T.F__law_state sc__law_state (by rintro args own P XP ⟨_, _, _, rfl, _⟩; rfl) fun cdv A outer s H E hr => ?_
  have hu1 := hu_of hr
  have hu64 := hr.units
  have hu65 : (A.deeper (PyProof.Rows.envOfC "_law_state" (defScope s__law_state) s.heap.objs.size ad.a__law_state cdv)).units + 65 < cLine := by have := hr.un; omega
  refine ⟨_, (pss_cons (ps_set (i := 3) sc__law_state.nd rfl (by first | exact Or.inl rfl | exact Or.inr rfl) pe_int)
      (pss_cons (ps_if (pt_cmpR op_gt (pe_callB (k_len (K := K) rfl) (by rfl) T.b_len (by decide +kernel) (pa_cons (pv 0) pa_nil)) pe_int (nomark _)) (pss_one (ps_set (i := 3) sc__law_state.nd rfl (by first | exact Or.inl rfl | exact Or.inr rfl) (pe_callTy call_intU (by rfl) T.b_int (by decide +kernel) (pa_cons (pe_ix (k_ix (K := K) rfl hu1) (pv 0) (pe_op op_mod (pe_callTy call_intU (by rfl) T.b_int (by decide +kernel) (pa_cons (pv 1) pa_nil)) (pe_callB (k_len (K := K) rfl) (by rfl) T.b_len (by decide +kernel) (pa_cons (pv 0) pa_nil))) (fun _ _ => rfl)) pa_nil)))) pss_nil)
      (pss_cons (ps_if (pt_cmpR op_lt (pv 3) pe_int (nomark _)) (pss_one (ps_set (i := 3) sc__law_state.nd rfl (by first | exact Or.inl rfl | exact Or.inr rfl) (pe_op op_sub pe_int (pe_op op_mulU pe_int (pv 3))))) pss_nil)
      (pss_cons (ps_if (PW.pt (pw_and (pt_cmpR op_lt (pv 1) (pe_callB (k_len (K := K) rfl) (by rfl) T.b_len (by decide +kernel) (pa_cons (pv 0) pa_nil)) (nomark _)) (pw_and1 (pt_cmpR op_ge (pv 3) (pe_op op_pow pe_int pe_int) (nomark _))))) (pss_one (ps_ret (pe_lst (pa_cons (pv 3) (pa_cons (pe_op (k_add (K := K) rfl) (pv 2) pe_int) pa_nil))))) pss_nil)
      (pss_one (ps_ret (pe_lst (pa_cons pe_int (pa_cons (pe_op (k_add (K := K) rfl) (pe_op (k_add (K := K) rfl) (pe_op (k_add (K := K) rfl) (pe_op op_mulU (pv 3) pe_int) (pe_op op_mulU pe_int (pv 1))) (pe_op op_mulU pe_int (pv 2))) pe_int) pa_nil))))))))), ?_⟩
  try dsimp only [cxOf]
  rintro args own P XP ⟨ns, k, salt, rfl, hl, hb, k0, k1, s0, s1, hq⟩
  show SS _ _ [some _, some _, some _, none] _ _
  walk_at "st"
  refine ss_mid (fun s o => ∃ c : Int, s = [some (.scr (ns.map Dat.int)), some (.int k), some (.int salt), some (.int c)] ∧ o = own ∧ Bd c sB) ?_ ?_
  · walk_at "go"
    refine iteD (fun h => ?_) (fun h => ?_)
    · walk_at "go"
      obtain ⟨z, _, hz, hi⟩ := atI_ok (xs := ns.map Dat.int) (i := k % ((ns.map Dat.int).length : Int)) (Int.emod_nonneg _ (by omega)) (Int.emod_lt_of_pos _ (by omega))
      obtain ⟨c, hc, rfl⟩ := List.mem_map.mp hz
      refine ix_lst (.inr rfl) hi ?_
      walk_at "go"
      exact ⟨rfl, hb c hc⟩
    · walk_at "go"
      exact ⟨rfl, Nat.two_pow_pos _⟩
  rintro s o ⟨c, rfl, rfl, hc⟩
  refine ss_mid (fun s o' => ∃ c : Int, s = [some (.scr (ns.map Dat.int)), some (.int k), some (.int salt), some (.int c)] ∧ o' = o ∧ 0 ≤ c ∧ Bd c (sB + 2)) ?_ ?_
  · walk_at "go"
    refine iteD (fun h => ?_) (fun h => ?_)
    · have m1 : IntMulOk 2 c := Bd.ok (bd_lit (k := 2) (by decide)) hc (by decide)
      walk_at "go"
      have hd := Bd.add hc hc
      refine ⟨rfl, by omega, ?_⟩
      have := Bd.sub (a := 1) ((bd_lit (k := 1) (by decide)).mono (by decide)) hd
      rwa [show c + c = 2 * c by omega] at this
    · walk_at "go"
      exact ⟨rfl, by omega, hc.mono (by decide)⟩
  rintro s o ⟨c, rfl, rfl, c0, hc⟩
  refine ss_mid (fun s o' => s = [some (.scr (ns.map Dat.int)), some (.int k), some (.int salt), some (.int c)] ∧ o' = o) ?_ ?_
  · walk_at "go"
    refine iteD (fun h => ?_) (fun h => ?_)
    · walk_at "go"
      refine iteD (fun h => ?_) (fun h => ?_)
      · walk_at "go"
        refine ex_lstR (x := 0) (y := 0) ?_
        walk_at "go"
        exact ⟨_, _, rfl, rng_of (j := sB + 2) c0 (by omega) hc ((bd_lit (k := 64) (by omega)).mono (by decide)) (by decide), hq⟩
      · walk_at "go"
        exact ⟨rfl, rfl⟩
    · walk_at "go"
      exact ⟨rfl, rfl⟩
  rintro s o' ⟨rfl, rfl⟩
  have m1 : IntMulOk c 61 := Bd.ok hc (bd_lit (k := 6) (by decide)) (by decide)
  have m2 : IntMulOk 7919 k := Bd.ok (bd_lit (k := 64) (by decide)) (bd_lit (k := 64) (by omega)) (by decide)
  have m3 : IntMulOk 104729 salt := Bd.ok (bd_lit (k := 64) (by decide)) (bd_lit (k := 64) (by omega)) (by decide)
  walk_at "1"
  refine ex_lstR (x := 0) (y := 0) ?_
  walk_at "go"
  refine ⟨_, _, rfl, rng_of (j := sB + 10) (by decide) (by omega) ((bd_lit (k := 1) (by decide)).mono (by decide)) ?_ (by decide), hq⟩
  have h1 := (hc.mul (bd_lit (n := 61) (k := 6) (by decide))).mono (show sB + 2 + 6 ≤ sB + 9 by decide)
  have h2 : Bd (7919 * k + 104729 * salt + 1) (sB + 9) := (bd_lit (k := 64) (by omega)).mono (by decide)
  have := h1.add h2
  have e : c * 61 + 7919 * k + 104729 * salt + 1 = c * 61 + (7919 * k + 104729 * salt + 1) := by omega
  rw [e]; exact this
/-! ### _law_draw -/
def con__law_draw (_ : Ad) : Con := fun args own P _ => ∃ (s : Addr) (m : Int), args = [.ptr s, .int m] ∧ 1 ≤ m ∧ Bd m 64 ∧ ((Rg s own ∧ ∀ d, 0 ≤ d → d < m → P (.int d) own) ∨
  ∃ l r x y, own = l ++ (s, .lst [.int x, .int y]) :: r ∧ RngOk x y ∧ P (.int (drw x y m).1) (l ++ (s, .lst [.int (drw x y m).2.1, .int (drw x y m).2.2]) :: r))
theorem dr {ad : Ad} {own : Own} {P : PD} {XP : XD} {s : Addr} {m : Int} (h : Rg s own) (h1 : 1 ≤ m) (h2 : m < 18446744073709551616) (k : ∀ d, 0 ≤ d → d < m → P (.int d) own) : con__law_draw ad [.ptr s, .int m] own P XP :=
  ⟨s, m, rfl, h1, by unfold Bd; omega, .inl ⟨h, k⟩⟩
/-- "".join([str(_law_draw(state, m)) for .. in range(..)]) -/
theorem ex_digs {ad : Ad} {K : KX} {sl : SL} {own : Own} {P : PD} {ta : TA} {i j : Nat} {m : Int} {vs : List Nat} (hv : i ∈ vs) (h : AX K ta sl own fun ds o => ∃ (n : Int) (s : Addr), ds = [.int n] ∧ 0 ≤ n ∧ n ≤ 1000 ∧ Rg s o ∧ (∀ d, ((wipeS sl vs).set i d)[j]? = some (some (.ptr s))) ∧ 1 ≤ m ∧ m ≤ 10 ∧ ∀ z, Dgt m.toNat z → z.length = n.toNat → P (.str z) o) :
    EX K (tLc (iRng1 ta) (gName i) tYes (tCB rStrI (tCons (tCall (SpG K.K (con__law_draw ad)) [] E0 (tCons (tVar j) (tCons (tC (.int m)) tNil))) tNil)) vs) sl own (fun e o2 => RMX K (rJoin K) (.str (Str.ofString "")) [e] o2 P) := by
  refine ex_lc (ix_rng1 ?_)
  intro F V0 σ H hs hl Q q
  refine h F V0 σ H hs hl Q fun xs H' ds o a b c ⟨n, s, e, n0, n1, hr, hj, m0, m1, hq⟩ => q xs H' ds o a b c ?_
  refine ⟨n, e, by omega, by omega, fun i acc o' => o' = o ∧ ∃ ys : List Str, acc = ys.map Dat.str ∧ ys.length = i ∧ ∀ y ∈ ys, y.length = 1 ∧ Dgt m.toNat y, ⟨rfl, [], rfl, rfl, fun y h => (List.not_mem_nil h).elim⟩, fun _ _ _ _ => trivial, ?_, ?_⟩
  · rintro k x acc o' hx ⟨rfl, ys, rfl, hi, hy⟩
    obtain ⟨hlt, rfl⟩ := rng_at hx
    refine gx_name hv (tx_yes (iteT (ex_cb (ax_cons (ex_call0 (ax_cons (ex_var (hj _) (ax_cons (ex_int (ax_nil ?_))))))))))
    refine dr hr m0 (by omega) fun c c0 c1 => ax_nil (str_int (small_log c0 (by omega)) ?_)
    refine ⟨by rw [List.length_map]; show _ < 16777216; omega, rfl, ys ++ [Str.ofString (toString c)], by rw [List.map_append]; rfl, by rw [List.length_append, hi]; rfl, fun y h => ?_⟩
    rcases List.mem_append.mp h with h | h
    · exact hy y h
    · rw [List.mem_singleton] at h
      subst h
      exact str_digit c0 (by omega) (by omega)
  · rintro acc o' ⟨rfl, ys, rfl, hi, hy⟩
    rw [List.length_map, List.length_range] at hi
    have h1 := fun y h => (hy y h).1
    have h2 : (Str.ofString "").length = 0 := by decide +kernel
    refine join_lst (.inl (.inl (.inl rfl))) (by rw [sum_len h1, h2]; omega) (hq _ (Dgt.join fun y h => (hy y h).2) ?_)
    show (Txt.join Str.empty ys).length = _
    rw [join_len h1]
    exact hi
theorem ok__law_draw (T : Tx P K mg ad) : FnOk P w K mg base CX0 1 ad.a__law_draw ad.d__law_draw ["state", "many"] (SpG K (con__law_draw ad)) := by
  refine okS T.F__law_draw sc__law_draw (by rintro args own P XP ⟨_, _, rfl, _⟩; rfl) fun cdv A outer s H E hr => ?_
  have hu1 := hu_of hr
  have hu64 := hr.units
  have hu65 : (A.deeper (PyProof.Rows.envOfC "_law_draw" (defScope s__law_draw) s.heap.objs.size ad.a__law_draw cdv)).units + 65 < cLine := by have := hr.un; omega
  refine ⟨_, (pss_cons (ps_if (pt_cmpR op_lt (pe_ix (k_ix (K := K) rfl hu1) (pv 0) pe_int (fun _ _ => rfl)) (pv 1) (nomark _)) (pss_cons (ps_set (i := 3) sc__law_draw.nd rfl (by first | exact Or.inl rfl | exact Or.inr rfl) (pe_op op_mod (pe_callTy call_intU (by rfl) T.b_int (by decide +kernel) (pa_cons (pe_op (k_add (K := K) rfl) (pe_op (k_add (K := K) rfl) (pe_op op_mulU (pe_ix (k_ix (K := K) rfl hu1) (pv 0) pe_int (fun _ _ => rfl)) (pe_ix (k_ix (K := K) rfl hu1) (pv 0) pe_int (fun _ _ => rfl))) (pe_op op_mulU pe_int (pe_ix (k_ix (K := K) rfl hu1) (pv 0) pe_int (fun _ _ => rfl)))) pe_int) pa_nil)) pe_int))
      (pss_cons (ps_set (i := 4) sc__law_draw.nd rfl (by first | exact Or.inl rfl | exact Or.inr rfl) (pe_op op_mod (pe_callTy call_intU (by rfl) T.b_int (by decide +kernel) (pa_cons (pe_op (k_add (K := K) rfl) (pe_op (k_add (K := K) rfl) (pe_op op_mulU (pv 3) (pv 3)) (pe_op op_mulU pe_int (pv 3))) pe_int) pa_nil)) pe_int))
      (pss_cons (ps_asg (pv 4) (pg_sub (pv 0) pe_int (set_U hu1)))
      (pss_one (ps_asg (pe_op (k_add (K := K) rfl) (pv 1) (pe_op op_mod (pe_callTy call_intU (by rfl) T.b_int (by decide +kernel) (pa_cons (pe_op (k_add (K := K) rfl) (pe_op op_mulU (pv 4) (pv 4)) (pv 3)) pa_nil)) pe_int)) (pg_sub (pv 0) pe_int (set_U hu1))))))) pss_nil)
      (pss_cons (ps_set (i := 2) sc__law_draw.nd rfl (by first | exact Or.inl rfl | exact Or.inr rfl) (pe_op op_mod (pe_callTy call_intU (by rfl) T.b_int (by decide +kernel) (pa_cons (pe_ix (k_ix (K := K) rfl hu1) (pv 0) pe_int (fun _ _ => rfl)) pa_nil)) (pv 1)))
      (pss_cons (ps_asg (pe_op op_fdivW (pe_ix (k_ix (K := K) rfl hu1) (pv 0) pe_int (fun _ _ => rfl)) (pv 1)) (pg_sub (pv 0) pe_int (set_U hu1)))
      (pss_one (ps_ret (pv 2)))))), ?_⟩
  try dsimp only [cxOf]
  rintro args own P XP ⟨s, m, rfl, m1, hm, h⟩
  show SS _ _ [some _, some _, none, none, none] _ _
  rcases h with ⟨⟨l, r, rfl⟩, hq⟩ | ⟨l, r, x, y, rfl, z, hq⟩
  case' inl =>
    refine ss_open fun x y z => ?_
    have hq2 : ∃ o', Cl (l ++ (s, .lst [.int (drw x y m).2.1, .int (drw x y m).2.2]) :: r) o' ∧ P (.int (drw x y m).1) o' := by
      obtain ⟨d0, d1, d2⟩ := drw_ok z m1 hm
      exact ⟨_, cl_rng d2, hq _ d0 d1⟩
  case' inr =>
    have hq2 : ∃ o', Cl (l ++ (s, .lst [.int (drw x y m).2.1, .int (drw x y m).2.2]) :: r) o' ∧ P (.int (drw x y m).1) o' := ⟨_, Cl.refl _, hq⟩
  all_goals
    clear hq
    have tk : ∀ {x y : Int}, LstD (l ++ (s, Cell.lst [.int x, .int y]) :: r) (.ptr s) [.int x, .int y] := .inl trk_ptr
    obtain ⟨x0, xb, y0, yb⟩ := id z
    have sq := (Bd.ok yb yb (show rB + rB ≤ 100000000 by decide))
    have s2 := (Bd.ok (bd_lit (n := 48271) (k := 64) (by decide)) yb (show 64 + rB ≤ 100000000 by decide))
    refine ss_mid (fun sl o => ∃ u w x' y', sl = [some (.ptr s), some (.int m), none, u, w] ∧ o = l ++ (s, .lst [.int x', .int y']) :: r ∧ drw x y m = (x' % m, x' / m, y') ∧ 0 ≤ x') ?_ ?_
    · walk_at "go"
      refine ix_lst tk rfl ?_
      walk_at "go"
      refine iteD (fun h => ?_) (fun h => ?_)
      · walk_at "st"
        refine ix_lst tk rfl ?_
        walk_at "go"
        refine ix_lst tk rfl ?_
        walk_at "go"
        refine ix_lst tk rfl ?_
        walk_at "go"
        generalize hone : (y * y + 48271 * y + 12345) % 2305843009213693951 = one
        have b0 := Int.emod_nonneg (y * y + 48271 * y + 12345) (show (2305843009213693951 : Int) ≠ 0 by decide)
        have b1 := Int.emod_lt_of_pos (y * y + 48271 * y + 12345) (show (0 : Int) < 2305843009213693951 by decide)
        rw [hone] at b0 b1
        have o1 : IntMulOk one one := Bd.ok (k := 64) (j := 64) (bd_lit (by omega)) (bd_lit (by omega)) (by decide)
        have o2 : IntMulOk 69621 one := Bd.ok (k := 64) (j := 64) (bd_lit (by omega)) (bd_lit (by omega)) (by decide)
        walk_at "go"
        generalize htwo : (one * one + 69621 * one + 77) % 618970019642690137449562111 = two
        have c0 := Int.emod_nonneg (one * one + 69621 * one + 77) (show (618970019642690137449562111 : Int) ≠ 0 by decide)
        have c1 := Int.emod_lt_of_pos (one * one + 69621 * one + 77) (show (0 : Int) < 618970019642690137449562111 by decide)
        rw [htwo] at c0 c1
        have o3 : IntMulOk two two := Bd.ok (k := 100) (j := 100) (bd_lit (by omega)) (bd_lit (by omega)) (by decide)
        refine set_lst (j := 1) rfl ?_
        walk_at "go"
        refine set_lst (j := 0) rfl ?_
        have d0 := Int.emod_nonneg (two * two + one) (show (162259276829213363391578010288127 : Int) ≠ 0 by decide)
        exact ⟨_, _, _, _, rfl, rfl, by unfold drw; rw [if_pos h]; simp only [hone, htwo], by omega⟩
      · walk_at "go"
        exact ⟨_, _, _, _, rfl, rfl, by unfold drw; rw [if_neg h], x0⟩
    · rintro sl o ⟨u, w, x', y', rfl, rfl, he, x0'⟩
      walk_at "go"
      refine ix_lst tk rfl ?_
      walk_at "go"
      have dv : CDivW x' m := wide_div (by omega) hm (by decide) (by decide)
      refine ix_lst tk rfl ?_
      walk_at "go"
      refine set_lst (j := 0) rfl ?_
      walk_at "1"
      refine ex_end ?_
      walk_at "go"
      rw [he] at hq2
      exact hq2
/-! ### _law_history -/
structure HsOk (rows : List Hr) : Prop where
  len : rows.length ≤ 6
  up : Up rows
  low : ∀ r ∈ rows, 0 ≤ r.since ∧ r.since ≤ 4000
  ok : ∀ r ∈ rows, HrOk r
def con__law_history (_ : Ad) : Con := fun args own P _ => ∃ s, args = [.ptr s] ∧ Rg s own ∧ ∀ rows, HsOk rows → P (.lst (rows.map hD)) own
theorem up_snoc {rows : List Hr} {r : Hr} (h : Up rows) (h2 : ∀ q, rows[rows.length - 1]? = some q → q.since < r.since) : Up (rows ++ [r]) := fun i a b ha hb => by
  by_cases hi : i + 1 < rows.length
  · rw [List.getElem?_append_left (by omega)] at ha
    rw [List.getElem?_append_left hi] at hb
    exact h i a b ha hb
  · have hl := (List.getElem?_eq_some_iff.mp hb).1
    rw [List.length_append] at hl
    have : i + 1 = rows.length := by simp at hl; omega
    rw [this, List.getElem?_append_right (Nat.le_refl _), Nat.sub_self] at hb
    simp at hb
    subst hb
    rw [List.getElem?_append_left (by omega)] at ha
    exact h2 a (by rw [← this]; exact ha)
theorem ok__law_history (T : Tx P K mg ad) : FnOk P w K mg base CX0 2 ad.a__law_history ad.d__law_history ["state"] (SpG K (con__law_history ad)) := by
  refine okS T.F__law_history sc__law_history (by rintro args own P XP ⟨_, rfl, _⟩; rfl) fun cdv A outer s H E hr => ?_
  have hu1 := hu_of hr
  have hu64 := hr.units
  have hu65 : (A.deeper (PyProof.Rows.envOfC "_law_history" (defScope s__law_history) s.heap.objs.size ad.a__law_history cdv)).units + 65 < cLine := by have := hr.un; omega
  refine ⟨_, (pss_cons (ps_set (i := 1) sc__law_history.nd rfl (by first | exact Or.inl rfl | exact Or.inr rfl) (pe_lst pa_nil))
      (pss_cons (ps_set (i := 2) sc__law_history.nd rfl (by first | exact Or.inl rfl | exact Or.inr rfl) (pe_call (ok__law_draw T) hr rfl T.m__law_draw T.F__law_draw.kp T.B__law_draw .nil pass0 (pa_cons (pv 0) (pa_cons pe_int pa_nil))))
      (pss_cons (ps_for PassesOwn.never rfl (pi_range1 (by rfl) T.b_range (pa_cons (pe_call (ok__law_draw T) hr rfl T.m__law_draw T.F__law_draw.kp T.B__law_draw .nil pass0 (pa_cons (pv 0) (pa_cons pe_int pa_nil))) pa_nil)) (pg_name (i := 3) sc__law_history.nd rfl (by first | exact Or.inl rfl | exact Or.inr rfl)) (pss_cons (ps_expr (k_bm (K := K) rfl PySem.F.plainAttrs_list PySem.F.slot_list_append PySem.F.type_list_append mt_append (pv 1) (pa_cons (pe_tup (pa_cons (pv 2) (pa_cons (pe_ix (k_ix (K := K) rfl hu1) (pe_tup (pa_cons pe_non (pa_cons pe_str (pa_cons pe_str pa_nil)))) (pe_call (ok__law_draw T) hr rfl T.m__law_draw T.F__law_draw.kp T.B__law_draw .nil pass0 (pa_cons (pv 0) (pa_cons pe_int pa_nil))) (fun _ _ => rfl)) (pa_cons (pe_ix (k_ix (K := K) rfl hu1) (pe_tup (pa_cons pe_str (pa_cons pe_str pa_nil))) (pe_call (ok__law_draw T) hr rfl T.m__law_draw T.F__law_draw.kp T.B__law_draw .nil pass0 (pa_cons (pv 0) (pa_cons pe_int pa_nil))) (fun _ _ => rfl)) pa_nil)))) pa_nil)))
      (pss_one (ps_set (i := 2) sc__law_history.nd rfl (by first | exact Or.inl rfl | exact Or.inr rfl) (pe_op (k_add (K := K) rfl) (pe_op (k_add (K := K) rfl) (pv 2) pe_int) (pe_call (ok__law_draw T) hr rfl T.m__law_draw T.F__law_draw.kp T.B__law_draw .nil pass0 (pa_cons (pv 0) (pa_cons (pe_ix (k_ix (K := K) rfl hu1) (pe_tup (pa_cons pe_int (pa_cons pe_int pa_nil))) (pe_call (ok__law_draw T) hr rfl T.m__law_draw T.F__law_draw.kp T.B__law_draw .nil pass0 (pa_cons (pv 0) (pa_cons pe_int pa_nil))) (fun _ _ => rfl)) pa_nil))))))))
      (pss_one (ps_ret (pv 1)))))), ?_⟩
  try dsimp only [cxOf]
  rintro args own P XP ⟨s, rfl, hs, hq⟩
  show SS _ _ [some _, none, none, none] _ _
  walk_at "go"
  refine ex_lstO ?_
  walk_at "go"
  intro a ha
  walk_at "go"
  refine dr hs.c (by decide) (by decide) fun s0 s00 s01 => ?_
  walk_at "go"
  refine ss_for ?_
  walk_at "go"
  refine dr hs.c (by decide) (by decide) fun n n0 n1 => ?_
  walk_at "go"
  refine ⟨by omega, by omega, fun i sl o => ∃ rows since u3, sl = [some (.ptr s), some (.ptr a), some (.int since), u3] ∧ o = (a, .lst (rows.map hD)) :: own ∧ rows.length = i ∧ Up rows ∧ 0 ≤ since ∧ since ≤ 3 + 502 * i ∧ ∀ r ∈ rows, 0 ≤ r.since ∧ r.since < since ∧ HrOk r, ⟨[], s0, none, rfl, rfl, rfl, fun i a b h => by simp at h, s00, by omega, fun r h => (List.not_mem_nil h).elim⟩, fun _ _ _ _ => trivial, ?_, ?_⟩
  · rintro i x sl o hx ⟨rows, since, u3, rfl, rfl, hl, hu, t0, t1, hr⟩
    obtain ⟨hlt, rfl⟩ := rng_at hx
    walk_at "go"
    refine ex_bm ?_
    walk_at "go"
    refine ⟨ty_lst (.inl (.inr ⟨a, rfl, List.mem_cons_self⟩)), ?_⟩
    walk_at "go"
    refine dr hs.c (by decide) (by decide) fun c c0 c1 => ?_
    obtain ⟨ac, hac, hac2⟩ : ∃ ac : Option Str, atI [Dat.non, .str "ann", .str "bob"] c = some (oD .str ac) ∧ ∀ z, ac = some z → PyData.strOk z = true := by
      have : c = 0 ∨ c = 1 ∨ c = 2 := by omega
      rcases this with rfl | rfl | rfl
      · exact ⟨none, rfl, fun z h => nomatch h⟩
      · exact ⟨some "ann", rfl, fun z h => by cases h; decide +kernel⟩
      · exact ⟨some "bob", rfl, fun z h => by cases h; decide +kernel⟩
    walk_at "go"
    refine ix_tp hac ?_
    walk_at "go"
    refine dr hs.c (by decide) (by decide) fun e e0 e1 => ?_
    obtain ⟨nm, hnm, hnm2⟩ : ∃ nm : Str, atI [Dat.str "x", .str "y"] e = some (.str nm) ∧ PyData.strOk nm = true := by
      have : e = 0 ∨ e = 1 := by omega
      rcases this with rfl | rfl
      · exact ⟨"x", rfl, by decide +kernel⟩
      · exact ⟨"y", rfl, by decide +kernel⟩
    walk_at "go"
    refine ix_tp hnm ?_
    walk_at "go"
    refine app_lst (l := []) (by rw [List.length_map]; exact zl (by omega)) ?_
    walk_at "go"
    refine dr hs.c (by decide) (by decide) fun g g0 g1 => ?_
    obtain ⟨w, hw, w0, w1⟩ : ∃ w : Int, atI [Dat.int 2, .int 500] g = some (.int w) ∧ 2 ≤ w ∧ w ≤ 500 := by
      have : g = 0 ∨ g = 1 := by omega
      rcases this with rfl | rfl
      · exact ⟨2, rfl, by decide, by decide⟩
      · exact ⟨500, rfl, by decide, by decide⟩
    walk_at "go"
    refine ix_tp hw ?_
    walk_at "go"
    refine dr hs.c (by omega) (by omega) fun v v0 v1 => ?_
    walk_at "go"
    refine ⟨rows ++ [⟨since, ac, nm⟩], since + 1 + v, _, rfl, by rw [List.map_append]; rfl, by rw [List.length_append, hl]; rfl, up_snoc hu fun q hq => (hr q (List.mem_of_getElem? hq)).2.1, by omega, by omega, fun r h => ?_⟩
    rcases List.mem_append.mp h with h | h
    · obtain ⟨a, b, c⟩ := hr r h
      exact ⟨a, by omega, c⟩
    · rw [List.mem_singleton] at h
      subst h
      exact ⟨t0, by show since < since + 1 + v; omega, hac2, hnm2⟩
  · rintro sl o ⟨rows, since, u3, rfl, rfl, hl, hu, t0, t1, hr⟩
    rw [List.length_map, List.length_range] at hl t1
    walk_at "1"
    refine ex_frz ?_
    walk_at "go"
    refine ⟨a, _, [], _, _, rfl, rfl, rfl, hq rows ⟨by omega, hu, fun r h => ?_, fun r h => (hr r h).2.2⟩⟩
    obtain ⟨a, b, c⟩ := hr r h
    exact ⟨a, by omega⟩
/-! ### Contracts.__init__ -/
def con_Contracts_init (ad : Ad) : Con := fun args own P _ => ∃ p r, args = [.ptr p] ∧ own = (p, .ins ad.c_Contracts [] []) :: r ∧ ∀ h, P .non ((h, hC [] []) :: (p, cC ad h) :: r)
theorem ok_Contracts_init (T : Tx P K mg ad) : FnOk P w K mg base CX0 1 ad.a_Contracts_init ad.d_Contracts_init ["self"] (SpG K (con_Contracts_init ad)) := by
  refine okS T.F_Contracts_init sc_Contracts_init (by rintro args own P XP ⟨_, _, rfl, _⟩; rfl) fun cdv A outer s H E hr => ?_
  have hu1 := hu_of hr
  have hu64 := hr.units
  have hu65 : (A.deeper (PyProof.Rows.envOfC "Contracts.__init__" (defScope s_Contracts_init) s.heap.objs.size ad.a_Contracts_init cdv)).units + 65 < cLine := by have := hr.un; omega
  refine ⟨_, (pss_one (ps_fld (pv 0) pe_dnewK rfl)), ?_⟩
  try dsimp only [cxOf]
  rintro args own P XP ⟨p, r, rfl, rfl, hq⟩
  show SS _ _ [some _] _ _
  walk_at "go"
  refine ex_dnewK ?_
  intro h hh
  walk_at "go"
  exact hq h
/-! ### Contracts.set_history -/
def con_Contracts_set_history (ad : Ad) : Con := fun args own P XP => ∃ c h l r line d ks vs f rows, args = [.ptr c, .str line, d] ∧ own = l ++ (h, hC ks vs) :: (c, cC ad h) :: r ∧ Hist ks vs f ∧ ks.length < 900 ∧ rows.length ≤ 1000 ∧ line.length ≤ 100 ∧ LstD own d (rows.map hD) ∧
  (Up rows → ∀ ks2 vs2, ks2.length ≤ ks.length + 1 → Hist ks2 vs2 (fun j => if j = line then (if rows = [] then none else some rows) else f j) → P .non (l ++ (h, hC ks2 vs2) :: (c, cC ad h) :: r)) ∧
  (¬ Up rows → ∀ e, XP (.ref ad.c_BadHistory) (some e) ((e, .xd ["line"] [.str line]) :: own))
theorem ok_Contracts_set_history (T : Tx P K mg ad) : FnOk P w K mg base (L2.CX P w) 5 ad.a_Contracts_set_history ad.d_Contracts_set_history ["self", "line", "rows"] (SpG K (con_Contracts_set_history ad)) := by
  refine okSX T.F_Contracts_set_history sc_Contracts_set_history (by rintro args own P XP ⟨_, _, _, _, _, _, _, _, _, _, rfl, _⟩; rfl) fun cdv A outer s H E hr => ?_
  have hu1 := hu_of hr
  have hu64 := hr.units
  have hu65 : (A.deeper (PyProof.Rows.envOfC "Contracts.set_history" (defScope s_Contracts_set_history) s.heap.objs.size ad.a_Contracts_set_history cdv)).units + 65 < cLine := by have := hr.un; omega
  refine ⟨_, (pss_cons (ps_for (passes_of rfl) rfl (pi_range2 (by rfl) T.b_range (pa_cons pe_int (pa_cons (pe_callB (k_len (K := K) rfl) (by rfl) T.b_len (by decide +kernel) (pa_cons (pv 2) pa_nil)) pa_nil))) (pg_name (i := 3) sc_Contracts_set_history.nd rfl (by first | exact Or.inl rfl | exact Or.inr rfl)) (pss_one (ps_if (pt_cmpR op_le (pe_ix (k_ix (K := K) rfl hu1) (pe_ix (k_ix (K := K) rfl hu1) (pv 2) (pv 3) (fun _ _ => rfl)) pe_int (fun _ _ => rfl)) (pe_ix (k_ix (K := K) rfl hu1) (pe_ix (k_ix (K := K) rfl hu1) (pv 2) (pe_op op_sub (pv 3) pe_int) (fun _ _ => rfl)) pe_int (fun _ _ => rfl)) (nomark _)) (pss_one (ps_raise rfl (takes_of rfl rfl rfl rfl) (pmk_oex (dvs := []) T.O_BadHistory T.iI_BadHistory T.tI_BadHistory (oki_BadHistory T) (hr.mono (by decide)) T.BI_BadHistory .nil pass0 rfl T.m_BadHistory (pa_cons (pv 1) pa_nil)))) pss_nil)))
      (pss_one (ps_if (k_tru (K := K) rfl (pv 2) (by intro _; rfl)) (pss_one (ps_asg (pe_callTy (k_tup (K := K) rfl) (by rfl) T.b_tuple (by decide +kernel) (pa_cons (pv 2) pa_nil)) (pg_sub (k_fld (K := K) rfl (pv 0) rfl) (pv 1) (set_U hu1)))) (pss_one (ps_if (pt_cmpR (k_in (K := K) rfl hu65) (pv 1) (k_fld (K := K) rfl (pv 0) rfl) rfl) (pss_one (ps_ddel (k_fld (K := K) rfl (pv 0) rfl) (pv 1))) pss_nil))))), ?_⟩
  try dsimp only [cxOf]
  rintro args own P XP ⟨c, h, l, r, line, d, ks, vs, f, rows, rfl, rfl, hf, hks, hrl, hll, hd, hup, hno⟩
  show SS _ _ [some _, some _, some _, none] _ _
  have hh : DicD (l ++ (h, hC ks vs) :: (c, cC ad h) :: r) (.ptr h) (ks.map Sum.inr) (vs.map fun rows => Dat.tup (rows.map hD)) := .inr ⟨h, rfl, List.mem_append_right _ List.mem_cons_self⟩
  have hcm : (c, cC ad h) ∈ l ++ (h, hC ks vs) :: (c, cC ad h) :: r := List.mem_append_right _ (List.mem_cons_of_mem _ List.mem_cons_self)
  refine ss_mid (fun s o => Up rows ∧ (∃ u, s = [some (.ptr c), some (.str line), some d, u]) ∧ o = l ++ (h, hC ks vs) :: (c, cC ad h) :: r) ?_ ?_
  · refine ss_for ?_
    walk_at "go"
    refine len_seq (.inl hd) ?_
    walk_at "go"
    refine ⟨_, _, rfl, ⟨by omega, by omega, by omega, by rw [List.length_map]; omega⟩, fun i s o => (∀ j a b, j < i → rows[j]? = some a → rows[j + 1]? = some b → a.since < b.since) ∧ (∃ u, s = [some (.ptr c), some (.str line), some d, u]) ∧ o = l ++ (h, hC ks vs) :: (c, cC ad h) :: r, ⟨fun j a b hj => by omega, ⟨_, rfl⟩, rfl⟩, fun _ _ _ _ => trivial, ?_, ?_⟩
    · rintro i x s o hx ⟨hu, ⟨u, rfl⟩, rfl⟩
      obtain ⟨hlt, rfl⟩ := rng2_at hx
      rw [List.length_map] at hlt
      obtain ⟨a, ha⟩ : ∃ a, rows[i]? = some a := ⟨rows[i], by simp [show i < rows.length by omega]⟩
      obtain ⟨b, hb⟩ : ∃ b, rows[i + 1]? = some b := ⟨rows[i + 1], by simp [show i + 1 < rows.length by omega]⟩
      have ia : atI (rows.map hD) (1 + (i : Int) - 1) = some (hD a) := by
        rw [show (1 + (i : Int) - 1) = ((i : Nat) : Int) by omega]
        exact atN (by rw [List.getElem?_map, ha]; rfl)
      have ib : atI (rows.map hD) (1 + (i : Int)) = some (hD b) := by
        rw [show (1 + (i : Int)) = ((i + 1 : Nat) : Int) by omega]
        exact atN (by rw [List.getElem?_map, hb]; rfl)
      walk_at "go"
      refine ix_lst hd ib ?_
      walk_at "go"
      refine ix_lst hd ia ?_
      walk_at "go"
      refine iteD (fun h => ?_) (fun h => ?_)
      · walk_at "go"
        refine ⟨rfl, by show 1 ≤ 1000; decide, fun W vs hv v hm => ?_, fun e he => hno (fun z => ?_) e⟩
        · cases hv with
          | cons h1 t =>
            cases t; cases h1
            rw [List.mem_singleton] at hm
            subst hm
            exact .inl ⟨line, rfl, by omega⟩
        · have := z i a b ha hb; omega
      · walk_at "go"
        refine ⟨fun j a2 b2 hj h1 h2 => ?_, ⟨_, rfl⟩, rfl⟩
        by_cases e : j = i
        · subst e
          rw [ha] at h1; rw [hb] at h2
          cases h1; cases h2; omega
        · exact hu j a2 b2 (by omega) h1 h2
    · rintro s o ⟨hu, ⟨u, rfl⟩, rfl⟩
      rw [List.length_map, List.length_range, List.length_map] at hu
      refine ⟨fun j a b h1 h2 => hu j a b ?_ h1 h2, ⟨u, rfl⟩, rfl⟩
      have := (List.getElem?_eq_some_iff.mp h2).1
      omega
  rintro s o ⟨hu, ⟨u, rfl⟩, rfl⟩
  obtain ⟨hf1, hf2, hf3⟩ := hf
  walk_at "go"
  refine ⟨_, tru_seq hd, ?_⟩
  cases rows with
  | cons r0 rest =>
    refine iteT ?_
    walk_at "go"
    refine tup_of (.inl hd) ?_
    walk_at "go"
    refine set_dc (k := .inr line) (by rw [List.length_map]; exact zl (by omega)) ?_
    rw [kput_map (f := Sum.inr) (fun a b => inr_inj), dput_mapK (f := Sum.inr) (fun a b => inr_inj) (g := fun rows => Dat.tup (rows.map hD)) (v := r0 :: rest)]
    refine hup hu _ _ kput_len ⟨dputB_len hf1, Nat.le_trans kput_len (by omega), fun j => ?_⟩
    rw [dget_put hf1, hf3]
    simp
  | nil =>
    refine iteF ?_
    walk_at "go"
    refine in_dic (k := .inr line) hh ?_
    rw [kix_map (f := Sum.inr) (fun a b => inr_inj)]
    refine ⟨_, rfl, ?_⟩
    show if (kix ks line).isSome = true then _ else _
    refine iteB (fun hk => ?_) (fun hk => ?_)
    · refine ss_ddel ?_
      walk_at "go"
      refine ⟨h, l, _, _, _, .inr line, rfl, rfl, rfl, ?_, ?_⟩
      · exact List.mem_map.mpr ⟨line, kix_mem hk, rfl⟩
      · rw [kdrop_map (f := Sum.inr) (fun a b => inr_inj), vdrop_map (f := Sum.inr) (fun a b => inr_inj) (g := fun rows : List Hr => Dat.tup (rows.map hD))]
        refine hup hu _ _ (Nat.le_trans kdrop_len (Nat.le_succ _)) ⟨vdrop_len hf1, Nat.le_trans kdrop_len hf2, fun j => ?_⟩
        rw [dget_drop hf1, hf3]
        simp
    · walk_at "go"
      refine hup hu ks vs (Nat.le_succ _) ⟨hf1, hf2, fun j => ?_⟩
      show dget ks vs j = if j = line then (if ([] : List Hr) = [] then none else some []) else f j
      by_cases e : j = line
      · subst e
        rw [if_pos rfl, if_pos rfl]
        unfold dget
        cases e : kix ks j with
        | none => rfl
        | some i => rw [e] at hk; cases hk
      · rw [if_neg e]; exact hf3 j
/-! ### Contracts.in_force -/
def con_Contracts_in_force (ad : Ad) : Con := fun args own P _ => ∃ c h line clock ks vs f, args = [.ptr c, .str line, .int clock] ∧ (c, cC ad h) ∈ own ∧ (h, hC ks vs) ∈ own ∧ Hist ks vs f ∧ P (dueD (due ((f line).getD []) clock)) own
theorem ok_Contracts_in_force (T : Tx P K mg ad) : FnOk P w K mg base CX0 1 ad.a_Contracts_in_force ad.d_Contracts_in_force ["self", "line", "clock"] (SpG K (con_Contracts_in_force ad)) := by
  refine okS T.F_Contracts_in_force sc_Contracts_in_force (by rintro args own P XP ⟨_, _, _, _, _, _, _, rfl, _⟩; rfl) fun cdv A outer s H E hr => ?_
  have hu1 := hu_of hr
  have hu64 := hr.units
  have hu65 : (A.deeper (PyProof.Rows.envOfC "Contracts.in_force" (defScope s_Contracts_in_force) s.heap.objs.size ad.a_Contracts_in_force cdv)).units + 65 < cLine := by have := hr.un; omega
  refine ⟨_, (pss_cons (ps_set (i := 3) sc_Contracts_in_force.nd rfl (by first | exact Or.inl rfl | exact Or.inr rfl) pe_non)
      (pss_cons (ps_for PassesOwn.never rfl (k_seq (K := K) rfl (pe_dget2 hu1 (k_fld (K := K) rfl (pv 0) rfl) (pv 1) (pe_tup pa_nil) ⟨rfl, rfl, rfl, rfl⟩)) (pg_tup (by rfl) (pgs_cons (pg_name (i := 4) sc_Contracts_in_force.nd rfl (by first | exact Or.inl rfl | exact Or.inr rfl)) (pgs_cons (pg_name (i := 5) sc_Contracts_in_force.nd rfl (by first | exact Or.inl rfl | exact Or.inr rfl)) (pgs_cons (pg_name (i := 6) sc_Contracts_in_force.nd rfl (by first | exact Or.inl rfl | exact Or.inr rfl)) pgs_nil)))) (pss_one (ps_if (pt_cmpR op_le (pv 4) (pv 2) (nomark _)) (pss_one (ps_set (i := 3) sc_Contracts_in_force.nd rfl (by first | exact Or.inl rfl | exact Or.inr rfl) (pe_tup (pa_cons (pv 5) (pa_cons (pv 6) pa_nil))))) pss_nil)))
      (pss_cons (ps_if (PW.pt (pw_or (pt_cmpR op_isU (pv 3) pe_non (nomark _)) (pw_or1 (pt_cmpR op_isU (pe_ix (k_ix (K := K) rfl hu1) (pv 3) pe_int (fun _ _ => rfl)) pe_non (nomark _))))) (pss_one (ps_ret pe_non)) pss_nil)
      (pss_one (ps_ret (pv 3)))))), ?_⟩
  try dsimp only [cxOf]
  rintro args own P XP ⟨c, h, line, clock, ks, vs, f, rfl, hc, hh, hf, hq⟩
  show SS _ _ [some _, some _, some _, none, none, none, none] _ _
  walk_at "go"
  refine ss_forR hD (fun rest s o => ∃ pre u4 u5 u6, s = [some (.ptr c), some (.str line), some (.int clock), some (foundD (due pre clock)), u4, u5, u6] ∧ o = own ∧ (f line).getD [] = pre ++ rest) (ix_s ?_)
  refine ex_get2 ?_
  walk_at "go"
  refine ⟨.inl ⟨_, _, .inr ⟨h, rfl, hh⟩⟩, ?_⟩
  walk_at "go"
  refine ⟨_, .k (.inr ⟨h, rfl, hh⟩) (.inr line), ?_⟩
  rw [dget_mapK (f := Sum.inr) (fun a b => inr_inj), hf.2.2]
  refine ⟨((f line).getD []).map hD, .inr (.inr ?_), (f line).getD [], rfl, ⟨[], _, _, _, rfl, rfl, rfl⟩, fun _ _ _ _ => trivial, ?_, ?_⟩
  · cases f line <;> rfl
  · rintro pre0 r rest s o _ ⟨pre, u4, u5, u6, rfl, rfl, hp⟩
    have hs := due_snoc (rows := pre) (r := r) (clock := clock)
    unfold stepD at hs
    walk_at "go"
    refine iteD (fun h => ?_) (fun h => ?_)
    · rw [if_pos h] at hs
      walk_at "go"
      exact ⟨pre ++ [r], _, _, _, by rw [hs]; rfl, rfl, by rw [hp]; simp⟩
    · rw [if_neg h] at hs
      walk_at "go"
      exact ⟨pre ++ [r], _, _, _, by rw [hs]; rfl, rfl, by rw [hp]; simp⟩
  · rintro s o ⟨pre, u4, u5, u6, rfl, rfl, hp⟩
    rw [List.append_nil] at hp
    rw [hp] at hq
    generalize due pre clock = b at hq ⊢
    cases b with
    | none =>
      dsimp only [foundD, oD]
      walk_at "go"
      exact hq
    | some p =>
      obtain ⟨a, n⟩ := p
      cases a with
      | none =>
        dsimp only [foundD, oD]
        walk_at "go"
        exact hq
      | some a =>
        dsimp only [foundD, oD]
        walk_at "go"
        exact hq
/-! ### _law_due -/
def con__law_due (_ : Ad) : Con := fun args own P _ => ∃ (rows : List Hr) (clock : Int), args = [.lst (rows.map hD), .int clock] ∧ P (dueD (due rows clock)) own
theorem ok__law_due (T : Tx P K mg ad) : FnOk P w K mg base CX0 1 ad.a__law_due ad.d__law_due ["rows", "clock"] (SpG K (con__law_due ad)) := by
  refine okS T.F__law_due sc__law_due (by rintro args own P XP ⟨_, _, rfl, _⟩; rfl) fun cdv A outer s H E hr => ?_
  have hu1 := hu_of hr
  have hu64 := hr.units
  have hu65 : (A.deeper (PyProof.Rows.envOfC "_law_due" (defScope s__law_due) s.heap.objs.size ad.a__law_due cdv)).units + 65 < cLine := by have := hr.un; omega
  refine ⟨_, (pss_cons (ps_set (i := 2) sc__law_due.nd rfl (by first | exact Or.inl rfl | exact Or.inr rfl) pe_non)
      (pss_cons (ps_for PassesOwn.never rfl (k_seq (K := K) rfl (pv 0)) (pg_tup (by rfl) (pgs_cons (pg_name (i := 3) sc__law_due.nd rfl (by first | exact Or.inl rfl | exact Or.inr rfl)) (pgs_cons (pg_name (i := 4) sc__law_due.nd rfl (by first | exact Or.inl rfl | exact Or.inr rfl)) (pgs_cons (pg_name (i := 5) sc__law_due.nd rfl (by first | exact Or.inl rfl | exact Or.inr rfl)) pgs_nil)))) (pss_one (ps_if (pt_cmpR op_le (pv 3) (pv 1) (nomark _)) (pss_one (ps_set (i := 2) sc__law_due.nd rfl (by first | exact Or.inl rfl | exact Or.inr rfl) (pe_tup (pa_cons (pv 4) (pa_cons (pv 5) pa_nil))))) pss_nil)))
      (pss_cons (ps_if (PW.pt (pw_or (pt_cmpR op_isU (pv 2) pe_non (nomark _)) (pw_or1 (pt_cmpR op_isU (pe_ix (k_ix (K := K) rfl hu1) (pv 2) pe_int (fun _ _ => rfl)) pe_non (nomark _))))) (pss_one (ps_ret pe_non)) pss_nil)
      (pss_one (ps_ret (pv 2)))))), ?_⟩
  try dsimp only [cxOf]
  rintro args own P XP ⟨rows, clock, rfl, hq⟩
  show SS _ _ [some _, some _, none, none, none, none] _ _
  walk_at "go"
  refine ss_forR hD (fun rest s o => ∃ pre u3 u4 u5, s = [some (.lst (rows.map hD)), some (.int clock), some (foundD (due pre clock)), u3, u4, u5] ∧ o = own ∧ rows = pre ++ rest) (ix_s ?_)
  walk_at "go"
  refine ⟨_, .inl rfl, rows, rfl, ⟨[], _, _, _, rfl, rfl, rfl⟩, fun _ _ _ _ => trivial, ?_, ?_⟩
  · rintro pre0 r rest s o _ ⟨pre, u4, u5, u6, rfl, rfl, hp⟩
    have hs := due_snoc (rows := pre) (r := r) (clock := clock)
    unfold stepD at hs
    walk_at "go"
    refine iteD (fun h => ?_) (fun h => ?_)
    · rw [if_pos h] at hs
      walk_at "go"
      exact ⟨pre ++ [r], _, _, _, by rw [hs]; rfl, rfl, by rw [hp]; simp⟩
    · rw [if_neg h] at hs
      walk_at "go"
      exact ⟨pre ++ [r], _, _, _, by rw [hs]; rfl, rfl, by rw [hp]; simp⟩
  · rintro s o ⟨pre, u4, u5, u6, rfl, rfl, hp⟩
    rw [List.append_nil] at hp
    subst hp
    generalize due rows clock = b at hq ⊢
    cases b with
    | none =>
      dsimp only [foundD, oD]
      walk_at "go"
      exact hq
    | some p =>
      obtain ⟨a, n⟩ := p
      cases a with
      | none =>
        dsimp only [foundD, oD]
        walk_at "go"
        exact hq
      | some a =>
        dsimp only [foundD, oD]
        walk_at "go"
        exact hq
/-! ### _law_tells -/
theorem sh_due {b : Due} (h : ∀ a n, b = some (a, n) → (∀ z, a = some z → PyData.strOk z = true) ∧ PyData.strOk n = true) : Sh 1 (dueD b) := by
  cases b with
  | none => exact .non
  | some p =>
    obtain ⟨a, n⟩ := p
    obtain ⟨h1, h2⟩ := h a n rfl
    cases a with
    | none => exact .non
    | some a => exact .tup (.cons (.str (h1 a rfl)) (.cons (.str h2) .nil))
theorem due_ok {rows : List Hr} {clock : Int} (h : ∀ r ∈ rows, HrOk r) : ∀ a n, due rows clock = some (a, n) → (∀ z, a = some z → PyData.strOk z = true) ∧ PyData.strOk n = true := by
  have key : ∀ (rows : List Hr) (b : Due), (∀ a n, b = some (a, n) → (∀ z, a = some z → PyData.strOk z = true) ∧ PyData.strOk n = true) → (∀ r ∈ rows, HrOk r) → ∀ a n, rows.foldl (stepD clock) b = some (a, n) → (∀ z, a = some z → PyData.strOk z = true) ∧ PyData.strOk n = true := by
    intro rows
    induction rows with
    | nil => intro b hb _; exact hb
    | cons r rows ih =>
      intro b hb hr
      refine ih (stepD clock b r) (fun a n e => ?_) fun q hq => hr q (List.mem_cons_of_mem _ hq)
      unfold stepD at e
      split at e
      · cases e; exact hr r List.mem_cons_self
      · exact hb a n e
  exact key rows none (fun a n e => nomatch e) h
def con__law_tells (ad : Ad) : Con := fun args own P _ => ∃ c h line ks vs f rows, ∃ ts : List Int, args = [.ptr c, .str line, .lst (rows.map hD), .lst (ts.map Dat.int)] ∧ (c, cC ad h) ∈ own ∧ (h, hC ks vs) ∈ own ∧ Hist ks vs f ∧ (∀ r ∈ rows, HrOk r) ∧ (∀ t ∈ ts, due ((f line).getD []) t = due rows t) ∧ P (.bl true) own
theorem ok__law_tells (T : Tx P K mg ad) : FnOk P w K mg base CX0 2 ad.a__law_tells ad.d__law_tells ["contracts", "line", "rows", "times"] (SpG K (con__law_tells ad)) := by
  refine okS T.F__law_tells sc__law_tells (by rintro args own P XP ⟨_, _, _, _, _, _, _, _, rfl, _⟩; rfl) fun cdv A outer s H E hr => ?_
  have hu1 := hu_of hr
  have hu64 := hr.units
  have hu65 : (A.deeper (PyProof.Rows.envOfC "_law_tells" (defScope s__law_tells) s.heap.objs.size ad.a__law_tells cdv)).units + 65 < cLine := by have := hr.un; omega
  refine ⟨_, (pss_cons (ps_for PassesOwn.never rfl (k_seq (K := K) rfl (pv 3)) (pg_name (i := 4) sc__law_tells.nd rfl (by first | exact Or.inl rfl | exact Or.inr rfl)) (pss_one (ps_if (pt_cmpR (k_ne (K := K) rfl hu64) (pe_meth (pv 0) T.cl_Contracts T.M_Contracts_in_force (ok_Contracts_in_force T) hr T.B_Contracts_in_force .nil pass0 (pa_cons (pv 1) (pa_cons (pv 4) pa_nil))) (pe_call (ok__law_due T) hr rfl T.m__law_due T.F__law_due.kp T.B__law_due .nil pass0 (pa_cons (pv 2) (pa_cons (pv 4) pa_nil))) (nomark _)) (pss_one (ps_ret pe_bl)) pss_nil)))
      (pss_one (ps_ret pe_bl))), ?_⟩
  try dsimp only [cxOf]
  rintro args own P XP ⟨c, h, line, ks, vs, f, rows, ts, rfl, hc, hh, hf, hok, ht, hq⟩
  show SS _ _ [some _, some _, some _, some _, none] _ _
  walk_at "go"
  refine ss_forR Dat.int (fun rest s o => ∃ u, s = [some (.ptr c), some (.str line), some (.lst (rows.map hD)), some (.lst (ts.map Dat.int)), u] ∧ o = own ∧ ∀ t ∈ rest, due ((f line).getD []) t = due rows t) (ix_s ?_)
  walk_at "go"
  refine ⟨_, .inl rfl, ts, rfl, ⟨_, rfl, rfl, ht⟩, fun _ _ _ _ => trivial, ?_, ?_⟩
  · rintro pre t rest s o _ ⟨u, rfl, rfl, h2⟩
    walk_at "go"
    refine ⟨c, h, line, t, ks, vs, f, rfl, hc, hh, hf, ?_⟩
    walk_at "go"
    refine ⟨rows, t, rfl, ?_⟩
    rw [h2 t List.mem_cons_self]
    refine ne_same (sh_due (due_ok hok)) rfl ?_
    walk_at "go"
    exact ⟨rfl, fun t h => h2 t (List.mem_cons_of_mem _ h)⟩
  · rintro s o ⟨u, rfl, rfl, h2⟩
    walk_at "go"
    exact hq
/-! ### _law_more -/
/-- rows that say the same at all times, at most seven -/
structure Alike (rows more : List Hr) : Prop where
  len : more.length ≤ 7
  up : Up more
  same : ∀ t, due more t = due rows t
theorem up_pw : ∀ {rows : List Hr}, Up rows → rows.Pairwise fun a b => a.since < b.since
  | [], _ => .nil
  | r :: rows, h => by
    have h2 : Up rows := fun i a b ha hb => h (i + 1) a b (by simpa using ha) (by simpa using hb)
    have ih := up_pw h2
    refine .cons (fun q hq => ?_) ih
    cases rows with
    | nil => exact (List.not_mem_nil hq).elim
    | cons r2 rows =>
      have h0 := h 0 r r2 rfl rfl
      rcases List.mem_cons.mp hq with rfl | hq
      · exact h0
      · have := (List.pairwise_cons.mp ih).1 q hq
        omega
theorem pw_up {rows : List Hr} (h : rows.Pairwise fun a b => a.since < b.since) : Up rows := fun i a b ha hb => by
  obtain ⟨h1, rfl⟩ := List.getElem?_eq_some_iff.mp ha
  obtain ⟨h2, rfl⟩ := List.getElem?_eq_some_iff.mp hb
  exact List.pairwise_iff_getElem.mp h i (i + 1) h1 h2 (by omega)
theorem split_S {S : Int} : ∀ {rows : List Hr}, rows.Pairwise (fun a b => a.since < b.since) → (∀ q ∈ rows, q.since ≠ S) → rows = rows.filter (fun q => decide (q.since < S)) ++ rows.filter fun q => decide (S < q.since)
  | [], _, _ => rfl
  | r :: rows, h, hn => by
    obtain ⟨h1, h2⟩ := List.pairwise_cons.mp h
    have ih := split_S h2 fun q hq => hn q (List.mem_cons_of_mem _ hq)
    have hr := hn r List.mem_cons_self
    rw [List.filter_cons, List.filter_cons]
    by_cases e : r.since < S
    · rw [if_pos (decide_eq_true e), if_neg (by rw [decide_eq_false (by omega)]; decide), List.cons_append, ← ih]
    · have hA : rows.filter (fun q => decide (q.since < S)) = [] := List.filter_eq_nil_iff.mpr fun q hq => by
        have := h1 q hq
        simp; omega
      rw [if_neg (by rw [decide_eq_false e]; decide), if_pos (decide_eq_true (by omega)), hA, List.nil_append]
      rw [hA, List.nil_append] at ih
      rw [← ih]
theorem due_app (a b : List Hr) (t : Int) : due (a ++ b) t = b.foldl (stepD t) (due a t) := by unfold due; rw [List.foldl_append]
theorem more_ok {rows xs : List Hr} {q : Hr} {S : Int} (hk : HsOk rows) (hn : ∀ q ∈ rows, q.since ≠ S) (hA : rows.filter (fun q => decide (q.since < S)) = xs ++ [q]) : Alike rows (rows.filter (fun q => decide (q.since < S)) ++ [⟨S, q.acc, q.name⟩] ++ rows.filter fun q => decide (S < q.since)) := by
  have hp := up_pw hk.up
  have hs := split_S hp hn
  have hq : q.since < S := by
    have : q ∈ rows.filter (fun q => decide (q.since < S)) := by rw [hA]; simp
    exact of_decide_eq_true (List.mem_filter.mp this).2
  refine ⟨?_, pw_up ?_, fun t => ?_⟩
  · have := congrArg List.length hs
    have hl := hk.len
    rw [List.length_append] at this
    rw [List.length_append, List.length_append]
    show _ + 1 + _ ≤ 7
    omega
  · rw [List.pairwise_append, List.pairwise_append]
    refine ⟨⟨hp.filter _, by simp, fun a ha b hb => ?_⟩, hp.filter _, fun a ha b hb => ?_⟩
    · rw [List.mem_singleton] at hb
      subst hb
      exact of_decide_eq_true (List.mem_filter.mp ha).2
    · have h2 := of_decide_eq_true (List.mem_filter.mp hb).2
      rcases List.mem_append.mp ha with ha | ha
      · have h1 := of_decide_eq_true (List.mem_filter.mp ha).2
        omega
      · rw [List.mem_singleton] at ha
        subst ha
        exact h2
  · have e1 := due_app (rows.filter (fun q => decide (q.since < S)) ++ [⟨S, q.acc, q.name⟩]) (rows.filter fun q => decide (S < q.since)) t
    have e2 := due_app (rows.filter (fun q => decide (q.since < S))) (rows.filter fun q => decide (S < q.since)) t
    rw [← hs] at e2
    rw [e1, e2, due_snoc, hA]
    congr 1
    unfold stepD
    by_cases e : S ≤ t
    · rw [if_pos e, due_snoc]
      unfold stepD
      rw [if_pos (by omega)]
    · rw [if_neg e]
def con__law_more (_ : Ad) : Con := fun args own P _ => ∃ s rows, args = [.lst (rows.map hD), .ptr s] ∧ Rg s own ∧ HsOk rows ∧ rows ≠ [] ∧ ∀ more, Alike rows more → P (.lst (more.map hD)) own
theorem ok__law_more (T : Tx P K mg ad) : FnOk P w K mg base CX0 2 ad.a__law_more ad.d__law_more ["rows", "state"] (SpG K (con__law_more ad)) := by
  refine okS T.F__law_more sc__law_more (by rintro args own P XP ⟨_, _, rfl, _⟩; rfl) fun cdv A outer s H E hr => ?_
  have hu1 := hu_of hr
  have hu64 := hr.units
  have hu65 : (A.deeper (PyProof.Rows.envOfC "_law_more" (defScope s__law_more) s.heap.objs.size ad.a__law_more cdv)).units + 65 < cLine := by have := hr.un; omega
  refine ⟨_, (pss_cons (ps_set (i := 2) sc__law_more.nd rfl (by first | exact Or.inl rfl | exact Or.inr rfl) (pe_call (ok__law_draw T) hr rfl T.m__law_draw T.F__law_draw.kp T.B__law_draw .nil pass0 (pa_cons (pv 1) (pa_cons (pe_callB (k_len (K := K) rfl) (by rfl) T.b_len (by decide +kernel) (pa_cons (pv 0) pa_nil)) pa_nil))))
      (pss_cons (ps_set (i := 3) sc__law_more.nd rfl (by first | exact Or.inl rfl | exact Or.inr rfl) (pe_op (k_add (K := K) rfl) (pe_op (k_add (K := K) rfl) (pe_ix (k_ix (K := K) rfl hu1) (pe_ix (k_ix (K := K) rfl hu1) (pv 0) (pv 2) (fun _ _ => rfl)) pe_int (fun _ _ => rfl)) pe_int) (pe_call (ok__law_draw T) hr rfl T.m__law_draw T.F__law_draw.kp T.B__law_draw .nil pass0 (pa_cons (pv 1) (pa_cons pe_int pa_nil)))))
      (pss_cons (ps_if (pt_cmpR (k_in (K := K) rfl hu65) (pv 3) (pe_lc (own := [("row", 5)]) rfl sc__law_more.nd (k_seq (K := K) rfl (pv 0)) (blkOk_by (N := N__law_more) (sc := defScope s__law_more) (by decide +kernel)) (fun _ _ _ _ _ => (pg_name (i := 5) sc__law_more.nd rfl (by first | exact Or.inl rfl | exact Or.inr rfl))) (fun _ _ _ _ _ => pts_nil) (fun _ _ _ _ _ => (pe_ix (k_ix (K := K) rfl hu1) (pv 5) pe_int (fun _ _ => rfl)))) rfl) (pss_one (ps_ret (pe_callTy (k_list (K := K) rfl) (by rfl) T.b_list (by decide +kernel) (pa_cons (pv 0) pa_nil)))) pss_nil)
      (pss_cons (ps_setLc (i := 4) (own := [("row", 5)]) rfl sc__law_more.nd rfl rfl (sw_true rfl rfl rfl (by decide +kernel)) (k_seq (K := K) rfl (pv 0)) (blkOk_by (N := N__law_more) (sc := defScope s__law_more) (by decide +kernel)) (fun _ _ _ _ _ => (pg_name (i := 5) sc__law_more.nd rfl (by first | exact Or.inl rfl | exact Or.inr rfl))) (fun _ _ _ _ _ => (pts_one (pt_cmpR op_lt (pe_ix (k_ix (K := K) rfl hu1) (pv 5) pe_int (fun _ _ => rfl)) (pv 3) (nomark _)))) (fun _ _ _ _ _ => (pv 5)))
      (pss_one (ps_ret (pe_op (k_add (K := K) rfl) (pe_op (k_add (K := K) rfl) (pv 4) (pe_lst (pa_cons (pe_tup (pa_cons (pv 3) (pa_cons (pe_ix (k_ix (K := K) rfl hu1) (pe_ix (k_ix (K := K) rfl hu1) (pv 4) (pe_un un_neg pe_int) (fun _ _ => rfl)) pe_int (fun _ _ => rfl)) (pa_cons (pe_ix (k_ix (K := K) rfl hu1) (pe_ix (k_ix (K := K) rfl hu1) (pv 4) (pe_un un_neg pe_int) (fun _ _ => rfl)) pe_int (fun _ _ => rfl)) pa_nil)))) pa_nil))) (pe_lc (own := [("row", 5)]) rfl sc__law_more.nd (k_seq (K := K) rfl (pv 0)) (blkOk_by (N := N__law_more) (sc := defScope s__law_more) (by decide +kernel)) (fun _ _ _ _ _ => (pg_name (i := 5) sc__law_more.nd rfl (by first | exact Or.inl rfl | exact Or.inr rfl))) (fun _ _ _ _ _ => (pts_one (pt_cmpR op_gt (pe_ix (k_ix (K := K) rfl hu1) (pv 5) pe_int (fun _ _ => rfl)) (pv 3) (nomark _)))) (fun _ _ _ _ _ => (pv 5)))))))))), ?_⟩
  try dsimp only [cxOf]
  rintro args own P XP ⟨s, rows, rfl, hs, hk, hne, hq⟩
  show SS _ _ [some _, some _, none, none, none, none] _ _
  have hpos : 0 < rows.length := List.length_pos_iff.mpr hne
  have hlen := hk.len
  walk_at "go"
  refine dr hs (by rw [List.length_map]; omega) (by rw [List.length_map]; omega) fun p p0 p1 => ?_
  rw [List.length_map] at p1
  obtain ⟨r, hr, hat⟩ := pick (f := hD) p0 p1
  walk_at "go"
  refine ix_lst (.inl (.inl rfl)) hat ?_
  walk_at "go"
  refine dr hs (by decide) (by decide) fun d d0 d1 => ?_
  walk_at "go"
  refine ex_lcM hD (fun r => .int r.since) (ix_s ?_)
  walk_at "go"
  refine ⟨_, .inl rfl, rows, rfl, by omega, trivial, fun q hq => ?_, ?_⟩
  · walk_at "go"
    exact ⟨rfl, rfl⟩
  refine in_seq (n := 0) (m := 0) (.inl (.inl (.inl rfl))) (.int _) (shL_of fun e he => by obtain ⟨q, _, rfl⟩ := List.mem_map.mp he; exact .int _) fun b hb => ?_
  refine ⟨_, rfl, ?_⟩
  show if b = true then _ else _
  refine iteB (fun h => ?_) (fun h => ?_)
  · walk_at "go"
    refine list_of (.inl (.inl (.inl rfl))) ?_
    exact hq rows ⟨by omega, hk.up, fun t => rfl⟩
  have hni : ∀ q ∈ rows, q.since ≠ r.since + 1 + d := fun q hq z => by
    have := hb.mpr (List.mem_map.mpr ⟨q, hq, by rw [z]⟩)
    rw [h] at this; cases this
  generalize hS : r.since + 1 + d = S at hni ⊢
  have hrS : r.since < S := by omega
  walk_at "go"
  refine ex_lcP hD hD (fun q => decide (q.since < S)) (ix_s ?_)
  walk_at "go"
  refine ⟨_, .inl rfl, rows, rfl, by omega, trivial, fun q hq => ?_, ?_⟩
  · walk_at "go"
    refine iteD (fun h => ?_) (fun h => ?_)
    · walk_at "go"
      exact ⟨decide_eq_true h, rfl, rfl⟩
    · exact ⟨decide_eq_false h, rfl⟩
  obtain ⟨xs, q, hA⟩ : ∃ xs q, rows.filter (fun q : Hr => decide (q.since < S)) = xs ++ [q] := by
    have hne2 : rows.filter (fun q : Hr => decide (q.since < S)) ≠ [] := List.ne_nil_of_mem (List.mem_filter.mpr ⟨hr, decide_eq_true hrS⟩)
    exact ⟨_, _, (List.dropLast_concat_getLast hne2).symm⟩
  have hAl : (xs ++ [q]).length ≤ 6 := by rw [← hA]; exact Nat.le_trans (List.length_filter_le _ _) hlen
  have hlast : atI ((xs ++ [q]).map hD) (-1) = some (hD q) := by rw [List.map_append]; exact atI_last
  rw [hA]
  walk_at "go"
  refine ex_lst ?_
  walk_at "go"
  refine ix_lst (.inl (.inl rfl)) hlast ?_
  walk_at "go"
  refine ix_lst (.inl (.inl rfl)) hlast ?_
  walk_at "go"
  refine add_lst (.inl rfl) (.inl rfl) (zle (by rw [List.length_map]; show _ + 1 ≤ _; omega)) ?_
  walk_at "go"
  refine ex_lcP hD hD (fun q => decide (S < q.since)) (ix_s ?_)
  walk_at "go"
  refine ⟨_, .inl rfl, rows, rfl, by omega, trivial, fun q hq => ?_, ?_⟩
  · walk_at "go"
    refine iteD (fun h => ?_) (fun h => ?_)
    · walk_at "go"
      exact ⟨decide_eq_true h, rfl, rfl⟩
    · exact ⟨decide_eq_false h, rfl⟩
  have hBl : (rows.filter fun q : Hr => decide (S < q.since)).length ≤ 6 := Nat.le_trans (List.length_filter_le _ _) hlen
  refine add_lst (.inl rfl) (.inl rfl) (zle (by rw [List.length_append, List.length_map, List.length_map]; show _ + 1 + _ ≤ _; omega)) ?_
  have em : (xs ++ [q]).map hD ++ [Dat.tup [.int S, oD .str q.acc, .str q.name]] ++ (rows.filter fun q : Hr => decide (S < q.since)).map hD = (rows.filter (fun q : Hr => decide (q.since < S)) ++ [(⟨S, q.acc, q.name⟩ : Hr)] ++ rows.filter fun q : Hr => decide (S < q.since)).map hD := by
    rw [hA]; simp only [List.map_append]; rfl
  rw [em]
  exact hq _ (more_ok hk hni hA)
/-! ### _law_refused -/
def con__law_refused (ad : Ad) : Con := fun args own P _ => ∃ c h l r line ks vs f rows, args = [.ptr c, .str line, .lst (rows.map hD)] ∧ own = l ++ (h, hC ks vs) :: (c, cC ad h) :: r ∧ Hist ks vs f ∧ ks.length < 900 ∧ rows.length ≤ 1000 ∧ line.length ≤ 100 ∧ ¬ Up rows ∧ P (.bl true) own
theorem ok__law_refused (T : Tx P K mg ad) : FnOk P w K mg base CX0 6 ad.a__law_refused ad.d__law_refused ["contracts", "line", "rows"] (SpG K (con__law_refused ad)) := by
  refine okS T.F__law_refused sc__law_refused (by rintro args own P XP ⟨_, _, _, _, _, _, _, _, _, rfl, _⟩; rfl) fun cdv A outer s H E hr => ?_
  have hu1 := hu_of hr
  have hu64 := hr.units
  have hu65 : (A.deeper (PyProof.Rows.envOfC "_law_refused" (defScope s__law_refused) s.heap.objs.size ad.a__law_refused cdv)).units + 65 < cLine := by have := hr.un; omega
  refine ⟨_, (pss_cons (k_try_as (K := K) (i := 3) rfl rfl rfl sc__law_refused.nd rfl rfl ⟨rfl, by decide, .inl T.m_BadHistory⟩ takes0 (fun W pn xe tk po => (pss_one (ps_expr (pe_methSD (pv 0) T.cl_Contracts T.M_Contracts_set_history (ok_Contracts_set_history T) hr T.B_Contracts_set_history (fun σ => passAt tk σ) (pa_cons (pv 1) (pa_cons (pe_callTy (k_list (K := K) rfl) (by rfl) T.b_list (by decide +kernel) (pa_cons (pv 2) pa_nil)) pa_nil)))))) (fun a oe cls d pn hz hf => (pss_one (ps_ret (pe_cmpR (k_eq (K := K) rfl hu64) (pe_xf T.X_BadHistory T.nf_BadHistory_line hz hf (pv 3)) (pv 1) (nomark _))))))
      (pss_one (ps_ret pe_bl))), ?_⟩
  try dsimp only [cxOf]
  rintro args own P XP ⟨c, h, l, r, line, ks, vs, f, rows, rfl, rfl, hf, hk, hz, hll, hup, hq⟩
  show SS _ _ [some _, some _, some _, none] _ _
  have hcm : (c, cC ad h) ∈ l ++ (h, hC ks vs) :: (c, cC ad h) :: r := List.mem_append_right _ (List.mem_cons_of_mem _ List.mem_cons_self)
  refine ss_fin ?_
  refine ss_seq ?_
  refine ss_try_as (fun cls d s o => cls = .ref ad.c_BadHistory ∧ ∃ d2, d = some d2 ∧ s = [some (.ptr c), some (.str line), some (.lst (rows.map hD)), none] ∧ o = (d2, .xd ["line"] [.str line]) :: (l ++ (h, hC ks vs) :: (c, cC ad h) :: r)) (fun w => ?_) ?_
  · walk_at "go"
    refine list_of (.inl (.inl (.inl rfl))) ?_
    walk_at "go"
    refine ⟨c, h, l, r, line, _, ks, vs, f, rows, rfl, rfl, hf, hk, hz, hll, .inl (.inl rfl), fun z => absurd z hup, fun _ e => ⟨rfl, e, rfl, rfl, rfl⟩⟩
  · rintro cls d s o ⟨rfl, d2, rfl, rfl, rfl⟩
    refine ⟨true, T.ex_BadHistory_BadHistory, fun _ a ha => ?_, fun z => nomatch z⟩
    walk_at "go"
    refine ex_xf ?_
    walk_at "go"
    refine ⟨rfl, rfl, d2, _, _, 0, _, rfl, List.mem_cons_self, fidx_hd, rfl, ?_⟩
    walk_at "go"
    refine ⟨_, cl_drop (l := []), ?_⟩
    simpa using hq
/-! ### law -/
def con_law (_ : Ad) : Con := con_law0
def opt (l : List Hr) : Option (List Hr) := if l = [] then none else some l
def FF (a b : List Hr) : Str → Option (List Hr) := fun j => if j = "42" then opt b else if j = "41" then opt a else none
theorem opt_get (l : List Hr) : (opt l).getD [] = l := by
  unfold opt
  by_cases h : l = []
  · rw [if_pos h, h]; rfl
  · rw [if_neg h]; rfl
theorem n4142 : ¬ (Str.ofString "41" = Str.ofString "42") := by decide +kernel
theorem n4342 : ¬ (Str.ofString "43" = Str.ofString "42") := by decide +kernel
theorem n4341 : ¬ (Str.ofString "43" = Str.ofString "41") := by decide +kernel
theorem ff1 (a b a2 : List Hr) (j : Str) : (if j = Str.ofString "41" then (if a2 = [] then none else some a2) else FF a b j) = FF a2 b j := by
  unfold FF opt
  by_cases h : j = Str.ofString "41"
  · subst h
    rw [if_pos rfl, if_neg n4142, if_pos rfl]
  · rw [if_neg h, if_neg h, if_neg h]
theorem ff2 (a b b2 : List Hr) (j : Str) : (if j = Str.ofString "42" then (if b2 = [] then none else some b2) else FF a b j) = FF a b2 j := by
  unfold FF opt
  by_cases h : j = Str.ofString "42"
  · subst h
    rw [if_pos rfl, if_pos rfl]
  · rw [if_neg h, if_neg h, if_neg h]
theorem Hist.congr {ks : List Str} {vs : List (List Hr)} {f g : Str → Option (List Hr)} (h : Hist ks vs f) (e : ∀ j, f j = g j) : Hist ks vs g := ⟨h.1, h.2.1, fun j => (h.2.2 j).trans (e j)⟩
theorem ff41 (a b : List Hr) : (FF a b (Str.ofString "41")).getD [] = a := by
  unfold FF
  rw [if_neg n4142, if_pos rfl]; exact opt_get a
theorem ff42 (a b : List Hr) : (FF a b (Str.ofString "42")).getD [] = b := by
  unfold FF
  rw [if_pos rfl]; exact opt_get b
theorem ff43 (a b : List Hr) : FF a b (Str.ofString "43") = none := by
  unfold FF
  rw [if_neg n4342, if_neg n4341]
theorem ff0 : ∀ j, (none : Option (List Hr)) = FF [] [] j := fun j => by unfold FF opt; simp
theorem sh_hr {r : Hr} (h : HrOk r) : Sh 2 (hD r) := by
  refine .tup (.cons (.int _) (.cons ?_ (.cons (.str h.2) .nil)))
  cases e : r.acc with
  | none => exact .non
  | some z => exact .str (h.1 z e)
theorem first_last {rows xs rest : List Hr} {r0 q : Hr} (h : Up rows) (h1 : rows = r0 :: rest) (h2 : rows = xs ++ [q]) : r0.since ≤ q.since := by
  have hp := up_pw h
  rw [h1] at h2 hp
  have hq : q ∈ r0 :: rest := by rw [h2]; simp
  rcases List.mem_cons.mp hq with rfl | hq
  · exact Int.le_refl _
  · have := (List.pairwise_cons.mp hp).1 q hq
    omega
theorem not_up {rows xs : List Hr} {q r : Hr} (h : rows = xs ++ [q]) (hle : r.since ≤ q.since) : ¬ Up (rows ++ [r]) := fun z => by
  have := z xs.length q r (by rw [h]; simp) (by rw [h]; simp)
  omega
theorem up_cut {rows : List Hr} (h : Up rows) (c : Hr → Bool) : Up (rows.filter c) := pw_up ((up_pw h).filter c)
theorem due_cut (rows : List Hr) (t : Int) : due (rows.filter fun r => decide (r.since ≤ t)) t = due rows t := by
  have key : ∀ (rows : List Hr) (b : Due), (rows.filter fun r => decide (r.since ≤ t)).foldl (stepD t) b = rows.foldl (stepD t) b := by
    intro rows
    induction rows with
    | nil => intro b; rfl
    | cons r rows ih =>
      intro b
      rw [List.filter_cons, List.foldl_cons]
      by_cases h : r.since ≤ t
      · rw [if_pos (decide_eq_true h), List.foldl_cons, ih]
      · rw [if_neg (by rw [decide_eq_false h]; decide), ih]
        congr 1
        unfold stepD
        rw [if_neg h]
  exact key rows none
theorem ok_law (T : Tx P K mg ad) : FnOk P w K mg base CX0 7 ad.a_law ad.d_law ["script"] (SpG K (con_law ad)) := by
  refine okS T.F_law sc_law (by rintro args own P XP ⟨_, rfl, _⟩; rfl) fun cdv A outer s H E hr => ?_
  have hu1 := hu_of hr
  have hu64 := hr.units
  have hu65 : (A.deeper (PyProof.Rows.envOfC "law" (defScope s_law) s.heap.objs.size ad.a_law cdv)).units + 65 < cLine := by have := hr.un; omega
  refine ⟨_, (pss_cons (ps_for PassesOwn.never rfl (pi_range1 (by rfl) T.b_range (pa_cons (pe_callB (k_min (K := K) rfl rfl) (by rfl) T.b_min (by decide +kernel) (pa_cons pe_int (pa_cons (pe_op (k_add (K := K) rfl) pe_int (pe_callB (k_len (K := K) rfl) (by rfl) T.b_len (by decide +kernel) (pa_cons (pv 0) pa_nil))) pa_nil))) pa_nil)) (pg_name (i := 1) sc_law.nd rfl (by first | exact Or.inl rfl | exact Or.inr rfl)) (pss_cons (ps_set (i := 2) sc_law.nd rfl (by first | exact Or.inl rfl | exact Or.inr rfl) (pe_call (ok__law_state T) (hr.mono (by decide)) rfl T.m__law_state T.F__law_state.kp T.B__law_state .nil pass0 (pa_cons (pv 0) (pa_cons (pv 1) (pa_cons pe_int pa_nil)))))
      (pss_cons (ps_set (i := 3) sc_law.nd rfl (by first | exact Or.inl rfl | exact Or.inr rfl) (pe_call (ok__law_history T) (hr.mono (by decide)) rfl T.m__law_history T.F__law_history.kp T.B__law_history .nil pass0 (pa_cons (pv 2) pa_nil)))
      (pss_cons (ps_set (i := 4) sc_law.nd rfl (by first | exact Or.inl rfl | exact Or.inr rfl) (pe_call (ok__law_history T) (hr.mono (by decide)) rfl T.m__law_history T.F__law_history.kp T.B__law_history .nil pass0 (pa_cons (pv 2) pa_nil)))
      (pss_cons (ps_set (i := 5) sc_law.nd rfl (by first | exact Or.inl rfl | exact Or.inr rfl) (pe_lst (pa_cons pe_int (pa_cons (pe_op op_pow pe_int pe_int) (pa_cons (pe_call (ok__law_draw T) (hr.mono (by decide)) rfl T.m__law_draw T.F__law_draw.kp T.B__law_draw .nil pass0 (pa_cons (pv 2) (pa_cons pe_int pa_nil))) pa_nil)))))
      (pss_cons (ps_for PassesOwn.never rfl (k_seq (K := K) rfl (pe_op (k_add (K := K) rfl) (pv 3) (pv 4))) (pg_name (i := 6) sc_law.nd rfl (by first | exact Or.inl rfl | exact Or.inr rfl)) (pss_one (ps_set (i := 5) sc_law.nd rfl (by first | exact Or.inl rfl | exact Or.inr rfl) (pe_op (k_add (K := K) rfl) (pv 5) (pe_lst (pa_cons (pe_ix (k_ix (K := K) rfl hu1) (pv 6) pe_int (fun _ _ => rfl)) (pa_cons (pe_op (k_add (K := K) rfl) (pe_ix (k_ix (K := K) rfl hu1) (pv 6) pe_int (fun _ _ => rfl)) pe_int) (pa_cons (pe_callB (k_max (K := K) rfl rfl) (by rfl) T.b_max (by decide +kernel) (pa_cons pe_int (pa_cons (pe_op op_sub (pe_ix (k_ix (K := K) rfl hu1) (pv 6) pe_int (fun _ _ => rfl)) pe_int) pa_nil))) pa_nil))))))))
      (pss_cons (ps_set (i := 7) sc_law.nd rfl (by first | exact Or.inl rfl | exact Or.inr rfl) (pe_make0 T.K_Contracts (ok_Contracts_init T) (hr.mono (by decide)) rfl T.m_Contracts T.B_Contracts_init .nil pass0 ))
      (pss_cons (ps_set (i := 8) sc_law.nd rfl (by first | exact Or.inl rfl | exact Or.inr rfl) (pe_callTy (k_list (K := K) rfl) (by rfl) T.b_list (by decide +kernel) (pa_cons (pv 3) pa_nil)))
      (pss_cons (ps_expr (pe_meth (pv 7) T.cl_Contracts T.M_Contracts_set_history (ok_Contracts_set_history T) (hr.mono (by decide)) T.B_Contracts_set_history .nil passL (pa_cons pe_str (pa_cons (pv 8) pa_nil))))
      (pss_cons (ps_expr (pe_meth (pv 7) T.cl_Contracts T.M_Contracts_set_history (ok_Contracts_set_history T) (hr.mono (by decide)) T.B_Contracts_set_history .nil passL (pa_cons pe_str (pa_cons (pe_callTy (k_list (K := K) rfl) (by rfl) T.b_list (by decide +kernel) (pa_cons (pv 4) pa_nil)) pa_nil))))
      (pss_cons (ps_expr (k_bm (K := K) rfl PySem.F.plainAttrs_list PySem.F.slot_list_append PySem.F.type_list_append mt_append (pv 8) (pa_cons (pe_tup (pa_cons (pe_op op_pow pe_int pe_int) (pa_cons pe_str (pa_cons pe_str pa_nil)))) pa_nil)))
      (pss_cons (ps_if (PW.pt (pw_or (pt_not (k_tru (K := K) rfl (pe_call (ok__law_tells T) (hr.mono (by decide)) rfl T.m__law_tells T.F__law_tells.kp T.B__law_tells .nil pass0 (pa_cons (pv 7) (pa_cons pe_str (pa_cons (pv 3) (pa_cons (pv 5) pa_nil))))) (by intro _; rfl))) (pw_or1 (pt_not (k_tru (K := K) rfl (pe_call (ok__law_tells T) (hr.mono (by decide)) rfl T.m__law_tells T.F__law_tells.kp T.B__law_tells .nil pass0 (pa_cons (pv 7) (pa_cons pe_str (pa_cons (pv 4) (pa_cons (pv 5) pa_nil))))) (by intro _; rfl)))))) (pss_one (ps_ret pe_bl)) pss_nil)
      (pss_cons (ps_if (pt_cmpR (k_ne (K := K) rfl hu64) (pv 3) (pe_lst pa_nil) (nomark _)) (pss_cons (ps_if (PW.pt (pw_or (pt_not (k_tru (K := K) rfl (pe_call (ok__law_refused T) hr rfl T.m__law_refused T.F__law_refused.kp T.B__law_refused .nil pass0 (pa_cons (pv 7) (pa_cons pe_str (pa_cons (pe_op (k_add (K := K) rfl) (pv 3) (pe_lst (pa_cons (pe_ix (k_ix (K := K) rfl hu1) (pv 3) (pe_un un_neg pe_int) (fun _ _ => rfl)) pa_nil))) pa_nil)))) (by intro _; rfl))) (pw_or1 (pt_not (k_tru (K := K) rfl (pe_call (ok__law_refused T) hr rfl T.m__law_refused T.F__law_refused.kp T.B__law_refused .nil pass0 (pa_cons (pv 7) (pa_cons pe_str (pa_cons (pe_op (k_add (K := K) rfl) (pv 3) (pe_lst (pa_cons (pe_tup (pa_cons (pe_callB (k_max (K := K) rfl rfl) (by rfl) T.b_max (by decide +kernel) (pa_cons pe_int (pa_cons (pe_op op_sub (pe_ix (k_ix (K := K) rfl hu1) (pe_ix (k_ix (K := K) rfl hu1) (pv 3) pe_int (fun _ _ => rfl)) pe_int (fun _ _ => rfl)) pe_int) pa_nil))) (pa_cons pe_str (pa_cons pe_str pa_nil)))) pa_nil))) pa_nil)))) (by intro _; rfl)))))) (pss_one (ps_ret pe_bl)) pss_nil)
      (pss_cons (ps_expr (pe_meth (pv 7) T.cl_Contracts T.M_Contracts_set_history (ok_Contracts_set_history T) (hr.mono (by decide)) T.B_Contracts_set_history .nil passL (pa_cons pe_str (pa_cons (pe_call (ok__law_more T) (hr.mono (by decide)) rfl T.m__law_more T.F__law_more.kp T.B__law_more .nil pass0 (pa_cons (pv 3) (pa_cons (pv 2) pa_nil))) pa_nil))))
      (pss_cons (ps_if (pt_not (k_tru (K := K) rfl (pe_call (ok__law_tells T) (hr.mono (by decide)) rfl T.m__law_tells T.F__law_tells.kp T.B__law_tells .nil pass0 (pa_cons (pv 7) (pa_cons pe_str (pa_cons (pv 3) (pa_cons (pv 5) pa_nil))))) (by intro _; rfl))) (pss_one (ps_ret pe_bl)) pss_nil)
      (pss_cons (ps_set (i := 9) sc_law.nd rfl (by first | exact Or.inl rfl | exact Or.inr rfl) (pe_ix (k_ix (K := K) rfl hu1) (pv 5) (pe_call (ok__law_draw T) (hr.mono (by decide)) rfl T.m__law_draw T.F__law_draw.kp T.B__law_draw .nil pass0 (pa_cons (pv 2) (pa_cons (pe_callB (k_len (K := K) rfl) (by rfl) T.b_len (by decide +kernel) (pa_cons (pv 5) pa_nil)) pa_nil))) (fun _ _ => rfl)))
      (pss_cons (ps_expr (pe_meth (pv 7) T.cl_Contracts T.M_Contracts_set_history (ok_Contracts_set_history T) (hr.mono (by decide)) T.B_Contracts_set_history .nil passL (pa_cons pe_str (pa_cons (pe_lc (own := [("row", 6)]) rfl sc_law.nd (k_seq (K := K) rfl (pv 3)) (blkOk_by (N := N_law) (sc := defScope s_law) (by decide +kernel)) (fun _ _ _ _ _ => (pg_name (i := 6) sc_law.nd rfl (by first | exact Or.inl rfl | exact Or.inr rfl))) (fun _ _ _ _ _ => (pts_one (pt_cmpR op_le (pe_ix (k_ix (K := K) rfl hu1) (pv 6) pe_int (fun _ _ => rfl)) (pv 9) (nomark _)))) (fun _ _ _ _ _ => (pv 6))) pa_nil))))
      (pss_one (ps_if (pt_cmpR (k_ne (K := K) rfl hu64) (pe_meth (pv 7) T.cl_Contracts T.M_Contracts_in_force (ok_Contracts_in_force T) (hr.mono (by decide)) T.B_Contracts_in_force .nil pass0 (pa_cons pe_str (pa_cons (pv 9) pa_nil))) (pe_call (ok__law_due T) (hr.mono (by decide)) rfl T.m__law_due T.F__law_due.kp T.B__law_due .nil pass0 (pa_cons (pv 3) (pa_cons (pv 9) pa_nil))) (nomark _)) (pss_one (ps_ret pe_bl)) pss_nil))))))) pss_nil)
      (pss_cons (ps_expr (pe_meth (pv 7) T.cl_Contracts T.M_Contracts_set_history (ok_Contracts_set_history T) (hr.mono (by decide)) T.B_Contracts_set_history .nil passL (pa_cons pe_str (pa_cons (pe_lst pa_nil) pa_nil))))
      (pss_cons (ps_if (PW.pt (pw_or (pt_not (k_tru (K := K) rfl (pe_call (ok__law_tells T) (hr.mono (by decide)) rfl T.m__law_tells T.F__law_tells.kp T.B__law_tells .nil pass0 (pa_cons (pv 7) (pa_cons pe_str (pa_cons (pe_lst pa_nil) (pa_cons (pv 5) pa_nil))))) (by intro _; rfl))) (pw_or1 (pt_not (k_tru (K := K) rfl (pe_call (ok__law_tells T) (hr.mono (by decide)) rfl T.m__law_tells T.F__law_tells.kp T.B__law_tells .nil pass0 (pa_cons (pv 7) (pa_cons pe_str (pa_cons (pv 4) (pa_cons (pv 5) pa_nil))))) (by intro _; rfl)))))) (pss_one (ps_ret pe_bl)) pss_nil)
      (pss_one (ps_if (pt_cmpR op_notU (pe_meth (pv 7) T.cl_Contracts T.M_Contracts_in_force (ok_Contracts_in_force T) (hr.mono (by decide)) T.B_Contracts_in_force .nil pass0 (pa_cons pe_str (pa_cons pe_int pa_nil))) pe_non (nomark _)) (pss_one (ps_ret pe_bl)) pss_nil)))))))))))))))))
      (pss_one (ps_ret pe_bl))), ?_⟩
  try dsimp only [cxOf]
  rintro args own P XP ⟨ns, rfl, rfl, hl, hb, hq⟩
  show SS _ _ [some _, none, none, none, none, none, none, none, none, none] _ _
  refine ss_mid (fun _ _ => True) ?_ ?_
  · refine ss_for ?_
    walk_at "go"
    refine ⟨by omega, by omega, fun i sl o => ∃ u1 u2 u3 u4 u5 u6 u7 u8 u9, sl = [some (.scr (ns.map Dat.int)), u1, u2, u3, u4, u5, u6, u7, u8, u9], ⟨none, none, none, none, none, none, none, none, none, rfl⟩, fun _ _ _ _ => trivial, ?_, fun _ _ _ => trivial⟩
    rintro i x sl o hx ⟨u1, u2, u3, u4, u5, u6, u7, u8, u9, rfl⟩
    obtain ⟨hlt, rfl⟩ := rng_at hx
    walk_at "go"
    refine ⟨ns, i, 43, rfl, hl, hb, by omega, by omega, by decide, by decide, fun s hs => ?_⟩
    walk_at "go"
    refine ⟨s, rfl, rg0, fun rows hr => ?_⟩
    walk_at "go"
    refine ⟨s, rfl, rg0, fun other ho => ?_⟩
    have hrl := hr.len
    have hol := ho.len
    walk_at "go"
    refine ex_lst ?_
    walk_at "go"
    refine dr rg0 (by decide) (by decide) fun t0 t00 t01 => ?_
    walk_at "go"
    refine ss_forR hD (fun rest sl o' => ∃ pre, ∃ ts : List Int, ∃ u6 u7 u8 u9, sl = [some (.scr (ns.map Dat.int)), some (.int i), some (.ptr s), some (.lst (rows.map hD)), some (.lst (other.map hD)), some (.lst (ts.map Dat.int)), u6, u7, u8, u9] ∧ o' = (s, .rng) :: o ∧ rows ++ other = pre ++ rest ∧ ts.length = 3 + 3 * pre.length) (ix_s ?_)
    walk_at "go"
    refine add_lst (.inl rfl) (.inl rfl) (zle (by rw [List.length_map, List.length_map]; omega)) ?_
    refine ⟨_, .inl rfl, rows ++ other, by rw [List.map_append], ⟨[], [0, 10 ^ (6 : Int).toNat, t0], _, _, _, _, rfl, rfl, rfl, rfl⟩, fun _ _ _ _ => trivial, ?_, ?_⟩
    · rintro pre0 r rest sl o' _ ⟨pre, ts, u6, u7, u8, u9, rfl, rfl, hp, htl⟩
      have hpl := congrArg List.length hp
      rw [List.length_append, List.length_append, List.length_cons] at hpl
      walk_at "go"
      refine ex_lst ?_
      walk_at "go"
      refine add_lst (es := [Dat.int r.since, .int (r.since + 1), .int (max 0 (r.since - 1))]) (.inl rfl) (.inl rfl) (zle (by rw [List.length_map]; show _ + 3 ≤ _; omega)) ?_
      walk_at "go"
      exact ⟨pre ++ [r], ts ++ [r.since, r.since + 1, max 0 (r.since - 1)], _, _, _, _, by rw [List.map_append]; rfl, rfl, by rw [hp]; simp, by rw [List.length_append, List.length_append, htl]; show _ + 3 = 3 + 3 * (_ + 1); omega⟩
    rintro sl o' ⟨pre, ts, u6, u7, u8, u9, rfl, rfl, hp, htl⟩
    have hpl := congrArg List.length hp
    rw [List.length_append, List.append_nil] at hpl
    walk_at "go"
    refine ex_make ?_
    walk_at "go"
    intro c hc
    refine ⟨c, _, rfl, rfl, fun h => ⟨rfl, ?_⟩⟩
    walk_at "go"
    refine list_ofO (.inl (.inl (.inl rfl))) ?_
    walk_at "go"
    intro g hg
    have l41 : (Str.ofString "41").length ≤ 100 := by decide +kernel
    have l42 : (Str.ofString "42").length ≤ 100 := by decide +kernel
    walk_at "go"
    refine ⟨c, h, [_], _, "41", _, [], [], _, rows, rfl, rfl, ⟨rfl, Nat.zero_le _, fun j => rfl⟩, by decide, by omega, l41, .inl (.inr ⟨g, rfl, List.mem_cons_self⟩), fun _ ks1 vs1 hk1 hh1 => ?_, fun z => absurd hr.up z⟩
    have hh1 := hh1.congr (g := FF rows []) fun j => by
      have := ff1 [] [] rows j
      rw [← this]
      by_cases e : j = Str.ofString "41"
      · rw [if_pos e, if_pos e]
      · rw [if_neg e, if_neg e]; exact ff0 j
    have hk1 : ks1.length ≤ 1 := hk1
    walk_at "go"
    refine list_of (.inl (.inl (.inl rfl))) ?_
    walk_at "go"
    refine ⟨c, h, [_], _, "42", _, ks1, vs1, _, other, rfl, rfl, hh1, by omega, by omega, l42, .inl (.inl rfl), fun _ ks2 vs2 hk2 hh2 => ?_, fun z => absurd ho.up z⟩
    have hh2 := hh2.congr (g := FF rows other) fun j => ff2 rows [] other j
    walk_at "go"
    refine ex_bm ?_
    walk_at "go"
    refine ⟨ty_lst (.inl (.inr ⟨g, rfl, List.mem_cons_self⟩)), ?_⟩
    walk_at "go"
    refine app_lst (l := []) (by rw [List.length_map]; exact zl (by omega)) ?_
    walk_at "go"
    refine ⟨c, h, "41", ks2, vs2, _, rows, ts, rfl, by simp, by simp, hh2, hr.ok, fun t _ => by rw [ff41], ?_⟩
    walk_at "go"
    refine ⟨c, h, "42", ks2, vs2, _, other, ts, rfl, by simp, by simp, hh2, ho.ok, fun t _ => by rw [ff42], ?_⟩
    walk_at "1"
    walk_at "1"
    walk_at "1"
    show SS _ _ [_, _, _, _, _, _, _, _, _, _] ((g, _) :: (h, _) :: (c, cC ad h) :: (s, .rng) :: o) _
    refine ss_mid (fun sl o' => ∃ ks vs a u6 u8 u9, Hist ks vs (FF a other) ∧ ks.length ≤ 10 ∧ sl = [some (.scr (ns.map Dat.int)), some (.int i), some (.ptr s), some (.lst (rows.map hD)), some (.lst (other.map hD)), some (.lst (ts.map Dat.int)), u6, some (.ptr c), u8, u9] ∧ ∃ l r, o' = l ++ (h, hC ks vs) :: (c, cC ad h) :: r) ?_ ?_
    · refine ss_if ?_
      walk_at "go"
      refine ex_lst ?_
      walk_at "go"
      refine ne_lst (n := 2) (m := 2) (ds := rows.map hD) (es := []) (.inl rfl) (.inl rfl) (shL_of fun e he => by obtain ⟨r, hr2, rfl⟩ := List.mem_map.mp he; exact sh_hr (hr.ok r hr2)) .nil fun b hb => ?_
      refine ⟨_, rfl, ?_⟩
      show if (!b) = true then _ else _
      refine iteNB (fun hb2 => ?_) (fun hb2 => ?_)
      · have hne : rows ≠ [] := fun z => by
          rw [hb.mpr (by rw [z]; rfl)] at hb2; cases hb2
        obtain ⟨xs, q, hxs⟩ : ∃ xs q, rows = xs ++ [q] := ⟨_, _, (List.dropLast_concat_getLast hne).symm⟩
        obtain ⟨r0, rest, hr0⟩ : ∃ r0 rest, rows = r0 :: rest := List.exists_cons_of_ne_nil hne
        have hlast : atI (rows.map hD) (-1) = some (hD q) := by rw [hxs, List.map_append]; exact atI_last
        have hfirst : atI (rows.map hD) 0 = some (hD r0) := by rw [hr0]; exact at0
        have hrq : r0.since ≤ q.since := first_last hr.up hr0 hxs
        walk_at "go"
        refine ex_lst ?_
        walk_at "go"
        refine ix_lst (.inl (.inl rfl)) hlast ?_
        walk_at "go"
        refine add_lst (.inl rfl) (.inl rfl) (zle (by rw [List.length_map]; show _ + 1 ≤ _; omega)) ?_
        walk_at "go"
        refine ⟨c, h, [_], _, "41", ks2, vs2, _, rows ++ [q], by rw [List.map_append]; rfl, rfl, hh2, by omega, by rw [List.length_append]; show _ + 1 ≤ _; omega, l41, not_up hxs (Int.le_refl _), ?_⟩
        walk_at "go"
        refine ex_lst ?_
        walk_at "go"
        refine ix_lst (.inl (.inl rfl)) hfirst ?_
        walk_at "go"
        refine add_lst (.inl rfl) (.inl rfl) (zle (by rw [List.length_map]; show _ + 1 ≤ _; omega)) ?_
        walk_at "go"
        refine ⟨c, h, [_], _, "41", ks2, vs2, _, rows ++ [⟨max 0 (r0.since - 1), some "cy", "z"⟩], by rw [List.map_append]; rfl, rfl, hh2, by omega, by rw [List.length_append]; show _ + 1 ≤ _; omega, l41, not_up hxs (show max 0 (r0.since - 1) ≤ q.since by have := (hr.low r0 (by rw [hr0]; exact List.mem_cons_self)).1; omega), ?_⟩
        walk_at "go"
        refine ⟨s, rows, rfl, ⟨[_, _, _], _, rfl⟩, hr, hne, fun more hm => ?_⟩
        have hml := hm.len
        walk_at "go"
        refine ⟨c, h, [_], _, "41", _, ks2, vs2, _, more, rfl, rfl, hh2, by omega, by omega, l41, .inl (.inl rfl), fun _ ks3 vs3 hk3 hh3 => ?_, fun z => absurd hm.up z⟩
        have hh3 := hh3.congr (g := FF more other) fun j => ff1 rows other more j
        walk_at "go"
        refine ⟨c, h, "41", ks3, vs3, _, rows, ts, rfl, by simp, by simp, hh3, hr.ok, fun t _ => by rw [ff41]; exact hm.same t, ?_⟩
        walk_at "go"
        refine dr ⟨[_, _, _], _, rfl⟩ (by rw [List.length_map]; omega) (by rw [List.length_map]; omega) fun tp tp0 tp1 => ?_
        rw [List.length_map] at tp1
        obtain ⟨tm, _, htm⟩ := pick (f := Dat.int) tp0 tp1
        walk_at "go"
        refine ix_lst (.inl (.inl rfl)) htm ?_
        walk_at "go"
        refine ex_lcP hD hD (fun r => decide (r.since ≤ tm)) (ix_s ?_)
        walk_at "go"
        refine ⟨_, .inl rfl, rows, rfl, by omega, trivial, fun q hq => ?_, ?_⟩
        · walk_at "go"
          refine iteD (fun h => ?_) (fun h => ?_)
          · walk_at "go"
            exact ⟨decide_eq_true h, rfl, rfl⟩
          · exact ⟨decide_eq_false h, rfl⟩
        have hcl : (rows.filter fun r => decide (r.since ≤ tm)).length ≤ 6 := Nat.le_trans (List.length_filter_le _ _) hrl
        walk_at "go"
        refine ⟨c, h, [_], _, "41", _, ks3, vs3, _, rows.filter fun r => decide (r.since ≤ tm), rfl, rfl, hh3, by omega, by omega, l41, .inl (.inl rfl), fun _ ks4 vs4 hk4 hh4 => ?_, fun z => absurd (up_cut hr.up _) z⟩
        have hh4 := hh4.congr (g := FF (rows.filter fun r => decide (r.since ≤ tm)) other) fun j => ff1 more other _ j
        walk_at "go"
        refine ⟨c, h, "41", tm, ks4, vs4, _, rfl, by simp, by simp, hh4, ?_⟩
        rw [ff41, due_cut]
        walk_at "go"
        refine ⟨rows, tm, rfl, ?_⟩
        refine ne_same (sh_due (due_ok hr.ok)) rfl ?_
        walk_at "go"
        exact ⟨ks4, vs4, _, _, _, _, hh4, by omega, rfl, [_], _, rfl⟩
      · walk_at "go"
        exact ⟨ks2, vs2, _, _, _, _, hh2, by omega, rfl, [_], _, rfl⟩
    rintro sl o' ⟨ks, vs, a, u6, u8, u9, hh, hkl, rfl, lo, ro, rfl⟩
    have hcm : (c, cC ad h) ∈ lo ++ (h, hC ks vs) :: (c, cC ad h) :: ro := List.mem_append_right _ (List.mem_cons_of_mem _ List.mem_cons_self)
    walk_at "go"
    refine ex_lst ?_
    walk_at "go"
    refine ⟨c, h, lo, ro, "41", _, ks, vs, _, [], rfl, rfl, hh, by omega, by decide, l41, .inl (.inl rfl), fun _ ks5 vs5 hk5 hh5 => ?_, fun z => absurd (fun i a b h => by simp at h) z⟩
    have hh5 := hh5.congr (g := FF [] other) fun j => ff1 a other [] j
    have hcm5 : (c, cC ad h) ∈ lo ++ (h, hC ks5 vs5) :: (c, cC ad h) :: ro := List.mem_append_right _ (List.mem_cons_of_mem _ List.mem_cons_self)
    have hhm5 : (h, hC ks5 vs5) ∈ lo ++ (h, hC ks5 vs5) :: (c, cC ad h) :: ro := List.mem_append_right _ List.mem_cons_self
    walk_at "go"
    refine ex_lst ?_
    walk_at "go"
    refine ⟨c, h, "41", ks5, vs5, _, [], ts, rfl, hcm5, hhm5, hh5, fun r h => (List.not_mem_nil h).elim, fun t _ => by rw [ff41], ?_⟩
    walk_at "go"
    refine ⟨c, h, "42", ks5, vs5, _, other, ts, rfl, hcm5, hhm5, hh5, ho.ok, fun t _ => by rw [ff42], ?_⟩
    walk_at "go"
    refine ⟨c, h, "43", 5, ks5, vs5, _, rfl, hcm5, hhm5, hh5, ?_⟩
    rw [ff43]
    walk_at "go"
    refine ntn_non ?_
    walk_at "go"
    exact ⟨_, _, _, _, _, _, _, _, _, rfl⟩
  · intro sl o _
    walk_at "go"
    exact hq _
end

theorem all_mk {l : PySem.W.OpenLaw} {w : World} {K : PySem.W.Frag} {h : Heap} {mg : Str → Option Value} {fa : Addr} (X : K.In h) (G : h.Ns mainGlobals mg) (hfa : mg "law" = some (.ref fa))
    {c_BadHistory : Addr} {a_BadHistory_init cc_BadHistory cda_BadHistory : Addr} {od_BadHistory an_BadHistory cld_BadHistory cdd_BadHistory dd_BadHistory : Option Addr} {sl_BadHistory csl_BadHistory ccs_BadHistory : Array (Option Value)} {oc_BadHistory kV_BadHistory dc_BadHistory pm_BadHistory ct_BadHistory cl_BadHistory ccl_BadHistory : Value} {cvs_BadHistory : Array Value} {fl_BadHistory nm_BadHistory qn_BadHistory : Str} {tf_BadHistory : Tok} {N_BadHistory : Addr} {bs_BadHistory bm_BadHistory sub_BadHistory : List Value} {sn_BadHistory : List Str} {ab_BadHistory : Bool} {col_BadHistory : Option Bool} {k0_BadHistory k1_BadHistory k2_BadHistory k3_BadHistory k5_BadHistory : Option Value} {c_Contracts : Addr}
    {a__law_state : Addr} {od__law_state an__law_state : Option Addr} {sl__law_state : Array (Option Value)} {oc__law_state kV__law_state dc__law_state pm__law_state cd__law_state ct__law_state : Value}
    {a__law_draw : Addr} {od__law_draw an__law_draw : Option Addr} {sl__law_draw : Array (Option Value)} {oc__law_draw kV__law_draw dc__law_draw pm__law_draw cd__law_draw ct__law_draw : Value}
    {a__law_history : Addr} {od__law_history an__law_history : Option Addr} {sl__law_history : Array (Option Value)} {oc__law_history kV__law_history dc__law_history pm__law_history cd__law_history ct__law_history : Value}
    {a_Contracts_init : Addr} {od_Contracts_init an_Contracts_init : Option Addr} {sl_Contracts_init : Array (Option Value)} {oc_Contracts_init kV_Contracts_init dc_Contracts_init pm_Contracts_init cd_Contracts_init ct_Contracts_init : Value}
    {a_Contracts_set_history : Addr} {od_Contracts_set_history an_Contracts_set_history : Option Addr} {sl_Contracts_set_history : Array (Option Value)} {oc_Contracts_set_history kV_Contracts_set_history dc_Contracts_set_history pm_Contracts_set_history cd_Contracts_set_history ct_Contracts_set_history : Value}
    {a_Contracts_in_force : Addr} {od_Contracts_in_force an_Contracts_in_force : Option Addr} {sl_Contracts_in_force : Array (Option Value)} {oc_Contracts_in_force kV_Contracts_in_force dc_Contracts_in_force pm_Contracts_in_force cd_Contracts_in_force ct_Contracts_in_force : Value}
    {a__law_due : Addr} {od__law_due an__law_due : Option Addr} {sl__law_due : Array (Option Value)} {oc__law_due kV__law_due dc__law_due pm__law_due cd__law_due ct__law_due : Value}
    {a__law_tells : Addr} {od__law_tells an__law_tells : Option Addr} {sl__law_tells : Array (Option Value)} {oc__law_tells kV__law_tells dc__law_tells pm__law_tells cd__law_tells ct__law_tells : Value}
    {a__law_more : Addr} {od__law_more an__law_more : Option Addr} {sl__law_more : Array (Option Value)} {oc__law_more kV__law_more dc__law_more pm__law_more cd__law_more ct__law_more : Value}
    {a__law_refused : Addr} {od__law_refused an__law_refused : Option Addr} {sl__law_refused : Array (Option Value)} {oc__law_refused kV__law_refused dc__law_refused pm__law_refused cd__law_refused ct__law_refused : Value}
    {a_law : Addr} {od_law an_law : Option Addr} {sl_law : Array (Option Value)} {oc_law kV_law dc_law pm_law cd_law ct_law : Value}
    (y_Contracts : PySem.W.nsIn K mainGlobals "Contracts" = some (some (.ref c_Contracts)))
    (x__law_state : PySem.W.nsIn K mainGlobals "_law_state" = some (some (.ref a__law_state)))
    (l__law_state : K.lookup a__law_state = some ⟨oc__law_state, od__law_state, .func (PySem.W.fnOf "_law_state" "_law_state" (defArgs s__law_state) (defBody s__law_state) (defScope s__law_state) .none kV__law_state dc__law_state pm__law_state an__law_state cd__law_state ct__law_state), sl__law_state⟩)
    (e__law_state : PySem.W.codeIn K cd__law_state "_law_state" = true)
    (k__law_state : PySem.W.keepIn K (.ref a__law_state) = true)
    (x__law_draw : PySem.W.nsIn K mainGlobals "_law_draw" = some (some (.ref a__law_draw)))
    (l__law_draw : K.lookup a__law_draw = some ⟨oc__law_draw, od__law_draw, .func (PySem.W.fnOf "_law_draw" "_law_draw" (defArgs s__law_draw) (defBody s__law_draw) (defScope s__law_draw) .none kV__law_draw dc__law_draw pm__law_draw an__law_draw cd__law_draw ct__law_draw), sl__law_draw⟩)
    (e__law_draw : PySem.W.codeIn K cd__law_draw "_law_draw" = true)
    (k__law_draw : PySem.W.keepIn K (.ref a__law_draw) = true)
    (x__law_history : PySem.W.nsIn K mainGlobals "_law_history" = some (some (.ref a__law_history)))
    (l__law_history : K.lookup a__law_history = some ⟨oc__law_history, od__law_history, .func (PySem.W.fnOf "_law_history" "_law_history" (defArgs s__law_history) (defBody s__law_history) (defScope s__law_history) .none kV__law_history dc__law_history pm__law_history an__law_history cd__law_history ct__law_history), sl__law_history⟩)
    (e__law_history : PySem.W.codeIn K cd__law_history "_law_history" = true)
    (k__law_history : PySem.W.keepIn K (.ref a__law_history) = true)
    (x_Contracts_init : PySem.W.findIn K (.ref c_Contracts) "__init__" = some (some (.ref a_Contracts_init)))
    (i_Contracts_init : PySem.W.isFn K (.ref a_Contracts_init) = true)
    (l_Contracts_init : K.lookup a_Contracts_init = some ⟨oc_Contracts_init, od_Contracts_init, .func (PySem.W.fnOf "__init__" "Contracts.__init__" (defArgs s_Contracts_init) (defBody s_Contracts_init) (defScope s_Contracts_init) .none kV_Contracts_init dc_Contracts_init pm_Contracts_init an_Contracts_init cd_Contracts_init ct_Contracts_init), sl_Contracts_init⟩)
    (e_Contracts_init : PySem.W.codeIn K cd_Contracts_init "Contracts.__init__" = true)
    (k_Contracts_init : PySem.W.keepIn K (.ref a_Contracts_init) = true)
    (x_Contracts_set_history : PySem.W.findIn K (.ref c_Contracts) "set_history" = some (some (.ref a_Contracts_set_history)))
    (i_Contracts_set_history : PySem.W.isFn K (.ref a_Contracts_set_history) = true)
    (l_Contracts_set_history : K.lookup a_Contracts_set_history = some ⟨oc_Contracts_set_history, od_Contracts_set_history, .func (PySem.W.fnOf "set_history" "Contracts.set_history" (defArgs s_Contracts_set_history) (defBody s_Contracts_set_history) (defScope s_Contracts_set_history) .none kV_Contracts_set_history dc_Contracts_set_history pm_Contracts_set_history an_Contracts_set_history cd_Contracts_set_history ct_Contracts_set_history), sl_Contracts_set_history⟩)
    (e_Contracts_set_history : PySem.W.codeIn K cd_Contracts_set_history "Contracts.set_history" = true)
    (k_Contracts_set_history : PySem.W.keepIn K (.ref a_Contracts_set_history) = true)
    (x_Contracts_in_force : PySem.W.findIn K (.ref c_Contracts) "in_force" = some (some (.ref a_Contracts_in_force)))
    (i_Contracts_in_force : PySem.W.isFn K (.ref a_Contracts_in_force) = true)
    (l_Contracts_in_force : K.lookup a_Contracts_in_force = some ⟨oc_Contracts_in_force, od_Contracts_in_force, .func (PySem.W.fnOf "in_force" "Contracts.in_force" (defArgs s_Contracts_in_force) (defBody s_Contracts_in_force) (defScope s_Contracts_in_force) .none kV_Contracts_in_force dc_Contracts_in_force pm_Contracts_in_force an_Contracts_in_force cd_Contracts_in_force ct_Contracts_in_force), sl_Contracts_in_force⟩)
    (e_Contracts_in_force : PySem.W.codeIn K cd_Contracts_in_force "Contracts.in_force" = true)
    (k_Contracts_in_force : PySem.W.keepIn K (.ref a_Contracts_in_force) = true)
    (x__law_due : PySem.W.nsIn K mainGlobals "_law_due" = some (some (.ref a__law_due)))
    (l__law_due : K.lookup a__law_due = some ⟨oc__law_due, od__law_due, .func (PySem.W.fnOf "_law_due" "_law_due" (defArgs s__law_due) (defBody s__law_due) (defScope s__law_due) .none kV__law_due dc__law_due pm__law_due an__law_due cd__law_due ct__law_due), sl__law_due⟩)
    (e__law_due : PySem.W.codeIn K cd__law_due "_law_due" = true)
    (k__law_due : PySem.W.keepIn K (.ref a__law_due) = true)
    (x__law_tells : PySem.W.nsIn K mainGlobals "_law_tells" = some (some (.ref a__law_tells)))
    (l__law_tells : K.lookup a__law_tells = some ⟨oc__law_tells, od__law_tells, .func (PySem.W.fnOf "_law_tells" "_law_tells" (defArgs s__law_tells) (defBody s__law_tells) (defScope s__law_tells) .none kV__law_tells dc__law_tells pm__law_tells an__law_tells cd__law_tells ct__law_tells), sl__law_tells⟩)
    (e__law_tells : PySem.W.codeIn K cd__law_tells "_law_tells" = true)
    (k__law_tells : PySem.W.keepIn K (.ref a__law_tells) = true)
    (x__law_more : PySem.W.nsIn K mainGlobals "_law_more" = some (some (.ref a__law_more)))
    (l__law_more : K.lookup a__law_more = some ⟨oc__law_more, od__law_more, .func (PySem.W.fnOf "_law_more" "_law_more" (defArgs s__law_more) (defBody s__law_more) (defScope s__law_more) .none kV__law_more dc__law_more pm__law_more an__law_more cd__law_more ct__law_more), sl__law_more⟩)
    (e__law_more : PySem.W.codeIn K cd__law_more "_law_more" = true)
    (k__law_more : PySem.W.keepIn K (.ref a__law_more) = true)
    (x__law_refused : PySem.W.nsIn K mainGlobals "_law_refused" = some (some (.ref a__law_refused)))
    (l__law_refused : K.lookup a__law_refused = some ⟨oc__law_refused, od__law_refused, .func (PySem.W.fnOf "_law_refused" "_law_refused" (defArgs s__law_refused) (defBody s__law_refused) (defScope s__law_refused) .none kV__law_refused dc__law_refused pm__law_refused an__law_refused cd__law_refused ct__law_refused), sl__law_refused⟩)
    (e__law_refused : PySem.W.codeIn K cd__law_refused "_law_refused" = true)
    (k__law_refused : PySem.W.keepIn K (.ref a__law_refused) = true)
    (x_law : PySem.W.nsIn K mainGlobals "law" = some (some (.ref a_law)))
    (l_law : K.lookup a_law = some ⟨oc_law, od_law, .func (PySem.W.fnOf "law" "law" (defArgs s_law) (defBody s_law) (defScope s_law) .none kV_law dc_law pm_law an_law cd_law ct_law), sl_law⟩)
    (e_law : PySem.W.codeIn K cd_law "law" = true)
    (k_law : PySem.W.keepIn K (.ref a_law) = true)
    (y_BadHistory : PySem.W.nsIn K mainGlobals "BadHistory" = some (some (.ref c_BadHistory)))
    (k_BadHistory : PySem.W.keepIn K (.ref c_BadHistory) = true)
    (bE_BadHistory : PySem.W.subIn K (.ref c_BadHistory) (.type "BaseException") = some true)
    (tE_BadHistory : PySem.W.typeIn K (.ref c_BadHistory) = some (.type "type"))
    (iI_BadHistory : PySem.W.findIn K (.ref c_BadHistory) "__init__" = some (some (.ref a_BadHistory_init)))
    (tI_BadHistory : PySem.W.typeIn K (.ref a_BadHistory_init) = some (.type "function"))
    (l_BadHistory : K.lookup a_BadHistory_init = some ⟨oc_BadHistory, od_BadHistory, .func (PySem.W.ksFn "__init__" "BadHistory.__init__" (defArgs s_BadHistory_init) (defBody s_BadHistory_init) (defScope s_BadHistory_init) .none kV_BadHistory dc_BadHistory pm_BadHistory an_BadHistory (.ref cda_BadHistory) ct_BadHistory cc_BadHistory), sl_BadHistory⟩)
    (e_BadHistory : PySem.W.codeIn K (.ref cda_BadHistory) "BadHistory.__init__" = true)
    (q_BadHistory : K.lookup cda_BadHistory = some ⟨ccl_BadHistory, cdd_BadHistory, .fields cvs_BadHistory, ccs_BadHistory⟩)
    (qv_BadHistory : cvs_BadHistory[2]? = some (.str fl_BadHistory tf_BadHistory))
    (qf_BadHistory : ((l.prog.main.file : Str) == fl_BadHistory) = true)
    (qc_BadHistory : K.lookup cc_BadHistory = some ⟨cl_BadHistory, cld_BadHistory, .cell (some (.ref c_BadHistory)), csl_BadHistory⟩)
    (qs_BadHistory : PySem.W.mroIn K c_BadHistory (.ref c_BadHistory) = some true)
    (qm_BadHistory : PySem.W.ks_superIn K c_BadHistory c_BadHistory "__init__" = some (some (.builtin "ValueError.__init__")))
    (qB_BadHistory : PySem.W.subIn K (.ref c_BadHistory) (.type "ValueError") = some true)
    (qk_BadHistory : K.lookup c_BadHistory = some (excClassObj nm_BadHistory qn_BadHistory c_BadHistory N_BadHistory bs_BadHistory bm_BadHistory true sn_BadHistory sub_BadHistory ab_BadHistory col_BadHistory dd_BadHistory k0_BadHistory k1_BadHistory k2_BadHistory k3_BadHistory k5_BadHistory "ValueError.__new__"))
    (qr_BadHistory : PySem.HandSPX.refsVE bm_BadHistory = true)
    (sa_BadHistory : PySem.W.findIn K (.ref c_BadHistory) "__setattr__" = some (some (.builtin "object.__setattr__")))
    (xf_BadHistory : xfB K c_BadHistory = true)
    (nf_BadHistory_line : PySem.W.findIn K (.ref c_BadHistory) "line" = some none)
    (ex_BadHistory_BadHistory : PySem.W.exmOne K (.ref c_BadHistory) (.ref c_BadHistory) = some true)
    (z_super : PySem.W.nsIn K mainGlobals "super" = some none)
    (z_st : PySem.W.nsIn K cStatics "thirdparty.any" = some none)
    (z_top : (l.prog.main.scope.names.lookup ("super" : Str)).isSome = false)
    (pg_Contracts : PySem.W.plainGet K c_Contracts Str.empty = true)
    (hd_Contracts : PySem.W.hasDictIn K c_Contracts = true)
    (po_Contracts : PySem.W.plainOver K c_Contracts = true)
    (sa_Contracts : PySem.W.findIn K (.ref c_Contracts) "__setattr__" = some (some (.builtin "object.__setattr__")))
    (mk_Contracts : PySem.W.makesIn K c_Contracts = true)
    (kc_Contracts : PySem.W.keepIn K (.ref c_Contracts) = true)
    (n_Contracts_histories : PySem.W.findIn K (.ref c_Contracts) "histories" = some none)
    (z_int : PySem.W.nsIn K mainGlobals "int" = some none)
    (z_len : PySem.W.nsIn K mainGlobals "len" = some none)
    (z_list : PySem.W.nsIn K mainGlobals "list" = some none)
    (z_max : PySem.W.nsIn K mainGlobals "max" = some none)
    (z_min : PySem.W.nsIn K mainGlobals "min" = some none)
    (z_range : PySem.W.nsIn K mainGlobals "range" = some none)
    (z_tuple : PySem.W.nsIn K mainGlobals "tuple" = some none) :
    ∃ fd : FuncData, (∀ (s : Shared) (v : Value), BindsTo s fd ⟨[v], []⟩ [("script", v)]) ∧ ∀ base : Heap, K.In base → base.Ns mainGlobals mg → FnOk l.prog w K mg base CX0 7 fa fd ["script"] (SpG K con_law0) := by
  have e := hfa.symm.trans (PySem.W.mg_of X G x_law)
  have e2 : a_law = fa := by injection e with e; injection e with e; exact e.symm
  subst e2
  have F__law_state := fun_mk (st := s__law_state) l__law_state e__law_state k__law_state
  have F__law_draw := fun_mk (st := s__law_draw) l__law_draw e__law_draw k__law_draw
  have F__law_history := fun_mk (st := s__law_history) l__law_history e__law_history k__law_history
  have F_Contracts_init := fun_mk (st := s_Contracts_init) l_Contracts_init e_Contracts_init k_Contracts_init
  have F_Contracts_set_history := fun_mk (st := s_Contracts_set_history) l_Contracts_set_history e_Contracts_set_history k_Contracts_set_history
  have F_Contracts_in_force := fun_mk (st := s_Contracts_in_force) l_Contracts_in_force e_Contracts_in_force k_Contracts_in_force
  have F__law_due := fun_mk (st := s__law_due) l__law_due e__law_due k__law_due
  have F__law_tells := fun_mk (st := s__law_tells) l__law_tells e__law_tells k__law_tells
  have F__law_more := fun_mk (st := s__law_more) l__law_more e__law_more k__law_more
  have F__law_refused := fun_mk (st := s__law_refused) l__law_refused e__law_refused k__law_refused
  have F_law := fun_mk (st := s_law) l_law e_law k_law
  have T : Tx l.prog K mg ⟨a__law_state, PySem.W.fnOf "_law_state" "_law_state" (defArgs s__law_state) (defBody s__law_state) (defScope s__law_state) .none kV__law_state dc__law_state pm__law_state an__law_state cd__law_state ct__law_state, a__law_draw, PySem.W.fnOf "_law_draw" "_law_draw" (defArgs s__law_draw) (defBody s__law_draw) (defScope s__law_draw) .none kV__law_draw dc__law_draw pm__law_draw an__law_draw cd__law_draw ct__law_draw, a__law_history, PySem.W.fnOf "_law_history" "_law_history" (defArgs s__law_history) (defBody s__law_history) (defScope s__law_history) .none kV__law_history dc__law_history pm__law_history an__law_history cd__law_history ct__law_history, a_Contracts_init, PySem.W.fnOf "__init__" "Contracts.__init__" (defArgs s_Contracts_init) (defBody s_Contracts_init) (defScope s_Contracts_init) .none kV_Contracts_init dc_Contracts_init pm_Contracts_init an_Contracts_init cd_Contracts_init ct_Contracts_init, a_Contracts_set_history, PySem.W.fnOf "set_history" "Contracts.set_history" (defArgs s_Contracts_set_history) (defBody s_Contracts_set_history) (defScope s_Contracts_set_history) .none kV_Contracts_set_history dc_Contracts_set_history pm_Contracts_set_history an_Contracts_set_history cd_Contracts_set_history ct_Contracts_set_history, a_Contracts_in_force, PySem.W.fnOf "in_force" "Contracts.in_force" (defArgs s_Contracts_in_force) (defBody s_Contracts_in_force) (defScope s_Contracts_in_force) .none kV_Contracts_in_force dc_Contracts_in_force pm_Contracts_in_force an_Contracts_in_force cd_Contracts_in_force ct_Contracts_in_force, a__law_due, PySem.W.fnOf "_law_due" "_law_due" (defArgs s__law_due) (defBody s__law_due) (defScope s__law_due) .none kV__law_due dc__law_due pm__law_due an__law_due cd__law_due ct__law_due, a__law_tells, PySem.W.fnOf "_law_tells" "_law_tells" (defArgs s__law_tells) (defBody s__law_tells) (defScope s__law_tells) .none kV__law_tells dc__law_tells pm__law_tells an__law_tells cd__law_tells ct__law_tells, a__law_more, PySem.W.fnOf "_law_more" "_law_more" (defArgs s__law_more) (defBody s__law_more) (defScope s__law_more) .none kV__law_more dc__law_more pm__law_more an__law_more cd__law_more ct__law_more, a__law_refused, PySem.W.fnOf "_law_refused" "_law_refused" (defArgs s__law_refused) (defBody s__law_refused) (defScope s__law_refused) .none kV__law_refused dc__law_refused pm__law_refused an__law_refused cd__law_refused ct__law_refused, a_law, PySem.W.fnOf "law" "law" (defArgs s_law) (defBody s_law) (defScope s_law) .none kV_law dc_law pm_law an_law cd_law ct_law, c_Contracts, c_BadHistory, a_BadHistory_init, PySem.W.ksFn "__init__" "BadHistory.__init__" (defArgs s_BadHistory_init) (defBody s_BadHistory_init) (defScope s_BadHistory_init) .none kV_BadHistory dc_BadHistory pm_BadHistory an_BadHistory (.ref cda_BadHistory) ct_BadHistory cc_BadHistory⟩ := {
    m_BadHistory := PySem.W.mg_of X G y_BadHistory
    k_BadHistory := k_BadHistory
    bE_BadHistory := bE_BadHistory
    tE_BadHistory := tE_BadHistory
    O_BadHistory := ⟨⟨_, _, _, _, _, _, _, _, _, _, _, _, _, _, _, qk_BadHistory, qr_BadHistory⟩, sa_BadHistory, bE_BadHistory, tE_BadHistory, k_BadHistory⟩
    X_BadHistory := xfB_ok xf_BadHistory
    iI_BadHistory := iI_BadHistory
    tI_BadHistory := tI_BadHistory
    BI_BadHistory := .all fun us hl => match us, hl with | [_, _], _ => rfl
    L_BadHistory := ⟨_, _, _, _, _, _, _, _, _, _, _, _, _, _, _, _, _, _, _, rfl, l_BadHistory, e_BadHistory, q_BadHistory, qv_BadHistory, qf_BadHistory, qc_BadHistory, qs_BadHistory, PySem.W.mg_none_of X G z_super, z_top, z_st, qm_BadHistory, qB_BadHistory⟩
    nf_BadHistory_line := nf_BadHistory_line
    ex_BadHistory_BadHistory := ex_BadHistory_BadHistory
    b_int := PySem.W.mg_none_of X G z_int
    b_len := PySem.W.mg_none_of X G z_len
    b_list := PySem.W.mg_none_of X G z_list
    b_max := PySem.W.mg_none_of X G z_max
    b_min := PySem.W.mg_none_of X G z_min
    b_range := PySem.W.mg_none_of X G z_range
    b_tuple := PySem.W.mg_none_of X G z_tuple
    m__law_state := PySem.W.mg_of X G x__law_state
    F__law_state := F__law_state
    B__law_state := F__law_state.binds (ps := ["script", "k", "salt"]) fun _ _ _ _ _ _ us hl => match us, hl with | [_, _, _], _ => rfl
    m__law_draw := PySem.W.mg_of X G x__law_draw
    F__law_draw := F__law_draw
    B__law_draw := F__law_draw.binds (ps := ["state", "many"]) fun _ _ _ _ _ _ us hl => match us, hl with | [_, _], _ => rfl
    m__law_history := PySem.W.mg_of X G x__law_history
    F__law_history := F__law_history
    B__law_history := F__law_history.binds (ps := ["state"]) fun _ _ _ _ _ _ us hl => match us, hl with | [_], _ => rfl
    F_Contracts_init := F_Contracts_init
    B_Contracts_init := F_Contracts_init.binds (ps := ["self"]) fun _ _ _ _ _ _ us hl => match us, hl with | [_], _ => rfl
    F_Contracts_set_history := F_Contracts_set_history
    B_Contracts_set_history := F_Contracts_set_history.binds (ps := ["self", "line", "rows"]) fun _ _ _ _ _ _ us hl => match us, hl with | [_, _, _], _ => rfl
    M_Contracts_set_history := ⟨x_Contracts_set_history, i_Contracts_set_history, k_Contracts_set_history⟩
    F_Contracts_in_force := F_Contracts_in_force
    B_Contracts_in_force := F_Contracts_in_force.binds (ps := ["self", "line", "clock"]) fun _ _ _ _ _ _ us hl => match us, hl with | [_, _, _], _ => rfl
    M_Contracts_in_force := ⟨x_Contracts_in_force, i_Contracts_in_force, k_Contracts_in_force⟩
    m__law_due := PySem.W.mg_of X G x__law_due
    F__law_due := F__law_due
    B__law_due := F__law_due.binds (ps := ["rows", "clock"]) fun _ _ _ _ _ _ us hl => match us, hl with | [_, _], _ => rfl
    m__law_tells := PySem.W.mg_of X G x__law_tells
    F__law_tells := F__law_tells
    B__law_tells := F__law_tells.binds (ps := ["contracts", "line", "rows", "times"]) fun _ _ _ _ _ _ us hl => match us, hl with | [_, _, _, _], _ => rfl
    m__law_more := PySem.W.mg_of X G x__law_more
    F__law_more := F__law_more
    B__law_more := F__law_more.binds (ps := ["rows", "state"]) fun _ _ _ _ _ _ us hl => match us, hl with | [_, _], _ => rfl
    m__law_refused := PySem.W.mg_of X G x__law_refused
    F__law_refused := F__law_refused
    B__law_refused := F__law_refused.binds (ps := ["contracts", "line", "rows"]) fun _ _ _ _ _ _ us hl => match us, hl with | [_, _, _], _ => rfl
    m_law := PySem.W.mg_of X G x_law
    F_law := F_law
    B_law := F_law.binds (ps := ["script"]) fun _ _ _ _ _ _ us hl => match us, hl with | [_], _ => rfl
    m_Contracts := PySem.W.mg_of X G y_Contracts
    cl_Contracts := ⟨pg_Contracts, hd_Contracts, po_Contracts, sa_Contracts⟩
    K_Contracts := ⟨mk_Contracts, x_Contracts_init, i_Contracts_init, kc_Contracts⟩
    n_Contracts_histories := n_Contracts_histories }
  exact ⟨_, fun s v => .of_eq rfl, fun base _ _ => ok_law T⟩
theorem walk {l : PySem.W.OpenLaw} {q : Program} {loose : List Str} {XP : (Str → Option Value) → Heap → Prop} {YP : World → Heap → Prop} {d : DefRec} {K : Params → PySem.W.Frag} (hn : l.most = some 63) (hdf : d.params.defaults = [])
    (hY : ∀ (w : World) (h : Heap), YP w h → (K w.params).In h)
    (F : ∀ (w : World) (mg : Str → Option Value) (fa : Addr) (h : Heap), (K w.params).In h → h.Ns mainGlobals mg → mg d.name = some (.ref fa) →
      ∃ fd : FuncData, (∀ (s : Shared) (u : Value), BindsTo s fd ⟨[u], []⟩ [("script", u)]) ∧ ∀ base : Heap, (K w.params).In base → base.Ns mainGlobals mg → FnOk l.prog w (K w.params) mg base CX0 7 fa fd ["script"] (SpG (K w.params) con_law0)) :
    PySem.W.WalkO q loose XP YP l.row.toRowW d [] (fun f vs => PySem.call f vs) :=
  L2.walk_ofB (n := 63) (k := 7) (x := "script") (CX := fun _ => CX0) (sp := fun w => SpG (K w.params) con_law0) hn (by decide) hdf ⟨rfl, by decide, by decide⟩ hY F (fun w H a ns hl hb _ hS => law_start hl hb hS) fun _ _ _ _ _ z => z
end Law
open PySem PySem.W PyProof.Rows
set_option maxRecDepth 100000 in
set_option maxHeartbeats 0 in
theorem PySem.Challenge.cw_copperline_k16_histories_that_say_the_sa_holds : PySem.Challenge.rw_copperline_k16_histories_that_say_the_sa.Holds := by
  w_on; o_law; k_head; (case hw => w_witness2)
  k_fill
  refine Law.walk (l := PySem.Challenge.rw_copperline_k16_histories_that_say_the_sa) rfl rfl (fun w h Y => PySem.W.kIn_of Y) ?F
  case F =>
    intro w mg fa h KX G hmg
    refine' Law.all_mk KX G hmg ?y_Contracts ?x__law_state ?l__law_state ?e__law_state ?k__law_state ?x__law_draw ?l__law_draw ?e__law_draw ?k__law_draw ?x__law_history ?l__law_history ?e__law_history ?k__law_history ?x_Contracts_init ?i_Contracts_init ?l_Contracts_init ?e_Contracts_init ?k_Contracts_init ?x_Contracts_set_history ?i_Contracts_set_history ?l_Contracts_set_history ?e_Contracts_set_history ?k_Contracts_set_history ?x_Contracts_in_force ?i_Contracts_in_force ?l_Contracts_in_force ?e_Contracts_in_force ?k_Contracts_in_force ?x__law_due ?l__law_due ?e__law_due ?k__law_due ?x__law_tells ?l__law_tells ?e__law_tells ?k__law_tells ?x__law_more ?l__law_more ?e__law_more ?k__law_more ?x__law_refused ?l__law_refused ?e__law_refused ?k__law_refused ?x_law ?l_law ?e_law ?k_law ?y_BadHistory ?k_BadHistory ?bE_BadHistory ?tE_BadHistory ?iI_BadHistory ?tI_BadHistory ?l_BadHistory ?e_BadHistory ?q_BadHistory ?qv_BadHistory ?qf_BadHistory ?qc_BadHistory ?qs_BadHistory ?qm_BadHistory ?qB_BadHistory ?qk_BadHistory ?qr_BadHistory ?sa_BadHistory ?xf_BadHistory ?nf_BadHistory_line ?ex_BadHistory_BadHistory ?z_super ?z_st ?z_top ?pg_Contracts ?hd_Contracts ?po_Contracts ?sa_Contracts ?mk_Contracts ?kc_Contracts ?n_Contracts_histories ?z_int ?z_len ?z_list ?z_max ?z_min ?z_range ?z_tuple
    (case y_Contracts => k_is)
    (case x__law_state => k_is)
    (case l__law_state => k_is)
    (case e__law_state => k_is)
    (case k__law_state => k_is)
    (case x__law_draw => k_is)
    (case l__law_draw => k_is)
    (case e__law_draw => k_is)
    (case k__law_draw => k_is)
    (case x__law_history => k_is)
    (case l__law_history => k_is)
    (case e__law_history => k_is)
    (case k__law_history => k_is)
    (case x_Contracts_init => k_is)
    (case i_Contracts_init => k_is)
    (case l_Contracts_init => k_is)
    (case e_Contracts_init => k_is)
    (case k_Contracts_init => k_is)
    (case x_Contracts_set_history => k_is)
    (case i_Contracts_set_history => k_is)
    (case l_Contracts_set_history => k_is)
    (case e_Contracts_set_history => k_is)
    (case k_Contracts_set_history => k_is)
    (case x_Contracts_in_force => k_is)
    (case i_Contracts_in_force => k_is)
    (case l_Contracts_in_force => k_is)
    (case e_Contracts_in_force => k_is)
    (case k_Contracts_in_force => k_is)
    (case x__law_due => k_is)
    (case l__law_due => k_is)
    (case e__law_due => k_is)
    (case k__law_due => k_is)
    (case x__law_tells => k_is)
    (case l__law_tells => k_is)
    (case e__law_tells => k_is)
    (case k__law_tells => k_is)
    (case x__law_more => k_is)
    (case l__law_more => k_is)
    (case e__law_more => k_is)
    (case k__law_more => k_is)
    (case x__law_refused => k_is)
    (case l__law_refused => k_is)
    (case e__law_refused => k_is)
    (case k__law_refused => k_is)
    (case x_law => k_is)
    (case l_law => k_is)
    (case e_law => k_is)
    (case k_law => k_is)
    (case y_BadHistory => k_is)
    (case k_BadHistory => k_is)
    (case bE_BadHistory => k_is)
    (case tE_BadHistory => k_is)
    (case iI_BadHistory => k_is)
    (case tI_BadHistory => k_is)
    (case l_BadHistory => k_is)
    (case e_BadHistory => k_is)
    (case q_BadHistory => k_is)
    (case qv_BadHistory => first | rfl | decide +kernel | k_is)
    (case qf_BadHistory => first | rfl | decide +kernel | k_is)
    (case qc_BadHistory => k_is)
    (case qs_BadHistory => k_is)
    (case qm_BadHistory => first | kernel_rfl | ks_is | kts_exm | decide +kernel)
    (case qB_BadHistory => k_is)
    (case qk_BadHistory => k_is)
    (case qr_BadHistory => first | rfl | decide +kernel | k_is)
    (case sa_BadHistory => k_is)
    (case xf_BadHistory => first | kernel_rfl | ks_is | kts_exm | decide +kernel)
    (case nf_BadHistory_line => k_is)
    (case ex_BadHistory_BadHistory => first | kernel_rfl | ks_is | kts_exm | decide +kernel)
    (case z_super => k_is)
    (case z_st => k_is)
    (case z_top => first | rfl | decide +kernel | k_is)
    (case pg_Contracts => k_is)
    (case hd_Contracts => k_is)
    (case po_Contracts => k_is)
    (case sa_Contracts => k_is)
    (case mk_Contracts => k_is)
    (case kc_Contracts => k_is)
    (case n_Contracts_histories => k_is)
    (case z_int => k_is)
    (case z_len => k_is)
    (case z_list => k_is)
    (case z_max => k_is)
    (case z_min => k_is)
    (case z_range => k_is)
    (case z_tuple => first | rfl | decide +kernel | k_is)
