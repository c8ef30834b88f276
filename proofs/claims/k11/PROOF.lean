import PyProof.Rows.All
import Wide.All
import OpenK.AllK
import Wide.FinOn
import HandS.Conv
import HandS.Deep
import HandS.EndBits
import HandS.Exc
import HandS.Flow
import HandS.ForMost
import HandS.NoneIn
import HandS.RevRange
import HandS.SortKw
import HandS.Strs
import HandS.TupAny
import HandS.Walk
import HandS.Wide
import HandS.WordsExc
import PySem.Challenge.RW_copperline_k11_whole_records_only_grow
set_option Elab.async false
set_option linter.all false
set_option maxRecDepth 100000
set_option maxHeartbeats 4000000
/-! The symbolic layer: data trees and owned cells over the hand layer's readings. -/
namespace Sy
open PySem L2

/-- data: a tree that nobody changes; ptr: the address of an owned cell -/
inductive Dat where
  | non | bl (b : Bool) | int (i : Int) | str (x : Str)
  | tup (ds : List Dat) | lst (ds : List Dat) | scr (ds : List Dat)
  | obj (C : Addr) (ns : List Str) (ds : List Dat)
  | dic (ks : List Key) (ds : List Dat)
  | ptr (a : Addr)

mutual
inductive Da (K : PySem.W.Frag) (H : Hp) : V → Dat → Prop
  | non : Da K H .non .non
  | bl (b : Bool) : Da K H (.bl b) (.bl b)
  | int (i : Int) : Da K H (.int i) (.int i)
  | str (x : Str) : Da K H (.str x) (.str x)
  | tup {a : Addr} {xs : List V} {ds : List Dat} : H a = some (.tup xs) → DaL K H xs ds → Da K H (.ref a) (.tup ds)
  | lst {a : Addr} {xs : List V} {ds : List Dat} : H a = some (.lst xs) → DaL K H xs ds → Da K H (.ref a) (.lst ds)
  | scr {a : Addr} {xs : List V} {ds : List Dat} : SqL K H a xs → DaL K H xs ds → Da K H (.ref a) (.scr ds)
  | obj {a C dx : Addr} {gs : List (Str × V)} {ns : List Str} {ds : List Dat} : H a = some (.ins C dx gs) → gs.map (·.1) = ns → DaL K H (gs.map (·.2)) ds → Da K H (.ref a) (.obj C ns ds)
  | dic {a : Addr} {kvs : List (Key × V)} {ks : List Key} {ds : List Dat} : Rd H a (.dK kvs) → kvs.map (·.1) = ks → DaL K H (kvs.map (·.2)) ds → Da K H (.ref a) (.dic ks ds)
  | ptr (a : Addr) : Da K H (.ref a) (.ptr a)
inductive DaL (K : PySem.W.Frag) (H : Hp) : List V → List Dat → Prop
  | nil : DaL K H [] []
  | cons {v : V} {d : Dat} {vs : List V} {ds : List Dat} : Da K H v d → DaL K H vs ds → DaL K H (v :: vs) (d :: ds)
end

theorem sq_l {K : PySem.W.Frag} {H H' : Hp} {a : Addr} {xs : List V} (e : Same H H') (h : SqL K H a xs) : SqL K H' a xs := e.seq h
theorem tq {K : PySem.W.Frag} {H H' : Hp} {a : Addr} {xs : List V} (e : Same H H') (h : H a = some (.tup xs)) : SqT K H' a xs := .inl (.inl (e _ _ h))
theorem sq_t {K : PySem.W.Frag} {H H' : Hp} {a : Addr} {xs : List V} (e : Same H H') (h : SqT K H a xs) : SqT K H' a xs := by
  rcases h with (h | ⟨o, h⟩) | h
  · exact .inl (.inl (e _ _ h))
  · exact .inl (.inr ⟨o, e _ _ h⟩)
  · exact .inr h
theorem sq_rd {H H' : Hp} {a : Addr} {u : HO} (e : Same H H') (h : Rd H a u) : Rd H' a u := by
  rcases h with h | ⟨o, h⟩
  · exact .inl (e _ _ h)
  · exact .inr ⟨o, e _ _ h⟩
mutual
theorem Da.mono {K : PySem.W.Frag} {H H' : Hp} (e : Same H H') : ∀ {v : V} {d : Dat}, Da K H v d → Da K H' v d
  | _, _, .non => .non
  | _, _, .bl b => .bl b
  | _, _, .int i => .int i
  | _, _, .str x => .str x
  | _, _, .tup h l => .tup (e _ _ h) (DaL.mono e l)
  | _, _, .lst h l => .lst (e _ _ h) (DaL.mono e l)
  | _, _, .scr h l => .scr (sq_l e h) (DaL.mono e l)
  | _, _, .obj h n l => .obj (e _ _ h) n (DaL.mono e l)
  | _, _, .dic h n l => .dic (sq_rd e h) n (DaL.mono e l)
  | _, _, .ptr a => .ptr a
theorem DaL.mono {K : PySem.W.Frag} {H H' : Hp} (e : Same H H') : ∀ {vs : List V} {ds : List Dat}, DaL K H vs ds → DaL K H' vs ds
  | _, _, .nil => .nil
  | _, _, .cons h t => .cons (Da.mono e h) (DaL.mono e t)
end
section
variable {K : PySem.W.Frag} {H : Hp}
theorem DaL.length : ∀ {vs : List V} {ds : List Dat}, DaL K H vs ds → vs.length = ds.length
  | _, _, .nil => rfl
  | _, _, .cons _ t => by rw [List.length_cons, List.length_cons, DaL.length t]
theorem DaL.get : ∀ {vs : List V} {ds : List Dat} {i : Nat} {d : Dat}, DaL K H vs ds → ds[i]? = some d → ∃ v, vs[i]? = some v ∧ Da K H v d
  | _, _, _, _, .nil, e => by simp at e
  | _, _, 0, _, .cons h _, e => by simp at e; subst e; exact ⟨_, rfl, h⟩
  | _, _, i + 1, d, .cons _ t, e => by
    obtain ⟨v, e1, h⟩ := DaL.get (i := i) (d := d) t (by simpa using e)
    exact ⟨v, by simpa using e1, h⟩
theorem DaL.getV : ∀ {vs : List V} {ds : List Dat} {i : Nat} {v : V}, DaL K H vs ds → vs[i]? = some v → ∃ d, ds[i]? = some d ∧ Da K H v d
  | _, _, _, _, .nil, e => by simp at e
  | _, _, 0, _, .cons h _, e => by simp at e; subst e; exact ⟨_, rfl, h⟩
  | _, _, i + 1, d, .cons _ t, e => by
    obtain ⟨v, e1, h⟩ := DaL.getV (i := i) (v := d) t (by simpa using e)
    exact ⟨v, by simpa using e1, h⟩
theorem DaL.append : ∀ {vs us : List V} {ds es : List Dat}, DaL K H vs ds → DaL K H us es → DaL K H (vs ++ us) (ds ++ es)
  | _, _, _, _, .nil, h => h
  | _, _, _, _, .cons h t, g => .cons h (DaL.append t g)
theorem DaL.take : ∀ {vs : List V} {ds : List Dat} (n : Nat), DaL K H vs ds → DaL K H (vs.take n) (ds.take n)
  | _, _, 0, _ => .nil
  | _, _, _ + 1, .nil => .nil
  | _, _, n + 1, .cons h t => .cons h (DaL.take n t)
theorem DaL.drop : ∀ {vs : List V} {ds : List Dat} (n : Nat), DaL K H vs ds → DaL K H (vs.drop n) (ds.drop n)
  | _, _, 0, h => h
  | _, _, _ + 1, .nil => .nil
  | _, _, n + 1, .cons _ t => DaL.drop n t
theorem DaL.set {v : V} {d : Dat} (h : Da K H v d) : ∀ {vs : List V} {ds : List Dat} (i : Nat), DaL K H vs ds → DaL K H (vs.set i v) (ds.set i d)
  | _, _, _, .nil => .nil
  | _, _, 0, .cons _ t => .cons h t
  | _, _, i + 1, .cons q t => .cons q (DaL.set h i t)
theorem DaL.reverse {vs : List V} {ds : List Dat} (h : DaL K H vs ds) : DaL K H vs.reverse ds.reverse := by
  induction vs generalizing ds with
  | nil => cases h; exact .nil
  | cons v vs ih =>
    cases h with
    | cons a b =>
      rw [List.reverse_cons, List.reverse_cons]
      exact (ih b).append (.cons a .nil)
theorem DaL.ints : ∀ {vs : List V} {ns : List Int}, DaL K H vs (ns.map Dat.int) → vs = ns.map V.int
  | [], [], _ => rfl
  | [], _ :: _, h => by cases h
  | _ :: _, [], h => by cases h
  | _ :: _, n :: ns, .cons a b => by cases a; rw [DaL.ints b]; rfl
theorem DaL.strs : ∀ {vs : List V} {ns : List Str}, DaL K H vs (ns.map Dat.str) → vs = ns.map V.str
  | [], [], _ => rfl
  | [], _ :: _, h => by cases h
  | _ :: _, [], h => by cases h
  | _ :: _, n :: ns, .cons a b => by cases a; rw [DaL.strs b]; rfl
theorem DaL.bools : ∀ {vs : List V} {ns : List Bool}, DaL K H vs (ns.map Dat.bl) → vs = ns.map V.bl
  | [], [], _ => rfl
  | [], _ :: _, h => by cases h
  | _ :: _, [], h => by cases h
  | _ :: _, n :: ns, .cons a b => by cases a; rw [DaL.bools b]; rfl
theorem daL_ints : ∀ (ns : List Int), DaL K H (ns.map V.int) (ns.map Dat.int)
  | [] => .nil
  | n :: ns => .cons (.int n) (daL_ints ns)
end

/-! ### owned cells -/
/-- the numbers of the laws' drawing: what the two items of its state may be -/
def rB : Nat := 1048700
def RngOk (x y : Int) : Prop := 0 ≤ x ∧ x.natAbs < 2 ^ rB ∧ 0 ≤ y ∧ y.natAbs < 2 ^ rB

/-- the place of a name -/
def fidx : List Str → Str → Option Nat
  | [], _ => none
  | n :: ns, f => if n = f then some 0 else (fidx ns f).map (· + 1)

inductive Cell where
  | lst (ds : List Dat)
  | dK (ks : List Key) (ds : List Dat)
  | dT (ks : List (List Key)) (ds : List Dat)
  | ins (C : Addr) (ns : List Str) (ds : List Dat)
  | xd (ns : List Str) (ds : List Dat)
  | rng
abbrev Own := List (Addr × Cell)
abbrev SL := List (Option Dat)

/-- what is seen: neither the frame (F: hidden, kept as it is) nor the owned cells -/
def vis (F : Hp) (own : Own) (H : Hp) : Hp := fun b => if (F b).isSome = true ∨ b ∈ own.map (·.1) then none else H b

inductive CellOk (K : PySem.W.Frag) (W H : Hp) (a : Addr) : Cell → Prop
  | lst {vs : List V} {ds : List Dat} : H a = some (.lst vs) → DaL K W vs ds → CellOk K W H a (.lst ds)
  | dK {kws : List (Key × V)} {ks : List Key} {ds : List Dat} : H a = some (.dK kws) → kws.map (·.1) = ks → ks.Nodup → DaL K W (kws.map (·.2)) ds → CellOk K W H a (.dK ks ds)
  | dT {kws : List (List Key × V)} {ks : List (List Key)} {ds : List Dat} : H a = some (.dT kws) → kws.map (·.1) = ks → ks.Nodup → DaL K W (kws.map (·.2)) ds → CellOk K W H a (.dT ks ds)
  | ins {C dx : Addr} {gs : List (Str × V)} {ns : List Str} {ds : List Dat} : H a = some (.ins C dx gs) → gs.map (·.1) = ns → DaL K W (gs.map (·.2)) ds → CellOk K W H a (.ins C ns ds)
  | xd {gs : List (Str × V)} {ns : List Str} {ds : List Dat} : H a = some (.xd gs) → gs.map (·.1) = ns → DaL K W (gs.map (·.2)) ds → CellOk K W H a (.xd ns ds)
  | rng {x y : Int} : H a = some (.lst [.int x, .int y]) → RngOk x y → CellOk K W H a .rng

section
variable {K : PySem.W.Frag} {F W W' V0 H H' : Hp} {a : Addr} {c c' : Cell} {own l r : Own}
theorem CellOk.there (h : CellOk K W H a c) : ∃ o, H a = some o := by cases h <;> exact ⟨_, by assumption⟩
theorem CellOk.stay (h : CellOk K W H a c) (e : Same W W') (q : H' a = H a) : CellOk K W' H' a c := by
  cases h with
  | lst h t => exact .lst (q.trans h) (t.mono e)
  | dK h n u t => exact .dK (q.trans h) n u (t.mono e)
  | dT h n u t => exact .dT (q.trans h) n u (t.mono e)
  | ins h n t => exact .ins (q.trans h) n (t.mono e)
  | xd h n t => exact .xd (q.trans h) n (t.mono e)
  | rng h z => exact .rng (q.trans h) z
structure Hs (K : PySem.W.Frag) (F V0 H : Hp) (own : Own) : Prop where
  nd : (own.map (·.1)).Nodup
  cell : ∀ p ∈ own, CellOk K (vis F own H) H p.1 p.2
  mo : Same V0 (vis F own H)
  fr : Same F H
  out : ∀ p ∈ own, F p.1 = none
theorem vis_sub : Same (vis F own H) H := fun b o e => by
  unfold vis at e
  split at e
  · cases e
  · exact e
theorem Hs.thr (h : Hs K F V0 H own) (ha : a ∈ own.map (·.1)) : ∃ o, H a = some o := by
  obtain ⟨p, hp, rfl⟩ := List.mem_map.mp ha
  exact (h.cell p hp).there
theorem fresh_own (hs : Hs K F V0 H own) (hp : H a = none) : a ∉ own.map (·.1) := fun z => by obtain ⟨u, hu⟩ := hs.thr z; rw [hp] at hu; cases hu
theorem fresh_fr (hs : Hs K F V0 H own) (hp : H a = none) : F a = none := hs.fr.free hp
theorem vis_grow (h : Hs K F V0 H own) (e : Same H H') : Same (vis F own H) (vis F own H') := fun b o q => by
  unfold vis at q ⊢
  by_cases hb : (F b).isSome = true ∨ b ∈ own.map (·.1)
  · rw [if_pos hb] at q; cases q
  · rw [if_neg hb] at q ⊢; exact e _ _ q
/-- a new object that stays as it is, seen -/
theorem vis_at {o : HO} (hs : Hs K F V0 H own) (hp : H a = none) : vis F own (upd H a o) a = some o := by
  unfold vis
  rw [if_neg, upd_same]
  rintro (z | z)
  · rw [fresh_fr hs hp] at z; cases z
  · exact fresh_own hs hp z
/-- what was tracked stands as it was -/
theorem Hs.grow (h : Hs K F V0 H own) (e : Same H H') : Hs K F V0 H' own := by
  have g := vis_grow h e
  refine ⟨h.nd, fun p hp => ?_, h.mo.trans g, h.fr.trans e, h.out⟩
  have c := h.cell p hp
  obtain ⟨o, ho⟩ := c.there
  exact c.stay g ((e _ _ ho).trans ho.symm)
theorem Hs.from (h : Hs K F V0 H own) {V1 : Hp} (e : Same V1 V0) : Hs K F V1 H own := ⟨h.nd, h.cell, e.trans h.mo, h.fr, h.out⟩
theorem Hs.now (h : Hs K F V0 H own) : Hs K F (vis F own H) H own := ⟨h.nd, h.cell, Same.refl _, h.fr, h.out⟩
/-- a new owned cell -/
theorem vis_new {o : HO} (hs : Hs K F V0 H own) (hn : H a = none) : vis F ((a, c) :: own) (upd H a o) = vis F own H := by
  funext b
  unfold vis
  rw [List.map_cons]
  by_cases hb : b = a
  · subst hb
    rw [if_pos (.inr List.mem_cons_self), if_neg]
    · exact hn.symm
    · rintro (z | z)
      · rw [fresh_fr hs hn] at z; cases z
      · exact fresh_own hs hn z
  · have e : (b ∈ (a, c).1 :: own.map (·.1)) ↔ b ∈ own.map (·.1) := by
      rw [List.mem_cons]
      exact ⟨fun z => z.elim (fun q => absurd q hb) id, .inr⟩
    by_cases hm : (F b).isSome = true ∨ b ∈ own.map (·.1)
    · rw [if_pos hm, if_pos (hm.imp id e.mpr)]
    · rw [if_neg hm, if_neg (fun z => hm (z.imp id e.mp)), upd_ne hb]
theorem Hs.new {o : HO} (h : Hs K F V0 H own) (hn : H a = none) (hc : CellOk K (vis F own H) (upd H a o) a c) : Hs K F V0 (upd H a o) ((a, c) :: own) := by
  have hna := fresh_own h hn
  refine ⟨List.nodup_cons.mpr ⟨hna, h.nd⟩, fun p hp => ?_, ?_, h.fr.trans (fun b u e => by rw [upd_ne (ne_of_none e hn)]; exact e), fun p hp => ?_⟩
  · rw [vis_new h hn]
    rcases List.mem_cons.mp hp with rfl | hp
    · exact hc
    · refine (h.cell p hp).stay (Same.refl _) (upd_ne fun z => hna ?_)
      rw [← z]
      exact List.mem_map.mpr ⟨p, hp, rfl⟩
  · rw [vis_new h hn]; exact h.mo
  · rcases List.mem_cons.mp hp with rfl | hp
    · exact fresh_fr h hn
    · exact h.out p hp
/-- an owned cell is written -/
theorem vis_put {o : HO} : vis F (l ++ (a, c') :: r) (upd H a o) = vis F (l ++ (a, c) :: r) H := by
  funext b
  unfold vis
  have e : (l ++ (a, c') :: r).map (·.1) = (l ++ (a, c) :: r).map (·.1) := by simp
  rw [e]
  split
  · rfl
  · next h => rw [upd_ne fun z => h (.inr (by subst z; simp))]
theorem Hs.put {o : HO} (h : Hs K F V0 H (l ++ (a, c) :: r)) (hc : CellOk K (vis F (l ++ (a, c) :: r) H) (upd H a o) a c') : Hs K F V0 (upd H a o) (l ++ (a, c') :: r) := by
  have nd := h.nd
  rw [List.map_append, List.map_cons, List.nodup_append] at nd
  obtain ⟨n1, n2, n3⟩ := nd
  obtain ⟨n4, n5⟩ := List.nodup_cons.mp n2
  have mid : (a, c) ∈ l ++ (a, c) :: r := List.mem_append_right _ List.mem_cons_self
  refine ⟨?_, fun p hp => ?_, ?_, fun b u e => ?_, fun p hp => ?_⟩
  · have e : (l ++ (a, c') :: r).map (·.1) = (l ++ (a, c) :: r).map (·.1) := by simp
    rw [e]; exact h.nd
  · rw [vis_put (c := c)]
    rcases List.mem_append.mp hp with hp | hp
    · exact (h.cell p (List.mem_append_left _ hp)).stay (Same.refl _) (upd_ne (n3 _ (List.mem_map.mpr ⟨p, hp, rfl⟩) _ List.mem_cons_self))
    · rcases List.mem_cons.mp hp with rfl | hp
      · exact hc
      · exact (h.cell p (List.mem_append_right _ (List.mem_cons_of_mem _ hp))).stay (Same.refl _) (upd_ne fun z => n4 (by rw [← z]; exact List.mem_map.mpr ⟨p, hp, rfl⟩))
  · rw [vis_put (c := c)]; exact h.mo
  · rw [upd_ne fun z => ?_]
    · exact h.fr b u e
    · have q := h.out _ mid
      rw [z] at e
      rw [q] at e; cases e
  · rcases List.mem_append.mp hp with hp | hp
    · exact h.out p (List.mem_append_left _ hp)
    · rcases List.mem_cons.mp hp with rfl | hp
      · show F a = none
        exact h.out (a, c) mid
      · exact h.out p (List.mem_append_right _ (List.mem_cons_of_mem _ hp))
/-- what a cell's description says may be told otherwise -/
theorem Hs.retell (h : Hs K F V0 H (l ++ (a, c) :: r)) (hc : ∀ W, CellOk K W H a c → CellOk K W H a c') : Hs K F V0 H (l ++ (a, c') :: r) := by
  have q := h.put (o := (h.cell _ (List.mem_append_right _ List.mem_cons_self)).there.choose) (c' := c') (by
    have s := (h.cell _ (List.mem_append_right _ List.mem_cons_self)).there.choose_spec
    refine (hc _ (h.cell _ (List.mem_append_right _ List.mem_cons_self))).stay (Same.refl _) ?_
    rw [upd_same]; exact s.symm)
  have s := (h.cell _ (List.mem_append_right _ List.mem_cons_self)).there.choose_spec
  rwa [show upd H a (h.cell _ (List.mem_append_right _ List.mem_cons_self)).there.choose = H from by
    funext b
    unfold upd
    split
    · next e => rw [e]; exact s.symm
    · rfl] at q
theorem vis_retell : vis F (l ++ (a, c') :: r) H = vis F (l ++ (a, c) :: r) H := by
  funext b
  unfold vis
  have e : (l ++ (a, c') :: r).map (·.1) = (l ++ (a, c) :: r).map (·.1) := by simp
  rw [e]
/-- a cell is owned no more -/
theorem vis_drop : Same (vis F (l ++ (a, c) :: r) H) (vis F (l ++ r) H) := fun b o e => by
  unfold vis at e ⊢
  split at e
  · cases e
  · next hm =>
    rw [if_neg fun z => hm ?_]
    · exact e
    · refine z.imp id fun z => ?_
      rw [List.map_append, List.mem_append] at z ⊢
      exact z.imp id fun q => List.mem_cons_of_mem _ q
theorem Hs.drop (h : Hs K F V0 H (l ++ (a, c) :: r)) : Hs K F V0 H (l ++ r) := by
  have nd := h.nd
  rw [List.map_append, List.map_cons, List.nodup_append] at nd
  obtain ⟨n1, n2, n3⟩ := nd
  obtain ⟨n4, n5⟩ := List.nodup_cons.mp n2
  have sub : ∀ p, p ∈ l ++ r → p ∈ l ++ (a, c) :: r := fun p hp => by
    rcases List.mem_append.mp hp with hp | hp
    · exact List.mem_append_left _ hp
    · exact List.mem_append_right _ (List.mem_cons_of_mem _ hp)
  refine ⟨?_, fun p hp => (h.cell p (sub p hp)).stay vis_drop rfl, h.mo.trans vis_drop, h.fr, fun p hp => h.out p (sub p hp)⟩
  rw [List.map_append, List.nodup_append]
  exact ⟨n1, n5, fun x hx y hy => n3 x hx y (List.mem_cons_of_mem _ hy)⟩
theorem Hs.drop_vis (h : Hs K F V0 H (l ++ (a, c) :: r)) : vis F (l ++ r) H a = H a := by
  have nd := h.nd
  rw [List.map_append, List.map_cons, List.nodup_append] at nd
  obtain ⟨n1, n2, n3⟩ := nd
  unfold vis
  rw [if_neg]
  rintro (z | z)
  · have q := h.out _ (List.mem_append_right l (List.mem_cons_self (a := (a, c)) (l := r)))
    rw [q] at z; cases z
  · rw [List.map_append, List.mem_append] at z
    rcases z with z | z
    · exact n3 _ z _ List.mem_cons_self rfl
    · exact (List.nodup_cons.mp n2).1 z
/-- a cell goes into the frame, and comes back -/
theorem vis_frame {o : HO} : vis (upd F a o) own H = vis F ((a, c) :: own) H := by
  funext b
  unfold vis
  rw [List.map_cons]
  by_cases hb : b = a
  · subst hb
    rw [if_pos (.inl (by rw [upd_same]; rfl)), if_pos (.inr List.mem_cons_self)]
  · rw [upd_ne hb]
    have e : (b ∈ (a, c).1 :: own.map (·.1)) ↔ b ∈ own.map (·.1) := by
      rw [List.mem_cons]
      exact ⟨fun z => z.elim (fun q => absurd q hb) id, .inr⟩
    by_cases hm : (F b).isSome = true ∨ b ∈ own.map (·.1)
    · rw [if_pos hm, if_pos (hm.imp id e.mpr)]
    · rw [if_neg hm, if_neg fun z => hm (z.imp id e.mp)]
theorem Hs.hide {o : HO} (h : Hs K F V0 H ((a, c) :: own)) (ho : H a = some o) : Hs K (upd F a o) V0 H own := by
  obtain ⟨n1, n2⟩ := List.nodup_cons.mp h.nd
  refine ⟨n2, fun p hp => ?_, ?_, fun b u e => ?_, fun p hp => ?_⟩
  · rw [vis_frame (c := c)]; exact h.cell p (List.mem_cons_of_mem _ hp)
  · rw [vis_frame (c := c)]; exact h.mo
  · by_cases hb : b = a
    · subst hb; rw [upd_same] at e; cases e; exact ho
    · rw [upd_ne hb] at e; exact h.fr b u e
  · rw [upd_ne fun z => n1 (by rw [← z]; exact List.mem_map.mpr ⟨p, hp, rfl⟩)]; exact h.out p (List.mem_cons_of_mem _ hp)
theorem Hs.back {o : HO} (h : Hs K (upd F a o) V0 H own) (hf : F a = none) (hc : CellOk K (vis (upd F a o) own H) H a c) : Hs K F V0 H ((a, c) :: own) := by
  have n1 : a ∉ own.map (·.1) := fun z => by
    obtain ⟨p, hp, rfl⟩ := List.mem_map.mp z
    have q := h.out p hp
    rw [upd_same] at q; cases q
  rw [vis_frame (c := c)] at hc
  refine ⟨List.nodup_cons.mpr ⟨n1, h.nd⟩, fun p hp => ?_, by rw [← vis_frame (o := o)]; exact h.mo, fun b u e => h.fr b u ?_, fun p hp => ?_⟩
  · rcases List.mem_cons.mp hp with rfl | hp
    · exact hc
    · rw [← vis_frame (o := o)]; exact h.cell p hp
  · rw [upd_ne (ne_of_none e hf)]; exact e
  · rcases List.mem_cons.mp hp with rfl | hp
    · exact hf
    · have q := h.out p hp
      rwa [upd_ne fun z => n1 (by rw [← z]; exact List.mem_map.mpr ⟨p, hp, rfl⟩)] at q
end

/-! ### slots -/
def Sl (K : PySem.W.Frag) (W : Hp) (σ : L2.St) (sl : SL) : Prop := σ.length = sl.length ∧ ∀ (i : Nat) (d : Dat), sl[i]? = some (some d) → ∃ v, σ[i]? = some (some v) ∧ Da K W v d
section
variable {K : PySem.W.Frag} {W W' : Hp} {σ : L2.St} {sl : SL} {v : V} {d : Dat}
theorem Sl.mono (h : Sl K W σ sl) (e : Same W W') : Sl K W' σ sl := ⟨h.1, fun i d q => let ⟨v, a, b⟩ := h.2 i d q; ⟨v, a, b.mono e⟩⟩
theorem Sl.set (h : Sl K W σ sl) (i : Nat) (hd : Da K W v d) : Sl K W (σ.set i (some v)) (sl.set i (some d)) := by
  refine ⟨by rw [List.length_set, List.length_set, h.1], fun j e q => ?_⟩
  by_cases hj : i = j
  · subst hj
    by_cases hl : i < sl.length
    · rw [List.getElem?_set_self hl] at q
      cases q
      exact ⟨v, by rw [List.getElem?_set_self (by rw [h.1]; exact hl)], hd⟩
    · rw [List.getElem?_eq_none (by rw [List.length_set]; omega)] at q; cases q
  · rw [List.getElem?_set_ne hj] at q ⊢
    exact h.2 j e q
theorem Sl.unset (h : Sl K W σ sl) (i : Nat) (u : Option V) : Sl K W (σ.set i u) (sl.set i none) := by
  refine ⟨by rw [List.length_set, List.length_set, h.1], fun j e q => ?_⟩
  by_cases hj : i = j
  · subst hj
    by_cases hl : i < sl.length
    · rw [List.getElem?_set_self hl] at q; cases q
    · rw [List.getElem?_eq_none (by rw [List.length_set]; omega)] at q; cases q
  · rw [List.getElem?_set_ne hj] at q ⊢
    exact h.2 j e q
end

/-! ### what an expression does, over data -/
abbrev PD := Dat → Own → Prop
def EX (K : PySem.W.Frag) (te : TE) (sl : SL) (own : Own) (P : PD) : Prop := ∀ (F V0 : Hp) (σ : L2.St) (H : Hp), Hs K F V0 H own → Sl K (vis F own H) σ sl →
  ∀ Q : VK, (∀ v H' d own', Hs K F V0 H' own' → Same (vis F own H) (vis F own' H') → Da K (vis F own' H') v d → P d own' → Q v H') → te σ H Q
def TX (K : PySem.W.Frag) (tt : TT) (sl : SL) (own : Own) (P : Bool → Own → Prop) : Prop := ∀ (F V0 : Hp) (σ : L2.St) (H : Hp), Hs K F V0 H own → Sl K (vis F own H) σ sl →
  ∀ Q : Bool → Hp → Prop, (∀ b H' own', Hs K F V0 H' own' → Same (vis F own H) (vis F own' H') → P b own' → Q b H') → tt σ H Q
def AX (K : PySem.W.Frag) (ta : TA) (sl : SL) (own : Own) (P : List Dat → Own → Prop) : Prop := ∀ (F V0 : Hp) (σ : L2.St) (H : Hp), Hs K F V0 H own → Sl K (vis F own H) σ sl →
  ∀ Q : List V → Hp → Prop, (∀ vs H' ds own', Hs K F V0 H' own' → Same (vis F own H) (vis F own' H') → DaL K (vis F own' H') vs ds → P ds own' → Q vs H') → ta σ H Q
def OX (K : PySem.W.Frag) (to : TO) (sl : SL) (own : Own) (P : Option Int → Own → Prop) : Prop := ∀ (F V0 : Hp) (σ : L2.St) (H : Hp), Hs K F V0 H own → Sl K (vis F own H) σ sl →
  ∀ Q : Option Int → Hp → Prop, (∀ o H' own', Hs K F V0 H' own' → Same (vis F own H) (vis F own' H') → P o own' → Q o H') → to σ H Q
/-- two values, one value, a list of values -/
def R2X (K : PySem.W.Frag) (r : R2) (d e : Dat) (own : Own) (P : PD) : Prop := ∀ (F V0 H : Hp) (x y : V), Hs K F V0 H own → Da K (vis F own H) x d → Da K (vis F own H) y e →
  ∀ Q : VK, (∀ v H' d own', Hs K F V0 H' own' → Same (vis F own H) (vis F own' H') → Da K (vis F own' H') v d → P d own' → Q v H') → r x y H Q
def R1X (K : PySem.W.Frag) (r : V → Hp → VK → Prop) (d : Dat) (own : Own) (P : PD) : Prop := ∀ (F V0 H : Hp) (x : V), Hs K F V0 H own → Da K (vis F own H) x d →
  ∀ Q : VK, (∀ v H' d own', Hs K F V0 H' own' → Same (vis F own H) (vis F own' H') → Da K (vis F own' H') v d → P d own' → Q v H') → r x H Q
def RLX (K : PySem.W.Frag) (r : List V → Hp → VK → Prop) (ds : List Dat) (own : Own) (P : PD) : Prop := ∀ (F V0 H : Hp) (xs : List V), Hs K F V0 H own → DaL K (vis F own H) xs ds →
  ∀ Q : VK, (∀ v H' d own', Hs K F V0 H' own' → Same (vis F own H) (vis F own' H') → Da K (vis F own' H') v d → P d own' → Q v H') → r xs H Q
def RMX (K : PySem.W.Frag) (r : V → List V → Hp → VK → Prop) (d : Dat) (ds : List Dat) (own : Own) (P : PD) : Prop := ∀ (F V0 H : Hp) (x : V) (xs : List V), Hs K F V0 H own → Da K (vis F own H) x d → DaL K (vis F own H) xs ds →
  ∀ Q : VK, (∀ v H' d own', Hs K F V0 H' own' → Same (vis F own H) (vis F own' H') → Da K (vis F own' H') v d → P d own' → Q v H') → r x xs H Q

section
variable {K : PySem.W.Frag} {sl : SL} {own : Own} {P : PD} {ta tb te : TE} {d e : Dat}
theorem ex_var {i : Nat} (h : sl[i]? = some (some d)) (p : P d own) : EX K (tVar i) sl own P := fun F V0 σ H hs hl Q q => by
  obtain ⟨v, e, hd⟩ := hl.2 i d h
  exact ⟨v, e, q v H d own hs (Same.refl _) hd p⟩
theorem ex_int {i : Int} (p : P (.int i) own) : EX K (tC (.int i)) sl own P := fun F V0 σ H hs hl Q q => q _ H _ own hs (Same.refl _) (.int i) p
theorem ex_str {i : Str} (p : P (.str i) own) : EX K (tC (.str i)) sl own P := fun F V0 σ H hs hl Q q => q _ H _ own hs (Same.refl _) (.str i) p
theorem ex_bl {i : Bool} (p : P (.bl i) own) : EX K (tC (.bl i)) sl own P := fun F V0 σ H hs hl Q q => q _ H _ own hs (Same.refl _) (.bl i) p
theorem ex_non (p : P .non own) : EX K (tC .non) sl own P := fun F V0 σ H hs hl Q q => q _ H _ own hs (Same.refl _) .non p
/-- a constant of the module, known as data -/
theorem ex_cst {v : V} (hd : ∀ H, Da K H v d) (p : P d own) : EX K (tC v) sl own P := fun F V0 σ H hs hl Q q => q _ H _ own hs (Same.refl _) (hd _) p
theorem ex_op {r : R2} (h : EX K ta sl own fun x o1 => EX K tb sl o1 fun y o2 => R2X K r x y o2 P) : EX K (tOp r ta tb) sl own P := fun F V0 σ H hs hl Q q => by
  refine h F V0 σ H hs hl _ fun v H1 d1 o1 hs1 e1 hd1 p1 => ?_
  refine p1 F V0 σ H1 hs1 (hl.mono e1) _ fun w H2 d2 o2 hs2 e2 hd2 p2 => ?_
  exact p2 F V0 H2 v w hs2 (hd1.mono e2) hd2 Q fun z H3 d3 o3 hs3 e3 hd3 p3 => q z H3 d3 o3 hs3 ((e1.trans e2).trans e3) hd3 p3
theorem ex_un {r : V → Hp → VK → Prop} (h : EX K ta sl own fun x o1 => R1X K r x o1 P) : EX K (tUn r ta) sl own P := fun F V0 σ H hs hl Q q => by
  refine h F V0 σ H hs hl _ fun v H1 d1 o1 hs1 e1 hd1 p1 => ?_
  exact p1 F V0 H1 v hs1 hd1 Q fun z H3 d3 o3 hs3 e3 hd3 p3 => q z H3 d3 o3 hs3 (e1.trans e3) hd3 p3
theorem ax_nil {P : List Dat → Own → Prop} (p : P [] own) : AX K tNil sl own P := fun F V0 σ H hs hl Q q => q _ H _ own hs (Same.refl _) .nil p
theorem ax_cons {P : List Dat → Own → Prop} {tr : TA} (h : EX K ta sl own fun x o1 => AX K tr sl o1 fun xs o2 => P (x :: xs) o2) : AX K (tCons ta tr) sl own P := fun F V0 σ H hs hl Q q => by
  refine h F V0 σ H hs hl _ fun v H1 d1 o1 hs1 e1 hd1 p1 => ?_
  exact p1 F V0 σ H1 hs1 (hl.mono e1) _ fun w H2 d2 o2 hs2 e2 hd2 p2 => q _ H2 _ o2 hs2 (e1.trans e2) (.cons (hd1.mono e2) hd2) p2
theorem same_new {H : Hp} {p : Addr} {o : HO} (h : H p = none) : Same H (upd H p o) := fun b u e => by rw [upd_ne (ne_of_none e h)]; exact e
/-- a display: a new tuple; a new list that stays as it is; a new list of one's own -/
theorem ex_tup {t : TA} (h : AX K t sl own fun ds o => ds.length ≤ sizeLine ∧ P (.tup ds) o) : EX K (tTup t) sl own P := fun F V0 σ H hs hl Q q => by
  refine h F V0 σ H hs hl _ fun vs H1 ds o1 hs1 e1 hd1 ⟨z, p1⟩ => ⟨by rw [hd1.length]; exact z, fun p hp => ?_⟩
  have e2 := same_new (o := HO.tup vs) hp
  have g := vis_grow hs1 e2
  refine q _ _ _ o1 (hs1.grow e2) (e1.trans g) (.tup (vis_at hs1 hp) (hd1.mono g)) p1
theorem ex_lst {t : TA} (h : AX K t sl own fun ds o => ds.length ≤ sizeLine ∧ P (.lst ds) o) : EX K (tLst t) sl own P := fun F V0 σ H hs hl Q q => by
  refine h F V0 σ H hs hl _ fun vs H1 ds o1 hs1 e1 hd1 ⟨z, p1⟩ => ⟨by rw [hd1.length]; exact z, fun p hp => ?_⟩
  have e2 := same_new (o := HO.lst vs) hp
  have g := vis_grow hs1 e2
  refine q _ _ _ o1 (hs1.grow e2) (e1.trans g) (.lst (vis_at hs1 hp) (hd1.mono g)) p1
theorem ex_lstO {t : TA} (h : AX K t sl own fun ds o => ds.length ≤ sizeLine ∧ ∀ a, a ∉ o.map (·.1) → P (.ptr a) ((a, .lst ds) :: o)) : EX K (tLst t) sl own P := fun F V0 σ H hs hl Q q => by
  refine h F V0 σ H hs hl _ fun vs H1 ds o1 hs1 e1 hd1 ⟨z, p1⟩ => ⟨by rw [hd1.length]; exact z, fun p hp => ?_⟩
  refine q _ _ _ ((p, .lst ds) :: o1) (hs1.new hp (.lst upd_same hd1)) ?_ (.ptr p) (p1 p (fresh_own hs1 hp))
  rw [vis_new hs1 hp]; exact e1
theorem ex_lstR {x y : Int} {t : TA} (h : AX K t sl own fun ds o => ∃ x y, ds = [.int x, .int y] ∧ RngOk x y ∧ ∀ a, a ∉ o.map (·.1) → P (.ptr a) ((a, .rng) :: o)) : EX K (tLst t) sl own P := fun F V0 σ H hs hl Q q => by
  refine h F V0 σ H hs hl _ fun vs H1 ds o1 hs1 e1 hd1 ⟨x, y, e, z, p1⟩ => ?_
  subst e
  cases hd1 with
  | cons h1 t1 => cases t1 with
    | cons h2 t2 =>
      cases t2; cases h1; cases h2
      refine ⟨by show 2 ≤ sizeLine; decide, fun p hp => ?_⟩
      refine q _ _ _ ((p, .rng) :: o1) (hs1.new hp (.rng upd_same z)) ?_ (.ptr p) (p1 p (fresh_own hs1 hp))
      rw [vis_new hs1 hp]; exact e1
end
end Sy
/-! Rules of the symbolic layer. -/
namespace Sy
open PySem L2

/-! ### what reads as a list, a sequence, an object -/
def TrkD (own : Own) (d : Dat) (ds : List Dat) : Prop := d = .lst ds ∨ ∃ a, d = .ptr a ∧ (a, Cell.lst ds) ∈ own
def LstD (own : Own) (d : Dat) (ds : List Dat) : Prop := TrkD own d ds ∨ d = .scr ds
def SeqD (own : Own) (d : Dat) (ds : List Dat) : Prop := LstD own d ds ∨ d = .tup ds
def ObjD (own : Own) (d : Dat) (C : Addr) (ns : List Str) (ds : List Dat) : Prop := d = .obj C ns ds ∨ ∃ a, d = .ptr a ∧ (a, Cell.ins C ns ds) ∈ own
def DicD (own : Own) (d : Dat) (ks : List Key) (ds : List Dat) : Prop := d = .dic ks ds ∨ ∃ a, d = .ptr a ∧ (a, Cell.dK ks ds) ∈ own
section
variable {K : PySem.W.Frag} {F V0 H : Hp} {own : Own} {x : V} {d : Dat} {ds : List Dat} {C : Addr} {ns : List Str}
theorem TrkD.tk (h : TrkD own d ds) (hs : Hs K F V0 H own) (hd : Da K (vis F own H) x d) : ∃ a vs, x = .ref a ∧ H a = some (.lst vs) ∧ DaL K (vis F own H) vs ds := by
  rcases h with rfl | ⟨a, rfl, hm⟩
  · cases hd with
    | lst h l => exact ⟨_, _, rfl, vis_sub _ _ h, l⟩
  · cases hd
    have c := hs.cell _ hm
    cases c with
    | lst h l => exact ⟨_, _, rfl, h, l⟩
theorem LstD.sq (h : LstD own d ds) (hs : Hs K F V0 H own) (hd : Da K (vis F own H) x d) : ∃ a vs, x = .ref a ∧ SqL K H a vs ∧ DaL K (vis F own H) vs ds := by
  rcases h with h | rfl
  · obtain ⟨a, vs, e, q, l⟩ := h.tk hs hd
    exact ⟨a, vs, e, .inl (.inl q), l⟩
  · cases hd with
    | scr h l => exact ⟨_, _, rfl, sq_l vis_sub h, l⟩
theorem SeqD.sq (h : SeqD own d ds) (hs : Hs K F V0 H own) (hd : Da K (vis F own H) x d) : ∃ a vs, x = .ref a ∧ (SqL K H a vs ∨ SqT K H a vs) ∧ DaL K (vis F own H) vs ds := by
  rcases h with h | rfl
  · obtain ⟨a, vs, e, q, l⟩ := h.sq hs hd
    exact ⟨a, vs, e, .inl q, l⟩
  · cases hd with
    | tup h l => exact ⟨_, _, rfl, .inr (tq vis_sub h), l⟩
theorem ObjD.ob (h : ObjD own d C ns ds) (hs : Hs K F V0 H own) (hd : Da K (vis F own H) x d) : ∃ a dx gs, x = .ref a ∧ H a = some (.ins C dx gs) ∧ gs.map (·.1) = ns ∧ DaL K (vis F own H) (gs.map (·.2)) ds := by
  rcases h with rfl | ⟨a, rfl, hm⟩
  · cases hd with
    | obj h n l => exact ⟨_, _, _, rfl, vis_sub _ _ h, n, l⟩
  · cases hd
    have c := hs.cell _ hm
    cases c with
    | ins h n l => exact ⟨_, _, _, rfl, h, n, l⟩
theorem DicD.rd {ks : List Key} (h : DicD own d ks ds) (hs : Hs K F V0 H own) (hd : Da K (vis F own H) x d) : ∃ a kvs, x = .ref a ∧ Rd H a (.dK kvs) ∧ kvs.map (·.1) = ks ∧ DaL K (vis F own H) (kvs.map (·.2)) ds := by
  rcases h with rfl | ⟨a, rfl, hm⟩
  · cases hd with
    | dic h n l => exact ⟨_, _, rfl, sq_rd vis_sub h, n, l⟩
  · cases hd
    have c := hs.cell _ hm
    cases c with
    | dK h n u l => exact ⟨_, _, rfl, .inl h, n, l⟩
theorem fidx_some : ∀ {ns : List Str} {f : Str} {i : Nat} {gs : List (Str × V)} {ds : List Dat} {e : Dat} {W : Hp}, fidx ns f = some i → gs.map (·.1) = ns → DaL K W (gs.map (·.2)) ds → ds[i]? = some e → ∃ v, gs.lookup f = some v ∧ Da K W v e
  | [], _, _, _, _, _, _, h, _, _, _ => by simp [fidx] at h
  | n :: ns, f, i, [], _, _, _, _, h, _, _ => by simp at h
  | n :: ns, f, i, (m, v) :: gs, ds, e, W, h, hn, hl, he => by
    rw [List.map_cons] at hn hl
    obtain ⟨rfl, hn2⟩ := List.cons.inj hn
    unfold fidx at h
    cases hl with
    | cons h1 h2 =>
      by_cases q : m = f
      · rw [if_pos q] at h
        cases h
        subst q
        simp at he
        subst he
        exact ⟨v, by rw [List.lookup_cons, beq_self_eq_true], h1⟩
      · rw [if_neg q] at h
        obtain ⟨j, hj, rfl⟩ := Option.map_eq_some_iff.mp h
        obtain ⟨u, e1, e2⟩ := fidx_some hj hn2 h2 (by simpa using he)
        refine ⟨u, ?_, e2⟩
        rw [List.lookup_cons, show (f == m) = false from beq_false_of_ne (Ne.symm q)]
        exact e1
theorem fidx_none : ∀ {ns : List Str} {f : Str} {gs : List (Str × V)}, fidx ns f = none → gs.map (·.1) = ns → gs.lookup f = none
  | [], _, [], _, _ => rfl
  | [], _, _ :: _, _, h => by simp at h
  | n :: ns, _, [], _, h => by simp at h
  | n :: ns, f, (m, v) :: gs, h, hn => by
    rw [List.map_cons] at hn
    obtain ⟨rfl, hn2⟩ := List.cons.inj hn
    unfold fidx at h
    by_cases q : m = f
    · rw [if_pos q] at h; cases h
    · rw [if_neg q] at h
      rw [List.lookup_cons, show (f == m) = false from beq_false_of_ne (Ne.symm q)]
      exact fidx_none (Option.map_eq_none_iff.mp h) hn2
/-- the fields behind a store -/
def putN (ns : List Str) (f : Str) : List Str := match fidx ns f with | some _ => ns | none => ns ++ [f]
def putX (ns : List Str) (f : Str) (ds : List Dat) (e : Dat) : List Dat := match fidx ns f with | some i => ds.set i e | none => ds ++ [e]
theorem putF_ok {W : Hp} {v : V} {e : Dat} (hv : Da K W v e) : ∀ {ns : List Str} {f : Str} {gs : List (Str × V)} {ds : List Dat}, gs.map (·.1) = ns → DaL K W (gs.map (·.2)) ds →
    (putF f v gs).map (·.1) = putN ns f ∧ DaL K W ((putF f v gs).map (·.2)) (putX ns f ds e)
  | _, f, [], ds, hn, hl => by
    rw [List.map_nil] at hn hl
    subst hn
    cases hl
    exact ⟨rfl, .cons hv .nil⟩
  | _, f, (m, u) :: gs, ds, hn, hl => by
    rw [List.map_cons] at hn hl
    subst hn
    cases hl with
    | cons h1 h2 =>
      by_cases q : m = f
      · have e1 : putF f v ((m, u) :: gs) = (m, v) :: gs := by
          show (if m = f then _ else _) = _
          rw [if_pos q]
        rw [e1]
        unfold putN putX fidx
        rw [if_pos q]
        exact ⟨rfl, .cons hv h2⟩
      · have e1 : putF f v ((m, u) :: gs) = (m, u) :: putF f v gs := by
          show (if m = f then _ else _) = _
          rw [if_neg q]
        obtain ⟨i1, i2⟩ := putF_ok hv (ns := gs.map (·.1)) (f := f) rfl h2
        rw [e1, List.map_cons, List.map_cons, i1]
        have e2 : fidx ((m, u).1 :: gs.map (·.1)) f = (fidx (gs.map (·.1)) f).map (· + 1) := by
          show (if m = f then _ else _) = _
          rw [if_neg q]
        unfold putN putX at *
        rw [e2]
        cases r : fidx (gs.map (·.1)) f with
        | none => rw [r] at i2; exact ⟨rfl, .cons h1 i2⟩
        | some j => rw [r] at i2; exact ⟨rfl, .cons h1 i2⟩
end

/-! ### frames: an owned cell that is not touched -/
section
variable {K : PySem.W.Frag} {sl : SL} {own o1 o2 l r : Own} {P : PD} {ta tb te : TE} {d e : Dat}
/-- cells told otherwise -/
def Cl (o o' : Own) : Prop := ∀ (K : PySem.W.Frag) (F V0 H : Hp), Hs K F V0 H o → Hs K F V0 H o' ∧ Same (vis F o H) (vis F o' H)
theorem Cl.refl (o : Own) : Cl o o := fun _ _ _ _ h => ⟨h, Same.refl _⟩
theorem Cl.trans (a : Cl own o1) (b : Cl o1 o2) : Cl own o2 := fun K F V0 H h => let ⟨h1, e1⟩ := a K F V0 H h; let ⟨h2, e2⟩ := b K F V0 H h1; ⟨h2, e1.trans e2⟩
theorem cl_rng {s : Addr} {x y : Int} (z : RngOk x y) : Cl (l ++ (s, .lst [.int x, .int y]) :: r) (l ++ (s, .rng) :: r) := fun K F V0 H h =>
  ⟨h.retell fun W c => by
    cases c with
    | lst h1 t =>
      cases t with
      | cons a t => cases t with
        | cons b t => cases t; cases a; cases b; exact .rng h1 z, by rw [vis_retell (c := .lst [.int x, .int y]) (c' := .rng)]; exact Same.refl _⟩
theorem cl_drop {p : Addr × Cell} : Cl (l ++ p :: r) (l ++ r) := fun K F V0 H h => ⟨h.drop, vis_drop⟩
theorem ex_cl (c : Cl own o1) (h : EX K te sl o1 P) : EX K te sl own P := fun F V0 σ H hs hl Q q => by
  obtain ⟨h1, e1⟩ := c K F V0 H hs
  exact h F V0 σ H h1 (hl.mono e1) Q fun v H' d o' a b => q v H' d o' a (e1.trans b)
/-- the end told otherwise -/
theorem ex_end (h : EX K te sl own fun d o => ∃ o', Cl o o' ∧ P d o') : EX K te sl own P := fun F V0 σ H hs hl Q q => by
  refine h F V0 σ H hs hl Q fun v H' d o' a b hd ⟨o2, c, p⟩ => ?_
  obtain ⟨h1, e1⟩ := c K F V0 H' a
  exact q v H' d o2 h1 (b.trans e1) (hd.mono e1) p
theorem ex_mono {P' : PD} (h : EX K te sl own P') (m : ∀ d o, P' d o → P d o) : EX K te sl own P := fun F V0 σ H hs hl Q q => h F V0 σ H hs hl Q fun v H' d o' a b hd p => q v H' d o' a b hd (m d o' p)
/-- a list of one's own becomes data -/
theorem freeze {a : Addr} {F V0 H : Hp} {ds : List Dat} (h : Hs K F V0 H (l ++ (a, .lst ds) :: r)) : Da K (vis F (l ++ r) H) (.ref a) (.lst ds) := by
  have c := h.cell _ (List.mem_append_right l List.mem_cons_self)
  cases c with
  | lst h1 t => exact .lst (h.drop_vis.trans h1) (t.mono vis_drop)
theorem freezeO {a C : Addr} {F V0 H : Hp} {ns : List Str} {ds : List Dat} (h : Hs K F V0 H (l ++ (a, .ins C ns ds) :: r)) : Da K (vis F (l ++ r) H) (.ref a) (.obj C ns ds) := by
  have c := h.cell _ (List.mem_append_right l List.mem_cons_self)
  cases c with
  | ins h1 n t => exact .obj (h.drop_vis.trans h1) n (t.mono vis_drop)
theorem freezeD {a : Addr} {F V0 H : Hp} {ks : List Key} {ds : List Dat} (h : Hs K F V0 H (l ++ (a, .dK ks ds) :: r)) : Da K (vis F (l ++ r) H) (.ref a) (.dic ks ds) := by
  have c := h.cell _ (List.mem_append_right l List.mem_cons_self)
  cases c with
  | dK h1 n u t => exact .dic (.inl (h.drop_vis.trans h1)) n (t.mono vis_drop)
/-- p as data: the frozen form of a cell -/
def Cell.dat : Cell → Option Dat
  | .lst ds => some (.lst ds)
  | .ins C ns ds => some (.obj C ns ds)
  | .dK ks ds => some (.dic ks ds)
  | _ => none
theorem freezeA {a : Addr} {c : Cell} {F V0 H : Hp} {e : Dat} (h : Hs K F V0 H (l ++ (a, c) :: r)) (he : c.dat = some e) : Da K (vis F (l ++ r) H) (.ref a) e := by
  cases c <;> simp [Cell.dat] at he <;> subst he
  · exact freeze h
  · exact freezeD h
  · exact freezeO h
theorem ex_frz (h : EX K te sl own fun d o => ∃ a c l r e, d = .ptr a ∧ o = l ++ (a, c) :: r ∧ c.dat = some e ∧ P e (l ++ r)) : EX K te sl own P := fun F V0 σ H hs hl Q q => by
  refine h F V0 σ H hs hl Q fun v H' d o' hs' b hd ⟨a, c, l, r, e, e1, e2, e3, p⟩ => ?_
  subst e1 e2
  cases hd
  exact q _ H' _ _ hs'.drop (b.trans vis_drop) (freezeA hs' e3) p
end

/-! ### operators -/
section
variable {K : PySem.W.Frag} {own : Own} {P : PD} {d e : Dat} {X : Cx}
theorem r2_of {r : R2} {z : Dat} (h : ∀ (W : Hp) (x y : V), Da K W x d → Da K W y e → ∃ v, (∀ W, Da K W v z) ∧ ∀ (H : Hp) (Q : VK), Q v H → r x y H Q) (p : P z own) : R2X K r d e own P := fun F V0 H x y hs hx hy Q q => by
  obtain ⟨v, hv, hr⟩ := h _ x y hx hy
  exact hr H Q (q v H z own hs (Same.refl _) (hv _) p)
def rStr2 (g : Str → Str → V) : R2 := fun x y H Q => ∃ i j, x = .str i ∧ y = .str j ∧ Q (g i j) H
/-- + -/
def rAddS' : R2 := fun x y H Q => ∃ i j, x = .str i ∧ y = .str j ∧ i.length + j.length ≤ sizeLine ∧ Q (.str (i ++ j)) H
def uAdd (K : PySem.W.Frag) : R2 := fun x y H Q => rI0 (fun i j => .int (i + j)) x y H Q ∨ rAddS' x y H Q ∨ rCat x y H Q ∨ rCatA K x y H Q
theorem op_addU : OpR X (binaryOp .Add) (uAdd X.K) := OpR.or op_add (OpR.or op_add_str (OpR.or op_cat op_catA))
theorem add_int {i j : Int} (p : P (.int (i + j)) own) : R2X K (uAdd K) (.int i) (.int j) own P := r2_of (fun W x y hx hy => by cases hx; cases hy; exact ⟨_, fun _ => .int _, fun H Q q => .inl ⟨i, j, rfl, rfl, q⟩⟩) p
theorem add_str {i j : Str} (hl : i.length + j.length ≤ sizeLine) (p : P (.str (i ++ j)) own) : R2X K (uAdd K) (.str i) (.str j) own P := r2_of (fun W x y hx hy => by cases hx; cases hy; exact ⟨_, fun _ => .str _, fun H Q q => .inr (.inl ⟨i, j, rfl, rfl, hl, q⟩)⟩) p
theorem sub_int {i j : Int} (p : P (.int (i - j)) own) : R2X K (rI0 fun i j => .int (i - j)) (.int i) (.int j) own P := r2_of (fun W x y hx hy => by cases hx; cases hy; exact ⟨_, fun _ => .int _, fun H Q q => ⟨i, j, rfl, rfl, q⟩⟩) p
def uMul : R2 := rI IntMulOk fun i j => .int (i * j)
theorem op_mulU : OpR X (binaryOp .Mult) uMul := opI fun _ _ _ _ _ _ _ hc q => PySem.P.mul_int q hc
theorem mul_int {i j : Int} (h : IntMulOk i j) (p : P (.int (i * j)) own) : R2X K uMul (.int i) (.int j) own P := r2_of (fun W x y hx hy => by cases hx; cases hy; exact ⟨_, fun _ => .int _, fun H Q q => ⟨i, j, rfl, rfl, h, q⟩⟩) p
theorem div_int {i j : Int} (h : CDivW i j) (p : P (.int (i / j)) own) : R2X K (rI CDivW fun i j => .int (i / j)) (.int i) (.int j) own P := r2_of (fun W x y hx hy => by cases hx; cases hy; exact ⟨_, fun _ => .int _, fun H Q q => ⟨i, j, rfl, rfl, h, q⟩⟩) p
theorem mod_int {i j : Int} (h : 0 < j) (p : P (.int (i % j)) own) : R2X K (rI (fun _ j => 0 < j) fun i j => .int (i % j)) (.int i) (.int j) own P := r2_of (fun W x y hx hy => by cases hx; cases hy; exact ⟨_, fun _ => .int _, fun H Q q => ⟨i, j, rfl, rfl, h, q⟩⟩) p
theorem pow_int {i j : Int} (h : CPow i j) (p : P (.int (i ^ j.toNat)) own) : R2X K (rI CPow fun i j => .int (i ^ j.toNat)) (.int i) (.int j) own P := r2_of (fun W x y hx hy => by cases hx; cases hy; exact ⟨_, fun _ => .int _, fun H Q q => ⟨i, j, rfl, rfl, h, q⟩⟩) p
/-- lists end to end: a new list, as data -/
theorem vis_newd {F V0 H : Hp} {p : Addr} {o : HO} (hs : Hs K F V0 H own) (hp : H p = none) : Hs K F V0 (upd H p o) own ∧ Same (vis F own H) (vis F own (upd H p o)) ∧ vis F own (upd H p o) p = some o :=
  ⟨hs.grow (same_new hp), vis_grow hs (same_new hp), vis_at hs hp⟩
theorem add_lst {ds es : List Dat} (h1 : TrkD own d ds) (h2 : TrkD own e es) (hl : ds.length + es.length ≤ sizeLine) (p : P (.lst (ds ++ es)) own) : R2X K (uAdd K) d e own P := fun F V0 H x y hs hx hy Q q => by
  obtain ⟨a, vs, rfl, ha, la⟩ := h1.tk hs hx
  obtain ⟨b, us, rfl, hb, lb⟩ := h2.tk hs hy
  refine .inr (.inr (.inl ⟨a, b, vs, us, rfl, rfl, ha, hb, by rw [la.length, lb.length]; exact hl, fun c hc => ?_⟩))
  obtain ⟨g1, g2, g3⟩ := vis_newd (o := .lst (vs ++ us)) hs hc
  exact q _ _ _ own g1 g2 (.lst g3 ((la.append lb).mono g2)) p
theorem add_tup {ds es : List Dat} (hl : ds.length + es.length ≤ sizeLine) (p : P (.tup (ds ++ es)) own) : R2X K (uAdd K) (.tup ds) (.tup es) own P := fun F V0 H x y hs hx hy Q q => by
  cases hx with
  | tup ha la =>
    cases hy with
    | tup hb lb =>
      rename_i a xs b ys
      refine .inr (.inr (.inr ⟨a, b, xs, ys, rfl, rfl, tq vis_sub ha, tq vis_sub hb, by rw [la.length, lb.length]; exact hl, fun z => ?_, fun z1 z2 => ?_, fun z1 z2 c hc => ?_⟩))
      · subst z
        cases la
        exact q _ H _ own hs (Same.refl _) (.tup hb lb) p
      · subst z2
        cases lb
        rw [List.append_nil] at p
        exact q _ H _ own hs (Same.refl _) (.tup ha la) p
      · obtain ⟨g1, g2, g3⟩ := vis_newd (o := .tup (xs ++ ys)) hs hc
        exact q _ _ _ own g1 g2 (.tup g3 ((la.append lb).mono g2)) p
end
end Sy
/-! Rules of the symbolic layer: equality, in, items, order. -/
namespace Sy
open PySem L2

/-! ### data that can be compared -/
mutual
def Dat.py : Dat → PyData
  | .non => .none | .bl b => .bool b | .int i => .int i | .str x => .str x
  | .tup ds => .tuple (Dat.pyL ds) | .lst ds => .list (Dat.pyL ds) | .scr ds => .list (Dat.pyL ds)
  | .obj _ _ _ => .none | .dic _ _ => .none | .ptr _ => .none
def Dat.pyL : List Dat → List PyData
  | [] => []
  | d :: ds => Dat.py d :: Dat.pyL ds
end
mutual
/-- no bool, no object, no written list; texts of real signs; at most n deep -/
inductive Sh : Nat → Dat → Prop
  | non {n : Nat} : Sh n .non
  | int {n : Nat} (i : Int) : Sh n (.int i)
  | str {n : Nat} {x : Str} : PyData.strOk x = true → Sh n (.str x)
  | tup {n : Nat} {ds : List Dat} : ShL n ds → Sh (n + 1) (.tup ds)
  | lst {n : Nat} {ds : List Dat} : ShL n ds → Sh (n + 1) (.lst ds)
inductive ShL : Nat → List Dat → Prop
  | nil {n : Nat} : ShL n []
  | cons {n : Nat} {d : Dat} {ds : List Dat} : Sh n d → ShL n ds → ShL n (d :: ds)
end
theorem shL_of {n : Nat} : ∀ {ds : List Dat}, (∀ d ∈ ds, Sh n d) → ShL n ds
  | [], _ => .nil
  | d :: ds, h => .cons (h d List.mem_cons_self) (shL_of fun e he => h e (List.mem_cons_of_mem _ he))
theorem shL_mem {n : Nat} : ∀ {ds : List Dat}, ShL n ds → ∀ d ∈ ds, Sh n d
  | _, .nil, d, h => by cases h
  | _, .cons a b, d, h => by
    rcases List.mem_cons.mp h with rfl | h
    · exact a
    · exact shL_mem b d h
mutual
theorem Sh.lay : ∀ {n : Nat} {d : Dat}, Sh n d → d.py.canLay0 = true ∧ d.py.depth ≤ n
  | _, _, .non => ⟨by simp [Dat.py, PyData.canLay0], by simp [Dat.py, PyData.depth]⟩
  | _, _, .int i => ⟨by simp [Dat.py, PyData.canLay0], by simp [Dat.py, PyData.depth]⟩
  | _, _, .str h => ⟨by simp [Dat.py, PyData.canLay0, h], by simp [Dat.py, PyData.depth]⟩
  | _, _, .tup h => by
    have := ShL.lay h
    simp [Dat.py, PyData.canLay0, PyData.depth, this.1]; exact this.2
  | _, _, .lst h => by
    have := ShL.lay h
    simp [Dat.py, PyData.canLay0, PyData.depth, this.1]; exact this.2
theorem ShL.lay : ∀ {n : Nat} {ds : List Dat}, ShL n ds → PyData.canLayAll0 (Dat.pyL ds) = true ∧ PyData.depthAll (Dat.pyL ds) ≤ n
  | _, _, .nil => ⟨by simp [Dat.pyL, PyData.canLayAll0], by simp [Dat.pyL, PyData.depthAll]⟩
  | _, _, .cons a b => by
    have h1 := Sh.lay a
    have h2 := ShL.lay b
    refine ⟨by simp [Dat.pyL, PyData.canLayAll0, h1.1, h2.1], ?_⟩
    simp only [Dat.pyL, PyData.depthAll]
    omega
end
theorem Sh.shaped {n : Nat} {d : Dat} (h : Sh n d) (hn : n ≤ 64) : SeqAt.shaped d.py = true := by
  unfold SeqAt.shaped
  rw [h.lay.1, Bool.true_and]
  exact decide_eq_true (Nat.le_trans h.lay.2 hn)
mutual
theorem Sh.dp {K : PySem.W.Frag} {H : Hp} : ∀ {n : Nat} {d : Dat} {v : V}, Sh n d → Da K H v d → Dp K H v d.py
  | _, _, _, .non, h => by cases h; simp only [Dat.py]; exact .non
  | _, _, _, .int i, h => by cases h; simp only [Dat.py]; exact .int i
  | _, _, _, .str q, h => by cases h; simp only [Dat.py]; exact .str _
  | _, _, _, .tup q, h => by cases h with | tup a b => simp only [Dat.py]; exact .tup (.inl (.inl a)) (ShL.dp q b)
  | _, _, _, .lst q, h => by cases h with | lst a b => simp only [Dat.py]; exact .lst (.inl (.inl a)) (ShL.dp q b)
theorem ShL.dp {K : PySem.W.Frag} {H : Hp} : ∀ {n : Nat} {ds : List Dat} {vs : List V}, ShL n ds → DaL K H vs ds → DpAll K H vs (Dat.pyL ds)
  | _, _, _, .nil, h => by cases h; simp only [Dat.pyL]; exact .nil
  | _, _, _, .cons a b, h => by cases h with | cons c d => simp only [Dat.pyL]; exact .cons (Sh.dp a c) (ShL.dp b d)
end
mutual
theorem eqv_iff : ∀ {n m : Nat} {d e : Dat}, Sh n d → Sh m e → (PyData.eqv d.py e.py = true ↔ d = e)
  | _, _, _, _, .non, .non => by simp [Dat.py, PyData.eqv]
  | _, _, _, _, .non, .int _ => by simp [Dat.py, PyData.eqv]
  | _, _, _, _, .non, .str _ => by simp [Dat.py, PyData.eqv]
  | _, _, _, _, .non, .tup _ => by simp [Dat.py, PyData.eqv]
  | _, _, _, _, .non, .lst _ => by simp [Dat.py, PyData.eqv]
  | _, _, _, _, .int _, .non => by simp [Dat.py, PyData.eqv]
  | _, _, _, _, .int _, .int _ => by simp [Dat.py, PyData.eqv]
  | _, _, _, _, .int _, .str _ => by simp [Dat.py, PyData.eqv]
  | _, _, _, _, .int _, .tup _ => by simp [Dat.py, PyData.eqv]
  | _, _, _, _, .int _, .lst _ => by simp [Dat.py, PyData.eqv]
  | _, _, _, _, .str _, .non => by simp [Dat.py, PyData.eqv]
  | _, _, _, _, .str _, .int _ => by simp [Dat.py, PyData.eqv]
  | _, _, _, _, .str _, .str _ => by simp [Dat.py, PyData.eqv]
  | _, _, _, _, .str _, .tup _ => by simp [Dat.py, PyData.eqv]
  | _, _, _, _, .str _, .lst _ => by simp [Dat.py, PyData.eqv]
  | _, _, _, _, .tup _, .non => by simp [Dat.py, PyData.eqv]
  | _, _, _, _, .tup _, .int _ => by simp [Dat.py, PyData.eqv]
  | _, _, _, _, .tup _, .str _ => by simp [Dat.py, PyData.eqv]
  | _, _, _, _, .tup a, .tup b => by
    have := eqvL_iff a b
    simp only [Dat.py, PyData.eqv, Dat.tup.injEq]; exact this
  | _, _, _, _, .tup _, .lst _ => by simp [Dat.py, PyData.eqv]
  | _, _, _, _, .lst _, .non => by simp [Dat.py, PyData.eqv]
  | _, _, _, _, .lst _, .int _ => by simp [Dat.py, PyData.eqv]
  | _, _, _, _, .lst _, .str _ => by simp [Dat.py, PyData.eqv]
  | _, _, _, _, .lst _, .tup _ => by simp [Dat.py, PyData.eqv]
  | _, _, _, _, .lst a, .lst b => by
    have := eqvL_iff a b
    simp only [Dat.py, PyData.eqv, Dat.lst.injEq]; exact this
theorem eqvL_iff : ∀ {n m : Nat} {ds es : List Dat}, ShL n ds → ShL m es → (PyData.eqvAll (Dat.pyL ds) (Dat.pyL es) = true ↔ ds = es)
  | _, _, _, _, .nil, .nil => by simp [Dat.pyL, PyData.eqvAll]
  | _, _, _, _, .nil, .cons _ _ => by simp [Dat.pyL, PyData.eqvAll]
  | _, _, _, _, .cons _ _, .nil => by simp [Dat.pyL, PyData.eqvAll]
  | _, _, _, _, .cons a b, .cons c d => by
    have h1 := eqv_iff a c
    have h2 := eqvL_iff b d
    simp only [Dat.pyL, PyData.eqvAll, Bool.and_eq_true, List.cons.injEq, h1, h2]
end

section
variable {K : PySem.W.Frag} {own : Own} {P : PD} {d e : Dat} {X : Cx}
/-! ### == and != -/
def uEq (K : PySem.W.Frag) : R2 := fun x y H Q => rEq x y H Q ∨ rEqD K x y H Q
def uNe (K : PySem.W.Frag) : R2 := fun x y H Q => rNe x y H Q ∨ rNeD K x y H Q
theorem op_eqU (hu : X.A.units + 64 < cLine) : OpR X (compareOp .Eq) (uEq X.K) := OpR.or op_eq (op_eqD hu)
theorem op_neU (hu : X.A.units + 64 < cLine) : OpR X (compareOp .NotEq) (uNe X.K) := OpR.or op_ne (op_neD hu)
theorem eq_int {i j : Int} (p : P (.bl (decide (i = j))) own) : R2X K (uEq K) (.int i) (.int j) own P := r2_of (fun W x y hx hy => by
  cases hx; cases hy
  refine ⟨_, fun _ => .bl _, fun H Q q => .inl ⟨rfl, ?_⟩⟩
  have e : decide (V.int i = V.int j) = decide (i = j) := by simp
  rw [e]; exact q) p
theorem eq_str {i j : Str} (p : P (.bl (decide (i = j))) own) : R2X K (uEq K) (.str i) (.str j) own P := r2_of (fun W x y hx hy => by
  cases hx; cases hy
  refine ⟨_, fun _ => .bl _, fun H Q q => .inl ⟨rfl, ?_⟩⟩
  have e : decide (V.str i = V.str j) = decide (i = j) := by simp
  rw [e]; exact q) p
theorem ne_int {i j : Int} (p : P (.bl (!decide (i = j))) own) : R2X K (uNe K) (.int i) (.int j) own P := r2_of (fun W x y hx hy => by
  cases hx; cases hy
  refine ⟨_, fun _ => .bl _, fun H Q q => .inl ⟨rfl, ?_⟩⟩
  have e : decide (V.int i = V.int j) = decide (i = j) := by simp
  rw [e]; exact q) p
theorem ne_str {i j : Str} (p : P (.bl (!decide (i = j))) own) : R2X K (uNe K) (.str i) (.str j) own P := r2_of (fun W x y hx hy => by
  cases hx; cases hy
  refine ⟨_, fun _ => .bl _, fun H Q q => .inl ⟨rfl, ?_⟩⟩
  have e : decide (V.str i = V.str j) = decide (i = j) := by simp
  rw [e]; exact q) p
theorem eq_dat {n m : Nat} (h1 : Sh n d) (h2 : Sh m e) (p : ∀ b : Bool, (b = true ↔ d = e) → P (.bl b) own) (hn : n ≤ 64 := by decide) (hm : m ≤ 64 := by decide) : R2X K (uEq K) d e own P := fun F V0 H x y hs hx hy Q q =>
  .inr ⟨_, _, h1.dp (hx.mono vis_sub), h2.dp (hy.mono vis_sub), h1.shaped hn, h2.shaped hm, q _ H _ own hs (Same.refl _) (.bl _) (p _ (eqv_iff h1 h2))⟩
theorem ne_dat {n m : Nat} (h1 : Sh n d) (h2 : Sh m e) (p : ∀ b : Bool, (b = true ↔ d = e) → P (.bl (!b)) own) (hn : n ≤ 64 := by decide) (hm : m ≤ 64 := by decide) : R2X K (uNe K) d e own P := fun F V0 H x y hs hx hy Q q =>
  .inr ⟨_, _, h1.dp (hx.mono vis_sub), h2.dp (hy.mono vis_sub), h1.shaped hn, h2.shaped hm, q _ H _ own hs (Same.refl _) (.bl _) (p _ (eqv_iff h1 h2))⟩
/-- an owned list against data: its items are what counts -/
theorem trk_dp {F V0 H : Hp} {x : V} {ds : List Dat} {n : Nat} (h : TrkD own d ds) (hs : Hs K F V0 H own) (hx : Da K (vis F own H) x d) (q : ShL n ds) : Dp K H x (Dat.lst ds).py := by
  obtain ⟨a, vs, rfl, ha, l⟩ := h.tk hs hx
  simp only [Dat.py]
  exact .lst (.inl (.inl ha)) (q.dp (l.mono vis_sub))
theorem eq_lst {ds es : List Dat} {n m : Nat} (h1 : TrkD own d ds) (h2 : TrkD own e es) (s1 : ShL n ds) (s2 : ShL m es) (p : ∀ b : Bool, (b = true ↔ ds = es) → P (.bl b) own) (hn : n < 64 := by decide) (hm : m < 64 := by decide) : R2X K (uEq K) d e own P := fun F V0 H x y hs hx hy Q q =>
  .inr ⟨_, _, trk_dp h1 hs hx s1, trk_dp h2 hs hy s2, (Sh.lst s1).shaped hn, (Sh.lst s2).shaped hm, q _ H _ own hs (Same.refl _) (.bl _) (p _ ((eqv_iff (.lst s1) (.lst s2)).trans (by simp)))⟩
theorem ne_lst {ds es : List Dat} {n m : Nat} (h1 : TrkD own d ds) (h2 : TrkD own e es) (s1 : ShL n ds) (s2 : ShL m es) (p : ∀ b : Bool, (b = true ↔ ds = es) → P (.bl (!b)) own) (hn : n < 64 := by decide) (hm : m < 64 := by decide) : R2X K (uNe K) d e own P := fun F V0 H x y hs hx hy Q q =>
  .inr ⟨_, _, trk_dp h1 hs hx s1, trk_dp h2 hs hy s2, (Sh.lst s1).shaped hn, (Sh.lst s2).shaped hm, q _ H _ own hs (Same.refl _) (.bl _) (p _ ((eqv_iff (.lst s1) (.lst s2)).trans (by simp)))⟩

/-! ### order of ints -/
theorem lt_int {i j : Int} (p : P (.bl (decide (i < j))) own) : R2X K (rI0 fun i j => .bl (decide (i < j))) (.int i) (.int j) own P := r2_of (fun W x y hx hy => by cases hx; cases hy; exact ⟨_, fun _ => .bl _, fun H Q q => ⟨i, j, rfl, rfl, q⟩⟩) p
theorem le_int {i j : Int} (p : P (.bl (decide (i ≤ j))) own) : R2X K (rI0 fun i j => .bl (decide (i ≤ j))) (.int i) (.int j) own P := r2_of (fun W x y hx hy => by cases hx; cases hy; exact ⟨_, fun _ => .bl _, fun H Q q => ⟨i, j, rfl, rfl, q⟩⟩) p
theorem gt_int {i j : Int} (p : P (.bl (decide (j < i))) own) : R2X K (rI0 fun i j => .bl (decide (j < i))) (.int i) (.int j) own P := r2_of (fun W x y hx hy => by cases hx; cases hy; exact ⟨_, fun _ => .bl _, fun H Q q => ⟨i, j, rfl, rfl, q⟩⟩) p
theorem ge_int {i j : Int} (p : P (.bl (decide (j ≤ i))) own) : R2X K (rI0 fun i j => .bl (decide (j ≤ i))) (.int i) (.int j) own P := r2_of (fun W x y hx hy => by cases hx; cases hy; exact ⟨_, fun _ => .bl _, fun H Q q => ⟨i, j, rfl, rfl, q⟩⟩) p
/-! ### is None -/
def rIsN' : R2 := fun x y H Q => y = .non ∧ Q (.bl (decide (x = .non))) H
def rNotN' : R2 := fun x y H Q => y = .non ∧ Q (.bl (!decide (x = .non))) H
theorem op_isU : OpR X (compareOp .Is) rIsN' := op_isN
theorem op_notU : OpR X (compareOp .IsNot) rNotN' := op_notN
def Dat.isN : Dat → Bool
  | .non => true
  | _ => false
theorem Da.isN {W : Hp} {v : V} (h : Da K W v d) : decide (v = .non) = d.isN := by cases h <;> first | rfl | (simp [Dat.isN])
theorem is_non (p : P (.bl d.isN) own) : R2X K rIsN' d .non own P := fun F V0 H x y hs hx hy Q q => by
  cases hy
  exact ⟨rfl, by rw [hx.isN]; exact q _ H _ own hs (Same.refl _) (.bl _) p⟩
theorem not_non (p : P (.bl (!d.isN)) own) : R2X K rNotN' d .non own P := fun F V0 H x y hs hx hy Q q => by
  cases hy
  exact ⟨rfl, by rw [hx.isN]; exact q _ H _ own hs (Same.refl _) (.bl _) p⟩

/-! ### in -/
def rInQ (K : PySem.W.Frag) (neg : Bool) : R2 := fun x y H Q => ∃ d ds, Dp K H x d ∧ (Dp K H y (.list ds) ∨ Dp K H y (.tuple ds)) ∧ SeqAt.shaped d = true ∧ SeqAt.shaped (.list ds) = true ∧ Q (.bl (if neg then !ds.any fun z => PyData.eqv z d else ds.any fun z => PyData.eqv z d)) H
theorem op_inQ (hu : X.A.units + 65 < cLine) : OpR X (compareOp .In) (rInQ X.K false) := by
  intro pins s σ H x y v u Q I rx ry h
  obtain ⟨d, ds, hd, he, sd, se, q⟩ := h
  obtain ⟨as, r1⟩ := Dp.reads I d x v hd rx
  rcases he with he | he
  · obtain ⟨bs, r2⟩ := Dp.reads I (.list ds) y u he ry
    exact SeqAt.in_list_reads r2 r1 (SeqAt.canLay_of_shaped se) (SeqAt.canLay_of_shaped sd) (PyProof.Rows.room_in_shaped sd hu) ⟨.bl _, H, I, rfl, q⟩
  · obtain ⟨bs, r2⟩ := Dp.reads I (.tuple ds) y u he ry
    exact SeqAt.in_tuple_reads r2 r1 (SeqAt.canLay_of_shaped se) (SeqAt.canLay_of_shaped sd) (PyProof.Rows.room_in_shaped sd hu) ⟨.bl _, H, I, rfl, q⟩
theorem op_notInQ (hu : X.A.units + 65 < cLine) : OpR X (compareOp .NotIn) (rInQ X.K true) := by
  intro pins s σ H x y v u Q I rx ry h
  obtain ⟨d, ds, hd, he, sd, se, q⟩ := h
  obtain ⟨as, r1⟩ := Dp.reads I d x v hd rx
  rcases he with he | he
  · obtain ⟨bs, r2⟩ := Dp.reads I (.list ds) y u he ry
    exact SeqAt.notIn_list_reads r2 r1 (SeqAt.canLay_of_shaped se) (SeqAt.canLay_of_shaped sd) (PyProof.Rows.room_in_shaped sd hu) ⟨.bl _, H, I, rfl, q⟩
  · obtain ⟨bs, r2⟩ := Dp.reads I (.tuple ds) y u he ry
    exact SeqAt.notIn_tuple_reads r2 r1 (SeqAt.canLay_of_shaped se) (SeqAt.canLay_of_shaped sd) (PyProof.Rows.room_in_shaped sd hu) ⟨.bl _, H, I, rfl, q⟩
def rInDic (neg : Bool) : R2 := fun y x H Q => ∃ a o, x = .ref a ∧ DGet H a y o ∧ Q (.bl (if neg then !o.isSome else o.isSome)) H
theorem op_inDic (hu : X.A.units + 1 < cLine) : OpR X (compareOp .In) (rInDic false) := by
  intro pins s σ H y x v u Q I ry rx h
  obtain ⟨a, o, rfl, g, q⟩ := h
  obtain rfl : u = Value.ref a := rx
  exact d_in hu I g ry fun s3 I3 => ⟨.bl o.isSome, H, I3, rfl, q⟩
theorem op_notInDic (hu : X.A.units + 1 < cLine) : OpR X (compareOp .NotIn) (rInDic true) := by
  intro pins s σ H y x v u Q I ry rx h
  obtain ⟨a, o, rfl, g, q⟩ := h
  obtain rfl : u = Value.ref a := rx
  exact d_notIn hu I g ry fun s3 I3 => ⟨.bl (!o.isSome), H, I3, rfl, q⟩
def rInStr (neg : Bool) : R2 := fun x y H Q => ∃ i j, x = .str i ∧ y = .str j ∧ Q (.bl (if neg then !(!(Builtin.Str.occurrences j i 0 j.length 1).isEmpty) else !(Builtin.Str.occurrences j i 0 j.length 1).isEmpty)) H
def uIn (K : PySem.W.Frag) (neg : Bool) : R2 := fun x y H Q => rInQ K neg x y H Q ∨ rInDic neg x y H Q ∨ rInStr neg x y H Q
theorem op_inU (hu : X.A.units + 65 < cLine) : OpR X (compareOp .In) (uIn X.K false) := OpR.or (op_inQ hu) (OpR.or (op_inDic (Nat.lt_of_le_of_lt (Nat.add_le_add_left (by decide) _) hu)) op_in_str)
theorem op_notInU (hu : X.A.units + 65 < cLine) : OpR X (compareOp .NotIn) (uIn X.K true) := OpR.or (op_notInQ hu) (OpR.or (op_notInDic (Nat.lt_of_le_of_lt (Nat.add_le_add_left (by decide) _) hu)) op_notin_str)
theorem any_eqv {n m : Nat} (h1 : Sh n d) : ∀ {ds : List Dat}, ShL m ds → (((Dat.pyL ds).any fun z => PyData.eqv z d.py) = true ↔ d ∈ ds)
  | _, .nil => by simp [Dat.pyL]
  | _, .cons a b => by
    have i := any_eqv h1 b
    have j := eqv_iff a h1
    simp only [Dat.pyL, List.any_cons, Bool.or_eq_true, List.mem_cons, i, j]
    exact ⟨fun z => z.imp Eq.symm id, fun z => z.imp Eq.symm id⟩
theorem seq_dp {F V0 H : Hp} {x : V} {ds : List Dat} {n : Nat} (h : SeqD own e ds) (hs : Hs K F V0 H own) (hx : Da K (vis F own H) x e) (q : ShL n ds) : Dp K H x (.list (Dat.pyL ds)) ∨ Dp K H x (.tuple (Dat.pyL ds)) := by
  obtain ⟨a, vs, rfl, ha, l⟩ := h.sq hs hx
  rcases ha with ha | ha
  · exact .inl (.lst ha (q.dp (l.mono vis_sub)))
  · exact .inr (.tup ha (q.dp (l.mono vis_sub)))
theorem in_seq {neg : Bool} {ds : List Dat} {n m : Nat} (h : SeqD own e ds) (h1 : Sh n d) (h2 : ShL m ds) (p : ∀ b : Bool, (b = true ↔ d ∈ ds) → P (.bl (if neg then !b else b)) own) (hn : n ≤ 64 := by decide) (hm : m < 64 := by decide) : R2X K (uIn K neg) d e own P := fun F V0 H x y hs hx hy Q q =>
  .inl ⟨_, _, h1.dp (hx.mono vis_sub), seq_dp h hs hy h2, h1.shaped hn, by
    have := (Sh.lst h2).shaped (Nat.succ_le_of_lt hm)
    simpa [Dat.py] using this, q _ H _ own hs (Same.refl _) (.bl _) (p _ (any_eqv h1 h2))⟩
def keyD : Key → Dat
  | .inl i => .int i
  | .inr x => .str x
theorem keyD_v {W : Hp} {k : Key} {v : V} (h : Da K W v (keyD k)) : v = kV k := by cases k <;> (simp only [keyD] at h; cases h; rfl)
/-- the place of a key -/
def kix {κ : Type} [DecidableEq κ] : List κ → κ → Option Nat
  | [], _ => none
  | n :: ns, f => if n = f then some 0 else (kix ns f).map (· + 1)
theorem valV_kix {κ : Type} [DecidableEq κ] {k : κ} : ∀ {kvs : List (κ × V)}, valV kvs k = (kix (kvs.map (·.1)) k).bind fun i => (kvs.map (·.2))[i]?
  | [] => rfl
  | p :: kvs => by
    have ih := valV_kix (k := k) (kvs := kvs)
    unfold valV at ih ⊢
    rw [List.find?_cons, List.map_cons, List.map_cons]
    unfold kix
    by_cases e : p.1 = k
    · rw [if_pos e, decide_eq_true e]; rfl
    · rw [if_neg e, decide_eq_false e]
      show Option.map _ (List.find? _ kvs) = _
      rw [ih]
      cases kix (kvs.map (·.1)) k <;> simp
theorem kix_lt {κ : Type} [DecidableEq κ] {k : κ} : ∀ {ks : List κ} {i : Nat}, kix ks k = some i → i < ks.length ∧ ks[i]? = some k
  | [], _, h => by cases h
  | n :: ns, i, h => by
    unfold kix at h
    by_cases e : n = k
    · rw [if_pos e] at h; cases h; subst e; exact ⟨Nat.zero_lt_succ _, rfl⟩
    · rw [if_neg e] at h
      obtain ⟨j, hj, rfl⟩ := Option.map_eq_some_iff.mp h
      obtain ⟨a, b⟩ := kix_lt hj
      exact ⟨Nat.succ_lt_succ a, by simpa using b⟩
theorem valV_isSome {κ : Type} [DecidableEq κ] {kvs : List (κ × V)} {k : κ} : (valV kvs k).isSome = (kix (kvs.map (·.1)) k).isSome := by
  rw [valV_kix]
  cases h : kix (kvs.map (·.1)) k with
  | none => rfl
  | some i =>
    have := (kix_lt h).1
    rw [List.length_map] at this
    simp [this]
theorem in_dic {neg : Bool} {k : Key} {ks : List Key} {ds : List Dat} (h : DicD own e ks ds) (p : P (.bl (if neg then !(kix ks k).isSome else (kix ks k).isSome)) own) : R2X K (uIn K neg) (keyD k) e own P := fun F V0 H x y hs hx hy Q q => by
  obtain ⟨a, kvs, rfl, ha, hk, l⟩ := h.rd hs hy
  obtain rfl := keyD_v hx
  refine .inr (.inl ⟨a, _, rfl, .inl ⟨kvs, k, ha, rfl, rfl⟩, ?_⟩)
  rw [valV_isSome, hk]
  exact q _ H _ own hs (Same.refl _) (.bl _) p
end
end Sy
/-! Rules of the symbolic layer: items, slices, fields, tests, calls. -/
namespace Sy
open PySem L2
section
variable {K : PySem.W.Frag} {own o1 l r : Own} {sl : SL} {P : PD} {d e : Dat} {X : Cx} {ta tb tc te : TE}

/-! ### items -/
theorem DaL.atI {W : Hp} {vs : List V} {ds : List Dat} {i : Int} (h : DaL K W vs ds) (e : atI ds i = some d) : ∃ v, L2.atI vs i = some v ∧ Da K W v d := by
  unfold L2.atI at e ⊢
  rw [h.length]
  cases q : ixN ds.length i with
  | none => rw [q] at e; cases e
  | some j =>
    rw [q] at e
    exact h.get e
def rIxDic : R2 := fun x y H Q => ∃ a v, x = .ref a ∧ DGet H a y (some v) ∧ Q v H
theorem ix_dic (hu : X.A.units + 1 < cLine) : IxR X rIxDic := by
  intro value slice pins s σ H x y v u Q I rx ry h hs
  obtain ⟨a, z, rfl, g, q⟩ := h
  obtain rfl : v = Value.ref a := rx
  have hT := dict_typeIs I g
  have hl := PySem.F.slot_dict_getitem.lookup
  have h' : wpAny (model X.prog X.w) X.A (getItem (.ref a) u) (EP X pins σ Q) X.xe s := d_getItem hu I g ry fun w' s3 I3 rw' => ⟨z, H, I3, rw', q⟩
  unfold PyProof.Rows.subscriptTail
  refine wpAny_bind ?_
  rw [getitemInPython_of_ne hT.not_modules]
  refine wpAny_bind (wpAny_specialOf hT hl ?_)
  have fin : wpAny (model X.prog X.w) X.A (subscripted slice false (.ref a) u) (fun r s₃ => wpAny (model X.prog X.w) X.A (letTemporaryGo value (.ref a) r >>= fun _ => pure r) (EP X pins σ Q) X.xe s₃) X.xe s := by
    rw [hs]
    exact wpAny_operating (wpAny_mono h' (fun r s₃ h₃ => wpAny_bind (wpAny_letTemporaryGo (wpAny_pure h₃))) fun _ _ x => x)
  first
    | exact wpAny_pure (wpAny_bind fin)
    | exact wpAny_bind (wpAny_pure (wpAny_bind fin))
    | exact wpAny_bind fin
def uIx (K : PySem.W.Frag) : R2 := fun x y H Q => rIxL K x y H Q ∨ rIxT K x y H Q ∨ rIxS x y H Q ∨ rIxDic x y H Q
theorem ix_U (hu : X.A.units + 1 < cLine) : IxR X (uIx X.K) := IxR.or ix_list (IxR.or ix_tup (IxR.or ix_str (ix_dic hu)))
theorem ix_lst {ds : List Dat} {i : Int} (h : LstD own d ds) (hi : atI ds i = some e) (p : P e own) : R2X K (uIx K) d (.int i) own P := fun F V0 H x y hs hx hy Q q => by
  obtain ⟨a, vs, rfl, ha, l⟩ := h.sq hs hx
  cases hy
  obtain ⟨v, e1, e2⟩ := l.atI hi
  exact .inl ⟨a, vs, i, v, rfl, rfl, ha, e1, q _ H _ own hs (Same.refl _) e2 p⟩
theorem ix_tp {ds : List Dat} {i : Int} (hi : atI ds i = some e) (p : P e own) : R2X K (uIx K) (.tup ds) (.int i) own P := fun F V0 H x y hs hx hy Q q => by
  cases hx with
  | tup ha l =>
    cases hy
    obtain ⟨v, e1, e2⟩ := l.atI hi
    exact .inr (.inl ⟨_, _, i, v, rfl, rfl, tq vis_sub ha, e1, q _ H _ own hs (Same.refl _) e2 p⟩)
theorem ix_st {z : Str} {i : Int} {c : Nat} (hz : z.length ≤ sizeLine) (hi : atI z.cps.toList i = some c) (p : P (.str ⟨#[c]⟩) own) : R2X K (uIx K) (.str z) (.int i) own P := fun F V0 H x y hs hx hy Q q => by
  cases hx; cases hy
  exact .inr (.inr (.inl ⟨z, i, c, rfl, rfl, hz, hi, q _ H _ own hs (Same.refl _) (.str _) p⟩))
theorem ix_dc {k : Key} {ks : List Key} {ds : List Dat} {i : Nat} (h : DicD own d ks ds) (hi : kix ks k = some i) (he : ds[i]? = some e) (p : P e own) : R2X K (uIx K) d (keyD k) own P := fun F V0 H x y hs hx hy Q q => by
  obtain ⟨a, kvs, rfl, ha, hk, l⟩ := h.rd hs hx
  obtain rfl := keyD_v hy
  obtain ⟨v, e1, e2⟩ := l.get he
  refine .inr (.inr (.inr ⟨a, v, rfl, .inl ⟨kvs, k, ha, rfl, ?_⟩, q _ H _ own hs (Same.refl _) e2 p⟩))
  rw [valV_kix, hk, hi]
  exact e1.symm

/-! ### slices -/
def cutD (ds : List Dat) (lo hi : Option Int) : List Dat := (ds.drop (HT.sIx ds.length 0 lo)).take (HT.sIx ds.length ds.length hi - HT.sIx ds.length 0 lo)
theorem DaL.cut {W : Hp} {vs : List V} {ds : List Dat} (h : DaL K W vs ds) (lo hi : Option Int) : DaL K W (cutV vs lo hi) (cutD ds lo hi) := by
  unfold cutV cutD
  rw [h.length]
  exact (h.drop _).take _
def uSl (K : PySem.W.Frag) : V → Option Int → Option Int → Hp → VK → Prop := fun x lo hi H Q => rSlL K x lo hi H Q ∨ rSlS x lo hi H Q ∨ rSlA K x lo hi H Q
theorem sl_U : SlR X (uSl X.K) := SlR.or sl_list (SlR.or sl_str sl_tupA)
theorem ox_none {P : Option Int → Own → Prop} (p : P none own) : OX K tNoPart sl own P := fun F V0 σ H hs hl Q q => q none H own hs (Same.refl _) p
theorem ox_some {P : Option Int → Own → Prop} (h : EX K te sl own fun d o => ∃ i, d = .int i ∧ P (some i) o) : OX K (tPart te) sl own P := fun F V0 σ H hs hl Q q => by
  refine h F V0 σ H hs hl _ fun v H1 d o1 hs1 e1 hd1 ⟨i, e, p⟩ => ?_
  subst e
  cases hd1
  exact ⟨i, rfl, q _ H1 o1 hs1 e1 p⟩
def S3X (K : PySem.W.Frag) (d : Dat) (lo hi : Option Int) (own : Own) (P : PD) : Prop := ∀ (F V0 H : Hp) (x : V), Hs K F V0 H own → Da K (vis F own H) x d →
  ∀ Q : VK, (∀ v H' d own', Hs K F V0 H' own' → Same (vis F own H) (vis F own' H') → Da K (vis F own' H') v d → P d own' → Q v H') → uSl K x lo hi H Q
theorem ex_sl {tl th : TO} (h : EX K te sl own fun d o => OX K tl sl o fun lo o2 => OX K th sl o2 fun hi o3 => S3X K d lo hi o3 P) : EX K (tSl (uSl K) te tl th) sl own P := fun F V0 σ H hs hl Q q => by
  refine h F V0 σ H hs hl _ fun v H1 d1 o1 hs1 e1 hd1 p1 => ?_
  refine p1 F V0 σ H1 hs1 (hl.mono e1) _ fun lo H2 o2 hs2 e2 p2 => ?_
  refine p2 F V0 σ H2 hs2 (hl.mono (e1.trans e2)) _ fun hi H3 o3 hs3 e3 p3 => ?_
  exact p3 F V0 H3 v hs3 (hd1.mono (e2.trans e3)) Q fun z H4 d4 o4 hs4 e4 hd4 p4 => q z H4 d4 o4 hs4 (((e1.trans e2).trans e3).trans e4) hd4 p4
theorem sl_lst {lo hi : Option Int} {ds : List Dat} (h : LstD own d ds) (p : P (.lst (cutD ds lo hi)) own) : S3X K d lo hi own P := fun F V0 H x hs hx Q q => by
  obtain ⟨a, vs, rfl, ha, l⟩ := h.sq hs hx
  refine .inl ⟨a, vs, rfl, ha, fun c hc => ?_⟩
  obtain ⟨g1, g2, g3⟩ := vis_newd (o := .lst (cutV vs lo hi)) hs hc
  exact q _ _ _ own g1 g2 (.lst g3 ((l.cut lo hi).mono g2)) p
theorem sl_st {lo hi : Option Int} {z : Str} (hz : z.length ≤ sizeLine) (p : P (.str (cutS z lo hi)) own) : S3X K (.str z) lo hi own P := fun F V0 H x hs hx Q q => by
  cases hx
  exact .inr (.inl ⟨z, rfl, hz, q _ H _ own hs (Same.refl _) (.str _) p⟩)
theorem cutV_all {vs : List V} {lo hi : Option Int} (h : HT.sIx vs.length 0 lo = 0 ∧ HT.sIx vs.length vs.length hi = vs.length) : cutV vs lo hi = vs := by
  unfold cutV
  rw [h.1, h.2]
  simp
theorem sl_tp {lo hi : Option Int} {ds : List Dat} (p : P (.tup (cutD ds lo hi)) own) : S3X K (.tup ds) lo hi own P := fun F V0 H x hs hx Q q => by
  cases hx with
  | tup ha l =>
    rename_i a xs
    refine .inr (.inr ⟨a, xs, rfl, tq vis_sub ha, fun z => ?_, fun z c hc => ?_⟩)
    · have := l.cut lo hi
      rw [cutV_all z] at this
      exact q _ H _ own hs (Same.refl _) (.tup ha this) p
    · obtain ⟨g1, g2, g3⟩ := vis_newd (o := .tup (cutV xs lo hi)) hs hc
      exact q _ _ _ own g1 g2 (.tup g3 ((l.cut lo hi).mono g2)) p

/-! ### fields -/
/-- the attribute f of d is read -/
def FgW (K : PySem.W.Frag) (f : Str) (d : Dat) (o : Own) (P : PD) : Prop := ∃ C ns ds i e, ObjD o d C ns ds ∧ Cls K C ∧ NoAttr K C f ∧ fidx ns f = some i ∧ ds[i]? = some e ∧ P e o
theorem ex_fld {f : Str} (h : EX K ta sl own fun d o => FgW K f d o P) : EX K (tFld K ta f) sl own P := fun F V0 σ H hs hl Q q => by
  refine h F V0 σ H hs hl _ fun v H1 d1 o1 hs1 e1 hd1 ⟨C, ns, ds, i, e, ho, hc, hn, hf, he, p⟩ => ?_
  obtain ⟨a, dx, gs, rfl, ha, hk, hg⟩ := ho.ob hs1 hd1
  obtain ⟨v, e2, e3⟩ := fidx_some hf hk hg he
  exact ⟨a, C, dx, gs, v, rfl, ha, hc, hn, e2, q v H1 e o1 hs1 e1 e3 p⟩

/-! ### tests -/
def TruD (own : Own) (d : Dat) (b : Bool) : Prop := match d with
  | .non => b = false
  | .bl k => b = k
  | .int i => b = (i != 0)
  | .str z => z.length ≤ sizeLine ∧ b = ((z.length : Int) != 0)
  | .tup ds => b = !ds.isEmpty
  | .lst ds => b = !ds.isEmpty
  | .scr ds => b = !ds.isEmpty
  | .ptr a => (∃ ds, (a, Cell.lst ds) ∈ own ∧ b = !ds.isEmpty) ∨ (∃ ks ds, (a, Cell.dK ks ds) ∈ own ∧ b = !ks.isEmpty)
  | _ => False
theorem DaL.empty {W : Hp} {vs : List V} {ds : List Dat} (h : DaL K W vs ds) : vs.isEmpty = ds.isEmpty := by cases h <;> rfl
theorem TruD.ok {F V0 H : Hp} {x : V} {b : Bool} (hs : Hs K F V0 H own) (hd : Da K (vis F own H) x d) (h : TruD own d b) : TruV K x H b := by
  cases hd with
  | non => exact h
  | bl => exact h
  | int => exact h
  | str => exact h
  | tup ha l => exact .inr (.inl ⟨_, tq vis_sub ha, by rw [l.empty]; exact h⟩)
  | lst ha l => exact .inl ⟨_, .inl (.inl (vis_sub _ _ ha)), by rw [l.empty]; exact h⟩
  | scr ha l => exact .inl ⟨_, sq_l vis_sub ha, by rw [l.empty]; exact h⟩
  | obj => exact h.elim
  | dic => exact h.elim
  | ptr a =>
    rcases h with ⟨ds, hm, e⟩ | ⟨ks, ds, hm, e⟩
    · have c := hs.cell _ hm
      cases c with
      | lst h l => exact .inl ⟨_, .inl (.inl h), by rw [l.empty]; exact e⟩
    · have c := hs.cell _ hm
      cases c with
      | dK h n u l =>
        refine .inr (.inr ⟨_, h, ?_⟩)
        rw [e, ← n]
        cases ‹List (Key × V)› <;> rfl
theorem tx_test {P : Bool → Own → Prop} (h : EX K te sl own fun d o => ∃ b, d = .bl b ∧ P b o) : TX K (tTest te) sl own P := fun F V0 σ H hs hl Q q => by
  refine h F V0 σ H hs hl _ fun v H1 d1 o1 hs1 e1 hd1 ⟨b, e, p⟩ => ?_
  subst e
  cases hd1
  exact ⟨b, rfl, q b H1 o1 hs1 e1 p⟩
def tTru (K : PySem.W.Frag) (ta : TE) : TT := fun σ H Q => ta σ H fun x H' => ∃ k, TruV K x H' k ∧ Q k H'
theorem pt_tru {a : Expr} (ha : PE X a ta) (he : ∀ whole, isTrue a X.env whole = (do let v ← whole; standAt a.pos; holding [v] (truthy v))) : PT X a (tTru X.K ta) := pt_truth ha he
theorem tx_tru {P : Bool → Own → Prop} (h : EX K te sl own fun d o => ∃ b, TruD o d b ∧ P b o) : TX K (tTru K te) sl own P := fun F V0 σ H hs hl Q q => by
  refine h F V0 σ H hs hl _ fun v H1 d1 o1 hs1 e1 hd1 ⟨b, e, p⟩ => ?_
  exact ⟨b, e.ok hs1 hd1, q b H1 o1 hs1 e1 p⟩
theorem tx_and {t u : TT} {P : Bool → Own → Prop} (h : TX K t sl own fun b o => if b = true then TX K u sl o P else P false o) : TX K (tAnd t u) sl own P := fun F V0 σ H hs hl Q q => by
  refine h F V0 σ H hs hl _ fun b H1 o1 hs1 e1 p => ?_
  cases b with
  | true => exact iteT ((show TX K u sl o1 P from p) F V0 σ H1 hs1 (hl.mono e1) Q fun b H2 o2 hs2 e2 p2 => q b H2 o2 hs2 (e1.trans e2) p2)
  | false => exact iteF (q false H1 o1 hs1 e1 p)
theorem tx_or {t u : TT} {P : Bool → Own → Prop} (h : TX K t sl own fun b o => if b = true then P true o else TX K u sl o P) : TX K (tOr t u) sl own P := fun F V0 σ H hs hl Q q => by
  refine h F V0 σ H hs hl _ fun b H1 o1 hs1 e1 p => ?_
  cases b with
  | true => exact iteT (q true H1 o1 hs1 e1 p)
  | false => exact iteF ((show TX K u sl o1 P from p) F V0 σ H1 hs1 (hl.mono e1) Q fun b H2 o2 hs2 e2 p2 => q b H2 o2 hs2 (e1.trans e2) p2)
theorem tx_not {t : TT} {P : Bool → Own → Prop} (h : TX K t sl own fun b o => P (!b) o) : TX K (tNot t) sl own P := fun F V0 σ H hs hl Q q =>
  h F V0 σ H hs hl _ fun b H1 o1 hs1 e1 p => q _ H1 o1 hs1 e1 p
theorem tx_yes {P : Bool → Own → Prop} (p : P true own) : TX K tYes sl own P := fun F V0 σ H hs hl Q q => q _ H own hs (Same.refl _) p
theorem tx_mono {t : TT} {P P' : Bool → Own → Prop} (h : TX K t sl own P') (m : ∀ b o, P' b o → P b o) : TX K t sl own P := fun F V0 σ H hs hl Q q => h F V0 σ H hs hl Q fun b H1 o1 hs1 e1 p => q b H1 o1 hs1 e1 (m b o1 p)
theorem ex_if {t : TT} (h : TX K t sl own fun b o => if b = true then EX K ta sl o P else EX K tb sl o P) : EX K (tIf t ta tb) sl own P := fun F V0 σ H hs hl Q q => by
  refine h F V0 σ H hs hl _ fun b H1 o1 hs1 e1 p => ?_
  cases b with
  | true => exact iteT ((show EX K ta sl o1 P from p) F V0 σ H1 hs1 (hl.mono e1) Q fun v H2 d o2 hs2 e2 p2 => q v H2 d o2 hs2 (e1.trans e2) p2)
  | false => exact iteF ((show EX K tb sl o1 P from p) F V0 σ H1 hs1 (hl.mono e1) Q fun v H2 d o2 hs2 e2 p2 => q v H2 d o2 hs2 (e1.trans e2) p2)
/-- and, or, not as values -/
theorem ex_andT (h : EX K ta sl own fun d o => ∃ b, TruD o d b ∧ if b = true then EX K tb sl o P else P d o) : EX K (tAndT K ta tb) sl own P := fun F V0 σ H hs hl Q q => by
  refine h F V0 σ H hs hl _ fun v H1 d1 o1 hs1 e1 hd1 ⟨b, e, p⟩ => ⟨b, e.ok hs1 hd1, ?_⟩
  cases b with
  | true => exact iteT ((show EX K tb sl o1 P from p) F V0 σ H1 hs1 (hl.mono e1) Q fun v H2 d o2 hs2 e2 p2 => q v H2 d o2 hs2 (e1.trans e2) p2)
  | false => exact iteF (q v H1 d1 o1 hs1 e1 hd1 p)
theorem ex_orT (h : EX K ta sl own fun d o => ∃ b, TruD o d b ∧ if b = true then P d o else EX K tb sl o P) : EX K (tOrT K ta tb) sl own P := fun F V0 σ H hs hl Q q => by
  refine h F V0 σ H hs hl _ fun v H1 d1 o1 hs1 e1 hd1 ⟨b, e, p⟩ => ⟨b, e.ok hs1 hd1, ?_⟩
  cases b with
  | true => exact iteT (q v H1 d1 o1 hs1 e1 hd1 p)
  | false => exact iteF ((show EX K tb sl o1 P from p) F V0 σ H1 hs1 (hl.mono e1) Q fun v H2 d o2 hs2 e2 p2 => q v H2 d o2 hs2 (e1.trans e2) p2)
theorem ex_notT (h : EX K ta sl own fun d o => ∃ b, TruD o d b ∧ P (.bl (!b)) o) : EX K (tNotT K ta) sl own P := fun F V0 σ H hs hl Q q => by
  refine h F V0 σ H hs hl _ fun v H1 d1 o1 hs1 e1 hd1 ⟨b, e, p⟩ => ⟨b, e.ok hs1 hd1, ?_⟩
  exact q _ H1 _ o1 hs1 e1 (.bl _) p
/-- a < b < c -/
theorem ex_chain {r r' : R2} (h : EX K ta sl own fun x o1 => EX K tb sl o1 fun y o2 => R2X K r x y o2 fun z o3 => ∃ k, z = .bl k ∧ if k = true then EX K tc sl o3 fun w o4 => R2X K r' y w o4 P else P (.bl false) o3) : EX K (tChain r r' ta tb tc) sl own P := fun F V0 σ H hs hl Q q => by
  refine h F V0 σ H hs hl _ fun v H1 d1 o1 hs1 e1 hd1 p1 => ?_
  refine p1 F V0 σ H1 hs1 (hl.mono e1) _ fun w H2 d2 o2 hs2 e2 hd2 p2 => ?_
  refine p2 F V0 H2 v w hs2 (hd1.mono e2) hd2 _ fun z H3 d3 o3 hs3 e3 hd3 ⟨k, e, p3⟩ => ?_
  subst e
  cases hd3
  refine ⟨k, rfl, ?_⟩
  cases k with
  | true =>
    refine iteT ((show EX K tc sl o3 _ from p3) F V0 σ H3 hs3 (hl.mono ((e1.trans e2).trans e3)) _ fun u H4 d4 o4 hs4 e4 hd4 p4 => ?_)
    exact p4 F V0 H4 w u hs4 (hd2.mono (e3.trans e4)) hd4 Q fun z H5 d5 o5 hs5 e5 hd5 p5 => q z H5 d5 o5 hs5 ((((e1.trans e2).trans e3).trans e4).trans e5) hd5 p5
  | false => exact iteF (q _ H3 _ o3 hs3 ((e1.trans e2).trans e3) (.bl _) p3)

/-! ### promises over data -/
/-- what is wanted of an exception: its class, its own dict, the cells -/
abbrev XD := Value → Option Addr → Own → Prop
abbrev Con := List Dat → Own → PD → XD → Prop
def SpG (K : PySem.W.Frag) (C : Con) : Sp := fun vs H Q E => ∃ (F V0 : Hp) (own : Own) (args : List Dat) (P : PD) (XP : XD), Hs K F V0 H own ∧ DaL K (vis F own H) vs args ∧ C args own P XP ∧
  (∀ v H' d own', Hs K F V0 H' own' → Same (vis F own H) (vis F own' H') → Da K (vis F own' H') v d → P d own' → Q v H') ∧
  (∀ c dx H' own', Hs K F V0 H' own' → Same (vis F own H) (vis F own' H') → XP c dx own' → E c dx H')
def noX : XD := fun _ _ _ => False
theorem ex_call {C : Con} {dvs : List V} {dds : List Dat} {E : XK} {t : TA} (hd : ∀ W, DaL K W dvs dds) (h : AX K t sl own fun ds o => C (ds ++ dds) o P noX) : EX K (tCall (SpG K C) dvs E t) sl own P := fun F V0 σ H hs hl Q q => by
  refine h F V0 σ H hs hl _ fun vs H1 ds o1 hs1 e1 hd1 p1 => ?_
  exact ⟨F, V0, o1, ds ++ dds, P, noX, hs1, hd1.append (hd _), p1, fun v H2 d o2 hs2 e2 hd2 p2 => q v H2 d o2 hs2 (e1.trans e2) hd2 p2, fun _ _ _ _ _ _ z => z.elim⟩
theorem ex_call0 {C : Con} {E : XK} {t : TA} (h : AX K t sl own fun ds o => C ds o P noX) : EX K (tCall (SpG K C) [] E t) sl own P := ex_call (dds := []) (fun _ => .nil) (by
  intro F V0 σ H hs hl Q q
  exact h F V0 σ H hs hl Q fun vs H1 ds o1 a b c p => q vs H1 ds o1 a b c (by show C (ds ++ []) o1 P noX; rw [List.append_nil]; exact p))
theorem ex_meth {C : Con} {Ca : Addr} {m : Str} {dvs : List V} {dds : List Dat} {E : XK} {t : TA} (hd : ∀ W, DaL K W dvs dds) (h : EX K ta sl own fun d o => ∃ ns ds0, ObjD o d Ca ns ds0 ∧ fidx ns m = none ∧ AX K t sl o fun ds o => C (d :: (ds ++ dds)) o P noX) : EX K (tMeth Ca m (SpG K C) dvs E ta t) sl own P := fun F V0 σ H hs hl Q q => by
  refine h F V0 σ H hs hl _ fun v H1 d o1 hs1 e1 hd1 ⟨ns, ds0, ho, hm, p1⟩ => ?_
  obtain ⟨a, dx, gs, rfl, ha, hk, hg⟩ := ho.ob hs1 hd1
  refine ⟨a, dx, gs, rfl, ha, fidx_none hm hk, ?_⟩
  refine p1 F V0 σ H1 hs1 (hl.mono e1) _ fun vs H2 ds o2 hs2 e2 hd2 p2 => ?_
  exact ⟨F, V0, o2, d :: (ds ++ dds), P, noX, hs2, .cons (hd1.mono e2) (hd2.append (hd _)), p2, fun v H3 d o3 hs3 e3 hd3 p3 => q v H3 d o3 hs3 ((e1.trans e2).trans e3) hd3 p3, fun _ _ _ _ _ _ z => z.elim⟩
theorem ex_meth0 {C : Con} {Ca : Addr} {m : Str} {E : XK} {t : TA} (h : EX K ta sl own fun d o => ∃ ns ds0, ObjD o d Ca ns ds0 ∧ fidx ns m = none ∧ AX K t sl o fun ds o => C (d :: ds) o P noX) : EX K (tMeth Ca m (SpG K C) [] E ta t) sl own P :=
  ex_meth (dds := []) (fun _ => .nil) (ex_mono h fun d o ⟨ns, ds0, a, b, c⟩ => ⟨ns, ds0, a, b, fun F V0 σ H hs hl Q q => c F V0 σ H hs hl Q fun vs H1 ds o1 x y z p => q vs H1 ds o1 x y z (by show C (d :: (ds ++ [])) o1 P noX; rw [List.append_nil]; exact p)⟩)
/-- C(..): a new instance, an owned cell -/
theorem ex_make {C : Con} {Ca : Addr} {E : XK} {t : TA} (h : AX K t sl own fun ds o => ∀ x, x ∉ o.map (·.1) → C (.ptr x :: ds) ((x, .ins Ca [] []) :: o) (fun d o' => d = .non ∧ P (.ptr x) o') noX) : EX K (tMake Ca (SpG K C) [] E t) sl own P := fun F V0 σ H hs hl Q q => by
  refine h F V0 σ H hs hl _ fun vs H1 ds o1 hs1 e1 hd1 p1 => ?_
  intro x dx nx ndx ne
  have s1 : Same H1 (upd H1 dx (.own x)) := same_new ndx
  have hs2 := hs1.grow s1
  have g1 := vis_grow hs1 s1
  have nx2 : upd H1 dx (.own x) x = none := by rw [upd_ne ne.symm]; exact nx
  have hs3 := hs2.new (o := .ins Ca dx []) nx2 (c := .ins Ca [] []) (.ins (gs := []) upd_same rfl .nil)
  have ev : vis F ((x, Cell.ins Ca [] []) :: o1) (upd (upd H1 dx (.own x)) x (.ins Ca dx [])) = vis F o1 (upd H1 dx (.own x)) := vis_new hs2 nx2
  refine ⟨F, V0, (x, .ins Ca [] []) :: o1, .ptr x :: ds, _, noX, hs3, .cons (.ptr x) ?_, p1 x (fresh_own hs2 nx2), fun v H3 d o3 hs3 e3 hd3 ⟨z, p3⟩ => ?_, fun _ _ _ _ _ _ z => z.elim⟩
  · rw [ev, List.append_nil]; exact hd1.mono g1
  · subst z
    cases hd3
    rw [ev] at e3
    exact ⟨rfl, q _ H3 _ o3 hs3 ((e1.trans g1).trans e3) (.ptr x) p3⟩
/-- built-in functions and methods -/
theorem ex_cb {r : List V → Hp → VK → Prop} {t : TA} (h : AX K t sl own fun ds o => RLX K r ds o P) : EX K (tCB r t) sl own P := fun F V0 σ H hs hl Q q => by
  refine h F V0 σ H hs hl _ fun vs H1 ds o1 hs1 e1 hd1 p1 => ?_
  exact p1 F V0 H1 vs hs1 hd1 Q fun v H2 d o2 hs2 e2 hd2 p2 => q v H2 d o2 hs2 (e1.trans e2) hd2 p2
theorem ex_m1 {r : V → List V → Hp → VK → Prop} (h : EX K ta sl own fun d o => ∃ z, d = .str z ∧ EX K te sl o fun e o2 => RMX K r d [e] o2 P) : EX K (tM1 r ta te) sl own P := fun F V0 σ H hs hl Q q => by
  refine h F V0 σ H hs hl _ fun v H1 d o1 hs1 e1 hd1 ⟨z, e, p1⟩ => ?_
  subst e
  refine ⟨by cases hd1; exact ⟨_, rfl⟩, ?_⟩
  refine p1 F V0 σ H1 hs1 (hl.mono e1) _ fun w H2 d2 o2 hs2 e2 hd2 p2 => ?_
  exact p2 F V0 H2 v [w] hs2 (hd1.mono e2) (.cons hd2 .nil) Q fun v H3 d o3 hs3 e3 hd3 p3 => q v H3 d o3 hs3 ((e1.trans e2).trans e3) hd3 p3
end
end Sy
/-! Rules of the symbolic layer: targets, statements, loops, comprehensions. -/
namespace Sy
open PySem L2

structure DE where
  nx : SL → Own → Prop
  rt : Dat → Own → Prop
  bk : SL → Own → Prop := fun _ _ => False
  ct : SL → Own → Prop := fun _ _ => False
  xp : XD := fun _ _ _ => False

def SS (K : PySem.W.Frag) (E : XK) (t : TS) (sl : SL) (own : Own) (D : DE) : Prop := ∀ (F V0 : Hp) (σ : L2.St) (H : Hp), Hs K F V0 H own → Sl K (vis F own H) σ sl → ∀ D' : Ends,
  (∀ σ' H' sl' own', Hs K F V0 H' own' → Same (vis F own H) (vis F own' H') → Sl K (vis F own' H') σ' sl' → D.nx sl' own' → D'.nx σ' H') →
  (∀ v H' d own', Hs K F V0 H' own' → Same (vis F own H) (vis F own' H') → Da K (vis F own' H') v d → D.rt d own' → D'.rt v H') →
  (∀ σ' H' sl' own', Hs K F V0 H' own' → Same (vis F own H) (vis F own' H') → Sl K (vis F own' H') σ' sl' → D.bk sl' own' → D'.bk σ' H') →
  (∀ σ' H' sl' own', Hs K F V0 H' own' → Same (vis F own H) (vis F own' H') → Sl K (vis F own' H') σ' sl' → D.ct sl' own' → D'.ct σ' H') →
  (∀ c dx H' own', Hs K F V0 H' own' → Same (vis F own H) (vis F own' H') → D.xp c dx own' → E c dx H') → t D' σ H
/-- all slots but js are alike -/
def Agr (js : Nat → Prop) (σ σ' : L2.St) : Prop := σ'.length = σ.length ∧ ∀ j, ¬ js j → σ'[j]? = σ[j]?
abbrev anyJ : Nat → Prop := fun _ => True
/-- a target: js are the slots that it may store -/
def GX (K : PySem.W.Frag) (g : TG) (js : Nat → Prop) (d : Dat) (sl : SL) (own : Own) (P : SL → Own → Prop) : Prop := ∀ (F V0 : Hp) (σ : L2.St) (H : Hp) (x : V), Hs K F V0 H own → Sl K (vis F own H) σ sl → Da K (vis F own H) x d →
  ∀ Q : L2.St → Hp → Prop, (∀ σ' H' sl' own', Hs K F V0 H' own' → Same (vis F own H) (vis F own' H') → Sl K (vis F own' H') σ' sl' → Agr js σ σ' → P sl' own' → Q σ' H') → g x σ H Q
def GsX (K : PySem.W.Frag) (g : TGs) (js : Nat → Prop) (ds : List Dat) (sl : SL) (own : Own) (P : SL → Own → Prop) : Prop := ∀ (F V0 : Hp) (σ : L2.St) (H : Hp) (xs : List V), Hs K F V0 H own → Sl K (vis F own H) σ sl → DaL K (vis F own H) xs ds →
  ∀ Q : L2.St → Hp → Prop, (∀ σ' H' sl' own', Hs K F V0 H' own' → Same (vis F own H) (vis F own' H') → Sl K (vis F own' H') σ' sl' → Agr js σ σ' → P sl' own' → Q σ' H') → g xs σ H Q
def PtX (K : PySem.W.Frag) (t : TSet) (d e f : Dat) (own : Own) (P : Own → Prop) : Prop := ∀ (F V0 H : Hp) (x y z : V), Hs K F V0 H own → Da K (vis F own H) x d → Da K (vis F own H) y e → Da K (vis F own H) z f →
  ∀ Q : Hp → Prop, (∀ H' own', Hs K F V0 H' own' → Same (vis F own H) (vis F own' H') → P own' → Q H') → t x y z H Q

section
variable {K : PySem.W.Frag} {E : XK} {own o1 l r : Own} {sl : SL} {P : PD} {d e : Dat} {X : Cx} {ta tb tc te : TE} {D : DE} {t u : TS} {PS' : SL → Own → Prop}

theorem gx_name {i : Nat} {js : Nat → Prop} (hj : js i) (p : PS' (sl.set i (some d)) own) : GX K (gName i) js d sl own PS' := fun F V0 σ H x hs hl hd Q q =>
  q _ H _ own hs (Same.refl _) (hl.set i hd) ⟨List.length_set .., fun j hj2 => by rw [List.getElem?_set_ne]; intro z; subst z; exact hj2 hj⟩ p
theorem gsx_nil {js : Nat → Prop} (p : PS' sl own) : GsX K gNil js [] sl own PS' := fun F V0 σ H xs hs hl hd Q q => by
  cases hd
  exact ⟨rfl, q σ H sl own hs (Same.refl _) hl ⟨rfl, fun _ _ => rfl⟩ p⟩
theorem gsx_cons {g : TG} {gs : TGs} {js : Nat → Prop} {ds : List Dat} (h : GX K g js d sl own fun sl2 o2 => GsX K gs js ds sl2 o2 PS') : GsX K (gCons g gs) js (d :: ds) sl own PS' := fun F V0 σ H xs hs hl hd Q q => by
  cases hd with
  | cons h1 h2 =>
    refine ⟨_, _, rfl, h F V0 σ H _ hs hl h1 _ fun σ1 H1 sl1 o1 hs1 e1 hl1 j1 p1 => ?_⟩
    refine p1 F V0 σ1 H1 _ hs1 hl1 (h2.mono e1) Q fun σ2 H2 sl2 o2 hs2 e2 hl2 j2 p2 => ?_
    refine q σ2 H2 sl2 o2 hs2 (e1.trans e2) hl2 ⟨j2.1.trans j1.1, fun j hj => ?_⟩ p2
    rw [j2.2 j hj, j1.2 j hj]
theorem gx_tup {n : Nat} {gs : TGs} {js : Nat → Prop} {ds : List Dat} (hn : ds.length = n) (h : GsX K gs js ds sl own PS') : GX K (gTup K n gs) js (.tup ds) sl own PS' := fun F V0 σ H x hs hl hd Q q => by
  cases hd with
  | tup ha la => exact ⟨_, _, rfl, tq vis_sub ha, by rw [la.length]; exact hn, h F V0 σ H _ hs hl la Q q⟩
theorem gx_sub {js : Nat → Prop} {to ti : TE} {t : TSet} (h : EX K to sl own fun d1 o1 => EX K ti sl o1 fun d2 o2 => PtX K t d1 d2 d o2 (PS' sl)) : GX K (gSub to ti t) js d sl own PS' := fun F V0 σ H x hs hl hd Q q => by
  refine h F V0 σ H hs hl _ fun v H1 d1 o1 hs1 e1 hd1 p1 => ?_
  refine p1 F V0 σ H1 hs1 (hl.mono e1) _ fun w H2 d2 o2 hs2 e2 hd2 p2 => ?_
  refine p2 F V0 H2 v w x hs2 (hd1.mono e2) hd2 (hd.mono (e1.trans e2)) _ fun H3 o3 hs3 e3 p3 => ?_
  exact q σ H3 sl o3 hs3 ((e1.trans e2).trans e3) (hl.mono ((e1.trans e2).trans e3)) ⟨rfl, fun _ _ => rfl⟩ p3

/-! ### stores by place -/
def rSetDic : V → V → V → Hp → (Hp → Prop) → Prop := fun o i v H Q => ∃ a H', o = .ref a ∧ DPut H a i v H' ∧ Q H'
theorem set_dic (hu : X.A.units + 1 < cLine) : PSet X rSetDic := by
  intro pins s σ H o i v ov iv u Q I ro ri rv h
  obtain ⟨a, H', rfl, g, q⟩ := h
  obtain rfl : ov = Value.ref a := ro
  exact d_setItem hu I g ri rv fun s4 I4 => ⟨H', I4, q⟩
def uSet : TSet := fun o i v H Q => rSetL o i v H Q ∨ rSetDic o i v H Q
theorem set_U (hu : X.A.units + 1 < cLine) : PSet X uSet := by
  intro pins s σ H o i v ov iv u Q I ro ri rv h
  rcases h with h | h
  · exact set_list pins s σ H o i v ov iv u Q I ro ri rv h
  · exact set_dic hu pins s σ H o i v ov iv u Q I ro ri rv h
theorem set_lst {a : Addr} {ds : List Dat} {i : Int} {j : Nat} {f : Dat} {P : Own → Prop} (hj : ixN ds.length i = some j) (p : P (l ++ (a, .lst (ds.set j f)) :: r)) : PtX K uSet (.ptr a) (.int i) f (l ++ (a, .lst ds) :: r) P := fun F V0 H x y z hs hx hy hz Q q => by
  cases hx; cases hy
  have c := hs.cell _ (List.mem_append_right l List.mem_cons_self)
  cases c with
  | lst h1 t =>
    refine .inl ⟨a, _, i, j, rfl, rfl, h1, by rw [t.length]; exact hj, ?_⟩
    refine q _ (l ++ (a, .lst (ds.set j f)) :: r) (hs.put (.lst upd_same (t.set hz j))) ?_ p
    rw [vis_put (c := .lst ds)]; exact Same.refl _
theorem putK_pos {κ : Type} [DecidableEq κ] {p : κ × V} {kws : List (κ × V)} {k : κ} {v : V} (e : p.1 = k) (nd : k ∉ kws.map (·.1)) : putK (p :: kws) k v = (p.1, v) :: kws := by
  unfold putK
  rw [if_pos (by simp [e]), List.map_cons, if_pos e]
  congr 1
  have : ∀ q ∈ kws, (if q.1 = k then (q.1, v) else q) = q := fun q hq => if_neg fun z => nd (List.mem_map.mpr ⟨q, hq, z⟩)
  rw [List.map_congr_left this, List.map_id']
theorem putK_neg {κ : Type} [DecidableEq κ] {p : κ × V} {kws : List (κ × V)} {k : κ} {v : V} (e : ¬ p.1 = k) : putK (p :: kws) k v = p :: putK kws k v := by
  unfold putK
  rw [List.any_cons, decide_eq_false e, Bool.false_or]
  split
  · rw [List.map_cons, if_neg e]
  · rfl
theorem putK_keys {κ : Type} [DecidableEq κ] {W : Hp} {v : V} {k : κ} (hv : Da K W v d) : ∀ {kws : List (κ × V)} {ds : List Dat}, (kws.map (·.1)).Nodup → DaL K W (kws.map (·.2)) ds →
    (putK kws k v).map (·.1) = (match kix (kws.map (·.1)) k with | some _ => kws.map (·.1) | none => kws.map (·.1) ++ [k]) ∧
    DaL K W ((putK kws k v).map (·.2)) (match kix (kws.map (·.1)) k with | some i => ds.set i d | none => ds ++ [d])
  | [], ds, _, h => by
    rw [List.map_nil] at h
    cases h
    exact ⟨rfl, .cons hv .nil⟩
  | p :: kws, ds, nd, h => by
    rw [List.map_cons] at nd h
    obtain ⟨n1, n2⟩ := List.nodup_cons.mp nd
    cases h with
    | cons h1 h2 =>
      by_cases e : p.1 = k
      · have e2 : kix (p.1 :: kws.map (·.1)) k = some 0 := by unfold kix; rw [if_pos e]
        rw [putK_pos e (by rw [← e]; exact n1), List.map_cons, List.map_cons, List.map_cons, e2]
        exact ⟨rfl, .cons hv h2⟩
      · have e2 : kix (p.1 :: kws.map (·.1)) k = (kix (kws.map (·.1)) k).map (· + 1) := by
          show (if p.1 = k then _ else _) = _
          rw [if_neg e]
        obtain ⟨i1, i2⟩ := putK_keys hv (k := k) n2 h2
        rw [putK_neg e, List.map_cons, List.map_cons, List.map_cons, e2, i1]
        cases q : kix (kws.map (·.1)) k with
        | none => rw [q] at i2; exact ⟨rfl, .cons h1 i2⟩
        | some i => rw [q] at i2; exact ⟨rfl, .cons h1 i2⟩
theorem kix_none {κ : Type} [DecidableEq κ] {k : κ} : ∀ {ks : List κ}, kix ks k = none → k ∉ ks
  | [], _, h => by cases h
  | n :: ns, h, hm => by
    unfold kix at h
    by_cases e : n = k
    · rw [if_pos e] at h; cases h
    · rw [if_neg e] at h
      rcases List.mem_cons.mp hm with z | z
      · exact e z.symm
      · exact kix_none (Option.map_eq_none_iff.mp h) z
/-- the keys and values of a dict behind a store -/
def kput {κ : Type} [DecidableEq κ] (ks : List κ) (k : κ) : List κ := match kix ks k with | some _ => ks | none => ks ++ [k]
theorem kput_nd {κ : Type} [DecidableEq κ] {ks : List κ} {k : κ} (h : ks.Nodup) : (kput ks k).Nodup := by
  unfold kput
  cases q : kix ks k with
  | some i => exact h
  | none =>
    rw [List.nodup_append]
    exact ⟨h, List.nodup_cons.mpr ⟨by simp, List.nodup_nil⟩, fun a ha b hb z => by
      rw [List.mem_singleton] at hb
      subst hb
      subst z
      exact kix_none q ha⟩
def dput {κ : Type} [DecidableEq κ] (ks : List κ) (k : κ) (ds : List Dat) (d : Dat) : List Dat := match kix ks k with | some i => ds.set i d | none => ds ++ [d]
theorem set_dc {a : Addr} {ks : List Key} {ds : List Dat} {k : Key} {f : Dat} {P : Own → Prop} (hz : ks.length < sizeLine) (p : P (l ++ (a, .dK (kput ks k) (dput ks k ds f)) :: r)) : PtX K uSet (.ptr a) (keyD k) f (l ++ (a, .dK ks ds) :: r) P := fun F V0 H x y z hs hx hy hzz Q q => by
  cases hx
  obtain rfl := keyD_v hy
  have c := hs.cell _ (List.mem_append_right l List.mem_cons_self)
  cases c with
  | dK h1 n u t =>
    rename_i kws
    obtain ⟨e1, e2⟩ := putK_keys (k := k) hzz (by rw [n]; exact u) t
    rw [n] at e1 e2
    refine .inr ⟨a, _, rfl, .inl ⟨kws, k, h1, rfl, by rw [← n, List.length_map] at hz; exact hz, rfl⟩, ?_⟩
    refine q _ (l ++ (a, .dK (kput ks k) (dput ks k ds f)) :: r) (hs.put (.dK upd_same e1 (kput_nd u) e2)) ?_ p
    rw [vis_put (c := .dK ks ds)]; exact Same.refl _

/-! ### statements -/
theorem ss_seq' (h : SS K E t sl own { D with nx := fun sl2 o2 => SS K E u sl2 o2 D }) : SS K E (tSeq t u) sl own D := fun F V0 σ H hs hl D' n1 r1 b1 c1 x1 => by
  refine h F V0 σ H hs hl { D' with nx := u D' } (fun σ' H' sl' own' a b c p => ?_) r1 b1 c1 x1
  exact p F V0 σ' H' a c D' (fun σ2 H2 sl2 o2 a2 b2 c2 p2 => n1 σ2 H2 sl2 o2 a2 (b.trans b2) c2 p2) (fun v H2 d o2 a2 b2 c2 p2 => r1 v H2 d o2 a2 (b.trans b2) c2 p2)
    (fun σ2 H2 sl2 o2 a2 b2 c2 p2 => b1 σ2 H2 sl2 o2 a2 (b.trans b2) c2 p2) (fun σ2 H2 sl2 o2 a2 b2 c2 p2 => c1 σ2 H2 sl2 o2 a2 (b.trans b2) c2 p2) (fun c dx H2 o2 a2 b2 p2 => x1 c dx H2 o2 a2 (b.trans b2) p2)
theorem ss_next' (p : D.nx sl own) : SS K E tNext sl own D := fun F V0 σ H hs hl D' n1 r1 b1 c1 x1 => n1 σ H sl own hs (Same.refl _) hl p
theorem ss_brk' (p : D.bk sl own) : SS K E tBreak sl own D := fun F V0 σ H hs hl D' n1 r1 b1 c1 x1 => b1 σ H sl own hs (Same.refl _) hl p
theorem ss_cont' (p : D.ct sl own) : SS K E tCont sl own D := fun F V0 σ H hs hl D' n1 r1 b1 c1 x1 => c1 σ H sl own hs (Same.refl _) hl p
theorem ss_drop' (h : EX K te sl own fun _ o => D.nx sl o) : SS K E (tDrop te) sl own D := fun F V0 σ H hs hl D' n1 r1 b1 c1 x1 =>
  h F V0 σ H hs hl _ fun v H1 d o1 hs1 e1 hd1 p => n1 σ H1 sl o1 hs1 e1 (hl.mono e1) p
theorem ss_ret' (h : EX K te sl own D.rt) : SS K E (tRet te) sl own D := fun F V0 σ H hs hl D' n1 r1 b1 c1 x1 =>
  h F V0 σ H hs hl _ fun v H1 d o1 hs1 e1 hd1 p => r1 v H1 d o1 hs1 e1 hd1 p
theorem ss_retN' (h : D.rt .non own) : SS K E tRetN sl own D := fun F V0 σ H hs hl D' n1 r1 b1 c1 x1 => r1 .non H .non own hs (Same.refl _) .non h
theorem ss_asg' {g : TG} (h : EX K te sl own fun d o => GX K g anyJ d sl o D.nx) : SS K E (tAsg te g) sl own D := fun F V0 σ H hs hl D' n1 r1 b1 c1 x1 => by
  refine h F V0 σ H hs hl _ fun v H1 d o1 hs1 e1 hd1 p => ?_
  exact p F V0 σ H1 v hs1 (hl.mono e1) hd1 _ fun σ2 H2 sl2 o2 a2 b2 c2 _ p2 => n1 σ2 H2 sl2 o2 a2 (e1.trans b2) c2 p2
theorem ss_set' {i : Nat} (h : EX K te sl own fun d o => D.nx (sl.set i (some d)) o) : SS K E (tAsg te (gName i)) sl own D := ss_asg' (ex_mono h fun d o p => gx_name trivial p)
theorem ss_if' {c : TT} (h : TX K c sl own fun b o => if b = true then SS K E t sl o D else SS K E u sl o D) : SS K E (tIfS c t u) sl own D := fun F V0 σ H hs hl D' n1 r1 b1 c1 x1 => by
  refine h F V0 σ H hs hl _ fun b H1 o1 hs1 e1 p => ?_
  have go : ∀ w : TS, SS K E w sl o1 D → w D' σ H1 := fun w q => q F V0 σ H1 hs1 (hl.mono e1) D' (fun σ2 H2 sl2 o2 a2 b2 c2 p2 => n1 σ2 H2 sl2 o2 a2 (e1.trans b2) c2 p2) (fun v H2 d o2 a2 b2 c2 p2 => r1 v H2 d o2 a2 (e1.trans b2) c2 p2)
    (fun σ2 H2 sl2 o2 a2 b2 c2 p2 => b1 σ2 H2 sl2 o2 a2 (e1.trans b2) c2 p2) (fun σ2 H2 sl2 o2 a2 b2 c2 p2 => c1 σ2 H2 sl2 o2 a2 (e1.trans b2) c2 p2) (fun c dx H2 o2 a2 b2 p2 => x1 c dx H2 o2 a2 (e1.trans b2) p2)
  cases b with
  | true => exact iteT (go t p)
  | false => exact iteF (go u p)
/-- x op= e on a name -/
theorem ss_aug' {i : Nat} {ti : TIp} (h : sl[i]? = some (some d)) (h2 : EX K te sl own fun e o => R2X K ti d e o fun z o2 => D.nx (sl.set i (some z)) o2) : SS K E (tAug i te ti) sl own D := fun F V0 σ H hs hl D' n1 r1 b1 c1 x1 => by
  obtain ⟨x, e, hx⟩ := hl.2 i d h
  refine ⟨x, e, h2 F V0 σ H hs hl _ fun y H1 d1 o1 hs1 e1 hd1 p1 => ?_⟩
  exact p1 F V0 H1 x y hs1 (hx.mono e1) hd1 _ fun z H2 d2 o2 hs2 e2 hd2 p2 => n1 _ H2 _ o2 hs2 (e1.trans e2) ((hl.mono (e1.trans e2)).set i hd2) p2
/-- o.f = e, o an owned cell -/
theorem ss_fld' {tv : TE} {f : Str} (h : EX K tv sl own fun e o => EX K ta sl o fun d o2 => ∃ a C ns ds l r, d = .ptr a ∧ o2 = l ++ (a, .ins C ns ds) :: r ∧ Cls K C ∧ NoAttr K C f ∧ ns.length < 1000 ∧ D.nx sl (l ++ (a, .ins C (putN ns f) (putX ns f ds e)) :: r)) : SS K E (sFld K ta tv f) sl own D := fun F V0 σ H hs hl D' n1 r1 b1 c1 x1 => by
  refine h F V0 σ H hs hl _ fun y H1 d1 o1 hs1 e1 hd1 p1 => ?_
  refine p1 F V0 σ H1 hs1 (hl.mono e1) _ fun x H2 d2 o2 hs2 e2 hd2 ⟨a, C, ns, ds, l, r, z1, z2, hc, hn, hz, p2⟩ => ?_
  subst z1 z2
  cases hd2
  have c := hs2.cell _ (List.mem_append_right l List.mem_cons_self)
  cases c with
  | ins h1 n t =>
    rename_i dx gs
    obtain ⟨q1, q2⟩ := putF_ok (hd1.mono e2) (f := f) n t
    have e3 : Same (vis F (l ++ (a, Cell.ins C ns ds) :: r) H2) (vis F (l ++ (a, Cell.ins C (putN ns f) (putX ns f ds d1)) :: r) (upd H2 a (.ins C dx (putF f y gs)))) := by
      rw [vis_put (c := .ins C ns ds)]; exact Same.refl _
    refine ⟨a, C, dx, gs, rfl, h1, hc, hn, by rw [← n, List.length_map] at hz; exact hz, ?_⟩
    exact n1 σ _ sl _ (hs2.put (.ins upd_same q1 q2)) ((e1.trans e2).trans e3) (hl.mono ((e1.trans e2).trans e3)) p2
theorem ss_cl (c : Cl own o1) (h : SS K E t sl o1 D) : SS K E t sl own D := fun F V0 σ H hs hl D' n1 r1 b1 c1 x1 => by
  obtain ⟨h1, e1⟩ := c K F V0 H hs
  exact h F V0 σ H h1 (hl.mono e1) D' (fun σ2 H2 sl2 o2 a2 b2 c2 p2 => n1 σ2 H2 sl2 o2 a2 (e1.trans b2) c2 p2) (fun v H2 d o2 a2 b2 c2 p2 => r1 v H2 d o2 a2 (e1.trans b2) c2 p2)
    (fun σ2 H2 sl2 o2 a2 b2 c2 p2 => b1 σ2 H2 sl2 o2 a2 (e1.trans b2) c2 p2) (fun σ2 H2 sl2 o2 a2 b2 c2 p2 => c1 σ2 H2 sl2 o2 a2 (e1.trans b2) c2 p2) (fun c dx H2 o2 a2 b2 p2 => x1 c dx H2 o2 a2 (e1.trans b2) p2)
/-- the drawing's state is opened -/
theorem ss_open {s : Addr} (h : ∀ x y, RngOk x y → SS K E t sl (l ++ (s, .lst [.int x, .int y]) :: r) D) : SS K E t sl (l ++ (s, .rng) :: r) D := fun F V0 σ H hs hl => by
  have c := hs.cell _ (List.mem_append_right l List.mem_cons_self)
  cases c with
  | rng h1 z =>
    rename_i x y
    have hs2 : Hs K F V0 H (l ++ (s, .lst [.int x, .int y]) :: r) := hs.retell fun W _ => .lst h1 (.cons (.int x) (.cons (.int y) .nil))
    have ev : vis F (l ++ (s, Cell.lst [.int x, .int y]) :: r) H = vis F (l ++ (s, Cell.rng) :: r) H := vis_retell
    have q := h x y z F V0 σ H hs2 (by rw [ev]; exact hl)
    rw [ev] at q
    exact q
/-- a slot's list of one's own becomes data -/
theorem ss_frz {a : Addr} {c : Cell} {i : Nat} (hi : sl[i]? = some (some (.ptr a))) (hc : c.dat = some e) (h : SS K E t (sl.set i (some e)) (l ++ r) D) : SS K E t sl (l ++ (a, c) :: r) D := fun F V0 σ H hs hl D' n1 r1 b1 c1 x1 => by
  have e1 : Same (vis F (l ++ (a, c) :: r) H) (vis F (l ++ r) H) := vis_drop
  have hd := freezeA hs hc
  have hl2 := hl.mono e1
  refine h F V0 σ H hs.drop ⟨by rw [List.length_set]; exact hl2.1, fun j f q => ?_⟩ D' (fun σ2 H2 sl2 o2 a2 b2 c2 p2 => n1 σ2 H2 sl2 o2 a2 (e1.trans b2) c2 p2) (fun v H2 d o2 a2 b2 c2 p2 => r1 v H2 d o2 a2 (e1.trans b2) c2 p2)
    (fun σ2 H2 sl2 o2 a2 b2 c2 p2 => b1 σ2 H2 sl2 o2 a2 (e1.trans b2) c2 p2) (fun σ2 H2 sl2 o2 a2 b2 c2 p2 => c1 σ2 H2 sl2 o2 a2 (e1.trans b2) c2 p2) (fun c dx H2 o2 a2 b2 p2 => x1 c dx H2 o2 a2 (e1.trans b2) p2)
  by_cases hj : i = j
  · subst hj
    rw [List.getElem?_set_self (List.getElem?_eq_some_iff.mp hi).1] at q
    cases q
    obtain ⟨v, e2, hv⟩ := hl2.2 i _ hi
    cases hv
    exact ⟨_, e2, hd⟩
  · rw [List.getElem?_set_ne hj] at q
    exact hl2.2 j f q

/-! ### loops -/
/-- what an iterator gives: xs, as long as Keep holds of the cells -/
def Items (K : PySem.W.Frag) (V1 : Hp) (J : It) (xs : List Dat) (Keep : Own → Prop) : Prop := ∃ (G : Hp → Prop) (Y : Nat → Hp → V → Hp → Prop), Walk J xs.length G Y ∧
  (∀ F H own, Hs K F V1 H own → Keep own → G H) ∧ ∀ F i H x H' own, i < xs.length → Hs K F V1 H own → Keep own → Y i H x H' → Same H H' ∧ ∃ d, xs[i]? = some d ∧ Da K (vis F own H') x d
def IX (K : PySem.W.Frag) (wi : TI) (sl : SL) (own : Own) (R : List Dat → (Own → Prop) → Own → Prop) : Prop := ∀ (F V0 : Hp) (σ : L2.St) (H : Hp), Hs K F V0 H own → Sl K (vis F own H) σ sl →
  ∀ Q : It → Hp → Prop, (∀ J H' own' xs Keep, Hs K F V0 H' own' → Same (vis F own H) (vis F own' H') → Items K (vis F own' H') J xs Keep → R xs Keep own' → Q J H') → wi σ H Q
abbrev anyO : Own → Prop := fun _ => True
def iSeq (K : PySem.W.Frag) (tl : TE) : TI := fun σ H R => tl σ H fun x H1 => ∃ a, x = .ref a ∧ ((∃ xs, SqL K H1 a xs) ∧ R (Itl K a) H1 ∨ (∃ xs, SqT K H1 a xs) ∧ R (Itt K a) H1)
theorem pi_seq {tg l : Expr} {tl : TE} (hl : PE X l tl) : PI X tg l (iSeq X.K tl) := by
  refine ⟨fun pins s σ H R I h => ?_⟩
  refine thn (hl.run pins s σ H _ I h) fun v s1 ⟨x, H1, I1, r1, q1⟩ => ?_
  obtain ⟨a, e, q⟩ := q1
  subst e
  cases r1
  rcases q with ⟨⟨xs, hq⟩, q⟩ | ⟨⟨xs, hq⟩, q⟩
  · obtain ⟨its, rv, p, hz⟩ := I1.list hq
    refine wpAny_pyIter_list p.isList ?_
    refine ⟨s1.heap.objs.size, [s1.heap.objs.size], _, _, H1, rfl, I1.kept (t' := s1.toks) fun b o e => Heap.get?_push_of_some _ e, turn_list a _, ⟨_, Heap.get?_push_size _ rfl, rfl, rfl⟩, fun b hb => ?_, q⟩
    have e : b = s1.heap.objs.size := by simpa using hb
    subst e
    exact I1.fpOk (Nat.le_refl _) (I1.hok.fresh (Nat.le_refl _))
  · obtain ⟨its, rv, p, hz⟩ := I1.tuple hq
    refine wpAny_pyIter_tuple (show s1.heap.IsTuple a its.toArray from p) ?_
    refine ⟨s1.heap.objs.size, [s1.heap.objs.size], _, _, H1, rfl, I1.kept (t' := s1.toks) fun b o e => Heap.get?_push_of_some _ e, turn_tuple a _, ⟨_, Heap.get?_push_size _ rfl, rfl, rfl⟩, fun b hb => ?_, q⟩
    have e : b = s1.heap.objs.size := by simpa using hb
    subst e
    exact I1.fpOk (Nat.le_refl _) (I1.hok.fresh (Nat.le_refl _))
theorem ix_seq' {R : List Dat → (Own → Prop) → Own → Prop} (h : EX K te sl own fun d o => ∃ ds Keep, R ds Keep o ∧ ((d = .lst ds ∨ d = .scr ds ∨ d = .tup ds) ∧ Keep = anyO ∨ ∃ a, d = .ptr a ∧ (a, Cell.lst ds) ∈ o ∧ Keep = fun o => (a, Cell.lst ds) ∈ o)) : IX K (iSeq K te) sl own R := fun F V0 σ H hs hl Q q => by
  refine h F V0 σ H hs hl _ fun v H1 d o1 hs1 e1 hd1 ⟨ds, Keep, p, z⟩ => ?_
  rcases z with ⟨z, rfl⟩ | ⟨a, rfl, hm, rfl⟩
  · have lst : ∀ a xs, v = .ref a → SqL K (vis F o1 H1) a xs → DaL K (vis F o1 H1) xs ds → ∃ a, v = .ref a ∧ ((∃ xs, SqL K H1 a xs) ∧ Q (Itl K a) H1 ∨ (∃ xs, SqT K H1 a xs) ∧ Q (Itt K a) H1) := fun a xs e sq dl => by
      refine ⟨a, e, .inl ⟨⟨xs, sq_l vis_sub sq⟩, q _ H1 o1 ds anyO hs1 e1 ⟨_, _, (dl.length ▸ walk_list (K := K) (a := a) (xs := xs)), fun F H own hs _ => sq_l (hs.mo.trans vis_sub) sq, fun F i H x H' own hi hs _ y => ?_⟩ p⟩⟩
      obtain ⟨rfl, y⟩ := y
      refine ⟨Same.refl _, ?_⟩
      obtain ⟨d, e1, e2⟩ := dl.getV y
      exact ⟨d, e1, e2.mono hs.mo⟩
    rcases z with rfl | rfl | rfl
    · cases hd1 with
      | lst ha l => exact lst _ _ rfl (.inl (.inl ha)) l
    · cases hd1 with
      | scr ha l => exact lst _ _ rfl ha l
    · cases hd1 with
      | tup ha l =>
        rename_i a xs
        refine ⟨a, rfl, .inr ⟨⟨xs, tq vis_sub ha⟩, q _ H1 o1 ds anyO hs1 e1 ⟨_, _, (l.length ▸ walk_tup (K := K) (a := a) (xs := xs)), fun F H own hs _ => tq (hs.mo.trans vis_sub) ha, fun F i H x H' own hi hs _ y => ?_⟩ p⟩⟩
        obtain ⟨rfl, y⟩ := y
        refine ⟨Same.refl _, ?_⟩
        obtain ⟨d, e1, e2⟩ := l.getV y
        exact ⟨d, e1, e2.mono hs.mo⟩
  · cases hd1
    have c := hs1.cell _ hm
    cases c with
    | lst ha l =>
      refine ⟨a, rfl, .inl ⟨⟨_, .inl (.inl ha)⟩, q _ H1 o1 ds _ hs1 e1 ?_ p⟩⟩
      refine ⟨fun H => ∃ xs, SqL K H a xs ∧ xs.length = ds.length, fun i H x H' => H' = H ∧ ∀ xs, SqL K H a xs → xs[i]? = some x, ⟨fun i H hi ⟨xs, sq, e⟩ => ⟨xs, xs[i]'(by omega), sq, by simp [show i < xs.length by omega]⟩, fun H ⟨xs, sq, e⟩ => ⟨xs, sq, by omega⟩, fun i H x H' hi g y => ⟨y.1, y.2⟩⟩, fun F H own hs hk => ?_, fun F i H x H' own hi hs hk y => ?_⟩
      · have c := hs.cell _ hk
        cases c with
        | lst ha l => exact ⟨_, .inl (.inl ha), l.length⟩
      · have c := hs.cell _ hk
        obtain ⟨rfl, y⟩ := y
        cases c with
        | lst ha l => exact ⟨Same.refl _, l.getV (y _ (.inl (.inl ha)))⟩
theorem ix_rng1 {ta : TA} {R : List Dat → (Own → Prop) → Own → Prop} (h : AX K ta sl own fun ds o => ∃ j : Int, ds = [.int j] ∧ -(2 ^ 62) ≤ j ∧ j < 2 ^ 62 ∧ R ((List.range j.toNat).map fun i => .int (i : Nat)) anyO o) : IX K (iRng1 ta) sl own R := fun F V0 σ H hs hl Q q => by
  refine h F V0 σ H hs hl _ fun v H1 d o1 hs1 e1 hd1 ⟨j, z, b1, b2, p⟩ => ?_
  subst z
  cases hd1 with
  | cons h1 t =>
    cases t; cases h1
    refine ⟨j, rfl, b1, b2, q _ H1 o1 _ anyO hs1 e1 ⟨fun _ => True, YFn fun i => .int (0 + (i : Nat)), ?_, fun _ _ _ _ _ => trivial, fun F i H x H' own hi hs _ y => ?_⟩ p⟩
    · rw [List.length_map, List.length_range]; exact walk_range
    · obtain ⟨rfl, rfl⟩ := y
      rw [List.length_map, List.length_range] at hi
      exact ⟨Same.refl _, .int (i : Nat), by simp [hi], by show Da K _ (.int (0 + (i : Nat))) _; rw [Int.zero_add]; exact .int _⟩
theorem ix_rng2 {ta : TA} {R : List Dat → (Own → Prop) → Own → Prop} (h : AX K ta sl own fun ds o => ∃ a b : Int, ds = [.int a, .int b] ∧ (-(2 ^ 62) ≤ a ∧ a < 2 ^ 62 ∧ -(2 ^ 62) ≤ b ∧ b < 2 ^ 62) ∧ R ((List.range (b - a).toNat).map fun i => .int (a + (i : Nat))) anyO o) : IX K (iRng2 ta) sl own R := fun F V0 σ H hs hl Q q => by
  refine h F V0 σ H hs hl _ fun v H1 d o1 hs1 e1 hd1 ⟨a, b, z, bb, p⟩ => ?_
  subst z
  cases hd1 with
  | cons h1 t => cases t with
    | cons h2 t =>
      cases t; cases h1; cases h2
      refine ⟨a, b, rfl, bb, q _ H1 o1 _ anyO hs1 e1 ⟨fun _ => True, YFn fun i => .int (a + (i : Nat)), ?_, fun _ _ _ _ _ => trivial, fun F i H x H' own hi hs _ y => ?_⟩ p⟩
      · rw [List.length_map, List.length_range]; exact walk_range
      · obtain ⟨rfl, rfl⟩ := y
        rw [List.length_map, List.length_range] at hi
        exact ⟨Same.refl _, .int (a + (i : Nat)), by simp [hi], .int _⟩
theorem ss_for' {wi : TI} {g : TG} (h : IX K wi sl own fun xs Keep o => ∃ I : Nat → SL → Own → Prop, I 0 sl o ∧ (∀ i sl o, I i sl o → Keep o) ∧
    (∀ i x sl2 o2, xs[i]? = some x → I i sl2 o2 → GX K g anyJ x sl2 o2 fun sl3 o3 => SS K E t sl3 o3 { D with nx := I (i + 1), ct := I (i + 1), bk := D.nx }) ∧ ∀ sl2 o2, I xs.length sl2 o2 → D.nx sl2 o2) : SS K E (tFor wi g t) sl own D := fun F V0 σ H hs hl D' n1 r1 b1 c1 x1 => by
  refine h F V0 σ H hs hl _ fun J H1 o1 xs Keep hs1 e1 its ⟨I, i0, ik, ib, ie⟩ => ?_
  obtain ⟨G, Y, w, hG, hY⟩ := its
  have e2 : ∀ {H2 o2}, Hs K F (vis F o1 H1) H2 o2 → Same (vis F own H) (vis F o2 H2) := fun a => e1.trans a.mo
  have hb : ∀ {H2 o2}, Hs K F (vis F o1 H1) H2 o2 → Hs K F V0 H2 o2 := fun a => a.from hs1.mo
  refine for_it w (fun i σ H => ∃ sl own, Hs K F (vis F o1 H1) H own ∧ Sl K (vis F own H) σ sl ∧ I i sl own) ⟨sl, o1, hs1.now, hl.mono e1, i0⟩ (fun i σ H _ ⟨sl2, o2, a, b, c⟩ => hG F H o2 a (ik i sl2 o2 c)) (fun i x σ H H' hi ⟨sl2, o2, a, b, c⟩ y => ?_) (fun σ2 H2 ⟨sl2, o2, a, b, c⟩ => n1 σ2 H2 sl2 o2 (hb a) (e2 a) b (ie sl2 o2 c))
  obtain ⟨s1, d, hd, hx⟩ := hY F i H x H' o2 hi a (ik i sl2 o2 c) y
  have g1 := vis_grow a s1
  refine ib i d sl2 o2 hd c F (vis F o1 H1) σ H' x (a.grow s1) (b.mono g1) hx _ fun σ3 H3 sl3 o3 hs3 e3 hl3 _ p3 => ?_
  exact p3 F (vis F o1 H1) σ3 H3 hs3 hl3 _ (fun σ4 H4 sl4 o4 a4 b4 c4 p4 => ⟨sl4, o4, a4, c4, p4⟩) (fun v H4 d o4 a4 b4 c4 p4 => r1 v H4 d o4 (hb a4) (e2 a4) c4 p4)
    (fun σ4 H4 sl4 o4 a4 b4 c4 p4 => n1 σ4 H4 sl4 o4 (hb a4) (e2 a4) c4 p4) (fun σ4 H4 sl4 o4 a4 b4 c4 p4 => ⟨sl4, o4, a4, c4, p4⟩) (fun c dx H4 o4 a4 b4 p4 => x1 c dx H4 o4 (hb a4) (e2 a4) p4)
theorem ss_while' {c : TT} (I : Nat → SL → Own → Prop) {m0 : Nat} (i0 : I m0 sl own) (h : ∀ m sl2 o2, I m sl2 o2 → TX K c sl2 o2 fun b o3 => if b = true then SS K E t sl2 o3 { D with nx := fun s o => ∃ m', m' < m ∧ I m' s o, ct := fun s o => ∃ m', m' < m ∧ I m' s o, bk := D.nx } else D.nx sl2 o3) : SS K E (tWhile c t) sl own D := fun F V0 σ H hs hl D' n1 r1 b1 c1 x1 => by
  have e2 : ∀ {H2 o2}, Hs K F (vis F own H) H2 o2 → Same (vis F own H) (vis F o2 H2) := fun a => a.mo
  have hb : ∀ {H2 o2}, Hs K F (vis F own H) H2 o2 → Hs K F V0 H2 o2 := fun a => a.from hs.mo
  refine ⟨fun m σ H' => ∃ sl2 o2, Hs K F (vis F own H) H' o2 ∧ Sl K (vis F o2 H') σ sl2 ∧ I m sl2 o2, ⟨m0, sl, own, hs.now, hl, i0⟩, fun m σ2 H2 ⟨sl2, o2, a, b, p⟩ => ?_⟩
  refine h m sl2 o2 p F (vis F own H) σ2 H2 a b _ fun k H3 o3 hs3 e3 p3 => ?_
  cases k with
  | true =>
    refine iteT ⟨fun σ H' => ∃ m', m' < m ∧ ∃ sl2 o2, Hs K F (vis F own H) H' o2 ∧ Sl K (vis F o2 H') σ sl2 ∧ I m' sl2 o2, fun _ _ z => z, ?_⟩
    exact (show SS K E t sl2 o3 _ from p3) F (vis F own H) σ2 H3 hs3 (b.mono e3) _ (fun σ4 H4 sl4 o4 a4 b4 c4 ⟨m', hm, p4⟩ => ⟨m', hm, sl4, o4, a4, c4, p4⟩) (fun v H4 d o4 a4 b4 c4 p4 => r1 v H4 d o4 (hb a4) (e2 a4) c4 p4)
      (fun σ4 H4 sl4 o4 a4 b4 c4 p4 => n1 σ4 H4 sl4 o4 (hb a4) (e2 a4) c4 p4) (fun σ4 H4 sl4 o4 a4 b4 c4 ⟨m', hm, p4⟩ => ⟨m', hm, sl4, o4, a4, c4, p4⟩) (fun c dx H4 o4 a4 b4 p4 => x1 c dx H4 o4 (hb a4) (e2 a4) p4)
  | false => exact iteF (n1 σ2 H3 sl2 o3 (hb hs3) (e2 hs3) (b.mono e3) p3)
end
end Sy
namespace Sy
open PySem L2
section
variable {K : PySem.W.Frag} {E : XK} {own : Own} {sl : SL} {D D' : DE} {t u : TS}
theorem ss_mono (h : SS K E t sl own D) (h1 : ∀ s o, D.nx s o → D'.nx s o) (h2 : ∀ d o, D.rt d o → D'.rt d o) (h3 : ∀ s o, D.bk s o → D'.bk s o) (h4 : ∀ s o, D.ct s o → D'.ct s o) (h5 : ∀ c dx o, D.xp c dx o → D'.xp c dx o) : SS K E t sl own D' := fun F V0 σ H hs hl D2 n1 r1 b1 c1 x1 =>
  h F V0 σ H hs hl D2 (fun a b c d e f g i => n1 a b c d e f g (h1 _ _ i)) (fun a b c d e f g i => r1 a b c d e f g (h2 _ _ i)) (fun a b c d e f g i => b1 a b c d e f g (h3 _ _ i)) (fun a b c d e f g i => c1 a b c d e f g (h4 _ _ i)) (fun a b c d e f i => x1 a b c d e f (h5 _ _ _ i))
/-- two statements with what stands between them -/
theorem ss_mid' (M : SL → Own → Prop) (h : SS K E t sl own { D with nx := M }) (k : ∀ s o, M s o → SS K E u s o D) : SS K E (tSeq t u) sl own D := ss_seq' (ss_mono h k (fun _ _ z => z) (fun _ _ z => z) (fun _ _ z => z) fun _ _ _ z => z)
end
end Sy
namespace Sy
open PySem L2
section
variable {K : PySem.W.Frag} {E : XK} {own : Own} {sl : SL} {D : DE} {ta tv : TE}
theorem fidx_hd {f : Str} {ns : List Str} : fidx (f :: ns) f = some 0 := by unfold fidx; rw [if_pos rfl]
theorem fidx_tl {n f : Str} {ns : List Str} {i : Nat} (h : ¬ n = f) (h2 : fidx ns f = some i) : fidx (n :: ns) f = some (i + 1) := by unfold fidx; rw [if_neg h, h2]; rfl
/-- o.f = e: a field more, or one that is there -/
theorem ss_fld2' {f : Str} (h : EX K tv sl own fun e o => EX K ta sl o fun d o2 => ∃ a C ns ds l r, d = .ptr a ∧ o2 = l ++ (a, .ins C ns ds) :: r ∧ Cls K C ∧ NoAttr K C f ∧ ns.length < 1000 ∧
    ((fidx ns f = none ∧ D.nx sl (l ++ (a, .ins C (ns ++ [f]) (ds ++ [e])) :: r)) ∨ ∃ i, fidx ns f = some i ∧ D.nx sl (l ++ (a, .ins C ns (ds.set i e)) :: r))) : SS K E (sFld K ta tv f) sl own D :=
  ss_fld' (ex_mono h fun e o h2 => ex_mono h2 fun d o2 ⟨a, C, ns, ds, l, r, h1, h2, h3, h4, h5, h6⟩ => ⟨a, C, ns, ds, l, r, h1, h2, h3, h4, h5, by
    unfold putN putX
    rcases h6 with ⟨q, p⟩ | ⟨i, q, p⟩
    · rw [q]; exact p
    · rw [q]; exact p⟩)
end
end Sy
namespace Sy
open PySem L2
/-! the statements' rules with the ends spelled out -/
section
variable {K : PySem.W.Frag} {E : XK} {own : Own} {sl : SL} {nx bk ct : SL → Own → Prop} {rt : Dat → Own → Prop} {xp : XD} {ta tv te : TE} {t u : TS} {d : Dat}
theorem ss_seq (h : SS K E t sl own ⟨fun sl2 o2 => SS K E u sl2 o2 ⟨nx, rt, bk, ct, xp⟩, rt, bk, ct, xp⟩) : SS K E (tSeq t u) sl own ⟨nx, rt, bk, ct, xp⟩ := ss_seq' h
theorem ss_next (p : nx sl own) : SS K E tNext sl own ⟨nx, rt, bk, ct, xp⟩ := ss_next' p
theorem ss_brk (p : bk sl own) : SS K E tBreak sl own ⟨nx, rt, bk, ct, xp⟩ := ss_brk' p
theorem ss_cont (p : ct sl own) : SS K E tCont sl own ⟨nx, rt, bk, ct, xp⟩ := ss_cont' p
theorem ss_drop (h : EX K te sl own fun _ o => nx sl o) : SS K E (tDrop te) sl own ⟨nx, rt, bk, ct, xp⟩ := ss_drop' h
theorem ss_ret (h : EX K te sl own rt) : SS K E (tRet te) sl own ⟨nx, rt, bk, ct, xp⟩ := ss_ret' h
theorem ss_retN (h : rt .non own) : SS K E tRetN sl own ⟨nx, rt, bk, ct, xp⟩ := ss_retN' h
theorem ss_asg {g : TG} (h : EX K te sl own fun d o => GX K g anyJ d sl o nx) : SS K E (tAsg te g) sl own ⟨nx, rt, bk, ct, xp⟩ := ss_asg' h
theorem ss_set {i : Nat} (h : EX K te sl own fun d o => nx (sl.set i (some d)) o) : SS K E (tAsg te (gName i)) sl own ⟨nx, rt, bk, ct, xp⟩ := ss_set' h
theorem ss_if {c : TT} (h : TX K c sl own fun b o => if b = true then SS K E t sl o ⟨nx, rt, bk, ct, xp⟩ else SS K E u sl o ⟨nx, rt, bk, ct, xp⟩) : SS K E (tIfS c t u) sl own ⟨nx, rt, bk, ct, xp⟩ := ss_if' h
theorem ss_aug {i : Nat} {ti : TIp} (h : sl[i]? = some (some d)) (h2 : EX K te sl own fun e o => R2X K ti d e o fun z o2 => nx (sl.set i (some z)) o2) : SS K E (tAug i te ti) sl own ⟨nx, rt, bk, ct, xp⟩ := ss_aug' h h2
/-- a field is stored: what is asked of the cells -/
def FldW (K : PySem.W.Frag) (f : Str) (d e : Dat) (o : Own) (N : Own → Prop) : Prop := ∃ a C ns ds l r, d = .ptr a ∧ o = l ++ (a, .ins C ns ds) :: r ∧ Cls K C ∧ NoAttr K C f ∧ ns.length < 1000 ∧
    ((fidx ns f = none ∧ N (l ++ (a, .ins C (ns ++ [f]) (ds ++ [e])) :: r)) ∨ ∃ i, fidx ns f = some i ∧ N (l ++ (a, .ins C ns (ds.set i e)) :: r))
theorem ss_fld2 {f : Str} (h : EX K tv sl own fun e o => EX K ta sl o fun d o2 => FldW K f d e o2 (nx sl)) : SS K E (sFld K ta tv f) sl own ⟨nx, rt, bk, ct, xp⟩ := ss_fld2' h
theorem ss_for {wi : TI} {g : TG} (h : IX K wi sl own fun xs Keep o => ∃ I : Nat → SL → Own → Prop, I 0 sl o ∧ (∀ i sl o, I i sl o → Keep o) ∧
    (∀ i x sl2 o2, xs[i]? = some x → I i sl2 o2 → GX K g anyJ x sl2 o2 fun sl3 o3 => SS K E t sl3 o3 ⟨I (i + 1), rt, nx, I (i + 1), xp⟩) ∧ ∀ sl2 o2, I xs.length sl2 o2 → nx sl2 o2) : SS K E (tFor wi g t) sl own ⟨nx, rt, bk, ct, xp⟩ := ss_for' h
theorem ss_while {c : TT} (I : Nat → SL → Own → Prop) {m0 : Nat} (i0 : I m0 sl own) (h : ∀ m sl2 o2, I m sl2 o2 → TX K c sl2 o2 fun b o3 => if b = true then SS K E t sl2 o3 ⟨fun s o => ∃ m', m' < m ∧ I m' s o, rt, nx, fun s o => ∃ m', m' < m ∧ I m' s o, xp⟩ else nx sl2 o3) : SS K E (tWhile c t) sl own ⟨nx, rt, bk, ct, xp⟩ := ss_while' I i0 h
theorem ss_mid (M : SL → Own → Prop) (h : SS K E t sl own ⟨M, rt, bk, ct, xp⟩) (k : ∀ s o, M s o → SS K E u s o ⟨nx, rt, bk, ct, xp⟩) : SS K E (tSeq t u) sl own ⟨nx, rt, bk, ct, xp⟩ := ss_mid' M h k
end
end Sy
/-! Rules of the symbolic layer: comprehensions, built-ins, defs. -/
namespace Sy
open PySem L2

def wipeS (sl : SL) : List Nat → SL
  | [] => sl
  | v :: vs => (wipeS sl vs).set v none
section
variable {K : PySem.W.Frag} {E : XK} {own o1 l r : Own} {sl : SL} {P : PD} {d e : Dat} {X : Cx} {ta tb tc te : TE} {D : DE} {t u : TS}
theorem Sl.wipe {W : Hp} {σ : L2.St} (h : Sl K W σ sl) : ∀ vs : List Nat, Sl K W (wipe σ vs) (wipeS sl vs)
  | [] => h
  | v :: vs => (Sl.wipe h vs).unset v none
theorem wipe_at (σ : L2.St) (j : Nat) : ∀ vs : List Nat, (wipe σ vs)[j]? = if j < σ.length then (if j ∈ vs then some none else σ[j]?) else none
  | [] => by
    unfold wipe
    by_cases h : j < σ.length
    · simp [h]
    · simp [h]
  | v :: vs => by
    unfold wipe
    have ih := wipe_at σ j vs
    by_cases h : v = j
    · subst h
      by_cases hl : v < σ.length
      · rw [List.getElem?_set_self (by rw [wipe_length]; exact hl)]; simp [hl]
      · rw [List.getElem?_eq_none (by rw [List.length_set, wipe_length]; omega)]; simp [hl]
    · rw [List.getElem?_set_ne h, ih]
      have e : (j ∈ v :: vs) ↔ j ∈ vs := by rw [List.mem_cons]; exact ⟨fun z => z.elim (fun q => absurd q.symm h) id, .inr⟩
      by_cases hl : j < σ.length
      · simp [hl, e]
      · simp [hl]
theorem wipe_same {σ σ' : L2.St} {vs : List Nat} (h : ∀ j, ¬ j ∈ vs → σ'[j]? = (wipe σ vs)[j]?) (hl : σ'.length = σ.length) : wipe σ' vs = wipe σ vs := by
  apply List.ext_getElem?
  intro j
  rw [wipe_at, wipe_at, hl]
  by_cases hlt : j < σ.length
  · rw [if_pos hlt, if_pos hlt]
    by_cases hm : j ∈ vs
    · rw [if_pos hm, if_pos hm]
    · rw [if_neg hm, if_neg hm, h j hm, wipe_at, if_pos hlt, if_neg hm]
  · rw [if_neg hlt, if_neg hlt]
theorem reframe {F V0 H : Hp} {a : Addr} {o o' : HO} {own : Own} (h : Hs K (upd F a o) V0 H own) (hf : F a = none) : Hs K (upd F a o') V0 (upd H a o') own ∧ vis (upd F a o') own (upd H a o') = vis (upd F a o) own H := by
  have n1 : a ∉ own.map (·.1) := fun z => by
    obtain ⟨p, hp, rfl⟩ := List.mem_map.mp z
    have q := h.out p hp
    rw [upd_same] at q; cases q
  have ev : vis (upd F a o') own (upd H a o') = vis (upd F a o) own H := by
    funext b
    unfold vis
    by_cases hb : b = a
    · subst hb
      rw [if_pos (.inl (by rw [upd_same]; rfl)), if_pos (.inl (by rw [upd_same]; rfl))]
    · rw [upd_ne hb, upd_ne hb, upd_ne hb]
  refine ⟨⟨h.nd, fun p hp => ?_, by rw [ev]; exact h.mo, fun b u e => ?_, fun p hp => ?_⟩, ev⟩
  · rw [ev]
    refine (h.cell p hp).stay (Same.refl _) (upd_ne fun z => n1 ?_)
    rw [← z]; exact List.mem_map.mpr ⟨p, hp, rfl⟩
  · by_cases hb : b = a
    · subst hb; rw [upd_same] at e; cases e; exact upd_same
    · rw [upd_ne hb] at e ⊢
      exact h.fr b u (by rw [upd_ne hb]; exact e)
  · have q := h.out p hp
    by_cases hb : p.1 = a
    · exact absurd (List.mem_map.mpr ⟨p, hp, hb⟩) n1
    · rw [upd_ne hb] at q ⊢; exact q
/-- [e for .. if ..]: a new list, one's own (P says what of it) -/
theorem ex_lc {wi : TI} {g : TG} {tt : TT} {vs : List Nat} (h : IX K wi sl own fun xs Keep o => ∃ I : Nat → List Dat → Own → Prop, I 0 [] o ∧ (∀ i acc o, I i acc o → Keep o) ∧
    (∀ i x acc o2, xs[i]? = some x → I i acc o2 → GX K g (· ∈ vs) x (wipeS sl vs) o2 fun sl3 o3 => TX K tt sl3 o3 fun b o4 => if b = true then EX K te sl3 o4 fun y o5 => acc.length < sizeLine ∧ I (i + 1) (acc ++ [y]) o5 else I (i + 1) acc o4) ∧
    ∀ acc o2, I xs.length acc o2 → P (.lst acc) o2) : EX K (tLc wi g tt te vs) sl own P := fun F V0 σ H hs hl Q q => by
  refine h F V0 σ H hs hl _ fun J H1 o1 xs Keep hs1 e1 its ⟨I, i0, ik, ib, ie⟩ => ?_
  obtain ⟨G, Y, w, hG, hY⟩ := its
  intro D hD
  have hf : F D = none := fresh_fr hs1 hD
  have hl1 := hl.mono e1
  have hs2 : Hs K (upd F D (.lst [])) (vis F o1 H1) (upd H1 D (.lst [])) o1 := by
    have a := (hs1.now).new (o := .lst []) hD (c := .lst []) (.lst upd_same .nil)
    exact a.hide upd_same
  refine lc_it w (fun i H => ∃ acc avs own, Hs K (upd F D (.lst avs)) (vis F o1 H1) H own ∧ DaL K (vis (upd F D (.lst avs)) own H) avs acc ∧ I i acc own) ⟨[], [], o1, hs2, .nil, i0⟩ (fun i H _ ⟨acc, avs, o2, a, b, c⟩ => hG _ H o2 a (ik i acc o2 c)) (fun i x H H' hi ⟨acc, avs, o2, a, b, c⟩ y => ?_) (fun H2 ⟨acc, avs, o2, a, b, c⟩ => ?_)
  · obtain ⟨s1, d, hd, hx⟩ := hY _ i H x H' o2 hi a (ik i acc o2 c) y
    have g1 := vis_grow a s1
    refine ib i d acc o2 hd c _ (vis F o1 H1) (wipe σ vs) H' x (a.grow s1) ((hl1.wipe vs).mono (a.mo.trans g1)) hx _ fun σ3 H3 sl3 o3 hs3 e3 hl3 j3 p3 => ?_
    have hb3 := (b.mono g1).mono e3
    refine ⟨?_, ?_⟩
    · have e := wipe_same (σ := σ) (σ' := σ3) (vs := vs) j3.2 (j3.1.trans (wipe_length σ vs))
      rw [e]
    · refine p3 _ (vis F o1 H1) σ3 H3 hs3 hl3 _ fun k H4 o4 hs4 e4 p4 => ?_
      have hb4 := hb3.mono e4
      cases k with
      | true =>
        refine iteT ((show EX K te sl3 o4 _ from p4) _ (vis F o1 H1) σ3 H4 hs4 (hl3.mono e4) _ fun z H5 d5 o5 hs5 e5 hd5 ⟨zl, p5⟩ => ?_)
        obtain ⟨r1, r2⟩ := reframe (o' := .lst (avs ++ [z])) hs5 hf
        refine ⟨avs, hs5.fr D _ upd_same, by rw [b.length]; exact zl, acc ++ [d5], avs ++ [z], o5, r1, ?_, p5⟩
        rw [r2]
        exact (hb4.mono e5).append (.cons hd5 .nil)
      | false => exact iteF ⟨acc, avs, o4, hs4, hb4, p4⟩
  · have hHD : H2 D = some (.lst avs) := a.fr D _ upd_same
    have bk : Hs K F (vis F o1 H1) H2 ((D, .lst acc) :: o2) := a.back hf (.lst hHD b)
    have dr := Hs.drop (l := []) bk
    have fz := freeze (l := []) bk
    exact q _ H2 (.lst acc) o2 (dr.from hs1.mo) (e1.trans dr.mo) fz (ie acc o2 c)
end
end Sy
/-! Rules of the symbolic layer: built-ins, defs. -/
namespace Sy
open PySem L2

section
variable {K : PySem.W.Frag} {own : Own} {P : PD} {d e : Dat} {X : Cx}
theorem rl_of {r : List V → Hp → VK → Prop} {ds : List Dat} {z : Dat} (h : ∀ (F V0 H : Hp) (xs : List V), Hs K F V0 H own → DaL K (vis F own H) xs ds → ∃ v, (∀ W, Da K W v z) ∧ ∀ (Q : VK), Q v H → r xs H Q) (p : P z own) : RLX K r ds own P := fun F V0 H xs hs hx Q q => by
  obtain ⟨v, hv, hr⟩ := h F V0 H xs hs hx
  exact hr Q (q v H z own hs (Same.refl _) (hv _) p)
/-! ### len, int, max, min, list, tuple, sum, any, all, str -/
def uLen (K : PySem.W.Frag) : List V → Hp → VK → Prop := fun xs H Q => (∃ p ys, xs = [.ref p] ∧ (SqL K H p ys ∨ SqT K H p ys) ∧ Q (.int ys.length) H) ∨ (∃ z, xs = [.str z] ∧ z.length ≤ sizeLine ∧ Q (.int z.length) H) ∨ ∃ a kvs, xs = [V.ref a] ∧ H a = some (.dK kvs) ∧ Q (.int kvs.length) H
theorem call_lenU : CallR X (.builtin "len") (uLen X.K) := CallR.or call_len_seq (CallR.or call_len_str call_lenD)
theorem len_seq {ds : List Dat} (h : SeqD own d ds) (p : P (.int ds.length) own) : RLX K (uLen K) [d] own P := rl_of (fun F V0 H xs hs hx => by
  cases hx with
  | cons h1 t =>
    cases t
    obtain ⟨a, vs, rfl, ha, l⟩ := h.sq hs h1
    exact ⟨_, fun _ => .int _, fun Q q => .inl ⟨a, vs, rfl, ha, by rw [l.length]; exact q⟩⟩) p
theorem len_str {z : Str} (hz : z.length ≤ sizeLine) (p : P (.int z.length) own) : RLX K (uLen K) [.str z] own P := rl_of (fun F V0 H xs hs hx => by
  cases hx with
  | cons h1 t =>
    cases t; cases h1
    exact ⟨_, fun _ => .int _, fun Q q => .inr (.inl ⟨z, rfl, hz, q⟩)⟩) p
def rInt1 : List V → Hp → VK → Prop := fun xs H Q => (∃ i, xs = [.int i] ∧ Q (.int i) H) ∨ ∃ k, xs = [.bl k] ∧ Q (.int (if k then 1 else 0)) H
theorem call_intU : CallR X (.type "int") rInt1 := call_int1
theorem int_int {i : Int} (p : P (.int i) own) : RLX K rInt1 [.int i] own P := rl_of (fun F V0 H xs hs hx => by
  cases hx with
  | cons h1 t =>
    cases t; cases h1
    exact ⟨_, fun _ => .int _, fun Q q => .inl ⟨i, rfl, q⟩⟩) p
theorem int_bl {i : Bool} (p : P (.int (if i then 1 else 0)) own) : RLX K rInt1 [.bl i] own P := rl_of (fun F V0 H xs hs hx => by
  cases hx with
  | cons h1 t =>
    cases t; cases h1
    exact ⟨_, fun _ => .int _, fun Q q => .inr ⟨i, rfl, q⟩⟩) p
/-- max and min: of two ints, of a list of ints -/
def uMax (K : PySem.W.Frag) : List V → Hp → VK → Prop := fun xs H Q => (∃ i j, xs = [.int i, .int j] ∧ Q (.int (if j > i then j else i)) H) ∨ rMax K xs H Q
def uMin (K : PySem.W.Frag) : List V → Hp → VK → Prop := fun xs H Q => (∃ i j, xs = [.int i, .int j] ∧ Q (.int (if j < i then j else i)) H) ∨ rMin K xs H Q
theorem call_maxU (hc : X.calm = true) : CallR X (.builtin "max") (uMax X.K) := CallR.or (call_max2 hc) (cr_max hc)
theorem call_minU (hc : X.calm = true) : CallR X (.builtin "min") (uMin X.K) := CallR.or (call_min2 hc) (cr_min hc)
theorem max_two {i j : Int} (p : P (.int (max i j)) own) : RLX K (uMax K) [.int i, .int j] own P := rl_of (fun F V0 H xs hs hx => by
  cases hx with
  | cons h1 t => cases t with
    | cons h2 t =>
      cases t; cases h1; cases h2
      refine ⟨_, fun _ => .int _, fun Q q => .inl ⟨i, j, rfl, ?_⟩⟩
      rw [show (if j > i then j else i) = max i j by split <;> omega]
      exact q) p
theorem min_two {i j : Int} (p : P (.int (min i j)) own) : RLX K (uMin K) [.int i, .int j] own P := rl_of (fun F V0 H xs hs hx => by
  cases hx with
  | cons h1 t => cases t with
    | cons h2 t =>
      cases t; cases h1; cases h2
      refine ⟨_, fun _ => .int _, fun Q q => .inl ⟨i, j, rfl, ?_⟩⟩
      rw [show (if j < i then j else i) = min i j by split <;> omega]
      exact q) p
theorem max_lst {ns : List Int} (h : LstD own d (ns.map Dat.int)) (hn : 0 < ns.length) (p : ∀ m, m ∈ ns → (∀ y, y ∈ ns → y ≤ m) → P (.int m) own) : RLX K (uMax K) [d] own P := fun F V0 H xs hs hx Q q => by
  cases hx with
  | cons h1 t =>
    cases t
    obtain ⟨a, vs, rfl, ha, l⟩ := h.sq hs h1
    have e := l.ints
    subst e
    exact .inr ⟨a, ns, rfl, ha, hn, fun m h1 h2 => q _ H _ own hs (Same.refl _) (.int m) (p m h1 h2)⟩
theorem min_lst {ns : List Int} (h : LstD own d (ns.map Dat.int)) (hn : 0 < ns.length) (p : ∀ m, m ∈ ns → (∀ y, y ∈ ns → m ≤ y) → P (.int m) own) : RLX K (uMin K) [d] own P := fun F V0 H xs hs hx Q q => by
  cases hx with
  | cons h1 t =>
    cases t
    obtain ⟨a, vs, rfl, ha, l⟩ := h.sq hs h1
    have e := l.ints
    subst e
    exact .inr ⟨a, ns, rfl, ha, hn, fun m h1 h2 => q _ H _ own hs (Same.refl _) (.int m) (p m h1 h2)⟩
def rListOf (K : PySem.W.Frag) : List V → Hp → VK → Prop := fun xs H Q => ∃ p ys, xs = [.ref p] ∧ (SqL K H p ys ∨ SqT K H p ys) ∧ ∀ l, H l = none → Q (.ref l) (upd H l (.lst ys))
theorem call_listU : CallR X (.type "list") (rListOf X.K) := call_list_of
theorem list_of {ds : List Dat} (h : SeqD own d ds) (p : P (.lst ds) own) : RLX K (rListOf K) [d] own P := fun F V0 H xs hs hx Q q => by
  cases hx with
  | cons h1 t =>
    cases t
    obtain ⟨a, vs, rfl, ha, l⟩ := h.sq hs h1
    refine ⟨a, vs, rfl, ha, fun c hc => ?_⟩
    obtain ⟨g1, g2, g3⟩ := vis_newd (o := .lst vs) hs hc
    exact q _ _ _ own g1 g2 (.lst g3 (l.mono g2)) p
theorem list_ofO {ds : List Dat} (h : SeqD own d ds) (p : ∀ a, a ∉ own.map (·.1) → P (.ptr a) ((a, .lst ds) :: own)) : RLX K (rListOf K) [d] own P := fun F V0 H xs hs hx Q q => by
  cases hx with
  | cons h1 t =>
    cases t
    obtain ⟨a, vs, rfl, ha, l⟩ := h.sq hs h1
    refine ⟨a, vs, rfl, ha, fun c hc => ?_⟩
    refine q _ _ _ ((c, .lst ds) :: own) (hs.new hc (.lst upd_same l)) ?_ (.ptr c) (p c (fresh_own hs hc))
    rw [vis_new hs hc]; exact Same.refl _
def rTupOf (K : PySem.W.Frag) : List V → Hp → VK → Prop := fun xs H Q => ∃ p ys, xs = [.ref p] ∧ ((SqL K H p ys ∧ ∀ l, H l = none → Q (.ref l) (upd H l (.tup ys))) ∨ (SqT K H p ys ∧ Q (.ref p) H))
theorem call_tupU : CallR X (.type "tuple") (rTupOf X.K) := call_tuple_of
theorem tup_of {ds : List Dat} (h : SeqD own d ds) (p : P (.tup ds) own) : RLX K (rTupOf K) [d] own P := fun F V0 H xs hs hx Q q => by
  cases hx with
  | cons h1 t =>
    cases t
    rcases h with h | rfl
    · obtain ⟨a, vs, rfl, ha, l⟩ := h.sq hs h1
      refine ⟨a, vs, rfl, .inl ⟨ha, fun c hc => ?_⟩⟩
      obtain ⟨g1, g2, g3⟩ := vis_newd (o := .tup vs) hs hc
      exact q _ _ _ own g1 g2 (.tup g3 (l.mono g2)) p
    · cases h1 with
      | tup ha l => exact ⟨_, _, rfl, .inr ⟨tq vis_sub ha, q _ H _ own hs (Same.refl _) (.tup ha l) p⟩⟩
theorem sum_lst {ns : List Int} (h : LstD own d (ns.map Dat.int)) (p : P (.int ns.sum) own) : RLX K (rSum K) [d] own P := rl_of (fun F V0 H xs hs hx => by
  cases hx with
  | cons h1 t =>
    cases t
    obtain ⟨a, vs, rfl, ha, l⟩ := h.sq hs h1
    have e := l.ints
    subst e
    exact ⟨_, fun _ => .int _, fun Q q => ⟨a, ns, rfl, ha, q⟩⟩) p
theorem any_lst {ns : List Bool} (h : LstD own d (ns.map Dat.bl)) (p : P (.bl (ns.any id)) own) : RLX K (rAny K) [d] own P := rl_of (fun F V0 H xs hs hx => by
  cases hx with
  | cons h1 t =>
    cases t
    obtain ⟨a, vs, rfl, ha, l⟩ := h.sq hs h1
    have e := l.bools
    subst e
    exact ⟨_, fun _ => .bl _, fun Q q => ⟨a, ns, rfl, ha, q⟩⟩) p
theorem all_lst {ns : List Bool} (h : LstD own d (ns.map Dat.bl)) (p : P (.bl (ns.all id)) own) : RLX K (rAll K) [d] own P := rl_of (fun F V0 H xs hs hx => by
  cases hx with
  | cons h1 t =>
    cases t
    obtain ⟨a, vs, rfl, ha, l⟩ := h.sq hs h1
    have e := l.bools
    subst e
    exact ⟨_, fun _ => .bl _, fun Q q => ⟨a, ns, rfl, ha, q⟩⟩) p
def rStrI : List V → Hp → VK → Prop := fun xs H Q => ∃ i, xs = [.int i] ∧ i.natAbs.log2 < 1920 ∧ Q (.str (toString i)) H
theorem call_strU : CallR X (.type "str") rStrI := call_str_int
theorem str_int {i : Int} (hi : i.natAbs.log2 < 1920) (p : P (.str (toString i)) own) : RLX K rStrI [.int i] own P := rl_of (fun F V0 H xs hs hx => by
  cases hx with
  | cons h1 t =>
    cases t; cases h1
    exact ⟨_, fun _ => .str _, fun Q q => ⟨i, rfl, hi, q⟩⟩) p
/-! ### methods of texts and lists -/
def rJoin (K : PySem.W.Frag) : V → List V → Hp → VK → Prop := fun x xs H Q => ∃ a p, ∃ ys : List Str, x = .str a ∧ xs = [.ref p] ∧ (SqL K H p (ys.map V.str) ∨ SqT K H p (ys.map V.str)) ∧ (ys.map (·.length)).sum + ys.length * a.length ≤ 16777216 ∧ Q (.str (Txt.join a ys)) H
theorem pe_joinU {o e : Expr} {to te : TE} {apos pos : Pos} (ho : PE X o to) (he : PE X e te) (hs : starEach [e] X.env = [(false, eval e X.env)] := by rfl) (hbase : attributeBase o "join" X.env (eval o X.env) = eval o X.env := by rfl) (hline : (apos.endLine == pos.line) = true := by rfl) :
    PE X (.Call (.Attribute o "join" apos) [e] [] pos) (tM1 (rJoin X.K) to te) := pe_join ho he hs hbase hline
theorem join_lst {a : Str} {ys : List Str} (h : SeqD own d (ys.map Dat.str)) (hz : (ys.map (·.length)).sum + ys.length * a.length ≤ 16777216) (p : P (.str (Txt.join a ys)) own) : RMX K (rJoin K) (.str a) [d] own P := fun F V0 H x xs hs hx hl Q q => by
  cases hx
  cases hl with
  | cons h1 t =>
    cases t
    obtain ⟨b, vs, rfl, hb, l⟩ := h.sq hs h1
    have e := l.strs
    subst e
    exact ⟨a, b, ys, rfl, rfl, hb, hz, q _ H _ own hs (Same.refl _) (.str _) p⟩
def rStarts : V → List V → Hp → VK → Prop := fun x xs H Q => ∃ a b, x = .str a ∧ xs = [.str b] ∧ Q (.bl (Txt.startswith a b)) H
theorem pe_startsU {o e : Expr} {to te : TE} {apos pos : Pos} (ho : PE X o to) (he : PE X e te) (hs : starEach [e] X.env = [(false, eval e X.env)] := by rfl) (hbase : attributeBase o "startswith" X.env (eval o X.env) = eval o X.env := by rfl) (hline : (apos.endLine == pos.line) = true := by rfl) :
    PE X (.Call (.Attribute o "startswith" apos) [e] [] pos) (tM1 rStarts to te) := pe_m1 PySem.F.slot_str_startswith PySem.F.type_str_startswith mt_startswith ho he hs hbase hline
theorem starts_str {a b : Str} (p : P (.bl (Txt.startswith a b)) own) : RMX K rStarts (.str a) [.str b] own P := fun F V0 H x xs hs hx hl Q q => by
  cases hx
  cases hl with
  | cons h1 t => cases t; cases h1; exact ⟨a, b, rfl, rfl, q _ H _ own hs (Same.refl _) (.bl _) p⟩
theorem ex_bm {T : String} {sl : SL} {r : V → List V → Hp → VK → Prop} {to : TE} {t : TA} (h : EX K to sl own fun d o => (∀ F V0 H x, Hs K F V0 H o → Da K (vis F o H) x d → tyV K T x H) ∧ AX K t sl o fun ds o2 => RMX K r d ds o2 P) : EX K (tBM K T r to t) sl own P := fun F V0 σ H hs hl Q q => by
  refine h F V0 σ H hs hl _ fun v H1 d o1 hs1 e1 hd1 ⟨z, p1⟩ => ⟨z F V0 H1 v hs1 hd1, ?_⟩
  refine p1 F V0 σ H1 hs1 (hl.mono e1) _ fun vs H2 ds o2 hs2 e2 hd2 p2 => ?_
  exact p2 F V0 H2 v vs hs2 (hd1.mono e2) hd2 Q fun v H3 d o3 hs3 e3 hd3 p3 => q v H3 d o3 hs3 ((e1.trans e2).trans e3) hd3 p3
theorem ty_lst {ds : List Dat} {o : Own} (h : LstD o d ds) : ∀ F V0 H x, Hs K F V0 H o → Da K (vis F o H) x d → tyV K "list" x H := fun F V0 H x hs hx => by
  obtain ⟨a, vs, rfl, ha, l⟩ := h.sq hs hx
  exact .inl ⟨rfl, _, ha⟩
/-- xs.append(e), xs.extend(ys) on a list of one's own -/
theorem app_lst {a : Addr} {ds : List Dat} {l r : Own} (hz : ds.length < sizeLine) (p : P .non (l ++ (a, .lst (ds ++ [e])) :: r)) : RMX K rAppend (.ptr a) [e] (l ++ (a, .lst ds) :: r) P := fun F V0 H x xs hs hx hl Q q => by
  cases hx
  cases hl with
  | cons h1 t =>
    cases t
    have c := hs.cell _ (List.mem_append_right l List.mem_cons_self)
    cases c with
    | lst h2 t2 =>
      refine ⟨a, _, _, rfl, rfl, h2, by rw [t2.length]; exact hz, q _ _ .non (l ++ (a, .lst (ds ++ [e])) :: r) (hs.put (.lst upd_same (t2.append (.cons h1 .nil)))) ?_ .non p⟩
      rw [vis_put (c := .lst ds)]; exact Same.refl _
theorem ext_lst {a : Addr} {ds es : List Dat} {l r : Own} (h : TrkD (l ++ (a, .lst ds) :: r) e es) (hz : ds.length + es.length ≤ sizeLine) (p : P .non (l ++ (a, .lst (ds ++ es)) :: r)) : RMX K rExtend (.ptr a) [e] (l ++ (a, .lst ds) :: r) P := fun F V0 H x xs hs hx hl Q q => by
  cases hx
  cases hl with
  | cons h1 t =>
    cases t
    obtain ⟨b, us, rfl, hb, l1⟩ := h.tk hs h1
    have c := hs.cell _ (List.mem_append_right l List.mem_cons_self)
    cases c with
    | lst h2 t2 =>
      refine ⟨a, b, _, us, rfl, rfl, h2, hb, by rw [t2.length, l1.length]; exact hz, q _ _ .non (l ++ (a, .lst (ds ++ es)) :: r) (hs.put (.lst upd_same (t2.append l1))) ?_ .non p⟩
      rw [vis_put (c := .lst ds)]; exact Same.refl _
/-- list(range(n)) -/
theorem ex_lrg {te : TE} {sl : SL} (h : EX K te sl own fun d o => ∃ n : Int, d = .int n ∧ RgOk 0 n ∧ P (.lst ((List.range n.toNat).map fun i => .int (i : Nat))) o) : EX K (tLstRg (tRg1 te)) sl own P := fun F V0 σ H hs hl Q q => by
  refine h F V0 σ H hs hl _ fun v H1 d o1 hs1 e1 hd1 ⟨n, z, ok, p⟩ => ?_
  subst z
  cases hd1
  refine ⟨n, rfl, ok, fun c hc => ?_⟩
  obtain ⟨g1, g2, g3⟩ := vis_newd (o := .lst (rgV 0 n)) hs1 hc
  refine q _ _ _ o1 g1 (e1.trans g2) (.lst g3 ?_) p
  have e : rgV 0 n = ((List.range n.toNat).map fun i => ((i : Nat) : Int)).map V.int := by
    unfold rgV
    simp
  rw [e, show ((List.range n.toNat).map fun i => Dat.int (i : Nat)) = ((List.range n.toNat).map fun i => ((i : Nat) : Int)).map Dat.int by simp]
  exact daL_ints _
end

/-! ### defs -/
section
variable {P : Program} {w : World} {K : PySem.W.Frag} {mg : Str → Option Value} {base : Heap}
theorem start_sl {W : Hp} {N : List Str} {vs : List V} {args : List Dat} (h : DaL K W vs args) : Sl K W (L2.start N vs) (args.map some ++ List.replicate (N.length - args.length) none) := by
  unfold L2.start
  refine ⟨by simp [h.length], fun i d q => ?_⟩
  rw [List.getElem?_append] at q
  split at q
  · next hi =>
    rw [List.length_map] at hi
    rw [List.getElem?_map] at q
    obtain ⟨e, he, hd⟩ := Option.map_eq_some_iff.mp q
    cases hd
    obtain ⟨v, e1, e2⟩ := h.get he
    exact ⟨v, by rw [List.getElem?_append_left (by rw [List.length_map, h.length]; exact hi), List.getElem?_map, e1]; rfl, e2⟩
  · rw [List.getElem?_replicate] at q
    split at q <;> cases q
/-- a def that raises nothing -/
theorem okS {x qual : Str} {st : Stmt} {f : Addr} {fd : FuncData} {N ps : List Str} {k : Nat} {C : Con} (F : Fun K x qual st f fd) (S : FnScope N ps (defScope st)) (len : ∀ args own P XP, C args own P XP → args.length = ps.length)
    (hbody : ∀ (cdv : Value) (A : Around) (outer : List Env) (s : Shared) (H : Hp) (E : XK), Room k (A.deeper (PyProof.Rows.envOfC qual (defScope st) s.heap.objs.size f cdv)) →
      ∃ t, PSs (cxOf CX0 P w K mg base N qual (defScope st) f cdv A outer s H E).nox (defBody st) t ∧ ∀ args own P XP, C args own P XP → SS K E0 t (args.map some ++ List.replicate (N.length - args.length) none) own { nx := fun _ o => P .non o, rt := P }) :
    FnOk P w K mg base CX0 (k + 1) f fd ps (SpG K C) := by
  refine F.ok S (fun vs H Q E ⟨F, V0, own, args, P, XP, hs, hd, hc, _, _⟩ => hd.length.trans (len args own P XP hc)) fun cdv A outer s H vs Q E hr ⟨F, V0, own, args, PP, XP, hs, hd, hc, k1, k2⟩ => ?_
  obtain ⟨t, ht, hb⟩ := hbody cdv A outer s H E hr
  refine ⟨t, ht, hb args own PP XP hc F V0 (L2.start N vs) H hs (start_sl hd) _ (fun σ' H' sl' own' a b c p => k1 .non H' .non own' a b .non p) (fun v H' d own' a b c p => k1 v H' d own' a b c p) (fun _ _ _ _ _ _ _ z => z.elim) (fun _ _ _ _ _ _ _ z => z.elim) (fun _ _ _ _ _ _ z => z.elim)⟩
/-- a def that may raise -/
theorem okSX {x qual : Str} {st : Stmt} {f : Addr} {fd : FuncData} {N ps : List Str} {k : Nat} {C : Con} (F : Fun K x qual st f fd) (S : FnScope N ps (defScope st)) (len : ∀ args own P XP, C args own P XP → args.length = ps.length)
    (hbody : ∀ (cdv : Value) (A : Around) (outer : List Env) (s : Shared) (H : Hp) (E : XK), Room k (A.deeper (PyProof.Rows.envOfC qual (defScope st) s.heap.objs.size f cdv)) →
      ∃ t, PSs (cxOf (L2.CX P w) P w K mg base N qual (defScope st) f cdv A outer s H E) (defBody st) t ∧ ∀ args own P XP, C args own P XP → SS K E t (args.map some ++ List.replicate (N.length - args.length) none) own { nx := fun _ o => P .non o, rt := P, xp := XP }) :
    FnOk P w K mg base (L2.CX P w) (k + 1) f fd ps (SpG K C) := by
  refine F.okX S (fun vs H Q E ⟨F, V0, own, args, P, XP, hs, hd, hc, _, _⟩ => hd.length.trans (len args own P XP hc)) fun cdv A outer s H vs Q E hr ⟨F, V0, own, args, PP, XP, hs, hd, hc, k1, k2⟩ => ?_
  obtain ⟨t, ht, hb⟩ := hbody cdv A outer s H E hr
  refine ⟨t, ht, hb args own PP XP hc F V0 (L2.start N vs) H hs (start_sl hd) _ (fun σ' H' sl' own' a b c p => k1 .non H' .non own' a b .non p) (fun v H' d own' a b c p => k1 v H' d own' a b c p) (fun _ _ _ _ _ _ _ z => z.elim) (fun _ _ _ _ _ _ _ z => z.elim) (fun c dx H' own' a b p => k2 c dx H' own' a b p)⟩
end
end Sy
namespace Sy
open PySem L2
/-! the rules with the written part named: within comprehensions the context hangs on more -/
section
variable {X : Cx} {K : PySem.W.Frag} {e o a b : Expr} {es rest : List Expr} {te ta tb to tl : TE} {t : TA} {f : Str} {pos pos' apos cpos : Pos}
theorem k_add (hK : X.K = K) : OpR X (binaryOp .Add) (uAdd K) := hK ▸ op_addU
theorem k_eq (hK : X.K = K) (hu : X.A.units + 64 < cLine) : OpR X (compareOp .Eq) (uEq K) := hK ▸ op_eqU hu
theorem k_ne (hK : X.K = K) (hu : X.A.units + 64 < cLine) : OpR X (compareOp .NotEq) (uNe K) := hK ▸ op_neU hu
theorem k_in (hK : X.K = K) (hu : X.A.units + 65 < cLine) : OpR X (compareOp .In) (uIn K false) := hK ▸ op_inU hu
theorem k_notIn (hK : X.K = K) (hu : X.A.units + 65 < cLine) : OpR X (compareOp .NotIn) (uIn K true) := hK ▸ op_notInU hu
theorem k_ix (hK : X.K = K) (hu : X.A.units + 1 < cLine) : IxR X (uIx K) := hK ▸ ix_U hu
theorem k_sl (hK : X.K = K) : SlR X (uSl K) := hK ▸ sl_U
theorem k_tru (hK : X.K = K) (ha : PE X a ta) (he : ∀ whole, isTrue a X.env whole = (do let v ← whole; standAt a.pos; holding [v] (truthy v))) : PT X a (tTru K ta) := hK ▸ pt_tru ha he
theorem k_len (hK : X.K = K) : CallR X (.builtin "len") (uLen K) := hK ▸ call_lenU
theorem k_max (hK : X.K = K) (hc : X.calm = true) : CallR X (.builtin "max") (uMax K) := hK ▸ call_maxU hc
theorem k_min (hK : X.K = K) (hc : X.calm = true) : CallR X (.builtin "min") (uMin K) := hK ▸ call_minU hc
theorem k_list (hK : X.K = K) : CallR X (.type "list") (rListOf K) := hK ▸ call_listU
theorem k_tup (hK : X.K = K) : CallR X (.type "tuple") (rTupOf K) := hK ▸ call_tupU
theorem k_sum (hK : X.K = K) (hc : X.calm = true) : CallR X (.builtin "sum") (rSum K) := hK ▸ cr_sum hc
theorem k_any (hK : X.K = K) (hc : X.calm = true) : CallR X (.builtin "any") (rAny K) := hK ▸ cr_any hc
theorem k_all (hK : X.K = K) (hc : X.calm = true) : CallR X (.builtin "all") (rAll K) := hK ▸ cr_all hc
theorem k_join (hK : X.K = K) (ho : PE X o to) (he : PE X e te) (hs : starEach [e] X.env = [(false, eval e X.env)] := by rfl) (hbase : attributeBase o "join" X.env (eval o X.env) = eval o X.env := by rfl) (hline : (apos.endLine == pos.line) = true := by rfl) :
    PE X (.Call (.Attribute o "join" apos) [e] [] pos) (tM1 (rJoin K) to te) := hK ▸ pe_joinU ho he hs hbase hline
theorem k_fld (hK : X.K = K) (he : PE X e ta) (hb : attributeBase e f X.env (eval e X.env) = eval e X.env) : PE X (.Attribute e f pos) (tFld K ta f) := hK ▸ pe_fld he hb
theorem k_and (hK : X.K = K) (ha : PE X a ta) (hb : PE X (.BoolOp .And (b :: rest) pos) tb) : PE X (.BoolOp .And (a :: b :: rest) pos) (tAndT K ta tb) := hK ▸ pe_andT ha hb
theorem k_or (hK : X.K = K) (ha : PE X a ta) (hb : PE X (.BoolOp .Or (b :: rest) pos) tb) : PE X (.BoolOp .Or (a :: b :: rest) pos) (tOrT K ta tb) := hK ▸ pe_orT ha hb
theorem k_not (hK : X.K = K) (ha : PE X a ta) : PE X (.UnaryOp .Not a pos) (tNotT K ta) := hK ▸ pe_notT ha
theorem k_seq {tg : Expr} (hK : X.K = K) (hl : PE X e tl) : PI X tg e (iSeq K tl) := hK ▸ pi_seq hl
theorem k_bm {T id : String} {r : V → List V → Hp → VK → Prop} {name : Str} (hK : X.K = K) (pa : PlainAttrs T) (slot : Slot T name id) (hty : typeOf (.builtin id) = pure (.type "method_descriptor")) (hm : MtR X id r) (ho : PE X o to) (ha : PA X (e :: es) t)
    (hbase : attributeBase o name X.env (eval o X.env) = eval o X.env := by rfl)
    (hfew : ((backTo cpos (starEach (e :: es) X.env)).all (fun x => !x.1) && (backToKw cpos (keywordEach [] X.env)).all (fun x => x.1.isSome)
      && decide ((e :: es).length + ([] : List Keyword).length + (if ([] : List Keyword).isEmpty then 0 else 1) < 30)) = true := by rfl)
    (hline : (apos.endLine == cpos.line) = true := by rfl) (hs : starEach (e :: es) X.env = (false, eval e X.env) :: starEach es X.env := by rfl) (hplain : (backTo cpos (starEach es X.env)).any (·.1) = false := by rfl) :
    PE X (.Call (.Attribute o name apos) (e :: es) [] cpos) (tBM K T r to t) := hK ▸ pe_bm pa slot hty hm ho ha hbase hfew hline hs hplain
end
end Sy
/-! What the laws share: branches, the drawing, the start. -/
namespace Sy
open PySem L2
theorem iteD {c A B : Prop} [Decidable c] (h1 : c → A) (h2 : ¬ c → B) : if decide c = true then A else B := by
  by_cases h : c
  · rw [decide_eq_true h]; exact iteT (h1 h)
  · rw [decide_eq_false h]; exact iteF (h2 h)
theorem iteN {c A B : Prop} [Decidable c] (h1 : ¬ c → A) (h2 : c → B) : if (!decide c) = true then A else B := by
  by_cases h : c
  · rw [decide_eq_true h]; exact iteF (h2 h)
  · rw [decide_eq_false h]; exact iteT (h1 h)
theorem iteB {b : Bool} {A B : Prop} (h1 : b = true → A) (h2 : b = false → B) : if b = true then A else B := by
  cases b with
  | true => exact iteT (h1 rfl)
  | false => exact iteF (h2 rfl)
theorem iteNB {b : Bool} {A B : Prop} (h1 : b = false → A) (h2 : b = true → B) : if (!b) = true then A else B := by
  cases b with
  | true => exact iteF (h2 rfl)
  | false => exact iteT (h1 rfl)
theorem ble {a b : Nat} (h : Nat.ble a b = true := by rfl) : a ≤ b := Nat.le_of_ble_eq_true h
section
variable {K : PySem.W.Frag} {own l r : Own} {P : PD} {d e : Dat}
theorem trk_lst {ds : List Dat} : TrkD own (.lst ds) ds := .inl rfl
theorem trk_ptr {a : Addr} {ds : List Dat} : TrkD (l ++ (a, .lst ds) :: r) (.ptr a) ds := .inr ⟨a, rfl, List.mem_append_right _ List.mem_cons_self⟩
end
/-- numbers with few bits -/
theorem mul_ok {i j : Int} {a b : Nat} (ha : i.natAbs < 2 ^ a) (hb : j.natAbs < 2 ^ b) (h : a + b ≤ 100000000) (h0 : 0 < a := by decide) (h1 : 0 < b := by decide) : IntMulOk i j := by
  have x := PySem.Flt.log2_lt_of h0 ha
  have y := PySem.Flt.log2_lt_of h1 hb
  have bb : ∀ x : Int, Builtin.Int.intBits x ≤ x.natAbs.log2 + 1 := fun x => by
    unfold Builtin.Int.intBits
    split <;> omega
  have h1 := bb i
  have h2 := bb j
  have e : bitsLine = 134217728 := by decide
  unfold IntMulOk
  intro z
  rw [Bool.and_eq_true] at z
  have z2 := z.2
  unfold Builtin.Int.intTooBig at z2
  have z3 := of_decide_eq_true z2
  rw [e] at z3
  omega
theorem mul_ok64 {i j : Int} (ha : i.natAbs < 2 ^ 64) (hb : j.natAbs < 2 ^ 64) : IntMulOk i j := mul_ok ha hb (by decide)
theorem lt_bits {n : Int} {k : Nat} (h : Builtin.Int.intBits n ≤ k) : n.natAbs < 2 ^ (k + 1) := by
  unfold Builtin.Int.intBits at h
  split at h
  · next e => 
    rw [show n.natAbs = 0 by simp_all]
    exact Nat.two_pow_pos _
  · exact Nat.lt_of_lt_of_le (Nat.lt_log2_self) (Nat.pow_le_pow_right (by decide) (by omega))
/-- the script as data -/
theorem law_data {K : PySem.W.Frag} {H : Hp} {a : Addr} {ns : List Int} (hS : SqL K H a (ns.map V.int)) : ∃ F V0 : Hp, Hs K F V0 H [] ∧ Da K (vis F [] H) (.ref a) (.scr (ns.map Dat.int)) := by
  have ev : vis (fun _ => none) [] H = H := by funext b; unfold vis; simp
  refine ⟨fun _ => none, H, ⟨List.nodup_nil, fun p hp => (List.not_mem_nil hp).elim, (by rw [ev]; exact Same.refl _), fun b o e => (nomatch e), fun p hp => (List.not_mem_nil hp).elim⟩, ?_⟩
  rw [ev]
  exact .scr hS (daL_ints ns)
/-- how many bits a number of the script has at most -/
def sB : Nat := 1048577
/-- a law's promise: every script of at most 63 numbers of not too many bits -/
def con_law0 : Con := fun args own P XP => ∃ ns : List Int, args = [.scr (ns.map Dat.int)] ∧ own = [] ∧ ns.length ≤ 63 ∧ (∀ z ∈ ns, z.natAbs < 2 ^ sB) ∧ ∀ o, P (.bl true) o
theorem law_start {K : PySem.W.Frag} {H : Hp} {a : Addr} {ns : List Int} (hl : ns.length ≤ 63) (hb : ∀ z ∈ ns, Builtin.Int.intBits z ≤ 1048576) (hS : SqL K H a (ns.map V.int)) :
    SpG K con_law0 [.ref a] H (fun v _ => v = .bl true) fun _ _ _ => False := by
  obtain ⟨F, V0, hs, hd⟩ := law_data hS
  exact ⟨F, V0, [], [.scr (ns.map Dat.int)], fun d _ => d = .bl true, noX, hs, .cons hd .nil, ⟨ns, rfl, rfl, hl, fun z hz => lt_bits (hb z hz), fun _ => rfl⟩, fun v H' d own' _ _ hv e => by subst e; cases hv; rfl, fun _ _ _ _ _ _ z => z⟩
end Sy
namespace Sy
open PySem L2
/-! numbers of so many bits -/
def Bd (n : Int) (k : Nat) : Prop := n.natAbs < 2 ^ k
theorem Bd.mono {n : Int} {j k : Nat} (h : Bd n j) (e : j ≤ k) : Bd n k := Nat.lt_of_lt_of_le h (Nat.pow_le_pow_right (by decide) e)
theorem Bd.add {a b : Int} {k : Nat} (ha : Bd a k) (hb : Bd b k) : Bd (a + b) (k + 1) := by
  unfold Bd at *
  rw [Nat.pow_succ]
  have := Int.natAbs_add_le a b
  omega
theorem Bd.sub {a b : Int} {k : Nat} (ha : Bd a k) (hb : Bd b k) : Bd (a - b) (k + 1) := by
  unfold Bd at *
  rw [Nat.pow_succ]
  have := Int.natAbs_sub_le a b
  omega
theorem Bd.mul {a b : Int} {j k : Nat} (ha : Bd a j) (hb : Bd b k) : Bd (a * b) (j + k) := wide_lt ha hb
theorem Bd.ok {a b : Int} {j k : Nat} (ha : Bd a j) (hb : Bd b k) (h : j + k ≤ 100000000) (h0 : 0 < j := by decide) (h1 : 0 < k := by decide) : IntMulOk a b := mul_ok ha hb h h0 h1
theorem bd_lit {n : Int} {k : Nat} (h : n.natAbs < 2 ^ k) : Bd n k := h
theorem bd_of {n m : Int} {k : Nat} (h0 : 0 ≤ n) (h : n ≤ m) (hm : Bd m k) : Bd n k := by unfold Bd at *; omega
theorem atI_ok {α : Type} {xs : List α} {i : Int} (h0 : 0 ≤ i) (h1 : i < xs.length) : ∃ z, xs[i.toNat]? = some z ∧ z ∈ xs ∧ atI xs i = some z := by
  have hl : i.toNat < xs.length := by omega
  refine ⟨xs[i.toNat], by simp [hl], List.getElem_mem hl, ?_⟩
  unfold atI ixN
  rw [if_pos h0, if_pos h1]
  simp [hl]
theorem atI_map {α β : Type} {xs : List α} {f : α → β} {i : Int} : atI (xs.map f) i = (atI xs i).map f := by
  unfold atI
  rw [List.length_map]
  cases ixN xs.length i with
  | none => rfl
  | some j => simp
end Sy
namespace Sy
open PySem L2
/-! the drawing -/
def drw (x y m : Int) : Int × Int × Int :=
  if x < m then
    let one := (y * y + 48271 * y + 12345) % 2305843009213693951
    let two := (one * one + 69621 * one + 77) % 618970019642690137449562111
    let x' := m + (two * two + one) % 162259276829213363391578010288127
    (x' % m, x' / m, two)
  else (x % m, x / m, y)
theorem Bd.div {a m : Int} {k : Nat} (h0 : 0 ≤ a) (h1 : 1 ≤ m) (h : Bd a k) : Bd (a / m) k :=
  bd_of (Int.ediv_nonneg h0 (by omega)) (Int.ediv_le_self _ h0) h
theorem drw_ok {x y m : Int} (z : RngOk x y) (h : 1 ≤ m) (hm : Bd m 64) : 0 ≤ (drw x y m).1 ∧ (drw x y m).1 < m ∧ RngOk (drw x y m).2.1 (drw x y m).2.2 := by
  obtain ⟨x0, xb, y0, yb⟩ := z
  unfold drw
  split
  · simp only
    generalize ((y * y + 48271 * y + 12345) % 2305843009213693951) = one
    have t0 := Int.emod_nonneg (one * one + 69621 * one + 77) (show (618970019642690137449562111 : Int) ≠ 0 by decide)
    have t1 := Int.emod_lt_of_pos (one * one + 69621 * one + 77) (show (0 : Int) < 618970019642690137449562111 by decide)
    generalize (one * one + 69621 * one + 77) % 618970019642690137449562111 = two at t0 t1
    have u0 := Int.emod_nonneg (two * two + one) (show (162259276829213363391578010288127 : Int) ≠ 0 by decide)
    have u1 := Int.emod_lt_of_pos (two * two + one) (show (0 : Int) < 162259276829213363391578010288127 by decide)
    generalize (two * two + one) % 162259276829213363391578010288127 = u at u0 u1
    refine ⟨Int.emod_nonneg _ (by omega), Int.emod_lt_of_pos _ (by omega), Int.ediv_nonneg (by omega) (by omega), ?_, t0, ?_⟩
    · refine Bd.div (by omega) h (Bd.mono (k := rB) (j := 120) ?_ (by decide))
      unfold Bd at *
      omega
    · refine Bd.mono (j := 120) (k := rB) ?_ (by decide)
      unfold Bd
      omega
  · exact ⟨Int.emod_nonneg _ (by omega), Int.emod_lt_of_pos _ (by omega), Int.ediv_nonneg x0 (by omega), Bd.div x0 h xb, y0, yb⟩
end Sy
/-! Texts, loops: what proofs of laws ask often. -/
namespace Sy
open PySem L2
/-! ### texts by their codes -/
def codes (z : Str) : List Nat := z.cps.toList
theorem codes_inj {a b : Str} (h : codes a = codes b) : a = b := by
  cases a; cases b
  unfold codes at h
  simp only [Str.mk.injEq]
  exact Array.toList_inj.mp h
theorem codes_len (z : Str) : (codes z).length = z.length := by unfold codes Str.length; simp
theorem starts_iff {x y : Str} : Txt.startswith x y = true ↔ codes y <+: codes x := by
  unfold Txt.startswith Builtin.Str.subAt
  rw [Bool.and_eq_true, decide_eq_true_eq, beq_iff_eq]
  constructor
  · rintro ⟨h1, h2⟩
    have : codes y = (codes x).take y.length := by
      unfold codes
      rw [← h2]
      simp
    rw [this]
    exact List.take_prefix _ _
  · intro h
    have hl := h.length_le
    rw [codes_len, codes_len] at hl
    refine ⟨by omega, ?_⟩
    apply Array.toList_inj.mp
    have e := List.prefix_iff_eq_take.mp h
    rw [codes_len] at e
    unfold codes at e
    rw [e]
    simp
theorem cut_iff {x y : Str} : cutS x none (some (y.length : Int)) = y ↔ codes y <+: codes x := by
  have e : codes (cutS x none (some (y.length : Int))) = (codes x).take (min y.length x.length) := by
    unfold cutS codes
    rw [HT.sIx_none, HT.sIx_nat]
    simp
  constructor
  · intro h
    rw [h] at e
    rw [e]
    exact List.take_prefix _ _
  · intro h
    apply codes_inj
    have hl := h.length_le
    rw [codes_len, codes_len] at hl
    rw [e, Nat.min_eq_left hl, ← codes_len]
    exact (List.prefix_iff_eq_take.mp h).symm
theorem starts_cut {x y : Str} : Txt.startswith x y = decide (cutS x none (some (y.length : Int)) = y) := by
  rw [Bool.eq_iff_iff, starts_iff, decide_eq_true_eq, cut_iff]
theorem codes_join0 (ys : List Str) : codes (Txt.join Str.empty ys) = (ys.map codes).flatten := by
  rw [TL.join_eq]
  induction ys with
  | nil => rfl
  | cons y ys ih =>
    cases ys with
    | nil => simp [Str.join]
    | cons z zs =>
      have : Str.join Str.empty (y :: z :: zs) = y ++ Str.empty ++ Str.join Str.empty (z :: zs) := rfl
      rw [this, List.map_cons, List.flatten_cons, ← ih]
      show TL.tl _ = TL.tl _ ++ TL.tl _
      rw [TL.tl_append, TL.tl_append]
      show _ ++ [] ++ _ = _
      simp
/-- only signs of the list -/
def Dg (S : List Nat) (z : Str) : Prop := ∀ c ∈ codes z, c ∈ S
theorem Dg.join {S : List Nat} {ys : List Str} (h : ∀ y ∈ ys, Dg S y) : Dg S (Txt.join Str.empty ys) := by
  intro c hc
  rw [codes_join0, List.mem_flatten] at hc
  obtain ⟨l, hl, hc⟩ := hc
  obtain ⟨y, hy, rfl⟩ := List.mem_map.mp hl
  exact h y hy c hc
theorem join_len {ys : List Str} (h : ∀ y ∈ ys, y.length = 1) : (Txt.join Str.empty ys).length = ys.length := by
  rw [← codes_len, codes_join0]
  induction ys with
  | nil => rfl
  | cons y ys ih =>
    rw [List.map_cons, List.flatten_cons, List.length_append, ih fun z hz => h z (List.mem_cons_of_mem _ hz), codes_len, h y List.mem_cons_self, List.length_cons]
    omega
theorem sum_len {ys : List Str} (h : ∀ y ∈ ys, y.length = 1) : (ys.map (·.length)).sum = ys.length := by
  induction ys with
  | nil => rfl
  | cons y ys ih =>
    rw [List.map_cons, List.sum_cons, ih fun z hz => h z (List.mem_cons_of_mem _ hz), h y List.mem_cons_self, List.length_cons]
    omega
theorem strOk_dg {S : List Nat} {z : Str} (h : Dg S z) (hS : ∀ c ∈ S, c < 1114112) : PyData.strOk z = true := by
  unfold PyData.strOk
  rw [Array.all_eq_true]
  intro i hi
  exact decide_eq_true (hS _ (h _ (by unfold codes; simp)))
def dS : List Nat := [48, 49, 50, 51, 52, 53, 54, 55, 56, 57]
/-- one digit as a text -/
theorem digit_str {d : Int} (h0 : 0 ≤ d) (h1 : d < 10) : (codes (Str.ofString (toString d)) = [48 + d.toNat]) := by
  obtain ⟨n, rfl⟩ : ∃ n : Nat, d = n := ⟨d.toNat, by omega⟩
  have : n < 10 := by omega
  rcases n with _ | _ | _ | _ | _ | _ | _ | _ | _ | _ | n
  all_goals first | (exfalso; omega) | decide +kernel
theorem small_log {d : Int} (h0 : 0 ≤ d) (h1 : d < 2 ^ 64) : d.natAbs.log2 < 1920 := by
  have := PySem.Flt.log2_lt_of (n := d.natAbs) (k := 64) (by decide) (by omega)
  omega

/-- digits below m -/
def Dgt (m : Nat) (z : Str) : Prop := ∀ c ∈ codes z, 48 ≤ c ∧ c < 48 + m
theorem Dgt.join {m : Nat} {ys : List Str} (h : ∀ y ∈ ys, Dgt m y) : Dgt m (Txt.join Str.empty ys) := by
  intro c hc
  rw [codes_join0, List.mem_flatten] at hc
  obtain ⟨l, hl, hc⟩ := hc
  obtain ⟨y, hy, rfl⟩ := List.mem_map.mp hl
  exact h y hy c hc
theorem Dgt.ok {m : Nat} {z : Str} (h : Dgt m z) (hm : m ≤ 1000) : PyData.strOk z = true := by
  unfold PyData.strOk
  rw [Array.all_eq_true]
  intro i hi
  exact decide_eq_true (by have := (h _ (show z.cps[i] ∈ codes z by unfold codes; simp)).2; omega)
theorem str_digit {d : Int} {m : Nat} (h0 : 0 ≤ d) (h1 : d < m) (hm : m ≤ 10) : (Str.ofString (toString d)).length = 1 ∧ Dgt m (Str.ofString (toString d)) := by
  have hc := digit_str h0 (by omega)
  refine ⟨by rw [← codes_len, hc]; rfl, fun e he => ?_⟩
  rw [hc, List.mem_singleton] at he
  subst he
  omega

/-! ### loops -/
section
variable {K : PySem.W.Frag} {own : Own} {sl : SL} {te : TE} {R : List Dat → (Own → Prop) → Own → Prop}
theorem ix_s (h : EX K te sl own fun d o => ∃ ds, (d = .lst ds ∨ d = .scr ds ∨ d = .tup ds) ∧ R ds anyO o) : IX K (iSeq K te) sl own R :=
  ix_seq' (ex_mono h fun d o ⟨ds, h1, h2⟩ => ⟨ds, anyO, h2, .inl ⟨h1, rfl⟩⟩)
theorem ix_p (h : EX K te sl own fun d o => ∃ a ds, d = .ptr a ∧ (a, Cell.lst ds) ∈ o ∧ R ds (fun o => (a, Cell.lst ds) ∈ o) o) : IX K (iSeq K te) sl own R :=
  ix_seq' (ex_mono h fun d o ⟨a, ds, h1, h2, h3⟩ => ⟨ds, _, h3, .inr ⟨a, h1, h2, rfl⟩⟩)
end
theorem rng_at {n : Nat} {i : Nat} {x : Dat} (h : ((List.range n).map fun i => Dat.int (i : Nat))[i]? = some x) : i < n ∧ x = .int (i : Nat) := by
  rw [List.getElem?_map] at h
  by_cases hi : i < n
  · simp [hi] at h; exact ⟨hi, h.symm⟩
  · simp [hi] at h
theorem rng2_at {a : Int} {n : Nat} {i : Nat} {x : Dat} (h : ((List.range n).map fun i => Dat.int (a + (i : Nat)))[i]? = some x) : i < n ∧ x = .int (a + (i : Nat)) := by
  rw [List.getElem?_map] at h
  by_cases hi : i < n
  · simp [hi] at h; exact ⟨hi, h.symm⟩
  · simp [hi] at h
theorem map_at {α β : Type} {f : α → β} {xs : List α} {i : Nat} {x : β} (h : (xs.map f)[i]? = some x) : ∃ a, xs[i]? = some a ∧ x = f a := by
  rw [List.getElem?_map] at h
  obtain ⟨a, h1, h2⟩ := Option.map_eq_some_iff.mp h
  exact ⟨a, h1, h2.symm⟩
/-- the drawing's state among the cells -/
def Rg (s : Addr) (own : Own) : Prop := ∃ l r, own = l ++ (s, Cell.rng) :: r
theorem Rg.c {s : Addr} {own : Own} {p : Addr × Cell} (h : Rg s own) : Rg s (p :: own) := by
  obtain ⟨l, r, rfl⟩ := h
  exact ⟨p :: l, r, rfl⟩
theorem rg0 {s : Addr} {own : Own} : Rg s ((s, Cell.rng) :: own) := ⟨[], own, rfl⟩
section
variable {own : Own} {Q : Bool → Prop}
theorem tru_bl {k : Bool} (p : Q k) : ∃ b, TruD own (.bl k) b ∧ Q b := ⟨k, rfl, p⟩
theorem tru_non (p : Q false) : ∃ b, TruD own .non b ∧ Q b := ⟨false, rfl, p⟩
theorem tru_int {i : Int} (p : Q (i != 0)) : ∃ b, TruD own (.int i) b ∧ Q b := ⟨_, rfl, p⟩
theorem tru_lst {ds : List Dat} (p : Q (!ds.isEmpty)) : ∃ b, TruD own (.lst ds) b ∧ Q b := ⟨_, rfl, p⟩
theorem tru_tup {ds : List Dat} (p : Q (!ds.isEmpty)) : ∃ b, TruD own (.tup ds) b ∧ Q b := ⟨_, rfl, p⟩
end
theorem dv_lit {i j : Int} (h : 0 < j) (h2 : j.natAbs.log2 < 9000) : CDivW i j := ⟨h, h2⟩
section
variable {K : PySem.W.Frag} {own : Own} {P : PD} {b : Bool} {i : Int} {z : Str} {ds : List Dat} {ns : List Str} {a C : Addr}
theorem isn_non (p : P (.bl true) own) : R2X K rIsN' .non .non own P := is_non p
theorem isn_bl (p : P (.bl false) own) : R2X K rIsN' (.bl b) .non own P := is_non p
theorem isn_int (p : P (.bl false) own) : R2X K rIsN' (.int i) .non own P := is_non p
theorem isn_str (p : P (.bl false) own) : R2X K rIsN' (.str z) .non own P := is_non p
theorem isn_tup (p : P (.bl false) own) : R2X K rIsN' (.tup ds) .non own P := is_non p
theorem isn_lst (p : P (.bl false) own) : R2X K rIsN' (.lst ds) .non own P := is_non p
theorem isn_obj (p : P (.bl false) own) : R2X K rIsN' (.obj C ns ds) .non own P := is_non p
theorem isn_ptr (p : P (.bl false) own) : R2X K rIsN' (.ptr a) .non own P := is_non p
theorem ntn_non (p : P (.bl false) own) : R2X K rNotN' .non .non own P := not_non p
theorem ntn_bl (p : P (.bl true) own) : R2X K rNotN' (.bl b) .non own P := not_non p
theorem ntn_int (p : P (.bl true) own) : R2X K rNotN' (.int i) .non own P := not_non p
theorem ntn_str (p : P (.bl true) own) : R2X K rNotN' (.str z) .non own P := not_non p
theorem ntn_tup (p : P (.bl true) own) : R2X K rNotN' (.tup ds) .non own P := not_non p
theorem ntn_lst (p : P (.bl true) own) : R2X K rNotN' (.lst ds) .non own P := not_non p
theorem ntn_obj (p : P (.bl true) own) : R2X K rNotN' (.obj C ns ds) .non own P := not_non p
theorem ntn_ptr (p : P (.bl true) own) : R2X K rNotN' (.ptr a) .non own P := not_non p
end
section
variable {K : PySem.W.Frag} {own l r : Own} {P : PD} {d e : Dat} {ds : List Dat} {ns : List Str} {a C : Addr} {f : Str} {i : Nat} {N : Own → Prop}
theorem fgE (h1 : ObjD own d C ns ds) (h2 : Cls K C) (h3 : NoAttr K C f) (h4 : fidx ns f = some i) (h5 : ds[i]? = some e) (p : P e own) : FgW K f d own P := ⟨C, ns, ds, i, e, h1, h2, h3, h4, h5, p⟩
theorem fsN (h0 : own = l ++ (a, Cell.ins C ns ds) :: r) (h2 : Cls K C) (h3 : NoAttr K C f) (h5 : ns.length < 1000) (h4 : fidx ns f = none) (p : N (l ++ (a, .ins C (ns ++ [f]) (ds ++ [e])) :: r)) : FldW K f (.ptr a) e own N :=
  ⟨a, C, ns, ds, l, r, rfl, h0, h2, h3, h5, .inl ⟨h4, p⟩⟩
theorem fsS (h0 : own = l ++ (a, Cell.ins C ns ds) :: r) (h2 : Cls K C) (h3 : NoAttr K C f) (h5 : ns.length < 1000) (h4 : fidx ns f = some i) (p : N (l ++ (a, .ins C ns (ds.set i e)) :: r)) : FldW K f (.ptr a) e own N :=
  ⟨a, C, ns, ds, l, r, rfl, h0, h2, h3, h5, .inr ⟨i, h4, p⟩⟩
theorem odO (h : d = .obj C ns ds) : ObjD own d C ns ds := .inl h
theorem odP (h : d = .ptr a) (hm : (a, Cell.ins C ns ds) ∈ own) : ObjD own d C ns ds := .inr ⟨a, h, hm⟩
end
theorem nd_inj {α β : Type} {f : α → β} : ∀ {l : List α}, (l.map f).Nodup → ∀ a ∈ l, ∀ b ∈ l, f a = f b → a = b
  | [], _, a, h, _, _, _ => (List.not_mem_nil h).elim
  | x :: l, nd, a, ha, b, hb, e => by
    rw [List.map_cons] at nd
    obtain ⟨n1, n2⟩ := List.nodup_cons.mp nd
    rcases List.mem_cons.mp ha with e1 | ha1
    · rcases List.mem_cons.mp hb with e2 | hb1
      · rw [e1, e2]
      · exact (n1 (List.mem_map.mpr ⟨b, hb1, by rw [← e, e1]⟩)).elim
    · rcases List.mem_cons.mp hb with e2 | hb1
      · exact (n1 (List.mem_map.mpr ⟨a, ha1, by rw [e, e2]⟩)).elim
      · exact nd_inj n2 a ha1 b hb1 e
section
variable {K : PySem.W.Frag} {own : Own} {P : PD} {d e : Dat} {C : Addr} {ns : List Str} {ds : List Dat} {m : Str} {R : Prop}
theorem mtE (h1 : ObjD own d C ns ds) (h2 : fidx ns m = none) (p : R) : ∃ ns ds, ObjD own d C ns ds ∧ fidx ns m = none ∧ R := ⟨ns, ds, h1, h2, p⟩
theorem ne_same {n : Nat} (h : Sh n d) (e1 : d = e) (p : P (.bl false) own) (hn : n ≤ 64 := by decide) : R2X K (uNe K) d e own P := by
  subst e1
  refine ne_dat h h (fun b hb => ?_) hn hn
  rw [hb.mpr rfl]
  exact p
theorem eq_same {n : Nat} (h : Sh n d) (e1 : d = e) (p : P (.bl true) own) (hn : n ≤ 64 := by decide) : R2X K (uEq K) d e own P := by
  subst e1
  refine eq_dat h h (fun b hb => ?_) hn hn
  rw [hb.mpr rfl]
  exact p
end
section
variable {K : PySem.W.Frag} {own l r : Own} {P : PD} {Q : Bool → Prop}
theorem neg_int {i : Int} (p : P (.int (-i)) own) : R1X K (rU fun i => .int (-i)) (.int i) own P := fun F V0 H x hs hx Q q => by
  cases hx
  exact ⟨_, rfl, q _ H _ own hs (Same.refl _) (.int _) p⟩
theorem tru_own {a : Addr} {ds : List Dat} (p : Q (!ds.isEmpty)) : ∃ b, TruD (l ++ (a, .lst ds) :: r) (.ptr a) b ∧ Q b := ⟨_, .inl ⟨ds, List.mem_append_right _ List.mem_cons_self, rfl⟩, p⟩
theorem tru_own0 {a : Addr} {ds : List Dat} (p : Q (!ds.isEmpty)) : ∃ b, TruD ((a, .lst ds) :: r) (.ptr a) b ∧ Q b := tru_own (l := []) p
theorem atI_last {α : Type} {xs : List α} {x : α} : atI (xs ++ [x]) (-1) = some x := by
  unfold atI
  have : ixN (xs ++ [x]).length (-1) = some xs.length := by
    unfold ixN
    simp only [List.length_append, List.length_singleton]
    split
    · omega
    · split
      · congr 1; omega
      · omega
  rw [this]
  simp
theorem ixN_last {n : Nat} : ixN (n + 1) (-1) = some n := by
  unfold ixN
  split
  · omega
  · split
    · congr 1; omega
    · omega
end
section
variable {α : Type} {a b c d e f : α} {xs : List α}
theorem atN {xs : List α} {n : Nat} {a : α} (h : xs[n]? = some a) : atI xs (n : Int) = some a := by
  have hl := (List.getElem?_eq_some_iff.mp h).1
  obtain ⟨z, h1, _, h2⟩ := atI_ok (xs := xs) (i := (n : Int)) (by omega) (by omega)
  rw [h2]
  rw [Int.toNat_natCast, h] at h1
  exact h1.symm
theorem at0 : atI (a :: xs) 0 = some a := atN (n := 0) rfl
theorem at1 : atI (a :: b :: xs) 1 = some b := atN (n := 1) rfl
theorem at2 : atI (a :: b :: c :: xs) 2 = some c := atN (n := 2) rfl
theorem at3 : atI (a :: b :: c :: d :: xs) 3 = some d := atN (n := 3) rfl
theorem at4 : atI (a :: b :: c :: d :: e :: xs) 4 = some e := atN (n := 4) rfl
theorem at5 : atI (a :: b :: c :: d :: e :: f :: xs) 5 = some f := atN (n := 5) rfl
end
theorem iteNt {A B : Prop} (b : B) : if (!true) = true then A else B := b
theorem iteNf {A B : Prop} (a : A) : if (!false) = true then A else B := a
end Sy
/-! dicts with tuple keys, enumerate, index -/
namespace Sy
open PySem L2

section
variable {K : PySem.W.Frag} {F V0 H : Hp} {own l r : Own} {P : PD} {d e : Dat} {x : V} {sl : SL}
/-- the data of a tuple key -/
abbrev keyT (k : List Key) : Dat := .tup (k.map keyD)
theorem daL_keys {W : Hp} : ∀ {k : List Key} {vs : List V}, DaL K W vs (k.map keyD) → vs = k.map kV
  | [], _, .nil => rfl
  | k :: ks, _, .cons h t => by rw [keyD_v h, daL_keys t]; rfl
theorem keyT_v {W : Hp} {k : List Key} {v : V} (h : Da K W v (keyT k)) : ∃ b, v = .ref b ∧ W b = some (.tup (k.map kV)) := by
  cases h with
  | tup ha l => rw [daL_keys l] at ha; exact ⟨_, rfl, ha⟩
/-- an owned dict with tuple keys -/
def DicT (own : Own) (d : Dat) (ks : List (List Key)) (ds : List Dat) : Prop := ∃ a, d = .ptr a ∧ (a, Cell.dT ks ds) ∈ own
theorem DicT.rd {ks : List (List Key)} {ds : List Dat} (h : DicT own d ks ds) (hs : Hs K F V0 H own) (hd : Da K (vis F own H) x d) : ∃ a kvs, x = .ref a ∧ H a = some (.dT kvs) ∧ kvs.map (·.1) = ks ∧ DaL K (vis F own H) (kvs.map (·.2)) ds := by
  obtain ⟨a, rfl, hm⟩ := h
  cases hd
  have c := hs.cell _ hm
  cases c with
  | dT h n u l => exact ⟨_, _, rfl, h, n, l⟩
theorem ix_dcT {k : List Key} {ks : List (List Key)} {ds : List Dat} {i : Nat} (h : DicT own d ks ds) (hi : kix ks k = some i) (he : ds[i]? = some e) (p : P e own) : R2X K (uIx K) d (keyT k) own P := fun F V0 H x y hs hx hy Q q => by
  obtain ⟨a, kvs, rfl, ha, hk, l⟩ := h.rd hs hx
  obtain ⟨b, rfl, hb⟩ := keyT_v hy
  obtain ⟨v, e1, e2⟩ := l.get he
  refine .inr (.inr (.inr ⟨a, v, rfl, .inr ⟨kvs, k, b, .inl ha, rfl, vis_sub _ _ hb, ?_⟩, q _ H _ own hs (Same.refl _) e2 p⟩))
  rw [valV_kix, hk, hi]
  exact e1.symm
theorem in_dicT {neg : Bool} {k : List Key} {ks : List (List Key)} {ds : List Dat} (h : DicT own e ks ds) (p : P (.bl (if neg then !(kix ks k).isSome else (kix ks k).isSome)) own) : R2X K (uIn K neg) (keyT k) e own P := fun F V0 H x y hs hx hy Q q => by
  obtain ⟨a, kvs, rfl, ha, hk, l⟩ := h.rd hs hy
  obtain ⟨b, rfl, hb⟩ := keyT_v hx
  refine .inr (.inl ⟨a, _, rfl, .inr ⟨kvs, k, b, .inl ha, rfl, vis_sub _ _ hb, rfl⟩, ?_⟩)
  rw [valV_isSome, hk]
  exact q _ H _ own hs (Same.refl _) (.bl _) p
theorem set_dcT {a : Addr} {ks : List (List Key)} {ds : List Dat} {k : List Key} {f : Dat} {P : Own → Prop} (hz : ks.length < sizeLine) (p : P (l ++ (a, .dT (kput ks k) (dput ks k ds f)) :: r)) : PtX K uSet (.ptr a) (keyT k) f (l ++ (a, .dT ks ds) :: r) P := fun F V0 H x y z hs hx hy hzz Q q => by
  cases hx
  obtain ⟨b, rfl, hb⟩ := keyT_v hy
  have c := hs.cell _ (List.mem_append_right l List.mem_cons_self)
  cases c with
  | dT h1 n u t =>
    rename_i kws
    obtain ⟨e1, e2⟩ := putK_keys (k := k) hzz (by rw [n]; exact u) t
    rw [n] at e1 e2
    refine .inr ⟨a, _, rfl, .inr ⟨kws, k, b, h1, rfl, vis_sub _ _ hb, by rw [← n, List.length_map] at hz; exact hz, rfl⟩, ?_⟩
    refine q _ (l ++ (a, .dT (kput ks k) (dput ks k ds f)) :: r) (hs.put (.dT upd_same e1 (kput_nd u) e2)) ?_ p
    rw [vis_put (c := .dT ks ds)]; exact Same.refl _
/-! ### enumerate -/
def enumD (ds : List Dat) : List Dat := ds.zipIdx.map fun p => .tup [.int (p.2 : Nat), p.1]
theorem enumD_len (ds : List Dat) : (enumD ds).length = ds.length := by unfold enumD; rw [List.length_map, List.length_zipIdx]
theorem enumD_at {ds : List Dat} {i : Nat} (h : ds[i]? = some d) : (enumD ds)[i]? = some (.tup [.int (i : Nat), d]) := by
  unfold enumD
  rw [List.getElem?_map, List.getElem?_zipIdx, h]
  simp
theorem enum_at {ds : List Dat} {i : Nat} {z : Dat} (h : (enumD ds)[i]? = some z) : ∃ d, ds[i]? = some d ∧ z = .tup [.int (i : Nat), d] := by
  have hl := (List.getElem?_eq_some_iff.mp h).1
  rw [enumD_len] at hl
  have e : ds[i]? = some ds[i] := by simp [hl]
  rw [enumD_at e] at h
  cases h
  exact ⟨_, e, rfl⟩
theorem ix_enum {ta : TA} {R : List Dat → (Own → Prop) → Own → Prop} (h : AX K ta sl own fun zs o => ∃ ds d, zs = [d] ∧ (d = .lst ds ∨ d = .scr ds) ∧ R (enumD ds) anyO o) : IX K (iEnum K ta) sl own R := fun F V0 σ H hs hl Q q => by
  refine h F V0 σ H hs hl _ fun v H1 zs o1 hs1 e1 hd1 ⟨ds, d, ez, hz, p⟩ => ?_
  subst ez
  cases hd1 with
  | cons hd t =>
    rename_i x xs
    cases t
    have main : ∀ a xs, x = .ref a → SqL K (vis F o1 H1) a xs → DaL K (vis F o1 H1) xs ds → ∃ a xs, [x] = [V.ref a] ∧ SqL K H1 a xs ∧ Q (Ite K a) H1 := fun a xs e sq dl => by
      subst e
      refine ⟨a, xs, rfl, sq_l vis_sub sq, q _ H1 o1 (enumD ds) anyO hs1 e1 ⟨_, _, (by rw [enumD_len, ← dl.length]; exact walk_enum), fun F H own hs _ => sq_l (hs.mo.trans vis_sub) sq, fun F i H x H' own hi hs _ y => ?_⟩ p⟩
      obtain ⟨T, y1, y2, rfl, hT, rfl, h1, h2⟩ := y
      cases h1
      obtain ⟨d, e1, e2⟩ := dl.getV h2
      have g := vis_grow hs (same_new (o := HO.tup [.int (i : Nat), y2]) hT)
      exact ⟨same_new hT, _, enumD_at e1, .tup (vis_at hs hT) (.cons (.int _) (.cons ((e2.mono hs.mo).mono g) .nil))⟩
    rcases hz with rfl | rfl
    · cases hd with
      | lst ha l => exact main _ _ rfl (.inl (.inl ha)) l
    · cases hd with
      | scr ha l => exact main _ _ rfl ha l
/-! ### t.index(x) of a tuple of texts -/
def rTIdx (K : PySem.W.Frag) : V → List V → Hp → VK → Prop := fun x xs H Q => ∃ p, ∃ ys : List Str, ∃ z j, x = .ref p ∧ xs = [.str z] ∧ SqT K H p (ys.map V.str) ∧ ys[j]? = some z ∧ (∀ m, m < j → ys[m]? ≠ some z) ∧ Q (.int (j : Nat)) H
theorem k_tidx {X : Cx} (hK : X.K = K) : MtR X "tuple.index" (rTIdx K) := hK ▸ mt_tup_index
theorem tidx {ys : List Str} {z : Str} {j : Nat} (h1 : ys[j]? = some z) (h2 : ∀ m, m < j → ys[m]? ≠ some z) (p : P (.int (j : Nat)) own) : RMX K (rTIdx K) (.tup (ys.map Dat.str)) [.str z] own P := fun F V0 H x xs hs hx hl Q q => by
  cases hx with
  | tup ha l =>
    cases hl with
    | cons hz t =>
      cases t; cases hz
      rw [l.strs] at ha
      exact ⟨_, ys, z, j, rfl, rfl, tq vis_sub ha, h1, h2, q _ H _ own hs (Same.refl _) (.int _) p⟩
end
end Sy
set_option maxHeartbeats 400000
namespace Sy
open PySem L2
/-! ### max(xs, default=d) of ints -/
section
variable {prog : Program} {w : World} {A : Around} {R : Result → Shared → Prop} {i0 : Addr} {fs ws : List Addr} {n : Nat} {P : Nat → Value → Prop} {St : Nat → Heap → Prop}
abbrev mxCell (xs : Array Value) (c : Nat) : Obj := { cls := .type "list", dict := none, data := .seq xs c, slots := #[] }
theorem mx_name : (toString "max" ++ toString ".loop" : String) = "max.loop" := by decide
theorem mx_more (wk : Walks prog w A.in1 i0 fs ws n P St) {bt : Nat → Nat → Bool} (cm : CmpOf prog w A.in1 .Gt P bt) {b : Addr} (nb : b ∉ fs) (kw : List (Str × Value)) :
    ∀ (m j : Nat) (s : Shared) (v : Value) (c : Nat), n = j + 1 + m → St (j + 1) s.heap → P (argBest bt j) v → s.heap.get? b = some (mxCell #[v, v] c) →
    (∀ u h' tk, P (argBest bt (n - 1)) u → (∀ a o, a ∉ ws → a ≠ b → s.heap.get? a = some o → h'.get? a = some o) → R (.ok (.ret u)) { s with heap := h', toks := tk }) →
    codeAny (model prog w) A (.builtin "max.loop" ⟨[.ref i0, .none, .ref b], kw⟩) R s := by
  have nw : b ∉ ws := fun z => nb (wk.sub _ z)
  intro m
  induction m with
  | zero =>
    intro j s v c e st pv hb k
    have e1 : n = j + 1 := e
    refine codeAny_builtin F.entry_max_loop (by
      rw [Around.under_plainId F.plain_max_loop _]
      show wpAny _ A.in1 (seqItems? (.ref b) >>= _) _ _ s
      refine wpAny_bind (wpAny_seqItems hb rfl (show wpAny _ A.in1 (tryCatch (pyNext (.ref i0)) _ >>= _) _ _ s from ?_))
      refine wpAny_bind (wpAny_tryCatch (wk.done s _ _ (e1 ▸ st) fun h1 tk kp => (show wpAny _ A.in1 (updateSeq b (fun _ => #[]) >>= _) _ _ _ from ?_)))
      refine wpAny_bind ?_
      have hb1 := kp b _ nw hb
      refine wpAny_updateSeq hb1 rfl (wpAny_bind (wpAny_letGo (wpAny_pure ?_)))
      exact k v _ tk (by rw [e1]; exact pv) fun a o q1 q2 q3 => (Heap.get?_update_other _ _ (Ne.symm q2)).trans (kp a o q1 q3))
  | succ m ih =>
    intro j s v c e st pv hb k
    have lt : j + 1 < n := by omega
    refine codeAny_builtin F.entry_max_loop (by
      rw [Around.under_plainId F.plain_max_loop _]
      show wpAny _ A.in1 (seqItems? (.ref b) >>= _) _ _ s
      refine wpAny_bind (wpAny_seqItems hb rfl (show wpAny _ A.in1 (tryCatch (pyNext (.ref i0)) _ >>= _) _ _ s from ?_))
      refine wpAny_bind (wpAny_tryCatch (wk.item (j + 1) s _ _ lt st fun u h1 tk pu st1 kp => ?_))
      have hb1 := kp b _ nw hb
      show wpAny _ A.in1 (tryCatch (holding [u, u] (richCompare .Gt u v >>= _)) _ >>= _) _ _ _
      refine wpAny_bind (wpAny_tryCatch (wpAny_holding (wpAny_bind (cm (j + 1) (argBest bt j) u v _ _ _ pu pv ?_))))
      refine wpAny_bind (wpAny_holding (wpAny_truthy_bool ?_))
      refine wpAny_bind (wpAny_letGo (wpAny_pure ?_))
      by_cases z : bt (j + 1) (argBest bt j) = true
      · rw [z]
        simp only [if_true]
        refine wpAny_bind ?_
        refine wpAny_updateSeq hb1 rfl (wpAny_bind (wpAny_letGo ?_))
        rw [mx_name]
        refine wpAny_pure ⟨plainId_quiet F.plain_max_loop _, ih (j + 1) _ u _ (by omega) (wk.frame _ _ _ st1 fun a q o q2 => (Heap.get?_update_other _ _ (fun y : b = a => nb (y ▸ q))).trans q2) (by rw [argBest, if_pos z]; exact pu) (Heap.get?_update_self _ hb1 rfl) fun x h2 tk2 px k2 => ?_⟩
        exact k x h2 tk2 px fun a o q1 q2 q3 => k2 a o q1 q2 ((Heap.get?_update_other _ _ (Ne.symm q2)).trans (kp a o q1 q3))
      · rw [Bool.not_eq_true] at z
        rw [z]
        simp only [Bool.false_eq_true, if_false]
        refine wpAny_bind (wpAny_letGo ?_)
        rw [mx_name]
        refine wpAny_pure ⟨plainId_quiet F.plain_max_loop _, ih (j + 1) _ v c (by omega) st1 (by rw [argBest, z]; exact pv) hb1 fun x h2 tk2 px k2 => ?_⟩
        exact k x h2 tk2 px fun a o q1 q2 q3 => k2 a o q1 q2 (kp a o q1 q3))
theorem mx_first (wk : Walks prog w A.in1 i0 fs ws n P St) {bt : Nat → Nat → Bool} (cm : CmpOf prog w A.in1 .Gt P bt) {b : Addr} (nb : b ∉ fs) (d : Value) {s : Shared} {c : Nat} (st : St 0 s.heap) (hb : s.heap.get? b = some (mxCell #[] c))
    (k0 : n = 0 → ∀ h' tk, (∀ a o, a ∉ ws → a ≠ b → s.heap.get? a = some o → h'.get? a = some o) → R (.ok (.ret d)) { s with heap := h', toks := tk })
    (k : 0 < n → ∀ u h' tk, P (argBest bt (n - 1)) u → (∀ a o, a ∉ ws → a ≠ b → s.heap.get? a = some o → h'.get? a = some o) → R (.ok (.ret u)) { s with heap := h', toks := tk }) :
    codeAny (model prog w) A (.builtin "max.loop" ⟨[.ref i0, .none, .ref b], [(Str.ofString "default", d)]⟩) R s := by
  have nw : b ∉ ws := fun z => nb (wk.sub _ z)
  refine codeAny_builtin F.entry_max_loop (by
    rw [Around.under_plainId F.plain_max_loop _]
    show wpAny _ A.in1 (seqItems? (.ref b) >>= _) _ _ s
    refine wpAny_bind (wpAny_seqItems hb rfl (show wpAny _ A.in1 (tryCatch (pyNext (.ref i0)) _ >>= _) _ _ s from ?_))
    rcases Nat.eq_zero_or_pos n with z | z
    · refine wpAny_bind (wpAny_tryCatch (wk.done s _ _ (z ▸ st) fun h1 tk kp => ?_))
      refine wpAny_bind (wpAny_rule (wpAny_pure ?_))
      exact k0 z h1 tk fun a o q1 _ q3 => kp a o q1 q3
    · refine wpAny_bind (wpAny_tryCatch (wk.item 0 s _ _ z st fun u h1 tk pu st1 kp => ?_))
      have hb1 := kp b _ nw hb
      show wpAny _ A.in1 (updateSeq b (fun _ => #[u, u]) >>= _) _ _ _
      refine wpAny_bind ?_
      refine wpAny_updateSeq hb1 rfl ?_
      rw [mx_name]
      refine wpAny_pure ⟨plainId_quiet F.plain_max_loop _, mx_more wk cm nb _ (n - 1) 0 _ u _ (by omega) (wk.frame _ _ _ st1 fun a q o q2 => (Heap.get?_update_other _ _ (fun y : b = a => nb (y ▸ q))).trans q2) pu (Heap.get?_update_self _ hb1 rfl) fun x h2 tk2 px k2 => ?_⟩
      exact k z x h2 tk2 px fun a o q1 q2 q3 => k2 a o q1 q2 ((Heap.get?_update_other _ _ (Ne.symm q2)).trans (kp a o q1 q3)))
theorem args_mxd (a d : Value) : argsOk "max" ⟨[a], [(Str.ofString "default", d)]⟩ := by unfold argsOk; kernel_rfl
end
section
variable {prog : Program} {w : World} {A : Around} {E : Value → Shared → Prop} {s : Shared}
theorem call_tree_kw {id : String} {f : Builtin} {xs : List Value} {kw : List (Str × Value)} {Q : Value → Shared → Prop} (k1 : builtinKind id = none) (k2 : plainId id = true) (k3 : entryFor table id = some f) (k4 : argsOk id ⟨xs, kw⟩)
    (h : wpAny (model prog w) A.in1 (f ⟨xs, kw⟩) (fun fin s' => match fin with
      | .done f => (match (Except.ok f : Result) with | .ok (.ret v) => Q v s' | .ok _ => False | .error e => E e s')
      | .again c => c.quiet = true ∧ codeAny (model prog w) A c (fun r s' => match r with | .ok (.ret v) => Q v s' | .ok _ => False | .error e => E e s') s') E s) : wpAny (model prog w) A (call (.builtin id) xs kw) Q E s := by
  refine wpAny_call (codeAny_call_builtin k2 k3 (by
    simp only [checkBuiltinCall, k1]
    cases e : Manifest.signature? id with
    | none => exact wpAny_pure h
    | some sg =>
      have k5 : Bind.checkArgs id sg ⟨xs, kw⟩ = pure () := by simpa only [argsOk, e] using k4
      show wpAny _ A.in1 (Bind.checkArgs id sg ⟨xs, kw⟩) _ _ s
      rw [k5]; exact wpAny_pure h))
theorem call_mxd {x d : Value} {Q : Value → Shared → Prop}
    (h : wpAny (model prog w) A.in1 (pyIter x) (fun it s2 => ∃ i0 fs ws n P St bt, it = .ref i0 ∧ Walks prog w A.in1 i0 fs ws n P St ∧ St 0 s2.heap ∧ (∀ b ∈ fs, b < s2.heap.objs.size) ∧ CmpOf prog w A.in1 .Gt P bt ∧
      (n = 0 → ∀ h' tk, (∀ b o, b ∉ ws → s2.heap.get? b = some o → h'.get? b = some o) → Q d { s2 with heap := h', toks := tk }) ∧
      (0 < n → ∀ v h' tk, P (argBest bt (n - 1)) v → (∀ b o, b ∉ ws → s2.heap.get? b = some o → h'.get? b = some o) → Q v { s2 with heap := h', toks := tk })) E s) :
    wpAny (model prog w) A (call (.builtin "max") [x] [(Str.ofString "default", d)]) Q E s := by
  refine call_tree_kw F.kind_max F.plain_max F.entry_max (args_mxd _ _) (by
    show wpAny _ A.in1 (Builtin.Builtins.bindParams "max" ["key", "default"] 0 ⟨[], [(Str.ofString "default", d)]⟩ >>= _) _ _ s
    refine wpAny_bind (wpAny_of_eq (show Builtin.Builtins.bindParams "max" ["key", "default"] 0 ⟨[], [(Str.ofString "default", d)]⟩ = pure [none, some d] from rfl) (wpAny_bind (wpAny_pure ?_)))
    refine wpAny_bind (wpAny_mono h (fun it s2 h2 => ?_) fun _ _ e => e)
    obtain ⟨i0, fs, ws, n, P, St, bt, rfl, wk, st, lt, cm, q0, q1⟩ := h2
    refine wpAny_bind (wpAny_newObj_type ?_)
    have nb : s2.heap.objs.size ∉ fs := fun z => Nat.lt_irrefl _ (lt _ z)
    rw [mx_name]
    refine wpAny_pure ⟨plainId_quiet F.plain_max_loop _, mx_first wk cm nb d (wk.frame _ _ _ st fun b _ o e => Heap.get?_push_of_some _ e) (Heap.get?_push_size _ rfl) (fun z h' tk kp => ?_) fun z v h' tk pv kp => ?_⟩
    · exact q0 z h' tk fun b o nw e => kp b o nw (Nat.ne_of_lt (Heap.lt_size e)) (Heap.get?_push_of_some _ e)
    · exact q1 z v h' tk pv fun b o nw e => kp b o nw (Nat.ne_of_lt (Heap.lt_size e)) (Heap.get?_push_of_some _ e))
end
section
variable {prog : Program} {w : World} {A : Around} {E : Value → Shared → Prop} {s : Shared} {its : List Value} {ns : List Int}
theorem mxd_ints {a : Addr} {d : Value} {Q : Value → Shared → Prop} (hh : A.handled = none) (hl : s.heap.IsList a its.toArray) (hi : PyProof.Rows.IntsAre its ns)
    (q0 : ns = [] → ∀ h' tk, (∀ b o, s.heap.get? b = some o → h'.get? b = some o) → Q d { s with heap := h', toks := tk })
    (q1 : ∀ h' tk m t', (∀ b o, s.heap.get? b = some o → h'.get? b = some o) → m ∈ ns → (∀ y, y ∈ ns → y ≤ m) → Q (.int m t') { s with heap := h', toks := tk }) :
    wpAny (model prog w) A (call (.builtin "max") [.ref a] [(Str.ofString "default", d)]) Q E s := by
  obtain ⟨xs, e⟩ := hi.allInts.items
  have hn : numsOf (intItems xs).toList = ns := by rw [← e]; exact hi.numsOf
  rw [nums_intItems] at hn
  subst hn
  rw [e] at hl
  refine call_mxd (iter_intList hl fun s2 e2 st lt l2 => ?_)
  subst e2
  refine ⟨_, _, _, _, _, _, _, rfl, Walks.list (A := A.in1) hh _ a l2 (intItems xs), st, lt, CmpOf.ints_gt (numAt xs) (fun _ _ => intItems_at), fun z h' tk kp => ?_, fun z v h' tk pv kp => ?_⟩
  · have hz : xs.size = 0 := by simpa [intItems] using z
    exact q0 (by have : xs.toList = [] := List.eq_nil_of_length_eq_zero (by simpa using hz); rw [this]; rfl) h' tk (old_kept kp)
  · have hz : 0 < xs.size := by simpa [intItems] using z
    have hv : (intItems xs)[argBest (fun i j => decide (numAt xs i > numAt xs j)) (xs.size - 1)]? = some v := by simpa [intItems] using pv
    obtain ⟨t, rfl⟩ := intItems_at hv
    obtain ⟨g1, g2⟩ := argBest_gt (numAt xs) (xs.size - 1)
    refine q1 h' tk _ t (old_kept kp) ?_ fun y hy => ?_
    · rw [numAt_eq]; exact PySem.getD_mem (by rw [List.length_map, Array.length_toList]; omega)
    · obtain ⟨j, hj, rfl⟩ := mem_getD hy
      rw [List.length_map, Array.length_toList] at hj
      rw [← numAt_eq]; exact g2 j (by omega)
end
section
variable {X : Cx} {K : PySem.W.Frag}
def rMaxD (K : PySem.W.Frag) : List V → List V → Hp → VK → Prop := fun vs zs H Q => ∃ (a : Addr) (ns : List Int) (d : Int), vs = [V.ref a] ∧ zs = [.int d] ∧ SqL K H a (ns.map V.int) ∧ (ns = [] → Q (.int d) H) ∧ ∀ m, m ∈ ns → (∀ y, y ∈ ns → y ≤ m) → Q (.int m) H
theorem cr_maxd (hc : X.calm = true) : CallRK X (.builtin "max") [Str.ofString "default"] (rMaxD X.K) := by
  intro pins s σ H vs zs us ws Q I r rz h
  obtain ⟨a, ns, d, rfl, rfl, hs, q0, q1⟩ := h
  obtain ⟨its, rv, hl, _⟩ := I.list hs
  rw [Vals.ref1 r]
  obtain ⟨w1, rfl, e1⟩ := vals1 rz
  obtain ⟨t, rfl⟩ := e1
  exact mxd_ints (I.ok.hd hc) hl.isList rv.ints (fun e h' tk kp => ⟨.int d, H, I.kept kp, ⟨_, rfl⟩, q0 e⟩) fun h' tk m t' kp h1 h2 => ⟨.int _, H, I.kept kp, ⟨_, rfl⟩, q1 m h1 h2⟩
theorem k_maxd (hK : X.K = K) (hc : X.calm = true) : CallRK X (.builtin "max") [Str.ofString "default"] (rMaxD K) := hK ▸ cr_maxd hc
end
section
variable {K : PySem.W.Frag} {own : Own} {P : PD} {d : Dat} {sl : SL}
/-- a call with keywords, by data -/
def RKX (K : PySem.W.Frag) (r : List V → List V → Hp → VK → Prop) (ds es : List Dat) (own : Own) (P : PD) : Prop := ∀ (F V0 H : Hp) (xs zs : List V), Hs K F V0 H own → DaL K (vis F own H) xs ds → DaL K (vis F own H) zs es →
  ∀ Q : VK, (∀ v H' e o2, Hs K F V0 H' o2 → Same (vis F own H) (vis F o2 H') → Da K (vis F o2 H') v e → P e o2 → Q v H') → r xs zs H Q
theorem ex_ckw {r : List V → List V → Hp → VK → Prop} {t tk : TA} (h : AX K t sl own fun ds o => AX K tk sl o fun es o2 => RKX K r ds es o2 P) : EX K (tCKw r t tk) sl own P := fun F V0 σ H hs hl Q q => by
  refine h F V0 σ H hs hl _ fun xs H1 ds o1 hs1 e1 hd1 h1 => ?_
  refine h1 F V0 σ H1 hs1 (hl.mono e1) _ fun zs H2 es o2 hs2 e2 hd2 h2 => ?_
  exact h2 F V0 H2 xs zs hs2 (hd1.mono e2) hd2 Q fun v H3 e o3 hs3 e3 hd3 p => q v H3 e o3 hs3 ((e1.trans e2).trans e3) hd3 p
theorem max_def {ns : List Int} {z : Int} (h : LstD own d (ns.map Dat.int)) (p0 : ns = [] → P (.int z) own) (p1 : ∀ m, m ∈ ns → (∀ y, y ∈ ns → y ≤ m) → P (.int m) own) : RKX K (rMaxD K) [d] [.int z] own P := fun F V0 H xs zs hs hx hz Q q => by
  cases hx with
  | cons hd t =>
    cases t
    cases hz with
    | cons hz t =>
      cases t; cases hz
      obtain ⟨a, vs, rfl, ha, l⟩ := h.sq hs hd
      rw [l.ints] at ha
      exact ⟨a, ns, z, rfl, rfl, ha, fun e => q _ H _ own hs (Same.refl _) (.int _) (p0 e), fun m h1 h2 => q _ H _ own hs (Same.refl _) (.int _) (p1 m h1 h2)⟩
end
/-! ### a method of a tuple that is written out: (a, b, ..).name(e) -/
section
variable {X : Cx} {e : Expr} {es0 es : List Expr} {t0 t : TA} {name : Str} {id : String} {r : V → List V → Hp → VK → Prop} {p0 apos cpos : Pos}
def tTM (r : V → List V → Hp → VK → Prop) (t0 t : TA) : TE := fun σ H Q => t0 σ H fun xs H1 => xs.length ≤ sizeLine ∧ ∀ p, H1 p = none → t σ (upd H1 p (.tup xs)) fun vs H2 => r (.ref p) vs H2 Q
theorem pe_tm {x1} (pa : PlainAttrs "tuple") (slot : Slot "tuple" name id) (hty : typeOf (.builtin id) = pure (.type "method_descriptor")) (hm : MtR X id r) (h0 : PA X es0 t0) (ha : PA X (e :: es) t)
    (hb : attributeBase (.Tuple es0 x1 p0) name X.env (eval (.Tuple es0 x1 p0) X.env) = eval (.Tuple es0 x1 p0) X.env := by rfl)
    (hf : ((backTo cpos (starEach (e :: es) X.env)).all (fun x => !x.1) && (backToKw cpos (keywordEach [] X.env)).all (fun x => x.1.isSome) && decide ((e :: es).length + ([] : List Keyword).length + (if ([] : List Keyword).isEmpty then 0 else 1) < 30)) = true := by rfl)
    (hl : (apos.endLine == cpos.line) = true := by rfl) (hs : starEach (e :: es) X.env = (false, eval e X.env) :: starEach es X.env := by rfl) (hp : (backTo cpos (starEach es X.env)).any (·.1) = false := by rfl) :
    PE X (.Call (.Attribute (.Tuple es0 x1 p0) name apos) (e :: es) [] cpos) (tTM r t0 t) := by
  refine ⟨fun pins s σ H Q I h => wpAny_Call_method_late hb hf hl rfl (wpAny_Tuple_spliced (thn (h0.run p0 pins s σ H _ I h) fun us s1 ⟨xs, H1, I1, r1, z, q⟩ => ⟨by rw [← r1.length]; exact z, ?_⟩))⟩
  have fr : H1 s1.heap.objs.size = none := I1.hok.fresh (Nat.le_refl _)
  have gp : (s1.heap.push ({ cls := .type "tuple", data := .seq us.toArray } : Obj)).get? s1.heap.objs.size = some { cls := .type "tuple", data := .seq us.toArray } := Heap.get?_push_size _ rfl
  have I2 : Inv X pins σ (upd H1 s1.heap.objs.size (.tup xs)) { s1 with heap := s1.heap.push ({ cls := .type "tuple", data := .seq us.toArray } : Obj) } := I1.laid (t' := s1.toks) (fun b u k => Heap.get?_push_of_some _ k) (Nat.le_refl _) ⟨z, us, r1, ⟨_, gp, rfl, _, rfl⟩⟩
  refine ⟨"tuple", id, pa, slot, hty, ?_, fun a k => ?_, ?_⟩
  · exact ⟨_, gp, rfl⟩
  · cases k
    exact ⟨_, gp, rfl⟩
  · have hA := ha.run cpos pins _ σ _ _ I2 (q _ fr)
    rw [hs] at hA ⊢
    refine Calls.callWith_builtin (by show (false || (backTo cpos (starEach es X.env)).any (·.1)) = false; rw [hp] <;> rfl) (Calls.evalArgs_plain ?_)
    exact thn hA fun us2 s2 ⟨vs, H2, I3, r2, q2⟩ => hm pins s2 σ H2 (.ref s1.heap.objs.size) vs _ us2 Q I3 rfl r2 q2
end
section
variable {K : PySem.W.Frag} {own : Own} {P : PD} {sl : SL}
theorem ex_tm {r : V → List V → Hp → VK → Prop} {t0 t : TA} (h : AX K t0 sl own fun ds o => ds.length ≤ sizeLine ∧ AX K t sl o fun es o2 => RMX K r (.tup ds) es o2 P) : EX K (tTM r t0 t) sl own P := fun F V0 σ H hs hl Q q => by
  refine h F V0 σ H hs hl _ fun xs H1 ds o1 hs1 e1 hd1 ⟨hz, h1⟩ => ⟨by rw [hd1.length]; exact hz, fun p hp => ?_⟩
  have g := same_new (o := HO.tup xs) hp
  have g2 := vis_grow hs1 g
  have e2 := e1.trans g2
  refine h1 F V0 σ _ (hs1.grow g) (hl.mono e2) _ fun vs H2 es o2 hs2 e3 hd2 h2 => ?_
  exact h2 F V0 H2 _ vs hs2 ((Da.tup (vis_at hs1 hp) (hd1.mono g2)).mono e3) hd2 Q fun v H3 e o3 hs3 e4 hd3 p => q v H3 e o3 hs3 ((e2.trans e3).trans e4) hd3 p
theorem k_enum {X : Cx} {e : Expr} {ta : TA} {p pos tpos : Pos} {elts : List Expr} {kk : Nat} (hK : X.K = K) (hg : Gl X "enumerate") (hm : X.mg "enumerate" = none) (ha : PA X [e] ta) (hs : starEach [e] X.env = [(false, eval e X.env)] := by rfl) :
    PI X (.Tuple elts kk tpos) (.Call (.Name "enumerate" p) [e] [] pos) (iEnum K ta) := hK ▸ pi_enum hg hm ha hs
end
/-! ### objects behind pointers -/
/-- cells of objects, the newest ahead -/
def cellsG {β : Type} (c : β → Cell) : List Addr → List β → Own
  | a :: as, r :: rs => cellsG c as rs ++ [(a, c r)]
  | _, _ => []
theorem cellsG_snoc {β : Type} (c : β → Cell) : ∀ {as : List Addr} {rs : List β} {a : Addr} {r : β}, as.length = rs.length → cellsG c (as ++ [a]) (rs ++ [r]) = (a, c r) :: cellsG c as rs
  | [], [], a, r, _ => rfl
  | b :: as, s :: rs, a, r, h => by
    show cellsG c (as ++ [a]) (rs ++ [r]) ++ _ = _
    rw [cellsG_snoc c (by simpa using h)]
    rfl
theorem cellsG_at {β : Type} (c : β → Cell) : ∀ {as : List Addr} {rs : List β} {i : Nat} {a : Addr} {r : β}, as.length = rs.length → as[i]? = some a → rs[i]? = some r → ∃ l o, cellsG c as rs = l ++ (a, c r) :: o ∧ ∀ r2, cellsG c as (rs.set i r2) = l ++ (a, c r2) :: o
  | [], _, _, _, _, _, h, _ => by simp at h
  | b :: as, [], _, _, _, h, _, _ => by simp at h
  | b :: as, s :: rs, 0, a, r, _, h1, h2 => by
    simp only [List.getElem?_cons_zero, Option.some.injEq] at h1 h2
    subst h1 h2
    exact ⟨cellsG c as rs, [], rfl, fun r2 => rfl⟩
  | b :: as, s :: rs, i + 1, a, r, h, h1, h2 => by
    obtain ⟨l, o, e1, e2⟩ := cellsG_at c (i := i) (by simpa using h) (by simpa using h1) (by simpa using h2)
    refine ⟨l, o ++ [(b, c s)], ?_, fun r2 => ?_⟩
    · show cellsG c as rs ++ _ = _
      rw [e1]; simp
    · show cellsG c as (rs.set i r2) ++ _ = _
      rw [e2]; simp
theorem cl_app : ∀ {l r : Own}, Cl (l ++ r) r
  | [], r => Cl.refl r
  | p :: l, r => Cl.trans (o1 := l ++ r) (cl_drop (l := []) (p := p) (r := l ++ r)) (cl_app (l := l) (r := r))
theorem iteDt {c A B : Prop} [Decidable c] (h : c) (a : A) : if decide c = true then A else B := by rw [decide_eq_true h]; exact a
theorem iteDf {c A B : Prop} [Decidable c] (h : ¬ c) (b : B) : if decide c = true then A else B := by rw [decide_eq_false h]; exact b
end Sy
namespace Sy
open PySem L2
/-! ### loops and comprehensions by what is left -/
theorem zl {n : Nat} (h : n < 1000000) : n < sizeLine := Nat.lt_of_lt_of_le h ble
theorem zle {n : Nat} (h : n ≤ 1000000) : n ≤ sizeLine := Nat.le_trans h ble
theorem drop_at {α : Type} {ys : List α} {i : Nat} {y : α} (h : ys[i]? = some y) : ys.drop i = y :: ys.drop (i + 1) := by
  obtain ⟨hi, rfl⟩ := List.getElem?_eq_some_iff.mp h
  rw [List.getElem_cons_drop]
theorem split_at {α : Type} {ys : List α} {i : Nat} {y : α} (h : ys[i]? = some y) : ys = ys.take i ++ y :: ys.drop (i + 1) := by
  rw [← drop_at h, List.take_append_drop]
section
variable {K : PySem.W.Frag} {E : XK} {own : Own} {sl : SL} {nx bk ct : SL → Own → Prop} {rt : Dat → Own → Prop} {xp : XD} {P : PD} {ta tv te : TE} {t u : TS} {d : Dat}
theorem ss_forR {α : Type} {wi : TI} {g : TG} (e : α → Dat) (J : List α → SL → Own → Prop) (h : IX K wi sl own fun xs Keep o => ∃ ys : List α, xs = ys.map e ∧ J ys sl o ∧ (∀ r s o, J r s o → Keep o) ∧
    (∀ pre y r sl2 o2, ys = pre ++ y :: r → J (y :: r) sl2 o2 → GX K g anyJ (e y) sl2 o2 fun sl3 o3 => SS K E t sl3 o3 ⟨J r, rt, nx, J r, xp⟩) ∧ ∀ sl2 o2, J [] sl2 o2 → nx sl2 o2) : SS K E (tFor wi g t) sl own ⟨nx, rt, bk, ct, xp⟩ := by
  refine ss_for ?_
  intro F V0 σ H hs hl Q q
  refine h F V0 σ H hs hl Q fun Jt H' o xs Keep a b c ⟨ys, e1, j0, jk, jb, je⟩ => q Jt H' o xs Keep a b c ?_
  subst e1
  refine ⟨fun i sl o => J (ys.drop i) sl o, j0, fun i sl o h => jk _ _ _ h, fun i x sl2 o2 hx hj => ?_, fun sl2 o2 hj => je sl2 o2 ?_⟩
  · obtain ⟨y, hy, rfl⟩ := map_at hx
    have hj2 : J (ys.drop i) sl2 o2 := hj
    rw [drop_at hy] at hj2
    exact jb (ys.take i) y (ys.drop (i + 1)) sl2 o2 (split_at hy) hj2
  · have hj2 : J (ys.drop (ys.map e).length) sl2 o2 := hj
    rwa [List.length_map, List.drop_length] at hj2
theorem ex_lcR {α : Type} {wi : TI} {g : TG} {tt : TT} {vs : List Nat} (e : α → Dat) (J : List α → List Dat → Own → Prop) (h : IX K wi sl own fun xs Keep o => ∃ ys : List α, xs = ys.map e ∧ ys.length < 1000000 ∧ J ys [] o ∧ (∀ r s o, J r s o → Keep o) ∧
    (∀ pre y r acc o2, ys = pre ++ y :: r → J (y :: r) acc o2 → GX K g (· ∈ vs) (e y) (wipeS sl vs) o2 fun sl3 o3 => TX K tt sl3 o3 fun b o4 => if b = true then EX K te sl3 o4 fun z o5 => J r (acc ++ [z]) o5 else J r acc o4) ∧ ∀ acc o2, J [] acc o2 → P (.lst acc) o2) : EX K (tLc wi g tt te vs) sl own P := by
  refine ex_lc ?_
  intro F V0 σ H hs hl Q q
  refine h F V0 σ H hs hl Q fun Jt H' o xs Keep a b c ⟨ys, e1, hz, j0, jk, jb, je⟩ => q Jt H' o xs Keep a b c ?_
  subst e1
  refine ⟨fun i acc o => acc.length ≤ i ∧ J (ys.drop i) acc o, ⟨Nat.le_refl _, j0⟩, fun i sl o h => jk _ _ _ h.2, fun i x acc o2 hx hj => ?_, fun sl2 o2 hj => je sl2 o2 ?_⟩
  · obtain ⟨y, hy, rfl⟩ := map_at hx
    obtain ⟨hj1, hj2⟩ := hj
    have hi := (List.getElem?_eq_some_iff.mp hy).1
    rw [drop_at hy] at hj2
    have k := jb (ys.take i) y (ys.drop (i + 1)) acc o2 (split_at hy) hj2
    intro F2 V2 σ2 H2 x2 hs2 hl2 hd2 Q2 q2
    refine k F2 V2 σ2 H2 x2 hs2 hl2 hd2 Q2 fun σ' H' sl' own' z1 z2 z3 z4 z5 => q2 σ' H' sl' own' z1 z2 z3 z4 ?_
    refine tx_mono z5 fun b o4 p => ?_
    cases b with
    | true => exact iteT (ex_mono (show EX K te sl' o4 _ from p) fun z o5 p => ⟨zl (by omega), by rw [List.length_append]; exact Nat.add_le_add hj1 (Nat.le_refl _), p⟩)
    | false => exact iteF ⟨Nat.le_trans hj1 (Nat.le_succ _), p⟩
  · have hj2 : J (ys.drop (ys.map e).length) sl2 o2 := hj.2
    rwa [List.length_map, List.drop_length] at hj2
/-- [f y for y in ys if c y], nothing changed -/
theorem ex_lcP {α : Type} {wi : TI} {g : TG} {tt : TT} {vs : List Nat} (e f : α → Dat) (c : α → Bool) (h : IX K wi sl own fun xs Keep o => ∃ ys : List α, xs = ys.map e ∧ ys.length < 1000000 ∧ Keep o ∧
    (∀ y ∈ ys, GX K g (· ∈ vs) (e y) (wipeS sl vs) o fun sl3 o3 => TX K tt sl3 o3 fun b o4 => if b = true then EX K te sl3 o4 fun z o5 => c y = true ∧ z = f y ∧ o5 = o else c y = false ∧ o4 = o) ∧ P (.lst ((ys.filter c).map f)) o) : EX K (tLc wi g tt te vs) sl own P := by
  intro F V0 σ H hs hl Q q
  have key : ∀ o1 : Own, IX K wi sl own fun xs Keep o => (∃ ys : List α, xs = ys.map e ∧ ys.length < 1000000 ∧ ∃ J : List α → List Dat → Own → Prop, J ys [] o ∧ (∀ r s o, J r s o → Keep o) ∧
    (∀ pre y r acc o2, ys = pre ++ y :: r → J (y :: r) acc o2 → GX K g (· ∈ vs) (e y) (wipeS sl vs) o2 fun sl3 o3 => TX K tt sl3 o3 fun b o4 => if b = true then EX K te sl3 o4 fun z o5 => J r (acc ++ [z]) o5 else J r acc o4) ∧ ∀ acc o2, J [] acc o2 → P (.lst acc) o2) := by
    intro o1 F V0 σ H hs hl Q q
    refine h F V0 σ H hs hl Q fun Jt H' o xs Keep a b c2 ⟨ys, e1, hz, hk, hb, hp⟩ => q Jt H' o xs Keep a b c2 ?_
    refine ⟨ys, e1, hz, fun r acc o2 => o2 = o ∧ acc ++ (r.filter c).map f = (ys.filter c).map f, ⟨rfl, rfl⟩, fun r s o2 h => h.1 ▸ hk, ?_, ?_⟩
    · rintro pre y r acc o2 hy ⟨rfl, ha⟩
      have k := hb y (by rw [hy]; simp)
      intro F2 V2 σ2 H2 x2 hs2 hl2 hd2 Q2 q2
      refine k F2 V2 σ2 H2 x2 hs2 hl2 hd2 Q2 fun σ' H' sl' own' z1 z2 z3 z4 z5 => q2 σ' H' sl' own' z1 z2 z3 z4 ?_
      refine tx_mono z5 fun b o4 p => ?_
      cases b with
      | true => exact iteT (ex_mono (show EX K te sl' o4 _ from p) fun z o5 ⟨p1, p2, p3⟩ => ⟨p3, by rw [List.filter_cons, if_pos p1, List.map_cons] at ha; rw [p2, List.append_assoc]; exact ha⟩)
      | false =>
        obtain ⟨p1, p2⟩ : c y = false ∧ o4 = o2 := p
        exact iteF ⟨p2, by rw [List.filter_cons, if_neg (by rw [p1]; decide)] at ha; exact ha⟩
    · rintro acc o2 ⟨rfl, ha⟩
      rw [List.filter_nil, List.map_nil, List.append_nil] at ha
      rw [ha]; exact hp
  refine ex_lc (P := P) ?_ F V0 σ H hs hl Q q
  intro F V0 σ H hs hl Q q
  refine key own F V0 σ H hs hl Q fun Jt H' o xs Keep a b c ⟨ys, e1, hz, J, j0, jk, jb, je⟩ => q Jt H' o xs Keep a b c ?_
  subst e1
  refine ⟨fun i acc o => acc.length ≤ i ∧ J (ys.drop i) acc o, ⟨Nat.le_refl _, j0⟩, fun i sl o h => jk _ _ _ h.2, fun i x acc o2 hx hj => ?_, fun sl2 o2 hj => je sl2 o2 ?_⟩
  · obtain ⟨y, hy, rfl⟩ := map_at hx
    obtain ⟨hj1, hj2⟩ := hj
    have hi := (List.getElem?_eq_some_iff.mp hy).1
    rw [drop_at hy] at hj2
    have k := jb (ys.take i) y (ys.drop (i + 1)) acc o2 (split_at hy) hj2
    intro F2 V2 σ2 H2 x2 hs2 hl2 hd2 Q2 q2
    refine k F2 V2 σ2 H2 x2 hs2 hl2 hd2 Q2 fun σ' H' sl' own' z1 z2 z3 z4 z5 => q2 σ' H' sl' own' z1 z2 z3 z4 ?_
    refine tx_mono z5 fun b o4 p => ?_
    cases b with
    | true => exact iteT (ex_mono (show EX K te sl' o4 _ from p) fun z o5 p => ⟨zl (by omega), by rw [List.length_append]; exact Nat.add_le_add hj1 (Nat.le_refl _), p⟩)
    | false => exact iteF ⟨Nat.le_trans hj1 (Nat.le_succ _), p⟩
  · have hj2 : J (ys.drop (ys.map e).length) sl2 o2 := hj.2
    rwa [List.length_map, List.drop_length] at hj2
/-- [f y for y in ys], nothing changed -/
theorem ex_lcM {α : Type} {wi : TI} {g : TG} {vs : List Nat} (e f : α → Dat) (h : IX K wi sl own fun xs Keep o => ∃ ys : List α, xs = ys.map e ∧ ys.length < 1000000 ∧ Keep o ∧
    (∀ y ∈ ys, GX K g (· ∈ vs) (e y) (wipeS sl vs) o fun sl3 o3 => EX K te sl3 o3 fun z o5 => z = f y ∧ o5 = o) ∧ P (.lst (ys.map f)) o) : EX K (tLc wi g tYes te vs) sl own P := by
  refine ex_lcP e f (fun _ => true) ?_
  intro F V0 σ H hs hl Q q
  refine h F V0 σ H hs hl Q fun Jt H' o xs Keep a b c2 ⟨ys, e1, hz, hk, hb, hp⟩ => q Jt H' o xs Keep a b c2 ⟨ys, e1, hz, hk, fun y hy => ?_, by rw [List.filter_eq_self.mpr fun _ _ => rfl]; exact hp⟩
  have k := hb y hy
  intro F2 V2 σ2 H2 x2 hs2 hl2 hd2 Q2 q2
  exact k F2 V2 σ2 H2 x2 hs2 hl2 hd2 Q2 fun σ' H' sl' own' z1 z2 z3 z4 z5 => q2 σ' H' sl' own' z1 z2 z3 z4 (tx_yes (iteT (ex_mono z5 fun z o5 p => ⟨rfl, p⟩)))
end
section
variable {K : PySem.W.Frag} {own : Own} {sl : SL} {P : PD} {te : TE}
/-- [e for .. if ..]: a new list of one's own -/
theorem ex_lcO {wi : TI} {g : TG} {tt : TT} {vs : List Nat} (h : IX K wi sl own fun xs Keep o => ∃ I : Nat → List Dat → Own → Prop, I 0 [] o ∧ (∀ i acc o, I i acc o → Keep o) ∧
    (∀ i x acc o2, xs[i]? = some x → I i acc o2 → GX K g (· ∈ vs) x (wipeS sl vs) o2 fun sl3 o3 => TX K tt sl3 o3 fun b o4 => if b = true then EX K te sl3 o4 fun y o5 => acc.length < sizeLine ∧ I (i + 1) (acc ++ [y]) o5 else I (i + 1) acc o4) ∧
    ∀ acc o2, I xs.length acc o2 → ∀ a, a ∉ o2.map (·.1) → P (.ptr a) ((a, .lst acc) :: o2)) : EX K (tLc wi g tt te vs) sl own P := fun F V0 σ H hs hl Q q => by
  refine h F V0 σ H hs hl _ fun J H1 o1 xs Keep hs1 e1 its ⟨I, i0, ik, ib, ie⟩ => ?_
  obtain ⟨G, Y, w, hG, hY⟩ := its
  intro D hD
  have hf : F D = none := fresh_fr hs1 hD
  have hl1 := hl.mono e1
  have hs2 : Hs K (upd F D (.lst [])) (vis F o1 H1) (upd H1 D (.lst [])) o1 := by
    have a := (hs1.now).new (o := .lst []) hD (c := .lst []) (.lst upd_same .nil)
    exact a.hide upd_same
  refine lc_it w (fun i H => ∃ acc avs own, Hs K (upd F D (.lst avs)) (vis F o1 H1) H own ∧ DaL K (vis (upd F D (.lst avs)) own H) avs acc ∧ I i acc own) ⟨[], [], o1, hs2, .nil, i0⟩ (fun i H _ ⟨acc, avs, o2, a, b, c⟩ => hG _ H o2 a (ik i acc o2 c)) (fun i x H H' hi ⟨acc, avs, o2, a, b, c⟩ y => ?_) (fun H2 ⟨acc, avs, o2, a, b, c⟩ => ?_)
  · obtain ⟨s1, d, hd, hx⟩ := hY _ i H x H' o2 hi a (ik i acc o2 c) y
    have g1 := vis_grow a s1
    refine ib i d acc o2 hd c _ (vis F o1 H1) (wipe σ vs) H' x (a.grow s1) ((hl1.wipe vs).mono (a.mo.trans g1)) hx _ fun σ3 H3 sl3 o3 hs3 e3 hl3 j3 p3 => ?_
    have hb3 := (b.mono g1).mono e3
    refine ⟨?_, ?_⟩
    · have e := wipe_same (σ := σ) (σ' := σ3) (vs := vs) j3.2 (j3.1.trans (wipe_length σ vs))
      rw [e]
    · refine p3 _ (vis F o1 H1) σ3 H3 hs3 hl3 _ fun k H4 o4 hs4 e4 p4 => ?_
      have hb4 := hb3.mono e4
      cases k with
      | true =>
        refine iteT ((show EX K te sl3 o4 _ from p4) _ (vis F o1 H1) σ3 H4 hs4 (hl3.mono e4) _ fun z H5 d5 o5 hs5 e5 hd5 ⟨zl, p5⟩ => ?_)
        obtain ⟨r1, r2⟩ := reframe (o' := .lst (avs ++ [z])) hs5 hf
        refine ⟨avs, hs5.fr D _ upd_same, by rw [b.length]; exact zl, acc ++ [d5], avs ++ [z], o5, r1, ?_, p5⟩
        rw [r2]
        exact (hb4.mono e5).append (.cons hd5 .nil)
      | false => exact iteF ⟨acc, avs, o4, hs4, hb4, p4⟩
  · have hHD : H2 D = some (.lst avs) := a.fr D _ upd_same
    have bk : Hs K F (vis F o1 H1) H2 ((D, .lst acc) :: o2) := a.back hf (.lst hHD b)
    have na : D ∉ o2.map (·.1) := (List.nodup_cons.mp bk.nd).1
    exact q _ H2 (.ptr D) _ (bk.from hs1.mo) (e1.trans bk.mo) (.ptr D) (ie acc o2 c D na)
theorem ex_lcOR {α : Type} {wi : TI} {g : TG} {tt : TT} {vs : List Nat} (e : α → Dat) (J : List α → List Dat → Own → Prop) (h : IX K wi sl own fun xs Keep o => ∃ ys : List α, xs = ys.map e ∧ ys.length < 1000000 ∧ J ys [] o ∧ (∀ r s o, J r s o → Keep o) ∧
    (∀ pre y r acc o2, ys = pre ++ y :: r → J (y :: r) acc o2 → GX K g (· ∈ vs) (e y) (wipeS sl vs) o2 fun sl3 o3 => TX K tt sl3 o3 fun b o4 => if b = true then EX K te sl3 o4 fun z o5 => J r (acc ++ [z]) o5 else J r acc o4) ∧ ∀ acc o2, J [] acc o2 → ∀ a, a ∉ o2.map (·.1) → P (.ptr a) ((a, .lst acc) :: o2)) : EX K (tLc wi g tt te vs) sl own P := by
  refine ex_lcO ?_
  intro F V0 σ H hs hl Q q
  refine h F V0 σ H hs hl Q fun Jt H' o xs Keep a b c ⟨ys, e1, hz, j0, jk, jb, je⟩ => q Jt H' o xs Keep a b c ?_
  subst e1
  refine ⟨fun i acc o => acc.length ≤ i ∧ J (ys.drop i) acc o, ⟨Nat.le_refl _, j0⟩, fun i sl o h => jk _ _ _ h.2, fun i x acc o2 hx hj => ?_, fun sl2 o2 hj => je sl2 o2 ?_⟩
  · obtain ⟨y, hy, rfl⟩ := map_at hx
    obtain ⟨hj1, hj2⟩ := hj
    have hi := (List.getElem?_eq_some_iff.mp hy).1
    rw [drop_at hy] at hj2
    have k := jb (ys.take i) y (ys.drop (i + 1)) acc o2 (split_at hy) hj2
    intro F2 V2 σ2 H2 x2 hs2 hl2 hd2 Q2 q2
    refine k F2 V2 σ2 H2 x2 hs2 hl2 hd2 Q2 fun σ' H' sl' own' z1 z2 z3 z4 z5 => q2 σ' H' sl' own' z1 z2 z3 z4 ?_
    refine tx_mono z5 fun b o4 p => ?_
    cases b with
    | true => exact iteT (ex_mono (show EX K te sl' o4 _ from p) fun z o5 p => ⟨zl (by omega), by rw [List.length_append]; exact Nat.add_le_add hj1 (Nat.le_refl _), p⟩)
    | false => exact iteF ⟨Nat.le_trans hj1 (Nat.le_succ _), p⟩
  · have hj2 : J (ys.drop (ys.map e).length) sl2 o2 := hj.2
    rwa [List.length_map, List.drop_length] at hj2
end
/-! ### cells kept, in any order, others let go -/
inductive Sb : Own → Own → Prop
  | nil (o : Own) : Sb o []
  | refl (o : Own) : Sb o o
  | cons (l : Own) {p : Addr × Cell} {r o2 : Own} : Sb (l ++ r) o2 → Sb (l ++ p :: r) (p :: o2)
  | skip (l : Own) {p : Addr × Cell} {r o2 : Own} : Sb (l ++ r) o2 → Sb (l ++ p :: r) o2
theorem Sb.mem : ∀ {o o2 : Own}, Sb o o2 → ∀ p ∈ o2, p ∈ o
  | _, _, .nil _, p, h => (List.not_mem_nil h).elim
  | _, _, .refl _, p, h => h
  | _, _, .skip l s, p, h => by
    rcases List.mem_append.mp (Sb.mem s p h) with h | h
    · exact List.mem_append_left _ h
    · exact List.mem_append_right _ (List.mem_cons_of_mem _ h)
  | _, _, .cons l s, p, h => by
    rcases List.mem_cons.mp h with rfl | h
    · exact List.mem_append_right _ List.mem_cons_self
    · have := Sb.mem s p h
      rcases List.mem_append.mp this with h | h
      · exact List.mem_append_left _ h
      · exact List.mem_append_right _ (List.mem_cons_of_mem _ h)
theorem Sb.nd : ∀ {o o2 : Own}, Sb o o2 → (o.map (·.1)).Nodup → (o2.map (·.1)).Nodup
  | _, _, .nil _, _ => List.nodup_nil
  | _, _, .refl _, h => h
  | _, _, .skip (p := p) (r := r) (o2 := o2) l s, h => by
    have h2 : ((p :: (l ++ r)).map (·.1)).Nodup := ((List.perm_middle (a := p) (l₁ := l) (l₂ := r)).map (·.1)).nodup_iff.mp h
    rw [List.map_cons] at h2
    exact Sb.nd s (List.nodup_cons.mp h2).2
  | _, _, .cons (p := p) (r := r) (o2 := o2) l s, h => by
    have h2 : ((p :: (l ++ r)).map (·.1)).Nodup := ((List.perm_middle (a := p) (l₁ := l) (l₂ := r)).map (·.1)).nodup_iff.mp h
    rw [List.map_cons] at h2 ⊢
    obtain ⟨n1, n2⟩ := List.nodup_cons.mp h2
    refine List.nodup_cons.mpr ⟨fun z => n1 ?_, Sb.nd s n2⟩
    obtain ⟨q, hq, e⟩ := List.mem_map.mp z
    exact List.mem_map.mpr ⟨q, Sb.mem s q hq, e⟩
theorem cl_sb {o o2 : Own} (s : Sb o o2) : Cl o o2 := fun K F V0 H h => by
  have sub : Same (vis F o H) (vis F o2 H) := fun b u e => by
    unfold vis at e ⊢
    split at e
    · cases e
    · next hm =>
      have hm2 : ¬ ((F b).isSome = true ∨ b ∈ o2.map (·.1)) := fun z => hm (z.imp id fun z => by
        obtain ⟨q, hq, e⟩ := List.mem_map.mp z
        exact List.mem_map.mpr ⟨q, s.mem q hq, e⟩)
      rw [if_neg hm2]
      exact e
  exact ⟨⟨s.nd h.nd, fun p hp => (h.cell p (s.mem p hp)).stay sub rfl, h.mo.trans sub, h.fr, fun p hp => h.out p (s.mem p hp)⟩, sub⟩
theorem cl_mem {o : Own} {p : Addr × Cell} (h : p ∈ o) : Cl o (p :: []) := by
  obtain ⟨l, r, rfl⟩ := List.append_of_mem h
  exact cl_sb (.cons l (.nil _))
/-! ### dicts as functions -/
section
variable {κ β : Type} [DecidableEq κ]
def dget (ks : List κ) (vs : List β) (k : κ) : Option β := (kix ks k).bind fun i => vs[i]?
def dputB (ks : List κ) (k : κ) (vs : List β) (v : β) : List β := match kix ks k with | some i => vs.set i v | none => vs ++ [v]
theorem dput_map {f : β → Dat} {ks : List κ} {k : κ} {vs : List β} {v : β} : dput ks k (vs.map f) (f v) = (dputB ks k vs v).map f := by
  unfold dput dputB
  cases kix ks k with
  | none => simp
  | some i => simp [List.map_set]
theorem dputB_len {ks : List κ} {k : κ} {vs : List β} {v : β} (h : vs.length = ks.length) : (dputB ks k vs v).length = (kput ks k).length := by
  unfold dputB kput
  cases kix ks k with
  | none => simp [h]
  | some i => simp [h]
theorem kput_len {ks : List κ} {k : κ} : (kput ks k).length ≤ ks.length + 1 := by
  unfold kput
  cases kix ks k <;> simp
theorem kix_app {ks : List κ} {k j : κ} : kix (ks ++ [j]) k = match kix ks k with | some i => some i | none => if j = k then some ks.length else none := by
  induction ks with
  | nil =>
    show kix [j] k = _
    unfold kix
    by_cases h : j = k
    · rw [if_pos h]; simp [kix, h]
    · rw [if_neg h]; simp [kix, h]
  | cons n ns ih =>
    rw [List.cons_append]
    unfold kix
    by_cases h : n = k
    · rw [if_pos h, if_pos h]
    · rw [if_neg h, if_neg h, ih]
      cases kix ns k with
      | some i => rfl
      | none =>
        by_cases h2 : j = k
        · simp [h2]
        · simp [h2]
theorem kix_inj {ks : List κ} {k j : κ} {i : Nat} (h1 : kix ks k = some i) (h2 : kix ks j = some i) : k = j := by
  have a := (kix_lt h1).2
  have b := (kix_lt h2).2
  rw [a] at b
  exact Option.some.inj b
theorem dget_put {ks : List κ} {vs : List β} {k j : κ} {v : β} (hl : vs.length = ks.length) : dget (kput ks k) (dputB ks k vs v) j = if j = k then some v else dget ks vs j := by
  unfold dget kput dputB
  cases h : kix ks k with
  | some i =>
    have hi := (kix_lt h).1
    by_cases e : j = k
    · subst e
      rw [if_pos rfl]
      simp only [h, Option.bind_some]
      rw [List.getElem?_set_self (by omega)]
    · rw [if_neg e]
      simp only
      cases h2 : kix ks j with
      | none => rfl
      | some m =>
        simp only [Option.bind_some]
        rw [List.getElem?_set_ne]
        intro z
        subst z
        exact e (kix_inj h2 h)
  | none =>
    simp only
    rw [kix_app]
    by_cases e : j = k
    · subst e
      rw [if_pos rfl, h]
      simp [← hl]
    · rw [if_neg e]
      cases h2 : kix ks j with
      | none =>
        simp only
        rw [if_neg fun z => e z.symm]
        rfl
      | some m =>
        simp only [Option.bind_some]
        have := (kix_lt h2).1
        rw [List.getElem?_append_left (by omega)]
theorem dget_nil {k : κ} : dget ([] : List κ) ([] : List β) k = none := rfl
theorem kix_map {κ' : Type} [DecidableEq κ'] {f : κ → κ'} (hf : ∀ a b, f a = f b → a = b) {k : κ} : ∀ {ks : List κ}, kix (ks.map f) (f k) = kix ks k
  | [] => rfl
  | n :: ns => by
    rw [List.map_cons]
    unfold kix
    by_cases h : n = k
    · rw [if_pos h, if_pos (by rw [h])]
    · rw [if_neg h, if_neg fun z => h (hf _ _ z), kix_map hf]
theorem kput_map {κ' : Type} [DecidableEq κ'] {f : κ → κ'} (hf : ∀ a b, f a = f b → a = b) {k : κ} {ks : List κ} : kput (ks.map f) (f k) = (kput ks k).map f := by
  unfold kput
  rw [kix_map hf]
  cases kix ks k <;> simp
theorem dput_mapK {κ' : Type} [DecidableEq κ'] {f : κ → κ'} (hf : ∀ a b, f a = f b → a = b) {g : β → Dat} {k : κ} {ks : List κ} {vs : List β} {v : β} : dput (ks.map f) (f k) (vs.map g) (g v) = (dputB ks k vs v).map g := by
  rw [← dput_map]
  unfold dput
  rw [kix_map hf]
end
section
variable {α : Type} {a b c d e f g h i j : α} {xs : List α}
theorem at6 : atI (a :: b :: c :: d :: e :: f :: g :: xs) 6 = some g := atN (n := 6) rfl
theorem at7 : atI (a :: b :: c :: d :: e :: f :: g :: h :: xs) 7 = some h := atN (n := 7) rfl
theorem at8 : atI (a :: b :: c :: d :: e :: f :: g :: h :: i :: xs) 8 = some i := atN (n := 8) rfl
theorem at9 : atI (a :: b :: c :: d :: e :: f :: g :: h :: i :: j :: xs) 9 = some j := atN (n := 9) rfl
end
section
variable {K : PySem.W.Frag} {own : Own} {P : PD} {z : Str} {ys : List Str}
theorem strIn0 {neg : Bool} (hz : PyData.strOk z = true) (hy : ∀ y ∈ ys, PyData.strOk y = true) (p : P (.bl (if neg then !decide (z ∈ ys) else decide (z ∈ ys))) own) : R2X K (uIn K neg) (.str z) (.tup (ys.map Dat.str)) own P := by
  refine in_seq (n := 0) (m := 0) (.inr rfl) (.str hz) ?_ fun b hb => ?_
  · exact shL_of fun e he => by obtain ⟨y, h, rfl⟩ := List.mem_map.mp he; exact .str (hy y h)
  · have : b = decide (z ∈ ys) := by
      rw [Bool.eq_iff_iff, hb, decide_eq_true_eq]
      simp
    rw [this]; exact p
theorem strIn (hz : PyData.strOk z = true) (hy : ∀ y ∈ ys, PyData.strOk y = true) (p : P (.bl (decide (z ∈ ys))) own) : R2X K (uIn K false) (.str z) (.tup (ys.map Dat.str)) own P := strIn0 hz hy p
theorem strNi (hz : PyData.strOk z = true) (hy : ∀ y ∈ ys, PyData.strOk y = true) (p : P (.bl (!decide (z ∈ ys))) own) : R2X K (uIn K true) (.str z) (.tup (ys.map Dat.str)) own P := strIn0 hz hy p
end
theorem iteNDt {c A B : Prop} [Decidable c] (h : ¬ c) (a : A) : if (!decide c) = true then A else B := by rw [decide_eq_false h]; exact a
theorem iteNDf {c A B : Prop} [Decidable c] (h : c) (b : B) : if (!decide c) = true then A else B := by rw [decide_eq_true h]; exact b
theorem zip_ptr {β : Type} {as : List Addr} {rs : List β} (h : as.length = rs.length) : as.map Dat.ptr = (as.zip rs).map fun y => Dat.ptr y.1 := by
  conv => lhs; rw [← List.map_fst_zip (l₁ := as) (l₂ := rs) (by omega)]
  rw [List.map_map]; rfl
theorem zip_map {β γ : Type} {as : List Addr} {rs : List β} (h : as.length = rs.length) (f : β → γ) : ((as.zip rs).map fun y => f y.2) = rs.map f := by
  conv => rhs; rw [← List.map_snd_zip (l₁ := as) (l₂ := rs) (by omega)]
  rw [List.map_map]; rfl
theorem zip_cell {β : Type} {c : β → Cell} : ∀ {as : List Addr} {rs : List β} {y : Addr × β}, y ∈ as.zip rs → (y.1, c y.2) ∈ cellsG c as rs
  | [], _, _, h => by simp at h
  | a :: as, [], _, h => by simp at h
  | a :: as, r :: rs, y, h => by
    rw [List.zip_cons_cons] at h
    show _ ∈ cellsG c as rs ++ [(a, c r)]
    rcases List.mem_cons.mp h with rfl | h
    · exact List.mem_append_right _ List.mem_cons_self
    · exact List.mem_append_left _ (zip_cell h)
theorem cut_to {ds : List Dat} {k : Nat} (h : k ≤ ds.length) : cutD ds none (some (k : Int)) = ds.take k := by
  unfold cutD
  rw [HT.sIx_none, HT.sIx_nat, Nat.min_eq_left h, Nat.sub_zero, List.drop_zero]
theorem cut_from {ds : List Dat} {k : Nat} (h : k ≤ ds.length) : cutD ds (some (k : Int)) none = ds.drop k := by
  unfold cutD
  rw [HT.sIx_none, HT.sIx_nat, Nat.min_eq_left h, List.take_of_length_le]
  rw [List.length_drop]
  omega
/-- the ends told otherwise -/
theorem ss_fin {K : PySem.W.Frag} {E : XK} {own : Own} {sl : SL} {nx bk ct : SL → Own → Prop} {rt : Dat → Own → Prop} {xp : XD} {t : TS}
    (h : SS K E t sl own ⟨fun s o => ∃ o', Cl o o' ∧ nx s o', fun d o => ∃ o', Cl o o' ∧ rt d o', bk, ct, fun c dx o => ∃ o', Cl o o' ∧ xp c dx o'⟩) : SS K E t sl own ⟨nx, rt, bk, ct, xp⟩ := fun F V0 σ H hs hl D' n1 r1 b1 c1 x1 => by
  refine h F V0 σ H hs hl D' (fun σ' H' sl' o a b c ⟨o2, k, p⟩ => ?_) (fun v H' d o a b c ⟨o2, k, p⟩ => ?_) b1 c1 (fun c dx H' o a b ⟨o2, k, p⟩ => ?_)
  · obtain ⟨h1, e1⟩ := k K F V0 H' a
    exact n1 σ' H' sl' o2 h1 (b.trans e1) (c.mono e1) p
  · obtain ⟨h1, e1⟩ := k K F V0 H' a
    exact r1 v H' d o2 h1 (b.trans e1) (c.mono e1) p
  · obtain ⟨h1, e1⟩ := k K F V0 H' a
    exact x1 c dx H' o2 h1 (b.trans e1) p
section
variable {K : PySem.W.Frag} {own : Own} {sl : SL} {P : PD} {te : TE}
/-- [f y for y in ys if c y], a list of one's own -/
theorem ex_lcOP {α : Type} {wi : TI} {g : TG} {tt : TT} {vs : List Nat} (e f : α → Dat) (c : α → Bool) (h : IX K wi sl own fun xs Keep o => ∃ ys : List α, xs = ys.map e ∧ ys.length < 1000000 ∧ Keep o ∧
    (∀ y ∈ ys, GX K g (· ∈ vs) (e y) (wipeS sl vs) o fun sl3 o3 => TX K tt sl3 o3 fun b o4 => if b = true then EX K te sl3 o4 fun z o5 => c y = true ∧ z = f y ∧ o5 = o else c y = false ∧ o4 = o) ∧ ∀ a, a ∉ o.map (·.1) → P (.ptr a) ((a, .lst ((ys.filter c).map f)) :: o)) : EX K (tLc wi g tt te vs) sl own P := by
  refine ex_lcO (P := P) ?_
  intro F V0 σ H hs hl Q q
  refine h F V0 σ H hs hl Q fun Jt H' o xs Keep a b c2 ⟨ys, e1, hz, hk, hb, hp⟩ => q Jt H' o xs Keep a b c2 ?_
  subst e1
  refine ⟨fun i acc o2 => acc.length ≤ i ∧ o2 = o ∧ acc ++ ((ys.drop i).filter c).map f = (ys.filter c).map f, ⟨Nat.le_refl _, rfl, rfl⟩, fun i sl o2 h => h.2.1 ▸ hk, fun i x acc o2 hx hj => ?_, fun acc o2 hj => ?_⟩
  · obtain ⟨y, hy, rfl⟩ := map_at hx
    obtain ⟨hj1, rfl, hj2⟩ := hj
    have hi := (List.getElem?_eq_some_iff.mp hy).1
    rw [drop_at hy] at hj2
    have k := hb y (List.mem_of_getElem? hy)
    intro F2 V2 σ2 H2 x2 hs2 hl2 hd2 Q2 q2
    refine k F2 V2 σ2 H2 x2 hs2 hl2 hd2 Q2 fun σ' H' sl' own' z1 z2 z3 z4 z5 => q2 σ' H' sl' own' z1 z2 z3 z4 ?_
    refine tx_mono z5 fun b o4 p => ?_
    cases b with
    | true => exact iteT (ex_mono (show EX K te sl' o4 _ from p) fun z o5 ⟨p1, p2, p3⟩ => ⟨zl (by omega), by rw [List.length_append]; exact Nat.add_le_add hj1 (Nat.le_refl _), p3, by rw [List.filter_cons, if_pos p1, List.map_cons] at hj2; rw [p2, List.append_assoc]; exact hj2⟩)
    | false =>
      obtain ⟨p1, p2⟩ : c y = false ∧ o4 = o2 := p
      exact iteF ⟨Nat.le_trans hj1 (Nat.le_succ _), p2, by rw [List.filter_cons, if_neg (by rw [p1]; decide)] at hj2; exact hj2⟩
  · obtain ⟨hj1, rfl, hj2⟩ := hj
    rw [List.length_map, List.drop_length, List.filter_nil, List.map_nil, List.append_nil] at hj2
    rw [hj2]; exact hp
/-- {} -/
theorem ex_dnewK (p : ∀ a, a ∉ own.map (·.1) → P (.ptr a) ((a, .dK [] []) :: own)) : EX K tDNewK sl own P := fun F V0 σ H hs hl Q q => by
  intro a ha
  refine q _ _ _ ((a, .dK [] []) :: own) (hs.new ha (.dK (kws := []) upd_same rfl List.nodup_nil .nil)) ?_ (.ptr a) (p a (fresh_own hs ha))
  rw [vis_new hs ha]; exact Same.refl _
theorem ex_dnewT (p : ∀ a, a ∉ own.map (·.1) → P (.ptr a) ((a, .dT [] []) :: own)) : EX K tDNewT sl own P := fun F V0 σ H hs hl Q q => by
  intro a ha
  refine q _ _ _ ((a, .dT [] []) :: own) (hs.new ha (.dT (kws := []) upd_same rfl List.nodup_nil .nil)) ?_ (.ptr a) (p a (fresh_own hs ha))
  rw [vis_new hs ha]; exact Same.refl _
end
theorem pick {α : Type} {f : α → Dat} {xs : List α} {d : Int} (h0 : 0 ≤ d) (h1 : d < xs.length) : ∃ x ∈ xs, atI (xs.map f) d = some (f x) := by
  obtain ⟨z, _, h, h2⟩ := atI_ok h0 h1
  exact ⟨z, h, by rw [atI_map, h2]; rfl⟩
/-! ### the first i items changed -/
def mapTo {β : Type} (f : β → β) (i : Nat) (rs : List β) : List β := (rs.take i).map f ++ rs.drop i
section
variable {β : Type} {f : β → β} {i : Nat} {rs : List β} {r : β}
theorem mapTo_0 : mapTo f 0 rs = rs := rfl
theorem mapTo_all : mapTo f rs.length rs = rs.map f := by unfold mapTo; simp
theorem mapTo_len : (mapTo f i rs).length = rs.length := by unfold mapTo; simp; omega
theorem mapTo_at (h : rs[i]? = some r) : (mapTo f i rs)[i]? = some r := by
  have hi := (List.getElem?_eq_some_iff.mp h).1
  unfold mapTo
  have e : ((rs.take i).map f).length = i := by rw [List.length_map, List.length_take]; omega
  rw [List.getElem?_append_right (by omega), e, Nat.sub_self, List.getElem?_drop]
  exact h
theorem mapTo_set (h : rs[i]? = some r) : (mapTo f i rs).set i (f r) = mapTo f (i + 1) rs := by
  have hi := (List.getElem?_eq_some_iff.mp h).1
  unfold mapTo
  have e : ((rs.take i).map f).length = i := by rw [List.length_map, List.length_take]; omega
  rw [List.set_append_right _ _ (by omega), e, Nat.sub_self, drop_at h, List.set_cons_zero, List.take_add_one, h, List.map_append]
  simp
theorem mapTo_same (h : rs[i]? = some r) (e : f r = r) : mapTo f (i + 1) rs = mapTo f i rs := by
  rw [← mapTo_set h, e]
  have := mapTo_at (f := f) h
  obtain ⟨hi, e⟩ := List.getElem?_eq_some_iff.mp this
  conv => lhs; rw [← e]
  exact List.set_getElem_self hi
end
end Sy
namespace Law
open PySem L2 Sy
def top (i : Nat) : Stmt := PySem.Challenge.pw_copperline_k11_whole_records_only_grow.main.body.getD i (.Pass ⟨0, 0, 0, 0⟩)
abbrev s__law_state : Stmt := top 14
abbrev s__law_draw : Stmt := top 15
abbrev s__law_number : Stmt := top 16
abbrev s__law_entries : Stmt := top 17
abbrev s_time_of : Stmt := top 7
abbrev s_Record_is_open : Stmt := inClass (top 1) 1
abbrev s_record_at : Stmt := top 8
abbrev s_is_misplaced : Stmt := top 9
abbrev s_life_of : Stmt := top 12
abbrev s_fault_of_entry : Stmt := top 10
abbrev s_Record_init : Stmt := inClass (top 1) 0
abbrev s_record_from : Stmt := top 4
abbrev s_close_record : Stmt := top 3
abbrev s_belongs : Stmt := top 2
abbrev s_fold_entry : Stmt := top 5
abbrev s_fault_of : Stmt := top 11
abbrev s_Record_row : Stmt := inClass (top 1) 2
abbrev s__law_seconds : Stmt := top 19
abbrev s_records_of : Stmt := top 6
abbrev s__law_grows : Stmt := top 18
abbrev s_law : Stmt := top 20
abbrev N__law_state : List Str := ["script", "k", "salt", "cell"]
theorem sc__law_state : FnScope N__law_state ["script", "k", "salt"] (defScope s__law_state) := ⟨rfl, rfl, rfl, by decide +kernel, rfl, by decide +kernel, by decide +kernel⟩
abbrev N__law_draw : List Str := ["state", "many", "digit", "one", "two"]
theorem sc__law_draw : FnScope N__law_draw ["state", "many"] (defScope s__law_draw) := ⟨rfl, rfl, rfl, by decide +kernel, rfl, by decide +kernel, by decide +kernel⟩
abbrev N__law_number : List Str := ["state", "k"]
theorem sc__law_number : FnScope N__law_number ["state"] (defScope s__law_number) := ⟨rfl, rfl, rfl, by decide +kernel, rfl, by decide +kernel, by decide +kernel⟩
abbrev N__law_entries : List Str := ["state", "many", "maker", "now", "life", "rows", "count", "open_ids", "seconds", "turn", "kind", "call_id", "role", "came", "went", "payer", "parent", "owner", "other"]
theorem sc__law_entries : FnScope N__law_entries ["state", "many", "maker"] (defScope s__law_entries) := ⟨rfl, rfl, rfl, by decide +kernel, rfl, by decide +kernel, by decide +kernel⟩
abbrev N_time_of : List Str := ["entry"]
theorem sc_time_of : FnScope N_time_of ["entry"] (defScope s_time_of) := ⟨rfl, rfl, rfl, by decide +kernel, rfl, by decide +kernel, by decide +kernel⟩
abbrev N_Record_is_open : List Str := ["self"]
theorem sc_Record_is_open : FnScope N_Record_is_open ["self"] (defScope s_Record_is_open) := ⟨rfl, rfl, rfl, by decide +kernel, rfl, by decide +kernel, by decide +kernel⟩
abbrev N_record_at : List Str := ["records", "call_id", "record"]
theorem sc_record_at : FnScope N_record_at ["records", "call_id"] (defScope s_record_at) := ⟨rfl, rfl, rfl, by decide +kernel, rfl, by decide +kernel, by decide +kernel⟩
abbrev N_is_misplaced : List Str := ["records", "entry"]
theorem sc_is_misplaced : FnScope N_is_misplaced ["records", "entry"] (defScope s_is_misplaced) := ⟨rfl, rfl, rfl, by decide +kernel, rfl, by decide +kernel, by decide +kernel⟩
abbrev N_life_of : List Str := ["entries", "entry"]
theorem sc_life_of : FnScope N_life_of ["entries"] (defScope s_life_of) := ⟨rfl, rfl, rfl, by decide +kernel, rfl, by decide +kernel, by decide +kernel⟩
abbrev N_fault_of_entry : List Str := ["entry", "earlier", "records", "at", "other", "record"]
theorem sc_fault_of_entry : FnScope N_fault_of_entry ["entry", "earlier", "records"] (defScope s_fault_of_entry) := ⟨rfl, rfl, rfl, by decide +kernel, rfl, by decide +kernel, by decide +kernel⟩
abbrev N_Record_init : List Str := ["self", "call_id", "role", "caller", "called", "payer", "came", "went", "parent", "opened_at"]
theorem sc_Record_init : FnScope N_Record_init ["self", "call_id", "role", "caller", "called", "payer", "came", "went", "parent", "opened_at"] (defScope s_Record_init) := ⟨rfl, rfl, rfl, by decide +kernel, rfl, by decide +kernel, by decide +kernel⟩
abbrev N_record_from : List Str := ["entry", "_", "call_id", "role", "caller", "called", "payer", "came", "went", "parent", "at"]
theorem sc_record_from : FnScope N_record_from ["entry"] (defScope s_record_from) := ⟨rfl, rfl, rfl, by decide +kernel, rfl, by decide +kernel, by decide +kernel⟩
abbrev N_close_record : List Str := ["record", "cause", "at"]
theorem sc_close_record : FnScope N_close_record ["record", "cause", "at"] (defScope s_close_record) := ⟨rfl, rfl, rfl, by decide +kernel, rfl, by decide +kernel, by decide +kernel⟩
abbrev N_belongs : List Str := ["record", "call_id"]
theorem sc_belongs : FnScope N_belongs ["record", "call_id"] (defScope s_belongs) := ⟨rfl, rfl, rfl, by decide +kernel, rfl, by decide +kernel, by decide +kernel⟩
abbrev N_fold_entry : List Str := ["records", "entry", "kind", "record"]
theorem sc_fold_entry : FnScope N_fold_entry ["records", "entry"] (defScope s_fold_entry) := ⟨rfl, rfl, rfl, by decide +kernel, rfl, by decide +kernel, by decide +kernel⟩
abbrev N_fault_of : List Str := ["entries", "records", "place", "entry", "fault"]
theorem sc_fault_of : FnScope N_fault_of ["entries"] (defScope s_fault_of) := ⟨rfl, rfl, rfl, by decide +kernel, rfl, by decide +kernel, by decide +kernel⟩
abbrev N_Record_row : List Str := ["self", "facts"]
theorem sc_Record_row : FnScope N_Record_row ["self"] (defScope s_Record_row) := ⟨rfl, rfl, rfl, by decide +kernel, rfl, by decide +kernel, by decide +kernel⟩
abbrev N__law_seconds : List Str := ["entries", "row", "opened", "seconds", "entry", "at"]
theorem sc__law_seconds : FnScope N__law_seconds ["entries", "row"] (defScope s__law_seconds) := ⟨rfl, rfl, rfl, by decide +kernel, rfl, by decide +kernel, by decide +kernel⟩
abbrev N_records_of : List Str := ["entries", "records", "entry"]
theorem sc_records_of : FnScope N_records_of ["entries"] (defScope s_records_of) := ⟨rfl, rfl, rfl, by decide +kernel, rfl, by decide +kernel, by decide +kernel⟩
abbrev N__law_grows : List Str := ["before", "after", "at"]
theorem sc__law_grows : FnScope N__law_grows ["before", "after"] (defScope s__law_grows) := ⟨rfl, rfl, rfl, by decide +kernel, rfl, by decide +kernel, by decide +kernel⟩
abbrev N_law : List Str := ["script", "state", "entries", "before", "many", "row", "place", "wrong", "spoilt", "due", "rows", "record", "entry"]
theorem sc_law : FnScope N_law ["script"] (defScope s_law) := ⟨rfl, rfl, rfl, by decide +kernel, rfl, by decide +kernel, by decide +kernel⟩
/-- where the defs and classes of the program stand -/
structure Ad where
  a__law_state : Addr
  d__law_state : FuncData
  a__law_draw : Addr
  d__law_draw : FuncData
  a__law_number : Addr
  d__law_number : FuncData
  a__law_entries : Addr
  d__law_entries : FuncData
  a_time_of : Addr
  d_time_of : FuncData
  a_Record_is_open : Addr
  d_Record_is_open : FuncData
  a_record_at : Addr
  d_record_at : FuncData
  a_is_misplaced : Addr
  d_is_misplaced : FuncData
  a_life_of : Addr
  d_life_of : FuncData
  a_fault_of_entry : Addr
  d_fault_of_entry : FuncData
  a_Record_init : Addr
  d_Record_init : FuncData
  a_record_from : Addr
  d_record_from : FuncData
  a_close_record : Addr
  d_close_record : FuncData
  a_belongs : Addr
  d_belongs : FuncData
  a_fold_entry : Addr
  d_fold_entry : FuncData
  a_fault_of : Addr
  d_fault_of : FuncData
  a_Record_row : Addr
  d_Record_row : FuncData
  a__law_seconds : Addr
  d__law_seconds : FuncData
  a_records_of : Addr
  d_records_of : FuncData
  a__law_grows : Addr
  d__law_grows : FuncData
  a_law : Addr
  d_law : FuncData
  c_Record : Addr
structure Tx (K : PySem.W.Frag) (mg : Str → Option Value) (ad : Ad) : Prop where
  b_any : mg "any" = none
  b_enumerate : mg "enumerate" = none
  b_int : mg "int" = none
  b_len : mg "len" = none
  b_max : mg "max" = none
  b_range : mg "range" = none
  b_str : mg "str" = none
  m__law_state : mg "_law_state" = some (.ref ad.a__law_state)
  F__law_state : Fun K "_law_state" "_law_state" s__law_state ad.a__law_state ad.d__law_state
  B__law_state : Binds K ad.d__law_state ["script", "k", "salt"] []
  m__law_draw : mg "_law_draw" = some (.ref ad.a__law_draw)
  F__law_draw : Fun K "_law_draw" "_law_draw" s__law_draw ad.a__law_draw ad.d__law_draw
  B__law_draw : Binds K ad.d__law_draw ["state", "many"] []
  m__law_number : mg "_law_number" = some (.ref ad.a__law_number)
  F__law_number : Fun K "_law_number" "_law_number" s__law_number ad.a__law_number ad.d__law_number
  B__law_number : Binds K ad.d__law_number ["state"] []
  m__law_entries : mg "_law_entries" = some (.ref ad.a__law_entries)
  F__law_entries : Fun K "_law_entries" "_law_entries" s__law_entries ad.a__law_entries ad.d__law_entries
  B__law_entries : Binds K ad.d__law_entries ["state", "many", "maker"] []
  m_time_of : mg "time_of" = some (.ref ad.a_time_of)
  F_time_of : Fun K "time_of" "time_of" s_time_of ad.a_time_of ad.d_time_of
  B_time_of : Binds K ad.d_time_of ["entry"] []
  F_Record_is_open : Fun K "is_open" "Record.is_open" s_Record_is_open ad.a_Record_is_open ad.d_Record_is_open
  B_Record_is_open : Binds K ad.d_Record_is_open ["self"] []
  M_Record_is_open : Meth K ad.c_Record "is_open" ad.a_Record_is_open
  m_record_at : mg "record_at" = some (.ref ad.a_record_at)
  F_record_at : Fun K "record_at" "record_at" s_record_at ad.a_record_at ad.d_record_at
  B_record_at : Binds K ad.d_record_at ["records", "call_id"] []
  m_is_misplaced : mg "is_misplaced" = some (.ref ad.a_is_misplaced)
  F_is_misplaced : Fun K "is_misplaced" "is_misplaced" s_is_misplaced ad.a_is_misplaced ad.d_is_misplaced
  B_is_misplaced : Binds K ad.d_is_misplaced ["records", "entry"] []
  m_life_of : mg "life_of" = some (.ref ad.a_life_of)
  F_life_of : Fun K "life_of" "life_of" s_life_of ad.a_life_of ad.d_life_of
  B_life_of : Binds K ad.d_life_of ["entries"] []
  m_fault_of_entry : mg "fault_of_entry" = some (.ref ad.a_fault_of_entry)
  F_fault_of_entry : Fun K "fault_of_entry" "fault_of_entry" s_fault_of_entry ad.a_fault_of_entry ad.d_fault_of_entry
  B_fault_of_entry : Binds K ad.d_fault_of_entry ["entry", "earlier", "records"] []
  F_Record_init : Fun K "__init__" "Record.__init__" s_Record_init ad.a_Record_init ad.d_Record_init
  B_Record_init : Binds K ad.d_Record_init ["self", "call_id", "role", "caller", "called", "payer", "came", "went", "parent", "opened_at"] []
  m_record_from : mg "record_from" = some (.ref ad.a_record_from)
  F_record_from : Fun K "record_from" "record_from" s_record_from ad.a_record_from ad.d_record_from
  B_record_from : Binds K ad.d_record_from ["entry"] []
  m_close_record : mg "close_record" = some (.ref ad.a_close_record)
  F_close_record : Fun K "close_record" "close_record" s_close_record ad.a_close_record ad.d_close_record
  B_close_record : Binds K ad.d_close_record ["record", "cause", "at"] []
  m_belongs : mg "belongs" = some (.ref ad.a_belongs)
  F_belongs : Fun K "belongs" "belongs" s_belongs ad.a_belongs ad.d_belongs
  B_belongs : Binds K ad.d_belongs ["record", "call_id"] []
  m_fold_entry : mg "fold_entry" = some (.ref ad.a_fold_entry)
  F_fold_entry : Fun K "fold_entry" "fold_entry" s_fold_entry ad.a_fold_entry ad.d_fold_entry
  B_fold_entry : Binds K ad.d_fold_entry ["records", "entry"] []
  m_fault_of : mg "fault_of" = some (.ref ad.a_fault_of)
  F_fault_of : Fun K "fault_of" "fault_of" s_fault_of ad.a_fault_of ad.d_fault_of
  B_fault_of : Binds K ad.d_fault_of ["entries"] []
  F_Record_row : Fun K "row" "Record.row" s_Record_row ad.a_Record_row ad.d_Record_row
  B_Record_row : Binds K ad.d_Record_row ["self"] []
  M_Record_row : Meth K ad.c_Record "row" ad.a_Record_row
  m__law_seconds : mg "_law_seconds" = some (.ref ad.a__law_seconds)
  F__law_seconds : Fun K "_law_seconds" "_law_seconds" s__law_seconds ad.a__law_seconds ad.d__law_seconds
  B__law_seconds : Binds K ad.d__law_seconds ["entries", "row"] []
  m_records_of : mg "records_of" = some (.ref ad.a_records_of)
  F_records_of : Fun K "records_of" "records_of" s_records_of ad.a_records_of ad.d_records_of
  B_records_of : Binds K ad.d_records_of ["entries"] []
  m__law_grows : mg "_law_grows" = some (.ref ad.a__law_grows)
  F__law_grows : Fun K "_law_grows" "_law_grows" s__law_grows ad.a__law_grows ad.d__law_grows
  B__law_grows : Binds K ad.d__law_grows ["before", "after"] []
  m_law : mg "law" = some (.ref ad.a_law)
  F_law : Fun K "law" "law" s_law ad.a_law ad.d_law
  B_law : Binds K ad.d_law ["script"] []
  m_Record : mg "Record" = some (.ref ad.c_Record)
  cl_Record : Cls K ad.c_Record
  K_Record : Mk K ad.c_Record ad.a_Record_init
  n_Record_call_id : NoAttr K ad.c_Record "call_id"
  n_Record_role : NoAttr K ad.c_Record "role"
  n_Record_caller : NoAttr K ad.c_Record "caller"
  n_Record_called : NoAttr K ad.c_Record "called"
  n_Record_payer : NoAttr K ad.c_Record "payer"
  n_Record_came : NoAttr K ad.c_Record "came"
  n_Record_went : NoAttr K ad.c_Record "went"
  n_Record_parent : NoAttr K ad.c_Record "parent"
  n_Record_opened_at : NoAttr K ad.c_Record "opened_at"
  n_Record_confirmed : NoAttr K ad.c_Record "confirmed"
  n_Record_closed_at : NoAttr K ad.c_Record "closed_at"
  n_Record_cause : NoAttr K ad.c_Record "cause"
set_option hygiene false
local macro_rules | `(tactic| walk_at "o") => `(tactic| first
  | (with_reducible assumption) | omega | (with_reducible rfl) | exact ble rfl | decide)
local macro_rules | `(tactic| walk_at "at") => `(tactic| first | with_reducible exact at0 | with_reducible exact at1 | with_reducible exact at2 | with_reducible exact at3 | with_reducible exact at4 | with_reducible exact at5 | with_reducible exact at6 | with_reducible exact at7 | with_reducible exact at8 | with_reducible exact at9)
local macro_rules | `(tactic| walk_at "tk") => `(tactic| first
  | exact .inl rfl
  | exact .inr ⟨_, rfl, List.mem_cons_self⟩ | exact .inr ⟨_, rfl, List.mem_cons_of_mem _ List.mem_cons_self⟩ | exact .inr ⟨_, rfl, List.mem_cons_of_mem _ (List.mem_cons_of_mem _ List.mem_cons_self)⟩)
local macro_rules | `(tactic| walk_at "ls") => `(tactic| first | exact .inl (by walk_at "tk") | exact .inr rfl)
local macro_rules | `(tactic| walk_at "sq") => `(tactic| first | exact .inl (by walk_at "ls") | exact .inr rfl)
local macro_rules | `(tactic| walk_at "1") => `(tactic| first
  | with_reducible refine ss_set ?_
  | ((with_reducible apply ex_var); (· exact rfl))
  | with_reducible refine ex_int ?_
  | with_reducible refine ex_str ?_
  | with_reducible refine ex_bl ?_
  | with_reducible refine ex_non ?_
  | with_reducible refine ex_op ?_
  | with_reducible refine ex_un ?_
  | with_reducible refine ax_nil ?_
  | with_reducible refine ax_cons ?_
  | with_reducible refine ss_fld2 ?_
  | with_reducible refine ss_if ?_
  | with_reducible refine ss_ret ?_
  | with_reducible refine ss_retN ?_
  | with_reducible refine ss_drop ?_
  | with_reducible refine ss_next ?_
  | with_reducible refine ss_asg ?_
  | with_reducible refine tx_test ?_
  | with_reducible refine tx_tru ?_
  | with_reducible refine tx_and ?_
  | with_reducible refine tx_or ?_
  | with_reducible refine tx_not ?_
  | with_reducible refine tx_yes ?_
  | with_reducible refine ⟨_, rfl, ?_⟩
  | with_reducible refine ex_if ?_
  | with_reducible refine ex_chain ?_
  | with_reducible refine ex_tup ?_
  | with_reducible refine ex_sl ?_
  | with_reducible refine ox_none ?_
  | with_reducible refine ox_some ?_
  | with_reducible refine ex_cb ?_
  | with_reducible refine ex_m1 ?_
  | with_reducible refine ex_call0 ?_
  | with_reducible refine ex_notT ?_
  | with_reducible refine ex_andT ?_
  | with_reducible refine ex_orT ?_
  | with_reducible refine tru_bl ?_
  | with_reducible refine tru_non ?_
  | with_reducible refine ex_fld ?_
  | walk_at "fg"
  | ((with_reducible apply mtE); (· walk_at "od"); (· decide +kernel))
  | ((with_reducible show FldW _ _ _ _ _ _); walk_at "fs")
  | with_reducible refine starts_str ?_
  | with_reducible refine neg_int ?_
  | with_reducible refine tru_own0 ?_
  | with_reducible refine ex_meth0 ?_
  | with_reducible refine add_int ?_
  | with_reducible refine sub_int ?_
  | ((with_reducible refine mul_int ?_ ?_); (· walk_at "o"))
  | ((with_reducible refine div_int ?_ ?_); (· first | walk_at "o" | exact ⟨by decide, by decide +kernel⟩))
  | ((with_reducible refine mod_int ?_ ?_); (· walk_at "o"))
  | ((with_reducible apply pow_int); (· exact ⟨by decide, by decide, by decide⟩))
  | with_reducible refine eq_int ?_
  | with_reducible refine ne_int ?_
  | with_reducible refine eq_str ?_
  | with_reducible refine ne_str ?_
  | with_reducible refine lt_int ?_
  | with_reducible refine le_int ?_
  | with_reducible refine gt_int ?_
  | with_reducible refine ge_int ?_
  | with_reducible refine isn_non ?_
  | with_reducible refine isn_bl ?_
  | with_reducible refine isn_int ?_
  | with_reducible refine isn_str ?_
  | with_reducible refine isn_tup ?_
  | with_reducible refine isn_lst ?_
  | with_reducible refine isn_obj ?_
  | with_reducible refine isn_ptr ?_
  | with_reducible refine ntn_non ?_
  | with_reducible refine ntn_bl ?_
  | with_reducible refine ntn_int ?_
  | with_reducible refine ntn_str ?_
  | with_reducible refine ntn_tup ?_
  | with_reducible refine ntn_lst ?_
  | with_reducible refine ntn_obj ?_
  | with_reducible refine ntn_ptr ?_
  | with_reducible refine int_int ?_
  | with_reducible refine int_bl ?_
  | with_reducible refine max_two ?_
  | with_reducible refine min_two ?_
  | with_reducible refine gx_name trivial ?_
  | ((with_reducible refine gx_name ?_ ?_); (· decide))
  | ((with_reducible apply gx_tup); (· exact rfl))
  | with_reducible refine gsx_cons ?_
  | with_reducible refine gsx_nil ?_
  | with_reducible refine gx_sub ?_
  | with_reducible refine ix_rng1 ?_
  | with_reducible refine ix_rng2 ?_
  | with_reducible refine ix_seq' ?_
  | with_reducible refine iteT ?_
  | with_reducible refine iteF ?_
  | with_reducible refine iteNt ?_
  | ((with_reducible refine iteDf ?_ ?_); (· decide +kernel))
  | ((with_reducible refine iteDt ?_ ?_); (· decide +kernel))
  | with_reducible refine iteNf ?_
  | ((with_reducible refine iteNDf ?_ ?_); (· decide +kernel))
  | ((with_reducible refine iteNDt ?_ ?_); (· decide +kernel))
  | ((with_reducible refine ⟨?_, ?_⟩); (· exact ble rfl))
  | ((with_reducible apply ix_lst); (· walk_at "ls"); (· walk_at "at"))
  | ((with_reducible apply ix_tp); (· walk_at "at"))
  | ((with_reducible apply len_seq); (· walk_at "sq")))
local macro_rules | `(tactic| walk_at "e") => `(tactic| repeat walk_at "1")
local macro_rules | `(tactic| walk_at "st") => `(tactic| ((with_reducible refine ss_seq ?_); walk_at "e"))
local macro_rules | `(tactic| walk_at "go") => `(tactic| repeat (first | with_reducible refine ss_seq ?_ | walk_at "1"))
local macro_rules | `(tactic| walk_at "rg") => `(tactic| first | exact ⟨[], _, rfl⟩ | exact ⟨[_], _, rfl⟩ | exact ⟨[_, _], _, rfl⟩ | exact ⟨[_, _, _], _, rfl⟩ | assumption)
local macro_rules | `(tactic| walk_at "fx") => `(tactic| first | with_reducible exact fidx_hd | ((with_reducible apply fidx_tl); (· decide +kernel); (· walk_at "fx")))
local macro_rules | `(tactic| walk_at "mem") => `(tactic| first | with_reducible exact List.mem_cons_self | with_reducible exact List.mem_append_right _ List.mem_cons_self | ((with_reducible refine List.mem_cons_of_mem _ ?_); walk_at "mem") | assumption)
local macro_rules | `(tactic| walk_at "od") => `(tactic| first | with_reducible exact odO rfl | ((with_reducible apply odP); (· (with_reducible rfl)); (· walk_at "mem")))
local macro_rules | `(tactic| walk_at "cut") => `(tactic| first | (with_reducible rfl) | with_reducible exact (List.nil_append _).symm | exact show _ = [_] ++ _ from rfl | exact show _ = [_, _] ++ _ from rfl | exact show _ = [_, _, _] ++ _ from rfl)
local macro_rules | `(tactic| walk_at "fs") => `(tactic| first
  | ((with_reducible apply fsN); (· walk_at "cut"); (· walk_at "cl"); (· walk_at "na"); (· exact Nat.lt_of_lt_of_le (show _ < 999 from ble rfl) (by decide)); (· decide +kernel))
  | ((with_reducible apply fsS); (· walk_at "cut"); (· walk_at "cl"); (· walk_at "na"); (· exact Nat.lt_of_lt_of_le (show _ < 999 from ble rfl) (by decide)); (· walk_at "fx")))
local macro_rules | `(tactic| walk_at "fg") => `(tactic| ((with_reducible apply fgE); (· walk_at "od"); (· walk_at "cl"); (· walk_at "na"); (· walk_at "fx"); (· exact rfl)))
local macro_rules | `(tactic| walk_at "nz") => `(tactic| (try simp only [List.set_cons_succ, List.set_cons_zero, and_true]); try trivial)
local macro_rules | `(tactic| walk_at "sl") => `(tactic| simp only [List.set_cons_succ, List.set_cons_zero])

local macro_rules | `(tactic| walk_at "cl") => `(tactic| first | with_reducible exact T.cl_Record)
local macro_rules | `(tactic| walk_at "na") => `(tactic| first | with_reducible exact T.n_Record_call_id | with_reducible exact T.n_Record_role | with_reducible exact T.n_Record_caller | with_reducible exact T.n_Record_called | with_reducible exact T.n_Record_payer | with_reducible exact T.n_Record_came | with_reducible exact T.n_Record_went | with_reducible exact T.n_Record_parent | with_reducible exact T.n_Record_opened_at | with_reducible exact T.n_Record_confirmed | with_reducible exact T.n_Record_closed_at | with_reducible exact T.n_Record_cause)
/-! ### entries and records -/
abbrev Id := Int × Int × Int
abbrev idD (i : Id) : Dat := .tup [.int i.1, .int i.2.1, .int i.2.2]
def oD {α : Type} (f : α → Dat) : Option α → Dat
  | none => .non
  | some x => f x
theorem oD_some {α : Type} {f : α → Dat} {x : α} : oD f (some x) = f x := rfl
theorem oD_none {α : Type} {f : α → Dat} : oD f none = .non := rfl
theorem bl_map {α : Type} {f : α → Bool} {xs : List α} : (xs.map fun x => Dat.bl (f x)) = (xs.map f).map Dat.bl := by rw [List.map_map]; rfl
inductive En where
  | boot (life at_ : Int)
  | opn (id : Id) (role caller called : Str) (payer : Option Str) (came went parent : Option Id) (at_ : Int)
  | mark (id : Id) (secs : Int)
  | close (id : Id) (cause : Str) (at_ : Int)
  | known (num : Str) (maker : Int)
  | forward (num : Str)
def enD : En → Dat
  | .boot l a => .tup [.str "boot", .int l, .int a]
  | .opn i r c d p m w q a => .tup [.str "open", idD i, .str r, .str c, .str d, oD .str p, oD idD m, oD idD w, oD idD q, .int a]
  | .mark i s => .tup [.str "mark", idD i, .int s]
  | .close i c a => .tup [.str "close", idD i, .str c, .int a]
  | .known n m => .tup [.str "known", .str n, .int m]
  | .forward n => .tup [.str "forward", .str n, .non]
structure Rc where
  id : Id
  role : Str
  caller : Str
  called : Str
  payer : Option Str
  came : Option Id
  went : Option Id
  parent : Option Id
  opened : Int
  conf : Int
  closed : Option Int
  cause : Option Str
abbrev rcNs : List Str := ["call_id", "role", "caller", "called", "payer", "came", "went", "parent", "opened_at", "confirmed", "closed_at", "cause"]
abbrev rcDs (r : Rc) : List Dat := [idD r.id, .str r.role, .str r.caller, .str r.called, oD .str r.payer, oD idD r.came, oD idD r.went, oD idD r.parent, .int r.opened, .int r.conf, oD .int r.closed, oD .str r.cause]
abbrev rcC (ad : Ad) (r : Rc) : Cell := .ins ad.c_Record rcNs (rcDs r)
def isOpen (r : Rc) : Bool := r.closed.isNone
def hits (r : Rc) (i : Id) : Bool := isOpen r && (decide (i = r.id) || decide (some i = r.parent))
def shut (cause : Str) (a : Int) (r : Rc) : Rc := { r with closed := some a, cause := some cause }
def markR (s : Int) (r : Rc) : Rc := { r with conf := s }
def stepR : En → Rc → Rc
  | .boot _ a, r => if isOpen r = true then shut "crashed" a r else r
  | .mark i s, r => if hits r i = true then markR s r else r
  | .close i c a, r => if hits r i = true then shut c a r else r
  | _, r => r
def newE : En → List Rc
  | .opn i r c d p m w q a => [⟨i, r, c, d, p, m, w, q, a, 0, none, none⟩]
  | _ => []
def foldE (rs : List Rc) (e : En) : List Rc := rs.map (stepR e) ++ newE e
def recs (es : List En) : List Rc := es.foldl foldE []
theorem recs_snoc (es : List En) (e : En) : recs (es ++ [e]) = foldE (recs es) e := by unfold recs; rw [List.foldl_append]; rfl
def lDiv : Str := "divert"
/-- faults -/
def tmE : En → Option Int
  | .boot _ a => some a
  | .opn _ _ _ _ _ _ _ _ a => some a
  | .close _ _ a => some a
  | _ => none
def lifeE : En → Option Int
  | .boot l _ => some l
  | _ => none
def mxL : List Int → Int
  | [] => 0
  | n :: t => t.foldl max n
def lifeOf (es : List En) : Int := mxL (es.filterMap lifeE)
def laterE (a : Int) (o : En) : Bool := match tmE o with | none => false | some b => decide (b > a)
def lateE (e : En) (es : List En) : Bool := match tmE e with | none => false | some a => es.any (laterE a)
def recP (q : Option Id) (r : Rc) : Bool := decide (some r.id = q) && (isOpen r && !decide (r.role = lDiv))
def recAt (rs : List Rc) (q : Option Id) : Option Rc := rs.find? (recP q)
def misE (rs : List Rc) : En → Bool
  | .mark i _ => (recAt rs (some i)).isNone
  | .close i _ _ => (recAt rs (some i)).isNone
  | .opn _ r _ _ _ _ _ q _ => if r = lDiv then (recAt rs q).isNone else q.isSome
  | _ => false
def oldLife (es : List En) : En → Bool
  | .boot l _ => decide (l ≤ lifeOf es)
  | _ => false
def oldId (rs : List Rc) : En → Bool
  | .opn i _ _ _ _ _ _ _ _ => rs.any fun r => decide (r.id = i)
  | _ => false
def lowMark (rs : List Rc) : En → Bool
  | .mark i s => match recAt rs (some i) with | none => false | some r => decide (s ≤ r.conf)
  | _ => false
def faultR (e : En) (es : List En) (rs : List Rc) : Option Str :=
  if oldLife es e = true then some "life" else if oldId rs e = true then some "id" else if misE rs e = true then some "not open" else if lowMark rs e = true then some "mark" else none
def faultE (e : En) (es : List En) (rs : List Rc) : Option Str := if lateE e es = true then some "time" else faultR e es rs
theorem fault_time {e : En} {es : List En} {rs : List Rc} (h : lateE e es = true) : faultE e es rs = some "time" := if_pos h
theorem fault_rest {e : En} {es : List En} {rs : List Rc} (h : lateE e es = false) : faultE e es rs = faultR e es rs := if_neg (by rw [h]; decide)
def faultGo (pre : List En) (rs : List Rc) : List En → Option (Nat × Str)
  | [] => none
  | e :: t => match faultE e pre rs with
    | some f => some (pre.length, f)
    | none => faultGo (pre ++ [e]) (foldE rs e) t
def faultOf (es : List En) : Option (Nat × Str) := faultGo [] [] es

theorem sh_id (i : Id) : Sh 1 (idD i) := .tup (.cons (.int _) (.cons (.int _) (.cons (.int _) .nil)))
theorem sh_oid (i : Option Id) : Sh 1 (oD idD i) := by
  cases i with
  | none => exact .non
  | some i => exact sh_id i
theorem idD_inj {i j : Id} (h : idD i = idD j) : i = j := by
  obtain ⟨a, b, c⟩ := i
  obtain ⟨d, e, f⟩ := j
  simp only [idD, Dat.tup.injEq, List.cons.injEq, Dat.int.injEq] at h
  obtain ⟨rfl, rfl, rfl, _⟩ := h
  rfl
theorem oid_iff {i : Id} {q : Option Id} : idD i = oD idD q ↔ some i = q := by
  cases q with
  | none => simp [oD]
  | some j => exact ⟨fun z => by rw [idD_inj z], fun z => by cases z; rfl⟩
theorem mxL_eq {ns : List Int} {m : Int} (hm : m ∈ ns) (h : ∀ y ∈ ns, y ≤ m) : mxL ns = m := by
  have key : ∀ (t : List Int) (n : Int), (t.foldl max n = n ∨ t.foldl max n ∈ t) ∧ n ≤ t.foldl max n ∧ ∀ y ∈ t, y ≤ t.foldl max n := by
    intro t
    induction t with
    | nil => intro n; exact ⟨.inl rfl, Int.le_refl _, fun y h => (List.not_mem_nil h).elim⟩
    | cons x t ih =>
      intro n
      obtain ⟨a, b, c⟩ := ih (max n x)
      rw [List.foldl_cons]
      refine ⟨?_, by omega, fun y hy => ?_⟩
      · rcases a with a | a
        · by_cases q : n ≤ x
          · right; rw [a, Int.max_eq_right q]; exact List.mem_cons_self
          · left; rw [a]; omega
        · right; exact List.mem_cons_of_mem _ a
      · rcases List.mem_cons.mp hy with rfl | hy
        · omega
        · exact c y hy
  cases ns with
  | nil => exact (List.not_mem_nil hm).elim
  | cons n t =>
    obtain ⟨a, b, c⟩ := key t n
    show t.foldl max n = m
    have h1 : t.foldl max n ∈ n :: t := by
      rcases a with a | a
      · rw [a]; exact List.mem_cons_self
      · exact List.mem_cons_of_mem _ a
    have h2 := h _ h1
    rcases List.mem_cons.mp hm with rfl | hm
    · omega
    · have := c m hm; omega
theorem isOpen_shut {c : Str} {a : Int} {r : Rc} : isOpen (shut c a r) = false := rfl
theorem stepR_closed {e : En} {r : Rc} (h : isOpen r = false) : stepR e r = r := by
  have hh : ∀ i, hits r i = false := fun i => by unfold hits; rw [h]; rfl
  cases e <;> simp [stepR, h, hh]
theorem step_fix (e : En) (r : Rc) : (stepR e r).id = r.id ∧ (stepR e r).role = r.role ∧ (stepR e r).caller = r.caller ∧ (stepR e r).called = r.called ∧ (stepR e r).payer = r.payer ∧ (stepR e r).came = r.came ∧ (stepR e r).went = r.went ∧ (stepR e r).parent = r.parent ∧ (stepR e r).opened = r.opened := by
  cases e with
  | boot l a => by_cases h : isOpen r = true <;> simp [stepR, h, shut]
  | mark i s => by_cases h : hits r i = true <;> simp [stepR, h, markR]
  | close i c a => by_cases h : hits r i = true <;> simp [stepR, h, shut]
  | opn => exact ⟨rfl, rfl, rfl, rfl, rfl, rfl, rfl, rfl, rfl⟩
  | known => exact ⟨rfl, rfl, rfl, rfl, rfl, rfl, rfl, rfl, rfl⟩
  | forward => exact ⟨rfl, rfl, rfl, rfl, rfl, rfl, rfl, rfl, rfl⟩
/-- one record along entries -/
def alongR (r : Rc) (es : List En) : Rc := es.foldl (fun r e => stepR e r) r
theorem along_closed {r : Rc} (h : isOpen r = false) : ∀ es, alongR r es = r
  | [] => rfl
  | e :: es => by
    show alongR (stepR e r) es = r
    rw [stepR_closed h, along_closed h]
theorem along_id (r : Rc) : ∀ es, (alongR r es).id = r.id ∧ (alongR r es).parent = r.parent
  | [] => ⟨rfl, rfl⟩
  | e :: es => by
    have := along_id (stepR e r) es
    have s := step_fix e r
    exact ⟨this.1.trans s.1, this.2.trans s.2.2.2.2.2.2.2.1⟩
/-- where a record comes from -/
def From (es : List En) (r : Rc) : Prop := ∃ pre e post r0, es = pre ++ e :: post ∧ newE e = [r0] ∧ r = alongR r0 post
theorem recs_from (es : List En) : ∀ r ∈ recs es, From es r := by
  have key : ∀ n (es : List En), es.length = n → ∀ r ∈ recs es, From es r := by
    intro n
    induction n with
    | zero =>
      intro es h r hr
      obtain rfl := List.eq_nil_of_length_eq_zero h
      exact (List.not_mem_nil hr).elim
    | succ n ih =>
      intro es h r hr
      have hne : es ≠ [] := by intro z; rw [z] at h; cases h
      obtain ⟨fs, e, rfl⟩ : ∃ fs e, es = fs ++ [e] := ⟨es.dropLast, es.getLast hne, (List.dropLast_concat_getLast hne).symm⟩
      rw [recs_snoc] at hr
      unfold foldE at hr
      rcases List.mem_append.mp hr with hr | hr
      · obtain ⟨r1, h1, rfl⟩ := List.mem_map.mp hr
        obtain ⟨pre, e1, post, r0, e2, e3, e4⟩ := ih fs (by simpa using h) r1 h1
        refine ⟨pre, e1, post ++ [e], r0, by rw [e2]; simp, e3, ?_⟩
        unfold alongR at e4 ⊢
        rw [List.foldl_append, ← e4]
        rfl
      · refine ⟨fs, e, [], r, rfl, ?_, rfl⟩
        cases e with
        | opn => simp only [newE, List.mem_singleton] at hr ⊢; rw [hr]
        | boot => exact (List.not_mem_nil hr).elim
        | mark => exact (List.not_mem_nil hr).elim
        | close => exact (List.not_mem_nil hr).elim
        | known => exact (List.not_mem_nil hr).elim
        | forward => exact (List.not_mem_nil hr).elim
  exact key _ es rfl
/-- the ids of the open entries are those of the records -/
def idE : En → Option Id
  | .opn i _ _ _ _ _ _ _ _ => some i
  | _ => none
theorem ids_recs (es : List En) : (recs es).map (·.id) = es.filterMap idE := by
  have key : ∀ n (es : List En), es.length = n → (recs es).map (·.id) = es.filterMap idE := by
    intro n
    induction n with
    | zero => intro es h; obtain rfl := List.eq_nil_of_length_eq_zero h; rfl
    | succ n ih =>
      intro es h
      have hne : es ≠ [] := by intro z; rw [z] at h; cases h
      obtain ⟨fs, e, rfl⟩ : ∃ fs e, es = fs ++ [e] := ⟨es.dropLast, es.getLast hne, (List.dropLast_concat_getLast hne).symm⟩
      rw [recs_snoc]
      unfold foldE
      rw [List.map_append, List.map_map, List.filterMap_append, ← ih fs (by simpa using h)]
      congr 1
      · exact List.map_congr_left fun r _ => (step_fix e r).1
      · cases e <;> rfl
  exact key _ es rfl
theorem recs_le (es : List En) : (recs es).length ≤ es.length := by
  have := congrArg List.length (ids_recs es)
  rw [List.length_map] at this
  rw [this]
  exact List.length_filterMap_le _ _
/-- the law's own look at the seconds -/
def secsGo (i : Id) (q : Option Id) : Int → List En → Int × Option Int × Option Str
  | s, [] => (s, none, none)
  | s, .boot _ a :: _ => (s, some a, some "crashed")
  | s, .mark j m :: t => if j = i ∨ some j = q then secsGo i q m t else secsGo i q s t
  | s, .close j c a :: t => if j = i ∨ some j = q then (s, some a, some c) else secsGo i q s t
  | s, .opn .. :: t => secsGo i q s t
  | s, .known .. :: t => secsGo i q s t
  | s, .forward .. :: t => secsGo i q s t
theorem secs_along : ∀ (es : List En) (r : Rc), r.closed = none → r.cause = none → secsGo r.id r.parent r.conf es = ((alongR r es).conf, (alongR r es).closed, (alongR r es).cause)
  | [], r, h1, h2 => by show (r.conf, none, none) = (r.conf, r.closed, r.cause); rw [h1, h2]
  | e :: es, r, h1, h2 => by
    have ho : isOpen r = true := by unfold isOpen; rw [h1]; rfl
    have hh : ∀ i, hits r i = true ↔ (i = r.id ∨ some i = r.parent) := fun i => by unfold hits; rw [ho]; simp
    show _ = ((alongR (stepR e r) es).conf, (alongR (stepR e r) es).closed, (alongR (stepR e r) es).cause)
    cases e with
    | boot l a =>
      have e1 : stepR (.boot l a) r = shut "crashed" a r := by simp [stepR, ho]
      rw [e1, along_closed isOpen_shut]
      rfl
    | mark i s =>
      by_cases h : i = r.id ∨ some i = r.parent
      · have e1 : stepR (.mark i s) r = markR s r := by simp [stepR, (hh i).mpr h]
        rw [e1]
        show (if i = r.id ∨ some i = r.parent then _ else _) = _
        rw [if_pos h]
        exact secs_along es (markR s r) h1 h2
      · have e1 : stepR (.mark i s) r = r := by
          show (if hits r i = true then _ else _) = _
          rw [if_neg fun z => h ((hh i).mp z)]
        rw [e1]
        show (if i = r.id ∨ some i = r.parent then _ else _) = _
        rw [if_neg h]
        exact secs_along es r h1 h2
    | close i c a =>
      by_cases h : i = r.id ∨ some i = r.parent
      · have e1 : stepR (.close i c a) r = shut c a r := by simp [stepR, (hh i).mpr h]
        rw [e1, along_closed isOpen_shut]
        show (if i = r.id ∨ some i = r.parent then _ else _) = _
        rw [if_pos h]
        rfl
      · have e1 : stepR (.close i c a) r = r := by
          show (if hits r i = true then _ else _) = _
          rw [if_neg fun z => h ((hh i).mp z)]
        rw [e1]
        show (if i = r.id ∨ some i = r.parent then _ else _) = _
        rw [if_neg h]
        exact secs_along es r h1 h2
    | opn => exact secs_along es r h1 h2
    | known => exact secs_along es r h1 h2
    | forward => exact secs_along es r h1 h2
/-- rows grow -/
def GrowR (a b : Rc) : Prop := (b.id = a.id ∧ b.role = a.role ∧ b.caller = a.caller ∧ b.called = a.called ∧ b.payer = a.payer ∧ b.came = a.came ∧ b.went = a.went ∧ b.parent = a.parent ∧ b.opened = a.opened) ∧ a.conf ≤ b.conf ∧ (a.closed ≠ none → b = a)
def Grows (rs qs : List Rc) : Prop := rs.length ≤ qs.length ∧ ∀ (k : Nat) (a : Rc), rs[k]? = some a → ∃ b : Rc, qs[k]? = some b ∧ GrowR a b
theorem grows_fold {rs : List Rc} {e : En} (h : ∀ r ∈ rs, isOpen r = true → r.conf ≤ (stepR e r).conf) : Grows rs (foldE rs e) := by
  refine ⟨by unfold foldE; simp, fun k a ha => ⟨stepR e a, ?_, step_fix e a, ?_, fun hc => ?_⟩⟩
  · unfold foldE
    have hk := (List.getElem?_eq_some_iff.mp ha).1
    rw [List.getElem?_append_left (by rw [List.length_map]; exact hk), List.getElem?_map, ha]
    rfl
  · cases ho : isOpen a with
    | true => exact h a (List.mem_of_getElem? ha) ho
    | false => rw [stepR_closed ho]; exact Int.le_refl _
  · refine stepR_closed ?_
    unfold isOpen
    cases hq : a.closed with
    | none => exact absurd hq hc
    | some z => rfl
theorem fault_none {e : En} {es : List En} {rs : List Rc} (h1 : lateE e es = false) (h2 : oldLife es e = false) (h3 : oldId rs e = false) (h4 : misE rs e = false) (h5 : lowMark rs e = false) : faultE e es rs = none := by
  unfold faultE faultR
  rw [h1, h2, h3, h4, h5]
  rfl
/-- entries without faults, whose records grow -/
def Good (es : List En) : Prop := ∀ pre e post, es = pre ++ e :: post → faultE e pre (recs pre) = none ∧ Grows (recs pre) (recs (pre ++ [e]))
theorem good_nil : Good [] := fun pre e post h => by simp at h
theorem good_snoc {es : List En} {e : En} (g : Good es) (h1 : faultE e es (recs es) = none) (h2 : Grows (recs es) (foldE (recs es) e)) : Good (es ++ [e]) := by
  intro pre x post h
  rcases List.append_eq_append_iff.mp h with ⟨w, h3, h4⟩ | ⟨w, h3, h4⟩
  · cases w with
    | nil =>
      simp only [List.nil_append, List.cons.injEq] at h4
      obtain ⟨rfl, rfl⟩ := h4
      rw [List.append_nil] at h3
      subst h3
      rw [recs_snoc]
      exact ⟨h1, h2⟩
    | cons y w => simp at h4
  · cases w with
    | nil =>
      simp only [List.nil_append, List.cons.injEq] at h4
      obtain ⟨rfl, rfl⟩ := h4
      rw [List.append_nil] at h3
      subst h3
      rw [recs_snoc]
      exact ⟨h1, h2⟩
    | cons y w =>
      simp only [List.cons_append, List.cons.injEq] at h4
      obtain ⟨rfl, h4⟩ := h4
      exact g pre x w h3
theorem good_go : ∀ (post pre : List En), Good (pre ++ post) → faultGo pre (recs pre) post = none
  | [], pre, _ => rfl
  | e :: post, pre, g => by
    unfold faultGo
    rw [(g pre e post rfl).1, ← recs_snoc]
    exact good_go post (pre ++ [e]) (by rw [List.append_assoc]; exact g)
theorem good_fault {es : List En} (g : Good es) : faultOf es = none := good_go es [] g
theorem good_take {es : List En} (g : Good es) (n : Nat) : Good (es.take n) := fun pre e post h => by
  refine g pre e (post ++ es.drop n) ?_
  have e1 : es = es.take n ++ es.drop n := (List.take_append_drop n es).symm
  rw [h] at e1
  rw [List.append_assoc] at e1
  exact e1
/-- with one wrong entry put in -/
theorem go_wrong {f : Str} {w : En} : ∀ (post pre rest : List En), Good (pre ++ post) → faultE w (pre ++ post) (recs (pre ++ post)) = some f → faultGo pre (recs pre) (post ++ w :: rest) = some ((pre ++ post).length, f)
  | [], pre, rest, _, h => by
    rw [List.append_nil] at h
    rw [List.nil_append, List.append_nil]
    unfold faultGo
    rw [h]
  | e :: post, pre, rest, g, h => by
    rw [List.cons_append]
    unfold faultGo
    rw [(g pre e post rfl).1, ← recs_snoc]
    have := go_wrong post (pre ++ [e]) rest (by rw [List.append_assoc]; exact g) (by rw [List.append_assoc]; exact h)
    rw [List.append_assoc] at this
    exact this
theorem wrong_fault {es : List En} {f : Str} {w : En} {rest : List En} (g : Good es) (h : faultE w es (recs es) = some f) : faultOf (es ++ w :: rest) = some (es.length, f) := go_wrong es [] rest g h
/-! ### the made entries -/
def RcOk (r : Rc) : Prop := PyData.strOk r.role = true ∧ PyData.strOk r.caller = true ∧ PyData.strOk r.called = true ∧ (∀ p, r.payer = some p → PyData.strOk p = true) ∧ ∀ c, r.cause = some c → PyData.strOk c = true
theorem mxL_ge {ns : List Int} {y : Int} (h : y ∈ ns) : y ≤ mxL ns := by
  have key : ∀ (t : List Int) (n : Int), n ≤ t.foldl max n ∧ ∀ y ∈ t, y ≤ t.foldl max n := by
    intro t
    induction t with
    | nil => intro n; exact ⟨Int.le_refl _, fun y h => (List.not_mem_nil h).elim⟩
    | cons x t ih =>
      intro n
      obtain ⟨b, c⟩ := ih (max n x)
      rw [List.foldl_cons]
      refine ⟨by omega, fun y hy => ?_⟩
      rcases List.mem_cons.mp hy with rfl | hy
      · omega
      · exact c y hy
  cases ns with
  | nil => exact (List.not_mem_nil h).elim
  | cons n t =>
    obtain ⟨b, c⟩ := key t n
    rcases List.mem_cons.mp h with rfl | h
    · exact b
    · exact c y h
theorem life_same {es : List En} {e : En} (h : lifeE e = none) : lifeOf (es ++ [e]) = lifeOf es := by
  unfold lifeOf
  rw [List.filterMap_append]
  simp [h]
theorem life_boot {es : List En} {l t : Int} (h : lifeOf es < l) : lifeOf (es ++ [.boot l t]) = l := by
  unfold lifeOf at h ⊢
  rw [List.filterMap_append]
  refine mxL_eq (by simp [lifeE]) fun y hy => ?_
  rcases List.mem_append.mp hy with hy | hy
  · have := mxL_ge hy; omega
  · simp [lifeE] at hy; omega
theorem late_no {e : En} {es : List En} {now : Int} (h : ∀ x ∈ es, ∀ a, tmE x = some a → a ≤ now) (h2 : ∀ a, tmE e = some a → now ≤ a) : lateE e es = false := by
  unfold lateE
  cases he : tmE e with
  | none => rfl
  | some a =>
    have := h2 a he
    simp only [List.any_eq_false]
    intro x hx
    unfold laterE
    cases hq : tmE x with
    | none => simp
    | some b => have := h x hx b hq; simp; omega
theorem mem_fold {rs : List Rc} {e : En} {r : Rc} (h : r ∈ foldE rs e) : (∃ q ∈ rs, r = stepR e q) ∨ r ∈ newE e := by
  unfold foldE at h
  rcases List.mem_append.mp h with h | h
  · obtain ⟨q, hq, rfl⟩ := List.mem_map.mp h; exact .inl ⟨q, hq, rfl⟩
  · exact .inr h
theorem fold_mem {rs : List Rc} {e : En} {q : Rc} (h : q ∈ rs) : stepR e q ∈ foldE rs e := by
  unfold foldE
  exact List.mem_append_left _ (List.mem_map.mpr ⟨q, h, rfl⟩)
theorem nd_fold {rs : List Rc} {e : En} (h : (rs.map (·.id)).Nodup) (h2 : ∀ r ∈ newE e, ∀ q ∈ rs, q.id ≠ r.id) : ((foldE rs e).map (·.id)).Nodup := by
  unfold foldE
  rw [List.map_append, List.map_map, show (rs.map ((·.id) ∘ stepR e)) = rs.map (·.id) from List.map_congr_left fun r _ => (step_fix e r).1, List.nodup_append]
  refine ⟨h, ?_, fun a ha b hb => ?_⟩
  · cases e <;> simp [newE]
  · obtain ⟨q, hq, rfl⟩ := List.mem_map.mp ha
    obtain ⟨r, hr, rfl⟩ := List.mem_map.mp hb
    exact h2 r hr q hq
theorem recAt_some {rs : List Rc} {i : Id} {r : Rc} (nd : (rs.map (·.id)).Nodup) (hr : r ∈ rs) (h1 : r.id = i) (h2 : isOpen r = true) (h3 : r.role ≠ lDiv) : recAt rs (some i) = some r := by
  have hp : recP (some i) r = true := by unfold recP; simp [h1, h2, h3]
  cases h : recAt rs (some i) with
  | none =>
    have := List.find?_eq_none.mp h r hr
    exact absurd hp this
  | some q =>
    have hq := List.find?_some h
    have hm := List.mem_of_find?_eq_some h
    have : q.id = i := by
      unfold recP at hq
      simp at hq
      exact hq.1
    rw [nd_inj nd q hm r hr (by rw [this, h1])]
theorem recAt_none {rs : List Rc} {i : Id} (h : ∀ r ∈ rs, r.id ≠ i) : recAt rs (some i) = none := by
  refine List.find?_eq_none.mpr fun r hr => ?_
  unfold recP
  simp [h r hr]
structure GI (n : Nat) (now life count : Int) (ids : List Id) (sec : Id → Option Int) (es : List En) : Prop where
  good : Good es
  len : es.length ≤ n + 1
  hd : ∃ l t rest, es = .boot l t :: rest ∧ 1 ≤ l
  n0 : 0 ≤ now
  n1 : now ≤ 200 + 1798 * n
  tm : ∀ e ∈ es, ∀ a, tmE e = some a → a ≤ now
  lf : lifeOf es = life
  c0 : 0 ≤ count
  idb : ∀ r ∈ recs es, r.id.1 = 3 ∧ (r.id.2.1 < life ∨ r.id.2.1 = life ∧ r.id.2.2 < count)
  nd : ((recs es).map (·.id)).Nodup
  cf : ∀ r ∈ recs es, 0 ≤ r.conf
  opd : ∀ r ∈ recs es, isOpen r = true → r.role = lDiv → ∃ p s, p ∈ ids ∧ r.parent = some p ∧ sec p = some s ∧ r.conf ≤ s
  opn : ∀ r ∈ recs es, isOpen r = true → r.role ≠ lDiv → r.id ∈ ids ∧ sec r.id = some r.conf ∧ r.parent = none
  act : ∀ i ∈ ids, ∃ r ∈ recs es, r.id = i ∧ isOpen r = true ∧ r.role ≠ lDiv
  okT : ∀ m, ∀ r ∈ recs (es.take m), RcOk r
theorem GI.ok {n : Nat} {now life count : Int} {ids : List Id} {sec : Id → Option Int} {es : List En} (g : GI n now life count ids sec es) : ∀ r ∈ recs es, RcOk r := by
  have := g.okT es.length
  rwa [List.take_length] at this
theorem okT_snoc {es : List En} {e : En} (h : ∀ m, ∀ r ∈ recs (es.take m), RcOk r) (h2 : ∀ r ∈ recs (es ++ [e]), RcOk r) : ∀ m, ∀ r ∈ recs ((es ++ [e]).take m), RcOk r := fun m r hr => by
  by_cases hm : m ≤ es.length
  · rw [List.take_append_of_le_length hm] at hr
    exact h m r hr
  · rw [List.take_of_length_le (by rw [List.length_append]; show es.length + 1 ≤ m; omega)] at hr
    exact h2 r hr
section
variable {n : Nat} {now now' life count : Int} {ids : List Id} {sec : Id → Option Int} {es : List En}
theorem GI.start {life now : Int} (h : 1 ≤ life) (h0 : 0 ≤ now) (h1 : now ≤ 200) (sec : Id → Option Int) : GI 0 now life 0 [] sec [.boot life now] := by
  have hl : lifeOf [] = 0 := rfl
  have hr : recs [.boot life now] = [] := rfl
  refine ⟨?_, Nat.le_refl _, ⟨life, now, [], rfl, h⟩, h0, by omega, fun e he a ha => ?_, ?_, Int.le_refl _, by rw [hr]; simp, by rw [hr]; simp, by rw [hr]; simp, by rw [hr]; simp, by rw [hr]; simp, by simp, fun m r h => by
    cases m with
    | zero => exact (List.not_mem_nil h).elim
    | succ m =>
      rw [List.take_of_length_le (by simp), hr] at h
      exact (List.not_mem_nil h).elim⟩
  · refine good_snoc (es := []) good_nil (fault_none rfl ?_ rfl rfl rfl) ⟨Nat.zero_le _, fun k a ha => by simp [recs] at ha⟩
    show decide (life ≤ lifeOf []) = false
    rw [hl]; exact decide_eq_false (by omega)
  · rw [List.mem_singleton] at he
    subst he
    simp [tmE] at ha
    omega
  · exact life_boot (es := []) (by rw [hl]; omega)
theorem GI.hd' (g : GI n now life count ids sec es) (e : En) : ∃ l t rest, es ++ [e] = .boot l t :: rest ∧ 1 ≤ l := by
  obtain ⟨l, t, rest, h, hl⟩ := g.hd
  exact ⟨l, t, rest ++ [e], by rw [h]; rfl, hl⟩
theorem GI.tm' (g : GI n now life count ids sec es) (h : now ≤ now') {e : En} (he : ∀ a, tmE e = some a → a ≤ now') : ∀ x ∈ es ++ [e], ∀ a, tmE x = some a → a ≤ now' := fun x hx a ha => by
  rcases List.mem_append.mp hx with hx | hx
  · have := g.tm x hx a ha; omega
  · rw [List.mem_singleton] at hx; subst hx; exact he a ha
theorem GI.boot (g : GI n now life count ids sec es) (h1 : now ≤ now') (h2 : now' ≤ 200 + 1798 * ((n + 1 : Nat) : Int)) {l : Int} (h3 : life < l) (sec' : Id → Option Int) : GI (n + 1) now' l 0 [] sec' (es ++ [.boot l now']) := by
  have hst : ∀ r : Rc, isOpen (stepR (.boot l now') r) = false := fun r => by
    cases h : isOpen r with
    | true => simp [stepR, h, isOpen_shut]
    | false => rw [stepR_closed h, h]
  have hcf : ∀ r : Rc, (stepR (.boot l now') r).conf = r.conf := fun r => by
    cases h : isOpen r <;> simp [stepR, h, shut]
  have hno : ∀ r ∈ recs (es ++ [.boot l now']), isOpen r = false := fun r hr => by
    rw [recs_snoc] at hr
    rcases mem_fold hr with ⟨q, hq, rfl⟩ | hr
    · exact hst q
    · exact (List.not_mem_nil hr).elim
  refine ⟨good_snoc g.good (fault_none (late_no g.tm fun a ha => by simp [tmE] at ha; omega) (by show decide _ = false; rw [g.lf]; exact decide_eq_false (by omega)) rfl rfl rfl) (grows_fold fun r _ _ => by rw [hcf]; exact Int.le_refl _), by have := g.len; rw [List.length_append]; simp; omega, g.hd' _, by have := g.n0; omega, h2, g.tm' h1 fun a ha => by simp [tmE] at ha; omega, life_boot (by rw [g.lf]; exact h3), Int.le_refl _, fun r hr => ?_, ?_, fun r hr => ?_, fun r hr ho => ?_, fun r hr ho => ?_, fun i hi => (List.not_mem_nil hi).elim, okT_snoc g.okT fun r hr => ?_⟩
  · rw [recs_snoc] at hr
    rcases mem_fold hr with ⟨q, hq, rfl⟩ | hr
    · rw [(step_fix _ q).1]
      obtain ⟨a, b⟩ := g.idb q hq
      exact ⟨a, .inl (by omega)⟩
    · exact (List.not_mem_nil hr).elim
  · rw [recs_snoc]; exact nd_fold g.nd fun r hr => (List.not_mem_nil hr).elim
  · rw [recs_snoc] at hr
    rcases mem_fold hr with ⟨q, hq, rfl⟩ | hr
    · rw [hcf]; exact g.cf q hq
    · exact (List.not_mem_nil hr).elim
  · rw [hno r hr] at ho; cases ho
  · rw [hno r hr] at ho; cases ho
  · rw [recs_snoc] at hr
    rcases mem_fold hr with ⟨q, hq, rfl⟩ | hr
    · obtain ⟨a, b, c, d, e⟩ := g.ok q hq
      cases h : isOpen q with
      | true =>
        simp only [stepR, h, if_true]
        exact ⟨a, b, c, d, fun z hz => by simp [shut] at hz; subst hz; decide +kernel⟩
      | false => rw [stepR_closed h]; exact ⟨a, b, c, d, e⟩
    · exact (List.not_mem_nil hr).elim
theorem opn_step {r : Rc} {i : Id} {ro c d : Str} {p : Option Str} {m w q : Option Id} {t : Int} : stepR (.opn i ro c d p m w q t) r = r := rfl
/-- a record more -/
theorem GI.opn0 (g : GI n now life count ids sec es) (h1 : now ≤ now') (h2 : now' ≤ 200 + 1798 * ((n + 1 : Nat) : Int)) {ro c d : Str} {p : Option Str} {m w q : Option Id} (hq : misE (recs es) (.opn (3, life, count) ro c d p m w q now') = false)
    (ids' : List Id) (sec' : Id → Option Int) (hi : ∀ i ∈ ids, i ∈ ids') (hs : ∀ i ∈ ids, sec' i = sec i) (ha : ∀ i ∈ ids', i ∈ ids ∨ (i = (3, life, count) ∧ ro ≠ lDiv))
    (hd : ro = lDiv → ∃ k, k ∈ ids ∧ q = some k) (hn : ro ≠ lDiv → (3, life, count) ∈ ids' ∧ sec' (3, life, count) = some 0 ∧ q = none) (ok : RcOk ⟨(3, life, count), ro, c, d, p, m, w, q, now', 0, none, none⟩) :
    GI (n + 1) now' life (count + 1) ids' sec' (es ++ [.opn (3, life, count) ro c d p m w q now']) := by
  have hfresh : ∀ r ∈ recs es, r.id ≠ (3, life, count) := fun r hr z => by
    obtain ⟨a, b⟩ := g.idb r hr
    rw [z] at b
    simp at b
  have hold : oldId (recs es) (.opn (3, life, count) ro c d p m w q now') = false := by
    show List.any _ _ = false
    rw [List.any_eq_false]
    intro r hr
    simp [hfresh r hr]
  refine ⟨good_snoc g.good (fault_none (late_no g.tm fun a ha => by simp [tmE] at ha; omega) rfl hold hq rfl) (grows_fold fun r _ _ => Int.le_refl _), by have := g.len; rw [List.length_append]; simp; omega, g.hd' _, by have := g.n0; omega, h2, g.tm' h1 fun a ha => by simp [tmE] at ha; omega, by rw [life_same rfl]; exact g.lf, by have := g.c0; omega, fun r hr => ?_, ?_, fun r hr => ?_, fun r hr ho hv => ?_, fun r hr ho hv => ?_, fun i hi => ?_, okT_snoc g.okT fun r hr => ?_⟩
  all_goals try rw [recs_snoc] at hr
  · rcases mem_fold hr with ⟨q0, hq0, rfl⟩ | hr
    · obtain ⟨a, b⟩ := g.idb r hq0
      refine ⟨a, b.imp id fun z => ⟨z.1, ?_⟩⟩
      show r.id.2.2 < count + 1
      have := z.2; omega
    · simp only [newE, List.mem_singleton] at hr
      subst hr
      exact ⟨rfl, .inr ⟨rfl, by show count < count + 1; omega⟩⟩
  · rw [recs_snoc]
    refine nd_fold g.nd fun r hr q hq => ?_
    simp only [newE, List.mem_singleton] at hr
    subst hr
    exact hfresh q hq
  · rcases mem_fold hr with ⟨q0, hq0, rfl⟩ | hr
    · exact g.cf r hq0
    · simp only [newE, List.mem_singleton] at hr
      subst hr
      exact Int.le_refl _
  · rcases mem_fold hr with ⟨q0, hq0, rfl⟩ | hr
    · obtain ⟨k, s, a1, a2, a3, a4⟩ := g.opd r hq0 ho hv
      exact ⟨k, s, hi k a1, a2, by rw [hs k a1]; exact a3, a4⟩
    · simp only [newE, List.mem_singleton] at hr
      subst hr
      obtain ⟨k, k1, k2⟩ := hd hv
      obtain ⟨r, hr, e1, e2, e3⟩ := g.act k k1
      obtain ⟨_, e4, _⟩ := g.opn r hr e2 e3
      rw [e1] at e4
      exact ⟨k, r.conf, hi k k1, k2, by rw [hs k k1]; exact e4, g.cf r hr⟩
  · rcases mem_fold hr with ⟨q0, hq0, rfl⟩ | hr
    · obtain ⟨a1, a2, a3⟩ := g.opn r hq0 ho hv
      exact ⟨hi _ a1, by rw [← a2]; exact hs _ a1, a3⟩
    · simp only [newE, List.mem_singleton] at hr
      subst hr
      exact hn hv
  · rw [recs_snoc]
    rcases ha i hi with h | ⟨rfl, h⟩
    · obtain ⟨r, hr, e1, e2, e3⟩ := g.act i h
      exact ⟨r, fold_mem (e := .opn (3, life, count) ro c d p m w q now') hr, e1, e2, e3⟩
    · exact ⟨_, List.mem_append_right _ (List.mem_singleton.mpr rfl), rfl, rfl, h⟩
  · rcases mem_fold hr with ⟨q0, hq0, rfl⟩ | hr
    · exact g.ok r hq0
    · simp only [newE, List.mem_singleton] at hr
      subst hr
      exact ok
/-- which records an id of the open ones is about -/
theorem GI.hit (g : GI n now life count ids sec es) {o : Id} (ho : o ∈ ids) {r : Rc} (hr : r ∈ recs es) (hh : hits r o = true) : isOpen r = true ∧ ∃ s, sec o = some s ∧ r.conf ≤ s ∧ (r.role = lDiv → r.parent = some o) ∧ (r.role ≠ lDiv → r.id = o) := by
  unfold hits at hh
  simp only [Bool.and_eq_true, Bool.or_eq_true, decide_eq_true_eq] at hh
  obtain ⟨h1, h2⟩ := hh
  refine ⟨h1, ?_⟩
  by_cases hv : r.role = lDiv
  · obtain ⟨k, s, a1, a2, a3, a4⟩ := g.opd r hr h1 hv
    have : k = o := by
      rcases h2 with h2 | h2
      · obtain ⟨q, hq, e1, e2, e3⟩ := g.act o ho
        have := nd_inj g.nd q hq r hr (by rw [e1, h2])
        subst this
        exact absurd hv e3
      · rw [a2] at h2; exact (Option.some.inj h2).symm
    subst this
    exact ⟨s, a3, a4, fun _ => a2, fun z => absurd hv z⟩
  · obtain ⟨a1, a2, a3⟩ := g.opn r hr h1 hv
    have : r.id = o := by
      rcases h2 with h2 | h2
      · exact h2.symm
      · rw [a3] at h2; cases h2
    subst this
    exact ⟨_, a2, Int.le_refl _, fun z => absurd z hv, fun _ => rfl⟩
theorem GI.mark (g : GI n now life count ids sec es) (h1 : now ≤ now') (h2 : now' ≤ 200 + 1798 * ((n + 1 : Nat) : Int)) {o : Id} (ho : o ∈ ids) {s s' : Int} (hs : sec o = some s) (hlt : s < s') (sec' : Id → Option Int) (hsec : ∀ i, sec' i = if i = o then some s' else sec i) :
    GI (n + 1) now' life count ids sec' (es ++ [.mark o s']) := by
  obtain ⟨r0, hr0, e1, e2, e3⟩ := g.act o ho
  have hat := recAt_some g.nd hr0 e1 e2 e3
  have hc0 : r0.conf = s := by
    have := (g.opn r0 hr0 e2 e3).2.1
    rw [e1, hs] at this
    exact (Option.some.inj this).symm
  have hle : ∀ r ∈ recs es, r.conf ≤ (stepR (.mark o s') r).conf := fun r hr => by
    cases h : hits r o with
    | true =>
      obtain ⟨_, s2, a, b, _⟩ := g.hit ho hr h
      rw [hs] at a
      cases a
      simp only [stepR, h, if_true]
      show r.conf ≤ s'
      omega
    | false => simp [stepR, h]
  have hopen : ∀ r, isOpen (stepR (.mark o s') r) = isOpen r := fun r => by
    cases h : hits r o <;> simp [stepR, h, markR, isOpen]
  refine ⟨good_snoc g.good (fault_none (late_no g.tm fun a ha => by simp [tmE] at ha) rfl rfl (by show Option.isNone _ = false; rw [hat]; rfl) ?_) (grows_fold fun r hr _ => hle r hr), by have := g.len; rw [List.length_append]; simp; omega, g.hd' _, by have := g.n0; omega, h2, g.tm' h1 fun a ha => by simp [tmE] at ha, by rw [life_same rfl]; exact g.lf, g.c0, fun r hr => ?_, ?_, fun r hr => ?_, fun r hr ho2 hv => ?_, fun r hr ho2 hv => ?_, fun i hi => ?_, okT_snoc g.okT fun r hr => ?_⟩
  all_goals try (rw [recs_snoc] at hr; rcases mem_fold hr with ⟨q, hq, rfl⟩ | hr; case inr => exact (List.not_mem_nil hr).elim)
  · show (match recAt (recs es) (some o) with | none => false | some r => decide (s' ≤ r.conf)) = false
    rw [hat]
    exact decide_eq_false (by omega)
  · rw [(step_fix _ q).1]; exact g.idb q hq
  · rw [recs_snoc]; exact nd_fold g.nd fun r hr => (List.not_mem_nil hr).elim
  · have a := hle q hq; have b := g.cf q hq; omega
  · rw [hopen] at ho2
    rw [(step_fix _ q).2.1] at hv
    rw [(step_fix _ q).2.2.2.2.2.2.2.1]
    obtain ⟨k, s2, a1, a2, a3, a4⟩ := g.opd q hq ho2 hv
    cases h : hits q o with
    | true =>
      have := (g.hit ho hq h).2
      obtain ⟨s3, b1, b2, b3, b4⟩ := this
      refine ⟨o, s', ho, b3 hv, by rw [hsec, if_pos rfl], ?_⟩
      simp [stepR, h, markR]
    | false =>
      have hne : k ≠ o := fun z => by
        unfold hits at h
        rw [ho2, a2, z] at h
        simp at h
      refine ⟨k, s2, a1, a2, by rw [hsec, if_neg hne]; exact a3, ?_⟩
      simp only [stepR, h]
      exact a4
  · rw [hopen] at ho2
    rw [(step_fix _ q).2.1] at hv
    rw [(step_fix _ q).2.2.2.2.2.2.2.1, (step_fix _ q).1]
    obtain ⟨a1, a2, a3⟩ := g.opn q hq ho2 hv
    refine ⟨a1, ?_, a3⟩
    cases h : hits q o with
    | true =>
      obtain ⟨_, s3, b1, b2, b3, b4⟩ := g.hit ho hq h
      rw [hsec, if_pos (b4 hv)]
      simp [stepR, h, markR]
    | false =>
      have hne : q.id ≠ o := fun z => by
        unfold hits at h
        rw [ho2, z] at h
        simp at h
      rw [hsec, if_neg hne, a2]
      simp [stepR, h]
  · obtain ⟨r, hr, f1, f2, f3⟩ := g.act i hi
    rw [recs_snoc]
    exact ⟨_, fold_mem hr, by rw [(step_fix _ r).1]; exact f1, by rw [hopen]; exact f2, by rw [(step_fix _ r).2.1]; exact f3⟩
  · obtain ⟨a, b, c, d, e⟩ := g.ok q hq
    cases h : hits q o <;> simp only [stepR, h] <;> exact ⟨a, b, c, d, e⟩
theorem GI.close (g : GI n now life count ids sec es) (h1 : now ≤ now') (h2 : now' ≤ 200 + 1798 * ((n + 1 : Nat) : Int)) {o : Id} (ho : o ∈ ids) {c : Str} (hc : PyData.strOk c = true) :
    GI (n + 1) now' life count (ids.filter fun i => !decide (i = o)) sec (es ++ [.close o c now']) := by
  obtain ⟨r0, hr0, e1, e2, e3⟩ := g.act o ho
  have hat := recAt_some g.nd hr0 e1 e2 e3
  have hcf : ∀ r, (stepR (.close o c now') r).conf = r.conf := fun r => by
    cases h : hits r o <;> simp [stepR, h, shut]
  have hop : ∀ r, isOpen (stepR (.close o c now') r) = true → isOpen r = true ∧ hits r o = false ∧ stepR (.close o c now') r = r := fun r z => by
    cases h : hits r o with
    | true => simp [stepR, h, isOpen_shut] at z
    | false =>
      simp only [stepR, h] at z ⊢
      exact ⟨z, trivial, rfl⟩
  have mm : ∀ i, i ∈ ids → i ≠ o → i ∈ ids.filter fun i => !decide (i = o) := fun i hi z => List.mem_filter.mpr ⟨hi, by simp [z]⟩
  refine ⟨good_snoc g.good (fault_none (late_no g.tm fun a ha => by simp [tmE] at ha; omega) rfl rfl (by show Option.isNone _ = false; rw [hat]; rfl) rfl) (grows_fold fun r _ _ => by rw [hcf]; exact Int.le_refl _), by have := g.len; rw [List.length_append]; simp; omega, g.hd' _, by have := g.n0; omega, h2, g.tm' h1 fun a ha => by simp [tmE] at ha; omega, by rw [life_same rfl]; exact g.lf, g.c0, fun r hr => ?_, ?_, fun r hr => ?_, fun r hr ho2 hv => ?_, fun r hr ho2 hv => ?_, fun i hi => ?_, okT_snoc g.okT fun r hr => ?_⟩
  all_goals try (rw [recs_snoc] at hr; rcases mem_fold hr with ⟨q, hq, rfl⟩ | hr; case inr => exact (List.not_mem_nil hr).elim)
  · rw [(step_fix _ q).1]; exact g.idb q hq
  · rw [recs_snoc]; exact nd_fold g.nd fun r hr => (List.not_mem_nil hr).elim
  · rw [hcf]; exact g.cf q hq
  · obtain ⟨f1, f2, f3⟩ := hop q ho2
    rw [f3] at hv ⊢
    obtain ⟨k, s2, a1, a2, a3, a4⟩ := g.opd q hq f1 hv
    have hne : k ≠ o := fun z => by
      unfold hits at f2
      rw [f1, a2, z] at f2
      simp at f2
    exact ⟨k, s2, mm k a1 hne, a2, a3, a4⟩
  · obtain ⟨f1, f2, f3⟩ := hop q ho2
    rw [f3] at hv ⊢
    obtain ⟨a1, a2, a3⟩ := g.opn q hq f1 hv
    have hne : q.id ≠ o := fun z => by
      unfold hits at f2
      rw [f1, z] at f2
      simp at f2
    exact ⟨mm _ a1 hne, a2, a3⟩
  · obtain ⟨hi, hne⟩ := List.mem_filter.mp hi
    simp at hne
    obtain ⟨r, hr, f1, f2, f3⟩ := g.act i hi
    rw [recs_snoc]
    have hh : hits r o = false := by
      unfold hits
      rw [(g.opn r hr f2 f3).2.2, f1]
      simp
      exact fun _ z => hne z.symm
    refine ⟨_, fold_mem (e := .close o c now') hr, ?_⟩
    have : stepR (.close o c now') r = r := by simp [stepR, hh]
    rw [this]
    exact ⟨f1, f2, f3⟩
  · obtain ⟨a, b, c2, d, e⟩ := g.ok q hq
    cases h : hits q o with
    | true =>
      simp only [stepR, h, if_true]
      exact ⟨a, b, c2, d, fun z hz => by simp [shut] at hz; subst hz; exact hc⟩
    | false => simp only [stepR, h]; exact ⟨a, b, c2, d, e⟩
theorem GI.idle (g : GI n now life count ids sec es) (h1 : now ≤ now') (h2 : now' ≤ 200 + 1798 * ((n + 1 : Nat) : Int)) {e : En} (he : (∃ a b, e = .known a b) ∨ ∃ a, e = .forward a) : GI (n + 1) now' life count ids sec (es ++ [e]) := by
  have hr : recs (es ++ [e]) = recs es := by
    rw [recs_snoc]
    unfold foldE
    rcases he with ⟨a, b, rfl⟩ | ⟨a, rfl⟩
    · show List.map _ _ ++ [] = _; rw [List.append_nil]; exact List.map_id' _
    · show List.map _ _ ++ [] = _; rw [List.append_nil]; exact List.map_id' _
  have ht : tmE e = none := by rcases he with ⟨a, b, rfl⟩ | ⟨a, rfl⟩ <;> rfl
  have hl : lifeE e = none := by rcases he with ⟨a, b, rfl⟩ | ⟨a, rfl⟩ <;> rfl
  have hf : faultE e es (recs es) = none := by
    refine fault_none (late_no g.tm fun a ha => by rw [ht] at ha; cases ha) ?_ ?_ ?_ ?_ <;> rcases he with ⟨a, b, rfl⟩ | ⟨a, rfl⟩ <;> rfl
  refine ⟨good_snoc g.good hf ?_, by have := g.len; rw [List.length_append]; simp; omega, g.hd' _, by have := g.n0; omega, h2, g.tm' h1 (fun a ha => by rw [ht] at ha; cases ha), by rw [life_same hl]; exact g.lf, g.c0, by rw [hr]; exact g.idb, by rw [hr]; exact g.nd, by rw [hr]; exact g.cf, by rw [hr]; exact g.opd, by rw [hr]; exact g.opn, by rw [hr]; exact g.act, okT_snoc g.okT (by rw [hr]; exact g.ok)⟩
  refine grows_fold fun r _ _ => ?_
  rcases he with ⟨a, b, rfl⟩ | ⟨a, rfl⟩ <;> exact Int.le_refl _
end
/-- what is known of the made entries -/
structure EsOk (es : List En) : Prop where
  good : Good es
  len : es.length ≤ 60
  hd : ∃ l t rest, es = .boot l t :: rest ∧ 1 ≤ l
  tm : ∀ e ∈ es, ∀ a, tmE e = some a → a ≤ 1000000
  idb : ∀ r ∈ recs es, r.id.1 = 3
  nd : ((recs es).map (·.id)).Nodup
  okT : ∀ m, ∀ r ∈ recs (es.take m), RcOk r
  ok : ∀ r ∈ recs es, RcOk r
theorem GI.es {n : Nat} {now life count : Int} {ids : List Id} {sec : Id → Option Int} {es : List En} (g : GI n now life count ids sec es) (hn : n ≤ 55) : EsOk es :=
  ⟨g.good, by have := g.len; omega, g.hd, fun e he a ha => by have := g.tm e he a ha; have := g.n1; omega, fun r hr => (g.idb r hr).1, g.nd, g.okT, g.ok⟩
theorem ids_take {es : List En} {n : Nat} {r : Rc} (h : r ∈ recs (es.take n)) : ∃ q ∈ recs es, q.id = r.id := by
  have h1 : r.id ∈ (recs (es.take n)).map (·.id) := List.mem_map.mpr ⟨r, h, rfl⟩
  rw [ids_recs] at h1
  have h2 : r.id ∈ es.filterMap idE := by
    obtain ⟨e, he, h⟩ := List.mem_filterMap.mp h1
    exact List.mem_filterMap.mpr ⟨e, List.mem_of_mem_take he, h⟩
  rw [← ids_recs] at h2
  obtain ⟨q, hq, e⟩ := List.mem_map.mp h2
  exact ⟨q, hq, e⟩
/-- the wrong entries -/
theorem wrong_mark {es : List En} (g : EsOk es) (n : Nat) : faultE (.mark (5, 5, 5) 1) (es.take n) (recs (es.take n)) = some "not open" := by
  rw [fault_rest rfl]
  unfold faultR
  have : misE (recs (es.take n)) (.mark (5, 5, 5) 1) = true := by
    show Option.isNone _ = true
    rw [recAt_none fun r hr z => ?_]
    · rfl
    · obtain ⟨q, hq, e⟩ := ids_take hr
      have := g.idb q hq
      rw [e, z] at this
      simp at this
  rw [this]
  rfl
theorem late_take {es : List En} (g : EsOk es) (n : Nat) {e : En} (he : ∀ a, tmE e = some a → 1000000 ≤ a) : lateE e (es.take n) = false :=
  late_no (now := 1000000) (fun x hx a ha => g.tm x (List.mem_of_mem_take hx) a ha) he
theorem wrong_close {es : List En} (g : EsOk es) (n : Nat) {a : Int} (ha : 1000000 ≤ a) : faultE (.close (5, 5, 5) "lost" a) (es.take n) (recs (es.take n)) = some "not open" := by
  rw [fault_rest (late_take g n fun b hb => by simp [tmE] at hb; omega)]
  unfold faultR
  have : misE (recs (es.take n)) (.close (5, 5, 5) "lost" a) = true := by
    show Option.isNone _ = true
    rw [recAt_none fun r hr z => ?_]
    · rfl
    · obtain ⟨q, hq, e⟩ := ids_take hr
      have := g.idb q hq
      rw [e, z] at this
      simp at this
  rw [this]
  rfl
theorem wrong_boot {es : List En} (g : EsOk es) (n : Nat) (hn : 0 < n) {a : Int} (ha : 1000000 ≤ a) : faultE (.boot 1 a) (es.take n) (recs (es.take n)) = some "life" := by
  rw [fault_rest (late_take g n fun b hb => by simp [tmE] at hb; omega)]
  unfold faultR
  have : oldLife (es.take n) (.boot 1 a) = true := by
    show decide _ = true
    obtain ⟨l, t, rest, h, hl⟩ := g.hd
    obtain ⟨m, rfl⟩ : ∃ m, n = m + 1 := ⟨n - 1, by omega⟩
    have : l ≤ lifeOf (es.take (m + 1)) := mxL_ge (by rw [h, List.take_succ_cons, List.filterMap_cons]; exact List.mem_cons_self)
    exact decide_eq_true (by omega)
  rw [this]
  rfl
theorem eq_id {K : PySem.W.Frag} {own : Own} {P : PD} {i j : Id} (p : P (.bl (decide (i = j))) own) : R2X K (uEq K) (idD i) (idD j) own P :=
  eq_dat (n := 1) (m := 1) (sh_id _) (sh_id _) fun b hb => by
    have : b = decide (i = j) := by rw [Bool.eq_iff_iff, hb, decide_eq_true_eq]; exact ⟨idD_inj, fun z => by rw [z]⟩
    rw [this]; exact p
/-- records behind pointers, the newest ahead -/
abbrev cellsR (ad : Ad) : List Addr → List Rc → Own := cellsG (rcC ad)
def recO (ad : Ad) (recs : Addr) (as : List Addr) (rs : List Rc) (o : Own) : Own := cellsR ad as rs ++ (recs, .lst (as.map Dat.ptr)) :: o
theorem recO_mem {ad : Ad} {p : Addr} {as : List Addr} {rs : List Rc} {o : Own} : (p, Cell.lst (as.map Dat.ptr)) ∈ recO ad p as rs o := List.mem_append_right _ List.mem_cons_self
theorem recO_at {ad : Ad} {p : Addr} {as : List Addr} {rs : List Rc} {o : Own} {i : Nat} {a : Addr} {r : Rc} (h : as.length = rs.length) (h1 : as[i]? = some a) (h2 : rs[i]? = some r) :
    ∃ l q, recO ad p as rs o = l ++ (a, rcC ad r) :: q ∧ ∀ r2, recO ad p as (rs.set i r2) o = l ++ (a, rcC ad r2) :: q := by
  obtain ⟨l, q, e1, e2⟩ := cellsG_at (rcC ad) h h1 h2
  refine ⟨l, q ++ (p, .lst (as.map Dat.ptr)) :: o, ?_, fun r2 => ?_⟩
  · unfold recO cellsR; rw [e1]; simp
  · unfold recO cellsR; rw [e2]; simp
theorem len_at {α β : Type} {as : List α} {rs : List β} {i : Nat} {a : α} (h : as.length = rs.length) (h1 : as[i]? = some a) : ∃ r, rs[i]? = some r := by
  have hi := (List.getElem?_eq_some_iff.mp h1).1
  exact ⟨rs[i]'(by omega), by simp [show i < rs.length by omega]⟩
section
variable {P : Program} {w : World} {K : PySem.W.Frag} {mg : Str → Option Value} {base : Heap} {ad : Ad}
/-! ### _law_state -/
def con__law_state (_ : Ad) : Con := fun args own P _ => ∃ (ns : List Int) (k salt : Int), args = [.scr (ns.map Dat.int), .int k, .int salt] ∧ ns.length ≤ 63 ∧ (∀ z ∈ ns, z.natAbs < 2 ^ sB) ∧ 0 ≤ k ∧ k < 1000 ∧ 0 ≤ salt ∧ salt < 1000 ∧
  ∀ a, a ∉ own.map (·.1) → P (.ptr a) ((a, .rng) :: own)
theorem rng_of {a b : Int} {j : Nat} (ha : 0 ≤ a) (hb : 0 ≤ b) (h1 : Bd a j) (h2 : Bd b j) (h : j ≤ rB) : RngOk a b := ⟨ha, h1.mono h, hb, h2.mono h⟩
theorem ok__law_state (T : Tx K mg ad) : FnOk P w K mg base CX0 1 ad.a__law_state ad.d__law_state ["script", "k", "salt"] (SpG K (con__law_state ad)) := by
  refine okS T.F__law_state sc__law_state (by rintro args own P XP ⟨_, _, _, rfl, _⟩; rfl) fun cdv A outer s H E hr => ?_
  have hu1 := hu_of hr
  have hu64 := hr.units
  have hu65 : (A.deeper (PyProof.Rows.envOfC "_law_state" (defScope s__law_state) s.heap.objs.size ad.a__law_state cdv)).units + 65 < cLine := by have := hr.un; omega
  refine ⟨_, (pss_cons (ps_set (i := 3) sc__law_state.nd rfl (by first | exact Or.inl rfl | exact Or.inr rfl) pe_int)
      (pss_cons (ps_if (pt_cmpR op_gt (pe_callB (k_len (K := K) rfl) (by rfl) T.b_len (by decide +kernel) (pa_cons (pv 0) pa_nil)) pe_int (nomark _)) (pss_one (ps_set (i := 3) sc__law_state.nd rfl (by first | exact Or.inl rfl | exact Or.inr rfl) (pe_callTy call_intU (by rfl) T.b_int (by decide +kernel) (pa_cons (pe_ix (k_ix (K := K) rfl hu1) (pv 0) (pe_op op_mod (pe_callTy call_intU (by rfl) T.b_int (by decide +kernel) (pa_cons (pv 1) pa_nil)) (pe_callB (k_len (K := K) rfl) (by rfl) T.b_len (by decide +kernel) (pa_cons (pv 0) pa_nil))) (fun _ _ => rfl)) pa_nil)))) pss_nil)
      (pss_cons (ps_if (pt_cmpR op_lt (pv 3) pe_int (nomark _)) (pss_one (ps_set (i := 3) sc__law_state.nd rfl (by first | exact Or.inl rfl | exact Or.inr rfl) (pe_op op_sub pe_int (pe_op op_mulU pe_int (pv 3))))) pss_nil)
      (pss_cons (ps_if (PW.pt (pw_and (pt_cmpR op_lt (pv 1) (pe_callB (k_len (K := K) rfl) (by rfl) T.b_len (by decide +kernel) (pa_cons (pv 0) pa_nil)) (nomark _)) (pw_and1 (pt_cmpR op_ge (pv 3) (pe_op op_pow pe_int pe_int) (nomark _))))) (pss_one (ps_ret (pe_lst (pa_cons (pv 3) (pa_cons (pe_op (k_add (K := K) rfl) (pv 2) pe_int) pa_nil))))) pss_nil)
      (pss_one (ps_ret (pe_lst (pa_cons pe_int (pa_cons (pe_op (k_add (K := K) rfl) (pe_op (k_add (K := K) rfl) (pe_op (k_add (K := K) rfl) (pe_op op_mulU (pv 3) pe_int) (pe_op op_mulU pe_int (pv 1))) (pe_op op_mulU pe_int (pv 2))) pe_int) pa_nil))))))))), ?_⟩
  try dsimp only [cxOf]
  rintro args own P XP ⟨ns, k, salt, rfl, hl, hb, k0, k1, s0, s1, hq⟩
  show SS K E0 _ [some _, some _, some _, none] _ _
  walk_at "st"
  refine ss_mid (fun s o => ∃ c : Int, s = [some (.scr (ns.map Dat.int)), some (.int k), some (.int salt), some (.int c)] ∧ o = own ∧ Bd c sB) ?_ ?_
  · walk_at "go"
    refine iteD (fun h => ?_) (fun h => ?_)
    · walk_at "go"
      obtain ⟨z, _, hz, hi⟩ := atI_ok (xs := ns.map Dat.int) (i := k % ((ns.map Dat.int).length : Int)) (Int.emod_nonneg _ (by omega)) (Int.emod_lt_of_pos _ (by omega))
      obtain ⟨c, hc, rfl⟩ := List.mem_map.mp hz
      refine ix_lst (.inr rfl) hi ?_
      walk_at "go"
      exact ⟨rfl, hb c hc⟩
    · walk_at "go"
      exact ⟨rfl, Nat.two_pow_pos _⟩
  rintro s o ⟨c, rfl, rfl, hc⟩
  refine ss_mid (fun s o' => ∃ c : Int, s = [some (.scr (ns.map Dat.int)), some (.int k), some (.int salt), some (.int c)] ∧ o' = o ∧ 0 ≤ c ∧ Bd c (sB + 2)) ?_ ?_
  · walk_at "go"
    refine iteD (fun h => ?_) (fun h => ?_)
    · have m1 : IntMulOk 2 c := Bd.ok (bd_lit (k := 2) (by decide)) hc (by decide)
      walk_at "go"
      have hd := Bd.add hc hc
      refine ⟨rfl, by omega, ?_⟩
      have := Bd.sub (a := 1) ((bd_lit (k := 1) (by decide)).mono (by decide)) hd
      rwa [show c + c = 2 * c by omega] at this
    · walk_at "go"
      exact ⟨rfl, by omega, hc.mono (by decide)⟩
  rintro s o ⟨c, rfl, rfl, c0, hc⟩
  refine ss_mid (fun s o' => s = [some (.scr (ns.map Dat.int)), some (.int k), some (.int salt), some (.int c)] ∧ o' = o) ?_ ?_
  · walk_at "go"
    refine iteD (fun h => ?_) (fun h => ?_)
    · walk_at "go"
      refine iteD (fun h => ?_) (fun h => ?_)
      · walk_at "go"
        refine ex_lstR (x := 0) (y := 0) ?_
        walk_at "go"
        exact ⟨_, _, rfl, rng_of (j := sB + 2) c0 (by omega) hc ((bd_lit (k := 64) (by omega)).mono (by decide)) (by decide), hq⟩
      · walk_at "go"
        exact ⟨rfl, rfl⟩
    · walk_at "go"
      exact ⟨rfl, rfl⟩
  rintro s o' ⟨rfl, rfl⟩
  have m1 : IntMulOk c 61 := Bd.ok hc (bd_lit (k := 6) (by decide)) (by decide)
  have m2 : IntMulOk 7919 k := Bd.ok (bd_lit (k := 64) (by decide)) (bd_lit (k := 64) (by omega)) (by decide)
  have m3 : IntMulOk 104729 salt := Bd.ok (bd_lit (k := 64) (by decide)) (bd_lit (k := 64) (by omega)) (by decide)
  walk_at "1"
  refine ex_lstR (x := 0) (y := 0) ?_
  walk_at "go"
  refine ⟨_, _, rfl, rng_of (j := sB + 10) (by decide) (by omega) ((bd_lit (k := 1) (by decide)).mono (by decide)) ?_ (by decide), hq⟩
  have h1 := (hc.mul (bd_lit (n := 61) (k := 6) (by decide))).mono (show sB + 2 + 6 ≤ sB + 9 by decide)
  have h2 : Bd (7919 * k + 104729 * salt + 1) (sB + 9) := (bd_lit (k := 64) (by omega)).mono (by decide)
  have := h1.add h2
  have e : c * 61 + 7919 * k + 104729 * salt + 1 = c * 61 + (7919 * k + 104729 * salt + 1) := by omega
  rw [e]; exact this
/-! ### _law_draw -/
def con__law_draw (_ : Ad) : Con := fun args own P _ => ∃ (s : Addr) (m : Int), args = [.ptr s, .int m] ∧ 1 ≤ m ∧ Bd m 64 ∧ ((Rg s own ∧ ∀ d, 0 ≤ d → d < m → P (.int d) own) ∨
  ∃ l r x y, own = l ++ (s, .lst [.int x, .int y]) :: r ∧ RngOk x y ∧ P (.int (drw x y m).1) (l ++ (s, .lst [.int (drw x y m).2.1, .int (drw x y m).2.2]) :: r))
theorem dr {ad : Ad} {own : Own} {P : PD} {XP : XD} {s : Addr} {m : Int} (h : Rg s own) (h1 : 1 ≤ m) (h2 : m < 18446744073709551616) (k : ∀ d, 0 ≤ d → d < m → P (.int d) own) : con__law_draw ad [.ptr s, .int m] own P XP :=
  ⟨s, m, rfl, h1, by unfold Bd; omega, .inl ⟨h, k⟩⟩
/-- "".join([str(_law_draw(state, m)) for .. in range(..)]) -/
theorem ex_digs {ad : Ad} {K : PySem.W.Frag} {sl : SL} {own : Own} {P : PD} {ta : TA} {i j : Nat} {m : Int} {vs : List Nat} (hv : i ∈ vs) (h : AX K ta sl own fun ds o => ∃ (n : Int) (s : Addr), ds = [.int n] ∧ 0 ≤ n ∧ n ≤ 1000 ∧ Rg s o ∧ (∀ d, ((wipeS sl vs).set i d)[j]? = some (some (.ptr s))) ∧ 1 ≤ m ∧ m ≤ 10 ∧ ∀ z, Dgt m.toNat z → z.length = n.toNat → P (.str z) o) :
    EX K (tLc (iRng1 ta) (gName i) tYes (tCB rStrI (tCons (tCall (SpG K (con__law_draw ad)) [] E0 (tCons (tVar j) (tCons (tC (.int m)) tNil))) tNil)) vs) sl own (fun e o2 => RMX K (rJoin K) (.str (Str.ofString "")) [e] o2 P) := by
  refine ex_lc (ix_rng1 ?_)
  intro F V0 σ H hs hl Q q
  refine h F V0 σ H hs hl Q fun xs H' ds o a b c ⟨n, s, e, n0, n1, hr, hj, m0, m1, hq⟩ => q xs H' ds o a b c ?_
  refine ⟨n, e, by omega, by omega, fun i acc o' => o' = o ∧ ∃ ys : List Str, acc = ys.map Dat.str ∧ ys.length = i ∧ ∀ y ∈ ys, y.length = 1 ∧ Dgt m.toNat y, ⟨rfl, [], rfl, rfl, fun y h => (List.not_mem_nil h).elim⟩, fun _ _ _ _ => trivial, ?_, ?_⟩
  · rintro k x acc o' hx ⟨rfl, ys, rfl, hi, hy⟩
    obtain ⟨hlt, rfl⟩ := rng_at hx
    refine gx_name hv (tx_yes (iteT (ex_cb (ax_cons (ex_call0 (ax_cons (ex_var (hj _) (ax_cons (ex_int (ax_nil ?_))))))))))
    refine dr hr m0 (by omega) fun c c0 c1 => ax_nil (str_int (small_log c0 (by omega)) ?_)
    refine ⟨by rw [List.length_map]; show _ < 16777216; omega, rfl, ys ++ [Str.ofString (toString c)], by rw [List.map_append]; rfl, by rw [List.length_append, hi]; rfl, fun y h => ?_⟩
    rcases List.mem_append.mp h with h | h
    · exact hy y h
    · rw [List.mem_singleton] at h
      subst h
      exact str_digit c0 (by omega) (by omega)
  · rintro acc o' ⟨rfl, ys, rfl, hi, hy⟩
    rw [List.length_map, List.length_range] at hi
    have h1 := fun y h => (hy y h).1
    have h2 : (Str.ofString "").length = 0 := by decide +kernel
    refine join_lst (.inl (.inl (.inl rfl))) (by rw [sum_len h1, h2]; omega) (hq _ (Dgt.join fun y h => (hy y h).2) ?_)
    show (Txt.join Str.empty ys).length = _
    rw [join_len h1]
    exact hi
theorem ok__law_draw (T : Tx K mg ad) : FnOk P w K mg base CX0 1 ad.a__law_draw ad.d__law_draw ["state", "many"] (SpG K (con__law_draw ad)) := by
  refine okS T.F__law_draw sc__law_draw (by rintro args own P XP ⟨_, _, rfl, _⟩; rfl) fun cdv A outer s H E hr => ?_
  have hu1 := hu_of hr
  have hu64 := hr.units
  have hu65 : (A.deeper (PyProof.Rows.envOfC "_law_draw" (defScope s__law_draw) s.heap.objs.size ad.a__law_draw cdv)).units + 65 < cLine := by have := hr.un; omega
  refine ⟨_, (pss_cons (ps_if (pt_cmpR op_lt (pe_ix (k_ix (K := K) rfl hu1) (pv 0) pe_int (fun _ _ => rfl)) (pv 1) (nomark _)) (pss_cons (ps_set (i := 3) sc__law_draw.nd rfl (by first | exact Or.inl rfl | exact Or.inr rfl) (pe_op op_mod (pe_callTy call_intU (by rfl) T.b_int (by decide +kernel) (pa_cons (pe_op (k_add (K := K) rfl) (pe_op (k_add (K := K) rfl) (pe_op op_mulU (pe_ix (k_ix (K := K) rfl hu1) (pv 0) pe_int (fun _ _ => rfl)) (pe_ix (k_ix (K := K) rfl hu1) (pv 0) pe_int (fun _ _ => rfl))) (pe_op op_mulU pe_int (pe_ix (k_ix (K := K) rfl hu1) (pv 0) pe_int (fun _ _ => rfl)))) pe_int) pa_nil)) pe_int))
      (pss_cons (ps_set (i := 4) sc__law_draw.nd rfl (by first | exact Or.inl rfl | exact Or.inr rfl) (pe_op op_mod (pe_callTy call_intU (by rfl) T.b_int (by decide +kernel) (pa_cons (pe_op (k_add (K := K) rfl) (pe_op (k_add (K := K) rfl) (pe_op op_mulU (pv 3) (pv 3)) (pe_op op_mulU pe_int (pv 3))) pe_int) pa_nil)) pe_int))
      (pss_cons (ps_asg (pv 4) (pg_sub (pv 0) pe_int (set_U hu1)))
      (pss_one (ps_asg (pe_op (k_add (K := K) rfl) (pv 1) (pe_op op_mod (pe_callTy call_intU (by rfl) T.b_int (by decide +kernel) (pa_cons (pe_op (k_add (K := K) rfl) (pe_op op_mulU (pv 4) (pv 4)) (pv 3)) pa_nil)) pe_int)) (pg_sub (pv 0) pe_int (set_U hu1))))))) pss_nil)
      (pss_cons (ps_set (i := 2) sc__law_draw.nd rfl (by first | exact Or.inl rfl | exact Or.inr rfl) (pe_op op_mod (pe_callTy call_intU (by rfl) T.b_int (by decide +kernel) (pa_cons (pe_ix (k_ix (K := K) rfl hu1) (pv 0) pe_int (fun _ _ => rfl)) pa_nil)) (pv 1)))
      (pss_cons (ps_asg (pe_op op_fdivW (pe_ix (k_ix (K := K) rfl hu1) (pv 0) pe_int (fun _ _ => rfl)) (pv 1)) (pg_sub (pv 0) pe_int (set_U hu1)))
      (pss_one (ps_ret (pv 2)))))), ?_⟩
  try dsimp only [cxOf]
  rintro args own P XP ⟨s, m, rfl, m1, hm, h⟩
  show SS K E0 _ [some _, some _, none, none, none] _ _
  rcases h with ⟨⟨l, r, rfl⟩, hq⟩ | ⟨l, r, x, y, rfl, z, hq⟩
  case' inl =>
    refine ss_open fun x y z => ?_
    have hq2 : ∃ o', Cl (l ++ (s, .lst [.int (drw x y m).2.1, .int (drw x y m).2.2]) :: r) o' ∧ P (.int (drw x y m).1) o' := by
      obtain ⟨d0, d1, d2⟩ := drw_ok z m1 hm
      exact ⟨_, cl_rng d2, hq _ d0 d1⟩
  case' inr =>
    have hq2 : ∃ o', Cl (l ++ (s, .lst [.int (drw x y m).2.1, .int (drw x y m).2.2]) :: r) o' ∧ P (.int (drw x y m).1) o' := ⟨_, Cl.refl _, hq⟩
  all_goals
    clear hq
    have tk : ∀ {x y : Int}, LstD (l ++ (s, Cell.lst [.int x, .int y]) :: r) (.ptr s) [.int x, .int y] := .inl trk_ptr
    obtain ⟨x0, xb, y0, yb⟩ := id z
    have sq := (Bd.ok yb yb (show rB + rB ≤ 100000000 by decide))
    have s2 := (Bd.ok (bd_lit (n := 48271) (k := 64) (by decide)) yb (show 64 + rB ≤ 100000000 by decide))
    refine ss_mid (fun sl o => ∃ u w x' y', sl = [some (.ptr s), some (.int m), none, u, w] ∧ o = l ++ (s, .lst [.int x', .int y']) :: r ∧ drw x y m = (x' % m, x' / m, y') ∧ 0 ≤ x') ?_ ?_
    · walk_at "go"
      refine ix_lst tk rfl ?_
      walk_at "go"
      refine iteD (fun h => ?_) (fun h => ?_)
      · walk_at "st"
        refine ix_lst tk rfl ?_
        walk_at "go"
        refine ix_lst tk rfl ?_
        walk_at "go"
        refine ix_lst tk rfl ?_
        walk_at "go"
        generalize hone : (y * y + 48271 * y + 12345) % 2305843009213693951 = one
        have b0 := Int.emod_nonneg (y * y + 48271 * y + 12345) (show (2305843009213693951 : Int) ≠ 0 by decide)
        have b1 := Int.emod_lt_of_pos (y * y + 48271 * y + 12345) (show (0 : Int) < 2305843009213693951 by decide)
        rw [hone] at b0 b1
        have o1 : IntMulOk one one := Bd.ok (k := 64) (j := 64) (bd_lit (by omega)) (bd_lit (by omega)) (by decide)
        have o2 : IntMulOk 69621 one := Bd.ok (k := 64) (j := 64) (bd_lit (by omega)) (bd_lit (by omega)) (by decide)
        walk_at "go"
        generalize htwo : (one * one + 69621 * one + 77) % 618970019642690137449562111 = two
        have c0 := Int.emod_nonneg (one * one + 69621 * one + 77) (show (618970019642690137449562111 : Int) ≠ 0 by decide)
        have c1 := Int.emod_lt_of_pos (one * one + 69621 * one + 77) (show (0 : Int) < 618970019642690137449562111 by decide)
        rw [htwo] at c0 c1
        have o3 : IntMulOk two two := Bd.ok (k := 100) (j := 100) (bd_lit (by omega)) (bd_lit (by omega)) (by decide)
        refine set_lst (j := 1) rfl ?_
        walk_at "go"
        refine set_lst (j := 0) rfl ?_
        have d0 := Int.emod_nonneg (two * two + one) (show (162259276829213363391578010288127 : Int) ≠ 0 by decide)
        exact ⟨_, _, _, _, rfl, rfl, by unfold drw; rw [if_pos h]; simp only [hone, htwo], by omega⟩
      · walk_at "go"
        exact ⟨_, _, _, _, rfl, rfl, by unfold drw; rw [if_neg h], x0⟩
    · rintro sl o ⟨u, w, x', y', rfl, rfl, he, x0'⟩
      walk_at "go"
      refine ix_lst tk rfl ?_
      walk_at "go"
      have dv : CDivW x' m := wide_div (by omega) hm (by decide) (by decide)
      refine ix_lst tk rfl ?_
      walk_at "go"
      refine set_lst (j := 0) rfl ?_
      walk_at "1"
      refine ex_end ?_
      walk_at "go"
      rw [he] at hq2
      exact hq2
/-! ### _law_number -/
def NumOk (z : Str) : Prop := Dgt 10 z ∧ z.length ≤ 16
theorem NumOk.s {z : Str} (h : NumOk z) : PyData.strOk z = true := h.1.ok (by decide)
def con__law_number (_ : Ad) : Con := fun args own P _ => ∃ s, args = [.ptr s] ∧ Rg s own ∧ ∀ z, NumOk z → P (.str z) own
theorem nb {ad : Ad} {own : Own} {P : PD} {XP : XD} {s : Addr} (h : Rg s own) (k : ∀ z, NumOk z → P (.str z) own) : con__law_number ad [.ptr s] own P XP := ⟨s, rfl, h, k⟩
theorem ok__law_number (T : Tx K mg ad) : FnOk P w K mg base CX0 2 ad.a__law_number ad.d__law_number ["state"] (SpG K (con__law_number ad)) := by
  refine okS T.F__law_number sc__law_number (by rintro args own P XP ⟨_, rfl, _⟩; rfl) fun cdv A outer s H E hr => ?_
  have hu1 := hu_of hr
  have hu64 := hr.units
  have hu65 : (A.deeper (PyProof.Rows.envOfC "_law_number" (defScope s__law_number) s.heap.objs.size ad.a__law_number cdv)).units + 65 < cLine := by have := hr.un; omega
  refine ⟨_, (pss_one (ps_ret (k_join (K := K) rfl pe_str (pe_lc (own := [("k", 1)]) rfl sc__law_number.nd (pi_range1 (by rfl) T.b_range (pa_cons (pe_op (k_add (K := K) rfl) pe_int (pe_call (ok__law_draw T) hr rfl T.m__law_draw T.F__law_draw.kp T.B__law_draw .nil pass0 (pa_cons (pv 0) (pa_cons (pe_ix (k_ix (K := K) rfl hu1) (pe_tup (pa_cons pe_int (pa_cons pe_int pa_nil))) (pe_call (ok__law_draw T) hr rfl T.m__law_draw T.F__law_draw.kp T.B__law_draw .nil pass0 (pa_cons (pv 0) (pa_cons pe_int pa_nil))) (fun _ _ => rfl)) pa_nil)))) pa_nil)) (blkOk_by (N := N__law_number) (sc := defScope s__law_number) (by decide +kernel)) (fun _ _ _ _ _ => (pg_name (i := 1) sc__law_number.nd rfl (by first | exact Or.inl rfl | exact Or.inr rfl))) (fun _ _ _ _ _ => pts_nil) (fun _ _ _ _ _ => (pe_callTy call_strU (by rfl) T.b_str (by decide +kernel) (pa_cons (pe_call (ok__law_draw T) hr rfl T.m__law_draw T.F__law_draw.kp T.B__law_draw .nil pass0 (pa_cons (pv 0) (pa_cons pe_int pa_nil))) pa_nil))))))), ?_⟩
  try dsimp only [cxOf]
  rintro args own P XP ⟨s, rfl, hs, hq⟩
  show SS K E0 _ [some _, none] _ _
  walk_at "go"
  refine ex_digs List.mem_cons_self ?_
  walk_at "go"
  refine dr hs (by decide) (by decide) fun d d0 d1 => ?_
  walk_at "go"
  obtain ⟨c, hc, c0, c1⟩ : ∃ c : Int, atI [Dat.int 3, .int 15] d = some (.int c) ∧ 3 ≤ c ∧ c ≤ 15 := by
    have : d = 0 ∨ d = 1 := by omega
    rcases this with rfl | rfl
    · exact ⟨3, rfl, by decide, by decide⟩
    · exact ⟨15, rfl, by decide, by decide⟩
  refine ix_tp hc ?_
  walk_at "go"
  refine dr hs (by omega) (by omega) fun b b0 b1 => ?_
  walk_at "go"
  exact ⟨_, s, rfl, by omega, by omega, hs, fun _ => rfl, by decide, by decide, fun z h1 h2 => hq z ⟨h1, by omega⟩⟩
/-! ### _law_entries -/
def idK (i : Id) : List Key := [.inl i.1, .inl i.2.1, .inl i.2.2]
theorem idK_inj (a b : Id) (h : idK a = idK b) : a = b := by
  obtain ⟨a1, a2, a3⟩ := a
  obtain ⟨b1, b2, b3⟩ := b
  simp only [idK, List.cons.injEq, Sum.inl.injEq] at h
  obtain ⟨rfl, rfl, rfl, _⟩ := h
  rfl
def con__law_entries (_ : Ad) : Con := fun args own P _ => ∃ (s : Addr) (many : Nat), args = [.ptr s, .int (many : Nat), .int 3] ∧ many ≤ 50 ∧ Rg s own ∧ ∀ es, EsOk es → P (.lst (es.map enD)) own
theorem GI.fresh {n : Nat} {now life count : Int} {ids : List Id} {sec : Id → Option Int} {es : List En} (g : GI n now life count ids sec es) {i : Id} (h : i ∈ ids) : i ≠ (3, life, count) := fun z => by
  obtain ⟨r, hr, e, _⟩ := g.act i h
  obtain ⟨_, b⟩ := g.idb r hr
  rw [e, z] at b
  simp at b
theorem GI.sec {n : Nat} {now life count : Int} {ids : List Id} {sec : Id → Option Int} {es : List En} (g : GI n now life count ids sec es) {i : Id} (h : i ∈ ids) : ∃ s, sec i = some s := by
  obtain ⟨r, hr, e, e2, e3⟩ := g.act i h
  obtain ⟨_, b, _⟩ := g.opn r hr e2 e3
  rw [e] at b
  exact ⟨_, b⟩
theorem dget_kix {κ β : Type} [DecidableEq κ] {ks : List κ} {vs : List β} {k : κ} {v : β} (h : dget ks vs k = some v) : ∃ i, kix ks k = some i ∧ vs[i]? = some v := by
  unfold dget at h
  cases e : kix ks k with
  | none => rw [e] at h; cases h
  | some i => rw [e] at h; exact ⟨i, rfl, h⟩
theorem ix_sec {K : PySem.W.Frag} {own : Own} {P : PD} {sd : Addr} {ks : List Id} {vs : List Int} {i : Id} {v : Int} (hm : (sd, Cell.dT (ks.map idK) (vs.map Dat.int)) ∈ own) (h : dget ks vs i = some v) (p : P (.int v) own) : R2X K (uIx K) (.ptr sd) (idD i) own P := by
  obtain ⟨j, h1, h2⟩ := dget_kix h
  exact ix_dcT (k := idK i) ⟨sd, rfl, hm⟩ (by rw [kix_map idK_inj]; exact h1) (by rw [List.getElem?_map, h2]; rfl) p
theorem set_sec {K : PySem.W.Frag} {l r : Own} {sd : Addr} {ks : List Id} {vs : List Int} {i : Id} {v : Int} {P : Own → Prop} (hz : ks.length < 1000) (p : P (l ++ (sd, .dT ((kput ks i).map idK) ((dputB ks i vs v).map Dat.int)) :: r)) : PtX K uSet (.ptr sd) (idD i) (.int v) (l ++ (sd, .dT (ks.map idK) (vs.map Dat.int)) :: r) P := by
  refine set_dcT (k := idK i) (by rw [List.length_map]; exact zl (by omega)) ?_
  rw [kput_map idK_inj, dput_mapK idK_inj]
  exact p
abbrev eSl (s rw_ oi sd : Addr) (many : Nat) (now life count : Int) (u : List (Option Dat)) : SL := some (.ptr s) :: some (.int (many : Nat)) :: some (.int 3) :: some (.int now) :: some (.int life) :: some (.ptr rw_) :: some (.int count) :: some (.ptr oi) :: some (.ptr sd) :: u
abbrev eO (rw_ oi sd : Addr) (ids ks : List Id) (vs : List Int) (es : List En) (own : Own) : Own := (sd, .dT (ks.map idK) (vs.map Dat.int)) :: (oi, .lst (ids.map idD)) :: (rw_, .lst (es.map enD)) :: own
theorem app_rows {K : PySem.W.Frag} {own : Own} {P : PD} {sd oi rw_ : Addr} {ids ks : List Id} {vs : List Int} {es : List En} {e : Dat} (en : En) (he : e = enD en) (hl : es.length ≤ 1000) (p : P .non (eO rw_ oi sd ids ks vs (es ++ [en]) own)) : RMX K rAppend (.ptr rw_) [e] (eO rw_ oi sd ids ks vs es own) P := by
  subst he
  refine app_lst (l := [(sd, .dT (ks.map idK) (vs.map Dat.int)), (oi, .lst (ids.map idD))]) (by rw [List.length_map]; exact zl (by omega)) ?_
  rw [show es.map enD ++ [enD en] = (es ++ [en]).map enD by simp]
  exact p
theorem lst_rows {own : Own} {sd oi rw_ : Addr} {ids ks : List Id} {vs : List Int} {es : List En} {K : PySem.W.Frag} : ∀ F V0 H x, Hs K F V0 H (eO rw_ oi sd ids ks vs es own) → Da K (vis F (eO rw_ oi sd ids ks vs es own) H) x (.ptr rw_) → tyV K "list" x H :=
  ty_lst (ds := es.map enD) (.inl (.inr ⟨rw_, rfl, List.mem_cons_of_mem _ (List.mem_cons_of_mem _ List.mem_cons_self)⟩))
theorem ok__law_entries (T : Tx K mg ad) : FnOk P w K mg base CX0 3 ad.a__law_entries ad.d__law_entries ["state", "many", "maker"] (SpG K (con__law_entries ad)) := by
  refine okS T.F__law_entries sc__law_entries (by rintro args own P XP ⟨_, _, rfl, _⟩; rfl) fun cdv A outer s H E hr => ?_
  have hu1 := hu_of hr
  have hu64 := hr.units
  have hu65 : (A.deeper (PyProof.Rows.envOfC "_law_entries" (defScope s__law_entries) s.heap.objs.size ad.a__law_entries cdv)).units + 65 < cLine := by have := hr.un; omega
  refine ⟨_, (pss_cons (ps_set (i := 3) sc__law_entries.nd rfl (by first | exact Or.inl rfl | exact Or.inr rfl) (pe_call (ok__law_draw T) (hr.mono (by decide)) rfl T.m__law_draw T.F__law_draw.kp T.B__law_draw .nil pass0 (pa_cons (pv 0) (pa_cons pe_int pa_nil))))
      (pss_cons (ps_set (i := 4) sc__law_entries.nd rfl (by first | exact Or.inl rfl | exact Or.inr rfl) (pe_op (k_add (K := K) rfl) pe_int (pe_call (ok__law_draw T) (hr.mono (by decide)) rfl T.m__law_draw T.F__law_draw.kp T.B__law_draw .nil pass0 (pa_cons (pv 0) (pa_cons pe_int pa_nil)))))
      (pss_cons (ps_set (i := 5) sc__law_entries.nd rfl (by first | exact Or.inl rfl | exact Or.inr rfl) (pe_lst (pa_cons (pe_tup (pa_cons pe_str (pa_cons (pv 4) (pa_cons (pv 3) pa_nil)))) pa_nil)))
      (pss_cons (ps_set (i := 6) sc__law_entries.nd rfl (by first | exact Or.inl rfl | exact Or.inr rfl) pe_int)
      (pss_cons (ps_set (i := 7) sc__law_entries.nd rfl (by first | exact Or.inl rfl | exact Or.inr rfl) (pe_lst pa_nil))
      (pss_cons (ps_set (i := 8) sc__law_entries.nd rfl (by first | exact Or.inl rfl | exact Or.inr rfl) pe_dnewT)
      (pss_cons (ps_for PassesOwn.never rfl (pi_range1 (by rfl) T.b_range (pa_cons (pv 1) pa_nil)) (pg_name (i := 9) sc__law_entries.nd rfl (by first | exact Or.inl rfl | exact Or.inr rfl)) (pss_cons (ps_set (i := 10) sc__law_entries.nd rfl (by first | exact Or.inl rfl | exact Or.inr rfl) (pe_call (ok__law_draw T) (hr.mono (by decide)) rfl T.m__law_draw T.F__law_draw.kp T.B__law_draw .nil pass0 (pa_cons (pv 0) (pa_cons pe_int pa_nil))))
      (pss_cons (ps_set (i := 3) sc__law_entries.nd rfl (by first | exact Or.inl rfl | exact Or.inr rfl) (pe_op (k_add (K := K) rfl) (pv 3) (pe_op op_mulU (pe_call (ok__law_draw T) (hr.mono (by decide)) rfl T.m__law_draw T.F__law_draw.kp T.B__law_draw .nil pass0 (pa_cons (pv 0) (pa_cons pe_int pa_nil))) (pe_call (ok__law_draw T) (hr.mono (by decide)) rfl T.m__law_draw T.F__law_draw.kp T.B__law_draw .nil pass0 (pa_cons (pv 0) (pa_cons pe_int pa_nil))))))
      (pss_cons (ps_set (i := 11) sc__law_entries.nd rfl (by first | exact Or.inl rfl | exact Or.inr rfl) (pe_tup (pa_cons (pv 2) (pa_cons (pv 4) (pa_cons (pv 6) pa_nil)))))
      (pss_one (ps_if (pt_cmpR (k_eq (K := K) rfl hu64) (pv 10) pe_int (nomark _)) (pss_cons (ps_set (i := 4) sc__law_entries.nd rfl (by first | exact Or.inl rfl | exact Or.inr rfl) (pe_op (k_add (K := K) rfl) (pe_op (k_add (K := K) rfl) (pv 4) pe_int) (pe_call (ok__law_draw T) (hr.mono (by decide)) rfl T.m__law_draw T.F__law_draw.kp T.B__law_draw .nil pass0 (pa_cons (pv 0) (pa_cons pe_int pa_nil)))))
      (pss_cons (ps_expr (k_bm (K := K) rfl PySem.F.plainAttrs_list PySem.F.slot_list_append PySem.F.type_list_append mt_append (pv 5) (pa_cons (pe_tup (pa_cons pe_str (pa_cons (pv 4) (pa_cons (pv 3) pa_nil)))) pa_nil)))
      (pss_cons (ps_set (i := 7) sc__law_entries.nd rfl (by first | exact Or.inl rfl | exact Or.inr rfl) (pe_lst pa_nil))
      (pss_one (ps_set (i := 6) sc__law_entries.nd rfl (by first | exact Or.inl rfl | exact Or.inr rfl) pe_int))))) (pss_one (ps_if (PW.pt (pw_or (pt_cmpR op_lt (pv 10) pe_int (nomark _)) (pw_or1 (pt_cmpR (k_eq (K := K) rfl hu64) (pv 7) (pe_lst pa_nil) (nomark _))))) (pss_cons (ps_set (i := 12) sc__law_entries.nd rfl (by first | exact Or.inl rfl | exact Or.inr rfl) (pe_ix (k_ix (K := K) rfl hu1) (pe_tup (pa_cons pe_str (pa_cons pe_str (pa_cons pe_str (pa_cons pe_str pa_nil))))) (pe_call (ok__law_draw T) (hr.mono (by decide)) rfl T.m__law_draw T.F__law_draw.kp T.B__law_draw .nil pass0 (pa_cons (pv 0) (pa_cons pe_int pa_nil))) (fun _ _ => rfl)))
      (pss_cons (ps_set (i := 13) sc__law_entries.nd rfl (by first | exact Or.inl rfl | exact Or.inr rfl) (pe_ix (k_ix (K := K) rfl hu1) (pe_tup (pa_cons pe_non (pa_cons (pe_tup (pa_cons (pe_op (k_add (K := K) rfl) pe_int (pe_call (ok__law_draw T) (hr.mono (by decide)) rfl T.m__law_draw T.F__law_draw.kp T.B__law_draw .nil pass0 (pa_cons (pv 0) (pa_cons pe_int pa_nil)))) (pa_cons pe_int (pa_cons (pe_op (k_add (K := K) rfl) pe_int (pv 9)) pa_nil)))) pa_nil))) (pe_callTy call_intU (by rfl) T.b_int (by decide +kernel) (pa_cons (pe_cmpR (k_in (K := K) rfl hu65) (pv 12) (pe_tup (pa_cons pe_str (pa_cons pe_str pa_nil))) rfl) pa_nil)) (fun _ _ => rfl)))
      (pss_cons (ps_set (i := 14) sc__law_entries.nd rfl (by first | exact Or.inl rfl | exact Or.inr rfl) (pe_ix (k_ix (K := K) rfl hu1) (pe_tup (pa_cons pe_non (pa_cons (pe_tup (pa_cons (pv 2) (pa_cons (pv 4) (pa_cons (pe_op (k_add (K := K) rfl) pe_int (pv 9)) pa_nil)))) pa_nil))) (pe_callTy call_intU (by rfl) T.b_int (by decide +kernel) (pa_cons (pe_cmpR (k_in (K := K) rfl hu65) (pv 12) (pe_tup (pa_cons pe_str (pa_cons pe_str pa_nil))) rfl) pa_nil)) (fun _ _ => rfl)))
      (pss_cons (ps_set (i := 15) sc__law_entries.nd rfl (by first | exact Or.inl rfl | exact Or.inr rfl) (pe_ix (k_ix (K := K) rfl hu1) (pe_tup (pa_cons pe_non (pa_cons (pe_call (ok__law_number T) hr rfl T.m__law_number T.F__law_number.kp T.B__law_number .nil pass0 (pa_cons (pv 0) pa_nil)) pa_nil))) (pe_callTy call_intU (by rfl) T.b_int (by decide +kernel) (pa_cons (pe_cmpR (k_in (K := K) rfl hu65) (pv 12) (pe_tup (pa_cons pe_str (pa_cons pe_str pa_nil))) rfl) pa_nil)) (fun _ _ => rfl)))
      (pss_cons (ps_expr (k_bm (K := K) rfl PySem.F.plainAttrs_list PySem.F.slot_list_append PySem.F.type_list_append mt_append (pv 5) (pa_cons (pe_tup (pa_cons pe_str (pa_cons (pv 11) (pa_cons (pv 12) (pa_cons (pe_call (ok__law_number T) hr rfl T.m__law_number T.F__law_number.kp T.B__law_number .nil pass0 (pa_cons (pv 0) pa_nil)) (pa_cons (pe_call (ok__law_number T) hr rfl T.m__law_number T.F__law_number.kp T.B__law_number .nil pass0 (pa_cons (pv 0) pa_nil)) (pa_cons (pv 15) (pa_cons (pv 13) (pa_cons (pv 14) (pa_cons pe_non (pa_cons (pv 3) pa_nil))))))))))) pa_nil)))
      (pss_cons (ps_expr (k_bm (K := K) rfl PySem.F.plainAttrs_list PySem.F.slot_list_append PySem.F.type_list_append mt_append (pv 7) (pa_cons (pv 11) pa_nil)))
      (pss_cons (ps_asg pe_int (pg_sub (pv 8) (pv 11) (set_U hu1)))
      (pss_one (ps_set (i := 6) sc__law_entries.nd rfl (by first | exact Or.inl rfl | exact Or.inr rfl) (pe_op (k_add (K := K) rfl) (pv 6) pe_int)))))))))) (pss_one (ps_if (pt_cmpR (k_eq (K := K) rfl hu64) (pv 10) pe_int (nomark _)) (pss_cons (ps_set (i := 16) sc__law_entries.nd rfl (by first | exact Or.inl rfl | exact Or.inr rfl) (pe_ix (k_ix (K := K) rfl hu1) (pv 7) (pe_call (ok__law_draw T) (hr.mono (by decide)) rfl T.m__law_draw T.F__law_draw.kp T.B__law_draw .nil pass0 (pa_cons (pv 0) (pa_cons (pe_callB (k_len (K := K) rfl) (by rfl) T.b_len (by decide +kernel) (pa_cons (pv 7) pa_nil)) pa_nil))) (fun _ _ => rfl)))
      (pss_cons (ps_expr (k_bm (K := K) rfl PySem.F.plainAttrs_list PySem.F.slot_list_append PySem.F.type_list_append mt_append (pv 5) (pa_cons (pe_tup (pa_cons pe_str (pa_cons (pv 11) (pa_cons pe_str (pa_cons (pe_call (ok__law_number T) hr rfl T.m__law_number T.F__law_number.kp T.B__law_number .nil pass0 (pa_cons (pv 0) pa_nil)) (pa_cons (pe_call (ok__law_number T) hr rfl T.m__law_number T.F__law_number.kp T.B__law_number .nil pass0 (pa_cons (pv 0) pa_nil)) (pa_cons (pe_call (ok__law_number T) hr rfl T.m__law_number T.F__law_number.kp T.B__law_number .nil pass0 (pa_cons (pv 0) pa_nil)) (pa_cons pe_non (pa_cons pe_non (pa_cons (pv 16) (pa_cons (pv 3) pa_nil))))))))))) pa_nil)))
      (pss_one (ps_set (i := 6) sc__law_entries.nd rfl (by first | exact Or.inl rfl | exact Or.inr rfl) (pe_op (k_add (K := K) rfl) (pv 6) pe_int))))) (pss_one (ps_if (pt_cmpR op_lt (pv 10) pe_int (nomark _)) (pss_cons (ps_set (i := 17) sc__law_entries.nd rfl (by first | exact Or.inl rfl | exact Or.inr rfl) (pe_ix (k_ix (K := K) rfl hu1) (pv 7) (pe_call (ok__law_draw T) (hr.mono (by decide)) rfl T.m__law_draw T.F__law_draw.kp T.B__law_draw .nil pass0 (pa_cons (pv 0) (pa_cons (pe_callB (k_len (K := K) rfl) (by rfl) T.b_len (by decide +kernel) (pa_cons (pv 7) pa_nil)) pa_nil))) (fun _ _ => rfl)))
      (pss_cons (ps_asg (pe_op (k_add (K := K) rfl) (pe_op (k_add (K := K) rfl) (pe_ix (k_ix (K := K) rfl hu1) (pv 8) (pv 17) (fun _ _ => rfl)) pe_int) (pe_call (ok__law_draw T) (hr.mono (by decide)) rfl T.m__law_draw T.F__law_draw.kp T.B__law_draw .nil pass0 (pa_cons (pv 0) (pa_cons pe_int pa_nil)))) (pg_sub (pv 8) (pv 17) (set_U hu1)))
      (pss_one (ps_expr (k_bm (K := K) rfl PySem.F.plainAttrs_list PySem.F.slot_list_append PySem.F.type_list_append mt_append (pv 5) (pa_cons (pe_tup (pa_cons pe_str (pa_cons (pv 17) (pa_cons (pe_ix (k_ix (K := K) rfl hu1) (pv 8) (pv 17) (fun _ _ => rfl)) pa_nil)))) pa_nil)))))) (pss_one (ps_if (pt_cmpR op_lt (pv 10) pe_int (nomark _)) (pss_cons (ps_set (i := 17) sc__law_entries.nd rfl (by first | exact Or.inl rfl | exact Or.inr rfl) (pe_ix (k_ix (K := K) rfl hu1) (pv 7) (pe_call (ok__law_draw T) (hr.mono (by decide)) rfl T.m__law_draw T.F__law_draw.kp T.B__law_draw .nil pass0 (pa_cons (pv 0) (pa_cons (pe_callB (k_len (K := K) rfl) (by rfl) T.b_len (by decide +kernel) (pa_cons (pv 7) pa_nil)) pa_nil))) (fun _ _ => rfl)))
      (pss_cons (ps_expr (k_bm (K := K) rfl PySem.F.plainAttrs_list PySem.F.slot_list_append PySem.F.type_list_append mt_append (pv 5) (pa_cons (pe_tup (pa_cons pe_str (pa_cons (pv 17) (pa_cons (pe_ix (k_ix (K := K) rfl hu1) (pe_tup (pa_cons pe_str (pa_cons pe_str (pa_cons pe_str pa_nil)))) (pe_call (ok__law_draw T) (hr.mono (by decide)) rfl T.m__law_draw T.F__law_draw.kp T.B__law_draw .nil pass0 (pa_cons (pv 0) (pa_cons pe_int pa_nil))) (fun _ _ => rfl)) (pa_cons (pv 3) pa_nil))))) pa_nil)))
      (pss_one (ps_setLc (i := 7) (own := [("other", 18)]) rfl sc__law_entries.nd rfl rfl (sw_true rfl rfl rfl (by decide +kernel)) (k_seq (K := K) rfl (pv 7)) (blkOk_by (N := N__law_entries) (sc := defScope s__law_entries) (by decide +kernel)) (fun _ _ _ _ _ => (pg_name (i := 18) sc__law_entries.nd rfl (by first | exact Or.inl rfl | exact Or.inr rfl))) (fun _ _ _ _ _ => (pts_one (pt_cmpR (k_ne (K := K) rfl hu64) (pv 18) (pv 17) (nomark _)))) (fun _ _ _ _ _ => (pv 18)))))) (pss_one (ps_expr (k_bm (K := K) rfl PySem.F.plainAttrs_list PySem.F.slot_list_append PySem.F.type_list_append mt_append (pv 5) (pa_cons (pe_ix (k_ix (K := K) rfl hu1) (pe_tup (pa_cons (pe_tup (pa_cons pe_str (pa_cons (pe_call (ok__law_number T) hr rfl T.m__law_number T.F__law_number.kp T.B__law_number .nil pass0 (pa_cons (pv 0) pa_nil)) (pa_cons (pv 2) pa_nil)))) (pa_cons (pe_tup (pa_cons pe_str (pa_cons (pe_call (ok__law_number T) hr rfl T.m__law_number T.F__law_number.kp T.B__law_number .nil pass0 (pa_cons (pv 0) pa_nil)) (pa_cons pe_non pa_nil)))) pa_nil))) (pe_call (ok__law_draw T) (hr.mono (by decide)) rfl T.m__law_draw T.F__law_draw.kp T.B__law_draw .nil pass0 (pa_cons (pv 0) (pa_cons pe_int pa_nil))) (fun _ _ => rfl)) pa_nil))))))))))))))))))
      (pss_one (ps_ret (pv 5)))))))))), ?_⟩
  try dsimp only [cxOf]
  rintro args own P XP ⟨s, many, rfl, hm, hs, hq⟩
  show SS K E0 _ [some _, some _, some _, none, none, none, none, none, none, none, none, none, none, none, none, none, none, none, none] _ _
  refine ss_fin ?_
  walk_at "go"
  refine dr hs (by decide) (by decide) fun now n0 n1 => ?_
  walk_at "go"
  refine dr hs (by decide) (by decide) fun li l0 l1 => ?_
  walk_at "go"
  refine ex_lstO ?_
  walk_at "go"
  intro rw_ hrw
  walk_at "go"
  refine ex_lstO ?_
  walk_at "go"
  intro oi hoi
  walk_at "go"
  refine ex_dnewT ?_
  intro sd hsd
  walk_at "go"
  refine ss_for ?_
  walk_at "go"
  refine ⟨by omega, by omega, fun i sl o => ∃ now life count oi ids ks vs es, (∃ u9 u10 u11 u12 u13 u14 u15 u16 u17 u18, sl = eSl s rw_ oi sd many now life count [u9, u10, u11, u12, u13, u14, u15, u16, u17, u18]) ∧ o = eO rw_ oi sd ids ks vs es own ∧ vs.length = ks.length ∧ ks.length ≤ i ∧ ids.length ≤ i ∧ GI i now life count ids (dget ks vs) es,
    ⟨now, 1 + li, 0, oi, [], [], [], [.boot (1 + li) now], ⟨_, _, _, _, _, _, _, _, _, _, rfl⟩, rfl, rfl, Nat.le_refl _, Nat.le_refl _, GI.start (by omega) n0 (by omega) _⟩, fun _ _ _ _ => trivial, ?_, ?_⟩
  · rintro i x sl o hx ⟨now, life, count, oi, ids, ks, vs, es, ⟨u9, u10, u11, u12, u13, u14, u15, u16, u17, u18, rfl⟩, rfl, hv, hk, hid, g⟩
    obtain ⟨hlt, rfl⟩ := rng_at hx
    rw [Int.toNat_natCast] at hlt
    have hrg : ∀ {ids ks : List Id} {vs : List Int} {es : List En} {oi : Addr}, Rg s (eO rw_ oi sd ids ks vs es own) := hs.c.c.c
    have hesl := g.len
    refine gx_name trivial ?_
    refine ss_fin ?_
    walk_at "go"
    refine dr hrg (by decide) (by decide) fun kind k0 k1 => ?_
    walk_at "go"
    refine dr hrg (by decide) (by decide) fun a a0 a1 => ?_
    walk_at "go"
    refine dr hrg (by decide) (by decide) fun b b0 b1 => ?_
    have mab : IntMulOk a b := mul_ok64 (by omega) (by omega)
    have hab : 0 ≤ a * b ∧ a * b ≤ 1798 := by
      have : a = 0 ∨ a = 1 ∨ a = 2 := by omega
      rcases this with rfl | rfl | rfl <;> omega
    have t1 : now ≤ now + a * b := by omega
    have t2 : now + a * b ≤ 200 + 1798 * ((i + 1 : Nat) : Int) := by have := g.n1; omega
    generalize hnow : now + a * b = now' at t1 t2
    walk_at "go"
    rw [hnow]
    walk_at "go"
    have fin : ∀ {life count : Int} {oi2 : Addr} {ids ks : List Id} {vs : List Int} {es : List En} {o : Own} {sl : SL}, (∃ u9 u10 u11 u12 u13 u14 u15 u16 u17 u18, sl = eSl s rw_ oi2 sd many now' life count [u9, u10, u11, u12, u13, u14, u15, u16, u17, u18]) → Cl o (eO rw_ oi2 sd ids ks vs es own) → vs.length = ks.length → ks.length ≤ i + 1 → ids.length ≤ i + 1 → GI (i + 1) now' life count ids (dget ks vs) es →
        ∃ o', Cl o o' ∧ ∃ now life count oi ids ks vs es, (∃ u9 u10 u11 u12 u13 u14 u15 u16 u17 u18, sl = eSl s rw_ oi sd many now life count [u9, u10, u11, u12, u13, u14, u15, u16, u17, u18]) ∧ o' = eO rw_ oi sd ids ks vs es own ∧ vs.length = ks.length ∧ ks.length ≤ i + 1 ∧ ids.length ≤ i + 1 ∧ GI (i + 1) now life count ids (dget ks vs) es :=
      fun h1 h2 h3 h4 h5 h6 => ⟨_, h2, _, _, _, _, _, _, _, _, h1, rfl, h3, h4, h5, h6⟩
    refine iteD (fun h => ?_) (fun h => ?_)
    · walk_at "go"
      refine dr hrg (by decide) (by decide) fun c c0 c1 => ?_
      walk_at "go"
      refine ex_bm ?_
      walk_at "go"
      refine ⟨lst_rows, ?_⟩
      walk_at "go"
      refine app_rows (.boot (life + 1 + c) now') rfl (by omega) ?_
      walk_at "go"
      refine ex_lstO ?_
      walk_at "go"
      intro oi2 hoi2
      walk_at "go"
      exact fin ⟨_, _, _, _, _, _, _, _, _, _, rfl⟩ (ids := []) (cl_sb (.cons [_] (.cons [] (.cons [_] (.skip [] (.refl _)))))) hv (by omega) (Nat.zero_le _) (g.boot t1 t2 (by omega) _)
    refine ss_if (tx_mono (P' := fun b o' => o' = eO rw_ oi sd ids ks vs es own ∧ (b = false → ids ≠ [])) ?_ ?_)
    · walk_at "go"
      refine iteD (fun h => ?_) (fun h => ?_)
      · walk_at "go"
        exact ⟨rfl, fun z => nomatch z⟩
      · walk_at "go"
        refine ex_lst ?_
        walk_at "go"
        refine eq_lst (n := 1) (m := 1) (es := []) (.inr ⟨oi, rfl, List.mem_cons_of_mem _ List.mem_cons_self⟩) (.inl rfl) (shL_of fun e he => by obtain ⟨j, _, rfl⟩ := List.mem_map.mp he; exact sh_id j) .nil fun b hb => ?_
        refine ⟨_, rfl, rfl, fun z e => ?_⟩
        rw [e] at hb
        rw [hb.mpr rfl] at z
        cases z
    rintro b o' ⟨rfl, hb⟩
    refine iteB (fun hb2 => ?_) (fun hb2 => ?_)
    · walk_at "go"
      refine dr hrg (by decide) (by decide) fun c c0 c1 => ?_
      obtain ⟨ro, hro, hro1, hro2⟩ : ∃ ro : Str, atI [Dat.str "both", .str "origin", .str "transit", .str "end"] c = some (.str ro) ∧ ro ≠ lDiv ∧ PyData.strOk ro = true := by
        have : c = 0 ∨ c = 1 ∨ c = 2 ∨ c = 3 := by omega
        rcases this with rfl | rfl | rfl | rfl
        · exact ⟨_, rfl, by decide +kernel, by decide +kernel⟩
        · exact ⟨_, rfl, by decide +kernel, by decide +kernel⟩
        · exact ⟨_, rfl, by decide +kernel, by decide +kernel⟩
        · exact ⟨_, rfl, by decide +kernel, by decide +kernel⟩
      walk_at "go"
      refine ix_tp hro ?_
      walk_at "go"
      refine dr hrg (by decide) (by decide) fun e e0 e1 => ?_
      walk_at "go"
      refine strIn (ys := ["transit", "end"]) hro2 (by decide +kernel) ?_
      walk_at "go"
      obtain ⟨m, hm⟩ : ∃ m : Option Id, atI [Dat.non, .tup [.int (1 + e), .int 1, .int (100 + (i : Nat))]] (if decide (ro ∈ [Str.ofString "transit", Str.ofString "end"]) = true then 1 else 0) = some (oD idD m) := by
        cases decide (ro ∈ [Str.ofString "transit", Str.ofString "end"])
        · exact ⟨none, rfl⟩
        · exact ⟨some (1 + e, 1, 100 + (i : Nat)), rfl⟩
      refine ix_tp hm ?_
      walk_at "go"
      refine strIn (ys := ["origin", "transit"]) hro2 (by decide +kernel) ?_
      walk_at "go"
      obtain ⟨w, hw⟩ : ∃ w : Option Id, atI [Dat.non, .tup [.int 3, .int life, .int (500 + (i : Nat))]] (if decide (ro ∈ [Str.ofString "origin", Str.ofString "transit"]) = true then 1 else 0) = some (oD idD w) := by
        cases decide (ro ∈ [Str.ofString "origin", Str.ofString "transit"])
        · exact ⟨none, rfl⟩
        · exact ⟨some (3, life, 500 + (i : Nat)), rfl⟩
      refine ix_tp hw ?_
      walk_at "go"
      refine nb hrg fun z0 hz0 => ?_
      walk_at "go"
      refine strIn (ys := ["both", "origin"]) hro2 (by decide +kernel) ?_
      walk_at "go"
      obtain ⟨p, hp, hp2⟩ : ∃ p : Option Str, atI [Dat.non, .str z0] (if decide (ro ∈ [Str.ofString "both", Str.ofString "origin"]) = true then 1 else 0) = some (oD .str p) ∧ ∀ z, p = some z → PyData.strOk z = true := by
        cases decide (ro ∈ [Str.ofString "both", Str.ofString "origin"])
        · exact ⟨none, rfl, fun z h => nomatch h⟩
        · exact ⟨some z0, rfl, fun z h => by cases h; exact hz0.s⟩
      refine ix_tp hp ?_
      walk_at "go"
      refine ex_bm ?_
      walk_at "go"
      refine ⟨lst_rows, ?_⟩
      walk_at "go"
      refine nb hrg fun z1 hz1 => ?_
      walk_at "go"
      refine nb hrg fun z2 hz2 => ?_
      walk_at "go"
      refine app_rows (.opn (3, life, count) ro z1 z2 p m w none now') rfl (by omega) ?_
      walk_at "go"
      refine ex_bm ?_
      walk_at "go"
      refine ⟨ty_lst (ds := ids.map idD) (.inl (.inr ⟨oi, rfl, List.mem_cons_of_mem _ List.mem_cons_self⟩)), ?_⟩
      walk_at "go"
      refine app_lst (l := [(sd, .dT (ks.map idK) (vs.map Dat.int))]) (by rw [List.length_map]; exact zl (by omega)) ?_
      walk_at "go"
      refine set_sec (l := []) (i := (3, life, count)) (by omega) ?_
      walk_at "go"
      refine fin (es := es ++ [.opn (3, life, count) ro z1 z2 p m w none now']) (ids := ids ++ [(3, life, count)]) (ks := kput ks (3, life, count)) (vs := dputB ks (3, life, count) vs 0) ⟨_, _, _, _, _, _, _, _, _, _, rfl⟩ ?_ (dputB_len hv) (Nat.le_trans kput_len (by omega)) (by rw [List.length_append]; show ids.length + 1 ≤ _; omega) ?_
      · have e7 : List.map idD (ids ++ [((3, life, count) : Id)]) = List.map idD ids ++ [idD (3, life, count)] := by rw [List.map_append]; rfl
        show Cl _ ((sd, _) :: (oi, .lst (List.map idD (ids ++ [((3, life, count) : Id)]))) :: _)
        rw [e7]
        exact Cl.refl _
      · refine g.opn0 t1 t2 (by show (if ro = lDiv then _ else _) = false; rw [if_neg hro1]; rfl) _ _ (fun i hi => List.mem_append_left _ hi) (fun i hi => by rw [dget_put hv, if_neg (g.fresh hi)]) (fun i hi => ?_) (fun z => absurd z hro1) (fun _ => ⟨List.mem_append_right _ List.mem_cons_self, by rw [dget_put hv, if_pos rfl], rfl⟩) ⟨hro2, hz1.s, hz2.s, hp2, fun c hc => nomatch hc⟩
        rcases List.mem_append.mp hi with hi | hi
        · exact .inl hi
        · rw [List.mem_singleton] at hi
          exact .inr ⟨hi, hro1⟩
    have hne := hb hb2
    have hpos : 0 < ids.length := List.length_pos_iff.mpr hne
    refine ss_if ?_
    walk_at "go"
    refine iteD (fun h5 => ?_) (fun h5 => ?_)
    · walk_at "go"
      refine dr hrg (by rw [List.length_map]; omega) (by rw [List.length_map]; omega) fun c c0 c1 => ?_
      rw [List.length_map] at c1
      obtain ⟨o, ho, hoi⟩ := pick (f := idD) c0 c1
      walk_at "go"
      refine ix_lst (.inl (.inr ⟨oi, rfl, List.mem_cons_of_mem _ List.mem_cons_self⟩)) hoi ?_
      walk_at "go"
      refine ex_bm ?_
      walk_at "go"
      refine ⟨lst_rows, ?_⟩
      walk_at "go"
      refine nb hrg fun z1 hz1 => ?_
      walk_at "go"
      refine nb hrg fun z2 hz2 => ?_
      walk_at "go"
      refine nb hrg fun z3 hz3 => ?_
      walk_at "go"
      refine app_rows (.opn (3, life, count) lDiv z1 z2 (some z3) none none (some o) now') rfl (by omega) ?_
      walk_at "go"
      refine fin ⟨_, _, _, _, _, _, _, _, _, _, rfl⟩ (Cl.refl _) hv (by omega) (by omega) ?_
      refine g.opn0 t1 t2 ?_ _ _ (fun i hi => hi) (fun i hi => rfl) (fun i hi => .inl hi) (fun z => ⟨o, ho, rfl⟩) (fun z => absurd rfl z) ⟨(show PyData.strOk lDiv = true by decide +kernel), hz1.s, hz2.s, fun z hz => by cases hz; exact hz3.s, fun c hc => nomatch hc⟩
      obtain ⟨r, hr, f1, f2, f3⟩ := g.act o ho
      show (if lDiv = lDiv then (recAt (recs es) (some o)).isNone else (some o).isSome) = false
      rw [if_pos rfl, recAt_some g.nd hr f1 f2 f3]
      rfl
    walk_at "go"
    refine iteD (fun h9 => ?_) (fun h9 => ?_)
    · walk_at "go"
      refine dr hrg (by rw [List.length_map]; omega) (by rw [List.length_map]; omega) fun c c0 c1 => ?_
      rw [List.length_map] at c1
      obtain ⟨o, ho, hoi⟩ := pick (f := idD) c0 c1
      obtain ⟨sv, hsv⟩ := g.sec ho
      walk_at "go"
      refine ix_lst (.inl (.inr ⟨oi, rfl, List.mem_cons_of_mem _ List.mem_cons_self⟩)) hoi ?_
      walk_at "go"
      refine ix_sec List.mem_cons_self hsv ?_
      walk_at "go"
      refine dr hrg (by decide) (by decide) fun e e0 e1 => ?_
      walk_at "go"
      refine set_sec (l := []) (i := o) (by omega) ?_
      walk_at "go"
      refine ex_bm ?_
      walk_at "go"
      refine ⟨ty_lst (ds := es.map enD) (.inl (.inr ⟨rw_, rfl, List.mem_cons_of_mem _ (List.mem_cons_of_mem _ List.mem_cons_self)⟩)), ?_⟩
      walk_at "go"
      refine ix_sec List.mem_cons_self (v := sv + 1 + e) (by rw [dget_put hv, if_pos rfl]) ?_
      walk_at "go"
      refine app_rows (.mark o (sv + 1 + e)) rfl (by omega) ?_
      walk_at "go"
      refine fin ⟨_, _, _, _, _, _, _, _, _, _, rfl⟩ (Cl.refl _) (dputB_len hv) (Nat.le_trans kput_len (by omega)) (by omega) ?_
      exact g.mark t1 t2 ho hsv (by omega) _ fun i => dget_put hv
    walk_at "go"
    refine iteD (fun h11 => ?_) (fun h11 => ?_)
    · walk_at "go"
      refine dr hrg (by rw [List.length_map]; omega) (by rw [List.length_map]; omega) fun c c0 c1 => ?_
      rw [List.length_map] at c1
      obtain ⟨o, ho, hoi⟩ := pick (f := idD) c0 c1
      walk_at "go"
      refine ix_lst (.inl (.inr ⟨oi, rfl, List.mem_cons_of_mem _ List.mem_cons_self⟩)) hoi ?_
      walk_at "go"
      refine ex_bm ?_
      walk_at "go"
      refine ⟨lst_rows, ?_⟩
      walk_at "go"
      refine dr hrg (by decide) (by decide) fun e e0 e1 => ?_
      obtain ⟨cz, hcz, hcz2⟩ : ∃ cz : Str, atI [Dat.str "hung up", .str "lost", .str "no answer"] e = some (.str cz) ∧ PyData.strOk cz = true := by
        have : e = 0 ∨ e = 1 ∨ e = 2 := by omega
        rcases this with rfl | rfl | rfl
        · exact ⟨_, rfl, by decide +kernel⟩
        · exact ⟨_, rfl, by decide +kernel⟩
        · exact ⟨_, rfl, by decide +kernel⟩
      walk_at "go"
      refine ix_tp hcz ?_
      walk_at "go"
      refine app_rows (.close o cz now') rfl (by omega) ?_
      walk_at "go"
      refine ex_lcOP idD idD (fun i => !decide (i = o)) (ix_p ?_)
      walk_at "go"
      refine ⟨oi, _, rfl, List.mem_cons_of_mem _ List.mem_cons_self, ids, rfl, by omega, List.mem_cons_of_mem _ List.mem_cons_self, fun y hy => ?_, fun oi2 hoi2 => ?_⟩
      · walk_at "go"
        refine ne_dat (n := 1) (m := 1) (sh_id _) (sh_id _) fun b hb => ?_
        have eb : b = decide (y = o) := by rw [Bool.eq_iff_iff, hb, decide_eq_true_eq]; exact ⟨idD_inj, fun z => by rw [z]⟩
        subst eb
        refine ⟨_, rfl, ?_⟩
        refine iteN (fun h => ?_) (fun h => ?_)
        · walk_at "go"
          exact ⟨by simp [h], rfl, rfl⟩
        · exact ⟨by simp [h], rfl⟩
      walk_at "go"
      exact fin ⟨_, _, _, _, _, _, _, _, _, _, rfl⟩ (ids := ids.filter fun i => !decide (i = o)) (cl_sb (.cons [_] (.cons [] (.skip [] (.refl _))))) hv (by omega) (Nat.le_trans (List.length_filter_le _ _) (by omega)) (g.close t1 t2 ho hcz2)
    walk_at "go"
    refine ex_bm ?_
    walk_at "go"
    refine ⟨lst_rows, ?_⟩
    walk_at "go"
    refine nb hrg fun z1 hz1 => ?_
    walk_at "go"
    refine nb hrg fun z2 hz2 => ?_
    walk_at "go"
    refine dr hrg (by decide) (by decide) fun e e0 e1 => ?_
    obtain ⟨en, hen, hen2⟩ : ∃ en : En, atI [Dat.tup [.str "known", .str z1, .int 3], .tup [.str "forward", .str z2, .non]] e = some (enD en) ∧ ((∃ a b, en = .known a b) ∨ ∃ a, en = .forward a) := by
      have : e = 0 ∨ e = 1 := by omega
      rcases this with rfl | rfl
      · exact ⟨.known z1 3, rfl, .inl ⟨_, _, rfl⟩⟩
      · exact ⟨.forward z2, rfl, .inr ⟨_, rfl⟩⟩
    walk_at "go"
    refine ix_tp hen ?_
    walk_at "go"
    refine app_rows en rfl (by omega) ?_
    walk_at "go"
    exact fin ⟨_, _, _, _, _, _, _, _, _, _, rfl⟩ (Cl.refl _) hv (by omega) (by omega) (g.idle t1 t2 hen2)
  · rintro sl o ⟨now, life, count, oi, ids, ks, vs, es, ⟨u9, u10, u11, u12, u13, u14, u15, u16, u17, u18, rfl⟩, rfl, hv, hk, hid, g⟩
    rw [List.length_map, List.length_range, Int.toNat_natCast] at g
    walk_at "1"
    refine ex_frz ?_
    walk_at "go"
    exact ⟨rw_, _, [_, _], own, _, rfl, rfl, rfl, _, cl_sb (.skip [] (.skip [] (.refl _))), hq es (g.es (by omega))⟩
/-! ### time_of -/
def oI : Option Int → Dat := oD .int
def con_time_of (ad : Ad) : Con := fun args own P _ => ∃ e : En, args = [enD e] ∧ P (oD .int (tmE e)) own
theorem ok_time_of (T : Tx K mg ad) : FnOk P w K mg base CX0 1 ad.a_time_of ad.d_time_of ["entry"] (SpG K (con_time_of ad)) := by
  refine okS T.F_time_of sc_time_of (by rintro args own P XP ⟨_, rfl, _⟩; rfl) fun cdv A outer s H E hr => ?_
  have hu1 := hu_of hr
  have hu64 := hr.units
  have hu65 : (A.deeper (PyProof.Rows.envOfC "time_of" (defScope s_time_of) s.heap.objs.size ad.a_time_of cdv)).units + 65 < cLine := by have := hr.un; omega
  refine ⟨_, (pss_cons (ps_if (pt_cmpR (k_eq (K := K) rfl hu64) (pe_ix (k_ix (K := K) rfl hu1) (pv 0) pe_int (fun _ _ => rfl)) pe_str (nomark _)) (pss_one (ps_ret (pe_ix (k_ix (K := K) rfl hu1) (pv 0) pe_int (fun _ _ => rfl)))) pss_nil)
      (pss_cons (ps_if (pt_cmpR (k_eq (K := K) rfl hu64) (pe_ix (k_ix (K := K) rfl hu1) (pv 0) pe_int (fun _ _ => rfl)) pe_str (nomark _)) (pss_one (ps_ret (pe_ix (k_ix (K := K) rfl hu1) (pv 0) pe_int (fun _ _ => rfl)))) pss_nil)
      (pss_cons (ps_if (pt_cmpR (k_eq (K := K) rfl hu64) (pe_ix (k_ix (K := K) rfl hu1) (pv 0) pe_int (fun _ _ => rfl)) pe_str (nomark _)) (pss_one (ps_ret (pe_ix (k_ix (K := K) rfl hu1) (pv 0) pe_int (fun _ _ => rfl)))) pss_nil)
      (pss_one (ps_ret pe_non))))), ?_⟩
  try dsimp only [cxOf]
  rintro args own P XP ⟨e, rfl, hq⟩
  show SS K E0 _ [some _] _ _
  cases e
  all_goals
    dsimp only [enD]
    walk_at "go"
    try exact hq
/-! ### Record.is_open -/
def con_Record_is_open (ad : Ad) : Con := fun args own P _ => ∃ a r, args = [.ptr a] ∧ (a, rcC ad r) ∈ own ∧ P (.bl (isOpen r)) own
theorem ok_Record_is_open (T : Tx K mg ad) : FnOk P w K mg base CX0 1 ad.a_Record_is_open ad.d_Record_is_open ["self"] (SpG K (con_Record_is_open ad)) := by
  refine okS T.F_Record_is_open sc_Record_is_open (by rintro args own P XP ⟨_, _, rfl, _⟩; rfl) fun cdv A outer s H E hr => ?_
  have hu1 := hu_of hr
  have hu64 := hr.units
  have hu65 : (A.deeper (PyProof.Rows.envOfC "Record.is_open" (defScope s_Record_is_open) s.heap.objs.size ad.a_Record_is_open cdv)).units + 65 < cLine := by have := hr.un; omega
  refine ⟨_, (pss_one (ps_ret (pe_cmpR op_isU (k_fld (K := K) rfl (pv 0) rfl) pe_non (nomark _)))), ?_⟩
  try dsimp only [cxOf]
  rintro args own P XP ⟨a, r, rfl, hm, hq⟩
  show SS K E0 _ [some _] _ _
  walk_at "go"
  unfold isOpen at hq
  cases e : r.closed with
  | none =>
    rw [e] at hq
    dsimp only [oD]
    walk_at "go"
    exact hq
  | some z =>
    rw [e] at hq
    dsimp only [oD]
    walk_at "go"
    exact hq
/-! ### record_at -/
def con_record_at (ad : Ad) : Con := fun args own P _ => ∃ p as rs q o, args = [.ptr p, oD idD q] ∧ own = recO ad p as rs o ∧ as.length = rs.length ∧ (recAt rs q = none → P .non own) ∧ ∀ a r, recAt rs q = some r → (a, rcC ad r) ∈ own → P (.ptr a) own
theorem ok_record_at (T : Tx K mg ad) : FnOk P w K mg base CX0 2 ad.a_record_at ad.d_record_at ["records", "call_id"] (SpG K (con_record_at ad)) := by
  refine okS T.F_record_at sc_record_at (by rintro args own P XP ⟨_, _, _, _, _, rfl, _⟩; rfl) fun cdv A outer s H E hr => ?_
  have hu1 := hu_of hr
  have hu64 := hr.units
  have hu65 : (A.deeper (PyProof.Rows.envOfC "record_at" (defScope s_record_at) s.heap.objs.size ad.a_record_at cdv)).units + 65 < cLine := by have := hr.un; omega
  refine ⟨_, (pss_cons (ps_for PassesOwn.never rfl (k_seq (K := K) rfl (pv 0)) (pg_name (i := 2) sc_record_at.nd rfl (by first | exact Or.inl rfl | exact Or.inr rfl)) (pss_one (ps_if (PW.pt (pw_and (pt_cmpR (k_eq (K := K) rfl hu64) (k_fld (K := K) rfl (pv 2) rfl) (pv 1) (nomark _)) (pw_and (k_tru (K := K) rfl (pe_meth0 (pv 2) T.cl_Record T.M_Record_is_open (ok_Record_is_open T) hr T.B_Record_is_open .nil pass0 ) (by intro _; rfl)) (pw_and1 (pt_cmpR (k_ne (K := K) rfl hu64) (k_fld (K := K) rfl (pv 2) rfl) pe_str (nomark _)))))) (pss_one (ps_ret (pv 2))) pss_nil)))
      (pss_one (ps_ret pe_non))), ?_⟩
  try dsimp only [cxOf]
  rintro args own P XP ⟨p, as, rs, q, o, rfl, rfl, hl, h0, h1⟩
  show SS K E0 _ [some _, some _, none] _ _
  walk_at "go"
  refine ss_for (ix_p ?_)
  walk_at "go"
  refine ⟨p, _, rfl, recO_mem, fun n sl o2 => ∃ u2, sl = [some (.ptr p), some (oD idD q), u2] ∧ o2 = recO ad p as rs o ∧ recAt rs q = recAt (rs.drop n) q, ⟨_, rfl, rfl, rfl⟩, fun _ _ _ h => by obtain ⟨_, _, rfl, _⟩ := h; exact recO_mem, ?_, ?_⟩
  · rintro n x sl o2 hx ⟨u2, rfl, rfl, hd⟩
    obtain ⟨a, ha, rfl⟩ := map_at hx
    obtain ⟨r, hr⟩ := len_at hl ha
    obtain ⟨l, t, e1, e2⟩ := recO_at (ad := ad) (p := p) (o := o) hl ha hr
    rw [drop_at hr] at hd
    have hd2 : recAt rs q = if recP q r = true then some r else recAt (rs.drop (n + 1)) q := by
      rw [hd]; unfold recAt; rw [List.find?_cons]; cases recP q r <;> rfl
    have hm : (a, rcC ad r) ∈ recO ad p as rs o := by rw [e1]; exact List.mem_append_right _ List.mem_cons_self
    unfold recP at hd2
    walk_at "go"
    refine eq_dat (n := 1) (m := 1) (sh_id _) (sh_oid _) fun b hb => ?_
    have eb : b = decide (some r.id = q) := by rw [Bool.eq_iff_iff, hb, decide_eq_true_eq, oid_iff]
    rw [← eb] at hd2
    cases b with
    | false =>
      walk_at "go"
      refine ⟨rfl, ?_⟩
      simpa using hd2
    | true =>
      walk_at "go"
      refine ⟨a, r, rfl, hm, ?_⟩
      cases ho : isOpen r with
      | false =>
        rw [ho] at hd2
        walk_at "go"
        refine ⟨rfl, ?_⟩
        simpa using hd2
      | true =>
        rw [ho] at hd2
        walk_at "go"
        refine iteN (fun h => ?_) (fun h => ?_)
        · walk_at "go"
          exact h1 a r (by rw [hd2]; simp [lDiv, h]) hm
        · walk_at "go"
          refine ⟨rfl, ?_⟩
          rw [hd2]
          simp [lDiv, h]
  · rintro sl o2 ⟨u2, rfl, rfl, hd⟩
    rw [List.length_map, hl, List.drop_length] at hd
    walk_at "go"
    exact h0 hd
/-! ### is_misplaced -/
def con_is_misplaced (ad : Ad) : Con := fun args own P _ => ∃ p as rs e o, args = [.ptr p, enD e] ∧ own = recO ad p as rs o ∧ as.length = rs.length ∧ P (.bl (misE rs e)) own
theorem rec_cell {ad : Ad} {p : Addr} {as : List Addr} {rs : List Rc} {o : Own} {r : Rc} (hl : as.length = rs.length) (h : r ∈ rs) : ∃ a, (a, rcC ad r) ∈ recO ad p as rs o := by
  obtain ⟨i, hi, e⟩ := List.mem_iff_getElem.mp h
  have h2 : rs[i]? = some r := by simp [hi, e]
  obtain ⟨l, q, e1, _⟩ := recO_at (ad := ad) (p := p) (o := o) hl (show as[i]? = some (as[i]'(by omega)) by simp [show i < as.length by omega]) h2
  exact ⟨_, by rw [e1]; exact List.mem_append_right _ List.mem_cons_self⟩
theorem recAt_mem {rs : List Rc} {q : Option Id} {r : Rc} (h : recAt rs q = some r) : r ∈ rs := List.mem_of_find?_eq_some h
theorem ok_is_misplaced (T : Tx K mg ad) : FnOk P w K mg base CX0 3 ad.a_is_misplaced ad.d_is_misplaced ["records", "entry"] (SpG K (con_is_misplaced ad)) := by
  refine okS T.F_is_misplaced sc_is_misplaced (by rintro args own P XP ⟨_, _, _, _, _, rfl, _⟩; rfl) fun cdv A outer s H E hr => ?_
  have hu1 := hu_of hr
  have hu64 := hr.units
  have hu65 : (A.deeper (PyProof.Rows.envOfC "is_misplaced" (defScope s_is_misplaced) s.heap.objs.size ad.a_is_misplaced cdv)).units + 65 < cLine := by have := hr.un; omega
  refine ⟨_, (pss_cons (ps_if (pt_cmpR (k_in (K := K) rfl hu65) (pe_ix (k_ix (K := K) rfl hu1) (pv 1) pe_int (fun _ _ => rfl)) (pe_tup (pa_cons pe_str (pa_cons pe_str pa_nil))) rfl) (pss_one (ps_ret (pe_cmpR op_isU (pe_call (ok_record_at T) hr rfl T.m_record_at T.F_record_at.kp T.B_record_at .nil pass0 (pa_cons (pv 0) (pa_cons (pe_ix (k_ix (K := K) rfl hu1) (pv 1) pe_int (fun _ _ => rfl)) pa_nil))) pe_non (nomark _)))) pss_nil)
      (pss_cons (ps_if (pt_cmpR (k_ne (K := K) rfl hu64) (pe_ix (k_ix (K := K) rfl hu1) (pv 1) pe_int (fun _ _ => rfl)) pe_str (nomark _)) (pss_one (ps_ret pe_bl)) pss_nil)
      (pss_cons (ps_if (pt_cmpR (k_eq (K := K) rfl hu64) (pe_ix (k_ix (K := K) rfl hu1) (pv 1) pe_int (fun _ _ => rfl)) pe_str (nomark _)) (pss_one (ps_ret (pe_cmpR op_isU (pe_call (ok_record_at T) hr rfl T.m_record_at T.F_record_at.kp T.B_record_at .nil pass0 (pa_cons (pv 0) (pa_cons (pe_ix (k_ix (K := K) rfl hu1) (pv 1) pe_int (fun _ _ => rfl)) pa_nil))) pe_non (nomark _)))) pss_nil)
      (pss_one (ps_ret (pe_cmpR op_notU (pe_ix (k_ix (K := K) rfl hu1) (pv 1) pe_int (fun _ _ => rfl)) pe_non (nomark _))))))), ?_⟩
  try dsimp only [cxOf]
  rintro args own P XP ⟨p, as, rs, e, o, rfl, rfl, hl, hq⟩
  show SS K E0 _ [some _, some _] _ _
  cases e with
  | boot l a =>
    dsimp only [enD]
    walk_at "go"
    refine strIn (ys := ["mark", "close"]) (by decide +kernel) (by decide +kernel) ?_
    walk_at "go"
    exact hq
  | known n m =>
    dsimp only [enD]
    walk_at "go"
    refine strIn (ys := ["mark", "close"]) (by decide +kernel) (by decide +kernel) ?_
    walk_at "go"
    exact hq
  | forward n =>
    dsimp only [enD]
    walk_at "go"
    refine strIn (ys := ["mark", "close"]) (by decide +kernel) (by decide +kernel) ?_
    walk_at "go"
    exact hq
  | mark i s =>
    dsimp only [enD]
    walk_at "go"
    refine strIn (ys := ["mark", "close"]) (by decide +kernel) (by decide +kernel) ?_
    walk_at "go"
    refine ⟨p, as, rs, some i, o, rfl, rfl, hl, fun h => ?_, fun a r h hm => ?_⟩
    · walk_at "go"
      dsimp only [misE] at hq
      rw [h] at hq
      exact hq
    · walk_at "go"
      dsimp only [misE] at hq
      rw [h] at hq
      exact hq
  | close i c a =>
    dsimp only [enD]
    walk_at "go"
    refine strIn (ys := ["mark", "close"]) (by decide +kernel) (by decide +kernel) ?_
    walk_at "go"
    refine ⟨p, as, rs, some i, o, rfl, rfl, hl, fun h => ?_, fun a r h hm => ?_⟩
    · walk_at "go"
      dsimp only [misE] at hq
      rw [h] at hq
      exact hq
    · walk_at "go"
      dsimp only [misE] at hq
      rw [h] at hq
      exact hq
  | opn i r c d pp m w q t =>
    dsimp only [enD]
    walk_at "go"
    refine strIn (ys := ["mark", "close"]) (by decide +kernel) (by decide +kernel) ?_
    walk_at "go"
    dsimp only [misE] at hq
    refine iteD (fun h => ?_) (fun h => ?_)
    · rw [if_pos (show r = lDiv from h)] at hq
      walk_at "go"
      refine ⟨p, as, rs, q, o, rfl, rfl, hl, fun h => ?_, fun a r h hm => ?_⟩
      · walk_at "go"
        rw [h] at hq
        exact hq
      · walk_at "go"
        rw [h] at hq
        exact hq
    · rw [if_neg (show ¬ r = lDiv from h)] at hq
      walk_at "go"
      cases q with
      | none =>
        dsimp only [oD]
        walk_at "go"
        exact hq
      | some q =>
        dsimp only [oD]
        walk_at "go"
        exact hq
/-! ### life_of -/
def con_life_of (ad : Ad) : Con := fun args own P _ => ∃ es : List En, args = [.lst (es.map enD)] ∧ es.length ≤ 1000 ∧ P (.int (lifeOf es)) own
def lifeD (e : En) : Dat := .int (match lifeE e with | none => 0 | some l => l)
theorem life_map (es : List En) : (es.filter fun e => (lifeE e).isSome).map lifeD = (es.filterMap lifeE).map Dat.int := by
  induction es with
  | nil => rfl
  | cons e es ih =>
    rw [List.filter_cons, List.filterMap_cons]
    cases h : lifeE e with
    | none => simpa using ih
    | some l =>
      simp only [Option.isSome_some, if_true, List.map_cons, ih]
      unfold lifeD
      rw [h]
theorem ok_life_of (T : Tx K mg ad) : FnOk P w K mg base CX0 1 ad.a_life_of ad.d_life_of ["entries"] (SpG K (con_life_of ad)) := by
  refine okS T.F_life_of sc_life_of (by rintro args own P XP ⟨_, rfl, _⟩; rfl) fun cdv A outer s H E hr => ?_
  have hu1 := hu_of hr
  have hu64 := hr.units
  have hu65 : (A.deeper (PyProof.Rows.envOfC "life_of" (defScope s_life_of) s.heap.objs.size ad.a_life_of cdv)).units + 65 < cLine := by have := hr.un; omega
  refine ⟨_, (pss_one (ps_ret (pe_callBK (k_maxd (K := K) rfl rfl) (by rfl) T.b_max (by decide +kernel) (pa_cons (pe_lc (own := [("entry", 1)]) rfl sc_life_of.nd (k_seq (K := K) rfl (pv 0)) (blkOk_by (N := N_life_of) (sc := defScope s_life_of) (by decide +kernel)) (fun _ _ _ _ _ => (pg_name (i := 1) sc_life_of.nd rfl (by first | exact Or.inl rfl | exact Or.inr rfl))) (fun _ _ _ _ _ => (pts_one (pt_cmpR (k_eq (K := K) rfl hu64) (pe_ix (k_ix (K := K) rfl hu1) (pv 1) pe_int (fun _ _ => rfl)) pe_str (nomark _)))) (fun _ _ _ _ _ => (pe_ix (k_ix (K := K) rfl hu1) (pv 1) pe_int (fun _ _ => rfl)))) pa_nil) (pk_cons pe_int pk_nil)))), ?_⟩
  try dsimp only [cxOf]
  rintro args own P XP ⟨es, rfl, hz, hq⟩
  show SS K E0 _ [some _, none] _ _
  walk_at "go"
  refine ex_ckw ?_
  walk_at "go"
  refine ex_lcP enD lifeD (fun e => (lifeE e).isSome) (ix_s ?_)
  walk_at "go"
  refine ⟨_, .inl rfl, es, rfl, by omega, trivial, fun e he => ?_, ?_⟩
  · cases e
    all_goals
      dsimp only [enD]
      walk_at "go"
      first | exact ⟨rfl, rfl, rfl⟩ | exact ⟨rfl, rfl⟩
  · rw [life_map]
    walk_at "go"
    refine max_def (.inl (.inl rfl)) (fun h => ?_) fun m h1 h2 => ?_
    · unfold lifeOf at hq
      rw [h] at hq
      exact hq
    · unfold lifeOf at hq
      rw [mxL_eq h1 h2] at hq
      exact hq
/-! ### fault_of_entry -/
def con_fault_of_entry (ad : Ad) : Con := fun args own P _ => ∃ p as rs e es o, args = [enD e, .lst (es.map enD), .ptr p] ∧ own = recO ad p as rs o ∧ as.length = rs.length ∧ es.length ≤ 1000 ∧ rs.length ≤ 1000 ∧ P (oD .str (faultE e es rs)) own
theorem ok_fault_of_entry (T : Tx K mg ad) : FnOk P w K mg base CX0 4 ad.a_fault_of_entry ad.d_fault_of_entry ["entry", "earlier", "records"] (SpG K (con_fault_of_entry ad)) := by
  refine okS T.F_fault_of_entry sc_fault_of_entry (by rintro args own P XP ⟨_, _, _, _, _, _, rfl, _⟩; rfl) fun cdv A outer s H E hr => ?_
  have hu1 := hu_of hr
  have hu64 := hr.units
  have hu65 : (A.deeper (PyProof.Rows.envOfC "fault_of_entry" (defScope s_fault_of_entry) s.heap.objs.size ad.a_fault_of_entry cdv)).units + 65 < cLine := by have := hr.un; omega
  refine ⟨_, (pss_cons (ps_set (i := 3) sc_fault_of_entry.nd rfl (by first | exact Or.inl rfl | exact Or.inr rfl) (pe_call (ok_time_of T) (hr.mono (by decide)) rfl T.m_time_of T.F_time_of.kp T.B_time_of .nil pass0 (pa_cons (pv 0) pa_nil)))
      (pss_cons (ps_if (PW.pt (pw_and (pt_cmpR op_notU (pv 3) pe_non (nomark _)) (pw_and1 (k_tru (K := K) rfl (pe_callB (k_any (K := K) rfl rfl) (by rfl) T.b_any (by decide +kernel) (pa_cons (pe_lc (own := [("other", 4)]) rfl sc_fault_of_entry.nd (k_seq (K := K) rfl (pv 1)) (blkOk_by (N := N_fault_of_entry) (sc := defScope s_fault_of_entry) (by decide +kernel)) (fun _ _ _ _ _ => (pg_name (i := 4) sc_fault_of_entry.nd rfl (by first | exact Or.inl rfl | exact Or.inr rfl))) (fun _ _ _ _ _ => pts_nil) (fun _ _ _ _ _ => (k_and (K := K) rfl (pe_cmpR op_notU (pe_call (ok_time_of T) (hr.mono (by decide)) rfl T.m_time_of T.F_time_of.kp T.B_time_of .nil pass0 (pa_cons (pv 4) pa_nil)) pe_non (nomark _)) (pe_one (pe_cmpR op_gt (pe_call (ok_time_of T) (hr.mono (by decide)) rfl T.m_time_of T.F_time_of.kp T.B_time_of .nil pass0 (pa_cons (pv 4) pa_nil)) (pv 3) (nomark _)))))) pa_nil)) (by intro _; rfl))))) (pss_one (ps_ret pe_str)) pss_nil)
      (pss_cons (ps_if (PW.pt (pw_and (pt_cmpR (k_eq (K := K) rfl hu64) (pe_ix (k_ix (K := K) rfl hu1) (pv 0) pe_int (fun _ _ => rfl)) pe_str (nomark _)) (pw_and1 (pt_cmpR op_le (pe_ix (k_ix (K := K) rfl hu1) (pv 0) pe_int (fun _ _ => rfl)) (pe_call (ok_life_of T) (hr.mono (by decide)) rfl T.m_life_of T.F_life_of.kp T.B_life_of .nil pass0 (pa_cons (pv 1) pa_nil)) (nomark _))))) (pss_one (ps_ret pe_str)) pss_nil)
      (pss_cons (ps_if (PW.pt (pw_and (pt_cmpR (k_eq (K := K) rfl hu64) (pe_ix (k_ix (K := K) rfl hu1) (pv 0) pe_int (fun _ _ => rfl)) pe_str (nomark _)) (pw_and1 (k_tru (K := K) rfl (pe_callB (k_any (K := K) rfl rfl) (by rfl) T.b_any (by decide +kernel) (pa_cons (pe_lc (own := [("record", 5)]) rfl sc_fault_of_entry.nd (k_seq (K := K) rfl (pv 2)) (blkOk_by (N := N_fault_of_entry) (sc := defScope s_fault_of_entry) (by decide +kernel)) (fun _ _ _ _ _ => (pg_name (i := 5) sc_fault_of_entry.nd rfl (by first | exact Or.inl rfl | exact Or.inr rfl))) (fun _ _ _ _ _ => pts_nil) (fun _ _ _ _ _ => (pe_cmpR (k_eq (K := K) rfl hu64) (k_fld (K := K) rfl (pv 5) rfl) (pe_ix (k_ix (K := K) rfl hu1) (pv 0) pe_int (fun _ _ => rfl)) (nomark _)))) pa_nil)) (by intro _; rfl))))) (pss_one (ps_ret pe_str)) pss_nil)
      (pss_cons (ps_if (k_tru (K := K) rfl (pe_call (ok_is_misplaced T) hr rfl T.m_is_misplaced T.F_is_misplaced.kp T.B_is_misplaced .nil pass0 (pa_cons (pv 2) (pa_cons (pv 0) pa_nil))) (by intro _; rfl)) (pss_one (ps_ret pe_str)) pss_nil)
      (pss_cons (ps_if (PW.pt (pw_and (pt_cmpR (k_eq (K := K) rfl hu64) (pe_ix (k_ix (K := K) rfl hu1) (pv 0) pe_int (fun _ _ => rfl)) pe_str (nomark _)) (pw_and1 (pt_cmpR op_le (pe_ix (k_ix (K := K) rfl hu1) (pv 0) pe_int (fun _ _ => rfl)) (k_fld (K := K) rfl (pe_call (ok_record_at T) (hr.mono (by decide)) rfl T.m_record_at T.F_record_at.kp T.B_record_at .nil pass0 (pa_cons (pv 2) (pa_cons (pe_ix (k_ix (K := K) rfl hu1) (pv 0) pe_int (fun _ _ => rfl)) pa_nil))) rfl) (nomark _))))) (pss_one (ps_ret pe_str)) pss_nil)
      (pss_one (ps_ret pe_non)))))))), ?_⟩
  try dsimp only [cxOf]
  rintro args own P XP ⟨p, as, rs, e, es, o, rfl, rfl, hl, hz, hz2, hq⟩
  show SS K E0 _ [some _, some _, some _, none, none, none] _ _
  cases e with
  | boot lf t =>
    dsimp only [enD]
    walk_at "go"
    refine ⟨.boot lf t, rfl, ?_⟩
    simp only [tmE, oD_some, oD_none]
    walk_at "go"
    refine ex_lcM enD (fun x => .bl (laterE t x)) (ix_s ?_)
    walk_at "go"
    refine ⟨_, .inl rfl, es, rfl, by omega, trivial, fun x hx => ?_, ?_⟩
    · walk_at "go"
      refine ⟨_, rfl, ?_⟩
      unfold laterE
      cases hx2 : tmE x with
      | none =>
        dsimp only [oD]
        walk_at "go"
        exact ⟨rfl, rfl⟩
      | some b =>
        dsimp only [oD]
        walk_at "go"
        refine ⟨_, rfl, ?_⟩
        rw [hx2]
        dsimp only [oD]
        walk_at "go"
        exact ⟨rfl, rfl⟩
    walk_at "go"
    refine any_lst (ns := es.map (laterE t)) (.inl (.inl (congrArg Dat.lst bl_map))) ?_
    have el : (es.map (laterE t)).any id = lateE (.boot lf t) es := by
      rw [List.any_map]; rfl
    rw [el]
    refine ⟨_, rfl, ?_⟩
    refine iteB (fun h1 => ?_) (fun h1 => ?_)
    · walk_at "go"
      rw [fault_time h1] at hq
      exact hq
    rw [fault_rest h1] at hq
    dsimp only [faultR, oldLife, oldId, misE, lowMark] at hq
    walk_at "go"
    refine ⟨es, rfl, hz, ?_⟩
    walk_at "go"
    refine iteD (fun h2 => ?_) (fun h2 => ?_)
    · walk_at "go"
      simp only [h2, decide_true, if_true] at hq
      exact hq
    simp only [h2, decide_false, Bool.false_eq_true, if_false] at hq
    walk_at "go"
    refine ⟨p, as, rs, .boot lf t, o, rfl, rfl, hl, ?_⟩
    dsimp only [misE]
    walk_at "go"
    exact hq
  | opn i r c d pp m w q t =>
    dsimp only [enD]
    walk_at "go"
    refine ⟨.opn i r c d pp m w q t, rfl, ?_⟩
    simp only [tmE, oD_some, oD_none]
    walk_at "go"
    refine ex_lcM enD (fun x => .bl (laterE t x)) (ix_s ?_)
    walk_at "go"
    refine ⟨_, .inl rfl, es, rfl, by omega, trivial, fun x hx => ?_, ?_⟩
    · walk_at "go"
      refine ⟨_, rfl, ?_⟩
      unfold laterE
      cases hx2 : tmE x with
      | none =>
        dsimp only [oD]
        walk_at "go"
        exact ⟨rfl, rfl⟩
      | some b =>
        dsimp only [oD]
        walk_at "go"
        refine ⟨_, rfl, ?_⟩
        rw [hx2]
        dsimp only [oD]
        walk_at "go"
        exact ⟨rfl, rfl⟩
    walk_at "go"
    refine any_lst (ns := es.map (laterE t)) (.inl (.inl (congrArg Dat.lst bl_map))) ?_
    have el : (es.map (laterE t)).any id = lateE (.opn i r c d pp m w q t) es := by
      rw [List.any_map]; rfl
    rw [el]
    refine ⟨_, rfl, ?_⟩
    refine iteB (fun h1 => ?_) (fun h1 => ?_)
    · walk_at "go"
      rw [fault_time h1] at hq
      exact hq
    rw [fault_rest h1] at hq
    dsimp only [faultR, oldLife, oldId, misE, lowMark] at hq
    walk_at "go"
    refine ex_lcM (fun y : Addr × Rc => .ptr y.1) (fun y => .bl (decide (y.2.id = i))) (ix_p ?_)
    walk_at "go"
    refine ⟨p, _, rfl, recO_mem, as.zip rs, zip_ptr hl, by rw [List.length_zip]; omega, recO_mem, fun y hy => ?_, ?_⟩
    · have hm : (y.1, rcC ad y.2) ∈ recO ad p as rs o := List.mem_append_left _ (zip_cell hy)
      walk_at "go"
      refine eq_id ?_
      exact ⟨rfl, rfl⟩
    walk_at "go"
    refine any_lst (ns := rs.map fun r => decide (r.id = i)) (.inl (.inl (congrArg Dat.lst ((zip_map hl (fun r : Rc => Dat.bl (decide (r.id = i)))).trans bl_map)))) ?_
    have ei : (rs.map fun r => decide (r.id = i)).any id = rs.any fun r => decide (r.id = i) := by rw [List.any_map]; rfl
    rw [ei]
    refine ⟨_, rfl, ?_⟩
    refine iteB (fun h2 => ?_) (fun h2 => ?_)
    · walk_at "go"
      simp only [h2] at hq
      exact hq
    simp only [h2] at hq
    walk_at "go"
    refine ⟨p, as, rs, .opn i r c d pp m w q t, o, rfl, rfl, hl, ?_⟩
    dsimp only [misE]
    refine tru_bl ?_
    refine iteB (fun h3 => ?_) (fun h3 => ?_)
    · walk_at "go"
      simp only [h3] at hq
      exact hq
    · walk_at "go"
      simp only [h3] at hq
      exact hq
  | mark i s =>
    dsimp only [enD]
    walk_at "go"
    refine ⟨.mark i s, rfl, ?_⟩
    rw [fault_rest rfl] at hq
    dsimp only [faultR, oldLife, oldId, misE, lowMark] at hq
    simp only [tmE, oD_some, oD_none]
    walk_at "go"
    refine ⟨p, as, rs, .mark i s, o, rfl, rfl, hl, ?_⟩
    dsimp only [misE]
    cases hr : recAt rs (some i) with
    | none =>
      simp only [hr, Option.isNone_none] at hq
      refine tru_bl (iteT ?_)
      walk_at "go"
      exact hq
    | some r =>
      simp only [hr, Option.isNone_some] at hq
      refine tru_bl (iteF ?_)
      walk_at "go"
      refine ⟨p, as, rs, some i, o, rfl, rfl, hl, fun h => ?_, fun a r2 h hm => ?_⟩
      · rw [h] at hr; cases hr
      rw [hr] at h
      cases h
      walk_at "go"
      refine iteD (fun h2 => ?_) (fun h2 => ?_)
      · walk_at "go"
        simp only [h2] at hq
        exact hq
      · walk_at "go"
        simp only [h2] at hq
        exact hq
  | close i c t =>
    dsimp only [enD]
    walk_at "go"
    refine ⟨.close i c t, rfl, ?_⟩
    simp only [tmE, oD_some, oD_none]
    walk_at "go"
    refine ex_lcM enD (fun x => .bl (laterE t x)) (ix_s ?_)
    walk_at "go"
    refine ⟨_, .inl rfl, es, rfl, by omega, trivial, fun x hx => ?_, ?_⟩
    · walk_at "go"
      refine ⟨_, rfl, ?_⟩
      unfold laterE
      cases hx2 : tmE x with
      | none =>
        dsimp only [oD]
        walk_at "go"
        exact ⟨rfl, rfl⟩
      | some b =>
        dsimp only [oD]
        walk_at "go"
        refine ⟨_, rfl, ?_⟩
        rw [hx2]
        dsimp only [oD]
        walk_at "go"
        exact ⟨rfl, rfl⟩
    walk_at "go"
    refine any_lst (ns := es.map (laterE t)) (.inl (.inl (congrArg Dat.lst bl_map))) ?_
    have el : (es.map (laterE t)).any id = lateE (.close i c t) es := by
      rw [List.any_map]; rfl
    rw [el]
    refine ⟨_, rfl, ?_⟩
    refine iteB (fun h1 => ?_) (fun h1 => ?_)
    · walk_at "go"
      rw [fault_time h1] at hq
      exact hq
    rw [fault_rest h1] at hq
    dsimp only [faultR, oldLife, oldId, misE, lowMark] at hq
    walk_at "go"
    refine ⟨p, as, rs, .close i c t, o, rfl, rfl, hl, ?_⟩
    dsimp only [misE]
    refine tru_bl ?_
    refine iteB (fun h2 => ?_) (fun h2 => ?_)
    · walk_at "go"
      simp only [h2] at hq
      exact hq
    · walk_at "go"
      simp only [h2] at hq
      exact hq
  | known n m =>
    dsimp only [enD]
    walk_at "go"
    refine ⟨.known n m, rfl, ?_⟩
    rw [fault_rest rfl] at hq
    dsimp only [faultR, oldLife, oldId, misE, lowMark] at hq
    simp only [tmE, oD_some, oD_none]
    walk_at "go"
    refine ⟨p, as, rs, .known n m, o, rfl, rfl, hl, ?_⟩
    dsimp only [misE]
    walk_at "go"
    exact hq
  | forward n =>
    dsimp only [enD]
    walk_at "go"
    refine ⟨.forward n, rfl, ?_⟩
    rw [fault_rest rfl] at hq
    dsimp only [faultR, oldLife, oldId, misE, lowMark] at hq
    simp only [tmE, oD_some, oD_none]
    walk_at "go"
    refine ⟨p, as, rs, .forward n, o, rfl, rfl, hl, ?_⟩
    dsimp only [misE]
    walk_at "go"
    exact hq
/-! ### Record.__init__ -/
def con_Record_init (ad : Ad) : Con := fun args own P _ => ∃ p r d1 d2 d3 d4 d5 d6 d7 d8 d9, args = [.ptr p, d1, d2, d3, d4, d5, d6, d7, d8, d9] ∧ own = (p, .ins ad.c_Record [] []) :: r ∧ P .non ((p, .ins ad.c_Record rcNs [d1, d2, d3, d4, d5, d6, d7, d8, d9, .int 0, .non, .non]) :: r)
theorem ok_Record_init (T : Tx K mg ad) : FnOk P w K mg base CX0 1 ad.a_Record_init ad.d_Record_init ["self", "call_id", "role", "caller", "called", "payer", "came", "went", "parent", "opened_at"] (SpG K (con_Record_init ad)) := by
  refine okS T.F_Record_init sc_Record_init (by rintro args own P XP ⟨_, _, _, _, _, _, _, _, _, _, _, rfl, _⟩; rfl) fun cdv A outer s H E hr => ?_
  have hu1 := hu_of hr
  have hu64 := hr.units
  have hu65 : (A.deeper (PyProof.Rows.envOfC "Record.__init__" (defScope s_Record_init) s.heap.objs.size ad.a_Record_init cdv)).units + 65 < cLine := by have := hr.un; omega
  refine ⟨_, (pss_cons (ps_fld (pv 0) (pv 1) rfl)
      (pss_cons (ps_fld (pv 0) (pv 2) rfl)
      (pss_cons (ps_fld (pv 0) (pv 3) rfl)
      (pss_cons (ps_fld (pv 0) (pv 4) rfl)
      (pss_cons (ps_fld (pv 0) (pv 5) rfl)
      (pss_cons (ps_fld (pv 0) (pv 6) rfl)
      (pss_cons (ps_fld (pv 0) (pv 7) rfl)
      (pss_cons (ps_fld (pv 0) (pv 8) rfl)
      (pss_cons (ps_fld (pv 0) (pv 9) rfl)
      (pss_cons (ps_fld (pv 0) pe_int rfl)
      (pss_cons (ps_fld (pv 0) pe_non rfl)
      (pss_one (ps_fld (pv 0) pe_non rfl))))))))))))), ?_⟩
  try dsimp only [cxOf]
  rintro args own P XP ⟨p, r, d1, d2, d3, d4, d5, d6, d7, d8, d9, rfl, rfl, hq⟩
  show SS K E0 _ [some _, some _, some _, some _, some _, some _, some _, some _, some _, some _] _ _
  walk_at "go"
  exact hq
/-! ### record_from -/
def con_record_from (ad : Ad) : Con := fun args own P _ => ∃ i r c d p m w q t, args = [enD (.opn i r c d p m w q t)] ∧ ∀ x, x ∉ own.map (·.1) → P (.ptr x) ((x, rcC ad ⟨i, r, c, d, p, m, w, q, t, 0, none, none⟩) :: own)
theorem ok_record_from (T : Tx K mg ad) : FnOk P w K mg base CX0 3 ad.a_record_from ad.d_record_from ["entry"] (SpG K (con_record_from ad)) := by
  refine okS T.F_record_from sc_record_from (by rintro args own P XP ⟨_, _, _, _, _, _, _, _, _, rfl, _⟩; rfl) fun cdv A outer s H E hr => ?_
  have hu1 := hu_of hr
  have hu64 := hr.units
  have hu65 : (A.deeper (PyProof.Rows.envOfC "record_from" (defScope s_record_from) s.heap.objs.size ad.a_record_from cdv)).units + 65 < cLine := by have := hr.un; omega
  refine ⟨_, (pss_cons (ps_asg (pv 0) (pg_tup (by rfl) (pgs_cons (pg_name (i := 1) sc_record_from.nd rfl (by first | exact Or.inl rfl | exact Or.inr rfl)) (pgs_cons (pg_name (i := 2) sc_record_from.nd rfl (by first | exact Or.inl rfl | exact Or.inr rfl)) (pgs_cons (pg_name (i := 3) sc_record_from.nd rfl (by first | exact Or.inl rfl | exact Or.inr rfl)) (pgs_cons (pg_name (i := 4) sc_record_from.nd rfl (by first | exact Or.inl rfl | exact Or.inr rfl)) (pgs_cons (pg_name (i := 5) sc_record_from.nd rfl (by first | exact Or.inl rfl | exact Or.inr rfl)) (pgs_cons (pg_name (i := 6) sc_record_from.nd rfl (by first | exact Or.inl rfl | exact Or.inr rfl)) (pgs_cons (pg_name (i := 7) sc_record_from.nd rfl (by first | exact Or.inl rfl | exact Or.inr rfl)) (pgs_cons (pg_name (i := 8) sc_record_from.nd rfl (by first | exact Or.inl rfl | exact Or.inr rfl)) (pgs_cons (pg_name (i := 9) sc_record_from.nd rfl (by first | exact Or.inl rfl | exact Or.inr rfl)) (pgs_cons (pg_name (i := 10) sc_record_from.nd rfl (by first | exact Or.inl rfl | exact Or.inr rfl)) pgs_nil))))))))))))
      (pss_one (ps_ret (pe_make T.K_Record (ok_Record_init T) hr rfl T.m_Record T.B_Record_init .nil pass0 (pa_cons (pv 2) (pa_cons (pv 3) (pa_cons (pv 4) (pa_cons (pv 5) (pa_cons (pv 6) (pa_cons (pv 7) (pa_cons (pv 8) (pa_cons (pv 9) (pa_cons (pv 10) pa_nil))))))))))))), ?_⟩
  try dsimp only [cxOf]
  rintro args own P XP ⟨i, r, c, d, p, m, w, q, t, rfl, hq⟩
  show SS K E0 _ [some _, none, none, none, none, none, none, none, none, none, none] _ _
  dsimp only [enD]
  walk_at "go"
  refine ex_make ?_
  walk_at "go"
  intro x hx
  exact ⟨x, own, _, _, _, _, _, _, _, _, _, rfl, rfl, rfl, hq x hx⟩
/-! ### close_record -/
def con_close_record (ad : Ad) : Con := fun args own P _ => ∃ a r c t l o, args = [.ptr a, .str c, .int t] ∧ own = l ++ (a, rcC ad r) :: o ∧ P .non (l ++ (a, rcC ad (shut c t r)) :: o)
theorem ok_close_record (T : Tx K mg ad) : FnOk P w K mg base CX0 1 ad.a_close_record ad.d_close_record ["record", "cause", "at"] (SpG K (con_close_record ad)) := by
  refine okS T.F_close_record sc_close_record (by rintro args own P XP ⟨_, _, _, _, _, _, rfl, _⟩; rfl) fun cdv A outer s H E hr => ?_
  have hu1 := hu_of hr
  have hu64 := hr.units
  have hu65 : (A.deeper (PyProof.Rows.envOfC "close_record" (defScope s_close_record) s.heap.objs.size ad.a_close_record cdv)).units + 65 < cLine := by have := hr.un; omega
  refine ⟨_, (pss_cons (ps_fld (pv 0) (pv 2) rfl)
      (pss_one (ps_fld (pv 0) (pv 1) rfl))), ?_⟩
  try dsimp only [cxOf]
  rintro args own P XP ⟨a, r, c, t, l, o, rfl, rfl, hq⟩
  show SS K E0 _ [some _, some _, some _] _ _
  walk_at "go"
  exact hq
/-! ### belongs -/
def con_belongs (ad : Ad) : Con := fun args own P _ => ∃ a r i, args = [.ptr a, idD i] ∧ (a, rcC ad r) ∈ own ∧ P (.bl (hits r i)) own
theorem ok_belongs (T : Tx K mg ad) : FnOk P w K mg base CX0 2 ad.a_belongs ad.d_belongs ["record", "call_id"] (SpG K (con_belongs ad)) := by
  refine okS T.F_belongs sc_belongs (by rintro args own P XP ⟨_, _, _, rfl, _⟩; rfl) fun cdv A outer s H E hr => ?_
  have hu1 := hu_of hr
  have hu64 := hr.units
  have hu65 : (A.deeper (PyProof.Rows.envOfC "belongs" (defScope s_belongs) s.heap.objs.size ad.a_belongs cdv)).units + 65 < cLine := by have := hr.un; omega
  refine ⟨_, (pss_one (ps_ret (k_and (K := K) rfl (pe_meth0 (pv 0) T.cl_Record T.M_Record_is_open (ok_Record_is_open T) hr T.B_Record_is_open .nil pass0 ) (pe_one (pe_cmpR (k_in (K := K) rfl hu65) (pv 1) (pe_tup (pa_cons (k_fld (K := K) rfl (pv 0) rfl) (pa_cons (k_fld (K := K) rfl (pv 0) rfl) pa_nil))) rfl))))), ?_⟩
  try dsimp only [cxOf]
  rintro args own P XP ⟨a, r, i, rfl, hm, hq⟩
  show SS K E0 _ [some _, some _] _ _
  walk_at "go"
  refine ⟨a, r, rfl, hm, ?_⟩
  unfold hits at hq
  cases h : isOpen r with
  | false =>
    rw [h] at hq
    walk_at "go"
    exact hq
  | true =>
    rw [h] at hq
    walk_at "go"
    refine in_seq (n := 1) (m := 1) (.inr rfl) (sh_id i) (.cons (sh_id _) (.cons (sh_oid _) .nil)) fun b hb => ?_
    have : b = (decide (i = r.id) || decide (some i = r.parent)) := by
      rw [Bool.eq_iff_iff, hb]
      simp only [List.mem_cons, List.not_mem_nil, or_false, Bool.or_eq_true, decide_eq_true_eq]
      refine or_congr ⟨idD_inj, fun z => by rw [z]⟩ ?_
      cases e : r.parent with
      | none => simp [oD]
      | some j => exact ⟨fun z => by rw [idD_inj z], fun z => by cases z; rfl⟩
    rw [this]
    exact hq
/-! ### fold_entry -/
def con_fold_entry (ad : Ad) : Con := fun args own P _ => ∃ p as rs e o, args = [.ptr p, enD e] ∧ own = recO ad p as rs o ∧ as.length = rs.length ∧ as.length < 100000 ∧ ∀ as2, as2.length = (foldE rs e).length → P .non (recO ad p as2 (foldE rs e) o)
theorem ok_fold_entry (T : Tx K mg ad) : FnOk P w K mg base CX0 4 ad.a_fold_entry ad.d_fold_entry ["records", "entry"] (SpG K (con_fold_entry ad)) := by
  refine okS T.F_fold_entry sc_fold_entry (by rintro args own P XP ⟨_, _, _, _, _, rfl, _⟩; rfl) fun cdv A outer s H E hr => ?_
  have hu1 := hu_of hr
  have hu64 := hr.units
  have hu65 : (A.deeper (PyProof.Rows.envOfC "fold_entry" (defScope s_fold_entry) s.heap.objs.size ad.a_fold_entry cdv)).units + 65 < cLine := by have := hr.un; omega
  refine ⟨_, (pss_cons (ps_set (i := 2) sc_fold_entry.nd rfl (by first | exact Or.inl rfl | exact Or.inr rfl) (pe_ix (k_ix (K := K) rfl hu1) (pv 1) pe_int (fun _ _ => rfl)))
      (pss_one (ps_if (pt_cmpR (k_eq (K := K) rfl hu64) (pv 2) pe_str (nomark _)) (pss_one (ps_expr (k_bm (K := K) rfl PySem.F.plainAttrs_list PySem.F.slot_list_append PySem.F.type_list_append mt_append (pv 0) (pa_cons (pe_call (ok_record_from T) hr rfl T.m_record_from T.F_record_from.kp T.B_record_from .nil pass0 (pa_cons (pv 1) pa_nil)) pa_nil)))) (pss_one (ps_if (pt_cmpR (k_eq (K := K) rfl hu64) (pv 2) pe_str (nomark _)) (pss_one (ps_for PassesOwn.never rfl (k_seq (K := K) rfl (pv 0)) (pg_name (i := 3) sc_fold_entry.nd rfl (by first | exact Or.inl rfl | exact Or.inr rfl)) (pss_one (ps_if (k_tru (K := K) rfl (pe_meth0 (pv 3) T.cl_Record T.M_Record_is_open (ok_Record_is_open T) (hr.mono (by decide)) T.B_Record_is_open .nil pass0 ) (by intro _; rfl)) (pss_one (ps_expr (pe_call (ok_close_record T) (hr.mono (by decide)) rfl T.m_close_record T.F_close_record.kp T.B_close_record .nil pass0 (pa_cons (pv 3) (pa_cons pe_str (pa_cons (pe_ix (k_ix (K := K) rfl hu1) (pv 1) pe_int (fun _ _ => rfl)) pa_nil)))))) pss_nil)))) (pss_one (ps_if (pt_cmpR (k_eq (K := K) rfl hu64) (pv 2) pe_str (nomark _)) (pss_one (ps_for PassesOwn.never rfl (k_seq (K := K) rfl (pv 0)) (pg_name (i := 3) sc_fold_entry.nd rfl (by first | exact Or.inl rfl | exact Or.inr rfl)) (pss_one (ps_if (k_tru (K := K) rfl (pe_call (ok_belongs T) (hr.mono (by decide)) rfl T.m_belongs T.F_belongs.kp T.B_belongs .nil pass0 (pa_cons (pv 3) (pa_cons (pe_ix (k_ix (K := K) rfl hu1) (pv 1) pe_int (fun _ _ => rfl)) pa_nil))) (by intro _; rfl)) (pss_one (ps_fld (pv 3) (pe_ix (k_ix (K := K) rfl hu1) (pv 1) pe_int (fun _ _ => rfl)) rfl)) pss_nil)))) (pss_one (ps_if (pt_cmpR (k_eq (K := K) rfl hu64) (pv 2) pe_str (nomark _)) (pss_one (ps_for PassesOwn.never rfl (k_seq (K := K) rfl (pv 0)) (pg_name (i := 3) sc_fold_entry.nd rfl (by first | exact Or.inl rfl | exact Or.inr rfl)) (pss_one (ps_if (k_tru (K := K) rfl (pe_call (ok_belongs T) (hr.mono (by decide)) rfl T.m_belongs T.F_belongs.kp T.B_belongs .nil pass0 (pa_cons (pv 3) (pa_cons (pe_ix (k_ix (K := K) rfl hu1) (pv 1) pe_int (fun _ _ => rfl)) pa_nil))) (by intro _; rfl)) (pss_one (ps_expr (pe_call (ok_close_record T) (hr.mono (by decide)) rfl T.m_close_record T.F_close_record.kp T.B_close_record .nil pass0 (pa_cons (pv 3) (pa_cons (pe_ix (k_ix (K := K) rfl hu1) (pv 1) pe_int (fun _ _ => rfl)) (pa_cons (pe_ix (k_ix (K := K) rfl hu1) (pv 1) pe_int (fun _ _ => rfl)) pa_nil)))))) pss_nil)))) pss_nil))))))))), ?_⟩
  try dsimp only [cxOf]
  rintro args own P XP ⟨p, as, rs, e, o, rfl, rfl, hl, hz, hq⟩
  show SS K E0 _ [some _, some _, none, none] _ _
  cases e with
  | boot lf t =>
    have hq2 := hq as (by simp [foldE, newE, hl])
    have ef : foldE rs (.boot lf t) = mapTo (stepR (.boot lf t)) rs.length rs := by rw [mapTo_all]; simp [foldE, newE]
    rw [ef] at hq2
    dsimp only [enD]
    walk_at "go"
    refine ss_for (ix_p ?_)
    walk_at "go"
    refine ⟨p, _, rfl, recO_mem, fun nn sl o2 => ∃ u3, sl = [some (.ptr p), some (enD (.boot lf t)), some (.str "boot"), u3] ∧ o2 = recO ad p as (mapTo (stepR (.boot lf t)) nn rs) o, ⟨_, rfl, rfl⟩, fun _ _ _ h => by obtain ⟨_, _, rfl⟩ := h; exact recO_mem, ?_, ?_⟩
    · rintro k x sl o2 hx ⟨u3, rfl, rfl⟩
      obtain ⟨a, ha, rfl⟩ := map_at hx
      obtain ⟨r, hr⟩ := len_at hl ha
      obtain ⟨l, q, e1, e2⟩ := recO_at (ad := ad) (p := p) (o := o) (by rw [mapTo_len]; exact hl) ha (mapTo_at (f := stepR (.boot lf t)) hr)
      have e3 := e2 (stepR (.boot lf t) r)
      rw [mapTo_set hr] at e3
      rw [e1]
      dsimp only [enD]
      walk_at "go"
      refine ⟨a, r, rfl, List.mem_append_right _ List.mem_cons_self, ?_⟩
      walk_at "go"
      cases ho : isOpen r with
      | true =>
        walk_at "go"
        refine ⟨a, r, _, _, l, q, rfl, rfl, ?_⟩
        refine ⟨_, rfl, ?_⟩
        rw [e3]
        simp only [stepR, ho, if_true]
      | false =>
        walk_at "go"
        rw [e3]
        simp only [stepR, ho]
        simp
    · rintro sl o2 ⟨u3, rfl, rfl⟩
      rw [List.length_map, hl]
      exact hq2
  | opn i r c d pp m w q t =>
    have e0 := fun x => cellsG_snoc (rcC ad) (a := x) (as := as) (rs := rs) (r := ⟨i, r, c, d, pp, m, w, q, t, 0, none, none⟩) hl
    dsimp only [enD]
    walk_at "go"
    refine ex_bm ?_
    walk_at "go"
    refine ⟨ty_lst (.inl (.inr ⟨p, rfl, recO_mem⟩)), ?_⟩
    walk_at "go"
    refine ⟨i, r, c, d, pp, m, w, q, t, rfl, fun x hx => ?_⟩
    walk_at "go"
    refine app_lst (l := (x, rcC ad ⟨i, r, c, d, pp, m, w, q, t, 0, none, none⟩) :: cellsR ad as rs) (by rw [List.length_map]; exact Nat.lt_of_lt_of_le hz ble) ?_
    have := hq (as ++ [x]) (by simp [foldE, newE, hl])
    unfold recO at this
    unfold cellsR at this
    have ef : foldE rs (.opn i r c d pp m w q t) = rs ++ [⟨i, r, c, d, pp, m, w, q, t, 0, none, none⟩] := by
      unfold foldE newE
      rw [show rs.map (stepR (.opn i r c d pp m w q t)) = rs from List.map_id' rs]
    rw [ef, e0 x, List.map_append] at this
    exact this
  | mark i s =>
    have hq2 := hq as (by simp [foldE, newE, hl])
    have ef : foldE rs (.mark i s) = mapTo (stepR (.mark i s)) rs.length rs := by rw [mapTo_all]; simp [foldE, newE]
    rw [ef] at hq2
    dsimp only [enD]
    walk_at "go"
    refine ss_for (ix_p ?_)
    walk_at "go"
    refine ⟨p, _, rfl, recO_mem, fun nn sl o2 => ∃ u3, sl = [some (.ptr p), some (enD (.mark i s)), some (.str "mark"), u3] ∧ o2 = recO ad p as (mapTo (stepR (.mark i s)) nn rs) o, ⟨_, rfl, rfl⟩, fun _ _ _ h => by obtain ⟨_, _, rfl⟩ := h; exact recO_mem, ?_, ?_⟩
    · rintro k x sl o2 hx ⟨u3, rfl, rfl⟩
      obtain ⟨a, ha, rfl⟩ := map_at hx
      obtain ⟨r, hr⟩ := len_at hl ha
      obtain ⟨l, q, e1, e2⟩ := recO_at (ad := ad) (p := p) (o := o) (by rw [mapTo_len]; exact hl) ha (mapTo_at (f := stepR (.mark i s)) hr)
      have e3 := e2 (stepR (.mark i s) r)
      rw [mapTo_set hr] at e3
      rw [e1]
      dsimp only [enD]
      walk_at "go"
      refine ⟨a, r, i, rfl, List.mem_append_right _ List.mem_cons_self, ?_⟩
      walk_at "go"
      cases ho : hits r i with
      | true =>
        walk_at "go"
        rw [e3]
        simp only [stepR, ho, if_true]
        rfl
      | false =>
        walk_at "go"
        rw [e3]
        simp only [stepR, ho]
        simp
    · rintro sl o2 ⟨u3, rfl, rfl⟩
      rw [List.length_map, hl]
      exact hq2
  | close i c t =>
    have hq2 := hq as (by simp [foldE, newE, hl])
    have ef : foldE rs (.close i c t) = mapTo (stepR (.close i c t)) rs.length rs := by rw [mapTo_all]; simp [foldE, newE]
    rw [ef] at hq2
    dsimp only [enD]
    walk_at "go"
    refine ss_for (ix_p ?_)
    walk_at "go"
    refine ⟨p, _, rfl, recO_mem, fun nn sl o2 => ∃ u3, sl = [some (.ptr p), some (enD (.close i c t)), some (.str "close"), u3] ∧ o2 = recO ad p as (mapTo (stepR (.close i c t)) nn rs) o, ⟨_, rfl, rfl⟩, fun _ _ _ h => by obtain ⟨_, _, rfl⟩ := h; exact recO_mem, ?_, ?_⟩
    · rintro k x sl o2 hx ⟨u3, rfl, rfl⟩
      obtain ⟨a, ha, rfl⟩ := map_at hx
      obtain ⟨r, hr⟩ := len_at hl ha
      obtain ⟨l, q, e1, e2⟩ := recO_at (ad := ad) (p := p) (o := o) (by rw [mapTo_len]; exact hl) ha (mapTo_at (f := stepR (.close i c t)) hr)
      have e3 := e2 (stepR (.close i c t) r)
      rw [mapTo_set hr] at e3
      rw [e1]
      dsimp only [enD]
      walk_at "go"
      refine ⟨a, r, i, rfl, List.mem_append_right _ List.mem_cons_self, ?_⟩
      walk_at "go"
      cases ho : hits r i with
      | true =>
        walk_at "go"
        refine ⟨a, r, _, _, l, q, rfl, rfl, ?_⟩
        refine ⟨_, rfl, ?_⟩
        rw [e3]
        simp only [stepR, ho, if_true]
      | false =>
        walk_at "go"
        rw [e3]
        simp only [stepR, ho]
        simp
    · rintro sl o2 ⟨u3, rfl, rfl⟩
      rw [List.length_map, hl]
      exact hq2
  | known n m =>
    have hq2 := hq as (by simp [foldE, newE, hl])
    have ef : foldE rs (.known n m) = rs := by unfold foldE newE; rw [List.append_nil]; exact List.map_id' rs
    rw [ef] at hq2
    dsimp only [enD]
    walk_at "go"
    exact hq2
  | forward n =>
    have hq2 := hq as (by simp [foldE, newE, hl])
    have ef : foldE rs (.forward n) = rs := by unfold foldE newE; rw [List.append_nil]; exact List.map_id' rs
    rw [ef] at hq2
    dsimp only [enD]
    walk_at "go"
    exact hq2
/-! ### fault_of -/
abbrev fdD : Option (Nat × Str) → Dat := oD fun x => .tup [.int (x.1 : Nat), .str x.2]
def con_fault_of (ad : Ad) : Con := fun args own P _ => ∃ es : List En, args = [.lst (es.map enD)] ∧ es.length ≤ 1000 ∧ P (fdD (faultOf es)) own
theorem ok_fault_of (T : Tx K mg ad) : FnOk P w K mg base CX0 5 ad.a_fault_of ad.d_fault_of ["entries"] (SpG K (con_fault_of ad)) := by
  refine okS T.F_fault_of sc_fault_of (by rintro args own P XP ⟨_, rfl, _⟩; rfl) fun cdv A outer s H E hr => ?_
  have hu1 := hu_of hr
  have hu64 := hr.units
  have hu65 : (A.deeper (PyProof.Rows.envOfC "fault_of" (defScope s_fault_of) s.heap.objs.size ad.a_fault_of cdv)).units + 65 < cLine := by have := hr.un; omega
  refine ⟨_, (pss_cons (ps_set (i := 1) sc_fault_of.nd rfl (by first | exact Or.inl rfl | exact Or.inr rfl) (pe_lst pa_nil))
      (pss_cons (ps_for PassesOwn.never rfl (k_enum (K := K) rfl (by rfl) T.b_enumerate (pa_cons (pv 0) pa_nil)) (pg_tup (by rfl) (pgs_cons (pg_name (i := 2) sc_fault_of.nd rfl (by first | exact Or.inl rfl | exact Or.inr rfl)) (pgs_cons (pg_name (i := 3) sc_fault_of.nd rfl (by first | exact Or.inl rfl | exact Or.inr rfl)) pgs_nil))) (pss_cons (ps_set (i := 4) sc_fault_of.nd rfl (by first | exact Or.inl rfl | exact Or.inr rfl) (pe_call (ok_fault_of_entry T) hr rfl T.m_fault_of_entry T.F_fault_of_entry.kp T.B_fault_of_entry .nil pass0 (pa_cons (pv 3) (pa_cons (pe_slice (k_sl (K := K) rfl) (pv 0) po_none (po_some (pv 2))) (pa_cons (pv 1) pa_nil)))))
      (pss_cons (ps_if (pt_cmpR op_notU (pv 4) pe_non (nomark _)) (pss_one (ps_ret (pe_tup (pa_cons (pv 2) (pa_cons (pv 4) pa_nil))))) pss_nil)
      (pss_one (ps_expr (pe_call (ok_fold_entry T) hr rfl T.m_fold_entry T.F_fold_entry.kp T.B_fold_entry .nil pass0 (pa_cons (pv 1) (pa_cons (pv 3) pa_nil))))))))
      (pss_one (ps_ret pe_non)))), ?_⟩
  try dsimp only [cxOf]
  rintro args own P XP ⟨es, rfl, hz, hq⟩
  show SS K E0 _ [some _, none, none, none, none] _ _
  refine ss_fin ?_
  walk_at "go"
  refine ex_lstO ?_
  walk_at "go"
  intro p hp
  walk_at "go"
  refine ss_for (ix_enum ?_)
  walk_at "go"
  refine ⟨_, _, rfl, .inl rfl, fun n sl o => ∃ as u2 u3 u4, sl = [some (.lst (es.map enD)), some (.ptr p), u2, u3, u4] ∧ o = recO ad p as (recs (es.take n)) own ∧ as.length = (recs (es.take n)).length ∧ faultOf es = faultGo (es.take n) (recs (es.take n)) (es.drop n), ⟨[], _, _, _, rfl, rfl, rfl, rfl⟩, fun _ _ _ _ => trivial, ?_, ?_⟩
  · rintro n x sl o hx ⟨as, u2, u3, u4, rfl, rfl, hl, hf⟩
    obtain ⟨d, hd, rfl⟩ := enum_at hx
    obtain ⟨e, he, rfl⟩ := map_at hd
    have hn := (List.getElem?_eq_some_iff.mp he).1
    have hrl := recs_le (es.take n)
    rw [List.length_take] at hrl
    rw [drop_at he] at hf
    have ht : es.take (n + 1) = es.take n ++ [e] := by rw [List.take_add_one, he]; rfl
    walk_at "go"
    refine sl_lst (.inl (.inl rfl)) ?_
    rw [cut_to (by rw [List.length_map]; omega), ← List.map_take]
    walk_at "go"
    refine ⟨p, as, recs (es.take n), e, es.take n, own, rfl, rfl, hl, by rw [List.length_take]; omega, by omega, ?_⟩
    unfold faultGo at hf
    cases hfe : faultE e (es.take n) (recs (es.take n)) with
    | some f =>
      rw [hfe] at hf
      dsimp only [oD]
      walk_at "go"
      refine ⟨_, Cl.trans cl_app (cl_drop (l := [])), ?_⟩
      rw [hf] at hq
      rw [show (es.take n).length = n by rw [List.length_take]; omega] at hq
      exact hq
    | none =>
      rw [hfe] at hf
      dsimp only [oD]
      walk_at "go"
      refine ⟨p, as, recs (es.take n), e, own, rfl, rfl, hl, by omega, fun as2 h2 => ?_⟩
      rw [← recs_snoc, ← ht] at h2 ⊢
      refine ⟨as2, _, _, _, rfl, rfl, h2, ?_⟩
      rw [hf, ht, recs_snoc]
  · rintro sl o ⟨as, u2, u3, u4, rfl, rfl, hl, hf⟩
    rw [enumD_len, List.length_map, List.drop_length] at hf
    walk_at "go"
    refine ⟨_, Cl.trans cl_app (cl_drop (l := [])), ?_⟩
    rw [hf] at hq
    exact hq
/-! ### Record.row -/
abbrev rowD (r : Rc) : Dat := .tup (rcDs r)
def con_Record_row (ad : Ad) : Con := fun args own P _ => ∃ a r, args = [.ptr a] ∧ (a, rcC ad r) ∈ own ∧ P (rowD r) own
theorem ok_Record_row (T : Tx K mg ad) : FnOk P w K mg base CX0 1 ad.a_Record_row ad.d_Record_row ["self"] (SpG K (con_Record_row ad)) := by
  refine okS T.F_Record_row sc_Record_row (by rintro args own P XP ⟨_, _, rfl, _⟩; rfl) fun cdv A outer s H E hr => ?_
  have hu1 := hu_of hr
  have hu64 := hr.units
  have hu65 : (A.deeper (PyProof.Rows.envOfC "Record.row" (defScope s_Record_row) s.heap.objs.size ad.a_Record_row cdv)).units + 65 < cLine := by have := hr.un; omega
  refine ⟨_, (pss_cons (ps_set (i := 1) sc_Record_row.nd rfl (by first | exact Or.inl rfl | exact Or.inr rfl) (pe_tup (pa_cons (k_fld (K := K) rfl (pv 0) rfl) (pa_cons (k_fld (K := K) rfl (pv 0) rfl) (pa_cons (k_fld (K := K) rfl (pv 0) rfl) (pa_cons (k_fld (K := K) rfl (pv 0) rfl) (pa_cons (k_fld (K := K) rfl (pv 0) rfl) pa_nil)))))))
      (pss_one (ps_ret (pe_op (k_add (K := K) rfl) (pv 1) (pe_tup (pa_cons (k_fld (K := K) rfl (pv 0) rfl) (pa_cons (k_fld (K := K) rfl (pv 0) rfl) (pa_cons (k_fld (K := K) rfl (pv 0) rfl) (pa_cons (k_fld (K := K) rfl (pv 0) rfl) (pa_cons (k_fld (K := K) rfl (pv 0) rfl) (pa_cons (k_fld (K := K) rfl (pv 0) rfl) (pa_cons (k_fld (K := K) rfl (pv 0) rfl) pa_nil)))))))))))), ?_⟩
  try dsimp only [cxOf]
  rintro args own P XP ⟨a, r, rfl, hm, hq⟩
  show SS K E0 _ [some _, none] _ _
  walk_at "go"
  refine add_tup (by exact ble) ?_
  exact hq
/-! ### _law_seconds -/
def con__law_seconds (_ : Ad) : Con := fun args own P _ => ∃ (es : List En) (r : Rc), args = [.lst (es.map enD), rowD r] ∧ es.length ≤ 1000 ∧ ((recs es).map (·.id)).Nodup ∧ r ∈ recs es ∧ P (.tup [.int r.conf, oD .int r.closed, oD .str r.cause]) own
def idOf (es : List En) (i : Id) (n : Nat) : Bool := match es[n]? with | some e => decide (idE e = some i) | none => false
theorem opened_at {es : List En} {r : Rc} (nd : ((recs es).map (·.id)).Nodup) (hr : r ∈ recs es) : ∃ k r0 rest, (List.range es.length).filter (idOf es r.id) = k :: rest ∧ k < es.length ∧ r = alongR r0 (es.drop (k + 1)) ∧ r0.closed = none ∧ r0.cause = none ∧ r0.conf = 0 ∧ r0.id = r.id ∧ r0.parent = r.parent := by
  obtain ⟨pre, e, post, r0, h1, h2, h3⟩ := recs_from es r hr
  have hid := along_id r0 post
  rw [← h3] at hid
  have h0 : r0.closed = none ∧ r0.cause = none ∧ r0.conf = 0 ∧ idE e = some r0.id := by
    cases e <;> simp [newE] at h2
    subst h2
    exact ⟨rfl, rfl, rfl, rfl⟩
  have hk : pre.length < es.length := by rw [h1]; simp
  have hf : ((List.range es.length).filter (idOf es r.id)).head? = some pre.length := by
    rw [List.head?_filter, List.find?_range_eq_some]
    refine ⟨?_, List.mem_range.mpr hk, fun j hj => ?_⟩
    · unfold idOf
      rw [h1]
      simp [h0.2.2.2, hid.1]
    · rw [ids_recs, h1, List.filterMap_append, List.nodup_append] at nd
      unfold idOf
      rw [h1, List.getElem?_append_left hj]
      cases hp : pre[j]? with
      | none => rfl
      | some e2 =>
        simp only [Bool.not_eq_true', decide_eq_false_iff_not]
        intro z
        refine nd.2.2 r.id (List.mem_filterMap.mpr ⟨e2, List.mem_of_getElem? hp, z⟩) r.id ?_ rfl
        rw [List.filterMap_cons, h0.2.2.2, hid.1]
        exact List.mem_cons_self
  cases hl : (List.range es.length).filter (idOf es r.id) with
  | nil => rw [hl] at hf; cases hf
  | cons k rest =>
    rw [hl] at hf
    have : k = pre.length := by simpa using hf
    subst this
    refine ⟨_, r0, rest, rfl, hk, ?_, h0.1, h0.2.1, h0.2.2.1, hid.1.symm, hid.2.symm⟩
    have hd : es.drop (pre.length + 1) = post := by rw [h1]; simp
    rw [hd]
    exact h3
theorem ok__law_seconds (T : Tx K mg ad) : FnOk P w K mg base CX0 1 ad.a__law_seconds ad.d__law_seconds ["entries", "row"] (SpG K (con__law_seconds ad)) := by
  refine okS T.F__law_seconds sc__law_seconds (by rintro args own P XP ⟨_, _, rfl, _⟩; rfl) fun cdv A outer s H E hr => ?_
  have hu1 := hu_of hr
  have hu64 := hr.units
  have hu65 : (A.deeper (PyProof.Rows.envOfC "_law_seconds" (defScope s__law_seconds) s.heap.objs.size ad.a__law_seconds cdv)).units + 65 < cLine := by have := hr.un; omega
  refine ⟨_, (pss_cons (ps_set (i := 2) sc__law_seconds.nd rfl (by first | exact Or.inl rfl | exact Or.inr rfl) (pe_ix (k_ix (K := K) rfl hu1) (pe_lc (own := [("at", 5)]) rfl sc__law_seconds.nd (pi_range1 (by rfl) T.b_range (pa_cons (pe_callB (k_len (K := K) rfl) (by rfl) T.b_len (by decide +kernel) (pa_cons (pv 0) pa_nil)) pa_nil)) (blkOk_by (N := N__law_seconds) (sc := defScope s__law_seconds) (by decide +kernel)) (fun _ _ _ _ _ => (pg_name (i := 5) sc__law_seconds.nd rfl (by first | exact Or.inl rfl | exact Or.inr rfl))) (fun _ _ _ _ _ => (pts_one (PW.pt (pw_and (pt_cmpR (k_eq (K := K) rfl hu64) (pe_ix (k_ix (K := K) rfl hu1) (pe_ix (k_ix (K := K) rfl hu1) (pv 0) (pv 5) (fun _ _ => rfl)) pe_int (fun _ _ => rfl)) pe_str (nomark _)) (pw_and1 (pt_cmpR (k_eq (K := K) rfl hu64) (pe_ix (k_ix (K := K) rfl hu1) (pe_ix (k_ix (K := K) rfl hu1) (pv 0) (pv 5) (fun _ _ => rfl)) pe_int (fun _ _ => rfl)) (pe_ix (k_ix (K := K) rfl hu1) (pv 1) pe_int (fun _ _ => rfl)) (nomark _))))))) (fun _ _ _ _ _ => (pv 5))) pe_int (fun _ _ => rfl)))
      (pss_cons (ps_set (i := 3) sc__law_seconds.nd rfl (by first | exact Or.inl rfl | exact Or.inr rfl) pe_int)
      (pss_cons (ps_for PassesOwn.never rfl (k_seq (K := K) rfl (pe_slice (k_sl (K := K) rfl) (pv 0) (po_some (pe_op (k_add (K := K) rfl) (pv 2) pe_int)) po_none)) (pg_name (i := 4) sc__law_seconds.nd rfl (by first | exact Or.inl rfl | exact Or.inr rfl)) (pss_cons (ps_if (pt_cmpR (k_eq (K := K) rfl hu64) (pe_ix (k_ix (K := K) rfl hu1) (pv 4) pe_int (fun _ _ => rfl)) pe_str (nomark _)) (pss_one (ps_ret (pe_tup (pa_cons (pv 3) (pa_cons (pe_ix (k_ix (K := K) rfl hu1) (pv 4) pe_int (fun _ _ => rfl)) (pa_cons pe_str pa_nil)))))) pss_nil)
      (pss_one (ps_if (PW.pt (pw_and (pt_cmpR (k_in (K := K) rfl hu65) (pe_ix (k_ix (K := K) rfl hu1) (pv 4) pe_int (fun _ _ => rfl)) (pe_tup (pa_cons pe_str (pa_cons pe_str pa_nil))) rfl) (pw_and1 (pt_cmpR (k_in (K := K) rfl hu65) (pe_ix (k_ix (K := K) rfl hu1) (pv 4) pe_int (fun _ _ => rfl)) (pe_tup (pa_cons (pe_ix (k_ix (K := K) rfl hu1) (pv 1) pe_int (fun _ _ => rfl)) (pa_cons (pe_ix (k_ix (K := K) rfl hu1) (pv 1) pe_int (fun _ _ => rfl)) pa_nil))) rfl)))) (pss_cons (ps_if (pt_cmpR (k_eq (K := K) rfl hu64) (pe_ix (k_ix (K := K) rfl hu1) (pv 4) pe_int (fun _ _ => rfl)) pe_str (nomark _)) (pss_one (ps_ret (pe_tup (pa_cons (pv 3) (pa_cons (pe_ix (k_ix (K := K) rfl hu1) (pv 4) pe_int (fun _ _ => rfl)) (pa_cons (pe_ix (k_ix (K := K) rfl hu1) (pv 4) pe_int (fun _ _ => rfl)) pa_nil)))))) pss_nil)
      (pss_one (ps_set (i := 3) sc__law_seconds.nd rfl (by first | exact Or.inl rfl | exact Or.inr rfl) (pe_ix (k_ix (K := K) rfl hu1) (pv 4) pe_int (fun _ _ => rfl))))) pss_nil))))
      (pss_one (ps_ret (pe_tup (pa_cons (pv 3) (pa_cons pe_non (pa_cons pe_non pa_nil))))))))), ?_⟩
  try dsimp only [cxOf]
  rintro args own P XP ⟨es, r, rfl, hz, nd, hr, hq⟩
  show SS K E0 _ [some _, some _, none, none, none, none] _ _
  obtain ⟨k, r0, rest, h1, h2, h3, h4, h5, h6, h7, h8⟩ := opened_at nd hr
  walk_at "go"
  refine ex_lcP (fun n : Nat => .int n) (fun n : Nat => .int n) (idOf es r.id) ?_
  walk_at "go"
  refine ⟨by omega, by rw [List.length_map]; omega, List.range es.length, by rw [List.length_map]; rfl, by rw [List.length_range]; omega, trivial, fun n hn => ?_, ?_⟩
  · rw [List.mem_range] at hn
    obtain ⟨e, he⟩ : ∃ e, es[n]? = some e := ⟨es[n], by simp [hn]⟩
    have ie : atI (es.map enD) (n : Int) = some (enD e) := atN (by rw [List.getElem?_map, he]; rfl)
    have hi : idOf es r.id n = decide (idE e = some r.id) := by unfold idOf; rw [he]
    rw [hi]
    walk_at "go"
    refine ix_lst (.inl (.inl rfl)) ie ?_
    cases e with
    | opn i ro c d p m w q t =>
      dsimp only [enD]
      walk_at "go"
      refine ix_lst (.inl (.inl rfl)) ie ?_
      dsimp only [enD]
      walk_at "go"
      refine eq_id ?_
      refine ⟨_, rfl, ?_⟩
      refine iteD (fun h => ?_) (fun h => ?_)
      · walk_at "go"
        exact ⟨by simp [idE, h], rfl, rfl⟩
      · exact ⟨by simp [idE, h], rfl⟩
    | _ =>
      dsimp only [enD]
      walk_at "go"
      exact ⟨by simp [idE], rfl⟩
  rw [h1, List.map_cons]
  walk_at "go"
  walk_at "go"
  have hs := secs_along (es.drop (k + 1)) r0 h4 h5
  rw [← h3, h6, h7, h8] at hs
  refine ss_forR enD (fun rest sl o => ∃ s u u2, sl = [some (.lst (es.map enD)), some (rowD r), some (.int k), some (.int s), u, u2] ∧ o = own ∧ secsGo r.id r.parent s rest = (r.conf, r.closed, r.cause)) (ix_s ?_)
  walk_at "go"
  refine sl_lst (.inl (.inl rfl)) ?_
  rw [show ((k : Int) + 1) = ((k + 1 : Nat) : Int) by omega, cut_from (by rw [List.length_map]; omega), ← List.map_drop]
  refine ⟨_, .inl rfl, es.drop (k + 1), rfl, ⟨0, _, _, rfl, rfl, hs⟩, fun _ _ _ _ => trivial, ?_, ?_⟩
  · rintro pre e rest2 sl o _ ⟨s, u, u2, rfl, rfl, hg⟩
    cases e with
    | boot l t =>
      dsimp only [enD]
      walk_at "go"
      unfold secsGo at hg
      injection hg with a b
      injection b with b c
      rw [← a, ← b, ← c] at hq
      exact hq
    | mark i m =>
      dsimp only [enD]
      walk_at "go"
      refine strIn (ys := ["mark", "close"]) (by decide +kernel) (by decide +kernel) ?_
      walk_at "go"
      refine in_seq (n := 1) (m := 1) (.inr rfl) (sh_id i) (.cons (sh_id _) (.cons (sh_oid _) .nil)) fun b hb => ?_
      have hb2 : b = true ↔ (i = r.id ∨ some i = r.parent) := by
        rw [hb]
        simp only [List.mem_cons, List.not_mem_nil, or_false]
        exact or_congr ⟨idD_inj, fun z => by rw [z]⟩ oid_iff
      unfold secsGo at hg
      refine ⟨_, rfl, ?_⟩
      show if b = true then _ else _
      refine iteB (fun h => ?_) (fun h => ?_)
      · rw [if_pos (hb2.mp h)] at hg
        walk_at "go"
        exact ⟨_, _, _, rfl, rfl, hg⟩
      · rw [if_neg fun z => by rw [hb2.mpr z] at h; cases h] at hg
        walk_at "go"
        exact ⟨_, _, _, rfl, rfl, hg⟩
    | close i c t =>
      dsimp only [enD]
      walk_at "go"
      refine strIn (ys := ["mark", "close"]) (by decide +kernel) (by decide +kernel) ?_
      walk_at "go"
      refine in_seq (n := 1) (m := 1) (.inr rfl) (sh_id i) (.cons (sh_id _) (.cons (sh_oid _) .nil)) fun b hb => ?_
      have hb2 : b = true ↔ (i = r.id ∨ some i = r.parent) := by
        rw [hb]
        simp only [List.mem_cons, List.not_mem_nil, or_false]
        exact or_congr ⟨idD_inj, fun z => by rw [z]⟩ oid_iff
      unfold secsGo at hg
      refine ⟨_, rfl, ?_⟩
      show if b = true then _ else _
      refine iteB (fun h => ?_) (fun h => ?_)
      · rw [if_pos (hb2.mp h)] at hg
        walk_at "go"
        injection hg with a b
        injection b with b c
        rw [← a, ← b, ← c] at hq
        exact hq
      · rw [if_neg fun z => by rw [hb2.mpr z] at h; cases h] at hg
        walk_at "go"
        exact ⟨_, _, _, rfl, rfl, hg⟩
    | opn i ro c d p m w q t =>
      dsimp only [enD]
      walk_at "go"
      refine strIn (ys := ["mark", "close"]) (by decide +kernel) (by decide +kernel) ?_
      walk_at "go"
      unfold secsGo at hg
      exact ⟨_, _, _, rfl, rfl, hg⟩
    | known a b =>
      dsimp only [enD]
      walk_at "go"
      refine strIn (ys := ["mark", "close"]) (by decide +kernel) (by decide +kernel) ?_
      walk_at "go"
      unfold secsGo at hg
      exact ⟨_, _, _, rfl, rfl, hg⟩
    | forward a =>
      dsimp only [enD]
      walk_at "go"
      refine strIn (ys := ["mark", "close"]) (by decide +kernel) (by decide +kernel) ?_
      walk_at "go"
      unfold secsGo at hg
      exact ⟨_, _, _, rfl, rfl, hg⟩
  · rintro sl o ⟨s, u, u2, rfl, rfl, hg⟩
    walk_at "go"
    unfold secsGo at hg
    injection hg with a b
    injection b with b c
    rw [← a, ← b, ← c] at hq
    exact hq
/-! ### records_of -/
def con_records_of (ad : Ad) : Con := fun args own P _ => ∃ es : List En, args = [.lst (es.map enD)] ∧ es.length ≤ 1000 ∧ ∀ p as, as.length = (recs es).length → P (.ptr p) (recO ad p as (recs es) own)
theorem ok_records_of (T : Tx K mg ad) : FnOk P w K mg base CX0 5 ad.a_records_of ad.d_records_of ["entries"] (SpG K (con_records_of ad)) := by
  refine okS T.F_records_of sc_records_of (by rintro args own P XP ⟨_, rfl, _⟩; rfl) fun cdv A outer s H E hr => ?_
  have hu1 := hu_of hr
  have hu64 := hr.units
  have hu65 : (A.deeper (PyProof.Rows.envOfC "records_of" (defScope s_records_of) s.heap.objs.size ad.a_records_of cdv)).units + 65 < cLine := by have := hr.un; omega
  refine ⟨_, (pss_cons (ps_set (i := 1) sc_records_of.nd rfl (by first | exact Or.inl rfl | exact Or.inr rfl) (pe_lst pa_nil))
      (pss_cons (ps_for PassesOwn.never rfl (k_seq (K := K) rfl (pv 0)) (pg_name (i := 2) sc_records_of.nd rfl (by first | exact Or.inl rfl | exact Or.inr rfl)) (pss_one (ps_expr (pe_call (ok_fold_entry T) hr rfl T.m_fold_entry T.F_fold_entry.kp T.B_fold_entry .nil pass0 (pa_cons (pv 1) (pa_cons (pv 2) pa_nil))))))
      (pss_one (ps_ret (pv 1))))), ?_⟩
  try dsimp only [cxOf]
  rintro args own P XP ⟨es, rfl, hz, hq⟩
  show SS K E0 _ [some _, none, none] _ _
  walk_at "go"
  refine ex_lstO ?_
  walk_at "go"
  intro p hp
  walk_at "go"
  refine ss_forR enD (fun rest sl o => ∃ pre as u2, es = pre ++ rest ∧ as.length = (recs pre).length ∧ sl = [some (.lst (es.map enD)), some (.ptr p), u2] ∧ o = recO ad p as (recs pre) own) (ix_s ?_)
  walk_at "go"
  refine ⟨_, .inl rfl, es, rfl, ⟨[], [], _, rfl, rfl, rfl, rfl⟩, fun _ _ _ _ => trivial, ?_, ?_⟩
  · rintro pre0 e r sl o _ ⟨pre, as, u2, he, hl, rfl, rfl⟩
    walk_at "go"
    have hpl : as.length < 100000 := by
      have := recs_le pre
      have := congrArg List.length he
      rw [List.length_append] at this
      omega
    refine ⟨p, as, recs pre, e, own, rfl, rfl, hl, hpl, fun as2 h2 => ?_⟩
    rw [← recs_snoc] at h2 ⊢
    exact ⟨pre ++ [e], as2, _, by rw [he]; simp, h2, rfl, rfl⟩
  · rintro sl o ⟨pre, as, u2, he, hl, rfl, rfl⟩
    rw [List.append_nil] at he
    subst he
    walk_at "go"
    exact hq p as hl
/-! ### _law_grows -/
def con__law_grows (_ : Ad) : Con := fun args own P _ => ∃ rs qs : List Rc, args = [.lst (rs.map rowD), .lst (qs.map rowD)] ∧ rs.length ≤ 1000 ∧ qs.length ≤ 1000 ∧ Grows rs qs ∧ (∀ r ∈ rs, RcOk r) ∧ P (.bl true) own
theorem c9 (r : Rc) : cutD (rcDs r) none (some 9) = [idD r.id, .str r.role, .str r.caller, .str r.called, oD .str r.payer, oD idD r.came, oD idD r.went, oD idD r.parent, .int r.opened] := cut_to (k := 9) (ds := rcDs r) (by show 9 ≤ 12; decide)
theorem c9b (r : Rc) : cutD (rcDs r) (some 9) none = [.int r.conf, oD .int r.closed, oD .str r.cause] := cut_from (k := 9) (ds := rcDs r) (by show 9 ≤ 12; decide)
theorem sh_ostr {z : Option Str} (h : ∀ p, z = some p → PyData.strOk p = true) : Sh 1 (oD .str z) := by
  cases z with
  | none => exact .non
  | some z => exact .str (h z rfl)
theorem sh_oint {z : Option Int} : Sh 1 (oD .int z) := by
  cases z with
  | none => exact .non
  | some z => exact .int z
theorem sh_row {r : Rc} (h : RcOk r) : Sh 2 (rowD r) := by
  obtain ⟨a, b, c, d, e⟩ := h
  exact .tup (.cons (sh_id _) (.cons (.str a) (.cons (.str b) (.cons (.str c) (.cons (sh_ostr d) (.cons (sh_oid _) (.cons (sh_oid _) (.cons (sh_oid _) (.cons (.int _) (.cons (.int _) (.cons sh_oint (.cons (sh_ostr e) .nil))))))))))))
theorem sh_row9 {r : Rc} (h : RcOk r) : Sh 2 (.tup [idD r.id, .str r.role, .str r.caller, .str r.called, oD .str r.payer, oD idD r.came, oD idD r.went, oD idD r.parent, .int r.opened]) := by
  obtain ⟨a, b, c, d, e⟩ := h
  exact .tup (.cons (sh_id _) (.cons (.str a) (.cons (.str b) (.cons (.str c) (.cons (sh_ostr d) (.cons (sh_oid _) (.cons (sh_oid _) (.cons (sh_oid _) (.cons (.int _) .nil)))))))))
theorem ok__law_grows (T : Tx K mg ad) : FnOk P w K mg base CX0 1 ad.a__law_grows ad.d__law_grows ["before", "after"] (SpG K (con__law_grows ad)) := by
  refine okS T.F__law_grows sc__law_grows (by rintro args own P XP ⟨_, _, rfl, _⟩; rfl) fun cdv A outer s H E hr => ?_
  have hu1 := hu_of hr
  have hu64 := hr.units
  have hu65 : (A.deeper (PyProof.Rows.envOfC "_law_grows" (defScope s__law_grows) s.heap.objs.size ad.a__law_grows cdv)).units + 65 < cLine := by have := hr.un; omega
  refine ⟨_, (pss_cons (ps_if (pt_cmpR op_lt (pe_callB (k_len (K := K) rfl) (by rfl) T.b_len (by decide +kernel) (pa_cons (pv 1) pa_nil)) (pe_callB (k_len (K := K) rfl) (by rfl) T.b_len (by decide +kernel) (pa_cons (pv 0) pa_nil)) (nomark _)) (pss_one (ps_ret pe_bl)) pss_nil)
      (pss_cons (ps_for PassesOwn.never rfl (pi_range1 (by rfl) T.b_range (pa_cons (pe_callB (k_len (K := K) rfl) (by rfl) T.b_len (by decide +kernel) (pa_cons (pv 0) pa_nil)) pa_nil)) (pg_name (i := 2) sc__law_grows.nd rfl (by first | exact Or.inl rfl | exact Or.inr rfl)) (pss_cons (ps_if (PW.pt (pw_or (pt_cmpR (k_ne (K := K) rfl hu64) (pe_slice (k_sl (K := K) rfl) (pe_ix (k_ix (K := K) rfl hu1) (pv 1) (pv 2) (fun _ _ => rfl)) po_none (po_some pe_int)) (pe_slice (k_sl (K := K) rfl) (pe_ix (k_ix (K := K) rfl hu1) (pv 0) (pv 2) (fun _ _ => rfl)) po_none (po_some pe_int)) (nomark _)) (pw_or1 (pt_cmpR op_lt (pe_ix (k_ix (K := K) rfl hu1) (pe_ix (k_ix (K := K) rfl hu1) (pv 1) (pv 2) (fun _ _ => rfl)) pe_int (fun _ _ => rfl)) (pe_ix (k_ix (K := K) rfl hu1) (pe_ix (k_ix (K := K) rfl hu1) (pv 0) (pv 2) (fun _ _ => rfl)) pe_int (fun _ _ => rfl)) (nomark _))))) (pss_one (ps_ret pe_bl)) pss_nil)
      (pss_one (ps_if (PW.pt (pw_and (pt_cmpR op_notU (pe_ix (k_ix (K := K) rfl hu1) (pe_ix (k_ix (K := K) rfl hu1) (pv 0) (pv 2) (fun _ _ => rfl)) pe_int (fun _ _ => rfl)) pe_non (nomark _)) (pw_and1 (pt_cmpR (k_ne (K := K) rfl hu64) (pe_ix (k_ix (K := K) rfl hu1) (pv 1) (pv 2) (fun _ _ => rfl)) (pe_ix (k_ix (K := K) rfl hu1) (pv 0) (pv 2) (fun _ _ => rfl)) (nomark _))))) (pss_one (ps_ret pe_bl)) pss_nil))))
      (pss_one (ps_ret pe_bl)))), ?_⟩
  try dsimp only [cxOf]
  rintro args own P XP ⟨rs, qs, rfl, hz, hz2, ⟨hg1, hg2⟩, hok, hq⟩
  show SS K E0 _ [some _, some _, none] _ _
  walk_at "go"
  refine iteD (fun h => ?_) (fun h => ?_)
  · exfalso
    rw [List.length_map, List.length_map] at h
    omega
  walk_at "go"
  refine ss_for ?_
  walk_at "go"
  refine ⟨by omega, by rw [List.length_map]; omega, fun i sl o => ∃ u, sl = [some (.lst (rs.map rowD)), some (.lst (qs.map rowD)), u] ∧ o = own, ⟨_, rfl, rfl⟩, fun _ _ _ _ => trivial, ?_, ?_⟩
  · rintro i x sl o hx ⟨u, rfl, rfl⟩
    obtain ⟨hlt, rfl⟩ := rng_at hx
    rw [List.length_map, Int.toNat_natCast] at hlt
    obtain ⟨a, ha⟩ : ∃ a, rs[i]? = some a := ⟨rs[i], by simp [hlt]⟩
    obtain ⟨b, hb, g1, g2, g3⟩ := hg2 i a ha
    have hoa := hok a (List.mem_of_getElem? ha)
    have ia : atI (rs.map rowD) (i : Int) = some (rowD a) := atN (by rw [List.getElem?_map, ha]; rfl)
    have ib : atI (qs.map rowD) (i : Int) = some (rowD b) := atN (by rw [List.getElem?_map, hb]; rfl)
    obtain ⟨e1, e2, e3, e4, e5, e6, e7, e8, e9⟩ := g1
    walk_at "go"
    refine ix_lst (.inl (.inl rfl)) ib ?_
    walk_at "go"
    refine sl_tp ?_
    rw [c9]
    walk_at "go"
    refine ix_lst (.inl (.inl rfl)) ia ?_
    walk_at "go"
    refine sl_tp ?_
    rw [c9, e1, e2, e3, e4, e5, e6, e7, e8, e9]
    refine ne_same (sh_row9 hoa) rfl ?_
    walk_at "go"
    refine ix_lst (.inl (.inl rfl)) ib ?_
    walk_at "go"
    refine ix_lst (.inl (.inl rfl)) ia ?_
    walk_at "go"
    refine iteD (fun h => ?_) (fun h => ?_)
    · omega
    walk_at "go"
    refine ix_lst (.inl (.inl rfl)) ia ?_
    walk_at "go"
    refine ix_tp (ds := rcDs a) (e := oD .int a.closed) (atN (n := 10) rfl) ?_
    cases hc : a.closed with
    | none =>
      dsimp only [oD]
      walk_at "go"
      exact rfl
    | some z =>
      have := g3 (by rw [hc]; exact fun z => nomatch z)
      subst this
      dsimp only [oD]
      walk_at "go"
      refine ix_lst (.inl (.inl rfl)) ib ?_
      walk_at "go"
      refine ix_lst (.inl (.inl rfl)) ia ?_
      refine ne_same (sh_row hoa) rfl ?_
      walk_at "go"
      exact rfl
  · rintro sl o ⟨u, rfl, rfl⟩
    walk_at "go"
    exact hq
/-! ### law -/
def con_law (_ : Ad) : Con := con_law0
theorem recs_len (es : List En) : (recs es).length = (es.filter fun e => (idE e).isSome).length := by
  have h := congrArg List.length (ids_recs es)
  rw [List.length_map] at h
  rw [h]
  clear h
  induction es with
  | nil => rfl
  | cons e es ih =>
    rw [List.filterMap_cons, List.filter_cons]
    cases idE e with
    | none => simpa using ih
    | some i => simp [ih]
theorem grows_take {es : List En} (g : Good es) (i : Nat) (hi : i ≤ es.length) : Grows (recs (es.take (i - 1))) (recs (es.take i)) := by
  cases i with
  | zero => exact ⟨Nat.le_refl _, fun k a h => ⟨a, h, ⟨rfl, rfl, rfl, rfl, rfl, rfl, rfl, rfl, rfl⟩, Int.le_refl _, fun _ => rfl⟩⟩
  | succ i =>
    have he : es[i]? = some es[i] := by simp [show i < es.length by omega]
    have h1 : es.take (i + 1) = es.take i ++ [es[i]] := by rw [List.take_add_one, he]; rfl
    rw [Nat.add_sub_cancel, h1]
    exact (g (es.take i) es[i] (es.drop (i + 1)) (split_at he)).2
theorem ok_law (T : Tx K mg ad) : FnOk P w K mg base CX0 6 ad.a_law ad.d_law ["script"] (SpG K (con_law ad)) := by
  refine okS T.F_law sc_law (by rintro args own P XP ⟨_, rfl, _⟩; rfl) fun cdv A outer s H E hr => ?_
  have hu1 := hu_of hr
  have hu64 := hr.units
  have hu65 : (A.deeper (PyProof.Rows.envOfC "law" (defScope s_law) s.heap.objs.size ad.a_law cdv)).units + 65 < cLine := by have := hr.un; omega
  refine ⟨_, (pss_cons (ps_set (i := 1) sc_law.nd rfl (by first | exact Or.inl rfl | exact Or.inr rfl) (pe_call (ok__law_state T) (hr.mono (by decide)) rfl T.m__law_state T.F__law_state.kp T.B__law_state .nil pass0 (pa_cons (pv 0) (pa_cons pe_int (pa_cons pe_int pa_nil)))))
      (pss_cons (ps_set (i := 2) sc_law.nd rfl (by first | exact Or.inl rfl | exact Or.inr rfl) (pe_call (ok__law_entries T) (hr.mono (by decide)) rfl T.m__law_entries T.F__law_entries.kp T.B__law_entries .nil pass0 (pa_cons (pv 1) (pa_cons (pe_op (k_add (K := K) rfl) pe_int (pe_call (ok__law_draw T) (hr.mono (by decide)) rfl T.m__law_draw T.F__law_draw.kp T.B__law_draw .nil pass0 (pa_cons (pv 1) (pa_cons pe_int pa_nil)))) (pa_cons pe_int pa_nil)))))
      (pss_cons (ps_set (i := 3) sc_law.nd rfl (by first | exact Or.inl rfl | exact Or.inr rfl) (pe_lst pa_nil))
      (pss_cons (ps_for PassesOwn.never rfl (pi_range1 (by rfl) T.b_range (pa_cons (pe_op (k_add (K := K) rfl) (pe_callB (k_len (K := K) rfl) (by rfl) T.b_len (by decide +kernel) (pa_cons (pv 2) pa_nil)) pe_int) pa_nil)) (pg_name (i := 4) sc_law.nd rfl (by first | exact Or.inl rfl | exact Or.inr rfl)) (pss_cons (ps_setLc (i := 10) (own := [("record", 11)]) rfl sc_law.nd rfl rfl (sw_true rfl rfl rfl (by decide +kernel)) (k_seq (K := K) rfl (pe_call (ok_records_of T) hr rfl T.m_records_of T.F_records_of.kp T.B_records_of .nil pass0 (pa_cons (pe_slice (k_sl (K := K) rfl) (pv 2) po_none (po_some (pv 4))) pa_nil))) (blkOk_by (N := N_law) (sc := defScope s_law) (by decide +kernel)) (fun _ _ _ _ _ => (pg_name (i := 11) sc_law.nd rfl (by first | exact Or.inl rfl | exact Or.inr rfl))) (fun _ _ _ _ _ => pts_nil) (fun _ _ _ _ _ => (pe_meth0 (pv 11) T.cl_Record T.M_Record_row (ok_Record_row T) (hr.mono (by decide)) T.B_Record_row .nil pass0 )))
      (pss_cons (ps_if (PW.pt (pw_or (pt_cmpR op_notU (pe_call (ok_fault_of T) hr rfl T.m_fault_of T.F_fault_of.kp T.B_fault_of .nil pass0 (pa_cons (pe_slice (k_sl (K := K) rfl) (pv 2) po_none (po_some (pv 4))) pa_nil)) pe_non (nomark _)) (pw_or1 (pt_not (k_tru (K := K) rfl (pe_call (ok__law_grows T) (hr.mono (by decide)) rfl T.m__law_grows T.F__law_grows.kp T.B__law_grows .nil pass0 (pa_cons (pv 3) (pa_cons (pv 10) pa_nil))) (by intro _; rfl)))))) (pss_one (ps_ret pe_bl)) pss_nil)
      (pss_cons (ps_if (pt_cmpR (k_ne (K := K) rfl hu64) (pe_callB (k_len (K := K) rfl) (by rfl) T.b_len (by decide +kernel) (pa_cons (pv 10) pa_nil)) (pe_callB (k_len (K := K) rfl) (by rfl) T.b_len (by decide +kernel) (pa_cons (pe_lc (own := [("entry", 12)]) rfl sc_law.nd (k_seq (K := K) rfl (pe_slice (k_sl (K := K) rfl) (pv 2) po_none (po_some (pv 4)))) (blkOk_by (N := N_law) (sc := defScope s_law) (by decide +kernel)) (fun _ _ _ _ _ => (pg_name (i := 12) sc_law.nd rfl (by first | exact Or.inl rfl | exact Or.inr rfl))) (fun _ _ _ _ _ => (pts_one (pt_cmpR (k_eq (K := K) rfl hu64) (pe_ix (k_ix (K := K) rfl hu1) (pv 12) pe_int (fun _ _ => rfl)) pe_str (nomark _)))) (fun _ _ _ _ _ => (pv 12))) pa_nil)) (nomark _)) (pss_one (ps_ret pe_bl)) pss_nil)
      (pss_one (ps_set (i := 3) sc_law.nd rfl (by first | exact Or.inl rfl | exact Or.inr rfl) (pv 10)))))))
      (pss_cons (ps_for PassesOwn.never rfl (k_seq (K := K) rfl (pv 3)) (pg_name (i := 5) sc_law.nd rfl (by first | exact Or.inl rfl | exact Or.inr rfl)) (pss_one (ps_if (pt_cmpR (k_ne (K := K) rfl hu64) (pe_call (ok__law_seconds T) (hr.mono (by decide)) rfl T.m__law_seconds T.F__law_seconds.kp T.B__law_seconds .nil pass0 (pa_cons (pv 2) (pa_cons (pv 5) pa_nil))) (pe_slice (k_sl (K := K) rfl) (pv 5) (po_some pe_int) po_none) (nomark _)) (pss_one (ps_ret pe_bl)) pss_nil)))
      (pss_cons (ps_set (i := 6) sc_law.nd rfl (by first | exact Or.inl rfl | exact Or.inr rfl) (pe_call (ok__law_draw T) (hr.mono (by decide)) rfl T.m__law_draw T.F__law_draw.kp T.B__law_draw .nil pass0 (pa_cons (pv 1) (pa_cons (pe_op (k_add (K := K) rfl) (pe_callB (k_len (K := K) rfl) (by rfl) T.b_len (by decide +kernel) (pa_cons (pv 2) pa_nil)) pe_int) pa_nil))))
      (pss_cons (ps_set (i := 7) sc_law.nd rfl (by first | exact Or.inl rfl | exact Or.inr rfl) (pe_ix (k_ix (K := K) rfl hu1) (pe_tup (pa_cons (pe_tup (pa_cons pe_str (pa_cons (pe_tup (pa_cons pe_int (pa_cons pe_int (pa_cons pe_int pa_nil)))) (pa_cons pe_int pa_nil)))) (pa_cons (pe_tup (pa_cons pe_str (pa_cons (pe_tup (pa_cons pe_int (pa_cons pe_int (pa_cons pe_int pa_nil)))) (pa_cons pe_str (pa_cons (pe_op op_pow pe_int pe_int) pa_nil))))) (pa_cons (pe_tup (pa_cons pe_str (pa_cons pe_int (pa_cons (pe_op op_pow pe_int pe_int) pa_nil)))) pa_nil)))) (pe_call (ok__law_draw T) (hr.mono (by decide)) rfl T.m__law_draw T.F__law_draw.kp T.B__law_draw .nil pass0 (pa_cons (pv 1) (pa_cons (pe_op (k_add (K := K) rfl) pe_int (pe_callTy call_intU (by rfl) T.b_int (by decide +kernel) (pa_cons (pe_cmpR op_gt (pv 6) pe_int (nomark _)) pa_nil))) pa_nil))) (fun _ _ => rfl)))
      (pss_cons (ps_set (i := 8) sc_law.nd rfl (by first | exact Or.inl rfl | exact Or.inr rfl) (pe_op (k_add (K := K) rfl) (pe_op (k_add (K := K) rfl) (pe_slice (k_sl (K := K) rfl) (pv 2) po_none (po_some (pv 6))) (pe_lst (pa_cons (pv 7) pa_nil))) (pe_slice (k_sl (K := K) rfl) (pv 2) (po_some (pv 6)) po_none)))
      (pss_cons (ps_set (i := 9) sc_law.nd rfl (by first | exact Or.inl rfl | exact Or.inr rfl) (pe_tup (pa_cons (pv 6) (pa_cons (pe_ix (k_ix (K := K) rfl hu1) (pe_tup (pa_cons pe_str (pa_cons pe_str (pa_cons pe_str pa_nil)))) (pe_tm PySem.F.plainAttrs_tuple PySem.F.slot_tuple_index PySem.F.type_tuple_index (k_tidx (K := K) rfl) (pa_cons pe_str (pa_cons pe_str (pa_cons pe_str pa_nil))) (pa_cons (pe_ix (k_ix (K := K) rfl hu1) (pv 7) pe_int (fun _ _ => rfl)) pa_nil)) (fun _ _ => rfl)) pa_nil))))
      (pss_cons (ps_for PassesOwn.never rfl (pi_range2 (by rfl) T.b_range (pa_cons (pe_op (k_add (K := K) rfl) (pv 6) pe_int) (pa_cons (pe_op (k_add (K := K) rfl) (pe_callB (k_len (K := K) rfl) (by rfl) T.b_len (by decide +kernel) (pa_cons (pv 8) pa_nil)) pe_int) pa_nil))) (pg_name (i := 4) sc_law.nd rfl (by first | exact Or.inl rfl | exact Or.inr rfl)) (pss_one (ps_if (pt_cmpR (k_ne (K := K) rfl hu64) (pe_call (ok_fault_of T) hr rfl T.m_fault_of T.F_fault_of.kp T.B_fault_of .nil pass0 (pa_cons (pe_slice (k_sl (K := K) rfl) (pv 8) po_none (po_some (pv 4))) pa_nil)) (pv 9) (nomark _)) (pss_one (ps_ret pe_bl)) pss_nil)))
      (pss_one (ps_ret (pe_cmpR op_isU (pe_call (ok_fault_of T) hr rfl T.m_fault_of T.F_fault_of.kp T.B_fault_of .nil pass0 (pa_cons (pe_slice (k_sl (K := K) rfl) (pv 8) po_none (po_some (pv 6))) pa_nil)) pe_non (nomark _)))))))))))))), ?_⟩
  try dsimp only [cxOf]
  rintro args own P XP ⟨ns, rfl, rfl, hl, hb, hq⟩
  show SS K E0 _ [some _, none, none, none, none, none, none, none, none, none, none, none, none] _ _
  walk_at "go"
  refine ⟨ns, 0, 33, rfl, hl, hb, by omega, by omega, by decide, by decide, fun s hs => ?_⟩
  walk_at "go"
  refine dr rg0 (by decide) (by decide) fun m m0 m1 => ?_
  walk_at "go"
  refine ⟨s, (5 + m).toNat, by rw [Int.toNat_of_nonneg (by omega)], by omega, rg0, fun es g => ?_⟩
  have hel := g.len
  walk_at "go"
  refine ex_lst ?_
  walk_at "go"
  refine ss_for ?_
  walk_at "go"
  refine ⟨by omega, by rw [List.length_map]; omega, fun i sl o => ∃ u4 u5 u6 u7 u8 u9 u10 u11 u12, sl = [some (.scr (ns.map Dat.int)), some (.ptr s), some (.lst (es.map enD)), some (.lst ((recs (es.take (i - 1))).map rowD)), u4, u5, u6, u7, u8, u9, u10, u11, u12] ∧ o = [(s, .rng)], ⟨_, _, _, _, _, _, _, _, _, rfl, rfl⟩, fun _ _ _ _ => trivial, ?_, ?_⟩
  · rintro i x sl o hx ⟨u4, u5, u6, u7, u8, u9, u10, u11, u12, rfl, rfl⟩
    obtain ⟨hlt, rfl⟩ := rng_at hx
    rw [List.length_map] at hlt
    have hi : i ≤ es.length := by omega
    have hct : cutD (es.map enD) none (some (i : Int)) = (es.take i).map enD := by rw [cut_to (by rw [List.length_map]; exact hi), List.map_take]
    have htl : (es.take i).length ≤ 1000 := by rw [List.length_take]; omega
    have hrl := recs_le (es.take i)
    have hgt := good_take g.good i
    have hrok := g.okT (i - 1)
    walk_at "go"
    refine ex_lcM (fun y : Addr × Rc => .ptr y.1) (fun y => rowD y.2) (ix_p ?_)
    walk_at "go"
    refine sl_lst (.inl (.inl rfl)) ?_
    rw [hct]
    walk_at "go"
    refine ⟨es.take i, rfl, htl, fun p as hla => ?_⟩
    refine ⟨p, _, rfl, recO_mem, as.zip (recs (es.take i)), zip_ptr hla, by rw [List.length_zip]; omega, recO_mem, fun y hy => ?_, ?_⟩
    · have hm : (y.1, rcC ad y.2) ∈ recO ad p as (recs (es.take i)) [(s, .rng)] := List.mem_append_left _ (zip_cell hy)
      walk_at "go"
      exact ⟨y.1, y.2, rfl, hm, rfl, rfl⟩
    rw [zip_map hla rowD]
    refine ss_cl (Cl.trans cl_app (cl_drop (l := []))) ?_
    walk_at "go"
    refine sl_lst (.inl (.inl rfl)) ?_
    rw [hct]
    walk_at "go"
    refine ⟨es.take i, rfl, htl, ?_⟩
    rw [good_fault hgt]
    dsimp only [fdD, oD]
    walk_at "go"
    refine ⟨_, _, rfl, by rw [recs_len]; exact Nat.le_trans (List.length_filter_le _ _) (by rw [List.length_take]; omega), by omega, grows_take g.good i hi, hrok, ?_⟩
    walk_at "go"
    refine ex_lcP enD enD (fun e => (idE e).isSome) (ix_s ?_)
    walk_at "go"
    refine sl_lst (.inl (.inl rfl)) ?_
    rw [hct]
    refine ⟨_, .inl rfl, es.take i, rfl, by omega, trivial, fun e he => ?_, ?_⟩
    · cases e
      all_goals
        dsimp only [enD]
        walk_at "go"
        first | exact ⟨rfl, rfl, rfl⟩ | exact ⟨rfl, rfl⟩
    walk_at "go"
    refine iteN (fun h => ?_) (fun h => ?_)
    · exact absurd (by rw [List.length_map, List.length_map, recs_len]) h
    walk_at "go"
    exact ⟨_, _, _, _, _, _, _, _, _, rfl, rfl⟩
  · rintro sl o ⟨u4, u5, u6, u7, u8, u9, u10, u11, u12, rfl, rfl⟩
    rw [List.length_map, List.length_range, List.length_map, show ((es.length : Int) + 1).toNat - 1 = es.length by omega, List.take_length]
    have hrl := recs_le es
    walk_at "go"
    refine ss_forR rowD (fun rest sl o => ∃ u4 u5 u6 u7 u8 u9 u10 u11 u12, sl = [some (.scr (ns.map Dat.int)), some (.ptr s), some (.lst (es.map enD)), some (.lst ((recs es).map rowD)), u4, u5, u6, u7, u8, u9, u10, u11, u12] ∧ o = [(s, .rng)]) (ix_s ?_)
    walk_at "go"
    refine ⟨_, .inl rfl, recs es, rfl, ⟨_, _, _, _, _, _, _, _, _, rfl, rfl⟩, fun _ _ _ _ => trivial, ?_, ?_⟩
    · rintro pre r rest sl o hr ⟨u4, u5, u6, u7, u8, u9, u10, u11, u12, rfl, rfl⟩
      have hm : r ∈ recs es := by rw [hr]; simp
      walk_at "go"
      refine ⟨es, r, rfl, by omega, g.nd, hm, ?_⟩
      walk_at "go"
      refine sl_tp ?_
      rw [c9b]
      refine ne_same (.tup (.cons (.int _) (.cons sh_oint (.cons (sh_ostr (g.ok r hm).2.2.2.2) .nil)))) rfl ?_
      walk_at "go"
      exact ⟨_, _, _, _, _, _, _, _, _, rfl, rfl⟩
    · rintro sl o ⟨u4, u5, u6, u7, u8, u9, u10, u11, u12, rfl, rfl⟩
      walk_at "go"
      refine dr rg0 (by rw [List.length_map]; omega) (by rw [List.length_map]; omega) fun k0 k1 k2 => ?_
      rw [List.length_map] at k2
      obtain ⟨k, rfl⟩ : ∃ k : Nat, k0 = k := ⟨k0.toNat, by omega⟩
      have hk : k ≤ es.length := by omega
      walk_at "go"
      refine dr rg0 (by split <;> omega) (by split <;> omega) fun d d0 d1 => ?_
      obtain ⟨w, f, j, z, rest, hw, hf, hfs, hz, hj, hj2, hjl⟩ : ∃ (w : En) (f : Str) (j : Nat) (z : Str) (rest : List Dat), atI [enD (.mark (5, 5, 5) 1), enD (.close (5, 5, 5) "lost" (10 ^ (12 : Int).toNat)), enD (.boot 1 (10 ^ (12 : Int).toNat))] d = some (enD w) ∧ faultE w (es.take k) (recs (es.take k)) = some f ∧ PyData.strOk f = true ∧ enD w = .tup (.str z :: rest) ∧
          [Str.ofString "mark", Str.ofString "close", Str.ofString "boot"][j]? = some z ∧ (∀ m, m < j → [Str.ofString "mark", Str.ofString "close", Str.ofString "boot"][m]? ≠ some z) ∧ atI [Dat.str "not open", .str "not open", .str "life"] (j : Int) = some (.str f) := by
        by_cases hd : d = 2
        · have hk0 : 0 < k := by
            rcases Nat.eq_zero_or_pos k with h | h
            · subst h; simp at d1; omega
            · exact h
          subst hd
          exact ⟨_, _, 2, _, _, rfl, wrong_boot g k hk0 (by decide), by decide +kernel, rfl, rfl, fun m hm => by
            have : m = 0 ∨ m = 1 := by omega
            rcases this with rfl | rfl <;> decide +kernel, rfl⟩
        · have : d = 0 ∨ d = 1 := by split at d1 <;> omega
          rcases this with rfl | rfl
          · exact ⟨_, _, 0, _, _, rfl, wrong_mark g k, by decide +kernel, rfl, rfl, fun m hm => by omega, rfl⟩
          · exact ⟨_, _, 1, _, _, rfl, wrong_close g k (by decide), by decide +kernel, rfl, rfl, fun m hm => by
              have : m = 0 := by omega
              subst this; decide +kernel, rfl⟩
      walk_at "go"
      refine ix_tp hw ?_
      walk_at "go"
      refine sl_lst (.inl (.inl rfl)) ?_
      rw [cut_to (by rw [List.length_map]; exact hk), ← List.map_take]
      walk_at "go"
      refine ex_lst ?_
      walk_at "go"
      refine add_lst (.inl rfl) (.inl rfl) (zle (by rw [List.length_map, List.length_take]; show _ + 1 ≤ _; omega)) ?_
      walk_at "go"
      refine sl_lst (.inl (.inl rfl)) ?_
      rw [cut_from (by rw [List.length_map]; exact hk), ← List.map_drop]
      refine add_lst (.inl rfl) (.inl rfl) (zle (by rw [List.length_append, List.length_map, List.length_map, List.length_take, List.length_drop]; show _ + 1 + _ ≤ _; omega)) ?_
      have espoil : (es.take k).map enD ++ [enD w] ++ (es.drop k).map enD = (es.take k ++ w :: es.drop k).map enD := by simp
      rw [espoil]
      walk_at "go"
      refine ex_tm ?_
      walk_at "go"
      rw [hz]
      walk_at "go"
      refine tidx (ys := ["mark", "close", "boot"]) hj hj2 ?_
      refine ix_tp hjl ?_
      walk_at "go"
      rw [← hz]
      have hlen : (es.take k ++ w :: es.drop k).length = es.length + 1 := by rw [List.length_append, List.length_cons, List.length_take, List.length_drop]; omega
      have htk : (es.take k).length = k := by rw [List.length_take]; omega
      refine ss_for ?_
      walk_at "go"
      refine ⟨_, _, rfl, ⟨by omega, by omega, by omega, by rw [List.length_map, hlen]; omega⟩, fun i sl o => ∃ u4 u5 u7 u10 u11 u12, sl = [some (.scr (ns.map Dat.int)), some (.ptr s), some (.lst (es.map enD)), some (.lst ((recs es).map rowD)), u4, u5, some (.int k), u7, some (.lst ((es.take k ++ w :: es.drop k).map enD)), some (.tup [.int k, .str f]), u10, u11, u12] ∧ o = [(s, .rng)], ⟨_, _, _, _, _, _, rfl, rfl⟩, fun _ _ _ _ => trivial, ?_, ?_⟩
      · rintro i x sl o hx ⟨u4, u5, u7, u10, u11, u12, rfl, rfl⟩
        obtain ⟨hlt, rfl⟩ := rng2_at hx
        rw [List.length_map, hlen] at hlt
        have hin : k + 1 + i ≤ es.length + 1 := by omega
        have htake : (es.take k ++ w :: es.drop k).take (k + 1 + i) = es.take k ++ w :: (es.drop k).take i := by
          rw [List.take_append, htk, List.take_of_length_le (by omega), show k + 1 + i - k = i + 1 by omega, List.take_succ_cons]
        walk_at "go"
        refine sl_lst (.inl (.inl rfl)) ?_
        rw [show ((k : Int) + 1 + (i : Nat)) = ((k + 1 + i : Nat) : Int) by omega, cut_to (by rw [List.length_map, hlen]; exact hin), ← List.map_take, htake]
        walk_at "go"
        refine ⟨_, rfl, ?_, ?_⟩
        · rw [← htake, List.length_take]; omega
        rw [wrong_fault (good_take g.good k) hf, htk]
        walk_at "go"
        refine ne_same (n := 1) (.tup (.cons (.int _) (.cons (.str hfs) .nil))) rfl ?_
        walk_at "go"
        exact ⟨_, _, _, _, _, _, rfl, rfl⟩
      · rintro sl o ⟨u4, u5, u7, u10, u11, u12, rfl, rfl⟩
        walk_at "go"
        refine sl_lst (.inl (.inl rfl)) ?_
        rw [cut_to (by rw [List.length_map, hlen]; omega), ← List.map_take, List.take_append_of_le_length (by omega), List.take_take, Nat.min_self]
        walk_at "go"
        refine ⟨es.take k, rfl, by omega, ?_⟩
        rw [good_fault (good_take g.good k)]
        dsimp only [fdD, oD]
        walk_at "go"
        exact hq _
end

theorem all_mk {l : PySem.W.OpenLaw} {w : World} {K : PySem.W.Frag} {h : Heap} {mg : Str → Option Value} {fa : Addr} (X : K.In h) (G : h.Ns mainGlobals mg) (hfa : mg "law" = some (.ref fa))
    {c_Record : Addr}
    {a__law_state : Addr} {od__law_state an__law_state : Option Addr} {sl__law_state : Array (Option Value)} {oc__law_state kV__law_state dc__law_state pm__law_state cd__law_state ct__law_state : Value}
    {a__law_draw : Addr} {od__law_draw an__law_draw : Option Addr} {sl__law_draw : Array (Option Value)} {oc__law_draw kV__law_draw dc__law_draw pm__law_draw cd__law_draw ct__law_draw : Value}
    {a__law_number : Addr} {od__law_number an__law_number : Option Addr} {sl__law_number : Array (Option Value)} {oc__law_number kV__law_number dc__law_number pm__law_number cd__law_number ct__law_number : Value}
    {a__law_entries : Addr} {od__law_entries an__law_entries : Option Addr} {sl__law_entries : Array (Option Value)} {oc__law_entries kV__law_entries dc__law_entries pm__law_entries cd__law_entries ct__law_entries : Value}
    {a_time_of : Addr} {od_time_of an_time_of : Option Addr} {sl_time_of : Array (Option Value)} {oc_time_of kV_time_of dc_time_of pm_time_of cd_time_of ct_time_of : Value}
    {a_Record_is_open : Addr} {od_Record_is_open an_Record_is_open : Option Addr} {sl_Record_is_open : Array (Option Value)} {oc_Record_is_open kV_Record_is_open dc_Record_is_open pm_Record_is_open cd_Record_is_open ct_Record_is_open : Value}
    {a_record_at : Addr} {od_record_at an_record_at : Option Addr} {sl_record_at : Array (Option Value)} {oc_record_at kV_record_at dc_record_at pm_record_at cd_record_at ct_record_at : Value}
    {a_is_misplaced : Addr} {od_is_misplaced an_is_misplaced : Option Addr} {sl_is_misplaced : Array (Option Value)} {oc_is_misplaced kV_is_misplaced dc_is_misplaced pm_is_misplaced cd_is_misplaced ct_is_misplaced : Value}
    {a_life_of : Addr} {od_life_of an_life_of : Option Addr} {sl_life_of : Array (Option Value)} {oc_life_of kV_life_of dc_life_of pm_life_of cd_life_of ct_life_of : Value}
    {a_fault_of_entry : Addr} {od_fault_of_entry an_fault_of_entry : Option Addr} {sl_fault_of_entry : Array (Option Value)} {oc_fault_of_entry kV_fault_of_entry dc_fault_of_entry pm_fault_of_entry cd_fault_of_entry ct_fault_of_entry : Value}
    {a_Record_init : Addr} {od_Record_init an_Record_init : Option Addr} {sl_Record_init : Array (Option Value)} {oc_Record_init kV_Record_init dc_Record_init pm_Record_init cd_Record_init ct_Record_init : Value}
    {a_record_from : Addr} {od_record_from an_record_from : Option Addr} {sl_record_from : Array (Option Value)} {oc_record_from kV_record_from dc_record_from pm_record_from cd_record_from ct_record_from : Value}
    {a_close_record : Addr} {od_close_record an_close_record : Option Addr} {sl_close_record : Array (Option Value)} {oc_close_record kV_close_record dc_close_record pm_close_record cd_close_record ct_close_record : Value}
    {a_belongs : Addr} {od_belongs an_belongs : Option Addr} {sl_belongs : Array (Option Value)} {oc_belongs kV_belongs dc_belongs pm_belongs cd_belongs ct_belongs : Value}
    {a_fold_entry : Addr} {od_fold_entry an_fold_entry : Option Addr} {sl_fold_entry : Array (Option Value)} {oc_fold_entry kV_fold_entry dc_fold_entry pm_fold_entry cd_fold_entry ct_fold_entry : Value}
    {a_fault_of : Addr} {od_fault_of an_fault_of : Option Addr} {sl_fault_of : Array (Option Value)} {oc_fault_of kV_fault_of dc_fault_of pm_fault_of cd_fault_of ct_fault_of : Value}
    {a_Record_row : Addr} {od_Record_row an_Record_row : Option Addr} {sl_Record_row : Array (Option Value)} {oc_Record_row kV_Record_row dc_Record_row pm_Record_row cd_Record_row ct_Record_row : Value}
    {a__law_seconds : Addr} {od__law_seconds an__law_seconds : Option Addr} {sl__law_seconds : Array (Option Value)} {oc__law_seconds kV__law_seconds dc__law_seconds pm__law_seconds cd__law_seconds ct__law_seconds : Value}
    {a_records_of : Addr} {od_records_of an_records_of : Option Addr} {sl_records_of : Array (Option Value)} {oc_records_of kV_records_of dc_records_of pm_records_of cd_records_of ct_records_of : Value}
    {a__law_grows : Addr} {od__law_grows an__law_grows : Option Addr} {sl__law_grows : Array (Option Value)} {oc__law_grows kV__law_grows dc__law_grows pm__law_grows cd__law_grows ct__law_grows : Value}
    {a_law : Addr} {od_law an_law : Option Addr} {sl_law : Array (Option Value)} {oc_law kV_law dc_law pm_law cd_law ct_law : Value}
    (y_Record : PySem.W.nsIn K mainGlobals "Record" = some (some (.ref c_Record)))
    (x__law_state : PySem.W.nsIn K mainGlobals "_law_state" = some (some (.ref a__law_state)))
    (l__law_state : K.lookup a__law_state = some ⟨oc__law_state, od__law_state, .func (PySem.W.fnOf "_law_state" "_law_state" (defArgs s__law_state) (defBody s__law_state) (defScope s__law_state) .none kV__law_state dc__law_state pm__law_state an__law_state cd__law_state ct__law_state), sl__law_state⟩)
    (e__law_state : PySem.W.codeIn K cd__law_state "_law_state" = true)
    (k__law_state : PySem.W.keepIn K (.ref a__law_state) = true)
    (x__law_draw : PySem.W.nsIn K mainGlobals "_law_draw" = some (some (.ref a__law_draw)))
    (l__law_draw : K.lookup a__law_draw = some ⟨oc__law_draw, od__law_draw, .func (PySem.W.fnOf "_law_draw" "_law_draw" (defArgs s__law_draw) (defBody s__law_draw) (defScope s__law_draw) .none kV__law_draw dc__law_draw pm__law_draw an__law_draw cd__law_draw ct__law_draw), sl__law_draw⟩)
    (e__law_draw : PySem.W.codeIn K cd__law_draw "_law_draw" = true)
    (k__law_draw : PySem.W.keepIn K (.ref a__law_draw) = true)
    (x__law_number : PySem.W.nsIn K mainGlobals "_law_number" = some (some (.ref a__law_number)))
    (l__law_number : K.lookup a__law_number = some ⟨oc__law_number, od__law_number, .func (PySem.W.fnOf "_law_number" "_law_number" (defArgs s__law_number) (defBody s__law_number) (defScope s__law_number) .none kV__law_number dc__law_number pm__law_number an__law_number cd__law_number ct__law_number), sl__law_number⟩)
    (e__law_number : PySem.W.codeIn K cd__law_number "_law_number" = true)
    (k__law_number : PySem.W.keepIn K (.ref a__law_number) = true)
    (x__law_entries : PySem.W.nsIn K mainGlobals "_law_entries" = some (some (.ref a__law_entries)))
    (l__law_entries : K.lookup a__law_entries = some ⟨oc__law_entries, od__law_entries, .func (PySem.W.fnOf "_law_entries" "_law_entries" (defArgs s__law_entries) (defBody s__law_entries) (defScope s__law_entries) .none kV__law_entries dc__law_entries pm__law_entries an__law_entries cd__law_entries ct__law_entries), sl__law_entries⟩)
    (e__law_entries : PySem.W.codeIn K cd__law_entries "_law_entries" = true)
    (k__law_entries : PySem.W.keepIn K (.ref a__law_entries) = true)
    (x_time_of : PySem.W.nsIn K mainGlobals "time_of" = some (some (.ref a_time_of)))
    (l_time_of : K.lookup a_time_of = some ⟨oc_time_of, od_time_of, .func (PySem.W.fnOf "time_of" "time_of" (defArgs s_time_of) (defBody s_time_of) (defScope s_time_of) .none kV_time_of dc_time_of pm_time_of an_time_of cd_time_of ct_time_of), sl_time_of⟩)
    (e_time_of : PySem.W.codeIn K cd_time_of "time_of" = true)
    (k_time_of : PySem.W.keepIn K (.ref a_time_of) = true)
    (x_Record_is_open : PySem.W.findIn K (.ref c_Record) "is_open" = some (some (.ref a_Record_is_open)))
    (i_Record_is_open : PySem.W.isFn K (.ref a_Record_is_open) = true)
    (l_Record_is_open : K.lookup a_Record_is_open = some ⟨oc_Record_is_open, od_Record_is_open, .func (PySem.W.fnOf "is_open" "Record.is_open" (defArgs s_Record_is_open) (defBody s_Record_is_open) (defScope s_Record_is_open) .none kV_Record_is_open dc_Record_is_open pm_Record_is_open an_Record_is_open cd_Record_is_open ct_Record_is_open), sl_Record_is_open⟩)
    (e_Record_is_open : PySem.W.codeIn K cd_Record_is_open "Record.is_open" = true)
    (k_Record_is_open : PySem.W.keepIn K (.ref a_Record_is_open) = true)
    (x_record_at : PySem.W.nsIn K mainGlobals "record_at" = some (some (.ref a_record_at)))
    (l_record_at : K.lookup a_record_at = some ⟨oc_record_at, od_record_at, .func (PySem.W.fnOf "record_at" "record_at" (defArgs s_record_at) (defBody s_record_at) (defScope s_record_at) .none kV_record_at dc_record_at pm_record_at an_record_at cd_record_at ct_record_at), sl_record_at⟩)
    (e_record_at : PySem.W.codeIn K cd_record_at "record_at" = true)
    (k_record_at : PySem.W.keepIn K (.ref a_record_at) = true)
    (x_is_misplaced : PySem.W.nsIn K mainGlobals "is_misplaced" = some (some (.ref a_is_misplaced)))
    (l_is_misplaced : K.lookup a_is_misplaced = some ⟨oc_is_misplaced, od_is_misplaced, .func (PySem.W.fnOf "is_misplaced" "is_misplaced" (defArgs s_is_misplaced) (defBody s_is_misplaced) (defScope s_is_misplaced) .none kV_is_misplaced dc_is_misplaced pm_is_misplaced an_is_misplaced cd_is_misplaced ct_is_misplaced), sl_is_misplaced⟩)
    (e_is_misplaced : PySem.W.codeIn K cd_is_misplaced "is_misplaced" = true)
    (k_is_misplaced : PySem.W.keepIn K (.ref a_is_misplaced) = true)
    (x_life_of : PySem.W.nsIn K mainGlobals "life_of" = some (some (.ref a_life_of)))
    (l_life_of : K.lookup a_life_of = some ⟨oc_life_of, od_life_of, .func (PySem.W.fnOf "life_of" "life_of" (defArgs s_life_of) (defBody s_life_of) (defScope s_life_of) .none kV_life_of dc_life_of pm_life_of an_life_of cd_life_of ct_life_of), sl_life_of⟩)
    (e_life_of : PySem.W.codeIn K cd_life_of "life_of" = true)
    (k_life_of : PySem.W.keepIn K (.ref a_life_of) = true)
    (x_fault_of_entry : PySem.W.nsIn K mainGlobals "fault_of_entry" = some (some (.ref a_fault_of_entry)))
    (l_fault_of_entry : K.lookup a_fault_of_entry = some ⟨oc_fault_of_entry, od_fault_of_entry, .func (PySem.W.fnOf "fault_of_entry" "fault_of_entry" (defArgs s_fault_of_entry) (defBody s_fault_of_entry) (defScope s_fault_of_entry) .none kV_fault_of_entry dc_fault_of_entry pm_fault_of_entry an_fault_of_entry cd_fault_of_entry ct_fault_of_entry), sl_fault_of_entry⟩)
    (e_fault_of_entry : PySem.W.codeIn K cd_fault_of_entry "fault_of_entry" = true)
    (k_fault_of_entry : PySem.W.keepIn K (.ref a_fault_of_entry) = true)
    (x_Record_init : PySem.W.findIn K (.ref c_Record) "__init__" = some (some (.ref a_Record_init)))
    (i_Record_init : PySem.W.isFn K (.ref a_Record_init) = true)
    (l_Record_init : K.lookup a_Record_init = some ⟨oc_Record_init, od_Record_init, .func (PySem.W.fnOf "__init__" "Record.__init__" (defArgs s_Record_init) (defBody s_Record_init) (defScope s_Record_init) .none kV_Record_init dc_Record_init pm_Record_init an_Record_init cd_Record_init ct_Record_init), sl_Record_init⟩)
    (e_Record_init : PySem.W.codeIn K cd_Record_init "Record.__init__" = true)
    (k_Record_init : PySem.W.keepIn K (.ref a_Record_init) = true)
    (x_record_from : PySem.W.nsIn K mainGlobals "record_from" = some (some (.ref a_record_from)))
    (l_record_from : K.lookup a_record_from = some ⟨oc_record_from, od_record_from, .func (PySem.W.fnOf "record_from" "record_from" (defArgs s_record_from) (defBody s_record_from) (defScope s_record_from) .none kV_record_from dc_record_from pm_record_from an_record_from cd_record_from ct_record_from), sl_record_from⟩)
    (e_record_from : PySem.W.codeIn K cd_record_from "record_from" = true)
    (k_record_from : PySem.W.keepIn K (.ref a_record_from) = true)
    (x_close_record : PySem.W.nsIn K mainGlobals "close_record" = some (some (.ref a_close_record)))
    (l_close_record : K.lookup a_close_record = some ⟨oc_close_record, od_close_record, .func (PySem.W.fnOf "close_record" "close_record" (defArgs s_close_record) (defBody s_close_record) (defScope s_close_record) .none kV_close_record dc_close_record pm_close_record an_close_record cd_close_record ct_close_record), sl_close_record⟩)
    (e_close_record : PySem.W.codeIn K cd_close_record "close_record" = true)
    (k_close_record : PySem.W.keepIn K (.ref a_close_record) = true)
    (x_belongs : PySem.W.nsIn K mainGlobals "belongs" = some (some (.ref a_belongs)))
    (l_belongs : K.lookup a_belongs = some ⟨oc_belongs, od_belongs, .func (PySem.W.fnOf "belongs" "belongs" (defArgs s_belongs) (defBody s_belongs) (defScope s_belongs) .none kV_belongs dc_belongs pm_belongs an_belongs cd_belongs ct_belongs), sl_belongs⟩)
    (e_belongs : PySem.W.codeIn K cd_belongs "belongs" = true)
    (k_belongs : PySem.W.keepIn K (.ref a_belongs) = true)
    (x_fold_entry : PySem.W.nsIn K mainGlobals "fold_entry" = some (some (.ref a_fold_entry)))
    (l_fold_entry : K.lookup a_fold_entry = some ⟨oc_fold_entry, od_fold_entry, .func (PySem.W.fnOf "fold_entry" "fold_entry" (defArgs s_fold_entry) (defBody s_fold_entry) (defScope s_fold_entry) .none kV_fold_entry dc_fold_entry pm_fold_entry an_fold_entry cd_fold_entry ct_fold_entry), sl_fold_entry⟩)
    (e_fold_entry : PySem.W.codeIn K cd_fold_entry "fold_entry" = true)
    (k_fold_entry : PySem.W.keepIn K (.ref a_fold_entry) = true)
    (x_fault_of : PySem.W.nsIn K mainGlobals "fault_of" = some (some (.ref a_fault_of)))
    (l_fault_of : K.lookup a_fault_of = some ⟨oc_fault_of, od_fault_of, .func (PySem.W.fnOf "fault_of" "fault_of" (defArgs s_fault_of) (defBody s_fault_of) (defScope s_fault_of) .none kV_fault_of dc_fault_of pm_fault_of an_fault_of cd_fault_of ct_fault_of), sl_fault_of⟩)
    (e_fault_of : PySem.W.codeIn K cd_fault_of "fault_of" = true)
    (k_fault_of : PySem.W.keepIn K (.ref a_fault_of) = true)
    (x_Record_row : PySem.W.findIn K (.ref c_Record) "row" = some (some (.ref a_Record_row)))
    (i_Record_row : PySem.W.isFn K (.ref a_Record_row) = true)
    (l_Record_row : K.lookup a_Record_row = some ⟨oc_Record_row, od_Record_row, .func (PySem.W.fnOf "row" "Record.row" (defArgs s_Record_row) (defBody s_Record_row) (defScope s_Record_row) .none kV_Record_row dc_Record_row pm_Record_row an_Record_row cd_Record_row ct_Record_row), sl_Record_row⟩)
    (e_Record_row : PySem.W.codeIn K cd_Record_row "Record.row" = true)
    (k_Record_row : PySem.W.keepIn K (.ref a_Record_row) = true)
    (x__law_seconds : PySem.W.nsIn K mainGlobals "_law_seconds" = some (some (.ref a__law_seconds)))
    (l__law_seconds : K.lookup a__law_seconds = some ⟨oc__law_seconds, od__law_seconds, .func (PySem.W.fnOf "_law_seconds" "_law_seconds" (defArgs s__law_seconds) (defBody s__law_seconds) (defScope s__law_seconds) .none kV__law_seconds dc__law_seconds pm__law_seconds an__law_seconds cd__law_seconds ct__law_seconds), sl__law_seconds⟩)
    (e__law_seconds : PySem.W.codeIn K cd__law_seconds "_law_seconds" = true)
    (k__law_seconds : PySem.W.keepIn K (.ref a__law_seconds) = true)
    (x_records_of : PySem.W.nsIn K mainGlobals "records_of" = some (some (.ref a_records_of)))
    (l_records_of : K.lookup a_records_of = some ⟨oc_records_of, od_records_of, .func (PySem.W.fnOf "records_of" "records_of" (defArgs s_records_of) (defBody s_records_of) (defScope s_records_of) .none kV_records_of dc_records_of pm_records_of an_records_of cd_records_of ct_records_of), sl_records_of⟩)
    (e_records_of : PySem.W.codeIn K cd_records_of "records_of" = true)
    (k_records_of : PySem.W.keepIn K (.ref a_records_of) = true)
    (x__law_grows : PySem.W.nsIn K mainGlobals "_law_grows" = some (some (.ref a__law_grows)))
    (l__law_grows : K.lookup a__law_grows = some ⟨oc__law_grows, od__law_grows, .func (PySem.W.fnOf "_law_grows" "_law_grows" (defArgs s__law_grows) (defBody s__law_grows) (defScope s__law_grows) .none kV__law_grows dc__law_grows pm__law_grows an__law_grows cd__law_grows ct__law_grows), sl__law_grows⟩)
    (e__law_grows : PySem.W.codeIn K cd__law_grows "_law_grows" = true)
    (k__law_grows : PySem.W.keepIn K (.ref a__law_grows) = true)
    (x_law : PySem.W.nsIn K mainGlobals "law" = some (some (.ref a_law)))
    (l_law : K.lookup a_law = some ⟨oc_law, od_law, .func (PySem.W.fnOf "law" "law" (defArgs s_law) (defBody s_law) (defScope s_law) .none kV_law dc_law pm_law an_law cd_law ct_law), sl_law⟩)
    (e_law : PySem.W.codeIn K cd_law "law" = true)
    (k_law : PySem.W.keepIn K (.ref a_law) = true)
    (pg_Record : PySem.W.plainGet K c_Record Str.empty = true)
    (hd_Record : PySem.W.hasDictIn K c_Record = true)
    (po_Record : PySem.W.plainOver K c_Record = true)
    (sa_Record : PySem.W.findIn K (.ref c_Record) "__setattr__" = some (some (.builtin "object.__setattr__")))
    (mk_Record : PySem.W.makesIn K c_Record = true)
    (kc_Record : PySem.W.keepIn K (.ref c_Record) = true)
    (n_Record_call_id : PySem.W.findIn K (.ref c_Record) "call_id" = some none)
    (n_Record_role : PySem.W.findIn K (.ref c_Record) "role" = some none)
    (n_Record_caller : PySem.W.findIn K (.ref c_Record) "caller" = some none)
    (n_Record_called : PySem.W.findIn K (.ref c_Record) "called" = some none)
    (n_Record_payer : PySem.W.findIn K (.ref c_Record) "payer" = some none)
    (n_Record_came : PySem.W.findIn K (.ref c_Record) "came" = some none)
    (n_Record_went : PySem.W.findIn K (.ref c_Record) "went" = some none)
    (n_Record_parent : PySem.W.findIn K (.ref c_Record) "parent" = some none)
    (n_Record_opened_at : PySem.W.findIn K (.ref c_Record) "opened_at" = some none)
    (n_Record_confirmed : PySem.W.findIn K (.ref c_Record) "confirmed" = some none)
    (n_Record_closed_at : PySem.W.findIn K (.ref c_Record) "closed_at" = some none)
    (n_Record_cause : PySem.W.findIn K (.ref c_Record) "cause" = some none)
    (z_any : PySem.W.nsIn K mainGlobals "any" = some none)
    (z_enumerate : PySem.W.nsIn K mainGlobals "enumerate" = some none)
    (z_int : PySem.W.nsIn K mainGlobals "int" = some none)
    (z_len : PySem.W.nsIn K mainGlobals "len" = some none)
    (z_max : PySem.W.nsIn K mainGlobals "max" = some none)
    (z_range : PySem.W.nsIn K mainGlobals "range" = some none)
    (z_str : PySem.W.nsIn K mainGlobals "str" = some none) :
    ∃ fd : FuncData, (∀ (s : Shared) (v : Value), BindsTo s fd ⟨[v], []⟩ [("script", v)]) ∧ ∀ base : Heap, K.In base → base.Ns mainGlobals mg → FnOk l.prog w K mg base CX0 6 fa fd ["script"] (SpG K con_law0) := by
  have e := hfa.symm.trans (PySem.W.mg_of X G x_law)
  have e2 : a_law = fa := by injection e with e; injection e with e; exact e.symm
  subst e2
  have F__law_state := fun_mk (st := s__law_state) l__law_state e__law_state k__law_state
  have F__law_draw := fun_mk (st := s__law_draw) l__law_draw e__law_draw k__law_draw
  have F__law_number := fun_mk (st := s__law_number) l__law_number e__law_number k__law_number
  have F__law_entries := fun_mk (st := s__law_entries) l__law_entries e__law_entries k__law_entries
  have F_time_of := fun_mk (st := s_time_of) l_time_of e_time_of k_time_of
  have F_Record_is_open := fun_mk (st := s_Record_is_open) l_Record_is_open e_Record_is_open k_Record_is_open
  have F_record_at := fun_mk (st := s_record_at) l_record_at e_record_at k_record_at
  have F_is_misplaced := fun_mk (st := s_is_misplaced) l_is_misplaced e_is_misplaced k_is_misplaced
  have F_life_of := fun_mk (st := s_life_of) l_life_of e_life_of k_life_of
  have F_fault_of_entry := fun_mk (st := s_fault_of_entry) l_fault_of_entry e_fault_of_entry k_fault_of_entry
  have F_Record_init := fun_mk (st := s_Record_init) l_Record_init e_Record_init k_Record_init
  have F_record_from := fun_mk (st := s_record_from) l_record_from e_record_from k_record_from
  have F_close_record := fun_mk (st := s_close_record) l_close_record e_close_record k_close_record
  have F_belongs := fun_mk (st := s_belongs) l_belongs e_belongs k_belongs
  have F_fold_entry := fun_mk (st := s_fold_entry) l_fold_entry e_fold_entry k_fold_entry
  have F_fault_of := fun_mk (st := s_fault_of) l_fault_of e_fault_of k_fault_of
  have F_Record_row := fun_mk (st := s_Record_row) l_Record_row e_Record_row k_Record_row
  have F__law_seconds := fun_mk (st := s__law_seconds) l__law_seconds e__law_seconds k__law_seconds
  have F_records_of := fun_mk (st := s_records_of) l_records_of e_records_of k_records_of
  have F__law_grows := fun_mk (st := s__law_grows) l__law_grows e__law_grows k__law_grows
  have F_law := fun_mk (st := s_law) l_law e_law k_law
  have T : Tx K mg ⟨a__law_state, PySem.W.fnOf "_law_state" "_law_state" (defArgs s__law_state) (defBody s__law_state) (defScope s__law_state) .none kV__law_state dc__law_state pm__law_state an__law_state cd__law_state ct__law_state, a__law_draw, PySem.W.fnOf "_law_draw" "_law_draw" (defArgs s__law_draw) (defBody s__law_draw) (defScope s__law_draw) .none kV__law_draw dc__law_draw pm__law_draw an__law_draw cd__law_draw ct__law_draw, a__law_number, PySem.W.fnOf "_law_number" "_law_number" (defArgs s__law_number) (defBody s__law_number) (defScope s__law_number) .none kV__law_number dc__law_number pm__law_number an__law_number cd__law_number ct__law_number, a__law_entries, PySem.W.fnOf "_law_entries" "_law_entries" (defArgs s__law_entries) (defBody s__law_entries) (defScope s__law_entries) .none kV__law_entries dc__law_entries pm__law_entries an__law_entries cd__law_entries ct__law_entries, a_time_of, PySem.W.fnOf "time_of" "time_of" (defArgs s_time_of) (defBody s_time_of) (defScope s_time_of) .none kV_time_of dc_time_of pm_time_of an_time_of cd_time_of ct_time_of, a_Record_is_open, PySem.W.fnOf "is_open" "Record.is_open" (defArgs s_Record_is_open) (defBody s_Record_is_open) (defScope s_Record_is_open) .none kV_Record_is_open dc_Record_is_open pm_Record_is_open an_Record_is_open cd_Record_is_open ct_Record_is_open, a_record_at, PySem.W.fnOf "record_at" "record_at" (defArgs s_record_at) (defBody s_record_at) (defScope s_record_at) .none kV_record_at dc_record_at pm_record_at an_record_at cd_record_at ct_record_at, a_is_misplaced, PySem.W.fnOf "is_misplaced" "is_misplaced" (defArgs s_is_misplaced) (defBody s_is_misplaced) (defScope s_is_misplaced) .none kV_is_misplaced dc_is_misplaced pm_is_misplaced an_is_misplaced cd_is_misplaced ct_is_misplaced, a_life_of, PySem.W.fnOf "life_of" "life_of" (defArgs s_life_of) (defBody s_life_of) (defScope s_life_of) .none kV_life_of dc_life_of pm_life_of an_life_of cd_life_of ct_life_of, a_fault_of_entry, PySem.W.fnOf "fault_of_entry" "fault_of_entry" (defArgs s_fault_of_entry) (defBody s_fault_of_entry) (defScope s_fault_of_entry) .none kV_fault_of_entry dc_fault_of_entry pm_fault_of_entry an_fault_of_entry cd_fault_of_entry ct_fault_of_entry, a_Record_init, PySem.W.fnOf "__init__" "Record.__init__" (defArgs s_Record_init) (defBody s_Record_init) (defScope s_Record_init) .none kV_Record_init dc_Record_init pm_Record_init an_Record_init cd_Record_init ct_Record_init, a_record_from, PySem.W.fnOf "record_from" "record_from" (defArgs s_record_from) (defBody s_record_from) (defScope s_record_from) .none kV_record_from dc_record_from pm_record_from an_record_from cd_record_from ct_record_from, a_close_record, PySem.W.fnOf "close_record" "close_record" (defArgs s_close_record) (defBody s_close_record) (defScope s_close_record) .none kV_close_record dc_close_record pm_close_record an_close_record cd_close_record ct_close_record, a_belongs, PySem.W.fnOf "belongs" "belongs" (defArgs s_belongs) (defBody s_belongs) (defScope s_belongs) .none kV_belongs dc_belongs pm_belongs an_belongs cd_belongs ct_belongs, a_fold_entry, PySem.W.fnOf "fold_entry" "fold_entry" (defArgs s_fold_entry) (defBody s_fold_entry) (defScope s_fold_entry) .none kV_fold_entry dc_fold_entry pm_fold_entry an_fold_entry cd_fold_entry ct_fold_entry, a_fault_of, PySem.W.fnOf "fault_of" "fault_of" (defArgs s_fault_of) (defBody s_fault_of) (defScope s_fault_of) .none kV_fault_of dc_fault_of pm_fault_of an_fault_of cd_fault_of ct_fault_of, a_Record_row, PySem.W.fnOf "row" "Record.row" (defArgs s_Record_row) (defBody s_Record_row) (defScope s_Record_row) .none kV_Record_row dc_Record_row pm_Record_row an_Record_row cd_Record_row ct_Record_row, a__law_seconds, PySem.W.fnOf "_law_seconds" "_law_seconds" (defArgs s__law_seconds) (defBody s__law_seconds) (defScope s__law_seconds) .none kV__law_seconds dc__law_seconds pm__law_seconds an__law_seconds cd__law_seconds ct__law_seconds, a_records_of, PySem.W.fnOf "records_of" "records_of" (defArgs s_records_of) (defBody s_records_of) (defScope s_records_of) .none kV_records_of dc_records_of pm_records_of an_records_of cd_records_of ct_records_of, a__law_grows, PySem.W.fnOf "_law_grows" "_law_grows" (defArgs s__law_grows) (defBody s__law_grows) (defScope s__law_grows) .none kV__law_grows dc__law_grows pm__law_grows an__law_grows cd__law_grows ct__law_grows, a_law, PySem.W.fnOf "law" "law" (defArgs s_law) (defBody s_law) (defScope s_law) .none kV_law dc_law pm_law an_law cd_law ct_law, c_Record⟩ := {
    b_any := PySem.W.mg_none_of X G z_any
    b_enumerate := PySem.W.mg_none_of X G z_enumerate
    b_int := PySem.W.mg_none_of X G z_int
    b_len := PySem.W.mg_none_of X G z_len
    b_max := PySem.W.mg_none_of X G z_max
    b_range := PySem.W.mg_none_of X G z_range
    b_str := PySem.W.mg_none_of X G z_str
    m__law_state := PySem.W.mg_of X G x__law_state
    F__law_state := F__law_state
    B__law_state := F__law_state.binds (ps := ["script", "k", "salt"]) fun _ _ _ _ _ _ us hl => match us, hl with | [_, _, _], _ => rfl
    m__law_draw := PySem.W.mg_of X G x__law_draw
    F__law_draw := F__law_draw
    B__law_draw := F__law_draw.binds (ps := ["state", "many"]) fun _ _ _ _ _ _ us hl => match us, hl with | [_, _], _ => rfl
    m__law_number := PySem.W.mg_of X G x__law_number
    F__law_number := F__law_number
    B__law_number := F__law_number.binds (ps := ["state"]) fun _ _ _ _ _ _ us hl => match us, hl with | [_], _ => rfl
    m__law_entries := PySem.W.mg_of X G x__law_entries
    F__law_entries := F__law_entries
    B__law_entries := F__law_entries.binds (ps := ["state", "many", "maker"]) fun _ _ _ _ _ _ us hl => match us, hl with | [_, _, _], _ => rfl
    m_time_of := PySem.W.mg_of X G x_time_of
    F_time_of := F_time_of
    B_time_of := F_time_of.binds (ps := ["entry"]) fun _ _ _ _ _ _ us hl => match us, hl with | [_], _ => rfl
    F_Record_is_open := F_Record_is_open
    B_Record_is_open := F_Record_is_open.binds (ps := ["self"]) fun _ _ _ _ _ _ us hl => match us, hl with | [_], _ => rfl
    M_Record_is_open := ⟨x_Record_is_open, i_Record_is_open, k_Record_is_open⟩
    m_record_at := PySem.W.mg_of X G x_record_at
    F_record_at := F_record_at
    B_record_at := F_record_at.binds (ps := ["records", "call_id"]) fun _ _ _ _ _ _ us hl => match us, hl with | [_, _], _ => rfl
    m_is_misplaced := PySem.W.mg_of X G x_is_misplaced
    F_is_misplaced := F_is_misplaced
    B_is_misplaced := F_is_misplaced.binds (ps := ["records", "entry"]) fun _ _ _ _ _ _ us hl => match us, hl with | [_, _], _ => rfl
    m_life_of := PySem.W.mg_of X G x_life_of
    F_life_of := F_life_of
    B_life_of := F_life_of.binds (ps := ["entries"]) fun _ _ _ _ _ _ us hl => match us, hl with | [_], _ => rfl
    m_fault_of_entry := PySem.W.mg_of X G x_fault_of_entry
    F_fault_of_entry := F_fault_of_entry
    B_fault_of_entry := F_fault_of_entry.binds (ps := ["entry", "earlier", "records"]) fun _ _ _ _ _ _ us hl => match us, hl with | [_, _, _], _ => rfl
    F_Record_init := F_Record_init
    B_Record_init := F_Record_init.binds (ps := ["self", "call_id", "role", "caller", "called", "payer", "came", "went", "parent", "opened_at"]) fun _ _ _ _ _ _ us hl => match us, hl with | [_, _, _, _, _, _, _, _, _, _], _ => rfl
    m_record_from := PySem.W.mg_of X G x_record_from
    F_record_from := F_record_from
    B_record_from := F_record_from.binds (ps := ["entry"]) fun _ _ _ _ _ _ us hl => match us, hl with | [_], _ => rfl
    m_close_record := PySem.W.mg_of X G x_close_record
    F_close_record := F_close_record
    B_close_record := F_close_record.binds (ps := ["record", "cause", "at"]) fun _ _ _ _ _ _ us hl => match us, hl with | [_, _, _], _ => rfl
    m_belongs := PySem.W.mg_of X G x_belongs
    F_belongs := F_belongs
    B_belongs := F_belongs.binds (ps := ["record", "call_id"]) fun _ _ _ _ _ _ us hl => match us, hl with | [_, _], _ => rfl
    m_fold_entry := PySem.W.mg_of X G x_fold_entry
    F_fold_entry := F_fold_entry
    B_fold_entry := F_fold_entry.binds (ps := ["records", "entry"]) fun _ _ _ _ _ _ us hl => match us, hl with | [_, _], _ => rfl
    m_fault_of := PySem.W.mg_of X G x_fault_of
    F_fault_of := F_fault_of
    B_fault_of := F_fault_of.binds (ps := ["entries"]) fun _ _ _ _ _ _ us hl => match us, hl with | [_], _ => rfl
    F_Record_row := F_Record_row
    B_Record_row := F_Record_row.binds (ps := ["self"]) fun _ _ _ _ _ _ us hl => match us, hl with | [_], _ => rfl
    M_Record_row := ⟨x_Record_row, i_Record_row, k_Record_row⟩
    m__law_seconds := PySem.W.mg_of X G x__law_seconds
    F__law_seconds := F__law_seconds
    B__law_seconds := F__law_seconds.binds (ps := ["entries", "row"]) fun _ _ _ _ _ _ us hl => match us, hl with | [_, _], _ => rfl
    m_records_of := PySem.W.mg_of X G x_records_of
    F_records_of := F_records_of
    B_records_of := F_records_of.binds (ps := ["entries"]) fun _ _ _ _ _ _ us hl => match us, hl with | [_], _ => rfl
    m__law_grows := PySem.W.mg_of X G x__law_grows
    F__law_grows := F__law_grows
    B__law_grows := F__law_grows.binds (ps := ["before", "after"]) fun _ _ _ _ _ _ us hl => match us, hl with | [_, _], _ => rfl
    m_law := PySem.W.mg_of X G x_law
    F_law := F_law
    B_law := F_law.binds (ps := ["script"]) fun _ _ _ _ _ _ us hl => match us, hl with | [_], _ => rfl
    m_Record := PySem.W.mg_of X G y_Record
    cl_Record := ⟨pg_Record, hd_Record, po_Record, sa_Record⟩
    K_Record := ⟨mk_Record, x_Record_init, i_Record_init, kc_Record⟩
    n_Record_call_id := n_Record_call_id
    n_Record_role := n_Record_role
    n_Record_caller := n_Record_caller
    n_Record_called := n_Record_called
    n_Record_payer := n_Record_payer
    n_Record_came := n_Record_came
    n_Record_went := n_Record_went
    n_Record_parent := n_Record_parent
    n_Record_opened_at := n_Record_opened_at
    n_Record_confirmed := n_Record_confirmed
    n_Record_closed_at := n_Record_closed_at
    n_Record_cause := n_Record_cause }
  exact ⟨_, fun s v => .of_eq rfl, fun base _ _ => ok_law T⟩
theorem walk {l : PySem.W.OpenLaw} {q : Program} {loose : List Str} {XP : (Str → Option Value) → Heap → Prop} {YP : World → Heap → Prop} {d : DefRec} {K : Params → PySem.W.Frag} (hn : l.most = some 63) (hdf : d.params.defaults = [])
    (hY : ∀ (w : World) (h : Heap), YP w h → (K w.params).In h)
    (F : ∀ (w : World) (mg : Str → Option Value) (fa : Addr) (h : Heap), (K w.params).In h → h.Ns mainGlobals mg → mg d.name = some (.ref fa) →
      ∃ fd : FuncData, (∀ (s : Shared) (u : Value), BindsTo s fd ⟨[u], []⟩ [("script", u)]) ∧ ∀ base : Heap, (K w.params).In base → base.Ns mainGlobals mg → FnOk l.prog w (K w.params) mg base CX0 6 fa fd ["script"] (SpG (K w.params) con_law0)) :
    PySem.W.WalkO q loose XP YP l.row.toRowW d [] (fun f vs => PySem.call f vs) :=
  L2.walk_ofB (n := 63) (k := 6) (x := "script") (CX := fun _ => CX0) (sp := fun w => SpG (K w.params) con_law0) hn (by decide) hdf ⟨rfl, by decide, by decide⟩ hY F (fun w H a ns hl hb _ hS => law_start hl hb hS) fun _ _ _ _ _ z => z
end Law
open PySem PySem.W PyProof.Rows
set_option maxRecDepth 100000 in
set_option maxHeartbeats 0 in
theorem PySem.Challenge.cw_copperline_k11_whole_records_only_grow_holds : PySem.Challenge.rw_copperline_k11_whole_records_only_grow.Holds := by
  w_on; o_law; k_head; (case hw => w_witness2)
  k_fill
  refine Law.walk (l := PySem.Challenge.rw_copperline_k11_whole_records_only_grow) rfl rfl (fun w h Y => PySem.W.kIn_of Y) ?F
  case F =>
    intro w mg fa h KX G hmg
    refine' Law.all_mk KX G hmg ?y_Record ?x__law_state ?l__law_state ?e__law_state ?k__law_state ?x__law_draw ?l__law_draw ?e__law_draw ?k__law_draw ?x__law_number ?l__law_number ?e__law_number ?k__law_number ?x__law_entries ?l__law_entries ?e__law_entries ?k__law_entries ?x_time_of ?l_time_of ?e_time_of ?k_time_of ?x_Record_is_open ?i_Record_is_open ?l_Record_is_open ?e_Record_is_open ?k_Record_is_open ?x_record_at ?l_record_at ?e_record_at ?k_record_at ?x_is_misplaced ?l_is_misplaced ?e_is_misplaced ?k_is_misplaced ?x_life_of ?l_life_of ?e_life_of ?k_life_of ?x_fault_of_entry ?l_fault_of_entry ?e_fault_of_entry ?k_fault_of_entry ?x_Record_init ?i_Record_init ?l_Record_init ?e_Record_init ?k_Record_init ?x_record_from ?l_record_from ?e_record_from ?k_record_from ?x_close_record ?l_close_record ?e_close_record ?k_close_record ?x_belongs ?l_belongs ?e_belongs ?k_belongs ?x_fold_entry ?l_fold_entry ?e_fold_entry ?k_fold_entry ?x_fault_of ?l_fault_of ?e_fault_of ?k_fault_of ?x_Record_row ?i_Record_row ?l_Record_row ?e_Record_row ?k_Record_row ?x__law_seconds ?l__law_seconds ?e__law_seconds ?k__law_seconds ?x_records_of ?l_records_of ?e_records_of ?k_records_of ?x__law_grows ?l__law_grows ?e__law_grows ?k__law_grows ?x_law ?l_law ?e_law ?k_law ?pg_Record ?hd_Record ?po_Record ?sa_Record ?mk_Record ?kc_Record ?n_Record_call_id ?n_Record_role ?n_Record_caller ?n_Record_called ?n_Record_payer ?n_Record_came ?n_Record_went ?n_Record_parent ?n_Record_opened_at ?n_Record_confirmed ?n_Record_closed_at ?n_Record_cause ?z_any ?z_enumerate ?z_int ?z_len ?z_max ?z_range ?z_str
    (case y_Record => k_is)
    (case x__law_state => k_is)
    (case l__law_state => k_is)
    (case e__law_state => k_is)
    (case k__law_state => k_is)
    (case x__law_draw => k_is)
    (case l__law_draw => k_is)
    (case e__law_draw => k_is)
    (case k__law_draw => k_is)
    (case x__law_number => k_is)
    (case l__law_number => k_is)
    (case e__law_number => k_is)
    (case k__law_number => k_is)
    (case x__law_entries => k_is)
    (case l__law_entries => k_is)
    (case e__law_entries => k_is)
    (case k__law_entries => k_is)
    (case x_time_of => k_is)
    (case l_time_of => k_is)
    (case e_time_of => k_is)
    (case k_time_of => k_is)
    (case x_Record_is_open => k_is)
    (case i_Record_is_open => k_is)
    (case l_Record_is_open => k_is)
    (case e_Record_is_open => k_is)
    (case k_Record_is_open => k_is)
    (case x_record_at => k_is)
    (case l_record_at => k_is)
    (case e_record_at => k_is)
    (case k_record_at => k_is)
    (case x_is_misplaced => k_is)
    (case l_is_misplaced => k_is)
    (case e_is_misplaced => k_is)
    (case k_is_misplaced => k_is)
    (case x_life_of => k_is)
    (case l_life_of => k_is)
    (case e_life_of => k_is)
    (case k_life_of => k_is)
    (case x_fault_of_entry => k_is)
    (case l_fault_of_entry => k_is)
    (case e_fault_of_entry => k_is)
    (case k_fault_of_entry => k_is)
    (case x_Record_init => k_is)
    (case i_Record_init => k_is)
    (case l_Record_init => k_is)
    (case e_Record_init => k_is)
    (case k_Record_init => k_is)
    (case x_record_from => k_is)
    (case l_record_from => k_is)
    (case e_record_from => k_is)
    (case k_record_from => k_is)
    (case x_close_record => k_is)
    (case l_close_record => k_is)
    (case e_close_record => k_is)
    (case k_close_record => k_is)
    (case x_belongs => k_is)
    (case l_belongs => k_is)
    (case e_belongs => k_is)
    (case k_belongs => k_is)
    (case x_fold_entry => k_is)
    (case l_fold_entry => k_is)
    (case e_fold_entry => k_is)
    (case k_fold_entry => k_is)
    (case x_fault_of => k_is)
    (case l_fault_of => k_is)
    (case e_fault_of => k_is)
    (case k_fault_of => k_is)
    (case x_Record_row => k_is)
    (case i_Record_row => k_is)
    (case l_Record_row => k_is)
    (case e_Record_row => k_is)
    (case k_Record_row => k_is)
    (case x__law_seconds => k_is)
    (case l__law_seconds => k_is)
    (case e__law_seconds => k_is)
    (case k__law_seconds => k_is)
    (case x_records_of => k_is)
    (case l_records_of => k_is)
    (case e_records_of => k_is)
    (case k_records_of => k_is)
    (case x__law_grows => k_is)
    (case l__law_grows => k_is)
    (case e__law_grows => k_is)
    (case k__law_grows => k_is)
    (case x_law => k_is)
    (case l_law => k_is)
    (case e_law => k_is)
    (case k_law => k_is)
    (case pg_Record => k_is)
    (case hd_Record => k_is)
    (case po_Record => k_is)
    (case sa_Record => k_is)
    (case mk_Record => k_is)
    (case kc_Record => k_is)
    (case n_Record_call_id => k_is)
    (case n_Record_role => k_is)
    (case n_Record_caller => k_is)
    (case n_Record_called => k_is)
    (case n_Record_payer => k_is)
    (case n_Record_came => k_is)
    (case n_Record_went => k_is)
    (case n_Record_parent => k_is)
    (case n_Record_opened_at => k_is)
    (case n_Record_confirmed => k_is)
    (case n_Record_closed_at => k_is)
    (case n_Record_cause => k_is)
    (case z_any => k_is)
    (case z_enumerate => k_is)
    (case z_int => k_is)
    (case z_len => k_is)
    (case z_max => k_is)
    (case z_range => k_is)
    (case z_str => k_is)
