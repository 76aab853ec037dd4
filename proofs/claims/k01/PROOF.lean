import PyProof.Rows.All
import Wide.All
import OpenK.AllK
import Wide.FinOn
import HandS.ForMost
import HandS.ForExc
import HandS.Conv
import HandS.ExcCtx
import HandS.HotCalls
import HandS.Wide
import HandS.TupAny
import HandS.Deep
import HandS.Flow
import HandS.IsInst
import HandS.TryOnly
import HandS.Defaults
import HandS.Words
import HandS.ExcInit
import HandS.ExcIs
import HandS.ExcField
import HandS.MapJoin
import PySem.Challenge.RW_coverorbound_k01_whole_nets_and_wrong_ne
import HandS.HeadHook2
import HandS.HeadHook3
import HandS.HeadHook4
import Lean
import HandS.Head0
import HandS.Head1
import HandS.Head2
import HandS.HeadEnd
set_option Elab.async false
set_option linter.all false
set_option maxRecDepth 100000
namespace HD
open PySem PySem.Spec PyProof.Rows L2

/-- plain data -/
inductive Dt where
  | non | bl (b : Bool) | int (i : Int) | str (x : Str)
  | tup (ds : List Dt) | lst (ds : List Dt) | dct (kvs : List (Key × Dt))
  | cel (n : Nat) | exc (a : Addr) (dx : Option Addr) (fs : List (Str × Dt))

/-- holds no object of its own (a cell's token counts as such) -/
def Dt.flat : Dt → Bool
  | .tup _ => false
  | .lst _ => false
  | .dct _ => false
  | _ => true
/-- the level of what holds no object -/
def topL : Nat := 1000
def Dt.lv (d : Dt) : Nat := if d.flat then topL else 0

/-- what does not change: frozen objects, the addresses of the cells -/
structure Wd where
  F : Hp
  ca : List Addr

section
variable (K : PySem.W.Frag) (W : Wd)
mutual
inductive Is : V → Dt → Prop
  | non : Is .non .non
  | bl {b} : Is (.bl b) (.bl b)
  | int {i} : Is (.int i) (.int i)
  | str {x} : Is (.str x) (.str x)
  | tup {a vs ds} : SqT K W.F a vs → Iss vs ds → Is (.ref a) (.tup ds)
  | lst {a vs ds} : W.F a = some (.lst vs) → Iss vs ds → Is (.ref a) (.lst ds)
  | dct {a kvs kds} : Rd W.F a (.dK kvs) → Isk kvs kds → Is (.ref a) (.dct kds)
  | cel {n a} : W.ca[n]? = some a → Is (.ref a) (.cel n)
  | exn {a} : Is (.ref a) (.exc a none [])
  | exf {a dd vs fs} : W.F dd = some (.xd vs) → Isx vs fs → Is (.ref a) (.exc a (some dd) fs)
inductive Iss : List V → List Dt → Prop
  | nil : Iss [] []
  | cons {v d vs ds} : Is v d → Iss vs ds → Iss (v :: vs) (d :: ds)
inductive Isk : List (Key × V) → List (Key × Dt) → Prop
  | nil : Isk [] []
  | cons {k v d vs ds} : Is v d → Isk vs ds → Isk ((k, v) :: vs) ((k, d) :: ds)
inductive Isx : List (Str × V) → List (Str × Dt) → Prop
  | nil : Isx [] []
  | cons {k v d vs ds} : Is v d → Isx vs ds → Isx ((k, v) :: vs) ((k, d) :: ds)
end
variable (H : Hp)
/-! owned to the level n: the objects at fp are nobody else's -/
mutual
inductive Ow : Nat → List Addr → V → Dt → Prop
  | is {n v d} : Is K W v d → (n = 0 ∨ d.flat = true) → Ow n [] v d
  | tup {n a fp vs ds} : H a = some (.tup vs) → Ows n fp vs ds → Ow (n + 1) (a :: fp) (.ref a) (.tup ds)
  | lst {n a fp vs ds} : H a = some (.lst vs) → Ows n fp vs ds → Ow (n + 1) (a :: fp) (.ref a) (.lst ds)
  | dct {n a fp kvs kds} : H a = some (.dK kvs) → Owk n fp kvs kds → Ow (n + 1) (a :: fp) (.ref a) (.dct kds)
inductive Ows : Nat → List Addr → List V → List Dt → Prop
  | nil {n} : Ows n [] [] []
  | cons {n fp gp v d vs ds} : Ow n fp v d → Ows n gp vs ds → Ows n (fp ++ gp) (v :: vs) (d :: ds)
inductive Owk : Nat → List Addr → List (Key × V) → List (Key × Dt) → Prop
  | nil {n} : Owk n [] [] []
  | cons {n fp gp k v d vs ds} : Ow n fp v d → Owk n gp vs ds → Owk n (fp ++ gp) ((k, v) :: vs) ((k, d) :: ds)
end
end

structure Wd.le (W W' : Wd) : Prop where
  F : ∀ a o, W.F a = some o → W'.F a = some o
  ca : ∀ (n : Nat) (a : Addr), W.ca[n]? = some a → W'.ca[n]? = some a
theorem Wd.le.refl (W : Wd) : W.le W := ⟨fun _ _ e => e, fun _ _ e => e⟩
theorem Wd.le.trans {A B C : Wd} (x : A.le B) (y : B.le C) : A.le C := ⟨fun a o e => y.F a o (x.F a o e), fun n a e => y.ca n a (x.ca n a e)⟩

/-- the same things are to be read -/
structure Wd.sim (W W' : Wd) : Prop where
  lst : ∀ a vs, W.F a = some (.lst vs) → W'.F a = some (.lst vs)
  tup : ∀ a vs, Rd W.F a (.tup vs) → Rd W'.F a (.tup vs)
  dct : ∀ a vs, Rd W.F a (.dK vs) → Rd W'.F a (.dK vs)
  ca : ∀ (n : Nat) (a : Addr), W.ca[n]? = some a → W'.ca[n]? = some a
  xd : ∀ a vs, W.F a = some (.xd vs) → W'.F a = some (.xd vs)
theorem rd_mono {F F' : Hp} {a : Addr} {u : HO} (h : ∀ a o, F a = some o → F' a = some o) (x : Rd F a u) : Rd F' a u := x.imp (h _ _) fun ⟨o, y⟩ => ⟨o, h _ _ y⟩
theorem Wd.le.sim {W W' : Wd} (h : W.le W') : W.sim W' := ⟨fun a vs e => h.F a _ e, fun _ _ e => rd_mono h.F e, fun _ _ e => rd_mono h.F e, h.ca, fun a vs e => h.F a _ e⟩
theorem sqT_sim {K : PySem.W.Frag} {W W' : Wd} {a : Addr} {vs : List V} (h : W.sim W') (x : SqT K W.F a vs) : SqT K W'.F a vs := x.imp (h.tup _ _) id
theorem sqT_mono {K : PySem.W.Frag} {F F' : Hp} {a : Addr} {vs : List V} (h : ∀ a o, F a = some o → F' a = some o) (x : SqT K F a vs) : SqT K F' a vs := by
  rcases x with (x | ⟨o, x⟩) | x
  · exact .inl (.inl (h _ _ x))
  · exact .inl (.inr ⟨o, h _ _ x⟩)
  · exact .inr x

section
variable {K : PySem.W.Frag} {W W' : Wd} {H H' : Hp}
mutual
theorem Is.sim (h : W.sim W') : ∀ {v d}, Is K W v d → Is K W' v d
  | _, _, .non => .non
  | _, _, .bl => .bl
  | _, _, .int => .int
  | _, _, .str => .str
  | _, _, .tup e r => .tup (sqT_sim h e) (Iss.sim h r)
  | _, _, .lst e r => .lst (h.lst _ _ e) (Iss.sim h r)
  | _, _, .dct e r => .dct (h.dct _ _ e) (Isk.sim h r)
  | _, _, .cel e => .cel (h.ca _ _ e)
  | _, _, .exn => .exn
  | _, _, .exf e r => .exf (h.xd _ _ e) (Isx.sim h r)
theorem Iss.sim (h : W.sim W') : ∀ {v d}, Iss K W v d → Iss K W' v d
  | _, _, .nil => .nil
  | _, _, .cons e r => .cons (Is.sim h e) (Iss.sim h r)
theorem Isk.sim (h : W.sim W') : ∀ {v d}, Isk K W v d → Isk K W' v d
  | _, _, .nil => .nil
  | _, _, .cons e r => .cons (Is.sim h e) (Isk.sim h r)
theorem Isx.sim (h : W.sim W') : ∀ {v d}, Isx K W v d → Isx K W' v d
  | _, _, .nil => .nil
  | _, _, .cons e r => .cons (Is.sim h e) (Isx.sim h r)
end
mutual
theorem Ow.sim (h : W.sim W') : ∀ {n fp v d}, (∀ a ∈ fp, ∀ o, H a = some o → H' a = some o) → Ow K W H n fp v d → Ow K W' H' n fp v d
  | _, _, _, _, _, .is e z => .is (e.sim h) z
  | _, _, _, _, k, .tup e r => .tup (k _ List.mem_cons_self _ e) (Ows.sim h (fun a ha => k a (List.mem_cons_of_mem _ ha)) r)
  | _, _, _, _, k, .lst e r => .lst (k _ List.mem_cons_self _ e) (Ows.sim h (fun a ha => k a (List.mem_cons_of_mem _ ha)) r)
  | _, _, _, _, k, .dct e r => .dct (k _ List.mem_cons_self _ e) (Owk.sim h (fun a ha => k a (List.mem_cons_of_mem _ ha)) r)
theorem Ows.sim (h : W.sim W') : ∀ {n fp v d}, (∀ a ∈ fp, ∀ o, H a = some o → H' a = some o) → Ows K W H n fp v d → Ows K W' H' n fp v d
  | _, _, _, _, _, .nil => .nil
  | _, _, _, _, k, .cons e r => .cons (Ow.sim h (fun a ha => k a (List.mem_append_left _ ha)) e) (Ows.sim h (fun a ha => k a (List.mem_append_right _ ha)) r)
theorem Owk.sim (h : W.sim W') : ∀ {n fp v d}, (∀ a ∈ fp, ∀ o, H a = some o → H' a = some o) → Owk K W H n fp v d → Owk K W' H' n fp v d
  | _, _, _, _, _, .nil => .nil
  | _, _, _, _, k, .cons e r => .cons (Ow.sim h (fun a ha => k a (List.mem_append_left _ ha)) e) (Owk.sim h (fun a ha => k a (List.mem_append_right _ ha)) r)
end
theorem Is.mono (h : W.le W') {v d} (x : Is K W v d) : Is K W' v d := x.sim h.sim
theorem Iss.mono (h : W.le W') {v d} (x : Iss K W v d) : Iss K W' v d := x.sim h.sim
theorem Isk.mono (h : W.le W') {v d} (x : Isk K W v d) : Isk K W' v d := x.sim h.sim
theorem Isx.mono (h : W.le W') {v d} (x : Isx K W v d) : Isx K W' v d := x.sim h.sim
theorem Ow.frame (h : W.le W') {n fp v d} (k : ∀ a ∈ fp, ∀ o, H a = some o → H' a = some o) (x : Ow K W H n fp v d) : Ow K W' H' n fp v d := x.sim h.sim k
theorem Ows.frame (h : W.le W') {n fp v d} (k : ∀ a ∈ fp, ∀ o, H a = some o → H' a = some o) (x : Ows K W H n fp v d) : Ows K W' H' n fp v d := x.sim h.sim k
theorem Owk.frame (h : W.le W') {n fp v d} (k : ∀ a ∈ fp, ∀ o, H a = some o → H' a = some o) (x : Owk K W H n fp v d) : Owk K W' H' n fp v d := x.sim h.sim k
mutual
theorem Ow.alive : ∀ {n fp v d}, Ow K W H n fp v d → ∀ a ∈ fp, ∃ o, H a = some o
  | _, _, _, _, .is _ _, _, ha => nomatch ha
  | _, _, _, _, .tup e r, a, ha => (List.mem_cons.mp ha).elim (fun q => q ▸ ⟨_, e⟩) (Ows.alive r a)
  | _, _, _, _, .lst e r, a, ha => (List.mem_cons.mp ha).elim (fun q => q ▸ ⟨_, e⟩) (Ows.alive r a)
  | _, _, _, _, .dct e r, a, ha => (List.mem_cons.mp ha).elim (fun q => q ▸ ⟨_, e⟩) (Owk.alive r a)
theorem Ows.alive : ∀ {n fp v d}, Ows K W H n fp v d → ∀ a ∈ fp, ∃ o, H a = some o
  | _, _, _, _, .nil, _, ha => nomatch ha
  | _, _, _, _, .cons e r, a, ha => (List.mem_append.mp ha).elim (Ow.alive e a) (Ows.alive r a)
theorem Owk.alive : ∀ {n fp v d}, Owk K W H n fp v d → ∀ a ∈ fp, ∃ o, H a = some o
  | _, _, _, _, .nil, _, ha => nomatch ha
  | _, _, _, _, .cons e r, a, ha => (List.mem_append.mp ha).elim (Ow.alive e a) (Owk.alive r a)
end
end

/-- the objects at fp are frozen as they stand -/
def Wd.add (W : Wd) (H : Hp) (fp : List Addr) : Wd := ⟨fun a => if a ∈ fp then H a else W.F a, W.ca⟩
theorem Wd.le_add {W : Wd} {H : Hp} {fp : List Addr} (h : ∀ a o, W.F a = some o → H a = some o) : W.le (W.add H fp) := ⟨fun a o e => by
  show (if a ∈ fp then H a else W.F a) = some o
  split
  · exact h a o e
  · exact e, fun _ _ e => e⟩
theorem Wd.add_le {W : Wd} {H : Hp} {fp gp : List Addr} (h : ∀ a o, W.F a = some o → H a = some o) (s : ∀ a ∈ fp, a ∈ gp) : (W.add H fp).le (W.add H gp) := ⟨fun a o e => by
  have e' : (if a ∈ fp then H a else W.F a) = some o := e
  show (if a ∈ gp then H a else W.F a) = some o
  by_cases q : a ∈ fp
  · rw [if_pos q] at e'
    rw [if_pos (s a q)]
    exact e'
  · rw [if_neg q] at e'
    split
    · exact h a o e'
    · exact e', fun _ _ e => e⟩
theorem Wd.add_at {W : Wd} {H : Hp} {fp : List Addr} {a : Addr} (h : a ∈ fp) : (W.add H fp).F a = H a := if_pos h
theorem Wd.add_off {W : Wd} {H : Hp} {fp : List Addr} {a : Addr} (h : a ∉ fp) : (W.add H fp).F a = W.F a := if_neg h
theorem Wd.add_sub {W : Wd} {H : Hp} {fp : List Addr} (h : ∀ a o, W.F a = some o → H a = some o) : ∀ a o, (W.add H fp).F a = some o → H a = some o := fun a o e => by
  by_cases q : a ∈ fp
  · rw [Wd.add_at q] at e; exact e
  · rw [Wd.add_off q] at e; exact h a o e

section
variable {K : PySem.W.Frag} {W : Wd} {H : Hp}
mutual
theorem Ow.freeze (h : ∀ a o, W.F a = some o → H a = some o) (gp : List Addr) : ∀ {n fp v d}, (∀ a ∈ fp, a ∈ gp) → Ow K W H n fp v d → Is K (W.add H gp) v d
  | _, _, _, _, _, .is e _ => e.mono (Wd.le_add h)
  | _, _, _, _, k, .tup e r => .tup (.inl (.inl (by rw [Wd.add_at (k _ List.mem_cons_self)]; exact e))) (Ows.freeze h gp (fun a ha => k a (List.mem_cons_of_mem _ ha)) r)
  | _, _, _, _, k, .lst e r => .lst (by rw [Wd.add_at (k _ List.mem_cons_self)]; exact e) (Ows.freeze h gp (fun a ha => k a (List.mem_cons_of_mem _ ha)) r)
  | _, _, _, _, k, .dct e r => .dct (.inl (by rw [Wd.add_at (k _ List.mem_cons_self)]; exact e)) (Owk.freeze h gp (fun a ha => k a (List.mem_cons_of_mem _ ha)) r)
theorem Ows.freeze (h : ∀ a o, W.F a = some o → H a = some o) (gp : List Addr) : ∀ {n fp v d}, (∀ a ∈ fp, a ∈ gp) → Ows K W H n fp v d → Iss K (W.add H gp) v d
  | _, _, _, _, _, .nil => .nil
  | _, _, _, _, k, .cons e r => .cons (Ow.freeze h gp (fun a ha => k a (List.mem_append_left _ ha)) e) (Ows.freeze h gp (fun a ha => k a (List.mem_append_right _ ha)) r)
theorem Owk.freeze (h : ∀ a o, W.F a = some o → H a = some o) (gp : List Addr) : ∀ {n fp v d}, (∀ a ∈ fp, a ∈ gp) → Owk K W H n fp v d → Isk K (W.add H gp) v d
  | _, _, _, _, _, .nil => .nil
  | _, _, _, _, k, .cons e r => .cons (Ow.freeze h gp (fun a ha => k a (List.mem_append_left _ ha)) e) (Owk.freeze h gp (fun a ha => k a (List.mem_append_right _ ha)) r)
end
theorem Iss.ows0 : ∀ {vs ds}, Iss K W vs ds → Ows K W H 0 [] vs ds
  | _, _, .nil => .nil
  | _, _, .cons e r => .cons (fp := []) (gp := []) (.is e (.inl rfl)) (Iss.ows0 r)
theorem Isk.owk0 : ∀ {vs ds}, Isk K W vs ds → Owk K W H 0 [] vs ds
  | _, _, .nil => .nil
  | _, _, .cons e r => .cons (fp := []) (gp := []) (.is e (.inl rfl)) (Isk.owk0 r)
end
theorem perm4 {α : Type} (a b c d : List α) : List.Perm ((a ++ b) ++ (c ++ d)) ((a ++ c) ++ (b ++ d)) := by
  rw [List.append_assoc, List.append_assoc]
  refine List.Perm.append_left a ?_
  rw [← List.append_assoc, ← List.append_assoc]
  exact List.Perm.append_right d List.perm_append_comm
section
variable {K : PySem.W.Frag} {W : Wd} {H : Hp}
mutual
theorem Ow.down (h : ∀ a o, W.F a = some o → H a = some o) : ∀ {n fp v d} (m : Nat), m ≤ n → Ow K W H n fp v d →
    ∃ f1 f2 : List Addr, List.Perm fp (f1 ++ f2) ∧ Ow K (W.add H f2) H m f1 v d
  | _, _, _, _, 0, _, x => ⟨[], _, .refl _, .is (x.freeze h _ (fun _ ha => ha)) (.inl rfl)⟩
  | _, _, _, _, m + 1, _, .is e (.inr z) => ⟨[], [], .refl _, .is (e.mono (Wd.le_add h)) (.inr z)⟩
  | _, _, _, _, m + 1, hm, .is e (.inl z) => absurd (z ▸ hm) (Nat.not_succ_le_zero m)
  | _, _, _, _, m + 1, hm, .tup e r => by
    obtain ⟨f1, f2, p, x⟩ := Ows.down h m (Nat.le_of_succ_le_succ hm) r
    exact ⟨_ :: f1, f2, List.Perm.cons _ p, .tup e x⟩
  | _, _, _, _, m + 1, hm, .lst e r => by
    obtain ⟨f1, f2, p, x⟩ := Ows.down h m (Nat.le_of_succ_le_succ hm) r
    exact ⟨_ :: f1, f2, List.Perm.cons _ p, .lst e x⟩
  | _, _, _, _, m + 1, hm, .dct e r => by
    obtain ⟨f1, f2, p, x⟩ := Owk.down h m (Nat.le_of_succ_le_succ hm) r
    exact ⟨_ :: f1, f2, List.Perm.cons _ p, .dct e x⟩
theorem Ows.down (h : ∀ a o, W.F a = some o → H a = some o) : ∀ {n fp v d} (m : Nat), m ≤ n → Ows K W H n fp v d →
    ∃ f1 f2 : List Addr, List.Perm fp (f1 ++ f2) ∧ Ows K (W.add H f2) H m f1 v d
  | _, _, _, _, m, _, .nil => ⟨[], [], .refl _, .nil⟩
  | _, _, _, _, m, hm, .cons e r => by
    obtain ⟨f1, f2, p, x⟩ := Ow.down h m hm e
    obtain ⟨g1, g2, q, y⟩ := Ows.down h m hm r
    exact ⟨f1 ++ g1, f2 ++ g2, (List.Perm.append p q).trans (perm4 f1 f2 g1 g2), .cons (x.frame (Wd.add_le h fun a ha => List.mem_append_left _ ha) (fun _ _ _ e => e))
      (y.frame (Wd.add_le h fun a ha => List.mem_append_right _ ha) (fun _ _ _ e => e))⟩
theorem Owk.down (h : ∀ a o, W.F a = some o → H a = some o) : ∀ {n fp v d} (m : Nat), m ≤ n → Owk K W H n fp v d →
    ∃ f1 f2 : List Addr, List.Perm fp (f1 ++ f2) ∧ Owk K (W.add H f2) H m f1 v d
  | _, _, _, _, m, _, .nil => ⟨[], [], .refl _, .nil⟩
  | _, _, _, _, m, hm, .cons e r => by
    obtain ⟨f1, f2, p, x⟩ := Ow.down h m hm e
    obtain ⟨g1, g2, q, y⟩ := Owk.down h m hm r
    exact ⟨f1 ++ g1, f2 ++ g2, (List.Perm.append p q).trans (perm4 f1 f2 g1 g2), .cons (x.frame (Wd.add_le h fun a ha => List.mem_append_left _ ha) (fun _ _ _ e => e))
      (y.frame (Wd.add_le h fun a ha => List.mem_append_right _ ha) (fun _ _ _ e => e))⟩
end
end
end HD

set_option Elab.async false
set_option linter.all false
set_option maxRecDepth 100000
namespace HD
open PySem PySem.Spec PyProof.Rows L2

abbrev St := L2.St
abbrev Sv := Option (Dt × Nat)
abbrev Gs := List (List Dt)
structure Ev where
  r : List Sv
  G : Gs

section
variable (K : PySem.W.Frag) (W : Wd) (H : Hp)
inductive Sl : List Sv → St → List Addr → Prop
  | nil : Sl [] [] []
  | no {ρ σ L x} : Sl ρ σ L → Sl (none :: ρ) (x :: σ) L
  | yes {n fp v d ρ σ L} : Ow K W H n fp v d → Sl ρ σ L → Sl (some (d, n) :: ρ) (some v :: σ) (fp ++ L)
end
/-- slots and data, the world and the heap; L: what the slots own -/
structure Rel (K : PySem.W.Frag) (W : Wd) (ρ : List Sv) (G : Gs) (σ : St) (H : Hp) (L : List Addr) : Prop where
  sl : ∃ M, Sl K W H ρ σ M ∧ L.Perm M
  nd : L.Nodup
  offF : ∀ a ∈ L, W.F a = none
  offC : ∀ a ∈ L, a ∉ W.ca
  sub : ∀ a o, W.F a = some o → H a = some o
  len : W.ca.length = G.length
  cel : ∀ (n : Nat) (a : Addr) (ds : List Dt), W.ca[n]? = some a → G[n]? = some ds → ∃ vs, H a = some (.lst vs) ∧ Iss K W vs ds
  cF : ∀ a ∈ W.ca, W.F a = none
  cnd : W.ca.Nodup
structure Ext (W W' : Wd) (H H' : Hp) (L L' : List Addr) : Prop where
  le : W.le W'
  newF : ∀ a o, W'.F a = some o → W.F a = none → H a = none ∨ a ∈ L
  newC : ∀ a ∈ W'.ca, a ∉ W.ca → H a = none ∨ a ∈ L
  keep : ∀ a o, H a = some o → a ∉ W.ca → a ∉ L → H' a = some o
  newL : ∀ a ∈ L', H a = none ∨ a ∈ L
  live : ∀ a o, H a = some o → ∃ o', H' a = some o'

section
variable {K : PySem.W.Frag} {W W' W1 W2 : Wd} {H H' H1 H2 : Hp} {L L' L1 L2 M : List Addr} {ρ ρ' X X' : List Sv} {σ σ' τ τ' : St} {G G' : Gs}
theorem Ext.refl : Ext W W H H L L := ⟨.refl _, fun a o e n => absurd (e.symm.trans n) (by simp), fun a h n => absurd h n, fun _ _ e _ _ => e, fun a h => .inr h, fun a o e => ⟨o, e⟩⟩
theorem Ext.trans (x : Ext W W1 H H1 L L1) (y : Ext W1 W2 H1 H2 L1 L2) : Ext W W2 H H2 L L2 where
  le := x.le.trans y.le
  newF := fun a o e n => by
    cases q : W1.F a with
    | some u => exact x.newF a u q n
    | none =>
      rcases y.newF a o e q with z | z
      · cases w : H a with
        | none => exact .inl rfl
        | some u =>
          obtain ⟨u', z'⟩ := x.live a u w
          rw [z] at z'; cases z'
      · exact x.newL a z
  newC := fun a h n => by
    by_cases q : a ∈ W1.ca
    · exact x.newC a q n
    · rcases y.newC a h q with z | z
      · cases w : H a with
        | none => exact .inl rfl
        | some u =>
          obtain ⟨u', z'⟩ := x.live a u w
          rw [z] at z'; cases z'
      · exact x.newL a z
  keep := fun a o e n l => by
    refine y.keep a o (x.keep a o e n l) (fun q => ?_) (fun q => ?_)
    · rcases x.newC a q n with z | z
      · rw [e] at z; cases z
      · exact l z
    · rcases x.newL a q with z | z
      · rw [e] at z; cases z
      · exact l z
  newL := fun a h => by
    rcases y.newL a h with z | z
    · cases w : H a with
      | none => exact .inl rfl
      | some u =>
        obtain ⟨u', z'⟩ := x.live a u w
        rw [z] at z'; cases z'
    · exact x.newL a z
  live := fun a o e => let ⟨o', q⟩ := x.live a o e; y.live a o' q
/-- more is owned at the start -/
theorem Ext.more (x : Ext W W' H H' L L') (h : ∀ a ∈ L, a ∈ M) : Ext W W' H H' M L' :=
  ⟨x.le, fun a o e n => (x.newF a o e n).imp id (h a), fun a e n => (x.newC a e n).imp id (h a), fun a o e n l => x.keep a o e n fun q => l (h a q), fun a q => (x.newL a q).imp id (h a), x.live⟩
/-- less is owned at the end -/
theorem Ext.less (x : Ext W W' H H' L L') (h : ∀ a ∈ M, a ∈ L') : Ext W W' H H' L M :=
  ⟨x.le, x.newF, x.newC, x.keep, fun a q => x.newL a (h a q), x.live⟩

theorem Sl.alive : ∀ {ρ σ L}, Sl K W H ρ σ L → ∀ a ∈ L, ∃ o, H a = some o
  | _, _, _, .nil, _, ha => nomatch ha
  | _, _, _, .no r, a, ha => Sl.alive r a ha
  | _, _, _, .yes e r, a, ha => (List.mem_append.mp ha).elim (Ow.alive e a) (Sl.alive r a)
theorem Sl.frame (h : W.le W') : ∀ {ρ σ L}, (∀ a ∈ L, ∀ o, H a = some o → H' a = some o) → Sl K W H ρ σ L → Sl K W' H' ρ σ L
  | _, _, _, _, .nil => .nil
  | _, _, _, k, .no r => .no (Sl.frame h k r)
  | _, _, _, k, .yes e r => .yes (Ow.frame h (fun a ha => k a (List.mem_append_left _ ha)) e) (Sl.frame h (fun a ha => k a (List.mem_append_right _ ha)) r)
theorem Sl.app : ∀ {X τ L1 ρ σ L2}, Sl K W H X τ L1 → Sl K W H ρ σ L2 → Sl K W H (X ++ ρ) (τ ++ σ) (L1 ++ L2)
  | _, _, _, _, _, _, .nil, y => y
  | _, _, _, _, _, _, .no x, y => .no (Sl.app x y)
  | _, _, _, _, _, _, .yes e x, y => by
    have z := Sl.yes e (Sl.app x y)
    rw [← List.append_assoc] at z
    exact z
theorem Sl.split : ∀ {X τ ρ σ L}, X.length = τ.length → Sl K W H (X ++ ρ) (τ ++ σ) L → ∃ L1 L2, L = L1 ++ L2 ∧ Sl K W H X τ L1 ∧ Sl K W H ρ σ L2
  | [], [], _, _, L, _, x => ⟨[], L, rfl, .nil, x⟩
  | none :: X, t :: τ, _, _, _, h, x => by
    cases x with
    | no x =>
      obtain ⟨L1, L2, e, a, b⟩ := Sl.split (Nat.succ.inj h) x
      exact ⟨L1, L2, e, .no a, b⟩
  | some (d, n) :: X, t :: τ, _, _, _, h, x => by
    cases x with
    | yes o x =>
      obtain ⟨L1, L2, e, a, b⟩ := Sl.split (Nat.succ.inj h) x
      exact ⟨_ ++ L1, L2, by rw [e, List.append_assoc], .yes o a, b⟩
theorem Sl.len : ∀ {ρ σ L}, Sl K W H ρ σ L → ρ.length = σ.length
  | _, _, _, .nil => rfl
  | _, _, _, .no r => congrArg (· + 1) r.len
  | _, _, _, .yes _ r => congrArg (· + 1) r.len

theorem Rel.alive (R : Rel K W ρ G σ H L) : ∀ a ∈ L, ∃ o, H a = some o := fun a ha => let ⟨_, s, p⟩ := R.sl; s.alive a (p.mem_iff.mp ha)
theorem Rel.perm (R : Rel K W ρ G σ H L) (p : L.Perm L') : Rel K W ρ G σ H L' :=
  let ⟨M, s, q⟩ := R.sl
  ⟨⟨M, s, p.symm.trans q⟩, p.nodup_iff.mp R.nd, fun a ha => R.offF a (p.mem_iff.mpr ha), fun a ha => R.offC a (p.mem_iff.mpr ha), R.sub, R.len, R.cel, R.cF, R.cnd⟩
/-- the parts -/
theorem Rel.split (hl : X.length = τ.length) (R : Rel K W (X ++ ρ) G (τ ++ σ) H L) :
    ∃ L1 L2, L.Perm (L1 ++ L2) ∧ Rel K W X G τ H L1 ∧ Rel K W ρ G σ H L2 := by
  obtain ⟨M, s, p⟩ := R.sl
  obtain ⟨L1, L2, e, a, b⟩ := Sl.split hl s
  subst e
  have R' := R.perm p
  have nd := List.nodup_append.mp R'.nd
  exact ⟨L1, L2, p, ⟨⟨L1, a, .refl _⟩, nd.1, fun a ha => R'.offF a (List.mem_append_left _ ha), fun a ha => R'.offC a (List.mem_append_left _ ha), R.sub, R.len, R.cel, R.cF, R.cnd⟩,
    ⟨⟨L2, b, .refl _⟩, nd.2.1, fun a ha => R'.offF a (List.mem_append_right _ ha), fun a ha => R'.offC a (List.mem_append_right _ ha), R.sub, R.len, R.cel, R.cF, R.cnd⟩⟩
/-- what another part of the state comes to: it is as it was -/
theorem frame_part (E : Ext W W' H H' L L') (S : Sl K W H X τ M) (dis : ∀ a ∈ M, a ∉ L) (offF : ∀ a ∈ M, W.F a = none) (offC : ∀ a ∈ M, a ∉ W.ca) :
    Sl K W' H' X τ M ∧ (∀ a ∈ M, a ∉ L') ∧ (∀ a ∈ M, W'.F a = none) ∧ (∀ a ∈ M, a ∉ W'.ca) := by
  have al := S.alive
  refine ⟨S.frame E.le fun a ha o e => E.keep a o e (offC a ha) (dis a ha), fun a ha q => ?_, fun a ha => ?_, fun a ha q => ?_⟩
  · obtain ⟨o, e⟩ := al a ha
    rcases E.newL a q with z | z
    · rw [e] at z; cases z
    · exact dis a ha z
  · cases w : W'.F a with
    | none => rfl
    | some u =>
      obtain ⟨o, e⟩ := al a ha
      rcases E.newF a u w (offF a ha) with z | z
      · rw [e] at z; cases z
      · exact absurd z (dis a ha)
  · obtain ⟨o, e⟩ := al a ha
    rcases E.newC a q (offC a ha) with z | z
    · rw [e] at z; cases z
    · exact dis a ha z
/-- behind a step of the second part (the slots) the first (the pending values) is put back -/
theorem Rel.push (hl : X.length = τ.length) (R : Rel K W (X ++ ρ) G (τ ++ σ) H (L1 ++ L2)) (S1 : Rel K W X G τ H L1) (R' : Rel K W' ρ' G' σ' H' L') (E : Ext W W' H H' L2 L') :
    Rel K W' (X ++ ρ') G' (τ ++ σ') H' (L1 ++ L') ∧ Ext W W' H H' (L1 ++ L2) (L1 ++ L') := by
  obtain ⟨M, s, p⟩ := S1.sl
  have nd := List.nodup_append.mp R.nd
  obtain ⟨a1, a2, a3, a4⟩ := frame_part E s (fun a ha q => nd.2.2 a (p.mem_iff.mpr ha) a q rfl) (fun a ha => S1.offF a (p.mem_iff.mpr ha)) (fun a ha => S1.offC a (p.mem_iff.mpr ha))
  obtain ⟨M', s', p'⟩ := R'.sl
  refine ⟨⟨⟨M ++ M', a1.app s', p.append p'⟩, List.nodup_append.mpr ⟨nd.1, R'.nd, fun a ha b hb e => a2 a (p.mem_iff.mp ha) (e ▸ hb)⟩, fun a ha => (List.mem_append.mp ha).elim (fun z => a3 a (p.mem_iff.mp z)) (R'.offF a),
    fun a ha => (List.mem_append.mp ha).elim (fun z => a4 a (p.mem_iff.mp z)) (R'.offC a), R'.sub, R'.len, R'.cel, R'.cF, R'.cnd⟩, ?_⟩
  have E2 := E.more (M := L1 ++ L2) fun a ha => List.mem_append_right _ ha
  exact ⟨E2.le, E2.newF, E2.newC, E2.keep, fun a ha => (List.mem_append.mp ha).elim (fun z => .inr (List.mem_append_left _ z)) (E2.newL a), E2.live⟩
/-- behind a step of the first part the second is put back -/
theorem Rel.tail (hl : X.length = τ.length) (R : Rel K W (X ++ ρ) G (τ ++ σ) H (L1 ++ L2)) (S2 : Rel K W ρ G σ H L2) (R' : Rel K W' X' G' τ' H' L') (E : Ext W W' H H' L1 L') :
    Rel K W' (X' ++ ρ) G' (τ' ++ σ) H' (L' ++ L2) ∧ Ext W W' H H' (L1 ++ L2) (L' ++ L2) := by
  obtain ⟨M, s, p⟩ := S2.sl
  have nd := List.nodup_append.mp R.nd
  obtain ⟨a1, a2, a3, a4⟩ := frame_part E s (fun a ha q => nd.2.2 a q a (p.mem_iff.mpr ha) rfl) (fun a ha => S2.offF a (p.mem_iff.mpr ha)) (fun a ha => S2.offC a (p.mem_iff.mpr ha))
  obtain ⟨M', s', p'⟩ := R'.sl
  refine ⟨⟨⟨M' ++ M, s'.app a1, p'.append p⟩, List.nodup_append.mpr ⟨R'.nd, nd.2.1, fun a ha b hb e => a2 b (p.mem_iff.mp hb) (e ▸ ha)⟩, fun a ha => (List.mem_append.mp ha).elim (R'.offF a) (fun z => a3 a (p.mem_iff.mp z)),
    fun a ha => (List.mem_append.mp ha).elim (R'.offC a) (fun z => a4 a (p.mem_iff.mp z)), R'.sub, R'.len, R'.cel, R'.cF, R'.cnd⟩, ?_⟩
  have E2 := E.more (M := L1 ++ L2) fun a ha => List.mem_append_left _ ha
  exact ⟨E2.le, E2.newF, E2.newC, E2.keep, fun a ha => (List.mem_append.mp ha).elim (E2.newL a) (fun z => .inr (List.mem_append_right _ z)), E2.live⟩
theorem Ext.permL (E : Ext W W' H H' L L') (p : L.Perm L1) : Ext W W' H H' L1 L' := E.more fun a ha => p.mem_iff.mp ha
theorem Ext.permR (E : Ext W W' H H' L L') (p : L'.Perm L1) : Ext W W' H H' L L1 := E.less fun a ha => p.mem_iff.mpr ha

/-! ### exceptions -/
abbrev Fld := Option (List (Str × Dt))
def ExAt (K : PySem.W.Frag) (W : Wd) (f : Fld) (dx : Option Addr) : Prop := match f with
  | none => dx = none
  | some fs => ∃ dd vs, dx = some dd ∧ W.F dd = some (.xd vs) ∧ Isx K W vs fs
theorem ExAt.mono {f : Fld} {dx : Option Addr} (h : W.le W') (x : ExAt K W f dx) : ExAt K W' f dx := by
  cases f with
  | none => exact x
  | some fs =>
    obtain ⟨dd, vs, e, q, r⟩ := x
    exact ⟨dd, vs, e, h.F _ _ q, r.mono h⟩
end

/-! ### the readings on data -/
abbrev Pv := Dt → Nat → Ev → Prop
abbrev Xv := Addr → Fld → Ev → Prop
abbrev TED := Ev → Pv → Xv → Prop
abbrev TTD := Ev → (Bool → Ev → Prop) → Xv → Prop
abbrev TAD := Ev → (List (Dt × Nat) → Ev → Prop) → Xv → Prop
structure EndsD where
  nx : Ev → Prop
  rt : Dt → Nat → Gs → Prop
  ex : Xv
  bk : Ev → Prop := fun _ => False
  ct : Ev → Prop := fun _ => False
abbrev TSD := EndsD → Ev → Prop
abbrev SpD := List Dt → Gs → (Dt → Nat → Gs → Prop) → (Addr → Fld → Gs → Prop) → Prop

section
variable (K : PySem.W.Frag) (Wx : WX)
def CovX (W : Wd) (H : Hp) (L : List Addr) (σ : St) (Xc : Xv) : Prop :=
  ∀ C f ev dx W' H' L', Xc C f ev → Rel K W' ev.r ev.G σ H' L' → ExAt K W' f dx → Ext W W' H H' L L' → Wx (.ref C) dx σ H'
def CovE (W : Wd) (H : Hp) (L : List Addr) (σ : St) (P : Pv) (Q : VK) : Prop :=
  ∀ d n ev v W' H' L', P d n ev → Rel K W' (some (d, n) :: ev.r) ev.G (some v :: σ) H' L' → Ext W W' H H' L L' → Q v H'
def CovT (W : Wd) (H : Hp) (L : List Addr) (σ : St) (P : Bool → Ev → Prop) (Q : Bool → Hp → Prop) : Prop :=
  ∀ b ev W' H' L', P b ev → Rel K W' ev.r ev.G σ H' L' → Ext W W' H H' L L' → Q b H'
def CovA (W : Wd) (H : Hp) (L : List Addr) (σ : St) (P : List (Dt × Nat) → Ev → Prop) (Q : List V → Hp → Prop) : Prop :=
  ∀ ds ev vs W' H' L', P ds ev → vs.length = ds.length → Rel K W' (ds.map some ++ ev.r) ev.G (vs.map some ++ σ) H' L' → Ext W W' H H' L L' → Q vs H'
def liftE (T : TED) : TE := fun σ H Q => ∃ W ev L P Xc, Rel K W ev.r ev.G σ H L ∧ T ev P Xc ∧ CovE K W H L σ P Q ∧ CovX K Wx W H L σ Xc
def liftT (T : TTD) : TT := fun σ H Q => ∃ W ev L P Xc, Rel K W ev.r ev.G σ H L ∧ T ev P Xc ∧ CovT K W H L σ P Q ∧ CovX K Wx W H L σ Xc
def liftA (T : TAD) : TA := fun σ H Q => ∃ W ev L P Xc, Rel K W ev.r ev.G σ H L ∧ T ev P Xc ∧ CovA K W H L σ P Q ∧ CovX K Wx W H L σ Xc
structure CovS (W : Wd) (H : Hp) (L : List Addr) (DD : EndsD) (D : Ends) : Prop where
  nx : ∀ ev σ' W' H' L', DD.nx ev → Rel K W' ev.r ev.G σ' H' L' → Ext W W' H H' L L' → D.nx σ' H'
  bk : ∀ ev σ' W' H' L', DD.bk ev → Rel K W' ev.r ev.G σ' H' L' → Ext W W' H H' L L' → D.bk σ' H'
  ct : ∀ ev σ' W' H' L', DD.ct ev → Rel K W' ev.r ev.G σ' H' L' → Ext W W' H H' L L' → D.ct σ' H'
  rt : ∀ d n G v W' H' L', DD.rt d n G → Rel K W' [some (d, n)] G [some v] H' L' → Ext W W' H H' L L' → D.rt v H'
  ex : ∀ C f ev σ' dx W' H' L', DD.ex C f ev → Rel K W' ev.r ev.G σ' H' L' → ExAt K W' f dx → Ext W W' H H' L L' → Wx (.ref C) dx σ' H'
def liftS (T : TSD) : TS := fun D σ H => ∃ W ev L DD, Rel K W ev.r ev.G σ H L ∧ T DD ev ∧ CovS K Wx W H L DD D
def liftF (S : SpD) : Sp := fun vs H Q E => ∃ W ds G P X, vs.length = ds.length ∧ Rel K W (ds.map fun d => some (d, 0)) G (vs.map some) H [] ∧ S ds G P X ∧
  (∀ d n G' v W' H' L', P d n G' → Rel K W' [some (d, n)] G' [some v] H' L' → Ext W W' H H' [] L' → Q v H') ∧
  (∀ C f G' dx W' H', X C f G' → Rel K W' [] G' [] H' [] → ExAt K W' f dx → Ext W W' H H' [] [] → E (.ref C) dx H')
end
end HD

set_option Elab.async false
set_option linter.all false
set_option maxRecDepth 100000
namespace HD
open PySem PySem.Spec PyProof.Rows L2

section
variable {K : PySem.W.Frag} {W W' W1 W2 : Wd} {H H' H1 H2 : Hp} {L L' L1 L2 M : List Addr} {ρ ρ' X X' : List Sv} {σ σ' τ τ' : St} {G G' : Gs} {Wx : WX} {P : Pv} {Q : VK} {Xc : Xv}
theorem CovX.step (c : CovX K Wx W H L σ Xc) (E : Ext W W' H H' L L') : CovX K Wx W' H' L' σ Xc := fun C f ev dx W2 H2 L2 p R x E2 => c C f ev dx W2 H2 L2 p R x (E.trans E2)
theorem CovE.step (c : CovE K W H L σ P Q) (E : Ext W W' H H' L L') : CovE K W' H' L' σ P Q := fun d n ev v W2 H2 L2 p R E2 => c d n ev v W2 H2 L2 p R (E.trans E2)
theorem CovX.sub (c : CovX K Wx W H L σ Xc) (h : ∀ a ∈ L', a ∈ L) : CovX K Wx W H L' σ Xc := c.step (Ext.refl.less h)
theorem CovE.sub (c : CovE K W H L σ P Q) (h : ∀ a ∈ L', a ∈ L) : CovE K W H L' σ P Q := c.step (Ext.refl.less h)
theorem CovT.step {P : Bool → Ev → Prop} {Q : Bool → Hp → Prop} (c : CovT K W H L σ P Q) (E : Ext W W' H H' L L') : CovT K W' H' L' σ P Q := fun d ev W2 H2 L2 p R E2 => c d ev W2 H2 L2 p R (E.trans E2)
theorem CovA.step {P : List (Dt × Nat) → Ev → Prop} {Q : List V → Hp → Prop} (c : CovA K W H L σ P Q) (E : Ext W W' H H' L L') : CovA K W' H' L' σ P Q := fun d ev vs W2 H2 L2 p hl R E2 => c d ev vs W2 H2 L2 p hl R (E.trans E2)
theorem CovS.step {DD : EndsD} {D : Ends} (c : CovS K Wx W H L DD D) (E : Ext W W' H H' L L') : CovS K Wx W' H' L' DD D :=
  ⟨fun ev σ W2 H2 L2 p R E2 => c.nx ev σ W2 H2 L2 p R (E.trans E2), fun ev σ W2 H2 L2 p R E2 => c.bk ev σ W2 H2 L2 p R (E.trans E2), fun ev σ W2 H2 L2 p R E2 => c.ct ev σ W2 H2 L2 p R (E.trans E2),
    fun d n G v W2 H2 L2 p R E2 => c.rt d n G v W2 H2 L2 p R (E.trans E2), fun C f ev σ dx W2 H2 L2 p R x E2 => c.ex C f ev σ dx W2 H2 L2 p R x (E.trans E2)⟩
theorem CovS.covX {DD : EndsD} {D : Ends} (c : CovS K Wx W H L DD D) : CovX K Wx W H L σ DD.ex := fun C f ev dx W2 H2 L2 p R x E => c.ex C f ev σ dx W2 H2 L2 p R x E

/-! ### one value on top -/
theorem Sl.one {s : Sv} {t : Option V} : Sl K W H [s] [t] L → Sl K W H [s] [t] L := id
theorem Sl.one_inv {d : Dt} {n : Nat} {v : V} (s : Sl K W H [some (d, n)] [some v] L) : Ow K W H n L v d := by
  cases s with
  | yes o r =>
    cases r
    rw [List.append_nil]
    exact o
theorem Sl.of_ow {d : Dt} {n : Nat} {v : V} (o : Ow K W H n L v d) : Sl K W H [some (d, n)] [some v] L := by
  have z := Sl.yes o (Sl.nil (K := K) (W := W) (H := H))
  rw [List.append_nil] at z
  exact z
/-- the top value and the rest -/
theorem Rel.pop {d : Dt} {n : Nat} {v : V} (R : Rel K W (some (d, n) :: ρ) G (some v :: σ) H L) :
    ∃ L1 L2 fp, L.Perm (L1 ++ L2) ∧ L1.Perm fp ∧ Ow K W H n fp v d ∧ Rel K W [some (d, n)] G [some v] H L1 ∧ Rel K W ρ G σ H L2 := by
  obtain ⟨L1, L2, p, R1, R2⟩ := Rel.split (X := [some (d, n)]) (τ := [some v]) rfl R
  obtain ⟨M, s, q⟩ := R1.sl
  exact ⟨L1, L2, M, p, q, s.one_inv, R1, R2⟩
/-- without the top value -/
theorem Rel.drop {s : Sv} {t : Option V} (R : Rel K W (s :: ρ) G (t :: σ) H L) : ∃ L', (∀ a ∈ L', a ∈ L) ∧ Rel K W ρ G σ H L' := by
  obtain ⟨L1, L2, p, R1, R2⟩ := Rel.split (X := [s]) (τ := [t]) rfl R
  exact ⟨L2, fun a ha => p.mem_iff.mpr (List.mem_append_right _ ha), R2⟩
/-- the top value frozen -/
theorem Rel.fz {d : Dt} {n : Nat} {v : V} (R : Rel K W (some (d, n) :: ρ) G (some v :: σ) H L) :
    ∃ W' L', Is K W' v d ∧ Rel K W' ρ G σ H L' ∧ Ext W W' H H L L' := by
  obtain ⟨L1, L2, fp, p, q, o, R1, R2⟩ := R.pop
  have nd := List.nodup_append.mp (p.nodup_iff.mp R.nd)
  have sub1 : ∀ a ∈ L1, a ∈ L := fun a ha => p.mem_iff.mpr (List.mem_append_left _ ha)
  have dis : ∀ a ∈ L2, a ∉ L1 := fun a ha hb => nd.2.2 a hb a ha rfl
  refine ⟨W.add H L1, L2, o.freeze R.sub L1 (fun a ha => q.mem_iff.mpr ha), ?_, ?_⟩
  · obtain ⟨M, s, q2⟩ := R2.sl
    refine ⟨⟨M, s.frame (Wd.le_add R.sub) (fun _ _ _ e => e), q2⟩, nd.2.1, fun a ha => (Wd.add_off (dis a ha)).trans (R2.offF a ha), R2.offC, Wd.add_sub R.sub, R.len, fun n a ds e1 e2 => ?_, fun a ha => ?_, R.cnd⟩
    · obtain ⟨vs, e3, z⟩ := R.cel n a ds e1 e2
      exact ⟨vs, e3, z.mono (Wd.le_add R.sub)⟩
    · exact (Wd.add_off fun z => R1.offC a z ha).trans (R.cF a ha)
  · refine ⟨Wd.le_add R.sub, fun a o e n => ?_, fun a h n => absurd h n, fun _ _ e _ _ => e, fun a ha => .inr (p.mem_iff.mpr (List.mem_append_right _ ha)), fun a o e => ⟨o, e⟩⟩
    by_cases z : a ∈ L1
    · exact .inr (sub1 a z)
    · rw [Wd.add_off z, n] at e; cases e
/-- a value on top that owns nothing -/
theorem Rel.put {d : Dt} {n : Nat} {v : V} (R : Rel K W ρ G σ H L) (i : Is K W v d) (z : n = 0 ∨ d.flat = true) : Rel K W (some (d, n) :: ρ) G (some v :: σ) H L :=
  let ⟨M, s, p⟩ := R.sl
  ⟨⟨M, .yes (fp := []) (.is i z) s, p⟩, R.nd, R.offF, R.offC, R.sub, R.len, R.cel, R.cF, R.cnd⟩
theorem lv_ok (d : Dt) : d.lv = 0 ∨ d.flat = true := by
  unfold Dt.lv
  cases d.flat with
  | true => exact .inr rfl
  | false => exact .inl rfl
theorem CovE.is {d : Dt} {n : Nat} {v : V} {ev : Ev} (c : CovE K W H L σ P Q) (R : Rel K W ev.r ev.G σ H L') (hs : ∀ a ∈ L', a ∈ L) (i : Is K W v d) (z : n = 0 ∨ d.flat = true) (p : P d n ev) : Q v H :=
  c d n ev v W H L' p (R.put i z) (Ext.refl.less hs)

/-! ### values by their data -/
theorem Ow.int {n fp v i} (o : Ow K W H n fp v (.int i)) : v = .int i := by
  cases o with
  | is i _ => cases i; rfl
theorem Ow.bl {n fp v b} (o : Ow K W H n fp v (.bl b)) : v = .bl b := by
  cases o with
  | is i _ => cases i; rfl
theorem Ow.str {n fp v x} (o : Ow K W H n fp v (.str x)) : v = .str x := by
  cases o with
  | is i _ => cases i; rfl
theorem Ow.non {n fp v} (o : Ow K W H n fp v .non) : v = .non := by
  cases o with
  | is i _ => cases i; rfl
theorem Ow.exc {n fp v b dx fs} (o : Ow K W H n fp v (.exc b dx fs)) : v = .ref b ∧ Is K W (.ref b) (.exc b dx fs) := by
  cases o with
  | is i _ =>
    have e : v = .ref b := by cases i <;> rfl
    subst e
    exact ⟨rfl, i⟩
theorem Ow.cel {n fp v m} (o : Ow K W H n fp v (.cel m)) : ∃ a, v = .ref a ∧ W.ca[m]? = some a := by
  cases o with
  | is i _ => cases i with | cel e => exact ⟨_, rfl, e⟩
theorem Rel.int {n v i} (R : Rel K W (some (.int i, n) :: ρ) G (some v :: σ) H L) : v = .int i := let ⟨_, _, _, _, _, o, _, _⟩ := R.pop; o.int
theorem Rel.bl {n v i} (R : Rel K W (some (.bl i, n) :: ρ) G (some v :: σ) H L) : v = .bl i := let ⟨_, _, _, _, _, o, _, _⟩ := R.pop; o.bl
theorem Rel.str {n v i} (R : Rel K W (some (.str i, n) :: ρ) G (some v :: σ) H L) : v = .str i := let ⟨_, _, _, _, _, o, _, _⟩ := R.pop; o.str
theorem Rel.non {n v} (R : Rel K W (some (.non, n) :: ρ) G (some v :: σ) H L) : v = .non := let ⟨_, _, _, _, _, o, _, _⟩ := R.pop; o.non
/-- a list as it may be read (whoever owns it) -/
theorem Ow.lstv {n fp v ds} (s : ∀ a o, W.F a = some o → H a = some o) (o : Ow K W H n fp v (.lst ds)) : ∃ a vs, v = .ref a ∧ H a = some (.lst vs) ∧ vs.length = ds.length := by
  have hs : ∀ {vs : List V} {ds : List Dt}, Iss K W vs ds → vs.length = ds.length := fun {vs ds} r => by
    induction vs generalizing ds with
    | nil => cases r; rfl
    | cons v vs ih => cases r with | cons _ r => exact congrArg (· + 1) (ih r)
  have ho : ∀ {vs : List V} {n fp} {ds : List Dt}, Ows K W H n fp vs ds → vs.length = ds.length := fun {vs n fp ds} r => by
    induction vs generalizing ds fp with
    | nil => cases r; rfl
    | cons v vs ih => cases r with | cons _ r => exact congrArg (· + 1) (ih r)
  cases o with
  | is i _ => cases i with | lst e r => exact ⟨_, _, rfl, s _ _ e, hs r⟩
  | lst e r => exact ⟨_, _, rfl, e, ho r⟩
theorem Iss.length {vs : List V} {ds : List Dt} (r : Iss K W vs ds) : vs.length = ds.length := by
  induction vs generalizing ds with
  | nil => cases r; rfl
  | cons v vs ih => cases r with | cons _ r => exact congrArg (· + 1) (ih r)
theorem Ows.length {n fp} {vs : List V} {ds : List Dt} (r : Ows K W H n fp vs ds) : vs.length = ds.length := by
  induction vs generalizing ds fp with
  | nil => cases r; rfl
  | cons v vs ih => cases r with | cons _ r => exact congrArg (· + 1) (ih r)
theorem sqT_sub {a : Addr} {vs : List V} (s : ∀ a o, W.F a = some o → H a = some o) (x : SqT K W.F a vs) : SqT K H a vs := sqT_mono s x
theorem Ow.tupv {n fp v ds} (s : ∀ a o, W.F a = some o → H a = some o) (o : Ow K W H n fp v (.tup ds)) : ∃ a vs, v = .ref a ∧ SqT K H a vs ∧ vs.length = ds.length := by
  cases o with
  | is i _ => cases i with | tup e r => exact ⟨_, _, rfl, sqT_sub s e, r.length⟩
  | tup e r => exact ⟨_, _, rfl, .inl (.inl e), r.length⟩

/-! ### a new object -/
def lvs (ds : List Dt) : Nat := if ds.all Dt.flat then topL else 1
theorem ows_flat : ∀ {vs ds}, Iss K W vs ds → ds.all Dt.flat = true → ∀ n, Ows K W H n [] vs ds
  | _, _, .nil, _, _ => .nil
  | _, _, .cons e r, z, n => by
    have z' := Bool.and_eq_true_iff.mp (show (_ && _) = true from z)
    exact .cons (fp := []) (gp := []) (.is e (.inr z'.1)) (ows_flat r z'.2 n)
theorem ow_lst_new {a : Addr} {vs : List V} {ds : List Dt} (e : H a = some (.lst vs)) (r : Iss K W vs ds) : Ow K W H (lvs ds) [a] (.ref a) (.lst ds) := by
  unfold lvs
  cases z : ds.all Dt.flat with
  | true => exact .lst (n := 999) e (ows_flat r z 999)
  | false => exact .lst (n := 0) e r.ows0
theorem ow_tup_new {a : Addr} {vs : List V} {ds : List Dt} (e : H a = some (.tup vs)) (r : Iss K W vs ds) : Ow K W H (lvs ds) [a] (.ref a) (.tup ds) := by
  unfold lvs
  cases z : ds.all Dt.flat with
  | true => exact .tup (n := 999) e (ows_flat r z 999)
  | false => exact .tup (n := 0) e r.ows0
/-- the heap has one more object -/
theorem Rel.grow {p : Addr} {o : HO} (R : Rel K W ρ G σ H L) (hp : H p = none) : Rel K W ρ G σ (upd H p o) L ∧ Ext W W H (upd H p o) L L := by
  have ne : ∀ a u, H a = some u → a ≠ p := fun a u e q => by rw [q, hp] at e; cases e
  have k : ∀ a u, H a = some u → upd H p o a = some u := fun a u e => by rw [upd_ne (ne a u e)]; exact e
  obtain ⟨M, s, q⟩ := R.sl
  exact ⟨⟨⟨M, s.frame (.refl _) (fun a _ u e => k a u e), q⟩, R.nd, R.offF, R.offC, fun a u e => k a u (R.sub a u e), R.len, fun n a ds e1 e2 => let ⟨vs, e3, z⟩ := R.cel n a ds e1 e2; ⟨vs, k _ _ e3, z⟩, R.cF, R.cnd⟩,
    ⟨.refl _, fun a u e n => absurd (e.symm.trans n) (by simp), fun a h n => absurd h n, fun a u e _ _ => k a u e, fun a h => .inr h, fun a u e => ⟨u, k a u e⟩⟩⟩
/-- a new object on top, whose parts are what X was -/
theorem Rel.made {p : Addr} {o : HO} {d : Dt} {n : Nat} {fp : List Addr} (hl : X.length = τ.length) (R : Rel K W (X ++ ρ) G (τ ++ σ) H L) (hp : H p = none)
    (h : ∀ L1, Sl K W H X τ L1 → Sl K W (upd H p o) X τ L1 → Ow K W (upd H p o) n (p :: L1) (.ref p) d) :
    ∃ L', Rel K W (some (d, n) :: ρ) G (some (.ref p) :: σ) (upd H p o) L' ∧ Ext W W H (upd H p o) L L' := by
  obtain ⟨R', E⟩ := R.grow (o := o) hp
  obtain ⟨M, s, q⟩ := R.sl
  obtain ⟨L1, L2, e, a, b⟩ := Sl.split hl s
  subst e
  obtain ⟨M', s', q'⟩ := R'.sl
  have pn : p ∉ L := fun z => by
    obtain ⟨u, e⟩ := R.alive p z
    rw [hp] at e; cases e
  have k : ∀ a u, H a = some u → upd H p o a = some u := fun a u e => by rw [upd_ne (fun q => absurd (e.symm.trans (q ▸ hp)) (by simp))]; exact e
  have a' : Sl K W (upd H p o) X τ L1 := a.frame (.refl _) fun a _ u e => k a u e
  have b' : Sl K W (upd H p o) ρ σ L2 := b.frame (.refl _) fun a _ u e => k a u e
  refine ⟨p :: L, ⟨⟨(p :: L1) ++ L2, .yes (h L1 a a') b', List.Perm.cons p q⟩, List.nodup_cons.mpr ⟨pn, R.nd⟩, fun a ha => ?_, fun a ha => ?_, R'.sub, R.len, R'.cel, R.cF, R.cnd⟩,
    ⟨.refl _, fun a u e n => absurd (e.symm.trans n) (by simp), fun a h n => absurd h n, fun a u e _ _ => k a u e, fun a ha => ?_, fun a u e => ⟨u, k a u e⟩⟩⟩
  · rcases List.mem_cons.mp ha with z | z
    · rw [z]
      cases w : W.F p with
      | none => rfl
      | some u => rw [R.sub p u w] at hp; cases hp
    · exact R.offF a z
  · rcases List.mem_cons.mp ha with z | z
    · rw [z]
      intro hc
      obtain ⟨i, hi⟩ := List.mem_iff_getElem?.mp hc
      have hlt : i < W.ca.length := (List.getElem?_eq_some_iff.mp hi).1
      obtain ⟨ds, hds⟩ : ∃ ds, G[i]? = some ds := ⟨G[i]'(R.len ▸ hlt), List.getElem?_eq_getElem _⟩
      obtain ⟨vs, e, _⟩ := R.cel i p ds hi hds
      rw [hp] at e; cases e
    · exact R.offC a z
  · rcases List.mem_cons.mp ha with z | z
    · exact .inl (z ▸ hp)
    · exact .inr z
/-- .. with frozen parts -/
theorem CovE.newL {p : Addr} {vs : List V} {ds : List Dt} {n : Nat} {ev : Ev} (c : CovE K W H L σ P Q) (R : Rel K W ev.r ev.G σ H L') (hs : ∀ a ∈ L', a ∈ L) (r : Iss K W vs ds) (hp : H p = none) (w : P (.lst ds) (lvs ds) ev) :
    Q (.ref p) (upd H p (.lst vs)) := by
  obtain ⟨L2, R2, E⟩ := Rel.made (X := []) (τ := []) (o := .lst vs) (d := .lst ds) (n := lvs ds) (fp := []) rfl R hp (fun L1 s s' => by
    cases s
    exact ow_lst_new upd_same r)
  exact c _ _ ev _ _ _ _ w R2 ((Ext.refl.less hs).trans E)
theorem CovE.newT {p : Addr} {vs : List V} {ds : List Dt} {n : Nat} {ev : Ev} (c : CovE K W H L σ P Q) (R : Rel K W ev.r ev.G σ H L') (hs : ∀ a ∈ L', a ∈ L) (r : Iss K W vs ds) (hp : H p = none) (w : P (.tup ds) (lvs ds) ev) :
    Q (.ref p) (upd H p (.tup vs)) := by
  obtain ⟨L2, R2, E⟩ := Rel.made (X := []) (τ := []) (o := .tup vs) (d := .tup ds) (n := lvs ds) (fp := []) rfl R hp (fun L1 s s' => by
    cases s
    exact ow_tup_new upd_same r)
  exact c _ _ ev _ _ _ _ w R2 ((Ext.refl.less hs).trans E)
end

/-! ### one and two operands -/
section
variable {X : Cx} {Wx : WX} {e a b : Expr} {Ta Tb : TED}
theorem _root_.L2.PE.imp {t t' : TE} (h : PE X e t) (k : ∀ σ H Q, t' σ H Q → t σ H Q) : PE X e t' := ⟨fun pins s σ H Q I q => h.run pins s σ H Q I (k σ H Q q)⟩
theorem _root_.L2.PT.imp {t t' : TT} (h : PT X e t) (k : ∀ σ H Q, t' σ H Q → t σ H Q) : PT X e t' := ⟨fun pins s σ H Q I q => h.run pins s σ H Q I (k σ H Q q)⟩
theorem _root_.L2.PS.imp {st : Stmt} {t t' : TS} (h : PS X st t) (k : ∀ D σ H, t' D σ H → t D σ H) : PS X st t' := ⟨fun pins s σ H D I q => h.run pins s σ H D I (k D σ H q)⟩
theorem _root_.L2.PSs.imp {st : List Stmt} {t t' : TS} (h : PSs X st t) (k : ∀ D σ H, t' D σ H → t D σ H) : PSs X st t' := ⟨fun pins s σ H D I q => h.run pins s σ H D I (k D σ H q)⟩
theorem _root_.L2.PA.imp {es : List Expr} {t t' : TA} (h : PA X es t) (k : ∀ σ H Q, t' σ H Q → t σ H Q) : PA X es t' := ⟨fun pos pins s σ H Q I q => h.run pos pins s σ H Q I (k σ H Q q)⟩
def dUn (U : Dt → Nat → Ev → Pv → Xv → Prop) (Ta : TED) : TED := fun ev P Xc => Ta ev (fun d n ev1 => U d n ev1 P Xc) Xc
def dBin (U : Dt → Nat → Dt → Nat → Ev → Pv → Xv → Prop) (Ta Tb : TED) : TED := fun ev P Xc => Ta ev (fun d1 n1 ev1 => Tb ev1 (fun d2 n2 ev2 => U d1 n1 d2 n2 ev2 P Xc) Xc) Xc
theorem lift1 {K : PySem.W.Frag} {U : Dt → Nat → Ev → Pv → Xv → Prop} {σ : St} {H : Hp} {Q R : VK} (h : liftE K Wx (dUn U Ta) σ H Q)
    (k : ∀ d n ev x W H L P Xc, U d n ev P Xc → Rel K W (some (d, n) :: ev.r) ev.G (some x :: σ) H L → CovE K W H L σ P Q → CovX K Wx W H L σ Xc → R x H) : liftE K Wx Ta σ H R := by
  obtain ⟨W, ev, L, P, Xc, r, hT, c, cx⟩ := h
  exact ⟨W, ev, L, _, Xc, r, hT, fun d n ev1 v W1 H1 L1 u r1 E => k d n ev1 v W1 H1 L1 P Xc u r1 (c.step E) (cx.step E), cx⟩
theorem lift2 {K : PySem.W.Frag} {U : Dt → Nat → Dt → Nat → Ev → Pv → Xv → Prop} {σ : St} {H : Hp} {Q : VK} {R : V → V → Hp → Prop} (h : liftE K Wx (dBin U Ta Tb) σ H Q)
    (k : ∀ d1 n1 d2 n2 ev x y W H L P Xc, U d1 n1 d2 n2 ev P Xc → Rel K W (some (d1, n1) :: some (d2, n2) :: ev.r) ev.G (some x :: some y :: σ) H L → CovE K W H L σ P Q → CovX K Wx W H L σ Xc → R x y H) :
    liftE K Wx Ta σ H (fun x H1 => liftE K Wx Tb σ H1 fun y H2 => R x y H2) := by
  obtain ⟨W, ev, L, P, Xc, r, hT, c, cx⟩ := h
  refine ⟨W, ev, L, _, Xc, r, hT, fun d n ev1 v W1 H1 L1 u r1 E => ?_, cx⟩
  obtain ⟨A, B, fp, p, q, o, RA, RB⟩ := r1.pop
  have c1 := c.step E
  have cx1 := cx.step E
  refine ⟨W1, ev1, B, _, Xc, RB, u, fun d2 n2 ev2 y W2 H2 L2 u2 r2 E2 => ?_, cx1.sub fun a ha => p.mem_iff.mpr (List.mem_append_right _ ha)⟩
  obtain ⟨R3, E3⟩ := Rel.push (X := [some (d, n)]) (τ := [some v]) (L1 := A) rfl (r1.perm p) RA r2 E2
  have E4 := E3.permL p.symm
  exact k d n d2 n2 ev2 v y W2 H2 _ P Xc u2 R3 (c1.step E4) (cx1.step E4)
end
end HD

set_option Elab.async false
set_option linter.all false
set_option maxRecDepth 100000
namespace HD
open PySem PySem.Spec PyProof.Rows L2
theorem set_same {α : Type} : ∀ {l : List α} {i : Nat} {x : α}, l[i]? = some x → l.set i x = l
  | [], _, _, h => by simp at h
  | a :: l, 0, x, h => by
    have e : a = x := Option.some.inj h
    rw [e] <;> rfl
  | a :: l, i + 1, x, h => congrArg (a :: ·) (set_same (l := l) (i := i) h)
section
variable {K : PySem.W.Frag} {W W' W1 W2 : Wd} {H H' H1 H2 : Hp} {L L' L1 L2 M : List Addr} {ρ ρ' X X' : List Sv} {σ σ' τ τ' : St} {G G' : Gs} {Wx : WX} {P : Pv} {Q : VK} {Xc : Xv}
/-- the slot i is taken out -/
theorem Sl.out : ∀ {ρ σ M} {i : Nat} {d : Dt} {n : Nat}, Sl K W H ρ σ M → ρ[i]? = some (some (d, n)) → ∃ v fp M', σ[i]? = some (some v) ∧ Ow K W H n fp v d ∧ M.Perm (fp ++ M') ∧ Sl K W H (ρ.set i none) σ M'
  | _, _, _, i, _, _, .nil, e => by simp at e
  | _, _, _, 0, _, _, .no r, e => by simp at e
  | _, _, _, i + 1, _, _, .no r, e => by
    obtain ⟨v, fp, M', a, b, c, d⟩ := Sl.out (i := i) r e
    exact ⟨v, fp, M', a, b, c, .no d⟩
  | _, _, _, 0, d, n, .yes (fp := fp) (L := L) o r, e => by
    have e := Option.some.inj (Option.some.inj e)
    cases e
    exact ⟨_, fp, L, rfl, o, .refl _, .no r⟩
  | _, _, _, i + 1, _, _, .yes (fp := gp) (L := L) o r, e => by
    obtain ⟨v, fp, M', a, b, c, d⟩ := Sl.out (i := i) r e
    refine ⟨v, fp, gp ++ M', a, b, ?_, .yes o d⟩
    refine (List.Perm.append_left gp c).trans ?_
    rw [← List.append_assoc, ← List.append_assoc]
    exact List.Perm.append_right M' List.perm_append_comm
/-- the slot i is filled (what it had is dropped) -/
theorem Sl.into : ∀ {ρ σ M} {i : Nat} {s : Sv} {t : Option V} {fp}, Sl K W H ρ σ M → Sl K W H [s] [t] fp → i < ρ.length → ∃ M2 M', Sl K W H (ρ.set i s) (σ.set i t) M2 ∧ M2.Perm (fp ++ M') ∧ M'.Sublist M
  | _, _, _, _, _, _, _, .nil, _, h => absurd h (Nat.not_lt_zero _)
  | _, _, _, 0, _, _, fp, .no (L := L) r, x, _ => ⟨fp ++ L, L, Sl.app x r, .refl _, .refl _⟩
  | _, _, _, 0, _, _, fp, .yes (fp := gp) (L := L) o r, x, _ => ⟨fp ++ L, L, Sl.app x r, .refl _, List.sublist_append_right _ _⟩
  | _, _, _, i + 1, _, _, _, .no r, x, h => by
    obtain ⟨M2, M', a, b, c⟩ := Sl.into (i := i) r x (Nat.lt_of_succ_lt_succ h)
    exact ⟨M2, M', .no a, b, c⟩
  | _, _, _, i + 1, _, _, fp, .yes (fp := gp) o r, x, h => by
    obtain ⟨M2, M', a, b, c⟩ := Sl.into (i := i) r x (Nat.lt_of_succ_lt_succ h)
    refine ⟨gp ++ M2, gp ++ M', .yes o a, ?_, List.Sublist.append_left c gp⟩
    refine (List.Perm.append_left gp b).trans ?_
    rw [← List.append_assoc, ← List.append_assoc]
    exact List.Perm.append_right M' List.perm_append_comm
theorem Rel.out {i : Nat} {d : Dt} {n : Nat} (R : Rel K W ρ G σ H L) (e : ρ[i]? = some (some (d, n))) : ∃ v, σ[i]? = some (some v) ∧ Rel K W (some (d, n) :: ρ.set i none) G (some v :: σ) H L := by
  obtain ⟨M, s, p⟩ := R.sl
  obtain ⟨v, fp, M', a, o, q, s'⟩ := Sl.out s e
  exact ⟨v, a, ⟨⟨fp ++ M', .yes o s', p.trans q⟩, R.nd, R.offF, R.offC, R.sub, R.len, R.cel, R.cF, R.cnd⟩⟩
theorem Rel.into {i : Nat} {s : Sv} {t : Option V} (R : Rel K W (s :: ρ) G (t :: σ) H L) (h : i < ρ.length) : ∃ L', (∀ a ∈ L', a ∈ L) ∧ Rel K W (ρ.set i s) G (σ.set i t) H L' := by
  obtain ⟨M, sl, p⟩ := R.sl
  obtain ⟨A, B, e, x, y⟩ := Sl.split (X := [s]) (τ := [t]) rfl sl
  subst e
  obtain ⟨M2, M', a, b, c⟩ := Sl.into y x h
  have nd := (p.nodup_iff.mp R.nd)
  have hs : ∀ a ∈ M2, a ∈ L := fun a ha => p.mem_iff.mpr ((List.mem_append.mp (b.mem_iff.mp ha)).elim (fun z => List.mem_append_left _ z) (fun z => List.mem_append_right _ (c.subset z)))
  exact ⟨M2, hs, ⟨⟨M2, a, .refl _⟩, b.nodup_iff.mpr (nd.sublist (List.Sublist.append_left c A)), fun a ha => R.offF a (hs a ha), fun a ha => R.offC a (hs a ha), R.sub, R.len, R.cel, R.cF, R.cnd⟩⟩
theorem Rel.lenEq (R : Rel K W ρ G σ H L) : ρ.length = σ.length := let ⟨_, s, _⟩ := R.sl; s.len
theorem get_lt {α : Type} {l : List α} {i : Nat} {x : α} (e : l[i]? = some x) : i < l.length := (List.getElem?_eq_some_iff.mp e).1
/-- the slot i is frozen; its value -/
theorem Rel.frz {i : Nat} {d : Dt} {n : Nat} (R : Rel K W ρ G σ H L) (e : ρ[i]? = some (some (d, n))) :
    ∃ v W' L', σ[i]? = some (some v) ∧ Is K W' v d ∧ Rel K W' (ρ.set i (some (d, d.lv))) G σ H L' ∧ Ext W W' H H L L' := by
  obtain ⟨v, a, R1⟩ := R.out e
  obtain ⟨W', L', i1, R2, E⟩ := R1.fz
  obtain ⟨L2, hs, R3⟩ := (R2.put (n := d.lv) i1 (lv_ok d)).into (i := i) (by rw [List.length_set]; exact get_lt e)
  rw [List.set_set, set_same a] at R3
  exact ⟨v, W', L2, a, i1, R3, E.less hs⟩
/-- the top value at a lower level -/
theorem Rel.downTop {d : Dt} {n m : Nat} {v : V} (hm : m ≤ n) (R : Rel K W (some (d, n) :: ρ) G (some v :: σ) H L) :
    ∃ W' L', Rel K W' (some (d, m) :: ρ) G (some v :: σ) H L' ∧ Ext W W' H H L L' := by
  obtain ⟨L1, L2, fp, p, q, o, R1, R2⟩ := R.pop
  obtain ⟨f1, f2, pf, o2⟩ := o.down R.sub m hm
  have pp : L.Perm ((f1 ++ f2) ++ L2) := p.trans (List.Perm.append_right L2 (q.trans pf))
  have nd := List.nodup_append.mp (pp.nodup_iff.mp R.nd)
  have nd1 := List.nodup_append.mp nd.1
  have in2 : ∀ a ∈ f2, a ∈ L := fun a ha => pp.mem_iff.mpr (List.mem_append_left _ (List.mem_append_right _ ha))
  have in1 : ∀ a ∈ f1, a ∈ L := fun a ha => pp.mem_iff.mpr (List.mem_append_left _ (List.mem_append_left _ ha))
  have d1 : ∀ a ∈ f1, a ∉ f2 := fun a ha hb => nd1.2.2 a ha a hb rfl
  have d2 : ∀ a ∈ L2, a ∉ f2 := fun a ha hb => nd.2.2 a (List.mem_append_right _ hb) a ha rfl
  have d3 : ∀ a ∈ f1, ∀ b ∈ L2, a ≠ b := fun a ha b hb => nd.2.2 a (List.mem_append_left _ ha) b hb
  obtain ⟨M, s, q2⟩ := R2.sl
  refine ⟨W.add H f2, f1 ++ L2, ⟨⟨f1 ++ M, .yes o2 (s.frame (Wd.le_add R.sub) (fun _ _ _ e => e)), List.Perm.append_left _ q2⟩, List.nodup_append.mpr ⟨nd1.1, nd.2.1, d3⟩, fun a ha => ?_, fun a ha => ?_, Wd.add_sub R.sub, R.len, fun n a ds e1 e2 => ?_, fun a ha => ?_, R.cnd⟩, ?_⟩
  · rcases List.mem_append.mp ha with z | z
    · exact (Wd.add_off (d1 a z)).trans (R.offF a (in1 a z))
    · exact (Wd.add_off (d2 a z)).trans (R2.offF a z)
  · rcases List.mem_append.mp ha with z | z
    · exact R.offC a (in1 a z)
    · exact R2.offC a z
  · obtain ⟨vs, e3, z⟩ := R.cel n a ds e1 e2
    exact ⟨vs, e3, z.mono (Wd.le_add R.sub)⟩
  · exact (Wd.add_off fun z => R.offC a (in2 a z) ha).trans (R.cF a ha)
  · refine ⟨Wd.le_add R.sub, fun a o e n => ?_, fun a h n => absurd h n, fun _ _ e _ _ => e, fun a ha => ?_, fun a o e => ⟨o, e⟩⟩
    · by_cases z : a ∈ f2
      · exact .inr (in2 a z)
      · rw [Wd.add_off z, n] at e; cases e
    · exact .inr ((List.mem_append.mp ha).elim (in1 a) fun z => pp.mem_iff.mpr (List.mem_append_right _ z))
end

/-! ## expressions -/
section
variable {X : Cx} {Wx : WX} {e a b c : Expr} {Ta Tb Tc : TED} {pos : Pos}
abbrev DE (X : Cx) (Wx : WX) (e : Expr) (T : TED) : Prop := PE X e (liftE X.K Wx T)
abbrev DT (X : Cx) (Wx : WX) (e : Expr) (T : TTD) : Prop := PT X e (liftT X.K Wx T)
abbrev DS (X : Cx) (Wx : WX) (s : Stmt) (T : TSD) : Prop := PS X s (liftS X.K Wx T)
abbrev DSs (X : Cx) (Wx : WX) (s : List Stmt) (T : TSD) : Prop := PSs X s (liftS X.K Wx T)
abbrev DA (X : Cx) (Wx : WX) (es : List Expr) (T : TAD) : Prop := PA X es (liftA X.K Wx T)

/-- a name, frozen -/
def dFrz (i : Nat) : TED := fun ev P _ => ∃ d n, ev.r[i]? = some (some (d, n)) ∧ P d d.lv ⟨ev.r.set i (some (d, d.lv)), ev.G⟩
/-- a name that is not used any more -/
def dMov (i : Nat) : TED := fun ev P _ => ∃ d n, ev.r[i]? = some (some (d, n)) ∧ P d n ⟨ev.r.set i none, ev.G⟩
theorem de_frz (i : Nat) {x : Str} (hN : X.N[i]? = some x := by rfl) (hv : Vis X.env.scope x := by first | exact Or.inl rfl | exact Or.inr (Or.inl rfl) | exact Or.inr (Or.inr rfl)) (hd : (x == ("__debug__" : Str)) = false := by decide)
    (hcd : (x == ("__classdict__" : Str)) = false := by decide) : DE X Wx (.Name x pos) (dFrz i) := by
  refine (pe_var hN hv hd hcd).imp fun σ H Q h => ?_
  obtain ⟨W, ev, L, P, Xc, R, ⟨d, n, e, p⟩, c, _⟩ := h
  obtain ⟨v, W', L', a, iv, R', E⟩ := R.frz e
  exact ⟨v, a, c d _ _ v W' H L' p (R'.put iv (lv_ok d)) E⟩
theorem de_mov (i : Nat) {x : Str} (hN : X.N[i]? = some x := by rfl) (hv : Vis X.env.scope x := by first | exact Or.inl rfl | exact Or.inr (Or.inl rfl) | exact Or.inr (Or.inr rfl)) (hd : (x == ("__debug__" : Str)) = false := by decide)
    (hcd : (x == ("__classdict__" : Str)) = false := by decide) : DE X Wx (.Name x pos) (dMov i) := by
  refine (pe_var hN hv hd hcd).imp fun σ H Q h => ?_
  obtain ⟨W, ev, L, P, Xc, R, ⟨d, n, e, p⟩, c, _⟩ := h
  obtain ⟨v, a, R'⟩ := R.out e
  exact ⟨v, a, c d n _ v W H L p R' .refl⟩
def dInt (i : Int) : TED := fun ev P _ => P (.int i) topL ev
def dBl (b : Bool) : TED := fun ev P _ => P (.bl b) topL ev
def dNon : TED := fun ev P _ => P .non topL ev
def dStr (x : Str) : TED := fun ev P _ => P (.str x) topL ev
theorem de_int {i j} : DE X Wx (.Constant (.int i) j pos) (dInt i) := pe_int.imp fun σ H Q ⟨W, ev, L, P, Xc, R, p, c, _⟩ => c.is R (fun _ h => h) .int (.inr rfl) p
theorem de_bl {i j} : DE X Wx (.Constant (.bool i) j pos) (dBl i) := pe_bl.imp fun σ H Q ⟨W, ev, L, P, Xc, R, p, c, _⟩ => c.is R (fun _ h => h) .bl (.inr rfl) p
theorem de_non {j} : DE X Wx (.Constant .none j pos) dNon := pe_non.imp fun σ H Q ⟨W, ev, L, P, Xc, R, p, c, _⟩ => c.is R (fun _ h => h) .non (.inr rfl) p
theorem de_str {i j} : DE X Wx (.Constant (.str i) j pos) (dStr i) := pe_str.imp fun σ H Q ⟨W, ev, L, P, Xc, R, p, c, _⟩ => c.is R (fun _ h => h) .str (.inr rfl) p

/-! ### arithmetic -/
/-- two operands of which nothing is kept but what is frozen -/
theorem de_bin {op : Operator} {U : Dt → Nat → Dt → Nat → Ev → Pv → Xv → Prop} {r : R2} (ho : OpR X (binaryOp op) r) (ha : DE X Wx a Ta) (hb : DE X Wx b Tb)
    (k : ∀ (σ : St) (Q : VK) d1 n1 d2 n2 ev x y W H L P Xc, U d1 n1 d2 n2 ev P Xc → Is X.K W x d1 → Is X.K W y d2 → Rel X.K W ev.r ev.G σ H L → CovE X.K W H L σ P Q → CovX X.K Wx W H L σ Xc → r x y H Q) : DE X Wx (.BinOp a op b pos) (dBin U Ta Tb) := by
  refine (pe_op ho ha hb).imp fun σ H Q h => lift2 h fun d1 n1 d2 n2 ev x y W H L P Xc u R c cx => ?_
  obtain ⟨W1, L1, i1, R1, E1⟩ := R.fz
  obtain ⟨W2, L2, i2, R2, E2⟩ := R1.fz
  have E := E1.trans E2
  exact k σ Q d1 n1 d2 n2 ev x y W2 H L2 P Xc u (i1.mono E2.le) i2 R2 (c.step E) (cx.step E)
def uInt (C : Int → Int → Prop) (g : Int → Int → Dt) : Dt → Nat → Dt → Nat → Ev → Pv → Xv → Prop := fun d1 _ d2 _ ev P _ => match d1, d2 with
  | .int i, .int j => C i j ∧ P (g i j) topL ev
  | _, _ => False
def dI (C : Int → Int → Prop) (g : Int → Int → Int) : TED → TED → TED := dBin (uInt C fun i j => .int (g i j))
theorem Is.int_inv {K : PySem.W.Frag} {W : Wd} {v : V} {i : Int} (h : Is K W v (.int i)) : v = .int i := by cases h; rfl
theorem Is.str_inv {K : PySem.W.Frag} {W : Wd} {v : V} {i : Str} (h : Is K W v (.str i)) : v = .str i := by cases h; rfl
theorem Is.bl_inv {K : PySem.W.Frag} {W : Wd} {v : V} {i : Bool} (h : Is K W v (.bl i)) : v = .bl i := by cases h; rfl
theorem Is.non_inv {K : PySem.W.Frag} {W : Wd} {v : V} (h : Is K W v .non) : v = .non := by cases h; rfl
theorem Is.lst_inv {K : PySem.W.Frag} {W : Wd} {v : V} {ds : List Dt} (h : Is K W v (.lst ds)) : ∃ a vs, v = .ref a ∧ W.F a = some (.lst vs) ∧ Iss K W vs ds := by cases h with | lst e r => exact ⟨_, _, rfl, e, r⟩
theorem Is.tup_inv {K : PySem.W.Frag} {W : Wd} {v : V} {ds : List Dt} (h : Is K W v (.tup ds)) : ∃ a vs, v = .ref a ∧ SqT K W.F a vs ∧ Iss K W vs ds := by cases h with | tup e r => exact ⟨_, _, rfl, e, r⟩
theorem Is.dct_inv {K : PySem.W.Frag} {W : Wd} {v : V} {ds : List (Key × Dt)} (h : Is K W v (.dct ds)) : ∃ a vs, v = .ref a ∧ Rd W.F a (.dK vs) ∧ Isk K W vs ds := by cases h with | dct e r => exact ⟨_, _, rfl, e, r⟩
theorem uInt_inv {C : Int → Int → Prop} {g : Int → Int → Dt} {d1 d2 : Dt} {n1 n2 : Nat} {ev : Ev} {P : Pv} {Xc : Xv} (u : uInt C g d1 n1 d2 n2 ev P Xc) : ∃ i j, d1 = .int i ∧ d2 = .int j ∧ C i j ∧ P (g i j) topL ev := by
  cases d1 with
  | int i => cases d2 with
    | int j => exact ⟨i, j, rfl, rfl, u⟩
    | _ => exact u.elim
  | _ => exact u.elim
theorem de_I {op : Operator} {C : Int → Int → Prop} {g : Int → Int → Int} (ho : OpR X (binaryOp op) (rI C fun i j => .int (g i j))) (ha : DE X Wx a Ta) (hb : DE X Wx b Tb) : DE X Wx (.BinOp a op b pos) (dI C g Ta Tb) :=
  de_bin ho ha hb fun σ Q d1 n1 d2 n2 ev x y W H L P Xc u i1 i2 R c cx => by
    obtain ⟨i, j, rfl, rfl, hC, p⟩ := uInt_inv u
    cases i1.int_inv
    cases i2.int_inv
    exact ⟨i, j, rfl, rfl, hC, c.is R (fun _ h => h) .int (.inr rfl) p⟩
theorem or0 {g : Int → Int → V} {f : Value → Value → Sem Value} (h : OpR X f (rI0 g)) : OpR X f (rI (fun _ _ => True) g) := fun pins s σ H x y v u Q I r1 r2 ⟨i, j, e1, e2, _, q⟩ => h pins s σ H x y v u Q I r1 r2 ⟨i, j, e1, e2, q⟩
def dSub : TED → TED → TED := dI (fun _ _ => True) fun i j => i - j
def dMod : TED → TED → TED := dI (fun _ j => 0 < j) fun i j => i % j
def dPow : TED → TED → TED := dI CPow fun i j => i ^ j.toNat
def dShl : TED → TED → TED := dI CPow fun i j => i * 2 ^ j.toNat
def dShr : TED → TED → TED := dI (fun _ j => 0 ≤ j) fun i j => i / 2 ^ j.toNat
def dAnd2 : TED → TED → TED := dI (fun _ _ => True) fun i j => Builtin.bitAnd i j
def dOr2 : TED → TED → TED := dI (fun _ _ => True) fun i j => Builtin.bitOr i j
def dXor2 : TED → TED → TED := dI (fun _ _ => True) fun i j => Builtin.bitXor i j
theorem de_sub (ha : DE X Wx a Ta) (hb : DE X Wx b Tb) : DE X Wx (.BinOp a .Sub b pos) (dSub Ta Tb) := de_I (or0 op_sub) ha hb
theorem de_mod (ha : DE X Wx a Ta) (hb : DE X Wx b Tb) : DE X Wx (.BinOp a .Mod b pos) (dMod Ta Tb) := de_I op_mod ha hb
theorem de_pow (ha : DE X Wx a Ta) (hb : DE X Wx b Tb) : DE X Wx (.BinOp a .Pow b pos) (dPow Ta Tb) := de_I op_pow ha hb
theorem de_shl (ha : DE X Wx a Ta) (hb : DE X Wx b Tb) : DE X Wx (.BinOp a .LShift b pos) (dShl Ta Tb) := de_I op_shl ha hb
theorem de_shr (ha : DE X Wx a Ta) (hb : DE X Wx b Tb) : DE X Wx (.BinOp a .RShift b pos) (dShr Ta Tb) := de_I op_shr ha hb
theorem de_and2 (ha : DE X Wx a Ta) (hb : DE X Wx b Tb) : DE X Wx (.BinOp a .BitAnd b pos) (dAnd2 Ta Tb) := de_I (or0 op_and) ha hb
theorem de_or2 (ha : DE X Wx a Ta) (hb : DE X Wx b Tb) : DE X Wx (.BinOp a .BitOr b pos) (dOr2 Ta Tb) := de_I (or0 op_or) ha hb
theorem de_xor2 (ha : DE X Wx a Ta) (hb : DE X Wx b Tb) : DE X Wx (.BinOp a .BitXor b pos) (dXor2 Ta Tb) := de_I (or0 op_xor) ha hb
end
end HD

set_option Elab.async false
set_option linter.all false
set_option maxRecDepth 100000
namespace HD
open PySem PySem.Spec PyProof.Rows L2
section
variable {K : PySem.W.Frag} {W W' W1 W2 : Wd} {H H' H1 H2 : Hp} {L L' L1 L2 M : List Addr} {ρ ρ' X X' : List Sv} {σ σ' τ τ' : St} {G G' : Gs} {Wx : WX} {P : Pv} {Q : VK} {Xc : Xv}
/-- the slot i, read as it stands -/
theorem Rel.at {i : Nat} {d : Dt} {n : Nat} (R : Rel K W ρ G σ H L) (e : ρ[i]? = some (some (d, n))) : ∃ v fp, σ[i]? = some (some v) ∧ Ow K W H n fp v d := by
  obtain ⟨M, s, p⟩ := R.sl
  obtain ⟨v, fp, M', a, o, _, _⟩ := Sl.out s e
  exact ⟨v, fp, a, o⟩
end
def asB (d : Dt) (P : Bool → Prop) : Prop := match d with
  | .bl b => P b
  | _ => False
theorem asB_inv {d : Dt} {P : Bool → Prop} (h : asB d P) : ∃ b, d = .bl b ∧ P b := by
  cases d with
  | bl b => exact ⟨b, rfl, h⟩
  | _ => exact h.elim
def tt (T : TED) : TTD := fun ev P Xc => T ev (fun d _ ev1 => asB d fun b => P b ev1) Xc
def uB (C : Dt → Dt → Prop) (g : Dt → Dt → Bool) (d1 d2 : Dt) (ev : Ev) (P : Pv) : Prop := C d1 d2 ∧ P (.bl (g d1 d2)) topL ev
def dEE (C : Dt → Dt → Prop) (g : Dt → Dt → Bool) (Ta Tb : TED) : TED := dBin (fun d1 _ d2 _ ev P _ => uB C g d1 d2 ev P) Ta Tb
/-- the slot i holds a value -/
def Has (ev : Ev) (i : Nat) : Prop := ∃ s, ev.r[i]? = some (some s)
def dVE (C : Dt → Dt → Prop) (g : Dt → Dt → Bool) (i : Nat) (Tb : TED) : TED := fun ev P Xc => Has ev i ∧ Tb ev (fun d2 _ ev1 => ∃ d1 n, ev1.r[i]? = some (some (d1, n)) ∧ uB C g d1 d2 ev1 P) Xc
def dEV (C : Dt → Dt → Prop) (g : Dt → Dt → Bool) (Ta : TED) (j : Nat) : TED := dUn (fun d1 _ ev P _ => ∃ d2 n, ev.r[j]? = some (some (d2, n)) ∧ uB C g d1 d2 ev P) Ta
def dVV (C : Dt → Dt → Prop) (g : Dt → Dt → Bool) (i j : Nat) : TED := fun ev P _ => ∃ d1 n d2 m, ev.r[i]? = some (some (d1, n)) ∧ ev.r[j]? = some (some (d2, m)) ∧ uB C g d1 d2 ev P
/-- what a rule by values asks of data, the answer a bool -/
def OpB (K : PySem.W.Frag) (C : Dt → Dt → Prop) (g : Dt → Dt → Bool) (r : R2) : Prop :=
  ∀ (W : Wd) (H : Hp) (x y : V) (d1 d2 : Dt) (n1 n2 : Nat) (f1 f2 : List Addr) (Q : VK), (∀ a o, W.F a = some o → H a = some o) → Ow K W H n1 f1 x d1 → Ow K W H n2 f2 y d2 → C d1 d2 → Q (.bl (g d1 d2)) H → r x y H Q
section
variable {X : Cx} {Wx : WX} {e a b c : Expr} {Ta Tb Tc : TED} {pos : Pos} {C : Dt → Dt → Prop} {g : Dt → Dt → Bool} {r : R2} {i j : Nat} {x y : Str} {p1 p2 : Pos}
theorem dt_of {e : Expr} {t : TE} {T : TED} (h : PT X e (tTest t)) (k : ∀ σ H Q, liftE X.K Wx T σ H Q → t σ H Q) : DT X Wx e (tt T) := by
  refine h.imp fun σ H Q q => k σ H _ ?_
  obtain ⟨W, ev, L, P, Xc, R, t, c, cx⟩ := q
  refine ⟨W, ev, L, _, Xc, R, t, fun d n ev1 v W1 H1 L1 u R1 E => ?_, cx⟩
  obtain ⟨b, rfl, p⟩ := asB_inv u
  obtain ⟨L2, hs, R2⟩ := R1.drop
  exact ⟨b, R1.bl, c b ev1 W1 H1 L2 p R2 (E.less hs)⟩
theorem lEE {K : PySem.W.Frag} (h : OpB K C g r) : ∀ (σ : St) (H : Hp) (Q : VK), liftE K Wx (dEE C g Ta Tb) σ H Q → tOp r (liftE K Wx Ta) (liftE K Wx Tb) σ H Q := fun σ H Q q =>
  lift2 q fun d1 n1 d2 n2 ev x y W H L P Xc u R c cx => by
    obtain ⟨_, _, f1, _, _, o1, _, RB⟩ := R.pop
    obtain ⟨_, _, f2, _, _, o2, _, _⟩ := RB.pop
    obtain ⟨L1, s1, R1⟩ := R.drop
    obtain ⟨L2, s2, R2⟩ := R1.drop
    exact h W H x y d1 d2 n1 n2 f1 f2 Q R.sub o1 o2 u.1 (c.is R2 (fun a ha => s1 a (s2 a ha)) .bl (.inr rfl) u.2)
theorem lVE {K : PySem.W.Frag} (h : OpB K C g r) : ∀ (σ : St) (H : Hp) (Q : VK), liftE K Wx (dVE C g i Tb) σ H Q → tOp r (tVar i) (liftE K Wx Tb) σ H Q := fun σ H Q q => by
  obtain ⟨W, ev, L, P, Xc, R, ⟨⟨⟨d0, n0⟩, e0⟩, t⟩, c, cx⟩ := q
  obtain ⟨v, _, ev0, _⟩ := R.at e0
  refine ⟨v, ev0, W, ev, L, _, Xc, R, t, fun d2 n2 ev1 y W1 H1 L1 u R1 E => ?_, cx⟩
  obtain ⟨d1, n1, e1, u⟩ := u
  obtain ⟨_, _, f2, _, _, o2, _, _⟩ := R1.pop
  obtain ⟨L2, s2, R2⟩ := R1.drop
  obtain ⟨v', f1, ev', o1⟩ := R2.at e1
  rw [ev0] at ev'
  cases ev'
  exact h W1 H1 v y d1 d2 n1 n2 f1 f2 Q R1.sub o1 o2 u.1 ((c.step E).is R2 s2 .bl (.inr rfl) u.2)
theorem lEV {K : PySem.W.Frag} (h : OpB K C g r) : ∀ (σ : St) (H : Hp) (Q : VK), liftE K Wx (dEV C g Ta j) σ H Q → tOp r (liftE K Wx Ta) (tVar j) σ H Q := fun σ H Q q =>
  lift1 q fun d1 n1 ev x W H L P Xc u R c cx => by
    obtain ⟨d2, n2, e2, u⟩ := u
    obtain ⟨_, _, f1, _, _, o1, _, _⟩ := R.pop
    obtain ⟨L2, s2, R2⟩ := R.drop
    obtain ⟨v', f2, ev', o2⟩ := R2.at e2
    exact ⟨v', ev', h W H x v' d1 d2 n1 n2 f1 f2 Q R.sub o1 o2 u.1 (c.is R2 s2 .bl (.inr rfl) u.2)⟩
theorem lVV {K : PySem.W.Frag} (h : OpB K C g r) : ∀ (σ : St) (H : Hp) (Q : VK), liftE K Wx (dVV C g i j) σ H Q → tOp r (tVar i) (tVar j) σ H Q := fun σ H Q q => by
  obtain ⟨W, ev, L, P, Xc, R, ⟨d1, n1, d2, n2, e1, e2, u⟩, c, cx⟩ := q
  obtain ⟨v1, f1, a1, o1⟩ := R.at e1
  obtain ⟨v2, f2, a2, o2⟩ := R.at e2
  exact ⟨v1, a1, v2, a2, h W H v1 v2 d1 d2 n1 n2 f1 f2 Q R.sub o1 o2 u.1 (c.is R (fun _ h => h) .bl (.inr rfl) u.2)⟩
/-! the four forms, as values and as tests -/
section
variable {op : CmpOp} (ho : OpR X (compareOp op) r) (h : OpB X.K C g r)
include ho h
theorem de_EE (ha : DE X Wx a Ta) (hb : DE X Wx b Tb) (hm : behindInMarks op b = false) : DE X Wx (.Compare a [op] [b] pos) (dEE C g Ta Tb) := (pe_cmpR ho ha hb hm).imp (lEE h)
theorem dt_EE (ha : DE X Wx a Ta) (hb : DE X Wx b Tb) (hm : behindInMarks op b = false) : DT X Wx (.Compare a [op] [b] pos) (tt (dEE C g Ta Tb)) := dt_of (pt_cmpR ho ha hb hm) (lEE h)
theorem de_VE (ha : PE X a (tVar i)) (hb : DE X Wx b Tb) (hm : behindInMarks op b = false) : DE X Wx (.Compare a [op] [b] pos) (dVE C g i Tb) := (pe_cmpR ho ha hb hm).imp (lVE h)
theorem dt_VE (ha : PE X a (tVar i)) (hb : DE X Wx b Tb) (hm : behindInMarks op b = false) : DT X Wx (.Compare a [op] [b] pos) (tt (dVE C g i Tb)) := dt_of (pt_cmpR ho ha hb hm) (lVE h)
theorem de_EV (ha : DE X Wx a Ta) (hb : PE X b (tVar j)) (hm : behindInMarks op b = false) : DE X Wx (.Compare a [op] [b] pos) (dEV C g Ta j) := (pe_cmpR ho ha hb hm).imp (lEV h)
theorem dt_EV (ha : DE X Wx a Ta) (hb : PE X b (tVar j)) (hm : behindInMarks op b = false) : DT X Wx (.Compare a [op] [b] pos) (tt (dEV C g Ta j)) := dt_of (pt_cmpR ho ha hb hm) (lEV h)
theorem de_VV (ha : PE X a (tVar i)) (hb : PE X b (tVar j)) (hm : behindInMarks op b = false) : DE X Wx (.Compare a [op] [b] pos) (dVV C g i j) := (pe_cmpR ho ha hb hm).imp (lVV h)
theorem dt_VV (ha : PE X a (tVar i)) (hb : PE X b (tVar j)) (hm : behindInMarks op b = false) : DT X Wx (.Compare a [op] [b] pos) (tt (dVV C g i j)) := dt_of (pt_cmpR ho ha hb hm) (lVV h)
end
end

/-! ### == -/
mutual
def toPy : Dt → PyData
  | .non => .none
  | .bl b => .bool b
  | .int i => .int i
  | .str x => .str x
  | .tup ds => .tuple (toPys ds)
  | .lst ds => .list (toPys ds)
  | .dct _ => .dict []
  | .cel _ => .dict []
  | .exc _ _ _ => .dict []
def toPys : List Dt → List PyData
  | [] => []
  | d :: ds => toPy d :: toPys ds
end
section
variable {K : PySem.W.Frag} {W W' W1 W2 : Wd} {H H' H1 H2 : Hp}
theorem sqL_of {a : Addr} {vs : List V} (s : ∀ a o, W.F a = some o → H a = some o) (h : W.F a = some (.lst vs)) : SqL K H a vs := .inl (.inl (s _ _ h))
mutual
theorem Is.dp (s : ∀ a o, W.F a = some o → H a = some o) : ∀ {v d}, Is K W v d → (toPy d).canLay0 = true → Dp K H v (toPy d)
  | _, _, .non, _ => .non
  | _, _, .bl, _ => .bl _
  | _, _, .int, _ => .int _
  | _, _, .str, _ => .str _
  | _, _, .tup e r, h => .tup (sqT_sub s e) (Iss.dp s r h)
  | _, _, .lst e r, h => .lst (sqL_of s e) (Iss.dp s r h)
  | _, _, .dct _ _, h => nomatch h
  | _, _, .cel _, h => nomatch h
  | _, _, .exn, h => nomatch h
  | _, _, .exf _ _, h => nomatch h
theorem Iss.dp (s : ∀ a o, W.F a = some o → H a = some o) : ∀ {v d}, Iss K W v d → PyData.canLayAll0 (toPys d) = true → DpAll K H v (toPys d)
  | _, _, .nil, _ => .nil
  | _, _, .cons e r, h => .cons (Is.dp s e (Bool.and_eq_true_iff.mp h).1) (Iss.dp s r (Bool.and_eq_true_iff.mp h).2)
end
mutual
theorem Ow.dp (s : ∀ a o, W.F a = some o → H a = some o) : ∀ {n fp v d}, Ow K W H n fp v d → (toPy d).canLay0 = true → Dp K H v (toPy d)
  | _, _, _, _, .is e _, h => e.dp s h
  | _, _, _, _, .tup e r, h => .tup (.inl (.inl e)) (Ows.dp s r h)
  | _, _, _, _, .lst e r, h => .lst (.inl (.inl e)) (Ows.dp s r h)
  | _, _, _, _, .dct _ _, h => nomatch h
theorem Ows.dp (s : ∀ a o, W.F a = some o → H a = some o) : ∀ {n fp v d}, Ows K W H n fp v d → PyData.canLayAll0 (toPys d) = true → DpAll K H v (toPys d)
  | _, _, _, _, .nil, _ => .nil
  | _, _, _, _, .cons e r, h => .cons (Ow.dp s e (Bool.and_eq_true_iff.mp h).1) (Ows.dp s r (Bool.and_eq_true_iff.mp h).2)
end
end
/-- scalars that == tells apart by rule -/
def scalD : Dt → Dt → Bool
  | .non, .non => true | .non, .int _ => true | .int _, .non => true | .non, .bl _ => true | .bl _, .non => true | .non, .str _ => true | .str _, .non => true
  | .int _, .int _ => true | .bl _, .bl _ => true | .str _, .str _ => true
  | .int _, .str _ => true | .str _, .int _ => true | .bl _, .str _ => true | .str _, .bl _ => true
  | _, _ => false
def eqD (d e : Dt) : Bool := PyData.eqv (toPy d) (toPy e)
def shp (d : Dt) : Bool := SeqAt.shaped (toPy d)
def CEq (d e : Dt) : Prop := scalD d e = true ∨ (shp d = true ∧ shp e = true)
def neD (d e : Dt) : Bool := !eqD d e
theorem flat_v {K : PySem.W.Frag} {W : Wd} {H : Hp} {n fp v d} (o : Ow K W H n fp v d) : ∀ (P : V → Dt → Prop), (∀ i, P (.int i) (.int i)) → (∀ b, P (.bl b) (.bl b)) → (∀ x, P (.str x) (.str x)) → P .non .non → (∀ ds v, P v (.tup ds)) → (∀ ds v, P v (.lst ds)) → (∀ ds v, P v (.dct ds)) → (∀ m v, P v (.cel m)) → (∀ m dx fs v, P v (.exc m dx fs)) → P v d := by
  intro P h1 h2 h3 h4 h5 h6 h7 h8 h9
  cases d with
  | int i => cases o.int; exact h1 i
  | bl b => cases o.bl; exact h2 b
  | str x => cases o.str; exact h3 x
  | non => cases o.non; exact h4
  | tup ds => exact h5 ds v
  | lst ds => exact h6 ds v
  | dct ds => exact h7 ds v
  | cel m => exact h8 m v
  | exc m dx fs => exact h9 m dx fs v
theorem scal_eq {K : PySem.W.Frag} {W : Wd} {H : Hp} {n m f1 f2 x y d e} (o1 : Ow K W H n f1 x d) (o2 : Ow K W H m f2 y e) (h : scalD d e = true) : scal x y = true ∧ decide (x = y) = eqD d e := by
  cases d <;> cases e <;> first | (simp [scalD] at h; done) | skip
  all_goals first | cases o1.non | cases o1.int | cases o1.bl | cases o1.str
  all_goals first | cases o2.non | cases o2.int | cases o2.bl | cases o2.str
  all_goals refine ⟨rfl, ?_⟩
  all_goals simp [eqD, toPy, PyData.eqv, Bool.beq_eq_decide_eq]
theorem opB_eq {X : Cx} (hu : X.A.units + 64 < cLine) : OpR X (compareOp .Eq) (fun x y H Q => rEq x y H Q ∨ rEqD X.K x y H Q) := op_eq.or (op_eqD hu)
theorem opB_ne {X : Cx} (hu : X.A.units + 64 < cLine) : OpR X (compareOp .NotEq) (fun x y H Q => rNe x y H Q ∨ rNeD X.K x y H Q) := op_ne.or (op_neD hu)
theorem eq_OpB {K : PySem.W.Frag} : OpB K CEq eqD (fun x y H Q => rEq x y H Q ∨ rEqD K x y H Q) := fun W H x y d1 d2 n1 n2 f1 f2 Q s o1 o2 c q => by
  rcases c with c | ⟨c1, c2⟩
  · obtain ⟨a, b⟩ := scal_eq o1 o2 c
    exact .inl ⟨a, by rw [b]; exact q⟩
  · exact .inr ⟨_, _, o1.dp s (SeqAt.canLay_of_shaped c1), o2.dp s (SeqAt.canLay_of_shaped c2), c1, c2, q⟩
theorem ne_OpB {K : PySem.W.Frag} : OpB K CEq neD (fun x y H Q => rNe x y H Q ∨ rNeD K x y H Q) := fun W H x y d1 d2 n1 n2 f1 f2 Q s o1 o2 c q => by
  rcases c with c | ⟨c1, c2⟩
  · obtain ⟨a, b⟩ := scal_eq o1 o2 c
    exact .inl ⟨a, by rw [b]; exact q⟩
  · exact .inr ⟨_, _, o1.dp s (SeqAt.canLay_of_shaped c1), o2.dp s (SeqAt.canLay_of_shaped c2), c1, c2, q⟩
end HD

set_option Elab.async false
set_option linter.all false
set_option maxRecDepth 100000
namespace HD
open PySem PySem.Spec PyProof.Rows L2
/-! ### order of ints -/
def CI (d e : Dt) : Prop := match d, e with
  | .int _, .int _ => True
  | _, _ => False
def gI (p : Int → Int → Bool) (d e : Dt) : Bool := match d, e with
  | .int i, .int j => p i j
  | _, _ => false
theorem int_OpB {K : PySem.W.Frag} (p : Int → Int → Bool) : OpB K CI (gI p) (rI0 fun i j => .bl (p i j)) := fun W H x y d1 d2 n1 n2 f1 f2 Q s o1 o2 c q => by
  cases d1 with
  | int i => cases d2 with
    | int j =>
      cases o1.int
      cases o2.int
      exact ⟨i, j, rfl, rfl, q⟩
    | _ => exact c.elim
  | _ => exact c.elim
abbrev gLt := gI fun i j => decide (i < j)
abbrev gLe := gI fun i j => decide (i ≤ j)
abbrev gGt := gI fun i j => decide (j < i)
abbrev gGe := gI fun i j => decide (j ≤ i)
/-! ### is None -/
def isNonD : Dt → Bool
  | .non => true
  | _ => false
def CN (_ e : Dt) : Prop := isNonD e = true
def gIs (d _ : Dt) : Bool := isNonD d
def gIsn (d _ : Dt) : Bool := !isNonD d
theorem isNon_v {K : PySem.W.Frag} {W : Wd} {H : Hp} {n fp v d} (o : Ow K W H n fp v d) : decide (v = .non) = isNonD d := by
  cases d with
  | non => cases o.non; rfl
  | int i => cases o.int; rfl
  | bl i => cases o.bl; rfl
  | str i => cases o.str; rfl
  | cel m =>
    obtain ⟨a, rfl, _⟩ := o.cel
    rfl
  | exc m dx fs => rw [o.exc.1]; rfl
  | tup ds => cases o with
    | is i _ => cases i; rfl
    | tup _ _ => rfl
  | lst ds => cases o with
    | is i _ => cases i; rfl
    | lst _ _ => rfl
  | dct ds => cases o with
    | is i _ => cases i; rfl
    | dct _ _ => rfl
theorem isN_OpB {K : PySem.W.Frag} : OpB K CN gIs (fun x y H Q => y = .non ∧ Q (.bl (decide (x = .non))) H) := fun W H x y d1 d2 n1 n2 f1 f2 Q s o1 o2 c q => by
  cases d2 with
  | non => exact ⟨o2.non, by rw [isNon_v o1]; exact q⟩
  | _ => exact absurd c (by simp [CN, isNonD])
theorem isnN_OpB {K : PySem.W.Frag} : OpB K CN gIsn (fun x y H Q => y = .non ∧ Q (.bl (!decide (x = .non))) H) := fun W H x y d1 d2 n1 n2 f1 f2 Q s o1 o2 c q => by
  cases d2 with
  | non => exact ⟨o2.non, by rw [isNon_v o1]; exact q⟩
  | _ => exact absurd c (by simp [CN, isNonD])
/-! ### in -/
def keyD : Dt → Option Key
  | .int i => some (.inl i)
  | .str x => some (.inr x)
  | _ => none
def lookD (k : Key) (kvs : List (Key × Dt)) : Option Dt := (kvs.find? fun kv => decide (kv.1 = k)).map (·.2)
def scD : Dt → Bool
  | .non => true | .bl _ => true | .int _ => true | .str _ => true | _ => false
def inD (d e : Dt) : Bool := match e with
  | .lst ds => ds.any fun z => eqD z d
  | .tup ds => ds.any fun z => eqD z d
  | .dct kvs => match keyD d with
    | some k => (lookD k kvs).isSome
    | none => false
  | _ => false
def notinD (d e : Dt) : Bool := !inD d e
def CIn (d e : Dt) : Prop := match e with
  | .lst ds => (scD d = true ∧ ds.all scD = true) ∨ (shp d = true ∧ shp (.lst ds) = true)
  | .tup ds => scD d = true ∧ ds.all scD = true
  | .dct _ => (keyD d).isSome = true
  | _ => False
theorem sc_flat {K : PySem.W.Frag} {W : Wd} {H : Hp} {n fp v d} (o : Ow K W H n fp v d) (h : scD d = true) : flatV v = true := by
  cases d <;> first | (simp [scD] at h; done) | skip
  · cases o.non; rfl
  · cases o.bl; rfl
  · cases o.int; rfl
  · cases o.str; rfl
theorem sc_eqV {K : PySem.W.Frag} {W : Wd} {H : Hp} {n m f1 f2 x y d e} (o1 : Ow K W H n f1 x d) (o2 : Ow K W H m f2 y e) (h1 : scD d = true) (h2 : scD e = true) : eqV x y = eqD d e := by
  cases d <;> first | (simp [scD] at h1; done) | skip
  all_goals cases e <;> first | (simp [scD] at h2; done) | skip
  all_goals first | cases o1.non | cases o1.int | cases o1.bl | cases o1.str
  all_goals first | cases o2.non | cases o2.int | cases o2.bl | cases o2.str
  all_goals rfl
theorem sc_all {K : PySem.W.Frag} {W : Wd} {H : Hp} {n} : ∀ {fp vs ds}, Ows K W H n fp vs ds → ds.all scD = true → vs.all flatV = true
  | _, _, _, .nil, _ => rfl
  | _, _, _, .cons o r, h => by
    have h' := Bool.and_eq_true_iff.mp (show (_ && _) = true from h)
    show (_ && _) = true
    rw [sc_flat o h'.1, sc_all r h'.2]
    rfl
theorem sc_any {K : PySem.W.Frag} {W : Wd} {H : Hp} {n m gp x d} (ox : Ow K W H m gp x d) (hx : scD d = true) : ∀ {fp vs ds}, Ows K W H n fp vs ds → ds.all scD = true → inV x vs = ds.any fun z => eqD z d
  | _, _, _, .nil, _ => rfl
  | _, _, _, .cons o r, h => by
    have h' := Bool.and_eq_true_iff.mp (show (_ && _) = true from h)
    show (eqV _ x || inV x _) = (eqD _ d || _)
    rw [sc_eqV o ox h'.1 hx, sc_any ox hx r h'.2]
/-- a list or a tuple with its parts -/
theorem Ow.lstp {K : PySem.W.Frag} {W : Wd} {H : Hp} {n fp v ds} (s : ∀ a o, W.F a = some o → H a = some o) (o : Ow K W H n fp v (.lst ds)) : ∃ a vs m gp, v = .ref a ∧ H a = some (.lst vs) ∧ Ows K W H m gp vs ds := by
  cases o with
  | is i _ =>
    obtain ⟨a, vs, e, h, r⟩ := i.lst_inv
    exact ⟨a, vs, 0, [], e, s _ _ h, r.ows0⟩
  | lst e r => exact ⟨_, _, _, _, rfl, e, r⟩
theorem Ow.tupp {K : PySem.W.Frag} {W : Wd} {H : Hp} {n fp v ds} (s : ∀ a o, W.F a = some o → H a = some o) (o : Ow K W H n fp v (.tup ds)) : ∃ a vs m gp, v = .ref a ∧ SqT K H a vs ∧ Ows K W H m gp vs ds := by
  cases o with
  | is i _ =>
    obtain ⟨a, vs, e, h, r⟩ := i.tup_inv
    exact ⟨a, vs, 0, [], e, sqT_sub s h, r.ows0⟩
  | tup e r => exact ⟨_, _, _, _, rfl, .inl (.inl e), r⟩
theorem Ow.dctp {K : PySem.W.Frag} {W : Wd} {H : Hp} {n fp v ds} (s : ∀ a o, W.F a = some o → H a = some o) (o : Ow K W H n fp v (.dct ds)) : ∃ a vs m gp, v = .ref a ∧ Rd H a (.dK vs) ∧ Owk K W H m gp vs ds := by
  cases o with
  | is i _ =>
    obtain ⟨a, vs, e, h, r⟩ := i.dct_inv
    exact ⟨a, vs, 0, [], e, rd_mono s h, r.owk0⟩
  | dct e r => exact ⟨_, _, _, _, rfl, .inl e, r⟩
theorem key_v {K : PySem.W.Frag} {W : Wd} {H : Hp} {n fp v d k} (o : Ow K W H n fp v d) (h : keyD d = some k) : v = kV k := by
  cases d <;> first | (simp [keyD] at h; done) | skip
  · cases o.int
    cases h
    rfl
  · cases o.str
    cases h
    rfl
/-- a part of a dict -/
theorem owk_look {K : PySem.W.Frag} {W : Wd} {H : Hp} {n} (k : Key) : ∀ {fp vs ds}, Owk K W H n fp vs ds → (∀ d, lookD k ds = some d → ∃ v gp, valV vs k = some v ∧ Ow K W H n gp v d ∧ ∀ a ∈ gp, a ∈ fp) ∧ (lookD k ds = none → valV vs k = none)
  | _, _, _, .nil => ⟨fun d h => (nomatch h), fun _ => rfl⟩
  | _, _, _, .cons (k := k') (v := v') (d := d') (fp := f1) o r => by
    have ih := owk_look k r
    unfold lookD valV at ih ⊢
    by_cases q : k' = k
    · rw [List.find?_cons_of_pos (by simpa using q), List.find?_cons_of_pos (by simpa using q)]
      exact ⟨fun d h => ⟨v', f1, rfl, (Option.some.inj h) ▸ o, fun a ha => List.mem_append_left _ ha⟩, fun h => nomatch h⟩
    · rw [List.find?_cons_of_neg (by simpa using q), List.find?_cons_of_neg (by simpa using q)]
      refine ⟨fun d h => ?_, ih.2⟩
      obtain ⟨v, gp, e, x, y⟩ := ih.1 d h
      exact ⟨v, gp, e, x, fun a ha => List.mem_append_right _ (y a ha)⟩
theorem owk_some {K : PySem.W.Frag} {W : Wd} {H : Hp} {n} (k : Key) {fp vs ds} (r : Owk K W H n fp vs ds) : (valV vs k).isSome = (lookD k ds).isSome := by
  have h := owk_look k r
  cases q : lookD k ds with
  | none => rw [h.2 q] <;> rfl
  | some d =>
    obtain ⟨v, gp, e, _⟩ := h.1 d q
    rw [e] <;> rfl
def rDin (neg : Bool) : R2 := fun x y H Q => ∃ a o, y = .ref a ∧ DGet H a x o ∧ Q (.bl (if neg then !o.isSome else o.isSome)) H
theorem op_din {X : Cx} (hu : X.A.units + 64 < cLine) : OpR X (compareOp .In) (rDin false) := fun pins s σ H x y v u Q I rx ry ⟨a, o, ey, g, q⟩ => by
  subst ey
  obtain rfl : u = Value.ref a := ry
  exact d_in (by omega) I g rx fun s' I' => ⟨.bl _, H, I', rfl, q⟩
theorem op_dnin {X : Cx} (hu : X.A.units + 64 < cLine) : OpR X (compareOp .NotIn) (rDin true) := fun pins s σ H x y v u Q I rx ry ⟨a, o, ey, g, q⟩ => by
  subst ey
  obtain rfl : u = Value.ref a := ry
  exact d_notIn (by omega) I g rx fun s' I' => ⟨.bl _, H, I', rfl, q⟩
def rInA (K : PySem.W.Frag) : R2 := fun x y H Q => (rIn K false x y H Q ∨ rInD K x y H Q) ∨ rDin false x y H Q
def rNinA (K : PySem.W.Frag) : R2 := fun x y H Q => (rIn K true x y H Q ∨ rNotInD K x y H Q) ∨ rDin true x y H Q
theorem op_inA {X : Cx} (hu : X.A.units + 65 < cLine) : OpR X (compareOp .In) (rInA X.K) := (op_in_seq.or (op_inD hu)).or (op_din (by omega))
theorem op_ninA {X : Cx} (hu : X.A.units + 65 < cLine) : OpR X (compareOp .NotIn) (rNinA X.K) := (op_notIn_seq.or (op_notInD hu)).or (op_dnin (by omega))
theorem toPys_any (d : Dt) : ∀ ds : List Dt, ((toPys ds).any fun z => PyData.eqv z (toPy d)) = ds.any fun z => eqD z d
  | [] => rfl
  | e :: r => by
    show (_ || _) = (_ || _)
    have ih := toPys_any d r
    rw [ih] <;> rfl
theorem in_OpB {K : PySem.W.Frag} : OpB K CIn inD (rInA K) := fun W H x y d1 d2 n1 n2 f1 f2 Q s o1 o2 c q => by
  cases d2 with
  | lst ds =>
    obtain ⟨a, vs, m, gp, rfl, ea, r⟩ := o2.lstp s
    rcases c with ⟨c1, c2⟩ | ⟨c1, c2⟩
    · exact .inl (.inl ⟨a, vs, rfl, .inl (.inl (.inl ea)), sc_flat o1 c1, sc_all r c2, by rw [sc_any o1 c1 r c2]; exact q⟩)
    · refine .inl (.inr ⟨_, toPys ds, o1.dp s (SeqAt.canLay_of_shaped c1), o2.dp s (SeqAt.canLay_of_shaped c2), c1, c2, ?_⟩)
      rw [toPys_any]
      exact q
  | tup ds =>
    obtain ⟨a, vs, m, gp, rfl, ea, r⟩ := o2.tupp s
    exact .inl (.inl ⟨a, vs, rfl, .inr ea, sc_flat o1 c.1, sc_all r c.2, by rw [sc_any o1 c.1 r c.2]; exact q⟩)
  | dct ds =>
    obtain ⟨a, vs, m, gp, rfl, ea, r⟩ := o2.dctp s
    obtain ⟨k, hk⟩ := Option.isSome_iff_exists.mp (show (keyD d1).isSome = true from c)
    refine .inr ⟨a, valV vs k, rfl, .inl ⟨vs, k, ea, key_v o1 hk, rfl⟩, ?_⟩
    have e : inD d1 (.dct ds) = (lookD k ds).isSome := by unfold inD; simp only [hk]
    rw [e] at q
    show Q (.bl (valV vs k).isSome) H
    rw [owk_some k r]
    exact q
  | _ => exact c.elim
theorem nin_OpB {K : PySem.W.Frag} : OpB K CIn notinD (rNinA K) := fun W H x y d1 d2 n1 n2 f1 f2 Q s o1 o2 c q => by
  cases d2 with
  | lst ds =>
    obtain ⟨a, vs, m, gp, rfl, ea, r⟩ := o2.lstp s
    rcases c with ⟨c1, c2⟩ | ⟨c1, c2⟩
    · exact .inl (.inl ⟨a, vs, rfl, .inl (.inl (.inl ea)), sc_flat o1 c1, sc_all r c2, by rw [sc_any o1 c1 r c2]; exact q⟩)
    · refine .inl (.inr ⟨_, toPys ds, o1.dp s (SeqAt.canLay_of_shaped c1), o2.dp s (SeqAt.canLay_of_shaped c2), c1, c2, ?_⟩)
      rw [toPys_any]
      exact q
  | tup ds =>
    obtain ⟨a, vs, m, gp, rfl, ea, r⟩ := o2.tupp s
    exact .inl (.inl ⟨a, vs, rfl, .inr ea, sc_flat o1 c.1, sc_all r c.2, by rw [sc_any o1 c.1 r c.2]; exact q⟩)
  | dct ds =>
    obtain ⟨a, vs, m, gp, rfl, ea, r⟩ := o2.dctp s
    obtain ⟨k, hk⟩ := Option.isSome_iff_exists.mp (show (keyD d1).isSome = true from c)
    refine .inr ⟨a, valV vs k, rfl, .inl ⟨vs, k, ea, key_v o1 hk, rfl⟩, ?_⟩
    have e : inD d1 (.dct ds) = (lookD k ds).isSome := by unfold inD; simp only [hk]
    unfold notinD at q
    rw [e] at q
    show Q (.bl (!(valV vs k).isSome)) H
    rw [owk_some k r]
    exact q
  | _ => exact c.elim

/-! ### and, or, not, if -/
section
variable {X : Cx} {Wx : WX} {e a b c : Expr} {rest : List Expr} {Ta Tb Tc : TED} {A B : TTD} {pos : Pos}
abbrev DW (X : Cx) (Wx : WX) (e : Expr) (T : TTD) : Prop := PW X e (liftT X.K Wx T)
def dAnd (A B : TTD) : TTD := fun ev P Xc => A ev (fun b ev1 => if b = true then B ev1 P Xc else P false ev1) Xc
def dOr (A B : TTD) : TTD := fun ev P Xc => A ev (fun b ev1 => if b = true then P true ev1 else B ev1 P Xc) Xc
def dNot (A : TTD) : TTD := fun ev P Xc => A ev (fun b ev1 => P (!b) ev1) Xc
theorem dw_and1 (ha : DT X Wx a A) : DW X Wx (.BoolOp .And [a] pos) A := pw_and1 ha
theorem dw_or1 (ha : DT X Wx a A) : DW X Wx (.BoolOp .Or [a] pos) A := pw_or1 ha
theorem _root_.L2.PW.imp {t t' : TT} (h : PW X e t) (k : ∀ σ H Q, t' σ H Q → t σ H Q) : PW X e t' := ⟨fun wh pins s σ H Q I q => h.run wh pins s σ H Q I (k σ H Q q)⟩
theorem dw_and (ha : DT X Wx a A) (hb : DW X Wx (.BoolOp .And (b :: rest) pos) B) : DW X Wx (.BoolOp .And (a :: b :: rest) pos) (dAnd A B) := by
  refine (pw_and ha hb).imp fun σ H Q q => ?_
  obtain ⟨W, ev, L, P, Xc, R, t, c, cx⟩ := q
  refine ⟨W, ev, L, _, Xc, R, t, fun b ev1 W1 H1 L1 u R1 E => ?_, cx⟩
  cases b with
  | true => exact iteT ⟨W1, ev1, L1, P, Xc, R1, u, c.step E, cx.step E⟩
  | false => exact iteF (c false ev1 W1 H1 L1 u R1 E)
theorem dw_or (ha : DT X Wx a A) (hb : DW X Wx (.BoolOp .Or (b :: rest) pos) B) : DW X Wx (.BoolOp .Or (a :: b :: rest) pos) (dOr A B) := by
  refine (pw_or ha hb).imp fun σ H Q q => ?_
  obtain ⟨W, ev, L, P, Xc, R, t, c, cx⟩ := q
  refine ⟨W, ev, L, _, Xc, R, t, fun b ev1 W1 H1 L1 u R1 E => ?_, cx⟩
  cases b with
  | false => exact iteF ⟨W1, ev1, L1, P, Xc, R1, u, c.step E, cx.step E⟩
  | true => exact iteT (c true ev1 W1 H1 L1 u R1 E)
theorem dw_pt (h : DW X Wx e A) : DT X Wx e A := h.pt
theorem dt_not (ha : DT X Wx a A) : DT X Wx (.UnaryOp .Not a pos) (dNot A) := by
  refine (pt_not ha).imp fun σ H Q q => ?_
  obtain ⟨W, ev, L, P, Xc, R, t, c, cx⟩ := q
  exact ⟨W, ev, L, _, Xc, R, t, fun b ev1 W1 H1 L1 u R1 E => c (!b) ev1 W1 H1 L1 u R1 E, cx⟩
/-- as values -/
def dAndV (Ta Tb : TED) : TED := fun ev P Xc => Ta ev (fun d _ ev1 => asB d fun b => if b = true then Tb ev1 P Xc else P (.bl false) topL ev1) Xc
def dOrV (Ta Tb : TED) : TED := fun ev P Xc => Ta ev (fun d _ ev1 => asB d fun b => if b = true then P (.bl true) topL ev1 else Tb ev1 P Xc) Xc
def dNotV (Ta : TED) : TED := fun ev P Xc => Ta ev (fun d _ ev1 => asB d fun b => P (.bl (!b)) topL ev1) Xc
theorem de_one {op} (h : DE X Wx a Ta) : DE X Wx (.BoolOp op [a] pos) Ta := pe_one h
theorem de_and (ha : DE X Wx a Ta) (hb : DE X Wx (.BoolOp .And (b :: rest) pos) Tb) : DE X Wx (.BoolOp .And (a :: b :: rest) pos) (dAndV Ta Tb) := by
  refine (pe_and ha hb).imp fun σ H Q q => ?_
  obtain ⟨W, ev, L, P, Xc, R, t, c, cx⟩ := q
  refine ⟨W, ev, L, _, Xc, R, t, fun d n ev1 v W1 H1 L1 u R1 E => ?_, cx⟩
  obtain ⟨b, rfl, u⟩ := asB_inv u
  obtain ⟨L2, hs, R2⟩ := R1.drop
  refine ⟨b, R1.bl, ?_⟩
  cases b with
  | true => exact iteT ⟨W1, ev1, L2, P, Xc, R2, u, (c.step E).sub hs, (cx.step E).sub hs⟩
  | false => exact iteF ((c.step E).is R2 hs .bl (.inr rfl) u)
theorem de_or (ha : DE X Wx a Ta) (hb : DE X Wx (.BoolOp .Or (b :: rest) pos) Tb) : DE X Wx (.BoolOp .Or (a :: b :: rest) pos) (dOrV Ta Tb) := by
  refine (pe_or ha hb).imp fun σ H Q q => ?_
  obtain ⟨W, ev, L, P, Xc, R, t, c, cx⟩ := q
  refine ⟨W, ev, L, _, Xc, R, t, fun d n ev1 v W1 H1 L1 u R1 E => ?_, cx⟩
  obtain ⟨b, rfl, u⟩ := asB_inv u
  obtain ⟨L2, hs, R2⟩ := R1.drop
  refine ⟨b, R1.bl, ?_⟩
  cases b with
  | false => exact iteF ⟨W1, ev1, L2, P, Xc, R2, u, (c.step E).sub hs, (cx.step E).sub hs⟩
  | true => exact iteT ((c.step E).is R2 hs .bl (.inr rfl) u)
theorem de_not (ha : DE X Wx a Ta) : DE X Wx (.UnaryOp .Not a pos) (dNotV Ta) := by
  refine (pe_not ha).imp fun σ H Q q => ?_
  obtain ⟨W, ev, L, P, Xc, R, t, c, cx⟩ := q
  refine ⟨W, ev, L, _, Xc, R, t, fun d n ev1 v W1 H1 L1 u R1 E => ?_, cx⟩
  obtain ⟨b, rfl, u⟩ := asB_inv u
  obtain ⟨L2, hs, R2⟩ := R1.drop
  exact ⟨b, R1.bl, (c.step E).is R2 hs .bl (.inr rfl) u⟩
def dIf (A : TTD) (Ta Tb : TED) : TED := fun ev P Xc => A ev (fun b ev1 => if b = true then Ta ev1 P Xc else Tb ev1 P Xc) Xc
theorem de_if (hc : DT X Wx c A) (ha : DE X Wx a Ta) (hb : DE X Wx b Tb) : DE X Wx (.IfExp c a b pos) (dIf A Ta Tb) := by
  refine (pe_ifExp hc ha hb).imp fun σ H Q q => ?_
  obtain ⟨W, ev, L, P, Xc, R, t, c, cx⟩ := q
  refine ⟨W, ev, L, _, Xc, R, t, fun b ev1 W1 H1 L1 u R1 E => ?_, cx⟩
  cases b with
  | true => exact iteT ⟨W1, ev1, L1, P, Xc, R1, u, c.step E, cx.step E⟩
  | false => exact iteF ⟨W1, ev1, L1, P, Xc, R1, u, c.step E, cx.step E⟩

/-! ### a value's truth -/
def truD : Dt → Bool
  | .non => false
  | .bl b => b
  | .int i => i != 0
  | .str x => (x.length : Int) != 0
  | .tup ds => !ds.isEmpty
  | .lst ds => !ds.isEmpty
  | .dct ds => !ds.isEmpty
  | .cel _ => true
  | .exc _ _ _ => true
def CTru : Dt → Prop
  | .str x => x.length ≤ sizeLine
  | .cel _ => False
  | .exc _ _ _ => False
  | .dct _ => False
  | _ => True
theorem ows_emp {K : PySem.W.Frag} {W : Wd} {H : Hp} {n fp vs ds} (r : Ows K W H n fp vs ds) : vs.isEmpty = ds.isEmpty := by cases r <;> rfl
theorem owk_emp {K : PySem.W.Frag} {W : Wd} {H : Hp} {n fp vs ds} (r : Owk K W H n fp vs ds) : vs.isEmpty = ds.isEmpty := by cases r <;> rfl
theorem tru_v {K : PySem.W.Frag} {W : Wd} {H : Hp} {n fp v d} (s : ∀ a o, W.F a = some o → H a = some o) (o : Ow K W H n fp v d) (c : CTru d) : TruV K v H (truD d) := by
  cases d with
  | non => cases o.non; rfl
  | int i => cases o.int; rfl
  | bl i => cases o.bl; rfl
  | str i => cases o.str; exact ⟨c, rfl⟩
  | cel m => exact (show False from c).elim
  | exc m _ _ => exact (show False from c).elim
  | tup ds =>
    obtain ⟨a, vs, m, gp, rfl, ea, r⟩ := o.tupp s
    exact .inr (.inl ⟨vs, ea, by unfold truD; rw [ows_emp r]⟩)
  | lst ds =>
    obtain ⟨a, vs, m, gp, rfl, ea, r⟩ := o.lstp s
    exact .inl ⟨vs, .inl (.inl ea), by unfold truD; rw [ows_emp r]⟩
  | dct ds => exact (show False from c).elim
def dTru (Ta : TED) : TTD := fun ev P Xc => Ta ev (fun d _ ev1 => CTru d ∧ P (truD d) ev1) Xc
def dTruV (i : Nat) : TTD := fun ev P _ => ∃ d n, ev.r[i]? = some (some (d, n)) ∧ CTru d ∧ P (truD d) ev
theorem dt_tru (ha : DE X Wx a Ta) (he : ∀ whole, isTrue a X.env whole = (do let v ← whole; standAt a.pos; holding [v] (truthy v)) := by intro _; rfl) : DT X Wx a (dTru Ta) := by
  refine (pt_truth ha he).imp fun σ H Q q => ?_
  obtain ⟨W, ev, L, P, Xc, R, t, c, cx⟩ := q
  refine ⟨W, ev, L, _, Xc, R, t, fun d n ev1 v W1 H1 L1 u R1 E => ?_, cx⟩
  obtain ⟨_, _, f1, _, _, o, _, _⟩ := R1.pop
  obtain ⟨L2, hs, R2⟩ := R1.drop
  exact ⟨_, tru_v R1.sub o u.1, c _ ev1 W1 H1 L2 u.2 R2 (E.less hs)⟩
theorem dt_truV {i : Nat} (ha : PE X a (tVar i)) (he : ∀ whole, isTrue a X.env whole = (do let v ← whole; standAt a.pos; holding [v] (truthy v)) := by intro _; rfl) : DT X Wx a (dTruV i) := by
  refine (pt_truth ha he).imp fun σ H Q q => ?_
  obtain ⟨W, ev, L, P, Xc, R, ⟨d, n, e, u⟩, c, cx⟩ := q
  obtain ⟨v, fp, ev', o⟩ := R.at e
  exact ⟨v, ev', _, tru_v R.sub o u.1, c _ ev W H L u.2 R .refl⟩
end
end HD

set_option Elab.async false
set_option linter.all false
set_option maxRecDepth 100000
namespace HD
open PySem PySem.Spec PyProof.Rows L2

/-! ### parts of owned things -/
section
variable {K : PySem.W.Frag} {W W' W1 W2 : Wd} {H H' H1 H2 : Hp} {L L' L1 L2 M : List Addr}
theorem Ow.zero {fp v d} (o : Ow K W H 0 fp v d) : Is K W v d ∧ fp = [] := by
  cases o with
  | is i _ => exact ⟨i, rfl⟩
theorem Ow.ofFlat {n fp v d} (o : Ow K W H n fp v d) (h : d.flat = true) : Is K W v d ∧ fp = [] := by
  cases o with
  | is i _ => exact ⟨i, rfl⟩
  | tup _ _ => cases h
  | lst _ _ => cases h
  | dct _ _ => cases h
theorem Ows.get : ∀ {n fp vs ds} {j : Nat} {c : Dt}, Ows K W H n fp vs ds → ds[j]? = some c → ∃ u gp, vs[j]? = some u ∧ Ow K W H n gp u c ∧ ∀ a ∈ gp, a ∈ fp
  | _, _, _, _, j, _, .nil, e => by simp at e
  | _, _, _, _, 0, c, .cons (fp := f1) (v := v) o r, e => by
    have e' := Option.some.inj e
    subst e'
    exact ⟨v, f1, rfl, o, fun a ha => List.mem_append_left _ ha⟩
  | _, _, _, _, j + 1, c, .cons o r, e => by
    obtain ⟨u, gp, a, b, s⟩ := Ows.get (j := j) r e
    exact ⟨u, gp, a, b, fun x hx => List.mem_append_right _ (s x hx)⟩
theorem Iss.get {vs ds} {j : Nat} {c : Dt} (r : Iss K W vs ds) (e : ds[j]? = some c) : ∃ u, vs[j]? = some u ∧ Is K W u c := by
  obtain ⟨u, gp, a, b, _⟩ := (r.ows0 (H := fun _ => none)).get e
  exact ⟨u, a, b.zero.1⟩
theorem atI_of {α β : Type} {xs : List α} {ys : List β} {i : Int} {c : β} (hl : xs.length = ys.length) (h : atI ys i = some c) : ∃ j : Nat, ys[j]? = some c ∧ ∀ u, xs[j]? = some u → atI xs i = some u := by
  unfold atI at h ⊢
  cases q : ixN ys.length i with
  | none => rw [q] at h; cases h
  | some j =>
    rw [q] at h
    exact ⟨j, h, fun u hu => by rw [hl, q]; exact hu⟩
/-- all parts may be shared -/
def Shal (n : Nat) (ds : List Dt) : Prop := n ≤ 1 ∨ ds.all Dt.flat = true
theorem Ows.iss : ∀ {n fp vs ds}, (n = 0 ∨ ds.all Dt.flat = true) → Ows K W H n fp vs ds → Iss K W vs ds
  | _, _, _, _, _, .nil => .nil
  | _, _, _, _, .inl z, .cons o r => .cons ((show Ow K W H 0 _ _ _ from z ▸ o).zero.1) (Ows.iss (.inl z) r)
  | _, _, _, _, .inr z, .cons o r =>
    have z' := Bool.and_eq_true_iff.mp (show (_ && _) = true from z)
    .cons (o.ofFlat z'.1).1 (Ows.iss (.inr z'.2) r)
theorem Ow.lsts {n fp v ds} (s : ∀ a o, W.F a = some o → H a = some o) (o : Ow K W H n fp v (.lst ds)) (h : Shal n ds) : ∃ a vs, v = .ref a ∧ H a = some (.lst vs) ∧ Iss K W vs ds := by
  cases o with
  | is i _ =>
    obtain ⟨a, vs, e, x, r⟩ := i.lst_inv
    exact ⟨a, vs, e, s _ _ x, r⟩
  | lst e r => exact ⟨_, _, rfl, e, r.iss (h.imp (fun z => Nat.le_zero.mp (Nat.le_of_succ_le_succ z)) id)⟩
theorem Ow.tups {n fp v ds} (s : ∀ a o, W.F a = some o → H a = some o) (o : Ow K W H n fp v (.tup ds)) (h : Shal n ds) : ∃ a vs, v = .ref a ∧ SqT K H a vs ∧ Iss K W vs ds := by
  cases o with
  | is i _ =>
    obtain ⟨a, vs, e, x, r⟩ := i.tup_inv
    exact ⟨a, vs, e, sqT_sub s x, r⟩
  | tup e r => exact ⟨_, _, rfl, .inl (.inl e), r.iss (h.imp (fun z => Nat.le_zero.mp (Nat.le_of_succ_le_succ z)) id)⟩
/-- a part that may be shared -/
theorem Ow.chL {n fp v ds} {i : Int} {c : Dt} (s : ∀ a o, W.F a = some o → H a = some o) (o : Ow K W H n fp v (.lst ds)) (e : atI ds i = some c) (h : n ≤ 1 ∨ c.flat = true) : ∃ a vs u, v = .ref a ∧ H a = some (.lst vs) ∧ atI vs i = some u ∧ Is K W u c := by
  cases o with
  | is x _ =>
    obtain ⟨a, vs, e1, e2, r⟩ := x.lst_inv
    obtain ⟨j, ej, k⟩ := atI_of r.length e
    obtain ⟨u, eu, iu⟩ := r.get ej
    exact ⟨a, vs, u, e1, s _ _ e2, k u eu, iu⟩
  | lst e2 r =>
    obtain ⟨j, ej, k⟩ := atI_of r.length e
    obtain ⟨u, gp, eu, ou, _⟩ := r.get ej
    refine ⟨_, _, u, rfl, e2, k u eu, ?_⟩
    rcases h with z | z
    · have z' : _ = 0 := Nat.le_zero.mp (Nat.le_of_succ_le_succ z)
      subst z'
      exact ou.zero.1
    · exact (ou.ofFlat z).1
theorem Ow.chT {n fp v ds} {i : Int} {c : Dt} (s : ∀ a o, W.F a = some o → H a = some o) (o : Ow K W H n fp v (.tup ds)) (e : atI ds i = some c) (h : n ≤ 1 ∨ c.flat = true) : ∃ a vs u, v = .ref a ∧ SqT K H a vs ∧ atI vs i = some u ∧ Is K W u c := by
  cases o with
  | is x _ =>
    obtain ⟨a, vs, e1, e2, r⟩ := x.tup_inv
    obtain ⟨j, ej, k⟩ := atI_of r.length e
    obtain ⟨u, eu, iu⟩ := r.get ej
    exact ⟨a, vs, u, e1, sqT_sub s e2, k u eu, iu⟩
  | tup e2 r =>
    obtain ⟨j, ej, k⟩ := atI_of r.length e
    obtain ⟨u, gp, eu, ou, _⟩ := r.get ej
    refine ⟨_, _, u, rfl, .inl (.inl e2), k u eu, ?_⟩
    rcases h with z | z
    · have z' : _ = 0 := Nat.le_zero.mp (Nat.le_of_succ_le_succ z)
      subst z'
      exact ou.zero.1
    · exact (ou.ofFlat z).1
theorem Ow.chD {n fp v ds} {k : Key} {c : Dt} (s : ∀ a o, W.F a = some o → H a = some o) (o : Ow K W H n fp v (.dct ds)) (e : lookD k ds = some c) (h : n ≤ 1 ∨ c.flat = true) : ∃ a vs u, v = .ref a ∧ Rd H a (.dK vs) ∧ valV vs k = some u ∧ Is K W u c := by
  cases o with
  | is x _ =>
    obtain ⟨a, vs, e1, e2, r⟩ := x.dct_inv
    obtain ⟨u, gp, eu, ou, _⟩ := (owk_look k (r.owk0 (H := H))).1 c e
    exact ⟨a, vs, u, e1, rd_mono s e2, eu, ou.zero.1⟩
  | dct e2 r =>
    obtain ⟨u, gp, eu, ou, _⟩ := (owk_look k r).1 c e
    refine ⟨_, _, u, rfl, .inl e2, eu, ?_⟩
    rcases h with z | z
    · have z' : _ = 0 := Nat.le_zero.mp (Nat.le_of_succ_le_succ z)
      subst z'
      exact ou.zero.1
    · exact (ou.ofFlat z).1
end

/-! ### subscripts -/
def rIxD : R2 := fun x y H Q => ∃ a v, x = .ref a ∧ DGet H a y (some v) ∧ Q v H
section
variable {X : Cx}
theorem ix_dict (hu : X.A.units + 64 < cLine) : IxR X rIxD := by
  intro value slice pins s σ H x y v u Q I rx ry h hs
  obtain ⟨a, z, rfl, g, q⟩ := h
  obtain rfl : v = Value.ref a := rx
  have hT := dict_typeIs I g
  unfold subscriptTail
  refine wpAny_bind ?_
  rw [getitemInPython_of_ne hT.not_modules]
  refine wpAny_bind (wpAny_specialOf hT PySem.F.slot_dict_getitem.lookup ?_)
  have fin : wpAny (model X.prog X.w) X.A (subscripted slice false (.ref a) u) (fun r s₃ => wpAny (model X.prog X.w) X.A (letTemporaryGo value (.ref a) r >>= fun _ => pure r) (EP X pins σ Q) X.xe s₃) X.xe s := by
    rw [hs]
    exact wpAny_operating (d_getItem (by omega) I g ry fun w' s3 I3 rw' => wpAny_bind (wpAny_letTemporaryGo (wpAny_pure ⟨z, H, I3, rw', q⟩)))
  first
    | exact wpAny_pure (wpAny_bind fin)
    | exact wpAny_bind (wpAny_pure (wpAny_bind fin))
    | exact wpAny_bind fin
def rIxA (K : PySem.W.Frag) : R2 := fun x y H Q => rIx K x y H Q ∨ rIxD x y H Q
theorem ix_any (hu : X.A.units + 64 < cLine) : IxR X (rIxA X.K) := ix_seq.or (ix_dict hu)
end
/-- the part of d at k -/
def ixD (G : Gs) (d k : Dt) (P : Dt → Prop) : Prop := match d, k with
  | .lst ds, .int i => ∃ c, atI ds i = some c ∧ P c
  | .tup ds, .int i => ∃ c, atI ds i = some c ∧ P c
  | .cel m, .int i => ∃ ds c, G[m]? = some ds ∧ atI ds i = some c ∧ P c
  | .str z, .int i => ∃ c, z.length ≤ sizeLine ∧ atI z.cps.toList i = some c ∧ P (.str ⟨#[c]⟩)
  | .dct kvs, .int i => ∃ c, lookD (.inl i) kvs = some c ∧ P c
  | .dct kvs, .str x => ∃ c, lookD (.inr x) kvs = some c ∧ P c
  | _, _ => False
/-- what the rule asks, from the data -/
theorem ix_v {K : PySem.W.Frag} {W : Wd} {H : Hp} {n m f1 f2 x y d k} {ρ : List Sv} {G : Gs} {σ : St} {L : List Addr} {P : Dt → Prop} {Q : VK} (R : Rel K W ρ G σ H L) (o1 : Ow K W H n f1 x d) (o2 : Ow K W H m f2 y k)
    (h : ixD G d k fun c => (n ≤ 1 ∨ c.flat = true) ∧ P c) (q : ∀ c u, Is K W u c → P c → Q u H) : rIxA K x y H Q := by
  have s := R.sub
  cases d with
  | lst ds => cases k with
    | int i =>
      obtain ⟨c, e, z, p⟩ := h
      obtain ⟨a, vs, u, rfl, ea, eu, iu⟩ := o1.chL s e z
      cases o2.int
      exact .inl (.inl ⟨a, vs, i, u, rfl, rfl, .inl (.inl ea), eu, q c u iu p⟩)
    | _ => exact h.elim
  | tup ds => cases k with
    | int i =>
      obtain ⟨c, e, z, p⟩ := h
      obtain ⟨a, vs, u, rfl, ea, eu, iu⟩ := o1.chT s e z
      cases o2.int
      exact .inl (.inr (.inl ⟨a, vs, i, u, rfl, rfl, ea, eu, q c u iu p⟩))
    | _ => exact h.elim
  | cel j => cases k with
    | int i =>
      obtain ⟨ds, c, eg, e, z, p⟩ := h
      obtain ⟨a, rfl, ec⟩ := o1.cel
      obtain ⟨vs, ea, r⟩ := R.cel j a ds ec eg
      obtain ⟨t, et, k⟩ := atI_of r.length e
      obtain ⟨u, eu, iu⟩ := r.get et
      cases o2.int
      exact .inl (.inl ⟨a, vs, i, u, rfl, rfl, .inl (.inl ea), k u eu, q c u iu p⟩)
    | _ => exact h.elim
  | str z => cases k with
    | int i =>
      obtain ⟨c, l, e, _, p⟩ := h
      cases o1.str
      cases o2.int
      exact .inl (.inr (.inr ⟨z, i, c, rfl, rfl, l, e, q _ _ .str p⟩))
    | _ => exact h.elim
  | dct kvs => cases k with
    | int i =>
      obtain ⟨c, e, z, p⟩ := h
      obtain ⟨a, vs, u, rfl, ea, eu, iu⟩ := o1.chD s e z
      cases o2.int
      exact .inr ⟨a, u, rfl, .inl ⟨vs, .inl i, ea, rfl, eu.symm⟩, q c u iu p⟩
    | str i =>
      obtain ⟨c, e, z, p⟩ := h
      obtain ⟨a, vs, u, rfl, ea, eu, iu⟩ := o1.chD s e z
      cases o2.str
      exact .inr ⟨a, u, rfl, .inl ⟨vs, .inr i, ea, rfl, eu.symm⟩, q c u iu p⟩
    | _ => exact h.elim
  | _ => exact h.elim
theorem ixD_mono {G : Gs} {d k : Dt} {P P' : Dt → Prop} (h : ixD G d k P) (m : ∀ c, P c → P' c) : ixD G d k P' := by
  cases d <;> cases k <;> first | exact h.elim | skip
  · obtain ⟨c, l, e, p⟩ := h; exact ⟨c, l, e, m _ p⟩
  · obtain ⟨c, e, p⟩ := h; exact ⟨c, e, m _ p⟩
  · obtain ⟨c, e, p⟩ := h; exact ⟨c, e, m _ p⟩
  · obtain ⟨c, e, p⟩ := h; exact ⟨c, e, m _ p⟩
  · obtain ⟨c, e, p⟩ := h; exact ⟨c, e, m _ p⟩
  · obtain ⟨ds, c, g, e, p⟩ := h; exact ⟨ds, c, g, e, m _ p⟩
section
variable {X : Cx} {Wx : WX} {e a b c : Expr} {Ta Tb Tc : TED} {pos : Pos} {i : Nat}
/-- a[b], a a value made just now (it is frozen) -/
def dIx (Ta Tb : TED) : TED := dBin (fun d1 _ d2 _ ev P _ => ixD ev.G d1 d2 fun c => P c c.lv ev) Ta Tb
theorem de_ix (hu : X.A.units + 64 < cLine) (ha : DE X Wx a Ta) (hb : DE X Wx b Tb) (hs : PlainIx b := by exact fun _ _ => rfl) : DE X Wx (.Subscript a b pos) (dIx Ta Tb) := by
  refine (pe_ix (ix_any hu) ha hb hs).imp fun σ H Q h => lift2 h fun d1 n1 d2 n2 ev x y W H L P Xc u R c cx => ?_
  obtain ⟨W1, L1, i1, R1, E1⟩ := R.fz
  obtain ⟨_, _, f2, _, _, o2, _, _⟩ := R1.pop
  obtain ⟨L2, hs, R2⟩ := R1.drop
  exact ix_v (n := 0) R2 (.is i1 (.inl rfl)) o2 (ixD_mono u fun c p => ⟨.inl (Nat.zero_le _), p⟩) fun d u iu p => (c.step E1).is R2 hs iu (lv_ok d) p
/-- x[b], x a name that keeps what it has -/
def dIxV (i : Nat) (Tb : TED) : TED := fun ev P Xc => Has ev i ∧ Tb ev (fun d2 _ ev1 => ∃ d n, ev1.r[i]? = some (some (d, n)) ∧ ixD ev1.G d d2 fun c => (n ≤ 1 ∨ c.flat = true) ∧ P c c.lv ev1) Xc
theorem de_ixV (hu : X.A.units + 64 < cLine) (ha : PE X a (tVar i)) (hb : DE X Wx b Tb) (hs : PlainIx b := by exact fun _ _ => rfl) : DE X Wx (.Subscript a b pos) (dIxV i Tb) := by
  refine (pe_ix (ix_any hu) ha hb hs).imp fun σ H Q h => ?_
  obtain ⟨W, ev, L, P, Xc, R, ⟨⟨⟨d0, n0⟩, e0⟩, t⟩, c, cx⟩ := h
  obtain ⟨v, _, ev0, _⟩ := R.at e0
  refine ⟨v, ev0, W, ev, L, _, Xc, R, t, fun d2 n2 ev1 y W1 H1 L1 u R1 E => ?_, cx⟩
  obtain ⟨d, n, e1, u⟩ := u
  obtain ⟨_, _, f2, _, _, o2, _, _⟩ := R1.pop
  obtain ⟨L2, s2, R2⟩ := R1.drop
  obtain ⟨v', f1, ev', o1⟩ := R2.at e1
  rw [ev0] at ev'
  cases ev'
  exact ix_v R2 o1 o2 u fun d u iu p => (c.step E).is R2 s2 iu (lv_ok d) p
/-- .. x owns lists of its own: they are frozen, x keeps its own level -/
def dIxD (i : Nat) (Tb : TED) : TED := fun ev P Xc => Has ev i ∧ Tb ev (fun d2 _ ev1 => ∃ d n, ev1.r[i]? = some (some (d, n)) ∧ 1 ≤ n ∧ ixD ev1.G d d2 fun c => P c c.lv ⟨ev1.r.set i (some (d, 1)), ev1.G⟩) Xc
theorem de_ixD (hu : X.A.units + 64 < cLine) (ha : PE X a (tVar i)) (hb : DE X Wx b Tb) (hs : PlainIx b := by exact fun _ _ => rfl) : DE X Wx (.Subscript a b pos) (dIxD i Tb) := by
  refine (pe_ix (ix_any hu) ha hb hs).imp fun σ H Q h => ?_
  obtain ⟨W, ev, L, P, Xc, R, ⟨⟨⟨d0, n0⟩, e0⟩, t⟩, c, cx⟩ := h
  obtain ⟨v, _, ev0, _⟩ := R.at e0
  refine ⟨v, ev0, W, ev, L, _, Xc, R, t, fun d2 n2 ev1 y W1 H1 L1 u R1 E => ?_, cx⟩
  obtain ⟨d, n, e1, h1, u⟩ := u
  obtain ⟨W2, L2, i2, R2, E2⟩ := R1.fz
  obtain ⟨v', ev', R3⟩ := R2.out e1
  rw [ev0] at ev'
  cases ev'
  obtain ⟨W4, L4, R4, E4⟩ := R3.downTop h1
  obtain ⟨L5, s5, R5⟩ := R4.into (i := i) (by rw [List.length_set]; exact get_lt e1)
  rw [List.set_set, set_same ev0] at R5
  have E5 := (E2.trans E4).less s5
  obtain ⟨v2, f1, ev2, o1⟩ := R5.at (i := i) (d := d) (n := 1) (by rw [List.getElem?_set_self (get_lt e1)])
  rw [ev0] at ev2
  cases ev2
  exact ix_v (ρ := ev1.r.set i (some (d, 1))) R5 o1 (.is (i2.mono E4.le) (.inl rfl) : Ow X.K W4 H1 0 [] y d2) (ixD_mono u fun c p => ⟨.inl (Nat.le_refl _), p⟩) fun d' u' iu p => ((c.step E).step E5).is R5 (fun _ h => h) iu (lv_ok d') p
end
end HD

set_option Elab.async false
set_option linter.all false
set_option maxRecDepth 100000
namespace HD
open PySem PySem.Spec PyProof.Rows L2
/-! ### argument lists -/
section
variable {X : Cx} {Wx : WX} {e a b c : Expr} {es : List Expr} {Ta Tb Tc : TED} {T Tr : TAD} {pos : Pos}
def dNil : TAD := fun ev P _ => P [] ev
def dCons (Ta : TED) (Tr : TAD) : TAD := fun ev P Xc => Ta ev (fun d n ev1 => Tr ev1 (fun ds ev2 => P ((d, n) :: ds) ev2) Xc) Xc
theorem da_nil : DA X Wx [] dNil := pa_nil.imp fun σ H Q ⟨W, ev, L, P, Xc, R, t, c, cx⟩ => c [] ev [] W H L t rfl R .refl
theorem da_cons (ha : DE X Wx a Ta) (hr : DA X Wx es Tr) (hs : starEach (a :: es) X.env = (false, eval a X.env) :: starEach es X.env := by rfl) : DA X Wx (a :: es) (dCons Ta Tr) := by
  refine (pa_cons ha hr hs).imp fun σ H Q h => ?_
  obtain ⟨W, ev, L, P, Xc, R, t, c, cx⟩ := h
  refine ⟨W, ev, L, _, Xc, R, t, fun d n ev1 v W1 H1 L1 u r1 E => ?_, cx⟩
  obtain ⟨A, B, fp, p, q, o, RA, RB⟩ := r1.pop
  have c1 := c.step E
  have cx1 := cx.step E
  refine ⟨W1, ev1, B, _, Xc, RB, u, fun ds ev2 vs W2 H2 L2 u2 hl r2 E2 => ?_, cx1.sub fun a ha => p.mem_iff.mpr (List.mem_append_right _ ha)⟩
  obtain ⟨R3, E3⟩ := Rel.push (X := [some (d, n)]) (τ := [some v]) (L1 := A) rfl (r1.perm p) RA r2 E2
  exact c1 ((d, n) :: ds) ev2 (v :: vs) W2 H2 _ u2 (congrArg (· + 1) hl) R3 (E3.permL p.symm)

/-! ### displays -/
def minL : List (Dt × Nat) → Nat
  | [] => topL
  | x :: r => min x.2 (minL r)
def dsOf (l : List (Dt × Nat)) : List Dt := l.map (·.1)
section
variable {K : PySem.W.Frag} {W W' W1 W2 : Wd} {H H' H1 H2 : Hp} {L L' L1 L2 M : List Addr} {ρ ρ' Y Y' : List Sv} {σ σ' τ τ' : St} {G G' : Gs}
/-- several values to one level -/
theorem Rel.downAll (m : Nat) : ∀ {ds : List (Dt × Nat)} {vs : List V} {W : Wd} {L : List Addr}, (∀ x ∈ ds, m ≤ x.2) → vs.length = ds.length → Rel K W (ds.map some ++ ρ) G (vs.map some ++ σ) H L →
    ∃ W' L', Rel K W' (ds.map (fun x => some (x.1, m)) ++ ρ) G (vs.map some ++ σ) H L' ∧ Ext W W' H H L L'
  | [], [], W, L, _, _, R => ⟨W, L, R, .refl⟩
  | (d, n) :: ds, v :: vs, W, L, hm, hl, R => by
    obtain ⟨W1, L1, R1, E1⟩ := Rel.downTop (hm (d, n) List.mem_cons_self) R
    obtain ⟨A, B, p, RA, RB⟩ := Rel.split (X := [some (d, m)]) (τ := [some v]) rfl R1
    obtain ⟨W2, L2, R2, E2⟩ := Rel.downAll m (fun x hx => hm x (List.mem_cons_of_mem _ hx)) (Nat.succ.inj hl) RB
    obtain ⟨R3, E3⟩ := Rel.push (X := [some (d, m)]) (τ := [some v]) (L1 := A) rfl (R1.perm p) RA R2 E2
    exact ⟨W2, _, R3, E1.trans (E3.permL p.symm)⟩
theorem Sl.ows {m : Nat} : ∀ {ds : List (Dt × Nat)} {vs : List V} {L}, vs.length = ds.length → Sl K W H (ds.map fun x => some (x.1, m)) (vs.map some) L → Ows K W H m L vs (dsOf ds)
  | [], [], _, _, s => by cases s; exact .nil
  | (d, n) :: ds, v :: vs, _, hl, s => by
    cases s with
    | yes o r => exact .cons o (Sl.ows (Nat.succ.inj hl) r)
theorem minL_le : ∀ {ds : List (Dt × Nat)}, ∀ x ∈ ds, minL ds ≤ x.2
  | _ :: r, x, h => by
    rcases List.mem_cons.mp h with e | h
    · rw [e]; exact Nat.min_le_left _ _
    · exact Nat.le_trans (Nat.min_le_right _ _) (minL_le x h)
theorem map_len {ds : List (Dt × Nat)} {vs : List V} {m : Nat} (hl : vs.length = ds.length) : (ds.map fun x => (some (x.1, m) : Sv)).length = (vs.map (some : V → Option V)).length := by simp [hl]
end
def dTup (T : TAD) : TED := fun ev P Xc => T ev (fun ds ev1 => ds.length ≤ sizeLine ∧ P (.tup (dsOf ds)) (minL ds + 1) ev1) Xc
def dLst (T : TAD) : TED := fun ev P Xc => T ev (fun ds ev1 => ds.length ≤ sizeLine ∧ P (.lst (dsOf ds)) (minL ds + 1) ev1) Xc
theorem de_tup {k} (h : DA X Wx es T) : DE X Wx (.Tuple es k pos) (dTup T) := by
  refine (pe_tup h).imp fun σ H Q q => ?_
  obtain ⟨W, ev, L, P, Xc, R, t, c, cx⟩ := q
  refine ⟨W, ev, L, _, Xc, R, t, fun ds ev1 vs W1 H1 L1 u hl R1 E => ⟨by rw [hl]; exact u.1, fun p hp => ?_⟩, cx⟩
  obtain ⟨W2, L2, R2, E2⟩ := R1.downAll (minL ds) (fun x hx => minL_le x hx) hl
  obtain ⟨L3, R3, E3⟩ := Rel.made (o := .tup vs) (d := .tup (dsOf ds)) (n := minL ds + 1) (fp := []) (map_len hl) R2 hp fun L1 s s' => .tup upd_same (s'.ows hl)
  exact c _ _ _ _ _ _ _ u.2 R3 ((E.trans E2).trans E3)
theorem de_lst (h : DA X Wx es T) : DE X Wx (.List es pos) (dLst T) := by
  refine (pe_lst h).imp fun σ H Q q => ?_
  obtain ⟨W, ev, L, P, Xc, R, t, c, cx⟩ := q
  refine ⟨W, ev, L, _, Xc, R, t, fun ds ev1 vs W1 H1 L1 u hl R1 E => ⟨by rw [hl]; exact u.1, fun p hp => ?_⟩, cx⟩
  obtain ⟨W2, L2, R2, E2⟩ := R1.downAll (minL ds) (fun x hx => minL_le x hx) hl
  obtain ⟨L3, R3, E3⟩ := Rel.made (o := .lst vs) (d := .lst (dsOf ds)) (n := minL ds + 1) (fp := []) (map_len hl) R2 hp fun L1 s s' => .lst upd_same (s'.ows hl)
  exact c _ _ _ _ _ _ _ u.2 R3 ((E.trans E2).trans E3)

/-! ### calls of own defs -/
/-- what is known of a def of the text: where it stands, what it promises -/
structure Cal (P : Program) (w : World) (K : PySem.W.Frag) (mg : Str → Option Value) (base : Heap) (x : Str) (k : Nat) (S : SpD) : Prop where
  ex : ∃ (f : Addr) (fd : FuncData) (ps : List Str), mg x = some (.ref f) ∧ PySem.W.keepIn K (.ref f) = true ∧ Binds K fd ps [] ∧ FnOk P w K mg base (L2N.CX P w) k f fd ps (liftF K S)
def dCall (S : SpD) (T : TAD) : TED := fun ev P Xc => T ev (fun ds ev1 => S (dsOf ds) ev1.G (fun d n G' => P d n ⟨ev1.r, G'⟩) (fun C f G' => Xc C f ⟨ev1.r, G'⟩)) Xc
theorem Rel.argRel {K : PySem.W.Frag} {W : Wd} {G : Gs} {H : Hp} {m : Nat} : ∀ {ds : List (Dt × Nat)}, ds.map (fun x => (some (x.1, m) : Sv)) = (dsOf ds).map fun d => some (d, m)
  | [] => rfl
  | x :: r => congrArg (_ :: ·) (Rel.argRel (K := K) (W := W) (G := G) (H := H))
theorem sl_zero {K : PySem.W.Frag} {W : Wd} {H : Hp} : ∀ {ds : List Dt} {vs : List V} {L}, Sl K W H (ds.map fun d => some (d, 0)) (vs.map some) L → L = []
  | [], [], _, s => by cases s; rfl
  | d :: ds, v :: vs, _, s => by
    cases s with
    | yes o r => rw [o.zero.2, sl_zero r]; rfl
  | [], v :: vs, _, s => by cases s
  | d :: ds, [], _, s => by cases s
theorem call_lift {K : PySem.W.Frag} {S : SpD} {σ : St} {H : Hp} {Q : VK} (h : liftE K Wx (dCall S T) σ H Q) : tCallS (liftF K S) (WE Wx) (liftA K Wx T) σ H Q := by
  obtain ⟨W, ev, L, P, Xc, R, t, c, cx⟩ := h
  refine ⟨W, ev, L, _, Xc, R, t, fun ds ev1 vs W1 H1 L1 u hl R1 E => ?_, cx⟩
  obtain ⟨W2, L2, R2, E2⟩ := R1.downAll 0 (fun x hx => Nat.zero_le _) hl
  obtain ⟨A, B, p, RA, RB⟩ := Rel.split (map_len hl) R2
  rw [Rel.argRel (K := K) (W := W) (G := ev1.G) (H := H)] at RA
  obtain ⟨M, sM, pM⟩ := RA.sl
  have eM := sl_zero sM
  subst eM
  have eA : A = [] := List.Perm.eq_nil pM
  subst eA
  have R2' := R2.perm p
  rw [Rel.argRel (K := K) (W := W) (G := ev1.G) (H := H)] at R2'
  have hl2 : ((dsOf ds).map fun d => (some (d, 0) : Sv)).length = (vs.map (some : V → Option V)).length := by simp [dsOf, hl]
  have E12 := E.trans E2
  refine ⟨W2, dsOf ds, ev1.G, _, _, by simp [dsOf, hl], RA, u, fun d n G' v W' H' L' pd R' E' => ?_, fun C f G' dx W' H' px R' x E' => ?_⟩
  · obtain ⟨R3, E3⟩ := Rel.tail (L1 := []) hl2 R2' RB R' E'
    exact c d n ⟨ev1.r, G'⟩ v W' H' _ pd R3 (E12.trans (E3.permL p.symm))
  · obtain ⟨R3, E3⟩ := Rel.tail (L1 := []) hl2 R2' RB R' E'
    exact cx C f ⟨ev1.r, G'⟩ dx W' H' _ px R3 x (E12.trans (E3.permL p.symm))
theorem de_call {x : Str} {k : Nat} {S : SpD} {p : Pos} (F : Cal X.prog X.w X.K X.mg X.base x k S) (tk : L2N.Takes X Wx) (hr : Room k X.A) (ha : DA X Wx (e :: es) T) (hg : Gl X x := by rfl) (hdb : (x == ("__debug__" : Str)) = false := by decide)
    (he : starEach (e :: es) X.env = (false, eval e X.env) :: starEach es X.env := by rfl) (hpl : (backTo pos (starEach es X.env)).any (·.1) = false := by rfl) : DE X Wx (.Call (.Name x p) (e :: es) [] pos) (dCall S T) := by
  obtain ⟨f, fd, ps, hm, hk, hb, F⟩ := F.ex
  exact (pe_callS F hr hg hm hk hb (fun σ => L2N.passAt tk σ) ha hdb he hpl).imp fun σ H Q h => call_lift h

/-! ### calls of built-ins: one argument, an answer that owns nothing -/
def OpU (K : PySem.W.Frag) (C : Dt → Prop) (g : Dt → Dt) (r : List V → Hp → VK → Prop) : Prop :=
  ∀ (W : Wd) (H : Hp) (x : V) (d : Dt) (n : Nat) (f : List Addr) (Q : VK), (∀ a o, W.F a = some o → H a = some o) → Ow K W H n f x d → C d → (∀ v, Is K W v (g d) → Q v H) → r [x] H Q
def dU (C : Dt → Prop) (g : Dt → Dt) (Ta : TED) : TED := dUn (fun d _ ev P _ => C d ∧ P (g d) topL ev) Ta
def dUV (C : Dt → Prop) (g : Dt → Dt) (i : Nat) : TED := fun ev P _ => ∃ d n, ev.r[i]? = some (some (d, n)) ∧ C d ∧ P (g d) topL ev
variable {C : Dt → Prop} {g : Dt → Dt} {r : List V → Hp → VK → Prop} {id : String} {x : Str} {p : Pos} {i : Nat} {T' : String}
theorem lU {K : PySem.W.Frag} (h : OpU K C g r) (hf : ∀ d, (g d).flat = true) {σ : St} {H : Hp} {Q : VK} (q : liftE K Wx (dU C g Ta) σ H Q) : tCB r (tCons (liftE K Wx Ta) tNil) σ H Q :=
  lift1 q fun d n ev x W H L P Xc u R c cx => by
    obtain ⟨_, _, f, _, _, o, _, _⟩ := R.pop
    obtain ⟨L2, s2, R2⟩ := R.drop
    exact h W H x d n f Q R.sub o u.1 fun v iv => c.is R2 s2 iv (.inr (hf d)) u.2
theorem lUV {K : PySem.W.Frag} (h : OpU K C g r) (hf : ∀ d, (g d).flat = true) {σ : St} {H : Hp} {Q : VK} (q : liftE K Wx (dUV C g i) σ H Q) : tCB r (tCons (tVar i) tNil) σ H Q := by
  obtain ⟨W, ev, L, P, Xc, R, ⟨d, n, e, u⟩, c, cx⟩ := q
  obtain ⟨v, f, a, o⟩ := R.at e
  exact ⟨v, a, h W H v d n f Q R.sub o u.1 fun v iv => c.is R (fun _ h => h) iv (.inr (hf d)) u.2⟩
section
variable (hc : CallR X (.builtin id) r) (h : OpU X.K C g r) (hf : ∀ d, (g d).flat = true) (hg : Gl X x) (hm : X.mg x = none) (hv : bootBuiltins x = some (.builtin id))
include hc h hf hg hm hv
theorem de_cB (ha : DE X Wx a Ta) (hn : x ≠ "__name__" := by decide) (hdb : (x == ("__debug__" : Str)) = false := by decide) (he : starEach [a] X.env = (false, eval a X.env) :: starEach [] X.env := by rfl) (hpl : (backTo pos (starEach [] X.env)).any (·.1) = false := by rfl) :
    DE X Wx (.Call (.Name x p) [a] [] pos) (dU C g Ta) := (pe_callB hc hg hm hv (pa_cons ha pa_nil he) hn hdb he hpl).imp fun σ H Q q => lU h hf q
theorem de_cBV (ha : PE X a (tVar i)) (hn : x ≠ "__name__" := by decide) (hdb : (x == ("__debug__" : Str)) = false := by decide) (he : starEach [a] X.env = (false, eval a X.env) :: starEach [] X.env := by rfl) (hpl : (backTo pos (starEach [] X.env)).any (·.1) = false := by rfl) :
    DE X Wx (.Call (.Name x p) [a] [] pos) (dUV C g i) := (pe_callB hc hg hm hv (pa_cons ha pa_nil he) hn hdb he hpl).imp fun σ H Q q => lUV h hf q
end
section
variable (hc : CallR X (.type T') r) (h : OpU X.K C g r) (hf : ∀ d, (g d).flat = true) (hg : Gl X x) (hm : X.mg x = none) (hv : bootBuiltins x = some (.type T'))
include hc h hf hg hm hv
theorem de_cT (ha : DE X Wx a Ta) (hn : x ≠ "__name__" := by decide) (hdb : (x == ("__debug__" : Str)) = false := by decide) (he : starEach [a] X.env = (false, eval a X.env) :: starEach [] X.env := by rfl) (hpl : (backTo pos (starEach [] X.env)).any (·.1) = false := by rfl) :
    DE X Wx (.Call (.Name x p) [a] [] pos) (dU C g Ta) := (pe_callTy hc hg hm hv (pa_cons ha pa_nil he) hn hdb he hpl).imp fun σ H Q q => lU h hf q
end
end
/-! len -/
def CLen : Dt → Prop
  | .str x => x.length ≤ sizeLine
  | .tup _ => True
  | .lst _ => True
  | .dct _ => True
  | _ => False
def lenD : Dt → Dt
  | .str x => .int x.length
  | .tup ds => .int ds.length
  | .lst ds => .int ds.length
  | .dct ds => .int ds.length
  | _ => .non
theorem lenD_flat (d : Dt) : (lenD d).flat = true := by cases d <;> rfl
def rLenA (K : PySem.W.Frag) : List V → Hp → VK → Prop := fun xs H Q => (∃ x n, xs = [x] ∧ LenV K x H n ∧ Q (.int n) H) ∨ ∃ a kvs, xs = [V.ref a] ∧ Rd H a (.dK kvs) ∧ Q (.int kvs.length) H
theorem call_lenR {X : Cx} : CallR X (.builtin "len") (fun xs H Q => ∃ a kvs, xs = [V.ref a] ∧ Rd H a (.dK kvs) ∧ Q (.int kvs.length) H) := by
  intro pins s σ H xs us Q I r h
  obtain ⟨a, kvs, rfl, ha, q⟩ := h
  obtain ⟨u, rfl, ru⟩ := vals1 r
  cases ru
  exact d_len I ha fun t s' I' => ⟨.int kvs.length, H, I', ⟨t, rfl⟩, q⟩
theorem call_lenA {X : Cx} : CallR X (.builtin "len") (rLenA X.K) := call_len.or call_lenR
theorem owk_len {K : PySem.W.Frag} {W : Wd} {H : Hp} {n} : ∀ {fp vs ds}, Owk K W H n fp vs ds → vs.length = ds.length
  | _, _, _, .nil => rfl
  | _, _, _, .cons _ r => congrArg (· + 1) (owk_len r)
theorem len_OpU {K : PySem.W.Frag} : OpU K CLen lenD (rLenA K) := fun W H x d n f Q s o c q => by
  cases d with
  | str y => cases o.str; exact .inl ⟨_, _, rfl, ⟨c, rfl⟩, q _ .int⟩
  | tup ds =>
    obtain ⟨a, vs, m, gp, rfl, ea, r⟩ := o.tupp s
    exact .inl ⟨_, _, rfl, .inr ⟨vs, ea, rfl⟩, by rw [r.length]; exact q _ .int⟩
  | lst ds =>
    obtain ⟨a, vs, m, gp, rfl, ea, r⟩ := o.lstp s
    exact .inl ⟨_, _, rfl, .inl ⟨vs, .inl (.inl ea), rfl⟩, by rw [r.length]; exact q _ .int⟩
  | dct ds =>
    obtain ⟨a, vs, m, gp, rfl, ea, r⟩ := o.dctp s
    exact .inr ⟨a, vs, rfl, ea, by rw [owk_len r]; exact q _ .int⟩
  | _ => exact c.elim
/-! int(x), abs(x) -/
def CNum : Dt → Prop
  | .int _ => True
  | .bl _ => True
  | _ => False
def intD : Dt → Dt
  | .int i => .int i
  | .bl b => .int (if b then 1 else 0)
  | _ => .non
theorem intD_flat (d : Dt) : (intD d).flat = true := by cases d <;> rfl
theorem int_OpU {K : PySem.W.Frag} : OpU K CNum intD (fun xs H Q => (∃ i, xs = [.int i] ∧ Q (.int i) H) ∨ ∃ k, xs = [.bl k] ∧ Q (.int (if k then 1 else 0)) H) := fun W H x d n f Q s o c q => by
  cases d with
  | int i => cases o.int; exact .inl ⟨i, rfl, q _ .int⟩
  | bl b => cases o.bl; exact .inr ⟨b, rfl, q _ .int⟩
  | _ => exact c.elim
def CInt1 : Dt → Prop
  | .int _ => True
  | _ => False
def absD : Dt → Dt
  | .int i => .int (if i < 0 then -i else i)
  | _ => .non
theorem absD_flat (d : Dt) : (absD d).flat = true := by cases d <;> rfl
theorem abs_OpU {K : PySem.W.Frag} : OpU K CInt1 absD (fun xs H Q => ∃ i, xs = [.int i] ∧ Q (.int (if i < 0 then -i else i)) H) := fun W H x d n f Q s o c q => by
  cases d with
  | int i => cases o.int; exact ⟨i, rfl, q _ .int⟩
  | _ => exact c.elim
/-! all, any of a list of bools -/
def blsD : List Dt → Option (List Bool)
  | [] => some []
  | .bl b :: r => (blsD r).map (b :: ·)
  | _ :: _ => none
theorem bls_v {K : PySem.W.Frag} {W : Wd} {H : Hp} {n} : ∀ {fp vs ds bs}, Ows K W H n fp vs ds → blsD ds = some bs → vs = bs.map V.bl
  | _, _, _, _, .nil, h => by cases h; rfl
  | _, _, d :: ds, bs, .cons o r, h => by
    cases d <;> first | (simp [blsD] at h; done) | skip
    rename_i b
    cases q : blsD ds with
    | none => simp [blsD, q] at h
    | some cs =>
      simp [blsD, q] at h
      subst h
      cases o.bl
      rw [bls_v r q] <;> rfl
def CBls : Dt → Prop
  | .lst ds => (blsD ds).isSome = true
  | _ => False
def allD : Dt → Dt
  | .lst ds => .bl (((blsD ds).getD []).all id)
  | _ => .non
def anyD : Dt → Dt
  | .lst ds => .bl (((blsD ds).getD []).any id)
  | _ => .non
theorem allD_flat (d : Dt) : (allD d).flat = true := by cases d <;> rfl
theorem anyD_flat (d : Dt) : (anyD d).flat = true := by cases d <;> rfl
theorem all_OpU {K : PySem.W.Frag} : OpU K CBls allD (rAll K) := fun W H x d n f Q s o c q => by
  cases d with
  | lst ds =>
    obtain ⟨a, vs, m, gp, rfl, ea, r⟩ := o.lstp s
    obtain ⟨bs, hb⟩ := Option.isSome_iff_exists.mp (show (blsD ds).isSome = true from c)
    refine ⟨a, bs, rfl, by rw [← bls_v r hb]; exact .inl (.inl ea), ?_⟩
    have q' := q (.bl (bs.all id)) (by simp [allD, hb]; exact .bl)
    exact q'
  | _ => exact c.elim
theorem any_OpU {K : PySem.W.Frag} : OpU K CBls anyD (rAny K) := fun W H x d n f Q s o c q => by
  cases d with
  | lst ds =>
    obtain ⟨a, vs, m, gp, rfl, ea, r⟩ := o.lstp s
    obtain ⟨bs, hb⟩ := Option.isSome_iff_exists.mp (show (blsD ds).isSome = true from c)
    refine ⟨a, bs, rfl, by rw [← bls_v r hb]; exact .inl (.inl ea), ?_⟩
    have q' := q (.bl (bs.any id)) (by simp [anyD, hb]; exact .bl)
    exact q'
  | _ => exact c.elim
/-! sum of a list of ints -/
def intsD : List Dt → Option (List Int)
  | [] => some []
  | .int b :: r => (intsD r).map (b :: ·)
  | _ :: _ => none
theorem ints_v {K : PySem.W.Frag} {W : Wd} {H : Hp} {n} : ∀ {fp vs ds bs}, Ows K W H n fp vs ds → intsD ds = some bs → vs = bs.map V.int
  | _, _, _, _, .nil, h => by cases h; rfl
  | _, _, d :: ds, bs, .cons o r, h => by
    cases d <;> first | (simp [intsD] at h; done) | skip
    rename_i b
    cases q : intsD ds with
    | none => simp [intsD, q] at h
    | some cs =>
      simp [intsD, q] at h
      subst h
      cases o.int
      rw [ints_v r q] <;> rfl
def CInts : Dt → Prop
  | .lst ds => (intsD ds).isSome = true
  | _ => False
def sumD : Dt → Dt
  | .lst ds => .int ((intsD ds).getD []).sum
  | _ => .non
theorem sumD_flat (d : Dt) : (sumD d).flat = true := by cases d <;> rfl
theorem sum_OpU {K : PySem.W.Frag} : OpU K CInts sumD (rSum K) := fun W H x d n f Q s o c q => by
  cases d with
  | lst ds =>
    obtain ⟨a, vs, m, gp, rfl, ea, r⟩ := o.lstp s
    obtain ⟨bs, hb⟩ := Option.isSome_iff_exists.mp (show (intsD ds).isSome = true from c)
    refine ⟨a, bs, rfl, by rw [← ints_v r hb]; exact .inl (.inl ea), ?_⟩
    have q' := q (.int bs.sum) (by simp [sumD, hb]; exact .int)
    exact q'
  | _ => exact c.elim
end HD

set_option Elab.async false
set_option linter.all false
set_option maxRecDepth 100000
namespace HD
open PySem PySem.Spec PyProof.Rows L2
/-! ### isinstance(x, T), T built in -/
def tyD : Dt → Option String
  | .non => some "NoneType"
  | .bl _ => some "bool"
  | .int _ => some "int"
  | .str _ => some "str"
  | .tup _ => some "tuple"
  | .lst _ => some "list"
  | .dct _ => some "dict"
  | .cel _ => some "list"
  | .exc _ _ _ => none
/-- the answers, for the types that are asked -/
def isiB (a : String) (t : String) : Bool := a == t || (a == "bool" && t == "int")
def isiD (t : String) (d : Dt) : Dt := .bl (match tyD d with
  | some a => isiB a t
  | none => false)
/-- the deciders' answers agree -/
def IsiOk (K : PySem.W.Frag) (t : String) : Prop := ∀ a ∈ ["NoneType", "bool", "int", "str", "tuple", "list", "dict"], PySem.W.kitOne K (.type a) (.type t) = some (isiB a t)
def kitRow (t : String) : Bool := ["NoneType", "bool", "int", "str", "tuple", "list", "dict"].all fun a => decide (kitB a t = some (isiB a t))
theorem isiOk_of {K : PySem.W.Frag} {t : String} (h : kitRow t = true) : IsiOk K t := fun a ha => kit_ty (of_decide_eq_true (List.all_eq_true.mp h a ha))
theorem isi_int {K : PySem.W.Frag} : IsiOk K "int" := isiOk_of (by decide +kernel)
theorem isi_bool {K : PySem.W.Frag} : IsiOk K "bool" := isiOk_of (by decide +kernel)
theorem isi_str {K : PySem.W.Frag} : IsiOk K "str" := isiOk_of (by decide +kernel)
theorem isi_tuple {K : PySem.W.Frag} : IsiOk K "tuple" := isiOk_of (by decide +kernel)
theorem isi_list {K : PySem.W.Frag} : IsiOk K "list" := isiOk_of (by decide +kernel)
theorem isi_dict {K : PySem.W.Frag} : IsiOk K "dict" := isiOk_of (by decide +kernel)
def noCel : Dt → Bool
  | .cel _ => false
  | .exc _ _ _ => false
  | _ => true
theorem tyX_of {K : PySem.W.Frag} {W : Wd} {H : Hp} {ρ : List Sv} {G : Gs} {σ : St} {L : List Addr} {n fp v d} (R : Rel K W ρ G σ H L) (o : Ow K W H n fp v d) (hc : noCel d = true) : ∃ a, tyD d = some a ∧ TyX K H v (.type a) ∧ a ∈ ["NoneType", "bool", "int", "str", "tuple", "list", "dict"] := by
  have s := R.sub
  cases d with
  | non => cases o.non; exact ⟨_, rfl, .base .non, by decide⟩
  | bl b => cases o.bl; exact ⟨_, rfl, .base (.bl _), by decide⟩
  | int b => cases o.int; exact ⟨_, rfl, .base (.int _), by decide⟩
  | str b => cases o.str; exact ⟨_, rfl, .base (.str _), by decide⟩
  | tup ds =>
    obtain ⟨a, vs, rfl, ea, _⟩ := o.tupv s
    refine ⟨_, rfl, ?_, by decide⟩
    rcases ea with (ea | ⟨ob, ea⟩) | ⟨ob, its, n, e1, e2, _⟩
    · exact .base (.tup ea)
    · exact .fTuple ea
    · exact .kTuple e1 e2
  | lst ds =>
    obtain ⟨a, vs, rfl, ea, _⟩ := o.lstv s
    exact ⟨_, rfl, .base (.lst ea), by decide⟩
  | dct ds =>
    obtain ⟨a, vs, m, gp, rfl, ea, _⟩ := o.dctp s
    refine ⟨_, rfl, ?_, by decide⟩
    rcases ea with ea | ⟨ob, ea⟩
    · exact .base (.dK ea)
    · exact .fDict ea
  | cel m => exact (nomatch (show false = true from hc))
  | exc m _ _ => exact (nomatch (show false = true from hc))
section
variable {X : Cx} {Wx : WX} {e a b c : Expr} {es : List Expr} {Ta Tb Tc : TED} {T Tr : TAD} {pos p p2 : Pos} {t : String} {tn : Str} {i : Nat}
def dIsi (t : String) (Ta : TED) : TED := dUn (fun d _ ev P _ => noCel d = true ∧ P (isiD t d) topL ev) Ta
def dIsiV (t : String) (i : Nat) : TED := fun ev P _ => ∃ d n, ev.r[i]? = some (some (d, n)) ∧ noCel d = true ∧ P (isiD t d) topL ev
theorem isi_r {K : PySem.W.Frag} {W : Wd} {H : Hp} {ρ : List Sv} {G : Gs} {σ : St} {L : List Addr} {n fp v d} {Q : VK} (ok : IsiOk K t) (R : Rel K W ρ G σ H L) (o : Ow K W H n fp v d) (hc : noCel d = true) (q : ∀ u, Is K W u (isiD t d) → Q u H) : rIsi K [v, .ty t] H Q := by
  obtain ⟨a, e, ty, m⟩ := tyX_of R o hc
  refine ⟨v, .ty t, _, _, _, rfl, .ty t, ty, ok a m, q _ ?_⟩
  unfold isiD
  rw [e]
  exact .bl
theorem isiD_flat (t : String) (d : Dt) : (isiD t d).flat = true := rfl
theorem de_isi (ok : IsiOk X.K t) (hm : X.mg "isinstance" = none) (hmt : X.mg tn = none) (hv : bootBuiltins tn = some (.type t)) (ha : DE X Wx a Ta) (hg : Gl X "isinstance" := by rfl) (hgt : Gl X tn := by rfl)
    (hn : tn ≠ "__name__" := by decide) (hdb : (tn == ("__debug__" : Str)) = false := by decide)
    (he : starEach [a, .Name tn p2] X.env = (false, eval a X.env) :: starEach [.Name tn p2] X.env := by rfl) (he2 : starEach [.Name tn p2] X.env = (false, eval (.Name tn p2) X.env) :: starEach [] X.env := by rfl) (hpl : (backTo pos (starEach [.Name tn p2] X.env)).any (·.1) = false := by rfl) :
    DE X Wx (.Call (.Name "isinstance" p) [a, .Name tn p2] [] pos) (dIsi t Ta) := by
  refine (pe_callB call_isi hg hm boot_isinstance (pa_cons ha (pa_cons (pe_bltn hgt hmt hv (v := .ty t) rfl hn hdb) pa_nil he2) he) (by decide) (by decide) he hpl).imp fun σ H Q q => lift1 q fun d n ev x W H L P Xc u R c cx => ?_
  obtain ⟨_, _, f, _, _, o, _, _⟩ := R.pop
  obtain ⟨L2, s2, R2⟩ := R.drop
  exact isi_r ok R2 o u.1 fun v iv => c.is R2 s2 iv (.inr rfl) u.2
theorem de_isiV (ok : IsiOk X.K t) (hm : X.mg "isinstance" = none) (hmt : X.mg tn = none) (hv : bootBuiltins tn = some (.type t)) (ha : PE X a (tVar i)) (hg : Gl X "isinstance" := by rfl) (hgt : Gl X tn := by rfl)
    (hn : tn ≠ "__name__" := by decide) (hdb : (tn == ("__debug__" : Str)) = false := by decide)
    (he : starEach [a, .Name tn p2] X.env = (false, eval a X.env) :: starEach [.Name tn p2] X.env := by rfl) (he2 : starEach [.Name tn p2] X.env = (false, eval (.Name tn p2) X.env) :: starEach [] X.env := by rfl) (hpl : (backTo pos (starEach [.Name tn p2] X.env)).any (·.1) = false := by rfl) :
    DE X Wx (.Call (.Name "isinstance" p) [a, .Name tn p2] [] pos) (dIsiV t i) := by
  refine (pe_callB call_isi hg hm boot_isinstance (pa_cons ha (pa_cons (pe_bltn hgt hmt hv (v := .ty t) rfl hn hdb) pa_nil he2) he) (by decide) (by decide) he hpl).imp fun σ H Q q => ?_
  obtain ⟨W, ev, L, P, Xc, R, ⟨d, n, e, hc, u⟩, c, cx⟩ := q
  obtain ⟨v, f, a, o⟩ := R.at e
  exact ⟨v, a, isi_r ok R o hc fun v iv => c.is R (fun _ h => h) iv (.inr rfl) u⟩

/-! ### two ints to an int -/
def dCall2 (U : Dt → Nat → Dt → Nat → Ev → Pv → Xv → Prop) (Ta Tb : TED) : TED := dBin U Ta Tb
def dMax2 (Ta Tb : TED) : TED := dBin (uInt (fun _ _ => True) fun i j => .int (if j > i then j else i)) Ta Tb
def dMin2 (Ta Tb : TED) : TED := dBin (uInt (fun _ _ => True) fun i j => .int (if j < i then j else i)) Ta Tb
theorem de_c2 {id : String} {x : Str} {g : Int → Int → Int} (hc : CallR X (.builtin id) (fun xs H Q => ∃ i j, xs = [.int i, .int j] ∧ Q (.int (g i j)) H)) (hm : X.mg x = none) (hv : bootBuiltins x = some (.builtin id)) (ha : DE X Wx a Ta) (hb : DE X Wx b Tb) (hg : Gl X x := by rfl)
    (hn : x ≠ "__name__" := by decide) (hdb : (x == ("__debug__" : Str)) = false := by decide)
    (he : starEach [a, b] X.env = (false, eval a X.env) :: starEach [b] X.env := by rfl) (he2 : starEach [b] X.env = (false, eval b X.env) :: starEach [] X.env := by rfl) (hpl : (backTo pos (starEach [b] X.env)).any (·.1) = false := by rfl) :
    DE X Wx (.Call (.Name x p) [a, b] [] pos) (dBin (uInt (fun _ _ => True) fun i j => .int (g i j)) Ta Tb) := by
  refine (pe_callB hc hg hm hv (pa_cons ha (pa_cons hb pa_nil he2) he) hn hdb he hpl).imp fun σ H Q q => lift2 q fun d1 n1 d2 n2 ev x y W H L P Xc u R c cx => ?_
  obtain ⟨i, j, rfl, rfl, _, pp⟩ := uInt_inv u
  obtain ⟨L1, s1, R1⟩ := R.drop
  obtain ⟨L2, s2, R2⟩ := R1.drop
  cases R.int
  cases R1.int
  exact ⟨i, j, rfl, c.is R2 (fun a ha => s1 a (s2 a ha)) .int (.inr rfl) pp⟩
theorem de_max2 (hcl : X.calm = true) (hm : X.mg "max" = none) (ha : DE X Wx a Ta) (hb : DE X Wx b Tb) (hg : Gl X "max" := by rfl)
    (he : starEach [a, b] X.env = (false, eval a X.env) :: starEach [b] X.env := by rfl) (he2 : starEach [b] X.env = (false, eval b X.env) :: starEach [] X.env := by rfl) (hpl : (backTo pos (starEach [b] X.env)).any (·.1) = false := by rfl) :
    DE X Wx (.Call (.Name "max" p) [a, b] [] pos) (dMax2 Ta Tb) := de_c2 (call_max2 hcl) hm boot_max ha hb hg (by decide) (by decide) he he2 hpl
theorem de_min2 (hcl : X.calm = true) (hm : X.mg "min" = none) (ha : DE X Wx a Ta) (hb : DE X Wx b Tb) (hg : Gl X "min" := by rfl)
    (he : starEach [a, b] X.env = (false, eval a X.env) :: starEach [b] X.env := by rfl) (he2 : starEach [b] X.env = (false, eval b X.env) :: starEach [] X.env := by rfl) (hpl : (backTo pos (starEach [b] X.env)).any (·.1) = false := by rfl) :
    DE X Wx (.Call (.Name "min" p) [a, b] [] pos) (dMin2 Ta Tb) := de_c2 (call_min2 hcl) hm boot_min ha hb hg (by decide) (by decide) he he2 hpl

/-! ### + and * of any kind, // , - x -/
def uAdd : Dt → Nat → Dt → Nat → Ev → Pv → Xv → Prop := fun d1 _ d2 _ ev P _ => match d1, d2 with
  | .int i, .int j => P (.int (i + j)) topL ev
  | .str x, .str y => x.length + y.length ≤ sizeLine ∧ P (.str (x ++ y)) topL ev
  | .lst a, .lst b => a.length + b.length ≤ sizeLine ∧ P (.lst (a ++ b)) (lvs (a ++ b)) ev
  | .tup a, .tup b => a.length + b.length ≤ sizeLine ∧ P (.tup (a ++ b)) 0 ev
  | _, _ => False
def dAdd : TED → TED → TED := dBin uAdd
def rAddA (K : PySem.W.Frag) : R2 := fun x y H Q => (rI0 (fun i j => .int (i + j)) x y H Q ∨ ∃ i j, x = .str i ∧ y = .str j ∧ i.length + j.length ≤ sizeLine ∧ Q (.str (i ++ j)) H) ∨ (rCat x y H Q ∨ rCatA K x y H Q)
theorem op_addA : OpR X (binaryOp .Add) (rAddA X.K) := (op_add.or op_add_str).or (op_cat.or op_catA)
theorem iss_app {K : PySem.W.Frag} {W : Wd} : ∀ {vs us ds es}, Iss K W vs ds → Iss K W us es → Iss K W (vs ++ us) (ds ++ es)
  | _, _, _, _, .nil, r => r
  | _, _, _, _, .cons e r, s => .cons e (iss_app r s)
/-- a new tuple, frozen at once -/
theorem CovE.newT0 {K : PySem.W.Frag} {W : Wd} {H : Hp} {L L' : List Addr} {σ : St} {P : Pv} {Q : VK} {p : Addr} {vs : List V} {ds : List Dt} {ev : Ev} (c : CovE K W H L σ P Q) (R : Rel K W ev.r ev.G σ H L') (hs : ∀ a ∈ L', a ∈ L) (r : Iss K W vs ds) (hp : H p = none) (w : P (.tup ds) 0 ev) :
    Q (.ref p) (upd H p (.tup vs)) := by
  obtain ⟨L2, R2, E⟩ := Rel.made (X := []) (τ := []) (o := .tup vs) (d := .tup ds) (n := lvs ds) (fp := []) rfl R hp (fun L1 s s' => by
    cases s
    exact ow_tup_new upd_same r)
  obtain ⟨W3, L3, i3, R3, E3⟩ := R2.fz
  have E4 := ((Ext.refl (W := W) (H := H)).less hs).trans (E.trans E3)
  exact (c.step E4).is R3 (fun _ h => h) i3 (.inl rfl) w
theorem de_add (ha : DE X Wx a Ta) (hb : DE X Wx b Tb) : DE X Wx (.BinOp a .Add b pos) (dAdd Ta Tb) :=
  de_bin op_addA ha hb fun σ Q d1 n1 d2 n2 ev x y W H L P Xc u i1 i2 R c cx => by
    have s := R.sub
    cases d1 with
    | int i => cases d2 with
      | int j =>
        cases i1.int_inv
        cases i2.int_inv
        exact .inl (.inl ⟨i, j, rfl, rfl, c.is R (fun _ h => h) .int (.inr rfl) u⟩)
      | _ => exact u.elim
    | str i => cases d2 with
      | str j =>
        cases i1.str_inv
        cases i2.str_inv
        exact .inl (.inr ⟨i, j, rfl, rfl, u.1, c.is R (fun _ h => h) .str (.inr rfl) u.2⟩)
      | _ => exact u.elim
    | lst i => cases d2 with
      | lst j =>
        obtain ⟨a, vs, rfl, ea, ra⟩ := i1.lst_inv
        obtain ⟨b, us, rfl, eb, rb⟩ := i2.lst_inv
        exact .inr (.inl ⟨a, b, vs, us, rfl, rfl, s _ _ ea, s _ _ eb, by rw [ra.length, rb.length]; exact u.1, fun p hp => c.newL (n := 0) R (fun _ h => h) (iss_app ra rb) hp u.2⟩)
      | _ => exact u.elim
    | tup i => cases d2 with
      | tup j =>
        obtain ⟨a, vs, rfl, ea, ra⟩ := i1.tup_inv
        obtain ⟨b, us, rfl, eb, rb⟩ := i2.tup_inv
        refine .inr (.inr ⟨a, b, vs, us, rfl, rfl, sqT_sub s ea, sqT_sub s eb, by rw [ra.length, rb.length]; exact u.1, fun e => ?_, fun e1 e2 => ?_, fun e1 e2 p hp => c.newT0 R (fun _ h => h) (iss_app ra rb) hp u.2⟩)
        · subst e
          cases ra
          exact c.is R (fun _ h => h) i2 (.inl rfl) u.2
        · subst e2
          cases rb
          have u2 := u.2
          rw [List.append_nil] at u2
          exact c.is R (fun _ h => h) i1 (.inl rfl) u2
      | _ => exact u.elim
    | _ => exact u.elim
def uMul : Dt → Nat → Dt → Nat → Ev → Pv → Xv → Prop := fun d1 _ d2 _ ev P _ => match d1, d2 with
  | .int i, .int j => CMulW i j ∧ P (.int (i * j)) topL ev
  | .lst a, .int k => -(2 ^ 63) ≤ k ∧ k < 2 ^ 63 ∧ a.length * k.toNat ≤ sizeLine ∧ P (.lst (List.replicate k.toNat a).flatten) (lvs (List.replicate k.toNat a).flatten) ev
  | _, _ => False
def dMul : TED → TED → TED := dBin uMul
theorem iss_rep {K : PySem.W.Frag} {W : Wd} {vs ds} (r : Iss K W vs ds) : ∀ k : Nat, Iss K W (List.replicate k vs).flatten (List.replicate k ds).flatten
  | 0 => .nil
  | k + 1 => by
    rw [List.replicate_succ, List.replicate_succ, List.flatten_cons, List.flatten_cons]
    exact iss_app r (iss_rep r k)
theorem de_mul (ha : DE X Wx a Ta) (hb : DE X Wx b Tb) : DE X Wx (.BinOp a .Mult b pos) (dMul Ta Tb) :=
  de_bin (op_mulW.or op_rep) ha hb fun σ Q d1 n1 d2 n2 ev x y W H L P Xc u i1 i2 R c cx => by
    have s := R.sub
    cases d1 with
    | int i => cases d2 with
      | int j =>
        cases i1.int_inv
        cases i2.int_inv
        exact .inl ⟨i, j, rfl, rfl, u.1, c.is R (fun _ h => h) .int (.inr rfl) u.2⟩
      | _ => exact u.elim
    | lst i => cases d2 with
      | int k =>
        cases i2.int_inv
        obtain ⟨a, vs, rfl, ea, ra⟩ := i1.lst_inv
        exact .inr ⟨a, k, vs, rfl, rfl, s _ _ ea, u.1, u.2.1, by rw [ra.length]; exact u.2.2.1, fun p hp => c.newL (n := 0) R (fun _ h => h) (iss_rep ra _) hp u.2.2.2⟩
      | _ => exact u.elim
    | _ => exact u.elim
def dDiv : TED → TED → TED := dI CDivW fun i j => i / j
theorem de_div (ha : DE X Wx a Ta) (hb : DE X Wx b Tb) : DE X Wx (.BinOp a .FloorDiv b pos) (dDiv Ta Tb) := de_I op_fdivW ha hb
def dNeg (Ta : TED) : TED := dUn (fun d _ ev P _ => match d with | .int i => P (.int (-i)) topL ev | _ => False) Ta
theorem de_neg (ha : DE X Wx a Ta) : DE X Wx (.UnaryOp .USub a pos) (dNeg Ta) := by
  refine (pe_un un_neg ha).imp fun σ H Q q => lift1 q fun d n ev x W H L P Xc u R c cx => ?_
  cases d with
  | int i =>
    cases R.int
    obtain ⟨L2, s2, R2⟩ := R.drop
    exact ⟨i, rfl, c.is R2 s2 .int (.inr rfl) u⟩
  | _ => exact u.elim

/-! ### list(x), tuple(x) -/
def dLstOf (Ta : TED) : TED := dUn (fun d _ ev P _ => match d with | .lst ds => P (.lst ds) (lvs ds) ev | .tup ds => P (.lst ds) (lvs ds) ev | _ => False) Ta
def dTupOf (Ta : TED) : TED := dUn (fun d _ ev P _ => match d with | .lst ds => P (.tup ds) (lvs ds) ev | .tup ds => P (.tup ds) 0 ev | _ => False) Ta
theorem de_listOf (hm : X.mg "list" = none) (ha : DE X Wx a Ta) (hg : Gl X "list" := by rfl) (he : starEach [a] X.env = (false, eval a X.env) :: starEach [] X.env := by rfl) (hpl : (backTo pos (starEach [] X.env)).any (·.1) = false := by rfl) :
    DE X Wx (.Call (.Name "list" p) [a] [] pos) (dLstOf Ta) := by
  refine (pe_callTy call_list_of hg hm boot_list (pa_cons ha pa_nil he) (by decide) (by decide) he hpl).imp fun σ H Q q => lift1 q fun d n ev x W H L P Xc u R c cx => ?_
  obtain ⟨W1, L1, i1, R1, E1⟩ := R.fz
  have s := R1.sub
  cases d with
  | lst ds =>
    obtain ⟨a, vs, rfl, ea, ra⟩ := i1.lst_inv
    exact ⟨a, vs, rfl, .inl (.inl (.inl (s _ _ ea))), fun p hp => (c.step E1).newL (n := 0) R1 (fun _ h => h) ra hp u⟩
  | tup ds =>
    obtain ⟨a, vs, rfl, ea, ra⟩ := i1.tup_inv
    exact ⟨a, vs, rfl, .inr (sqT_sub s ea), fun p hp => (c.step E1).newL (n := 0) R1 (fun _ h => h) ra hp u⟩
  | _ => exact u.elim
theorem de_tupOf (hm : X.mg "tuple" = none) (ha : DE X Wx a Ta) (hg : Gl X "tuple" := by rfl) (he : starEach [a] X.env = (false, eval a X.env) :: starEach [] X.env := by rfl) (hpl : (backTo pos (starEach [] X.env)).any (·.1) = false := by rfl) :
    DE X Wx (.Call (.Name "tuple" p) [a] [] pos) (dTupOf Ta) := by
  refine (pe_callTy call_tuple_of hg hm boot_tuple (pa_cons ha pa_nil he) (by decide) (by decide) he hpl).imp fun σ H Q q => lift1 q fun d n ev x W H L P Xc u R c cx => ?_
  obtain ⟨W1, L1, i1, R1, E1⟩ := R.fz
  have s := R1.sub
  cases d with
  | lst ds =>
    obtain ⟨a, vs, rfl, ea, ra⟩ := i1.lst_inv
    exact ⟨a, vs, rfl, .inl ⟨.inl (.inl (s _ _ ea)), fun p hp => (c.step E1).newT (n := 0) R1 (fun _ h => h) ra hp u⟩⟩
  | tup ds =>
    obtain ⟨a, vs, rfl, ea, ra⟩ := i1.tup_inv
    exact ⟨a, vs, rfl, .inr ⟨sqT_sub s ea, (c.step E1).is R1 (fun _ h => h) (.tup ea ra) (.inl rfl) u⟩⟩
  | _ => exact u.elim

/-! ### slices -/
abbrev TOD := Ev → (Option Int → Ev → Prop) → Xv → Prop
def liftO (K : PySem.W.Frag) (Wx : WX) (T : TOD) : TO := fun σ H Q => ∃ W ev L P Xc, Rel K W ev.r ev.G σ H L ∧ T ev P Xc ∧ (∀ o ev1 W' H' L', P o ev1 → Rel K W' ev1.r ev1.G σ H' L' → Ext W W' H H' L L' → Q o H') ∧ CovX K Wx W H L σ Xc
abbrev DO (X : Cx) (Wx : WX) (e : Option Expr) (T : TOD) : Prop := PO X e (liftO X.K Wx T)
theorem _root_.L2.PO.imp {o : Option Expr} {t t' : TO} (h : PO X o t) (k : ∀ σ H Q, t' σ H Q → t σ H Q) : PO X o t' := ⟨fun pins s σ H Q I q => h.run pins s σ H Q I (k σ H Q q)⟩
def dPn : TOD := fun ev P _ => P none ev
def dPs (Ta : TED) : TOD := fun ev P Xc => Ta ev (fun d _ ev1 => match d with | .int i => P (some i) ev1 | _ => False) Xc
theorem do_none : DO X Wx none dPn := po_none.imp fun σ H Q ⟨W, ev, L, P, Xc, R, t, c, cx⟩ => c none ev W H L t R .refl
theorem do_some (ha : DE X Wx a Ta) : DO X Wx (some a) (dPs Ta) := by
  refine (po_some ha).imp fun σ H Q q => ?_
  obtain ⟨W, ev, L, P, Xc, R, t, c, cx⟩ := q
  refine ⟨W, ev, L, _, Xc, R, t, fun d n ev1 v W1 H1 L1 u R1 E => ?_, cx⟩
  cases d with
  | int i =>
    obtain ⟨L2, s2, R2⟩ := R1.drop
    exact ⟨i, R1.int, c (some i) ev1 W1 H1 L2 u R2 (E.less s2)⟩
  | _ => exact u.elim
/-- x[lo:hi] of a list or a tuple -/
def cutD (ds : List Dt) (lo hi : Option Int) : List Dt := (ds.drop (HT.sIx ds.length 0 lo)).take (HT.sIx ds.length ds.length hi - HT.sIx ds.length 0 lo)
def dSl (Ta : TED) (Tl Th : TOD) : TED := fun ev P Xc => Ta ev (fun d _ ev1 => Tl ev1 (fun lo ev2 => Th ev2 (fun hi ev3 => match d with
  | .lst ds => P (.lst (cutD ds lo hi)) (lvs (cutD ds lo hi)) ev3
  | .tup ds => P (.tup (cutD ds lo hi)) 0 ev3
  | _ => False) Xc) Xc) Xc
theorem iss_drop {K : PySem.W.Frag} {W : Wd} : ∀ {vs ds} (n : Nat), Iss K W vs ds → Iss K W (vs.drop n) (ds.drop n)
  | _, _, 0, r => r
  | _, _, _ + 1, .nil => .nil
  | _, _, n + 1, .cons _ r => iss_drop n r
theorem iss_take {K : PySem.W.Frag} {W : Wd} : ∀ {vs ds} (n : Nat), Iss K W vs ds → Iss K W (vs.take n) (ds.take n)
  | _, _, 0, r => .nil
  | _, _, _ + 1, .nil => .nil
  | _, _, n + 1, .cons e r => .cons e (iss_take n r)
theorem iss_cut {K : PySem.W.Frag} {W : Wd} {vs ds lo hi} (r : Iss K W vs ds) : Iss K W (cutV vs lo hi) (cutD ds lo hi) := by
  unfold cutV cutD
  rw [r.length]
  exact iss_take _ (iss_drop _ r)
theorem cutD_all {ds : List Dt} {lo hi : Option Int} (h : HT.sIx ds.length 0 lo = 0 ∧ HT.sIx ds.length ds.length hi = ds.length) : cutD ds lo hi = ds := by
  unfold cutD
  rw [h.1, h.2]
  simp
theorem de_sl {lo hi : Option Expr} {Tl Th : TOD} (ha : DE X Wx a Ta) (hl : DO X Wx lo Tl) (hh : DO X Wx hi Th) : DE X Wx (.Subscript a (.Slice lo hi none p2) pos) (dSl Ta Tl Th) := by
  refine (pe_slice (sl_list.or sl_tupA) ha hl hh).imp fun σ H Q q => ?_
  obtain ⟨W, ev, L, P, Xc, R, t, c, cx⟩ := q
  refine ⟨W, ev, L, _, Xc, R, t, fun d n ev1 v W1 H1 L1 u R1 E1 => ?_, cx⟩
  obtain ⟨W2, L2, i2, R2, E2⟩ := R1.fz
  have E := E1.trans E2
  refine ⟨W2, ev1, L2, _, Xc, R2, u, fun l ev2 W3 H3 L3 u3 R3 E3 => ?_, cx.step E⟩
  refine ⟨W3, ev2, L3, _, Xc, R3, u3, fun h ev3 W4 H4 L4 u4 R4 E4 => ?_, cx.step (E.trans E3)⟩
  have i4 := i2.mono (E3.trans E4).le
  have s := R4.sub
  have c4 := c.step (E.trans (E3.trans E4))
  cases d with
  | lst ds =>
    obtain ⟨a, vs, rfl, ea, ra⟩ := i4.lst_inv
    exact .inl ⟨a, vs, rfl, .inl (.inl (s _ _ ea)), fun p hp => c4.newL (n := 0) R4 (fun _ h => h) (iss_cut ra) hp u4⟩
  | tup ds =>
    obtain ⟨a, vs, rfl, ea, ra⟩ := i4.tup_inv
    refine .inr ⟨a, vs, rfl, sqT_sub s ea, fun z => ?_, fun z p hp => c4.newT0 R4 (fun _ h => h) (iss_cut ra) hp u4⟩
    rw [ra.length] at z
    have u5 : P (.tup (cutD ds l h)) 0 ev3 := u4
    rw [cutD_all z] at u5
    exact c4.is R4 (fun _ h => h) i4 (.inl rfl) u5
  | _ => exact u4.elim
end
end HD

set_option Elab.async false
set_option linter.all false
set_option maxRecDepth 100000
namespace HD
open PySem PySem.Spec PyProof.Rows L2

/-! ### things rewritten in place -/
section
variable {K : PySem.W.Frag} {W W' W1 W2 : Wd} {H H' H1 H2 : Hp} {L L' L1 L2 M : List Addr} {ρ ρ' Y Y' : List Sv} {σ σ' τ τ' : St} {G G' : Gs}
/-- the object at a, owned by the parts Y, is rewritten; what comes of the parts stands on top -/
theorem Rel.remade {a : Addr} {o : HO} {Z : List Sv} {υ : St} (hl : Y.length = τ.length) (R : Rel K W (Y ++ ρ) G (τ ++ σ) H L)
    (h : ∀ L1, L1.Nodup → Sl K W H Y τ L1 → a ∈ L1 ∧ ∃ M, M.Nodup ∧ (∀ b ∈ M, b ∈ L1) ∧ Sl K W (upd H a o) Z υ M) :
    ∃ L', Rel K W (Z ++ ρ) G (υ ++ σ) (upd H a o) L' ∧ Ext W W H (upd H a o) L L' := by
  obtain ⟨M0, s, q⟩ := R.sl
  obtain ⟨L1, L2, e, x, y⟩ := Sl.split hl s
  subst e
  have nd := List.nodup_append.mp (q.nodup_iff.mp R.nd)
  obtain ⟨ha, M, nM, sM, ow⟩ := h L1 nd.1 x
  have inL : ∀ b ∈ L1 ++ L2, b ∈ L := fun b hb => q.mem_iff.mpr hb
  have aL : a ∈ L := inL a (List.mem_append_left _ ha)
  have k : ∀ b u, b ≠ a → H b = some u → upd H a o b = some u := fun b u hb e => by rw [upd_ne hb]; exact e
  have al := R.alive
  refine ⟨M ++ L2, ⟨⟨M ++ L2, ow.app (y.frame (.refl _) fun b hb u e => k b u (fun z => nd.2.2 a ha b hb z.symm) e), .refl _⟩, List.nodup_append.mpr ⟨nM, nd.2.1, fun b hb c hc => nd.2.2 b (sM b hb) c hc⟩, fun b hb => ?_, fun b hb => ?_, fun b u e => ?_, R.len, fun n b ds e1 e2 => ?_, R.cF, R.cnd⟩, ⟨.refl _, fun b u e n => absurd (e.symm.trans n) (by simp), fun b h n => absurd h n, fun b u e _ hb => k b u (fun z => hb (z ▸ aL)) e, fun b hb => ?_, fun b u e => ?_⟩⟩
  · rcases List.mem_append.mp hb with z | z
    · exact R.offF b (inL b (List.mem_append_left _ (sM b z)))
    · exact R.offF b (inL b (List.mem_append_right _ z))
  · rcases List.mem_append.mp hb with z | z
    · exact R.offC b (inL b (List.mem_append_left _ (sM b z)))
    · exact R.offC b (inL b (List.mem_append_right _ z))
  · refine k b u (fun z => ?_) (R.sub b u e)
    have z2 := R.offF a aL
    rw [z, z2] at e; cases e
  · obtain ⟨vs, e3, z⟩ := R.cel n b ds e1 e2
    exact ⟨vs, k b _ (fun q => R.offC a aL (q ▸ List.mem_of_getElem? e1)) e3, z⟩
  · rcases List.mem_append.mp hb with z | z
    · exact .inr (inL b (List.mem_append_left _ (sM b z)))
    · exact .inr (inL b (List.mem_append_right _ z))
  · by_cases z : b = a
    · rw [z]; exact ⟨o, upd_same⟩
    · exact ⟨u, k b u z e⟩
theorem Ows.app : ∀ {n fp vs ds gp us es}, Ows K W H n fp vs ds → Ows K W H n gp us es → Ows K W H n (fp ++ gp) (vs ++ us) (ds ++ es)
  | _, _, _, _, _, _, _, .nil, y => y
  | _, _, _, _, _, _, _, .cons o r, y => by
    rw [List.append_assoc]
    exact .cons o (Ows.app r y)
theorem Ows.set1 : ∀ {n fp vs ds} {j : Nat} {gp u c}, Ows K W H n fp vs ds → Ow K W H n gp u c → j < ds.length → ∃ A B C, fp = A ++ B ++ C ∧ Ows K W H n (A ++ gp ++ C) (vs.set j u) (ds.set j c)
  | _, _, _, _, j, _, _, _, .nil, _, h => absurd h (Nat.not_lt_zero _)
  | _, _, _, _, 0, gp, _, _, .cons (fp := f1) (gp := f2) o r, x, _ => ⟨[], f1, f2, rfl, .cons x r⟩
  | _, _, _, _, j + 1, gp, _, _, .cons (fp := f1) (gp := f2) o r, x, h => by
    obtain ⟨A, B, C, e, y⟩ := Ows.set1 (j := j) r x (Nat.lt_of_succ_lt_succ h)
    refine ⟨f1 ++ A, B, C, by rw [e]; simp [List.append_assoc], ?_⟩
    have z := Ows.cons o y
    simp only [List.append_assoc] at z ⊢
    exact z
/-- the top container opened: its parts -/
theorem Sl.ofOws {m : Nat} : ∀ {ds : List Dt} {vs : List V} {fp}, Ows K W H m fp vs ds → Sl K W H (ds.map fun d => some (d, m)) (vs.map some) fp
  | _, _, _, .nil => .nil
  | _, _, _, .cons o r => .yes o (Sl.ofOws r)
theorem mapm_len {ds : List Dt} {vs : List V} {m : Nat} (hl : vs.length = ds.length) : (ds.map fun d => (some (d, m) : Sv)).length = (vs.map (some : V → Option V)).length := by simp [hl]
/-- parts instead of the whole -/
theorem Rel.parts {α : Type} {s : Sv} {t : Option V} {Z : α → List Sv} {υ : α → St} {Φ : α → Prop} (R : Rel K W (s :: ρ) G (t :: σ) H L) (h : ∀ L1, L1.Nodup → Sl K W H [s] [t] L1 → ∃ x, Φ x ∧ ∃ M, M.Nodup ∧ (∀ b ∈ M, b ∈ L1) ∧ Sl K W H (Z x) (υ x) M) :
    ∃ x, Φ x ∧ ∃ L', (∀ b ∈ L', b ∈ L) ∧ Rel K W (Z x ++ ρ) G (υ x ++ σ) H L' := by
  obtain ⟨M0, s0, q⟩ := R.sl
  obtain ⟨L1, L2, e, x, y⟩ := Sl.split (X := [s]) (τ := [t]) rfl s0
  subst e
  have nd := List.nodup_append.mp (q.nodup_iff.mp R.nd)
  obtain ⟨w, f, M, nM, sM, z⟩ := h L1 nd.1 x
  have inL : ∀ b ∈ M ++ L2, b ∈ L := fun b hb => q.mem_iff.mpr ((List.mem_append.mp hb).elim (fun z => List.mem_append_left _ (sM b z)) (fun z => List.mem_append_right _ z))
  exact ⟨w, f, M ++ L2, inL, ⟨⟨M ++ L2, z.app y, .refl _⟩, List.nodup_append.mpr ⟨nM, nd.2.1, fun b hb c hc => nd.2.2 b (sM b hb) c hc⟩, fun b hb => R.offF b (inL b hb), fun b hb => R.offC b (inL b hb), R.sub, R.len, R.cel, R.cF, R.cnd⟩⟩
end

/-! ### targets -/
abbrev TGD := Dt → Nat → Ev → (Ev → Prop) → Prop
abbrev TGsD := List Dt → Nat → Ev → (Ev → Prop) → Prop
/-- but for the slots ts all values stay -/
def Out (ts : List Nat) (σ σ' : St) : Prop := σ'.length = σ.length ∧ ∀ i, i ∉ ts → σ'[i]? = σ[i]?
theorem Out.refl {ts : List Nat} {σ : St} : Out ts σ σ := ⟨rfl, fun _ _ => rfl⟩
theorem Out.set {i : Nat} {σ : St} {v : Option V} : Out [i] σ (σ.set i v) := ⟨List.length_set, fun j h => List.getElem?_set_ne (fun e => h (by simp [e]))⟩
theorem Out.trans {ts us : List Nat} {a b c : St} (x : Out ts a b) (y : Out us b c) : Out (ts ++ us) a c :=
  ⟨y.1.trans x.1, fun i h => (y.2 i fun z => h (List.mem_append_right _ z)).trans (x.2 i fun z => h (List.mem_append_left _ z))⟩
def liftG (K : PySem.W.Frag) (ts : List Nat) (T : TGD) : TG := fun v σ H Q => ∃ W d n ev L P, Rel K W (some (d, n) :: ev.r) ev.G (some v :: σ) H L ∧ T d n ev P ∧
  ∀ ev' σ' W' H' L', P ev' → Out ts σ σ' → Rel K W' ev'.r ev'.G σ' H' L' → Ext W W' H H' L L' → Q σ' H'
def liftGs (K : PySem.W.Frag) (ts : List Nat) (T : TGsD) : TGs := fun vs σ H Q => ∃ W ds n ev L P, vs.length = ds.length ∧ Rel K W (ds.map (fun d => some (d, n)) ++ ev.r) ev.G (vs.map some ++ σ) H L ∧ T ds n ev P ∧
  ∀ ev' σ' W' H' L', P ev' → Out ts σ σ' → Rel K W' ev'.r ev'.G σ' H' L' → Ext W W' H H' L L' → Q σ' H'
section
variable {X : Cx} {Wx : WX} {e a b c o : Expr} {es : List Expr} {Ta Tb Tc : TED} {T Tr : TAD} {pos p p2 : Pos} {t : String} {tn x : Str} {i : Nat} {g : TGD} {gs : TGsD} {ts us : List Nat}
abbrev DG (X : Cx) (tg : Expr) (ts : List Nat) (T : TGD) : Prop := PG X tg (liftG X.K ts T)
abbrev DGs (X : Cx) (tg : List Expr) (ts : List Nat) (T : TGsD) : Prop := PGs X tg (liftGs X.K ts T)
theorem _root_.L2.PG.imp {tg : Expr} {t t' : TG} (h : PG X tg t) (k : ∀ v σ H Q, t' v σ H Q → t v σ H Q) : PG X tg t' := ⟨fun pins s σ H v u Q I r q => h.run pins s σ H v u Q I r (k v σ H Q q)⟩
theorem _root_.L2.PGs.imp {tg : List Expr} {t t' : TGs} (h : PGs X tg t) (k : ∀ v σ H Q, t' v σ H Q → t v σ H Q) : PGs X tg t' := ⟨fun pins s σ H v u Q I r q => h.run pins s σ H v u Q I r (k v σ H Q q)⟩
theorem _root_.L2.PG.or {tg : Expr} {t t' : TG} (h : PG X tg t) (h' : PG X tg t') : PG X tg (fun v σ H Q => t v σ H Q ∨ t' v σ H Q) := ⟨fun pins s σ H v u Q I r q => q.elim (h.run pins s σ H v u Q I r) (h'.run pins s σ H v u Q I r)⟩
def gdName (i : Nat) : TGD := fun d n ev P => P ⟨ev.r.set i (some (d, n)), ev.G⟩
theorem Rel.store {K : PySem.W.Frag} {W : Wd} {H : Hp} {L : List Addr} {ρ : List Sv} {σ : St} {G : Gs} {s : Sv} {t : Option V} (R : Rel K W (s :: ρ) G (t :: σ) H L) (i : Nat) : ∃ L', (∀ a ∈ L', a ∈ L) ∧ Rel K W (ρ.set i s) G (σ.set i t) H L' := by
  by_cases h : i < ρ.length
  · exact R.into h
  · obtain ⟨L', hs, R'⟩ := R.drop
    have hl := R'.lenEq
    rw [List.set_eq_of_length_le (by omega), List.set_eq_of_length_le (by omega)]
    exact ⟨L', hs, R'⟩
theorem dg_name (hN : X.N.Nodup) (hi : X.N[i]? = some x) (hx : Loc X.env.scope x) (hf : X.fn x = true ∨ X.env.scope.names.lookup x = some .local := by first | exact .inl rfl | exact .inr rfl | assumption) : DG X (.Name x pos) [i] (gdName i) := by
  refine (pg_name hN hi hx hf).imp fun v σ H Q h => ?_
  obtain ⟨W, d, n, ev, L, P, R, t, c⟩ := h
  obtain ⟨L', hs, R'⟩ := R.store i
  exact c _ _ W H L' t .set R' (Ext.refl.less hs)
def gdNil : TGsD := fun ds _ ev P => ds = [] ∧ P ev
def gdCons (g : TGD) (gs : TGsD) : TGsD := fun ds n ev P => match ds with
  | [] => False
  | d :: r => g d n ev fun ev1 => gs r n ev1 P
theorem dgs_nil : DGs X [] [] gdNil := by
  refine pgs_nil.imp fun vs σ H Q h => ?_
  obtain ⟨W, ds, n, ev, L, P, hl, R, ⟨rfl, t⟩, c⟩ := h
  cases vs with
  | nil => exact ⟨rfl, c _ _ W H L t .refl R .refl⟩
  | cons _ _ => cases hl
theorem dgs_cons (h1 : DG X e ts g) (h2 : DGs X es us gs) (hs : (assignEach (e :: es) X.env).map (·.2) = assign e X.env :: (assignEach es X.env).map (·.2) := by rfl) : DGs X (e :: es) (ts ++ us) (gdCons g gs) := by
  refine (pgs_cons h1 h2 hs).imp fun vs σ H Q h => ?_
  obtain ⟨W, ds, n, ev, L, P, hl, R, t, c⟩ := h
  cases ds with
  | nil => exact (show False from t).elim
  | cons d ds =>
    cases vs with
    | nil => cases hl
    | cons v vs =>
      have hl' := Nat.succ.inj hl
      refine ⟨v, vs, rfl, ?_⟩
      -- the first value with the slots; the others wait
      obtain ⟨M, s, q⟩ := R.sl
      obtain ⟨A, B, e1, x, y⟩ := Sl.split (X := [some (d, n)]) (τ := [some v]) rfl s
      obtain ⟨C, D, e2, y1, y2⟩ := Sl.split (mapm_len hl') y
      subst e2 e1
      have pm : L.Perm (C ++ (A ++ D)) := q.trans (by
        rw [← List.append_assoc, ← List.append_assoc]
        exact List.Perm.append_right D List.perm_append_comm)
      have R2 : Rel X.K W (ds.map (fun d => some (d, n)) ++ (some (d, n) :: ev.r)) ev.G (vs.map some ++ (some v :: σ)) H L :=
        ⟨⟨C ++ (A ++ D), y1.app (Sl.app x y2), pm⟩, R.nd, R.offF, R.offC, R.sub, R.len, R.cel, R.cF, R.cnd⟩
      obtain ⟨L1, L2, p, R3, R4⟩ := R2.split (mapm_len hl')
      refine ⟨W, d, n, ev, L2, _, R4, t, fun ev' σ' W' H' L' u o5 R5 E5 => ?_⟩
      obtain ⟨R6, E6⟩ := Rel.push (mapm_len hl') (R2.perm p) R3 R5 E5
      have E7 := E6.permL p.symm
      exact ⟨W', ds, n, ev', _, _, hl', R6, u, fun ev2 σ2 W2 H2 L2 u2 o8 R8 E8 => c ev2 σ2 W2 H2 L2 u2 (o5.trans o8) R8 (E7.trans E8)⟩
/-- a, b, .. = a tuple or a list of so many -/
def gdTup (k : Nat) (gs : TGsD) : TGD := fun d n ev P => match d with
  | .tup ds => ds.length = k ∧ gs ds (n - 1) ev P
  | .lst ds => ds.length = k ∧ gs ds (n - 1) ev P
  | _ => False
theorem Sl.openT {K : PySem.W.Frag} {W : Wd} {H : Hp} {n L v ds} (sub : ∀ a o, W.F a = some o → H a = some o) (s : Sl K W H [some (.tup ds, n)] [some v] L) : ∃ a vs M, v = .ref a ∧ SqT K H a vs ∧ vs.length = ds.length ∧ M.Sublist L ∧ Ows K W H (n - 1) M vs ds := by
  have o := s.one_inv
  cases o with
  | is i z =>
    obtain ⟨a, vs, e, h, r⟩ := i.tup_inv
    have z' : n = 0 := z.resolve_right (fun q => Bool.noConfusion q)
    subst z'
    exact ⟨a, vs, [], e, sqT_sub sub h, r.length, List.nil_sublist _, r.ows0⟩
  | tup e r => exact ⟨_, _, _, rfl, .inl (.inl e), r.length, List.sublist_cons_self _ _, r⟩
theorem Sl.openL {K : PySem.W.Frag} {W : Wd} {H : Hp} {n L v ds} (sub : ∀ a o, W.F a = some o → H a = some o) (s : Sl K W H [some (.lst ds, n)] [some v] L) : ∃ a vs M, v = .ref a ∧ H a = some (.lst vs) ∧ vs.length = ds.length ∧ M.Sublist L ∧ Ows K W H (n - 1) M vs ds := by
  have o := s.one_inv
  cases o with
  | is i z =>
    obtain ⟨a, vs, e, h, r⟩ := i.lst_inv
    have z' : n = 0 := z.resolve_right (fun q => Bool.noConfusion q)
    subst z'
    exact ⟨a, vs, [], e, sub _ _ h, r.length, List.nil_sublist _, r.ows0⟩
  | lst e r => exact ⟨_, _, _, rfl, e, r.length, List.sublist_cons_self _ _, r⟩
theorem dg_tup {k kk : Nat} (hc : X.calm = true) (h : DGs X es ts gs) (hn : (assignEach es X.env).length = k := by rfl) (hst : (assignEach es X.env).findIdx? (·.1) = none := by rfl) : DG X (.Tuple es kk pos) ts (gdTup k gs) := by
  refine ((pg_tup hc h hn hst).or (pg_lst hc h hn hst)).imp fun v σ H Q q => ?_
  obtain ⟨W, d, n, ev, L, P, R, t, c⟩ := q
  cases d with
  | tup ds =>
    obtain ⟨vs, ⟨a, rfl, ea, hl⟩, L3, hs, R3⟩ := R.parts (Z := fun _ => ds.map fun d => some (d, n - 1)) (υ := fun vs : List V => vs.map some) (Φ := fun vs => ∃ a, v = .ref a ∧ SqT X.K H a vs ∧ vs.length = ds.length) fun L1 nd s => by
      obtain ⟨a', vs', M', ea', h', hl', sb, r⟩ := s.openT R.sub
      exact ⟨vs', ⟨a', ea', h', hl'⟩, M', nd.sublist sb, fun b hb => sb.subset hb, Sl.ofOws r⟩
    exact .inl ⟨a, vs, rfl, ea, hl.trans t.1, W, ds, n - 1, ev, L3, P, hl, R3, t.2, fun ev' σ' W' H' L' u o' R' E => c ev' σ' W' H' L' u o' R' ((Ext.refl.less hs).trans E)⟩
  | lst ds =>
    obtain ⟨vs, ⟨a, rfl, ea, hl⟩, L3, hs, R3⟩ := R.parts (Z := fun _ => ds.map fun d => some (d, n - 1)) (υ := fun vs : List V => vs.map some) (Φ := fun vs => ∃ a, v = .ref a ∧ H a = some (.lst vs) ∧ vs.length = ds.length) fun L1 nd s => by
      obtain ⟨a', vs', M', ea', h', hl', sb, r⟩ := s.openL R.sub
      exact ⟨vs', ⟨a', ea', h', hl'⟩, M', nd.sublist sb, fun b hb => sb.subset hb, Sl.ofOws r⟩
    exact .inr ⟨a, vs, rfl, .inl (.inl ea), hl.trans t.1, W, ds, n - 1, ev, L3, P, hl, R3, t.2, fun ev' σ' W' H' L' u o' R' E => c ev' σ' W' H' L' u o' R' ((Ext.refl.less hs).trans E)⟩
  | _ => exact (show False from t).elim
end
end HD

set_option Elab.async false
set_option linter.all false
set_option maxRecDepth 100000
namespace HD
open PySem PySem.Spec PyProof.Rows L2
section
variable {K : PySem.W.Frag} {W W' W1 W2 : Wd} {H H' H1 H2 : Hp} {L L' L1 L2 M : List Addr} {ρ ρ' Y Y' : List Sv} {σ σ' τ τ' : St} {G G' : Gs}
theorem Rel.swap {s1 s2 : Sv} {t1 t2 : Option V} (R : Rel K W (s1 :: s2 :: ρ) G (t1 :: t2 :: σ) H L) : Rel K W (s2 :: s1 :: ρ) G (t2 :: t1 :: σ) H L := by
  obtain ⟨M, s, q⟩ := R.sl
  obtain ⟨A, B, e1, x, y⟩ := Sl.split (X := [s1]) (τ := [t1]) rfl s
  obtain ⟨C, D, e2, y1, y2⟩ := Sl.split (X := [s2]) (τ := [t2]) rfl y
  subst e2 e1
  have pm : L.Perm (C ++ (A ++ D)) := q.trans (by
    rw [← List.append_assoc, ← List.append_assoc]
    exact List.Perm.append_right D List.perm_append_comm)
  exact ⟨⟨C ++ (A ++ D), y1.app (Sl.app x y2), pm⟩, R.nd, R.offF, R.offC, R.sub, R.len, R.cel, R.cF, R.cnd⟩
theorem Ow.lst_inv {n fp v ds} (o : Ow K W H (n + 1) fp v (.lst ds)) : ∃ a vs gp, fp = a :: gp ∧ v = .ref a ∧ H a = some (.lst vs) ∧ Ows K W H n gp vs ds := by
  cases o with
  | is i z => exact absurd z (by simp [Dt.flat])
  | lst e r => exact ⟨_, _, _, rfl, rfl, e, r⟩
theorem Ow.dct_inv {n fp v ds} (o : Ow K W H (n + 1) fp v (.dct ds)) : ∃ a vs gp, fp = a :: gp ∧ v = .ref a ∧ H a = some (.dK vs) ∧ Owk K W H n gp vs ds := by
  cases o with
  | is i z => exact absurd z (by simp [Dt.flat])
  | dct e r => exact ⟨_, _, _, rfl, rfl, e, r⟩
/-- the list in the slot j is rewritten with the value on top -/
theorem Rel.alterL {j : Nat} {ds ds' : List Dt} {m n : Nat} {d : Dt} {v : V} {F : List V → List V} (R : Rel K W (some (d, n) :: ρ) G (some v :: σ) H L) (e : ρ[j]? = some (some (.lst ds, m))) (hm : 1 ≤ m)
    (hF : ∀ (W1 : Wd) (H1 : Hp) (q : Nat) (gp fb : List Addr) (vs : List V), Ows K W1 H1 q gp vs ds → Ow K W1 H1 q fb v d → ∃ M, (∀ b ∈ M, b ∈ gp ++ fb) ∧ ((gp ++ fb).Nodup → M.Nodup) ∧ Ows K W1 H1 q M (F vs) ds') :
    ∃ a vs, σ[j]? = some (some (.ref a)) ∧ H a = some (.lst vs) ∧ vs.length = ds.length ∧ ∃ W' L', Rel K W' (ρ.set j (some (.lst ds', min (m - 1) n + 1))) G σ (upd H a (.lst (F vs))) L' ∧ Ext W W' H (upd H a (.lst (F vs))) L L' := by
  obtain ⟨v0, ev, R1⟩ := R.out (i := j + 1) (d := .lst ds) (n := m) e
  have R1' : Rel K W (some (.lst ds, m) :: some (d, n) :: ρ.set j none) G (some v0 :: some v :: σ) H L := R1
  obtain ⟨W2, L2, R2, E2⟩ := R1'.downTop (m := min (m - 1) n + 1) (by omega)
  obtain ⟨W3, L3, R3, E3⟩ := R2.swap.downTop (m := min (m - 1) n) (by omega)
  have R4 := R3.swap
  obtain ⟨M0, s0, q0⟩ := R4.sl
  obtain ⟨A, B, e1, x, y⟩ := Sl.split (X := [some (.lst ds, min (m - 1) n + 1)]) (τ := [some v0]) rfl s0
  obtain ⟨a, vs, gp, e2, rfl, ea, r⟩ := x.one_inv.lst_inv
  refine ⟨a, vs, ev, ea, r.length, ?_⟩
  obtain ⟨L5, R5, E5⟩ := Rel.remade (a := a) (o := .lst (F vs)) (Y := [some (.lst ds, min (m - 1) n + 1), some (d, min (m - 1) n)]) (τ := [some (.ref a), some v]) (Z := [some (.lst ds', min (m - 1) n + 1)]) (υ := [some (.ref a)]) rfl R4 fun L1 nd s => by
    obtain ⟨A1, B1, e1, x1, y1⟩ := Sl.split (X := [some (.lst ds, min (m - 1) n + 1)]) (τ := [some (.ref a)]) rfl s
    subst e1
    obtain ⟨a', vs', gp', e3, e4, ea', r'⟩ := x1.one_inv.lst_inv
    cases e4
    rw [ea] at ea'
    cases ea'
    subst e3
    obtain ⟨M, sM, nM, rM⟩ := hF W3 H _ gp' B1 vs r' y1.one_inv
    have nd' := List.nodup_cons.mp (show (a :: (gp' ++ B1)).Nodup from nd)
    refine ⟨List.mem_cons_self, a :: M, List.nodup_cons.mpr ⟨fun z => nd'.1 (sM a z), nM nd'.2⟩, fun b hb => ?_, Sl.of_ow (.lst upd_same (rM.frame (.refl _) fun b hb o e => ?_))⟩
    · rcases List.mem_cons.mp hb with z | z
      · rw [z]; exact List.mem_cons_self
      · exact List.mem_cons_of_mem _ (sM b z)
    · rw [upd_ne (fun z => nd'.1 (by rw [← z]; exact sM b hb))]
      exact e
  have R5' : Rel K W3 (some (.lst ds', min (m - 1) n + 1) :: ρ.set j none) G (some (.ref a) :: σ) (upd H a (.lst (F vs))) L5 := R5
  have ev' : σ[j]? = some (some (.ref a)) := ev
  obtain ⟨L6, s6, R6⟩ := R5'.store j
  rw [List.set_set, set_same ev'] at R6
  exact ⟨W3, L6, R6, (E2.trans E3).trans (E5.less s6)⟩
def putD (kvs : List (Key × Dt)) (k : Key) (v : Dt) : List (Key × Dt) :=
  if (kvs.any fun kv => decide (kv.1 = k)) = true then kvs.map (fun kv => if kv.1 = k then (kv.1, v) else kv) else kvs ++ [(k, v)]
theorem isk_any {k : Key} : ∀ {vs kds}, Isk K W vs kds → (vs.any fun kv => decide (kv.1 = k)) = kds.any fun kv => decide (kv.1 = k)
  | _, _, .nil => rfl
  | _, _, .cons o r => by
    show (_ || _) = (_ || _)
    rw [isk_any r]
theorem isk_app : ∀ {vs kds us es}, Isk K W vs kds → Isk K W us es → Isk K W (vs ++ us) (kds ++ es)
  | _, _, _, _, .nil, y => y
  | _, _, _, _, .cons o r, y => .cons o (isk_app r y)
theorem isk_map {k : Key} {v : V} {d : Dt} (x : Is K W v d) : ∀ {vs kds}, Isk K W vs kds → Isk K W (vs.map fun kv => if kv.1 = k then (kv.1, v) else kv) (kds.map fun kv => if kv.1 = k then (kv.1, d) else kv)
  | _, _, .nil => .nil
  | _, _, .cons (k := k') o r => by
    rw [List.map_cons, List.map_cons]
    show Isk K W ((if k' = k then (k', v) else _) :: _) ((if k' = k then (k', d) else _) :: _)
    by_cases h : k' = k
    · rw [if_pos h, if_pos h]
      exact .cons x (isk_map x r)
    · rw [if_neg h, if_neg h]
      exact .cons o (isk_map x r)
theorem isk_put {k : Key} {v : V} {d : Dt} {vs kds} (r : Isk K W vs kds) (x : Is K W v d) : Isk K W (putK vs k v) (putD kds k d) := by
  unfold putK putD
  rw [isk_any r]
  split
  · exact isk_map x r
  · exact isk_app r (.cons x .nil)
theorem Owk.zero : ∀ {fp vs ds}, Owk K W H 0 fp vs ds → Isk K W vs ds ∧ fp = []
  | _, _, _, .nil => ⟨.nil, rfl⟩
  | _, _, _, .cons o r => ⟨.cons o.zero.1 (Owk.zero r).1, by rw [o.zero.2, (Owk.zero r).2] <;> rfl⟩
/-- the dict in the slot j is given the value on top -/
theorem Rel.alterD {j : Nat} {kds : List (Key × Dt)} {m n : Nat} {d : Dt} {v : V} {k : Key} (R : Rel K W (some (d, n) :: ρ) G (some v :: σ) H L) (e : ρ[j]? = some (some (.dct kds, m))) (hm : 1 ≤ m) :
    ∃ a vs, σ[j]? = some (some (.ref a)) ∧ H a = some (.dK vs) ∧ vs.length = kds.length ∧ ∃ W' L', Rel K W' (ρ.set j (some (.dct (putD kds k d), 1))) G σ (upd H a (.dK (putK vs k v))) L' ∧ Ext W W' H (upd H a (.dK (putK vs k v))) L L' := by
  obtain ⟨W1, L1, i1, R1, E1⟩ := R.fz
  obtain ⟨v0, ev, R2⟩ := R1.out e
  obtain ⟨W3, L3, R3, E3⟩ := R2.downTop (m := 1) hm
  have i3 := i1.mono E3.le
  obtain ⟨M0, s0, q0⟩ := R3.sl
  obtain ⟨A, B, e1, x, y⟩ := Sl.split (X := [some (.dct kds, 1)]) (τ := [some v0]) rfl s0
  obtain ⟨a, vs, gp, e2, rfl, ea, r⟩ := x.one_inv.dct_inv
  refine ⟨a, vs, ev, ea, owk_len r, ?_⟩
  obtain ⟨L5, R5, E5⟩ := Rel.remade (a := a) (o := .dK (putK vs k v)) (Y := [some (.dct kds, 1)]) (τ := [some (.ref a)]) (Z := [some (.dct (putD kds k d), 1)]) (υ := [some (.ref a)]) rfl R3 fun L1 nd s => by
    obtain ⟨a', vs', gp', e3, e4, ea', r'⟩ := s.one_inv.dct_inv
    cases e4
    rw [ea] at ea'
    cases ea'
    subst e3
    refine ⟨List.mem_cons_self, [a], List.nodup_cons.mpr ⟨by simp, List.nodup_nil⟩, fun b hb => ?_, Sl.of_ow (.dct upd_same (isk_put r'.zero.1 i3).owk0)⟩
    rw [List.mem_singleton.mp hb]
    exact List.mem_cons_self
  have R5' : Rel K W3 (some (.dct (putD kds k d), 1) :: ρ.set j none) G (some (.ref a) :: σ) (upd H a (.dK (putK vs k v))) L5 := R5
  obtain ⟨L6, s6, R6⟩ := R5'.store j
  rw [List.set_set, set_same ev] at R6
  exact ⟨W3, L6, R6, (E1.trans E3).trans (E5.less s6)⟩
/-- the list in the slot j loses an item, which stands on top -/
theorem Ows.pick : ∀ {n fp vs ds} {j : Nat} {c : Dt}, Ows K W H n fp vs ds → ds[j]? = some c → ∃ u A B C, fp = A ++ B ++ C ∧ vs[j]? = some u ∧ Ow K W H n B u c ∧ Ows K W H n (A ++ C) (vs.eraseIdx j) (ds.eraseIdx j)
  | _, _, _, _, j, _, .nil, e => by simp at e
  | _, _, _, _, 0, c, .cons (fp := f1) (gp := f2) (v := v) o r, e => by
    have e' := Option.some.inj e
    subst e'
    exact ⟨v, [], f1, f2, rfl, rfl, o, r⟩
  | _, _, _, _, j + 1, c, .cons (fp := f1) (gp := f2) o r, e => by
    obtain ⟨u, A, B, C, e1, e2, x, y⟩ := Ows.pick (j := j) r e
    refine ⟨u, f1 ++ A, B, C, by rw [e1]; simp [List.append_assoc], e2, x, ?_⟩
    have z := Ows.cons o y
    simp only [List.append_assoc] at z ⊢
    exact z
theorem Rel.popL {j i : Nat} {ds : List Dt} {m : Nat} {c : Dt} (R : Rel K W ρ G σ H L) (e : ρ[j]? = some (some (.lst ds, m))) (hm : 1 ≤ m) (ec : ds[i]? = some c) :
    ∃ a vs u, σ[j]? = some (some (.ref a)) ∧ H a = some (.lst vs) ∧ vs.length = ds.length ∧ vs[i]? = some u ∧ ∃ L', Rel K W (some (c, m - 1) :: ρ.set j (some (.lst (ds.eraseIdx i), m))) G (some u :: σ) (upd H a (.lst (vs.eraseIdx i))) L' ∧ Ext W W H (upd H a (.lst (vs.eraseIdx i))) L L' := by
  obtain ⟨v0, ev, R2⟩ := R.out e
  have em : m = (m - 1) + 1 := by omega
  rw [em] at R2
  obtain ⟨M0, s0, q0⟩ := R2.sl
  obtain ⟨A, B, e1, x, y⟩ := Sl.split (X := [some (.lst ds, m - 1 + 1)]) (τ := [some v0]) rfl s0
  obtain ⟨a, vs, gp, e2, rfl, ea, r⟩ := x.one_inv.lst_inv
  obtain ⟨u, A1, B1, C1, e3, eu, ou, rr⟩ := r.pick ec
  refine ⟨a, vs, u, ev, ea, r.length, eu, ?_⟩
  obtain ⟨L5, R5, E5⟩ := Rel.remade (a := a) (o := .lst (vs.eraseIdx i)) (Y := [some (.lst ds, m - 1 + 1)]) (τ := [some (.ref a)]) (Z := [some (.lst (ds.eraseIdx i), m - 1 + 1), some (c, m - 1)]) (υ := [some (.ref a), some u]) rfl R2 fun L1 nd s => by
    obtain ⟨a', vs', gp', e4, e5, ea', r'⟩ := s.one_inv.lst_inv
    cases e5
    rw [ea] at ea'
    cases ea'
    subst e4
    obtain ⟨u', A2, B2, C2, e6, eu', ou', rr'⟩ := r'.pick ec
    rw [eu] at eu'
    cases eu'
    subst e6
    have nd' := List.nodup_cons.mp nd
    have n1 := List.nodup_append.mp nd'.2
    have n2 := List.nodup_append.mp n1.1
    have nn : ((A2 ++ C2) ++ B2).Nodup := List.nodup_append.mpr ⟨List.nodup_append.mpr ⟨n2.1, n1.2.1, fun b hb c hc => n1.2.2 b (List.mem_append_left _ hb) c hc⟩, n2.2.1, fun b hb c hc e => by
      rcases List.mem_append.mp hb with z | z
      · exact n2.2.2 b z c hc e
      · exact n1.2.2 c (List.mem_append_right _ hc) b z e.symm⟩
    have sb : ∀ b ∈ (A2 ++ C2) ++ B2, b ∈ A2 ++ B2 ++ C2 := fun b hb => by
      simp only [List.mem_append] at hb ⊢
      rcases hb with (z | z) | z
      · exact .inl (.inl z)
      · exact .inr z
      · exact .inl (.inr z)
    have fr : ∀ (Z : List Addr), (∀ b ∈ Z, b ∈ A2 ++ B2 ++ C2) → ∀ b ∈ Z, ∀ o, H b = some o → upd H a (.lst (vs.eraseIdx i)) b = some o := fun Z hZ b hb o e => by
      rw [upd_ne (fun z => nd'.1 (by rw [← z]; exact hZ b hb))]
      exact e
    refine ⟨List.mem_cons_self, a :: ((A2 ++ C2) ++ B2), List.nodup_cons.mpr ⟨fun z => nd'.1 (sb a z), nn⟩, fun b hb => ?_, ?_⟩
    · rcases List.mem_cons.mp hb with z | z
      · rw [z]; exact List.mem_cons_self
      · exact List.mem_cons_of_mem _ (sb b z)
    · have z1 : Ow K W (upd H a (.lst (vs.eraseIdx i))) (m - 1 + 1) (a :: (A2 ++ C2)) (.ref a) (.lst (ds.eraseIdx i)) := .lst upd_same (rr'.frame (.refl _) (fr _ fun b hb => sb b (List.mem_append_left _ hb)))
      have z2 : Ow K W (upd H a (.lst (vs.eraseIdx i))) (m - 1) B2 u c := ou'.frame (.refl _) (fr _ fun b hb => sb b (List.mem_append_right _ hb))
      exact .yes z1 (Sl.of_ow z2)
  have R5' : Rel K W (some (.lst (ds.eraseIdx i), m - 1 + 1) :: some (c, m - 1) :: ρ.set j none) G (some (.ref a) :: some u :: σ) (upd H a (.lst (vs.eraseIdx i))) L5 := R5
  obtain ⟨L6, s6, R6⟩ := R5'.store (j + 1)
  have R6' : Rel K W (some (c, m - 1) :: (ρ.set j none).set j (some (.lst (ds.eraseIdx i), m - 1 + 1))) G (some u :: σ.set j (some (.ref a))) (upd H a (.lst (vs.eraseIdx i))) L6 := R6
  rw [List.set_set, set_same ev, ← em] at R6'
  exact ⟨L6, R6', E5.less s6⟩
end
end HD

set_option Elab.async false
set_option linter.all false
set_option maxRecDepth 100000
namespace HD
open PySem PySem.Spec PyProof.Rows L2
section
variable {K : PySem.W.Frag} {W W' W1 W2 : Wd} {H H' H1 H2 : Hp} {L L' L1 L2 M : List Addr} {ρ ρ' Y Y' : List Sv} {σ σ' τ τ' : St} {G G' : Gs}
/-- a cell is rewritten -/
theorem Rel.celSet {m : Nat} {a : Addr} {ds ds' : List Dt} {vs' : List V} (R : Rel K W ρ G σ H L) (ea : W.ca[m]? = some a) (eg : G[m]? = some ds) (r : Iss K W vs' ds') :
    Rel K W ρ (G.set m ds') σ (upd H a (.lst vs')) L ∧ Ext W W H (upd H a (.lst vs')) L L := by
  have ha : a ∈ W.ca := List.mem_of_getElem? ea
  obtain ⟨vs, e0, _⟩ := R.cel m a ds ea eg
  have k : ∀ b u, b ≠ a → H b = some u → upd H a (.lst vs') b = some u := fun b u hb e => by rw [upd_ne hb]; exact e
  have lk : ∀ {l : List Addr} {b : Addr}, b ∈ L → b ≠ a := fun {l b} hb z => R.offC b hb (z ▸ ha)
  obtain ⟨M, s, q⟩ := R.sl
  refine ⟨⟨⟨M, s.frame (.refl _) (fun b hb u e => k b u (fun z => R.offC b (q.mem_iff.mpr hb) (z ▸ ha)) e), q⟩, R.nd, R.offF, R.offC, fun b u e => k b u (fun z => ?_) (R.sub b u e), by rw [List.length_set]; exact R.len, fun n b es e1 e2 => ?_, R.cF, R.cnd⟩, ⟨.refl _, fun b u e n => absurd (e.symm.trans n) (by simp), fun b h n => absurd h n, fun b u e hn _ => k b u (fun z => hn (z ▸ ha)) e, fun b h => .inr h, fun b u e => ?_⟩⟩
  · rw [z, R.cF a ha] at e; cases e
  · by_cases hn : n = m
    · subst hn
      rw [ea] at e1
      cases e1
      rw [List.getElem?_set_self (get_lt eg)] at e2
      cases e2
      exact ⟨vs', upd_same, r⟩
    · rw [List.getElem?_set_ne (Ne.symm hn)] at e2
      obtain ⟨us, e3, z⟩ := R.cel n b es e1 e2
      refine ⟨us, k b _ (fun z => hn ?_) e3, z⟩
      subst z
      have h1 := get_lt e1
      have h2 := get_lt ea
      have g1 := (List.getElem?_eq_some_iff.mp e1).2
      have g2 := (List.getElem?_eq_some_iff.mp ea).2
      exact (List.getElem_inj R.cnd).mp (g1.trans g2.symm)
  · by_cases z : b = a
    · rw [z]; exact ⟨_, upd_same⟩
    · exact ⟨u, k b u z e⟩
theorem iss_set {vs ds} {j : Nat} {u : V} {c : Dt} (r : Iss K W vs ds) (x : Is K W u c) (h : j < ds.length) : Iss K W (vs.set j u) (ds.set j c) := by
  obtain ⟨A, B, C, e, y⟩ := (r.ows0 (H := fun _ => none)).set1 (.is x (.inl rfl)) h
  exact y.iss (.inl rfl)
end

/-! ## statements -/
section
variable {X : Cx} {Wx : WX} {e a b c o : Expr} {es : List Expr} {Ta Tb Tc : TED} {A : TTD} {T Tr : TAD} {pos p p2 p3 : Pos} {t : String} {tn x : Str} {i j : Nat} {g : TGD} {gs : TGsD} {ts : List Nat} {st : Stmt} {body rest : List Stmt} {S S' : TSD}
def dsNil : TSD := fun DD ev => DD.nx ev
def dsCons (S S' : TSD) : TSD := fun DD ev => S { DD with nx := fun ev1 => S' DD ev1 } ev
theorem dss_nil : DSs X Wx [] dsNil := pss_nil.imp fun D σ H ⟨W, ev, L, DD, R, t, c⟩ => c.nx ev σ W H L t R .refl
theorem dss_cons (h1 : DS X Wx st S) (h2 : DSs X Wx rest S') : DSs X Wx (st :: rest) (dsCons S S') := by
  refine (pss_cons h1 h2).imp fun D σ H q => ?_
  obtain ⟨W, ev, L, DD, R, t, c⟩ := q
  exact ⟨W, ev, L, _, R, t, ⟨fun ev1 σ' W' H' L' u R' E => ⟨W', ev1, L', DD, R', u, c.step E⟩, c.bk, c.ct, c.rt, c.ex⟩⟩
theorem dss_one (h1 : DS X Wx st S) : DSs X Wx [st] S := pss_one h1
def dsPass : TSD := fun DD ev => DD.nx ev
def dsBreak : TSD := fun DD ev => DD.bk ev
def dsCont : TSD := fun DD ev => DD.ct ev
theorem ds_pass : DS X Wx (.Pass pos) dsPass := ps_pass.imp fun D σ H ⟨W, ev, L, DD, R, t, c⟩ => c.nx ev σ W H L t R .refl
theorem ds_break : DS X Wx (.Break pos) dsBreak := ps_break.imp fun D σ H ⟨W, ev, L, DD, R, t, c⟩ => c.bk ev σ W H L t R .refl
theorem ds_continue : DS X Wx (.Continue pos) dsCont := ps_continue.imp fun D σ H ⟨W, ev, L, DD, R, t, c⟩ => c.ct ev σ W H L t R .refl
theorem ds_doc {x j} {pos' : Pos} : DS X Wx (.Expr (.Constant (.str x) j pos) pos') dsPass := ps_doc.imp fun D σ H ⟨W, ev, L, DD, R, t, c⟩ => c.nx ev σ W H L t R .refl
def dsExpr (Ta : TED) : TSD := fun DD ev => Ta ev (fun _ _ ev1 => DD.nx ev1) DD.ex
theorem ds_expr (he : DE X Wx e Ta) (hs : swapsWith e none pos.line X.env = pure false := by rfl) : DS X Wx (.Expr e pos) (dsExpr Ta) := by
  refine (ps_expr he hs).imp fun D σ H q => ?_
  obtain ⟨W, ev, L, DD, R, t, c⟩ := q
  refine ⟨W, ev, L, _, _, R, t, fun d n ev1 v W1 H1 L1 u R1 E => ?_, c.covX⟩
  obtain ⟨L2, hs, R2⟩ := R1.drop
  exact c.nx ev1 σ W1 H1 L2 u R2 (E.less hs)
def dsRet (Ta : TED) : TSD := fun DD ev => Ta ev (fun d n ev1 => DD.rt d n ev1.G) DD.ex
theorem ds_ret (he : DE X Wx e Ta) : DS X Wx (.Return (some e) pos) (dsRet Ta) := by
  refine (ps_ret he).imp fun D σ H q => ?_
  obtain ⟨W, ev, L, DD, R, t, c⟩ := q
  refine ⟨W, ev, L, _, _, R, t, fun d n ev1 v W1 H1 L1 u R1 E => ?_, c.covX⟩
  obtain ⟨L2, L3, p, R2, R3⟩ := R1.split (X := [some (d, n)]) (τ := [some v]) rfl
  exact c.rt d n ev1.G v W1 H1 L2 u R2 (E.less fun a ha => p.mem_iff.mpr (List.mem_append_left _ ha))
def dsRetN : TSD := fun DD ev => DD.rt .non topL ev.G
theorem ds_retN : DS X Wx (.Return none pos) dsRetN := by
  refine ps_retN.imp fun D σ H q => ?_
  obtain ⟨W, ev, L, DD, R, t, c⟩ := q
  obtain ⟨L2, L3, p, R2, R3⟩ := (R.put (v := .non) (n := topL) .non (.inr rfl)).split (X := [some (.non, topL)]) (τ := [some .non]) rfl
  exact c.rt .non topL ev.G .non W H L2 t R2 (Ext.refl.less fun a ha => p.mem_iff.mpr (List.mem_append_left _ ha))
def dsIf (A : TTD) (S S' : TSD) : TSD := fun DD ev => A ev (fun b ev1 => if b = true then S DD ev1 else S' DD ev1) DD.ex
theorem ds_if {b1 b2 : List Stmt} (hc : DT X Wx e A) (h1 : DSs X Wx b1 S) (h2 : DSs X Wx b2 S') : DS X Wx (.If e b1 b2 pos) (dsIf A S S') := by
  refine (ps_if hc h1 h2).imp fun D σ H q => ?_
  obtain ⟨W, ev, L, DD, R, t, c⟩ := q
  refine ⟨W, ev, L, _, _, R, t, fun b ev1 W1 H1 L1 u R1 E => ?_, c.covX⟩
  cases b with
  | true => exact iteT ⟨W1, ev1, L1, DD, R1, u, c.step E⟩
  | false => exact iteF ⟨W1, ev1, L1, DD, R1, u, c.step E⟩
/-- name = e -/
def dsSet (i : Nat) (Ta : TED) : TSD := fun DD ev => Ta ev (fun d n ev1 => DD.nx ⟨ev1.r.set i (some (d, n)), ev1.G⟩) DD.ex
theorem set_lift {D : Ends} {σ : St} {H : Hp} {K : PySem.W.Frag} (q : liftS K Wx (dsSet i Ta) D σ H) : tAsg (liftE K Wx Ta) (gName i) D σ H := by
  obtain ⟨W, ev, L, DD, R, t, c⟩ := q
  refine ⟨W, ev, L, _, _, R, t, fun d n ev1 v W1 H1 L1 u R1 E => ?_, c.covX⟩
  obtain ⟨L2, hs, R2⟩ := R1.store i
  exact c.nx _ _ W1 H1 L2 u R2 (E.less hs)
theorem ds_set {pos' : Pos} (hN : X.N.Nodup) (hi : X.N[i]? = some x) (hx : Loc X.env.scope x) (he : DE X Wx e Ta) (hs : swapsWith e (some (.Name x pos')) pos.line X.env = pure false := by rfl) (hf : X.fn x = true ∨ X.env.scope.names.lookup x = some .local := by first | exact .inl rfl | exact .inr rfl | assumption) :
    DS X Wx (.Assign [.Name x pos'] e pos) (dsSet i Ta) := (ps_set hN hi hx he hs hf).imp fun D σ H q => set_lift q
/-- target = e -/
def dsAsg (Ta : TED) (g : TGD) : TSD := fun DD ev => Ta ev (fun d n ev1 => g d n ev1 DD.nx) DD.ex
theorem ds_asg {tg : Expr} (he : DE X Wx e Ta) (hg : DG X tg ts g) (hs : swapsWithSole [tg] e pos.line X.env = pure false := by rfl) (hw : swappedStores [tg] e X.env = pure none := by rfl) (h1 : (assignEach [tg] X.env).map (·.2) = [assign tg X.env] := by rfl) :
    DS X Wx (.Assign [tg] e pos) (dsAsg Ta g) := by
  refine (ps_asg he hg hs hw h1).imp fun D σ H q => ?_
  obtain ⟨W, ev, L, DD, R, t, c⟩ := q
  exact ⟨W, ev, L, _, _, R, t, fun d n ev1 v W1 H1 L1 u R1 E => ⟨W1, d, n, ev1, L1, DD.nx, R1, u, fun ev' σ' W' H' L' u' _ R' E' => c.nx ev' σ' W' H' L' u' R' (E.trans E')⟩, c.covX⟩

/-! ### x[k] = v -/
def stD (ev : Ev) (j : Nat) (c : Dt) (m : Nat) (k d : Dt) (n : Nat) (P : Ev → Prop) : Prop := match c, k with
  | .lst ds, .int i => 1 ≤ m ∧ ∃ q, ixN ds.length i = some q ∧ P ⟨ev.r.set j (some (.lst (ds.set q d), min (m - 1) n + 1)), ev.G⟩
  | .dct kvs, .int i => 1 ≤ m ∧ kvs.length < sizeLine ∧ P ⟨ev.r.set j (some (.dct (putD kvs (.inl i) d), 1)), ev.G⟩
  | .dct kvs, .str i => 1 ≤ m ∧ kvs.length < sizeLine ∧ P ⟨ev.r.set j (some (.dct (putD kvs (.inr i) d), 1)), ev.G⟩
  | .cel a, .int i => ∃ ds q, ev.G[a]? = some ds ∧ ixN ds.length i = some q ∧ P ⟨ev.r, ev.G.set a (ds.set q d)⟩
  | _, _ => False
def gdSt (j : Nat) (Ti : TED) : TGD := fun d n ev P => Has ev j ∧ Ti ev (fun k _ ev1 => ∃ c m, ev1.r[j]? = some (some (c, m)) ∧ stD ev1 j c m k d n P) (fun _ _ _ => False)
def rSetA : TSet := fun o i v H Q => rSetL o i v H Q ∨ ∃ a H4, o = .ref a ∧ DPut H a i v H4 ∧ Q H4
theorem set_any (hu : X.A.units + 64 < cLine) : PSet X rSetA := by
  intro pins s σ H o i v ov iv u Q I ro ri rv h
  rcases h with h | ⟨a, H4, eo, g, q⟩
  · exact set_list pins s σ H o i v ov iv u Q I ro ri rv h
  · subst eo
    obtain rfl : ov = Value.ref a := ro
    exact d_setItem (by omega) I g ri rv fun s' I' => ⟨H4, I', q⟩
theorem dg_st {ie : Expr} (hu : X.A.units + 64 < cLine) (ho : PE X o (tVar j)) (hi : DE X (fun _ _ _ _ => False) ie Ta)
    (ha : ∀ v, assign (.Subscript o ie pos) X.env v = (do
      let ov ← holding [v] (eval o X.env)
      let iv ← holding [v, ov] (eval ie X.env)
      standAt pos
      holding [v, ov, iv] (setItem ov iv v)
      release [v, ov, iv] []) := by intro _; rfl) : DG X (.Subscript o ie pos) [] (gdSt j Ta) := by
  refine (pg_sub ho hi (set_any hu) ha).imp fun v σ H Q h => ?_
  obtain ⟨W, d, n, ev, L, P, R, ⟨⟨⟨c0, m0⟩, e0⟩, t⟩, c⟩ := h
  obtain ⟨A, B, fp, p, q, ow, RA, RB⟩ := R.pop
  obtain ⟨v0, _, ev0, _⟩ := RB.at e0
  refine ⟨v0, ev0, W, ev, B, _, _, RB, t, fun k nk ev1 u W1 H1 L1 z R1 E1 => ?_, fun _ _ _ _ _ _ _ z => z.elim⟩
  obtain ⟨cc, m, e1, z⟩ := z
  obtain ⟨R2, E2⟩ := Rel.push (X := [some (d, n)]) (τ := [some v]) (L1 := A) rfl (R.perm p) RA R1 E1
  have E3 := E2.permL p.symm
  have R2' : Rel X.K W1 (some (d, n) :: some (k, nk) :: ev1.r) ev1.G (some v :: some u :: σ) H1 (A ++ L1) := R2
  obtain ⟨_, _, fk, _, _, ok, _, _⟩ := R2'.swap.pop
  obtain ⟨L4, s4, R4⟩ := R2'.swap.drop
  have E4 := E3.less s4
  cases cc with
  | lst ds => cases k with
    | int i =>
      obtain ⟨h1, qq, hq, z⟩ := z
      obtain ⟨a, vs, ea, eh, hl, W5, L5, R5, E5⟩ := R4.alterL (ds' := ds.set qq d) (F := fun vs => vs.set qq v) e1 h1 fun W1 H1 q gp fb vs r x => by
        obtain ⟨A, B, C, e, y⟩ := r.set1 x (show qq < ds.length from (ixN_seq hq).2.1)
        refine ⟨A ++ fb ++ C, fun b hb => ?_, fun nd => ?_, y⟩
        · subst e
          simp only [List.mem_append] at hb ⊢
          rcases hb with (z | z) | z
          · exact .inl (.inl (.inl z))
          · exact .inr z
          · exact .inl (.inr z)
        · subst e
          have n1 := List.nodup_append.mp nd
          have n2 := List.nodup_append.mp n1.1
          have n3 := List.nodup_append.mp n2.1
          refine List.nodup_append.mpr ⟨List.nodup_append.mpr ⟨n3.1, n1.2.1, fun b hb c hc => n1.2.2 b (List.mem_append_left _ (List.mem_append_left _ hb)) c hc⟩, n2.2.1, fun b hb c hc => ?_⟩
          rcases List.mem_append.mp hb with z | z
          · exact n2.2.2 b (List.mem_append_left _ z) c hc
          · exact fun e => n1.2.2 c (List.mem_append_right _ hc) b z e.symm
      rw [ev0] at ea
      cases ea
      cases ok.int
      exact .inl ⟨a, vs, i, qq, rfl, rfl, eh, by rw [hl]; exact hq, c _ σ W5 _ L5 z .refl R5 (E4.trans E5)⟩
    | _ => exact (show False from z).elim
  | dct kvs => cases k with
    | int i =>
      obtain ⟨h1, hz, z⟩ := z
      obtain ⟨a, vs, ea, eh, hl, W5, L5, R5, E5⟩ := R4.alterD (k := .inl i) e1 h1
      rw [ev0] at ea
      cases ea
      cases ok.int
      exact .inr ⟨a, _, rfl, DPut.k (k := .inl i) eh (by rw [hl]; exact hz), c _ σ W5 _ L5 z .refl R5 (E4.trans E5)⟩
    | str i =>
      obtain ⟨h1, hz, z⟩ := z
      obtain ⟨a, vs, ea, eh, hl, W5, L5, R5, E5⟩ := R4.alterD (k := .inr i) e1 h1
      rw [ev0] at ea
      cases ea
      cases ok.str
      exact .inr ⟨a, _, rfl, DPut.k (k := .inr i) eh (by rw [hl]; exact hz), c _ σ W5 _ L5 z .refl R5 (E4.trans E5)⟩
    | _ => exact (show False from z).elim
  | cel m' => cases k with
    | int i =>
      obtain ⟨ds, qq, eg, hq, z⟩ := z
      obtain ⟨W5, L5, iv, R5, E5⟩ := R4.fz
      obtain ⟨v', f', ev', o'⟩ := R5.at e1
      obtain ⟨a, ea, ec⟩ := o'.cel
      rw [ev0] at ev'
      cases ev'
      subst ea
      obtain ⟨vs, eh, r⟩ := R5.cel m' a ds ec eg
      obtain ⟨R6, E6⟩ := R5.celSet ec eg (iss_set r iv (show qq < ds.length from (ixN_seq hq).2.1))
      cases ok.int
      exact .inl ⟨a, vs, i, qq, rfl, rfl, eh, by rw [r.length]; exact hq, c _ σ W5 _ _ z .refl R6 (E4.trans (E5.trans E6))⟩
    | _ => exact (show False from z).elim
  | _ => exact (show False from z).elim

/-! ### methods of a list in a slot -/
theorem tyV_lst {K : PySem.W.Frag} {W : Wd} {H : Hp} {n f v ds} (s : ∀ a o, W.F a = some o → H a = some o) (o : Ow K W H n f v (.lst ds)) : tyV K "list" v H := by
  obtain ⟨a, vs, rfl, ea, _⟩ := o.lstv s
  exact .inl ⟨rfl, vs, .inl (.inl ea)⟩
def dsAppend (j : Nat) (Ta : TED) : TSD := fun DD ev => (∃ ds m, ev.r[j]? = some (some (.lst ds, m))) ∧ Ta ev (fun d n ev1 => ∃ ds m, ev1.r[j]? = some (some (.lst ds, m)) ∧ 1 ≤ m ∧ ds.length < sizeLine ∧ DD.nx ⟨ev1.r.set j (some (.lst (ds ++ [d]), min (m - 1) n + 1)), ev1.G⟩) DD.ex
theorem ds_append {apos cpos : Pos} (ho : PE X o (tVar j)) (ha : DE X Wx a Ta) (hs : swapsWith (.Call (.Attribute o "append" apos) [a] [] cpos) none pos.line X.env = pure false := by rfl)
    (hbase : attributeBase o "append" X.env (eval o X.env) = eval o X.env := by rfl)
    (hfew : ((backTo cpos (starEach [a] X.env)).all (fun x => !x.1) && (backToKw cpos (keywordEach [] X.env)).all (fun x => x.1.isSome)
      && decide ([a].length + ([] : List Keyword).length + (if ([] : List Keyword).isEmpty then 0 else 1) < 30)) = true := by rfl)
    (hline : (apos.endLine == cpos.line) = true := by rfl) (he : starEach [a] X.env = (false, eval a X.env) :: starEach [] X.env := by rfl) (hplain : (backTo cpos (starEach [] X.env)).any (·.1) = false := by rfl) :
    DS X Wx (.Expr (.Call (.Attribute o "append" apos) [a] [] cpos) pos) (dsAppend j Ta) := by
  refine (ps_expr (pe_bm PySem.F.plainAttrs_list PySem.F.slot_list_append PySem.F.type_list_append mt_append ho (pa_cons ha pa_nil he) hbase hfew hline he hplain) hs).imp fun D σ H q => ?_
  obtain ⟨W, ev, L, DD, R, ⟨⟨ds0, m0, e0⟩, t⟩, c⟩ := q
  obtain ⟨v0, f0, ev0, o0⟩ := R.at e0
  refine ⟨v0, ev0, tyV_lst R.sub o0, W, ev, L, _, _, R, t, fun d n ev1 v W1 H1 L1 u R1 E => ?_, c.covX⟩
  obtain ⟨ds, m, e1, h1, hz, z⟩ := u
  obtain ⟨a, vs, ea, eh, hl, W5, L5, R5, E5⟩ := R1.alterL (ds' := ds ++ [d]) (F := fun vs => vs ++ [v]) e1 h1 fun W1 H1 q gp fb vs r x => by
    have y := Ows.cons x (.nil (K := X.K) (W := W1) (H := H1))
    rw [List.append_nil] at y
    exact ⟨gp ++ fb, fun b hb => hb, fun nd => nd, r.app y⟩
  rw [ev0] at ea
  cases ea
  exact ⟨a, vs, v, rfl, rfl, eh, by rw [hl]; exact hz, c.nx _ σ W5 _ L5 z R5 (E.trans E5)⟩
def dsExtend (j : Nat) (Ta : TED) : TSD := fun DD ev => (∃ ds m, ev.r[j]? = some (some (.lst ds, m))) ∧ Ta ev (fun d n ev1 => ∃ ds m es, d = .lst es ∧ ev1.r[j]? = some (some (.lst ds, m)) ∧ 1 ≤ m ∧ ds.length + es.length ≤ sizeLine ∧ DD.nx ⟨ev1.r.set j (some (.lst (ds ++ es), 1)), ev1.G⟩) DD.ex
theorem ds_extend {apos cpos : Pos} (ho : PE X o (tVar j)) (ha : DE X Wx a Ta) (hs : swapsWith (.Call (.Attribute o "extend" apos) [a] [] cpos) none pos.line X.env = pure false := by rfl)
    (hbase : attributeBase o "extend" X.env (eval o X.env) = eval o X.env := by rfl)
    (hfew : ((backTo cpos (starEach [a] X.env)).all (fun x => !x.1) && (backToKw cpos (keywordEach [] X.env)).all (fun x => x.1.isSome)
      && decide ([a].length + ([] : List Keyword).length + (if ([] : List Keyword).isEmpty then 0 else 1) < 30)) = true := by rfl)
    (hline : (apos.endLine == cpos.line) = true := by rfl) (he : starEach [a] X.env = (false, eval a X.env) :: starEach [] X.env := by rfl) (hplain : (backTo cpos (starEach [] X.env)).any (·.1) = false := by rfl) :
    DS X Wx (.Expr (.Call (.Attribute o "extend" apos) [a] [] cpos) pos) (dsExtend j Ta) := by
  refine (ps_expr (pe_bm PySem.F.plainAttrs_list PySem.F.slot_list_extend PySem.F.type_list_extend mt_extend ho (pa_cons ha pa_nil he) hbase hfew hline he hplain) hs).imp fun D σ H q => ?_
  obtain ⟨W, ev, L, DD, R, ⟨⟨ds0, m0, e0⟩, t⟩, c⟩ := q
  obtain ⟨v0, f0, ev0, o0⟩ := R.at e0
  refine ⟨v0, ev0, tyV_lst R.sub o0, W, ev, L, _, _, R, t, fun d n ev1 v W1 H1 L1 u R1 E => ?_, c.covX⟩
  obtain ⟨ds, m, es, rfl, e1, h1, hz, z⟩ := u
  obtain ⟨W2, L2, i2, R2, E2⟩ := R1.fz
  obtain ⟨b, us, rfl, eb, rb⟩ := i2.lst_inv
  -- the new parts stand frozen; they come as one list on top
  obtain ⟨v1, ev1', R3⟩ := R2.out e1
  obtain ⟨W4, L4, R4, E4⟩ := R3.downTop (m := 1) h1
  have rb' := rb.mono E4.le
  obtain ⟨M0, s0, q0⟩ := R4.sl
  obtain ⟨A, B, ee1, x, y⟩ := Sl.split (X := [some (.lst ds, 1)]) (τ := [some v1]) rfl s0
  obtain ⟨a, vs, gp, ee2, rfl, ea, r⟩ := x.one_inv.lst_inv
  rw [ev0] at ev1'
  cases ev1'
  obtain ⟨L5, R5, E5⟩ := Rel.remade (a := a) (o := .lst (vs ++ us)) (Y := [some (.lst ds, 1)]) (τ := [some (.ref a)]) (Z := [some (.lst (ds ++ es), 1)]) (υ := [some (.ref a)]) rfl R4 fun L1 nd s => by
    obtain ⟨a', vs', gp', e3, e4, ea', r'⟩ := s.one_inv.lst_inv
    cases e4
    rw [ea] at ea'
    cases ea'
    subst e3
    refine ⟨List.mem_cons_self, [a], List.nodup_cons.mpr ⟨by simp, List.nodup_nil⟩, fun b hb => ?_, Sl.of_ow (.lst upd_same ((iss_app (r'.iss (.inl rfl)) rb').ows0))⟩
    rw [List.mem_singleton.mp hb]
    exact List.mem_cons_self
  have R5' : Rel X.K W4 (some (.lst (ds ++ es), 1) :: ev1.r.set j none) ev1.G (some (.ref a) :: σ) (upd H1 a (.lst (vs ++ us))) L5 := R5
  obtain ⟨L6, s6, R6⟩ := R5'.store j
  rw [List.set_set, set_same ev0] at R6
  have sb : H1 b = some (.lst us) := R4.sub b _ (E4.le.F _ _ eb)
  exact ⟨a, b, vs, us, rfl, rfl, ea, sb, by rw [r.length, rb.length]; exact hz, c.nx _ σ W4 _ L6 z R6 (E.trans (E2.trans (E4.trans (E5.less s6))))⟩
/-- x.pop(): the last item -/
def dPop (j : Nat) : TED := fun ev P _ => ∃ ds d m, ev.r[j]? = some (some (.lst (ds ++ [d]), m)) ∧ 1 ≤ m ∧ P d (m - 1) ⟨ev.r.set j (some (.lst ds, m)), ev.G⟩
theorem erase_last {α : Type} : ∀ (l : List α), l.eraseIdx (l.length - 1) = l.dropLast
  | [] => rfl
  | [_] => rfl
  | a :: b :: r => by
    show a :: (b :: r).eraseIdx r.length = a :: (b :: r).dropLast
    rw [← erase_last (b :: r)] <;> rfl
theorem de_pop {apos cpos : Pos} (ho : PE X o (tVar j))
    (hbase : attributeBase o "pop" X.env (eval o X.env) = eval o X.env := by rfl) (hline : (apos.endLine == cpos.line) = true := by rfl) :
    DE X Wx (.Call (.Attribute o "pop" apos) [] [] cpos) (dPop j) := by
  refine (pe_bm0 PySem.F.plainAttrs_list PySem.F.slot_list_pop PySem.F.type_list_pop mt_pop ho hbase hline).imp fun σ H Q q => ?_
  obtain ⟨W, ev, L, P, Xc, R, ⟨ds, d, m, e0, h1, z⟩, c, cx⟩ := q
  obtain ⟨v0, f0, ev0, o0⟩ := R.at e0
  have hz : (ds ++ [d]).length - 1 = ds.length := by simp
  obtain ⟨a, vs, u, ea, eh, hl, eu, L', R', E'⟩ := R.popL (i := (ds ++ [d]).length - 1) (c := d) e0 h1 (by rw [hz]; simp)
  rw [ev0] at ea
  cases ea
  rw [erase_last, ← hl, erase_last, List.dropLast_concat] at R'
  rw [← hl, erase_last] at E'
  exact ⟨.ref a, ev0, tyV_lst R.sub o0, a, vs, u, rfl, rfl, eh, by rw [hl]; exact eu, c d (m - 1) ⟨ev.r.set j (some (.lst ds, m)), ev.G⟩ u W _ L' z R' E'⟩
end
end HD

set_option Elab.async false
set_option linter.all false
set_option maxRecDepth 100000
namespace HD
open PySem PySem.Spec PyProof.Rows L2
/-! ## what is walked -/
def YldD (K : PySem.W.Frag) (W : Wd) (H : Hp) (x : V) (H' : Hp) (d : Dt) : Prop :=
  (H' = H ∧ Is K W x d) ∨ ∃ T vs es, x = .ref T ∧ H T = none ∧ H' = upd H T (.tup vs) ∧ d = .tup es ∧ Iss K W vs es
structure Wk (K : PySem.W.Frag) (W : Wd) (J : It) (ds : List Dt) : Prop where
  go : ∀ (i : Nat) (d : Dt) (H : Hp), ds[i]? = some d → (∀ a o, W.F a = some o → H a = some o) → J.go i H ∧ ∀ x H', J.yld i H x H' → YldD K W H x H' d
  stop : ∀ (i : Nat) (H : Hp), ds.length ≤ i → (∀ a o, W.F a = some o → H a = some o) → J.stop i H
section
variable {K : PySem.W.Frag} {W W' W1 W2 : Wd} {H H' H1 H2 : Hp} {L L' L1 L2 M : List Addr} {ρ ρ' Y Y' : List Sv} {σ σ' τ τ' : St} {G G' : Gs}
theorem Wk.mono {J : It} {ds : List Dt} (h : W.le W') (k : Wk K W J ds) : Wk K W' J ds :=
  ⟨fun i d H e s => let ⟨a, b⟩ := k.go i d H e (fun a o q => s a o (h.F a o q)); ⟨a, fun x H' y => (b x H' y).imp (fun ⟨e, i⟩ => ⟨e, i.mono h⟩) fun ⟨T, vs, es, e1, e2, e3, e4, r⟩ => ⟨T, vs, es, e1, e2, e3, e4, r.mono h⟩⟩,
    fun i H e s => k.stop i H e fun a o q => s a o (h.F a o q)⟩
/-- the item comes on top -/
theorem Rel.item {x : V} {d : Dt} (R : Rel K W ρ G σ H L) (y : YldD K W H x H' d) : ∃ W' L', Rel K W' (some (d, d.lv) :: ρ) G (some x :: σ) H' L' ∧ Ext W W' H H' L L' := by
  rcases y with ⟨rfl, i⟩ | ⟨T, vs, es, rfl, hT, rfl, rfl, r⟩
  · exact ⟨W, L, R.put i (lv_ok d), .refl⟩
  · obtain ⟨L2, R2, E⟩ := Rel.made (X := []) (τ := []) (o := .tup vs) (d := .tup es) (n := lvs es) (fp := []) rfl R hT (fun L1 s s' => by
      cases s
      exact ow_tup_new upd_same r)
    obtain ⟨W3, L3, i3, R3, E3⟩ := R2.fz
    exact ⟨W3, L3, R3.put i3 (lv_ok _), E.trans E3⟩
theorem wk_list {a : Addr} {vs : List V} {ds : List Dt} (e : W.F a = some (.lst vs)) (r : Iss K W vs ds) : Wk K W (Itl K a) ds :=
  ⟨fun i d H h s => by
    obtain ⟨u, hu, iu⟩ := r.get h
    have q : SqL K H a vs := .inl (.inl (s _ _ e))
    exact ⟨⟨vs, u, q, hu⟩, fun x H' ⟨e', hx⟩ => .inl ⟨e', by
      have z := hx vs q
      rw [hu] at z
      cases z
      exact iu⟩⟩, fun i H h s => ⟨vs, .inl (.inl (s _ _ e)), by rw [r.length]; exact h⟩⟩
theorem wk_tup {a : Addr} {vs : List V} {ds : List Dt} (e : SqT K W.F a vs) (r : Iss K W vs ds) : Wk K W (Itt K a) ds :=
  ⟨fun i d H h s => by
    obtain ⟨u, hu, iu⟩ := r.get h
    have q : SqT K H a vs := sqT_mono s e
    exact ⟨⟨vs, u, q, hu⟩, fun x H' ⟨e', hx⟩ => .inl ⟨e', by
      have z := hx vs q
      rw [hu] at z
      cases z
      exact iu⟩⟩, fun i H h s => ⟨vs, sqT_mono s e, by rw [r.length]; exact h⟩⟩
def rangeD (lo : Int) (n : Nat) : List Dt := (List.range n).map fun (i : Nat) => Dt.int (lo + i)
theorem wk_range {lo : Int} {n : Nat} : Wk K W (Itr lo n) (rangeD lo n) :=
  ⟨fun i d H h s => by
    unfold rangeD at h
    rw [List.getElem?_map] at h
    cases q : (List.range n)[i]? with
    | none => rw [q] at h; cases h
    | some j =>
      rw [q] at h
      obtain ⟨hl, ej⟩ := List.getElem?_eq_some_iff.mp q
      rw [List.getElem_range] at ej
      subst ej
      cases h
      exact ⟨(show i < n by simpa using hl), fun x H' ⟨e1, e2⟩ => .inl ⟨e1, e2 ▸ .int⟩⟩, fun i H h s => by
    have : n ≤ i := by simpa [rangeD] using h
    exact this⟩
def keyDt : Key → Dt
  | .inl i => .int i
  | .inr x => .str x
theorem is_key {k : Key} : Is K W (kV k) (keyDt k) := by cases k <;> first | exact .int | exact .str
theorem wk_keys {d : Addr} {ob : Obj} {kvs : List (Key × V)} {kds : List (Key × Dt)} (e : W.F d = some (.frz ob (.dK kvs))) (r : Isk K W kvs kds) : Wk K W (Itk d ob kvs) (kds.map fun kv => keyDt kv.1) := by
  have hk : ∀ {kvs : List (Key × V)} {kds : List (Key × Dt)}, Isk K W kvs kds → kvs.map (·.1) = kds.map (·.1) := fun {kvs kds} r => by
    induction kvs generalizing kds with
    | nil => cases r; rfl
    | cons u us ih => cases r with | cons _ r => exact congrArg (_ :: ·) (ih r)
  have hkk := hk r
  refine ⟨fun i x H h s => ?_, fun i H h s => ⟨s _ _ e, ?_⟩⟩
  · rw [List.getElem?_map] at h
    cases q : kds[i]? with
    | none => rw [q] at h; cases h
    | some kd =>
      rw [q] at h
      cases h
      have z : (kvs.map (·.1))[i]? = some kd.1 := by rw [hkk, List.getElem?_map, q] <;> rfl
      rw [List.getElem?_map] at z
      refine ⟨⟨s _ _ e, ?_⟩, fun x H' ⟨e1, k, v, e2, e3⟩ => .inl ⟨e1, ?_⟩⟩
      · cases w : kvs[i]? with
        | none => rw [w] at z; cases z
        | some _ => exact get_lt w
      · rw [e2] at z
        have zz : k = kd.1 := Option.some.inj z
        rw [e3, zz]
        exact is_key
  · have := congrArg List.length hkk
    simp only [List.length_map] at this h
    omega
end
/-- one after the other -/
def enumD (ds : List Dt) : List Dt := ds.zipIdx.map fun p => .tup [.int (p.2 : Nat), p.1]
def zipD (ds es : List Dt) : List Dt := (ds.zip es).map fun p => .tup [p.1, p.2]
section
variable {K : PySem.W.Frag} {W : Wd}
theorem wk_enum {a : Addr} {vs : List V} {ds : List Dt} (e : W.F a = some (.lst vs)) (r : Iss K W vs ds) : Wk K W (Ite K a) (enumD ds) :=
  ⟨fun i d H h s => by
    unfold enumD at h
    rw [List.getElem?_map, List.getElem?_zipIdx] at h
    cases q : ds[i]? with
    | none => rw [q] at h; cases h
    | some c =>
      rw [q] at h
      cases h
      obtain ⟨u, hu, iu⟩ := r.get q
      have qq : SqL K H a vs := .inl (.inl (s _ _ e))
      refine ⟨⟨vs, u, qq, hu⟩, fun x H' ⟨T, y, e1, e2, e3, e4⟩ => .inr ⟨T, _, _, e1, e2, e3, rfl, ?_⟩⟩
      have z := e4 vs qq
      rw [hu] at z
      cases z
      have e0 : (((0 + i : Nat) : Nat) : Int) = (i : Nat) := by simp
      show Iss K W [.int (i : Nat), u] [.int ((0 + i : Nat) : Nat), c]
      rw [e0]
      exact .cons .int (.cons iu .nil), fun i H h s => ⟨vs, .inl (.inl (s _ _ e)), by rw [r.length]; simpa [enumD] using h⟩⟩
theorem wk_zip {a b : Addr} {vs us : List V} {ds es : List Dt} (e : W.F a = some (.lst vs)) (r : Iss K W vs ds) (e' : W.F b = some (.lst us)) (r' : Iss K W us es) : Wk K W (Itz K a b) (zipD ds es) :=
  ⟨fun i d H h s => by
    unfold zipD at h
    rw [List.getElem?_map] at h
    cases q : (ds.zip es)[i]? with
    | none => rw [q] at h; cases h
    | some c =>
      rw [q] at h
      cases h
      obtain ⟨h1, h2⟩ := List.getElem?_zip_eq_some.mp q
      obtain ⟨u, hu, iu⟩ := r.get h1
      obtain ⟨w, hw, iw⟩ := r'.get h2
      have qq : SqL K H a vs := .inl (.inl (s _ _ e))
      have qq' : SqL K H b us := .inl (.inl (s _ _ e'))
      refine ⟨⟨vs, us, u, w, qq, qq', hu, hw⟩, fun x H' ⟨T, y, z, e1, e2, e3, e4, e5⟩ => .inr ⟨T, _, _, e1, e2, e3, rfl, ?_⟩⟩
      have z1 := e4 vs qq
      rw [hu] at z1
      cases z1
      have z2 := e5 us qq'
      rw [hw] at z2
      cases z2
      exact .cons iu (.cons iw .nil), fun i H h s => ⟨vs, us, .inl (.inl (s _ _ e)), .inl (.inl (s _ _ e')), by
    rw [r.length, r'.length]
    simp [zipD] at h
    omega⟩⟩
end
abbrev TID := Ev → (List Dt → Ev → Prop) → Xv → Prop
def liftI (K : PySem.W.Frag) (Wx : WX) (T : TID) : TI := fun σ H R => ∃ W ev L P Xc, Rel K W ev.r ev.G σ H L ∧ T ev P Xc ∧
  (∀ ds ev1 J W' H' L', P ds ev1 → Rel K W' ev1.r ev1.G σ H' L' → Wk K W' J ds → Ext W W' H H' L L' → R J H') ∧ CovX K Wx W H L σ Xc
section
variable {X : Cx} {Wx : WX} {e a b c o tg iter : Expr} {es : List Expr} {Ta Tb Tc : TED} {A : TTD} {T Tr : TAD} {TI1 : TID} {pos p p2 p3 : Pos} {t : String} {tn x : Str} {i j : Nat} {g : TGD} {ts : List Nat} {st : Stmt} {body rest : List Stmt} {S S' : TSD}
abbrev DI (X : Cx) (Wx : WX) (tg e : Expr) (T : TID) : Prop := PI X tg e (liftI X.K Wx T)
theorem _root_.L2.PI.imp {tg e : Expr} {t t' : TI} (h : PI X tg e t) (k : ∀ σ H Q, t' σ H Q → t σ H Q) : PI X tg e t' := ⟨fun pins s σ H R I q => h.run pins s σ H R I (k σ H R q)⟩
/-- a list or a tuple -/
def diSeq (Ta : TED) : TID := fun ev P Xc => Ta ev (fun d _ ev1 => match d with | .lst ds => P ds ev1 | .tup ds => P ds ev1 | _ => False) Xc
def iSeq (K : PySem.W.Frag) (tl : TE) : TI := fun σ H R => tl σ H fun x H1 => ∃ a, x = .ref a ∧ (((∃ xs, SqL K H1 a xs) ∧ R (Itl K a) H1) ∨ ((∃ xs, SqT K H1 a xs) ∧ R (Itt K a) H1))
theorem pi_seq {l : Expr} {tl : TE} (hl : PE X l tl) : PI X tg l (iSeq X.K tl) := by
  refine ⟨fun pins s σ H R I h => ?_⟩
  refine thn (hl.run pins s σ H _ I h) fun v s1 ⟨x, H1, I1, r1, q1⟩ => ?_
  obtain ⟨a, rfl, q⟩ := q1
  cases r1
  rcases q with ⟨⟨xs, hq⟩, q⟩ | ⟨⟨xs, hq⟩, q⟩
  · obtain ⟨its, rv, p, hz⟩ := I1.list hq
    refine wpAny_pyIter_list p.isList ?_
    refine ⟨s1.heap.objs.size, [s1.heap.objs.size], _, _, H1, rfl, I1.kept (t' := s1.toks) fun b o e => Heap.get?_push_of_some _ e, turn_list a _, ⟨_, Heap.get?_push_size _ rfl, rfl, rfl⟩, fun b hb => ?_, q⟩
    have e : b = s1.heap.objs.size := by simpa using hb
    subst e
    exact I1.fpOk (Nat.le_refl _) (I1.hok.fresh (Nat.le_refl _))
  · obtain ⟨its, rv, p, hz⟩ := I1.tuple hq
    refine wpAny_pyIter_tuple (show s1.heap.IsTuple a its.toArray from p) ?_
    refine ⟨s1.heap.objs.size, [s1.heap.objs.size], _, _, H1, rfl, I1.kept (t' := s1.toks) fun b o e => Heap.get?_push_of_some _ e, turn_tuple a _, ⟨_, Heap.get?_push_size _ rfl, rfl, rfl⟩, fun b hb => ?_, q⟩
    have e : b = s1.heap.objs.size := by simpa using hb
    subst e
    exact I1.fpOk (Nat.le_refl _) (I1.hok.fresh (Nat.le_refl _))
theorem di_seq (ha : DE X Wx a Ta) : DI X Wx tg a (diSeq Ta) := by
  refine (pi_seq ha).imp fun σ H Q q => ?_
  obtain ⟨W, ev, L, P, Xc, R, t, c, cx⟩ := q
  refine ⟨W, ev, L, _, Xc, R, t, fun d n ev1 v W1 H1 L1 u R1 E => ?_, cx⟩
  obtain ⟨W2, L2, i2, R2, E2⟩ := R1.fz
  cases d with
  | lst ds =>
    obtain ⟨a, vs, rfl, ea, r⟩ := i2.lst_inv
    exact ⟨a, rfl, .inl ⟨⟨vs, .inl (.inl (R2.sub _ _ ea))⟩, c ds ev1 _ W2 H1 L2 u R2 (wk_list ea r) (E.trans E2)⟩⟩
  | tup ds =>
    obtain ⟨a, vs, rfl, ea, r⟩ := i2.tup_inv
    exact ⟨a, rfl, .inr ⟨⟨vs, sqT_sub R2.sub ea⟩, c ds ev1 _ W2 H1 L2 u R2 (wk_tup ea r) (E.trans E2)⟩⟩
  | _ => exact u.elim
theorem Rel.dropAll {K : PySem.W.Frag} {W : Wd} {H : Hp} {L : List Addr} {Y ρ : List Sv} {τ σ : St} {G : Gs} (hl : Y.length = τ.length) (R : Rel K W (Y ++ ρ) G (τ ++ σ) H L) : ∃ L', (∀ a ∈ L', a ∈ L) ∧ Rel K W ρ G σ H L' := by
  obtain ⟨L1, L2, p, _, R2⟩ := R.split hl
  exact ⟨L2, fun a ha => p.mem_iff.mpr (List.mem_append_right _ ha), R2⟩
def B62 (j : Int) : Prop := -(2 ^ 62) ≤ j ∧ j < 2 ^ 62
def diRange1 (Ta : TED) : TID := fun ev P Xc => Ta ev (fun d _ ev1 => match d with | .int j => B62 j ∧ P (rangeD 0 j.toNat) ev1 | _ => False) Xc
def diRange2 (Ta Tb : TED) : TID := fun ev P Xc => Ta ev (fun d1 _ ev1 => Tb ev1 (fun d2 _ ev2 => match d1, d2 with | .int i, .int j => B62 i ∧ B62 j ∧ P (rangeD i (j - i).toNat) ev2 | _, _ => False) Xc) Xc
theorem di_range1 (hm : X.mg "range" = none) (ha : DE X Wx a Ta) (hg : Gl X "range" := by rfl) (hs : starEach [a] X.env = [(false, eval a X.env)] := by rfl) (he : starEach [a] X.env = (false, eval a X.env) :: starEach [] X.env := by rfl) : DI X Wx tg (.Call (.Name "range" p) [a] [] pos) (diRange1 Ta) := by
  refine (pi_range1 hg hm (pa_cons ha pa_nil he) hs).imp fun σ H Q q => ?_
  obtain ⟨W, ev, L, P, Xc, R, t, c, cx⟩ := q
  refine ⟨W, ev, L, _, Xc, R, t, fun d n ev1 v W1 H1 L1 u R1 E => ?_, cx⟩
  obtain ⟨L2, s2, R2⟩ := R1.drop
  cases d with
  | int j => exact ⟨j, by rw [R1.int], u.1.1, u.1.2, c _ ev1 _ W1 H1 L2 u.2 R2 wk_range (E.less s2)⟩
  | _ => exact u.elim
theorem di_range2 (hm : X.mg "range" = none) (ha : DE X Wx a Ta) (hb : DE X Wx b Tb) (hg : Gl X "range" := by rfl) (hs : starEach [a, b] X.env = [(false, eval a X.env), (false, eval b X.env)] := by rfl) (hs2 : starEach [b] X.env = [(false, eval b X.env)] := by rfl)
    (he : starEach [a, b] X.env = (false, eval a X.env) :: starEach [b] X.env := by rfl) (he2 : starEach [b] X.env = (false, eval b X.env) :: starEach [] X.env := by rfl) : DI X Wx tg (.Call (.Name "range" p) [a, b] [] pos) (diRange2 Ta Tb) := by
  refine (pi_range2 hg hm (pa_cons ha (pa_cons hb pa_nil he2) he) hs hs2).imp fun σ H Q q => ?_
  obtain ⟨W, ev, L, P, Xc, R, t, c, cx⟩ := q
  refine ⟨W, ev, L, _, Xc, R, t, fun d n ev1 v W1 H1 L1 u R1 E => ?_, cx⟩
  obtain ⟨L2, s2, R2⟩ := R1.drop
  refine ⟨W1, ev1, L2, _, Xc, R2, u, fun d2 n2 ev2 v2 W3 H3 L3 u2 R3 E3 => ?_, (cx.step E).sub s2⟩
  obtain ⟨L4, s4, R4⟩ := R3.drop
  cases d with
  | int i => cases d2 with
    | int j => exact ⟨i, j, by rw [R1.int, R3.int], ⟨u2.1.1, u2.1.2, u2.2.1.1, u2.2.1.2⟩, c _ ev2 _ W3 H3 L4 u2.2.2 R4 wk_range ((E.less s2).trans (E3.less s4))⟩
    | _ => exact u2.elim
  | _ => cases d2 <;> exact u2.elim
def diEnum (Ta : TED) : TID := fun ev P Xc => Ta ev (fun d _ ev1 => match d with | .lst ds => P (enumD ds) ev1 | _ => False) Xc
theorem di_enum {elts : List Expr} {kk : Nat} {tpos : Pos} (hm : X.mg "enumerate" = none) (ha : DE X Wx a Ta) (hg : Gl X "enumerate" := by rfl) (hs : starEach [a] X.env = [(false, eval a X.env)] := by rfl) (he : starEach [a] X.env = (false, eval a X.env) :: starEach [] X.env := by rfl) : DI X Wx (.Tuple elts kk tpos) (.Call (.Name "enumerate" p) [a] [] pos) (diEnum Ta) := by
  refine (pi_enum hg hm (pa_cons ha pa_nil he) hs).imp fun σ H Q q => ?_
  obtain ⟨W, ev, L, P, Xc, R, t, c, cx⟩ := q
  refine ⟨W, ev, L, _, Xc, R, t, fun d n ev1 v W1 H1 L1 u R1 E => ?_, cx⟩
  obtain ⟨W2, L2, i2, R2, E2⟩ := R1.fz
  cases d with
  | lst ds =>
    obtain ⟨a, vs, rfl, ea, r⟩ := i2.lst_inv
    exact ⟨a, vs, rfl, .inl (.inl (R2.sub _ _ ea)), c _ ev1 _ W2 H1 L2 u R2 (wk_enum ea r) (E.trans E2)⟩
  | _ => exact u.elim
def diZip (Ta Tb : TED) : TID := fun ev P Xc => Ta ev (fun d1 _ ev1 => Tb ev1 (fun d2 _ ev2 => match d1, d2 with | .lst ds, .lst es => P (zipD ds es) ev2 | _, _ => False) Xc) Xc

/-! ## for -/
/-- turn by turn -/
def dLoop (g : TGD) (body : TSD) (DD : EndsD) : List Dt → Ev → Prop
  | [], ev => DD.nx ev
  | d :: ds, ev => g d d.lv ev fun ev1 => body { DD with nx := dLoop g body DD ds, ct := dLoop g body DD ds, bk := DD.nx } ev1
def dsFor (TI1 : TID) (g : TGD) (body : TSD) : TSD := fun DD ev => TI1 ev (fun ds ev1 => dLoop g body DD ds ev1) DD.ex
/-- the machine's loop, from the turns on data -/
theorem loop_lift {K : PySem.W.Frag} {W1 : Wd} {H1 : Hp} {L1 : List Addr} {ds : List Dt} {ev1 : Ev} {J : It} {DD : EndsD} {D : Ends} {σ : St} (u : dLoop g S DD ds ev1) (R1 : Rel K W1 ev1.r ev1.G σ H1 L1) (wk : Wk K W1 J ds) (c : CovS K Wx W1 H1 L1 DD D) :
    ∃ Wi : Nat → Nat → St → Hp → Prop, (∃ m, Wi 0 m σ H1) ∧ ∀ i m σ H, Wi i m σ H →
      (J.stop i H ∧ D.nx σ H) ∨ (J.go i H ∧ ∃ N : St → Hp → Prop, (∀ σ' H', N σ' H' → ∃ m', m' < m ∧ Wi (i + 1) m' σ' H') ∧ ∀ x H', J.yld i H x H' → liftG K ts g x σ H' fun σ2 H2 => liftS K Wx S { D with nx := N, ct := N, bk := D.nx } σ2 H2) := by
  refine ⟨fun i m σ H => m = ds.length - i ∧ i ≤ ds.length ∧ ∃ W2 ev2 L2, Rel K W2 ev2.r ev2.G σ H L2 ∧ Ext W1 W2 H1 H L1 L2 ∧ dLoop g S DD (ds.drop i) ev2, ⟨_, rfl, Nat.zero_le _, W1, ev1, L1, R1, .refl, u⟩, ?_⟩
  rintro i m σ2 H2 ⟨rfl, hi, W2, ev2, L2, R2, E2, u2⟩
  have wk2 := wk.mono E2.le
  by_cases hlt : i < ds.length
  · have hd : ds[i]? = some ds[i] := List.getElem?_eq_getElem hlt
    rw [List.drop_eq_getElem_cons hlt] at u2
    obtain ⟨go, yl⟩ := wk2.go i _ H2 hd R2.sub
    refine .inr ⟨go, fun σ' H' => ∃ W3 ev3 L3, Rel K W3 ev3.r ev3.G σ' H' L3 ∧ Ext W1 W3 H1 H' L1 L3 ∧ dLoop g S DD (ds.drop (i + 1)) ev3, fun σ' H' ⟨W3, ev3, L3, a, b, d⟩ => ⟨ds.length - (i + 1), by omega, rfl, hlt, W3, ev3, L3, a, b, d⟩, fun x H' y => ?_⟩
    obtain ⟨W4, L4, R4, E4⟩ := R2.item (yl x H' y)
    refine ⟨W4, _, _, ev2, L4, _, R4, u2, fun ev' σ' W' H' L' u' _ R' E' => ?_⟩
    have E := E2.trans (E4.trans E')
    exact ⟨W', ev', L', _, R', u', ⟨fun ev3 σ3 W3 H3 L3 u3 R3 E3 => ⟨W3, ev3, L3, R3, E.trans E3, u3⟩, fun ev3 σ3 W3 H3 L3 u3 R3 E3 => c.nx ev3 σ3 W3 H3 L3 u3 R3 (E.trans E3),
      fun ev3 σ3 W3 H3 L3 u3 R3 E3 => ⟨W3, ev3, L3, R3, E.trans E3, u3⟩, fun d n G v W3 H3 L3 u3 R3 E3 => c.rt d n G v W3 H3 L3 u3 R3 (E.trans E3), fun C f ev3 σ3 dx W3 H3 L3 u3 R3 x3 E3 => c.ex C f ev3 σ3 dx W3 H3 L3 u3 R3 x3 (E.trans E3)⟩⟩
  · have e : i = ds.length := by omega
    subst e
    rw [List.drop_length] at u2
    exact .inl ⟨wk2.stop _ H2 (Nat.le_refl _) R2.sub, c.nx ev2 σ2 W2 H2 L2 u2 R2 E2⟩
theorem ds_for (hp : PassesOwn (model X.prog X.w) X.A X.env X.xe) (hc : X.calm = true) (hi : DI X Wx tg iter TI1) (hg : DG X tg ts g) (hb : DSs X Wx body S) (hs : ∀ x, foldedSetIterable iter X.env x = pure x := by intro _; rfl) : DS X Wx (.For tg iter body [] pos) (dsFor TI1 g S) := by
  refine (ps_for hp hc hi hg hb hs).imp fun D σ H q => ?_
  obtain ⟨W, ev, L, DD, R, t, c⟩ := q
  exact ⟨W, ev, L, _, _, R, t, fun ds ev1 J W1 H1 L1 u R1 wk E => loop_lift u R1 wk (c.step E), c.covX⟩

/-! ## while -/
def dsWhile (A : TTD) (S : TSD) : TSD := fun DD ev => ∃ I : Nat → Ev → Prop, (∃ m, I m ev) ∧ ∀ m ev, I m ev → A ev (fun b ev1 => if b = true then S { DD with nx := fun ev2 => ∃ m', m' < m ∧ I m' ev2, ct := fun ev2 => ∃ m', m' < m ∧ I m' ev2, bk := DD.nx } ev1 else DD.nx ev1) DD.ex
theorem ds_while (hp : PassesOwn (model X.prog X.w) X.A X.env X.xe) (hc : DT X Wx e A) (hb : DSs X Wx body S) : DS X Wx (.While e body [] pos) (dsWhile A S) := by
  refine (ps_while hp hc hb).imp fun D σ H q => ?_
  obtain ⟨W, ev, L, DD, R, ⟨I, ⟨m0, i0⟩, turn⟩, c⟩ := q
  refine ⟨fun m σ' H' => ∃ W2 ev2 L2, Rel X.K W2 ev2.r ev2.G σ' H' L2 ∧ Ext W W2 H H' L L2 ∧ I m ev2, ⟨m0, W, ev, L, R, .refl, i0⟩, ?_⟩
  rintro m σ2 H2 ⟨W2, ev2, L2, R2, E2, i2⟩
  refine ⟨W2, ev2, L2, _, _, R2, turn m ev2 i2, fun b ev3 W3 H3 L3 u R3 E3 => ?_, (c.step E2).covX⟩
  have E := E2.trans E3
  cases b with
  | true =>
    refine iteT ⟨fun σ' H' => ∃ W4 ev4 L4, Rel X.K W4 ev4.r ev4.G σ' H' L4 ∧ Ext W W4 H H' L L4 ∧ ∃ m', m' < m ∧ I m' ev4, fun σ' H' ⟨W4, ev4, L4, a, b, m', hm, i4⟩ => ⟨m', hm, W4, ev4, L4, a, b, i4⟩, W3, ev3, L3, _, R3, u, ?_⟩
    exact ⟨fun ev4 σ4 W4 H4 L4 u4 R4 E4 => ⟨W4, ev4, L4, R4, E.trans E4, u4⟩, fun ev4 σ4 W4 H4 L4 u4 R4 E4 => c.nx ev4 σ4 W4 H4 L4 u4 R4 (E.trans E4),
      fun ev4 σ4 W4 H4 L4 u4 R4 E4 => ⟨W4, ev4, L4, R4, E.trans E4, u4⟩, fun d n G v W4 H4 L4 u4 R4 E4 => c.rt d n G v W4 H4 L4 u4 R4 (E.trans E4), fun C f ev4 σ4 dx W4 H4 L4 u4 R4 x4 E4 => c.ex C f ev4 σ4 dx W4 H4 L4 u4 R4 x4 (E.trans E4)⟩
  | false => exact iteF (c.nx ev3 σ2 W3 H3 L3 u R3 E)
end
end HD

set_option Elab.async false
set_option linter.all false
set_option maxRecDepth 100000
namespace HD
open PySem PySem.Spec PyProof.Rows L2
section
variable {K : PySem.W.Frag} {W W' W1 W2 : Wd} {H H' H1 H2 : Hp} {L L' L1 L2 M : List Addr} {ρ ρ' Y Y' : List Sv} {σ σ' τ τ' : St} {G G' : Gs}
/-- what stands below the top value is moved, the top stays -/
theorem Rel.under {s : Sv} {t : Option V} (R : Rel K W (s :: ρ) G (t :: σ) H L) : ∃ La Lb, Rel K W ρ G σ H Lb ∧ (∀ a ∈ Lb, a ∈ L) ∧
    ∀ {W' : Wd} {ρ' : List Sv} {G' : Gs} {σ' : St} {H' : Hp} {L' : List Addr}, Rel K W' ρ' G' σ' H' L' → Ext W W' H H' Lb L' → Rel K W' (s :: ρ') G' (t :: σ') H' (La ++ L') ∧ Ext W W' H H' L (La ++ L') := by
  obtain ⟨La, Lb, p, Ra, Rb⟩ := Rel.split (X := [s]) (τ := [t]) rfl R
  refine ⟨La, Lb, Rb, fun a ha => p.mem_iff.mpr (List.mem_append_right _ ha), fun {W' ρ' G' σ' H' L'} R' E' => ?_⟩
  obtain ⟨R3, E3⟩ := Rel.push (X := [s]) (τ := [t]) (L1 := La) rfl (R.perm p) Ra R' E'
  exact ⟨R3, E3.permL p.symm⟩
def wipeL (r : List Sv) : List Nat → List Sv
  | [] => r
  | v :: vs => (wipeL r vs).set v none
def Ev.wipe (ev : Ev) (vs : List Nat) : Ev := ⟨wipeL ev.r vs, ev.G⟩
theorem Rel.no {t : Option V} (R : Rel K W ρ G σ H L) : Rel K W (none :: ρ) G (t :: σ) H L :=
  let ⟨M, s, p⟩ := R.sl
  ⟨⟨M, .no s, p⟩, R.nd, R.offF, R.offC, R.sub, R.len, R.cel, R.cF, R.cnd⟩
theorem Rel.wiped (R : Rel K W ρ G σ H L) : ∀ vs : List Nat, ∃ L', (∀ a ∈ L', a ∈ L) ∧ Rel K W (wipeL ρ vs) G (wipe σ vs) H L'
  | [] => ⟨L, fun _ h => h, R⟩
  | v :: vs => by
    obtain ⟨L1, s1, R1⟩ := R.wiped vs
    obtain ⟨L2, s2, R2⟩ := (R1.no (t := none)).store v
    exact ⟨L2, fun a ha => s1 a (s2 a ha), R2⟩
/-- other values at slots of which nothing is known -/
theorem Sl.resig : ∀ {ρ : List Sv} {σ σ' : St} {M}, Sl K W H ρ σ M → σ'.length = σ.length → (∀ (i : Nat) s, ρ[i]? = some (some s) → σ'[i]? = σ[i]?) → Sl K W H ρ σ' M
  | _, _, σ', _, .nil, h, _ => by
    cases σ' with
    | nil => exact .nil
    | cons _ _ => cases h
  | _, _, σ', _, .no r, h, k => by
    cases σ' with
    | nil => cases h
    | cons t τ => exact .no (Sl.resig r (Nat.succ.inj h) fun i s e => k (i + 1) s e)
  | _, _, σ', _, .yes o r, h, k => by
    cases σ' with
    | nil => cases h
    | cons t τ =>
      have e0 := k 0 _ rfl
      have e0' : t = some _ := Option.some.inj e0
      subst e0'
      exact .yes o (Sl.resig r (Nat.succ.inj h) fun i s e => k (i + 1) s e)
theorem Rel.resig (R : Rel K W ρ G σ H L) (h : σ'.length = σ.length) (k : ∀ (i : Nat) s, ρ[i]? = some (some s) → σ'[i]? = σ[i]?) : Rel K W ρ G σ' H L :=
  let ⟨M, s, p⟩ := R.sl
  ⟨⟨M, s.resig h k, p⟩, R.nd, R.offF, R.offC, R.sub, R.len, R.cel, R.cF, R.cnd⟩
theorem wipeL_get : ∀ (vs : List Nat) (i : Nat) (s : Dt × Nat), (wipeL ρ vs)[i]? = some (some s) → i ∉ vs
  | [], _, _, _ => by simp
  | v :: vs, i, s, h => by
    have h' : ((wipeL ρ vs).set v none)[i]? = some (some s) := h
    by_cases e : v = i
    · subst e
      by_cases hv : v < (wipeL ρ vs).length
      · rw [List.getElem?_set_self hv] at h'; cases h'
      · rw [List.getElem?_eq_none (by simpa using hv)] at h'; cases h'
    · rw [List.getElem?_set_ne e] at h'
      intro hm
      rcases List.mem_cons.mp hm with z | z
      · exact e z.symm
      · exact wipeL_get vs i s h' z
theorem wipe_get : ∀ (vs : List Nat) (i : Nat), i ∉ vs → (wipe σ vs)[i]? = σ[i]?
  | [], _, _ => rfl
  | v :: vs, i, h => by
    show ((wipe σ vs).set v none)[i]? = σ[i]?
    rw [List.getElem?_set_ne (fun e => h (by simp [e]))]
    exact wipe_get vs i fun z => h (List.mem_cons_of_mem _ z)
theorem wipe_at : ∀ (vs : List Nat) (i : Nat), i ∈ vs → (wipe σ vs)[i]? = if i < σ.length then some none else none
  | v :: vs, i, h => by
    show ((wipe σ vs).set v none)[i]? = _
    by_cases e : v = i
    · subst e
      split
      · rw [List.getElem?_set_self (by rw [wipe_length]; assumption)]
      · rw [List.getElem?_eq_none]
        rw [List.length_set, wipe_length]
        omega
    · rw [List.getElem?_set_ne e]
      rcases List.mem_cons.mp h with z | z
      · exact absurd z.symm e
      · exact wipe_at vs i z
theorem wipe_out {ts vs : List Nat} {σ2 : St} (o : Out ts (wipe σ vs) σ2) (h : ∀ i ∈ ts, i ∈ vs) : wipe σ2 vs = wipe σ vs := by
  have hl : σ2.length = σ.length := o.1.trans (wipe_length σ vs)
  refine List.ext_getElem? fun i => ?_
  by_cases hi : i ∈ vs
  · rw [wipe_at vs i hi, wipe_at vs i hi, hl]
  · rw [wipe_get vs i hi, o.2 i (fun z => hi (h i z)), wipe_get vs i hi]
end
def NoW : WX := fun _ _ _ _ => False
def noX : Xv := fun _ _ _ => False
theorem covX0 {K : PySem.W.Frag} {W : Wd} {H : Hp} {L : List Addr} {σ : St} {Wx : WX} : CovX K Wx W H L σ noX := fun _ _ _ _ _ _ _ z => z.elim
def dYes : TTD := fun ev P _ => P true ev
/-- a comprehension's turns -/
def dGo (g : TGD) (A : TTD) (Te : TED) (own : List Nat) : List Dt → List Dt → Nat → Ev → (List Dt → Nat → Ev → Prop) → Prop
  | [], acc, l, ev, P => P acc l ev
  | d :: ds, acc, l, ev, P => g d d.lv ev fun ev1 => A ev1 (fun b ev2 => if b = true then Te ev2 (fun y n ev3 => acc.length < sizeLine ∧ dGo g A Te own ds (acc ++ [y]) (min (l - 1) n + 1) (ev3.wipe own) P) noX else dGo g A Te own ds acc l (ev2.wipe own) P) noX
def dLc (TI1 : TID) (g : TGD) (A : TTD) (Te : TED) (own : List Nat) : TED := fun ev P Xc => TI1 ev (fun ds ev1 => dGo g A Te own ds [] topL (ev1.wipe own) fun acc l ev2 => P (.lst acc) l ev2) Xc
section
variable {X : Cx} {Wx : WX} {elt tg iter : Expr} {ifs : List Expr} {scope : Scope} {own : List (Str × Nat)} {pos : Pos} {TI1 : TID} {g : TGD} {A : TTD} {Te : TED} {ts : List Nat}
theorem lc_turns {K : PySem.W.Frag} {vs : List Nat} (hts : ∀ i ∈ ts, i ∈ vs) {σ : St} {Q : VK} {W1 : Wd} {H1 : Hp} {L1 : List Addr} {ds : List Dt} {ev1 : Ev} {J : It} {P : Pv}
    (u : dGo g A Te vs ds [] topL (ev1.wipe vs) fun acc l ev2 => P (.lst acc) l ev2) (R1 : Rel K W1 ev1.r ev1.G σ H1 L1) (wk : Wk K W1 J ds) (c : CovE K W1 H1 L1 σ P Q) :
    ∀ D, H1 D = none → ∃ Wi : Nat → Nat → Hp → Prop, (∃ m, Wi 0 m (upd H1 D (.lst []))) ∧ ∀ i m H, Wi i m H →
      (J.stop i H ∧ Q (.ref D) H) ∨ (J.go i H ∧ ∃ Nx : Hp → Prop, (∀ H', Nx H' → ∃ m', m' < m ∧ Wi (i + 1) m' H') ∧ ∀ x H', J.yld i H x H' → liftG K ts g x (wipe σ vs) H' fun σ2 H2 => wipe σ2 vs = wipe σ vs ∧ liftT K NoW A σ2 H2 fun b H3 =>
        if b = true then liftE K NoW Te σ2 H3 fun y H4 => ∃ acc, H4 D = some (.lst acc) ∧ acc.length < sizeLine ∧ Nx (upd H4 D (.lst (acc ++ [y]))) else Nx H3) := by
  intro D hD
  obtain ⟨L0, s0, R0⟩ := R1.wiped vs
  obtain ⟨L2, R2, E2⟩ := Rel.made (X := []) (τ := []) (o := .lst []) (d := .lst []) (n := topL) (fp := []) rfl R0 hD (fun L1 s s' => by
    cases s
    exact .lst (n := 999) upd_same .nil)
  have E02 : Ext W1 W1 H1 (upd H1 D (.lst [])) L1 L2 := (Ext.refl.less s0).trans E2
  refine ⟨fun i m H' => m = ds.length - i ∧ i ≤ ds.length ∧ ∃ W3 ev3 L3 acc l, Rel K W3 (some (.lst acc, l) :: ev3.r) ev3.G (some (.ref D) :: wipe σ vs) H' L3 ∧ Ext W1 W3 H1 H' L1 L3 ∧ 1 ≤ l ∧ (∀ (i : Nat) s, ev3.r[i]? = some (some s) → i ∉ vs) ∧ dGo g A Te vs (ds.drop i) acc l ev3 fun acc l ev2 => P (.lst acc) l ev2,
    ⟨_, rfl, Nat.zero_le _, W1, ev1.wipe vs, L2, [], topL, R2, E02, by decide, wipeL_get vs, u⟩, ?_⟩
  rintro i m H3 ⟨rfl, hi, W3, ev3, L3, acc, l, R3, E3, hl1, hw, u3⟩
  have wk3 := wk.mono E3.le
  by_cases hlt : i < ds.length
  · have hd : ds[i]? = some ds[i] := List.getElem?_eq_getElem hlt
    rw [List.drop_eq_getElem_cons hlt] at u3
    obtain ⟨go, yl⟩ := wk3.go i _ H3 hd R3.sub
    refine .inr ⟨go, fun H' => ∃ W4 ev4 L4 acc l, Rel K W4 (some (.lst acc, l) :: ev4.r) ev4.G (some (.ref D) :: wipe σ vs) H' L4 ∧ Ext W1 W4 H1 H' L1 L4 ∧ 1 ≤ l ∧ (∀ (i : Nat) s, ev4.r[i]? = some (some s) → i ∉ vs) ∧ dGo g A Te vs (ds.drop (i + 1)) acc l ev4 fun acc l ev2 => P (.lst acc) l ev2,
      fun H' ⟨W4, ev4, L4, a, l', h⟩ => ⟨ds.length - (i + 1), by omega, rfl, hlt, W4, ev4, L4, a, l', h⟩, fun x H' y => ?_⟩
    obtain ⟨W4, L4, R4, E4⟩ := R3.item (yl x H' y)
    obtain ⟨La, Lb, Rb, sb, back⟩ := R4.swap.under
    refine ⟨W4, _, _, ev3, Lb, _, Rb, u3, fun ev5 σ5 W5 H5 L5 u5 o5 R5 E5 => ?_⟩
    have ew : wipe σ5 vs = wipe σ vs := wipe_out o5 hts
    refine ⟨ew, ?_⟩
    obtain ⟨R6, E6⟩ := back R5 E5
    obtain ⟨Lc, Ld, Rd', sd, back2⟩ := R6.under
    refine ⟨W5, ev5, Ld, _, noX, Rd', u5, fun b ev7 W7 H7 L7 u7 R7 E7 => ?_, covX0⟩
    obtain ⟨R8, E8⟩ := back2 R7 E7
    have E38 := E3.trans (E4.trans (E6.trans E8))
    cases b with
    | true =>
      refine iteT ?_
      obtain ⟨Le, Lf, Rf, sf, back3⟩ := R8.under
      refine ⟨W7, ev7, Lf, _, noX, Rf, u7, fun y n ev9 v W9 H9 L9 u9 R9 E9 => ?_, covX0⟩
      obtain ⟨R10, E10⟩ := back3 R9 E9
      have R10' : Rel K W9 (some (y, n) :: some (.lst acc, l) :: ev9.r) ev9.G (some v :: some (.ref D) :: σ5) H9 (Le ++ L9) := R10.swap
      obtain ⟨a, us, ea, eh, hl2, W11, L11, R11, E11⟩ := Rel.alterL (j := 0) (ρ := some (.lst acc, l) :: ev9.r) (ds' := acc ++ [y]) (F := fun us => us ++ [v]) R10' rfl hl1 fun W1 H1 q gp fb vs r x => by
        have y := Ows.cons x (.nil (K := K) (W := W1) (H := H1))
        rw [List.append_nil] at y
        exact ⟨gp ++ fb, fun b hb => hb, fun nd => nd, r.app y⟩
      cases ea
      have R11' : Rel K W11 (some (.lst (acc ++ [y]), min (l - 1) n + 1) :: ev9.r) ev9.G (some (.ref D) :: σ5) (upd H9 D (.lst (us ++ [v]))) L11 := R11
      obtain ⟨Lg, Lh, Rh, sh, back4⟩ := R11'.under
      obtain ⟨Li, si, Ri⟩ := Rh.wiped vs
      rw [ew] at Ri
      obtain ⟨R12, E12⟩ := back4 Ri (Ext.refl.less si)
      exact ⟨us, eh, by rw [hl2]; exact u9.1, W11, ev9.wipe vs, _, acc ++ [y], min (l - 1) n + 1, R12, E38.trans (E10.trans (E11.trans E12)), by omega, wipeL_get vs, u9.2⟩
    | false =>
      refine iteF ?_
      obtain ⟨Lg, Lh, Rh, sh, back4⟩ := R8.under
      obtain ⟨Li, si, Ri⟩ := Rh.wiped vs
      rw [ew] at Ri
      obtain ⟨R12, E12⟩ := back4 Ri (Ext.refl.less si)
      exact ⟨W7, ev7.wipe vs, _, acc, l, R12, E38.trans E12, hl1, wipeL_get vs, u7⟩
  · have e : i = ds.length := by omega
    subst e
    rw [List.drop_length] at u3
    refine .inl ⟨wk3.stop _ H3 (Nat.le_refl _) R3.sub, c (.lst acc) l ev3 (.ref D) W3 H3 L3 u3 ?_ E3⟩
    refine R3.resig (by simp [wipe_length]) fun i s e => ?_
    cases i with
    | zero => rfl
    | succ i => exact (wipe_get vs i (hw i s e)).symm
theorem lc_lift {K : PySem.W.Frag} (hts : ∀ i ∈ ts, i ∈ own.map (·.2)) {σ : St} {H : Hp} {Q : VK} (q : liftE K Wx (dLc TI1 g A Te (own.map (·.2))) σ H Q) :
    tLc (liftI K Wx TI1) (liftG K ts g) (liftT K NoW A) (liftE K NoW Te) (own.map (·.2)) σ H Q := by
  obtain ⟨W, ev, L, P, Xc, R, t, c, cx⟩ := q
  exact ⟨W, ev, L, _, Xc, R, t, fun ds ev1 J W1 H1 L1 u R1 wk E => lc_turns hts u R1 wk (c.step E), cx⟩
theorem dpts_nil {X : Cx} : PTs X [] (liftT X.K NoW dYes) := ⟨fun pins s σ H Q I ⟨W, ev, L, P, Xc, R, t, c, cx⟩ => pts_nil.run pins s σ H Q I (c true ev W H L t R .refl)⟩
theorem dpts_one {X : Cx} {c : Expr} (h : DT X NoW c A) : PTs X [c] (liftT X.K NoW A) := pts_one h
/-- [elt for tg in iter if ..] -/
theorem de_lc (hc : X.calm = true) (hN : X.N.Nodup) (ok : BlkOk X.N X.env.scope scope own) (hts : ∀ i ∈ ts, i ∈ own.map (·.2)) (hi : DI X Wx tg iter TI1)
    (hg : ∀ (s : Shared) (H : Hp) (C : Addr) (cl : List (Str × Addr)) (fp : List Addr), DG (X.blk s H scope (compEnvC scope cl C X.env) fp) tg ts g)
    (ht : ∀ (s : Shared) (H : Hp) (C : Addr) (cl : List (Str × Addr)) (fp : List Addr), PTs (X.blk s H scope (compEnvC scope cl C X.env) fp) ifs (liftT X.K NoW A))
    (he : ∀ (s : Shared) (H : Hp) (C : Addr) (cl : List (Str × Addr)) (fp : List Addr), DE (X.blk s H scope (compEnvC scope cl C X.env) fp) NoW elt Te) (hs : ∀ x, foldedSetIterable iter X.env x = pure x := by intro _; rfl) :
    DE X Wx (.ListComp elt [⟨tg, iter, ifs, 0⟩] scope pos) (dLc TI1 g A Te (own.map (·.2))) :=
  (pe_lc hc hN hi ok hg ht he hs).imp fun σ H Q q => lc_lift hts q
/-- name = [..] -/
theorem ds_setLc {i : Nat} {y : Str} {py spos : Pos} (hc : X.calm = true) (hN : X.N.Nodup) (hy : X.N[i]? = some y) (hyl : X.env.scope.names.lookup y = some .local)
    (ok : BlkOk X.N X.env.scope scope own) (hts : ∀ i ∈ ts, i ∈ own.map (·.2)) (hi : DI X Wx tg iter TI1)
    (hg : ∀ (s : Shared) (H : Hp) (C : Addr) (cl : List (Str × Addr)) (fp : List Addr), DG (X.blk s H scope (compEnvC scope cl C X.env) fp) tg ts g)
    (ht : ∀ (s : Shared) (H : Hp) (C : Addr) (cl : List (Str × Addr)) (fp : List Addr), PTs (X.blk s H scope (compEnvC scope cl C X.env) fp) ifs (liftT X.K NoW A))
    (he : ∀ (s : Shared) (H : Hp) (C : Addr) (cl : List (Str × Addr)) (fp : List Addr), DE (X.blk s H scope (compEnvC scope cl C X.env) fp) NoW elt Te)
    (hsw : swapsWith (.ListComp elt [⟨tg, iter, ifs, 0⟩] scope pos) (some (.Name y py)) spos.line X.env = pure true := by rfl) (hs : ∀ x, foldedSetIterable iter X.env x = pure x := by intro _; rfl) :
    DS X Wx (.Assign [.Name y py] (.ListComp elt [⟨tg, iter, ifs, 0⟩] scope pos) spos) (dsSet i (dLc TI1 g A Te (own.map (·.2)))) := by
  refine (ps_setLc (wi := liftI X.K Wx TI1) (g := liftG X.K ts g) (tt := liftT X.K NoW A) (te := liftE X.K NoW Te) hc hN hy hyl hsw hi ok hg ht he hs).imp fun D σ H q => ?_
  obtain ⟨W, ev, L, DD, R, t, c⟩ := q
  refine lc_lift (Q := fun x H1 => gName i x σ H1 D.nx) hts ⟨W, ev, L, _, _, R, t, fun d n ev1 v W1 H1 L1 u R1 E => ?_, c.covX⟩
  obtain ⟨L2, hs, R2⟩ := R1.store i
  exact c.nx _ _ W1 H1 L2 u R2 (E.less hs)
end
end HD

set_option Elab.async false
set_option linter.all false
set_option maxRecDepth 100000
namespace HD
open PySem PySem.Spec PyProof.Rows L2
/-! ## dicts: displays, keys walked -/
section
variable {K : PySem.W.Frag} {W W' W1 W2 : Wd} {H H' H1 H2 : Hp} {L L' L1 L2 M : List Addr} {ρ ρ' Y Y' : List Sv} {σ σ' τ τ' : St} {G G' : Gs} {Wx : WX}
def Wd.at (W : Wd) (a : Addr) (u : HO) : Wd := ⟨upd W.F a u, W.ca⟩
/-- a dict and the dict locked -/
def LkP (u u' : HO) : Prop := ∃ ob kvs, (u = .dK kvs ∧ u' = .frz ob (.dK kvs)) ∨ (u' = .dK kvs ∧ u = .frz ob (.dK kvs))
theorem sim_at {a : Addr} {u u' : HO} (e : W.F a = some u) (p : LkP u u') : W.sim (W.at a u') := by
  obtain ⟨ob, kvs, p⟩ := p
  have nl : ∀ vs, u ≠ .lst vs := fun vs z => by rcases p with ⟨h, _⟩ | ⟨_, h⟩ <;> rw [h] at z <;> cases z
  have nt : ∀ vs, ¬ Rd W.F a (.tup vs) := fun vs z => by
    rcases z with z | ⟨o, z⟩
    · rw [e] at z; rcases p with ⟨h, _⟩ | ⟨_, h⟩ <;> rw [h] at z <;> cases z
    · rw [e] at z; rcases p with ⟨h, _⟩ | ⟨_, h⟩ <;> rw [h] at z <;> cases z
  have off : ∀ b v, b ≠ a → Rd W.F b v → Rd (W.at a u').F b v := fun b v hb z => z.imp (fun z => (upd_ne hb).trans z) fun ⟨o, z⟩ => ⟨o, (upd_ne hb).trans z⟩
  have nx : ∀ vs, u ≠ .xd vs := fun vs z => by rcases p with ⟨h, _⟩ | ⟨_, h⟩ <;> rw [h] at z <;> cases z
  refine ⟨fun b vs z => ?_, fun b vs z => ?_, fun b vs z => ?_, fun _ _ z => z, fun b vs z => (upd_ne fun q => nx vs (by rw [q, e] at z; exact Option.some.inj z)).trans z⟩
  · have hb : b ≠ a := fun q => by
      rw [q, e] at z
      exact nl vs (Option.some.inj z)
    exact (upd_ne hb).trans z
  · exact off b _ (fun q => nt vs (q ▸ z)) z
  · by_cases hb : b = a
    · subst hb
      have ev : vs = kvs := by
        rcases z with z | ⟨o, z⟩
        · rw [e] at z; rcases p with ⟨h, _⟩ | ⟨_, h⟩ <;> rw [h] at z <;> cases z <;> rfl
        · rw [e] at z; rcases p with ⟨h, _⟩ | ⟨_, h⟩ <;> rw [h] at z <;> cases z <;> rfl
      subst ev
      rcases p with ⟨_, h⟩ | ⟨h, _⟩
      · exact .inr ⟨ob, by rw [h]; exact upd_same⟩
      · exact .inl (by rw [h]; exact upd_same)
    · exact off b _ hb z
theorem Sl.sim (h : W.sim W') : ∀ {ρ σ L}, (∀ a ∈ L, ∀ o, H a = some o → H' a = some o) → Sl K W H ρ σ L → Sl K W' H' ρ σ L
  | _, _, _, _, .nil => .nil
  | _, _, _, k, .no r => .no (Sl.sim h k r)
  | _, _, _, k, .yes e r => .yes (Ow.sim h (fun a ha => k a (List.mem_append_left _ ha)) e) (Sl.sim h (fun a ha => k a (List.mem_append_right _ ha)) r)
theorem Rel.swapAt {a : Addr} {u u' : HO} (R : Rel K W ρ G σ H L) (e : W.F a = some u) (p : LkP u u') : Rel K (W.at a u') ρ G σ (upd H a u') L := by
  have nL : ∀ b ∈ L, b ≠ a := fun b hb z => by have := R.offF b hb; rw [z, e] at this; cases this
  have nC : ∀ b ∈ W.ca, b ≠ a := fun b hb z => by have := R.cF b hb; rw [z, e] at this; cases this
  obtain ⟨M, s, q⟩ := R.sl
  refine ⟨⟨M, s.sim (sim_at e p) (fun b hb o z => (upd_ne (nL b (q.mem_iff.mpr hb))).trans z), q⟩, R.nd, fun b hb => (upd_ne (nL b hb)).trans (R.offF b hb), R.offC, fun b o z => ?_, R.len, fun n b ds e1 e2 => ?_, fun b hb => (upd_ne (nC b hb)).trans (R.cF b hb), R.cnd⟩
  · by_cases hb : b = a
    · subst hb
      have z' : upd W.F b u' b = some o := z
      rw [upd_same] at z' ⊢
      exact z'
    · have z' : upd W.F a u' b = some o := z
      rw [upd_ne hb] at z' ⊢
      exact R.sub b o z'
  · obtain ⟨vs, e3, z⟩ := R.cel n b ds e1 e2
    exact ⟨vs, (upd_ne (nC b (List.mem_of_getElem? e1))).trans e3, z.sim (sim_at e p)⟩
theorem Ext.swapBack {a : Addr} {u u' : HO} (E : Ext (W.at a u') W1 (upd H a u') H1 L L1) (e : W.F a = some u) (eh : H a = some u) : Ext W (W1.at a u) H (upd H1 a u) L L1 := by
  have z0 : ∀ b, upd H a u' b = none → H b = none := fun b z => by
    by_cases hb : b = a
    · rw [hb, upd_same] at z; cases z
    · rw [upd_ne hb] at z; exact z
  refine ⟨⟨fun b o z => ?_, E.le.ca⟩, fun b o z n => ?_, fun b hb n => (E.newC b hb n).imp (z0 b) id, fun b o z hc hl => ?_, fun b hb => (E.newL b hb).imp (z0 b) id, fun b o z => ?_⟩
  · by_cases hb : b = a
    · subst hb
      rw [e] at z
      cases z
      exact upd_same
    · exact (upd_ne hb).trans (E.le.F b o ((upd_ne hb).trans z))
  · have hb : b ≠ a := fun q => by rw [q, e] at n; cases n
    have z' : W1.F b = some o := (upd_ne hb).symm.trans z
    exact (E.newF b o z' ((upd_ne hb).trans n)).imp (z0 b) id
  · by_cases hb : b = a
    · subst hb
      rw [eh] at z
      cases z
      exact upd_same
    · exact (upd_ne hb).trans (E.keep b o ((upd_ne hb).trans z) hc hl)
  · by_cases hb : b = a
    · exact ⟨u, by rw [hb]; exact upd_same⟩
    · obtain ⟨o', q⟩ := E.live b o ((upd_ne hb).trans z)
      exact ⟨o', (upd_ne hb).trans q⟩
end
/-- the keys, as they are walked -/
def keysD (kvs : List (Key × Dt)) : List Dt := kvs.map fun kv => keyDt kv.1
/-- a name that holds a dict, walked -/
def diKeys (i : Nat) : TID := fun ev P _ => ∃ kvs, ev.r[i]? = some (some (.dct kvs, 0)) ∧ P (keysD kvs) ev
def dsForK (i : Nat) (g : TGD) (body : TSD) : TSD := fun DD ev => ∃ kvs n, ev.r[i]? = some (some (.dct kvs, n)) ∧ dLoop g body { DD with ex := noX } (keysD kvs) ⟨ev.r.set i (some (.dct kvs, 0)), ev.G⟩
section
variable {X : Cx} {Wx : WX} {e a b c o tg iter : Expr} {es : List Expr} {Ta Tb Tc : TED} {A : TTD} {T Tr : TAD} {TI1 : TID} {pos p p2 p3 : Pos} {t : String} {tn x : Str} {i j : Nat} {g : TGD} {ts : List Nat} {st : Stmt} {body rest : List Stmt} {S S' : TSD}
theorem _root_.L2.PS.or {st : Stmt} {t t' : TS} (h : PS X st t) (h' : PS X st t') : PS X st (fun D σ H => t D σ H ∨ t' D σ H) := ⟨fun pins s σ H D I q => q.elim (h.run pins s σ H D I) (h'.run pins s σ H D I)⟩
theorem _root_.L2.PE.or {e : Expr} {t t' : TE} (h : PE X e t) (h' : PE X e t') : PE X e (fun σ H Q => t σ H Q ∨ t' σ H Q) := ⟨fun pins s σ H Q I q => q.elim (h.run pins s σ H Q I) (h'.run pins s σ H Q I)⟩
theorem ds_forK (hp : PassesOwn (model X.prog X.w) X.A X.env X.xe) (hc : X.calm = true) (ho : PE X iter (tVar i)) (hg : DG X tg ts g) (hb : DSs X Wx body S) (hs : ∀ x, foldedSetIterable iter X.env x = pure x := by intro _; rfl) : DS X Wx (.For tg iter body [] pos) (dsForK i g S) := by
  have base := ps_for (pos := pos) hp hc (pi_keys ho) hg hb hs
  refine (base.or (ps_lock base)).imp fun D σ H q => ?_
  obtain ⟨W, ev, L, DD, R, ⟨kds, n, e0, u⟩, c⟩ := q
  obtain ⟨v, W1, L1, ev1, iv, R1, E1⟩ := R.frz e0
  obtain ⟨d, kvs, rfl, ed, rk⟩ := iv.dct_inv
  have c1 : CovS X.K Wx W1 H L1 { DD with ex := noX } D := ⟨(c.step E1).nx, (c.step E1).bk, (c.step E1).ct, (c.step E1).rt, fun _ _ _ _ _ _ _ _ z => z.elim⟩
  rcases ed with ed | ⟨ob, ed⟩
  · -- locked for the while
    refine .inr ⟨d, _, R1.sub _ _ ed, trivial, fun od => ?_⟩
    have lp : LkP (.dK kvs) (.frz od (.dK kvs)) := ⟨od, kvs, .inl ⟨rfl, rfl⟩⟩
    have lq : LkP (.frz od (.dK kvs)) (.dK kvs) := ⟨od, kvs, .inr ⟨rfl, rfl⟩⟩
    have R2 := R1.swapAt ed lp
    have wk : Wk X.K (W1.at d (.frz od (.dK kvs))) (Itk d od kvs) (keysD kds) := wk_keys upd_same (rk.sim (sim_at ed lp))
    have un : ∀ {W3 : Wd} {ev3 : Ev} {σ3 : St} {H3 : Hp} {L3 : List Addr} {r3 : List Sv} {G3 : Gs}, Rel X.K W3 r3 G3 σ3 H3 L3 → Ext (W1.at d (.frz od (.dK kvs))) W3 (upd H d (.frz od (.dK kvs))) H3 L1 L3 →
        H3 d = some (.frz od (.dK kvs)) ∧ Rel X.K (W3.at d (.dK kvs)) r3 G3 σ3 (upd H3 d (.dK kvs)) L3 ∧ Ext W1 (W3.at d (.dK kvs)) H (upd H3 d (.dK kvs)) L1 L3 := fun {W3 ev3 σ3 H3 L3 r3 G3} R3 E3 => by
      have e3 : W3.F d = some (.frz od (.dK kvs)) := E3.le.F _ _ upd_same
      exact ⟨R3.sub _ _ e3, R3.swapAt e3 lq, E3.swapBack ed (R1.sub _ _ ed)⟩
    refine ⟨_, ev1, d, od, rfl, .inl ⟨kvs, upd_same, ?_⟩⟩
    refine loop_lift (DD := { DD with ex := noX }) (ts := ts) u R2 wk ⟨fun ev3 σ3 W3 H3 L3 u3 R3 E3 => ?_, fun ev3 σ3 W3 H3 L3 u3 R3 E3 => ?_, fun ev3 σ3 W3 H3 L3 u3 R3 E3 => ?_, fun dd nn GG v W3 H3 L3 u3 R3 E3 => ?_, fun _ _ _ _ _ _ _ _ z => z.elim⟩
    · obtain ⟨a1, a2, a3⟩ := un (ev3 := ev3) R3 E3
      exact ⟨a1, c1.nx ev3 σ3 _ _ L3 u3 a2 a3⟩
    · obtain ⟨a1, a2, a3⟩ := un (ev3 := ev3) R3 E3
      exact ⟨a1, c1.bk ev3 σ3 _ _ L3 u3 a2 a3⟩
    · obtain ⟨a1, a2, a3⟩ := un (ev3 := ev3) R3 E3
      exact ⟨a1, c1.ct ev3 σ3 _ _ L3 u3 a2 a3⟩
    · obtain ⟨a1, a2, a3⟩ := un (ev3 := ev) R3 E3
      exact ⟨a1, c1.rt dd nn GG v _ _ L3 u3 a2 a3⟩
  · -- it is locked by a walk around
    refine .inl ⟨_, ev1, d, ob, rfl, .inl ⟨kvs, R1.sub _ _ ed, ?_⟩⟩
    exact loop_lift (DD := { DD with ex := noX }) (ts := ts) u R1 (wk_keys ed rk) c1
/-- [elt for k in d if ..], d a name that holds a dict -/
def dLcK (i : Nat) (g : TGD) (A : TTD) (Te : TED) (own : List Nat) : TED := fun ev P _ => ∃ kvs n, ev.r[i]? = some (some (.dct kvs, n)) ∧ dGo g A Te own (keysD kvs) [] topL ((⟨ev.r.set i (some (.dct kvs, 0)), ev.G⟩ : Ev).wipe own) fun acc l ev2 => P (.lst acc) l ev2
theorem de_lcK {elt : Expr} {ifs : List Expr} {scope : Scope} {own : List (Str × Nat)} {Te : TED} (hc : X.calm = true) (hN : X.N.Nodup) (ok : BlkOk X.N X.env.scope scope own) (hts : ∀ i ∈ ts, i ∈ own.map (·.2)) (ho : PE X iter (tVar i))
    (hg : ∀ (s : Shared) (H : Hp) (C : Addr) (cl : List (Str × Addr)) (fp : List Addr), DG (X.blk s H scope (compEnvC scope cl C X.env) fp) tg ts g)
    (ht : ∀ (s : Shared) (H : Hp) (C : Addr) (cl : List (Str × Addr)) (fp : List Addr), PTs (X.blk s H scope (compEnvC scope cl C X.env) fp) ifs (liftT X.K NoW A))
    (he : ∀ (s : Shared) (H : Hp) (C : Addr) (cl : List (Str × Addr)) (fp : List Addr), DE (X.blk s H scope (compEnvC scope cl C X.env) fp) NoW elt Te) (hs : ∀ x, foldedSetIterable iter X.env x = pure x := by intro _; rfl) :
    DE X Wx (.ListComp elt [⟨tg, iter, ifs, 0⟩] scope pos) (dLcK i g A Te (own.map (·.2))) := by
  have base : PE X (.ListComp elt [⟨tg, iter, ifs, 0⟩] scope pos) (tLc (iKeys (tVar i)) (liftG X.K ts g) (liftT X.K NoW A) (liftE X.K NoW Te) (own.map (·.2))) := pe_lc hc hN (pi_keys ho) ok hg ht he hs
  refine (base.or (pe_lock base)).imp fun σ H Q q => ?_
  obtain ⟨W, ev, L, P, Xc, R, ⟨kds, n, e0, u⟩, c, cx⟩ := q
  obtain ⟨v, W1, L1, ev1, iv, R1, E1⟩ := R.frz e0
  obtain ⟨d, kvs, rfl, ed, rk⟩ := iv.dct_inv
  have c1 := c.step E1
  rcases ed with ed | ⟨ob, ed⟩
  · refine .inr ⟨d, _, R1.sub _ _ ed, trivial, fun od => ?_⟩
    have lp : LkP (.dK kvs) (.frz od (.dK kvs)) := ⟨od, kvs, .inl ⟨rfl, rfl⟩⟩
    have lq : LkP (.frz od (.dK kvs)) (.dK kvs) := ⟨od, kvs, .inr ⟨rfl, rfl⟩⟩
    have R2 := R1.swapAt ed lp
    have wk : Wk X.K (W1.at d (.frz od (.dK kvs))) (Itk d od kvs) (keysD kds) := wk_keys upd_same (rk.sim (sim_at ed lp))
    refine ⟨_, ev1, d, od, rfl, .inl ⟨kvs, upd_same, ?_⟩⟩
    refine lc_turns (Q := fun v H' => H' d = some (.frz od (.dK kvs)) ∧ Q v (upd H' d (.dK kvs))) hts u R2 wk fun dd nn ev3 v W3 H3 L3 u3 R3 E3 => ?_
    have e3 : W3.F d = some (.frz od (.dK kvs)) := E3.le.F _ _ upd_same
    exact ⟨R3.sub _ _ e3, c1 dd nn ev3 v _ _ L3 u3 (R3.swapAt e3 lq) (E3.swapBack ed (R1.sub _ _ ed))⟩
  · refine .inl ⟨_, ev1, d, ob, rfl, .inl ⟨kvs, R1.sub _ _ ed, ?_⟩⟩
    exact lc_turns (Q := Q) hts u R1 (wk_keys ed rk) c1
/-! ### {'a': .., ..} with written texts as keys -/
def dPairs : List (Str × TED) → TAD
  | [] => dNil
  | (_, Tv) :: r => dCons Tv (dPairs r)
def trsOf (K : PySem.W.Frag) (Wx : WX) (l : List (Str × TED)) : List (TE × TE) := l.map fun p => (tC (.str p.1), liftE K Wx p.2)
theorem pairs_lift {K : PySem.W.Frag} : ∀ {l : List (Str × TED)} {σ : St} {H : Hp} {Q : List (V × V) → Hp → Prop}, liftA K Wx (dPairs l) σ H (fun vs H' => Q ((l.map fun p => V.str p.1).zip vs) H') → tPairs (trsOf K Wx l) σ H Q
  | [], σ, H, Q, h => by
    obtain ⟨W, ev, L, P, Xc, R, t, c, cx⟩ := h
    exact c [] ev [] W H L t rfl R .refl
  | (k, Tv) :: r, σ, H, Q, h => by
    obtain ⟨W, ev, L, P, Xc, R, t, c, cx⟩ := h
    refine ⟨W, ev, L, _, Xc, R, t, fun d n ev1 v W1 H1 L1 u r1 E => ?_, cx⟩
    obtain ⟨A, B, fp, p, q, o, RA, RB⟩ := r1.pop
    have c1 := c.step E
    have cx1 := cx.step E
    refine pairs_lift (l := r) (Q := fun ps H3 => Q ((.str k, v) :: ps) H3) ⟨W1, ev1, B, _, Xc, RB, u, fun ds ev2 vs W2 H2 L2 u2 hl r2 E2 => ?_, cx1.sub fun a ha => p.mem_iff.mpr (List.mem_append_right _ ha)⟩
    obtain ⟨R3, E3⟩ := Rel.push (X := [some (d, n)]) (τ := [some v]) (L1 := A) rfl (r1.perm p) RA r2 E2
    exact c1 ((d, n) :: ds) ev2 (v :: vs) W2 H2 _ u2 (congrArg (· + 1) hl) R3 (E3.permL p.symm)
def keysOf (l : List (Str × TED)) : List Str := l.map (·.1)
def dctOf (ks : List Str) (ds : List Dt) : List (Key × Dt) := (ks.zip ds).map fun p => (.inr p.1, p.2)
def dDict (l : List (Str × TED)) : TED := fun ev P Xc => dPairs l ev (fun ds ev1 => P (.dct (dctOf (keysOf l) (dsOf ds))) 1 ev1) Xc
theorem pairs_lift' {K : PySem.W.Frag} {l : List (Str × TED)} {σ : St} {H : Hp} {Q : List (V × V) → Hp → Prop} (h : liftA K Wx (dPairs l) σ H (fun vs H' => Q (((keysOf l).map V.str).zip vs) H')) : tPairs (trsOf K Wx l) σ H Q := by
  refine pairs_lift ?_
  have e : (l.map fun p => V.str p.1) = (keysOf l).map V.str := by simp [keysOf]
  rw [e]
  exact h
theorem zip_fst_sub {α β : Type} : ∀ (ks : List α) (vs : List β), ((ks.zip vs).map (·.1)).Sublist ks
  | [], _ => List.nil_sublist _
  | _ :: _, [] => List.nil_sublist _
  | k :: ks, v :: vs => List.Sublist.cons₂ k (zip_fst_sub ks vs)
theorem nodup_inr : ∀ {l : List Str}, l.Nodup → (l.map (Sum.inr : Str → Key)).Nodup
  | [], _ => List.nodup_nil
  | x :: r, h => by
    have h' := List.nodup_cons.mp h
    refine List.nodup_cons.mpr ⟨fun z => ?_, nodup_inr h'.2⟩
    obtain ⟨y, hy, e⟩ := List.mem_map.mp z
    exact h'.1 (Sum.inr.inj e ▸ hy)
theorem merge_new : ∀ (kvs more : List (Key × V)), ((kvs ++ more).map (·.1)).Nodup → mergeK kvs more = kvs ++ more
  | kvs, [], _ => by simp [mergeK]
  | kvs, p :: r, h => by
    have hp : (kvs.any fun kv => decide (kv.1 = p.1)) = false := by
      refine Bool.eq_false_iff.mpr fun z => ?_
      obtain ⟨kv, hk, e⟩ := List.any_eq_true.mp z
      rw [List.map_append] at h
      exact (List.nodup_append.mp h).2.2 kv.1 (List.mem_map_of_mem hk) p.1 (by simp) (of_decide_eq_true e)
    have e : putK kvs p.1 p.2 = kvs ++ [p] := by
      unfold putK
      rw [hp]
      simp
    show mergeK (putK kvs p.1 p.2) r = _
    rw [e, merge_new (kvs ++ [p]) r (by simpa using h)]
    simp
theorem isk_zip {K : PySem.W.Frag} {W : Wd} : ∀ {ks : List Str} {vs : List V} {ds : List Dt}, Iss K W vs ds → Isk K W ((ks.zip vs).map fun (p : Str × V) => (Sum.inr p.1, p.2)) (dctOf ks ds)
  | [], _, _, _ => .nil
  | _ :: _, _, _, .nil => .nil
  | k :: ks, _, _, .cons o r => .cons o (isk_zip r)
theorem de_dict {keys : List (Option Expr)} {values : List Expr} {l : List (Str × TED)} (h : PPs X pos keys values (trsOf X.K Wx l)) (hnd : (keysOf l).Nodup) (hlen : l.length ≤ 15) (hall : keys.all (·.isSome) = true) (hl : keys.length = values.length) (h0 : keys ≠ [])
    (h15 : keys.length ≤ 15) : DE X Wx (.Dict keys values pos) (dDict l) := by
  refine (pe_disp h hall hl h0 h15).imp fun σ H Q q => ?_
  obtain ⟨W, ev, L, P, Xc, R, t, c, cx⟩ := q
  intro p hp
  obtain ⟨L2, R2, E2⟩ := Rel.made (X := []) (τ := []) (o := .dK []) (d := .dct []) (n := 1) (fp := []) rfl R hp (fun L1 s s' => by
    cases s
    exact .dct (n := 0) upd_same .nil)
  obtain ⟨La, Lb, Rb, sb, back⟩ := R2.under
  refine pairs_lift' ⟨W, ev, Lb, _, Xc, Rb, t, fun ds ev1 vs W1 H1 L1 u hvl R3 E3 => ?_, (cx.step E2).sub sb⟩
  obtain ⟨W4, L4, R4, E4⟩ := R3.downAll 0 (fun x hx => Nat.zero_le _) hvl
  obtain ⟨R5, E5⟩ := back R4 (E3.trans E4)
  have hlds : ds.length = vs.length := hvl.symm
  -- the dict itself
  obtain ⟨M0, s0, q0⟩ := R5.sl
  obtain ⟨A1, B1, e1, x1, y1⟩ := Sl.split (X := [some (.dct [], 1)]) (τ := [some (.ref p)]) rfl s0
  obtain ⟨a, us, gp, e2, e3, ea, r⟩ := x1.one_inv.dct_inv
  cases e3
  cases r
  have hk1 : (((keysOf l).map V.str).zip vs) = ((keysOf l).zip vs).map fun (p : Str × V) => (kV (Sum.inr p.1), p.2) := by
    rw [List.zip_map_left]
    exact List.map_congr_left fun _ _ => rfl
  have keyfst : (((keysOf l).zip vs).map fun (p : Str × V) => ((Sum.inr p.1 : Key), p.2)).map (·.1) = ((keysOf l).zip vs).map fun (p : Str × V) => (Sum.inr p.1 : Key) := by simp
  have nd2 : ((([] : List (Key × V)) ++ ((keysOf l).zip vs).map fun (p : Str × V) => ((Sum.inr p.1 : Key), p.2)).map (fun (q : Key × V) => q.1)).Nodup := by
    rw [List.nil_append, keyfst]
    have e5 : (((keysOf l).zip vs).map fun (p : Str × V) => (Sum.inr p.1 : Key)) = (((keysOf l).zip vs).map (fun (p : Str × V) => p.1)).map (Sum.inr : Str → Key) := by simp
    rw [e5]
    have hz : (((keysOf l).zip vs).map (fun (p : Str × V) => p.1)).Nodup := by
      have hs : (((keysOf l).zip vs).map (fun (p : Str × V) => p.1)).Sublist (keysOf l) := zip_fst_sub _ _
      exact hnd.sublist hs
    exact nodup_inr hz
  have hkl : (keysOf l).length = l.length := by simp [keysOf]
  refine ⟨ea, ((keysOf l).zip vs).map fun (p : Str × V) => (Sum.inr p.1, p.2), by rw [hk1]; simp, by simp; omega, ?_⟩
  rw [merge_new [] _ nd2, List.nil_append]
  obtain ⟨L6, R6, E6⟩ := Rel.remade (a := p) (o := .dK (((keysOf l).zip vs).map fun (p : Str × V) => (Sum.inr p.1, p.2))) (Y := some (.dct [], 1) :: ds.map fun x => some (x.1, 0)) (τ := some (.ref p) :: vs.map some) (Z := [some (.dct (dctOf (keysOf l) (dsOf ds)), 1)]) (υ := [some (.ref p)]) (by simp [hvl]) R5 fun L1 nd s => by
    obtain ⟨A2, B2, e7, x2, y2⟩ := Sl.split (X := [some (.dct [], 1)]) (τ := [some (.ref p)]) rfl s
    subst e7
    obtain ⟨a', us', gp', e8, e9, ea', r'⟩ := x2.one_inv.dct_inv
    cases e9
    subst e8
    have ow := y2.ows hvl
    refine ⟨List.mem_append_left _ List.mem_cons_self, [p], List.nodup_cons.mpr ⟨by simp, List.nodup_nil⟩, fun b hb => ?_, Sl.of_ow (.dct upd_same (isk_zip (ow.iss (.inl rfl))).owk0)⟩
    rw [List.mem_singleton.mp hb]
    exact List.mem_append_left _ List.mem_cons_self
  exact c _ _ ev1 _ W4 _ L6 u R6 (E2.trans (E5.trans E6))
end
end HD

set_option Elab.async false
set_option linter.all false
set_option maxRecDepth 100000
namespace HD
open PySem PySem.Spec PyProof.Rows L2
section
variable {K : PySem.W.Frag} {W W' : Wd} {H H' : Hp} {L L' : List Addr} {ρ : List Sv} {σ : St} {G : Gs}
theorem Sl.nones : ∀ (n : Nat), Sl K W H (List.replicate n none) (List.replicate n none) []
  | 0 => .nil
  | n + 1 => .no (Sl.nones n)
theorem Rel.bare (R : Rel K W ρ G σ H L) : Rel K W [] G [] H [] :=
  ⟨⟨[], .nil, .refl _⟩, .nil, fun _ h => (nomatch h), fun _ h => (nomatch h), R.sub, R.len, R.cel, R.cF, R.cnd⟩
theorem Rel.nones (R : Rel K W ρ G σ H L) (n : Nat) : Rel K W (ρ ++ List.replicate n none) G (σ ++ List.replicate n none) H L := by
  obtain ⟨M, s, p⟩ := R.sl
  refine ⟨⟨M ++ [], Sl.app s (Sl.nones n), ?_⟩, R.nd, R.offF, R.offC, R.sub, R.len, R.cel, R.cF, R.cnd⟩
  rw [List.append_nil]
  exact p
end
/-- the slots at the entry -/
def slots (ds : List Dt) (n : Nat) : List Sv := ds.map (fun d => some (d, 0)) ++ List.replicate n none
/-- what a def's body must end in -/
abbrev endsOf (P : Dt → Nat → Gs → Prop) (X : Addr → Fld → Gs → Prop) : EndsD := { nx := fun ev => P .non topL ev.G, rt := P, ex := fun C f ev => X C f ev.G }
section
variable {P : Program} {w : World} {K : PySem.W.Frag} {mg : Str → Option Value} {base : Heap}
theorem body_lift {S : SpD} {T : TSD} {N : List Str} {n : Nat} {vs : List V} {H : Hp} {Q : VK} {E : XK} (hn : ∀ ds G P X, S ds G P X → ds.length = n)
    (law : ∀ ds G P X, S ds G P X → T (endsOf P X) ⟨slots ds (N.length - n), G⟩) (h : liftF K S vs H Q E) :
    liftS K (fun cls d _ H => E cls d H) T { nx := fun _ H' => Q .non H', rt := Q } (L2.start N vs) H := by
  obtain ⟨W, ds, G, P, X, hl, R, s, hq, hx⟩ := h
  have R1 := R.nones (N.length - n)
  have e : L2.start N vs = vs.map some ++ List.replicate (N.length - n) none := by
    unfold L2.start
    rw [hl, hn _ _ _ _ s]
  rw [← e] at R1
  refine ⟨W, _, [], _, R1, law ds G P X s, ?_⟩
  refine ⟨fun ev σ' W' H' L' p R' E' => ?_, fun _ _ _ _ _ p => p.elim, fun _ _ _ _ _ p => p.elim, fun d n G' v W' H' L' p R' E' => hq d n G' v W' H' L' p R' E', fun C f ev σ' dx W' H' L' p R' x E' => hx C f ev.G dx W' H' p R'.bare x (E'.less fun a ha => (nomatch ha))⟩
  exact hq .non topL ev.G .non W' H' [] p ((R'.bare).put .non (.inr rfl)) (E'.less fun a ha => (nomatch ha))
/-- a def of the row's top, without defaults -/
abbrev Fd (K : PySem.W.Frag) (x : Str) (st : Stmt) (f : Addr) (fd : FuncData) : Prop := FunD K x x (defArgs st) (defBody st) (defScope st) [] [] f fd
theorem cal_of {x : Str} {st : Stmt} {f : Addr} {fd : FuncData} {N ps : List Str} {k : Nat} {S : SpD} {T : TSD} (F : Fd K x st f fd) (hm : mg x = some (.ref f)) (b : Binds K fd ps []) (sc : FnScope N ps (defScope st))
    (hn : ∀ ds G P X, S ds G P X → ds.length = ps.length)
    (walk : ∀ cdv A outer s H E, Room k (A.deeper (envOfC x (defScope st) s.heap.objs.size f cdv)) →
      DSs (cxOf (L2N.CX P w) P w K mg base N x (defScope st) f cdv A outer s H E) (fun cls d _ H => E cls d H) (defBody st) T)
    (law : ∀ ds G P X, S ds G P X → T (endsOf P X) ⟨slots ds (N.length - ps.length), G⟩) : Cal P w K mg base x (k + 1) S := by
  refine ⟨f, fd, ps, hm, F.kp, b, F.ok sc (fun vs H Q E h => ?_) fun cdv A outer s H vs Q E hr hsp => ?_⟩
  · obtain ⟨W, ds, G, P, X, hl, R, s, _⟩ := h
    rw [hl, hn _ _ _ _ s]
  · exact ⟨_, walk cdv A outer s H E hr, body_lift hn law hsp⟩
end
end HD

set_option Elab.async false
set_option linter.all false
set_option maxRecDepth 100000
set_option maxHeartbeats 1000000
namespace HD
open PySem PySem.Spec PyProof.Rows L2

/-! ## an own exception with an __init__ of the text is made -/
/-- what is known of such a class: its name, its address, its fields in the order in which __init__ stores them -/
structure XCls (P : Program) (w : World) (K : PySem.W.Frag) (mg : Str → Option Value) (base : Heap) (x : Str) (C : Addr) (fs : List Str) (k : Nat) : Prop where
  cl : OexC K C
  mgC : mg x = some (.ref C)
  ini : ∃ (fI : Addr) (fd : FuncData) (ps : List Str), PySem.W.findIn K (.ref C) "__init__" = some (some (.ref fI)) ∧ PySem.W.typeIn K (.ref fI) = some (.type "function") ∧ Binds K fd ps [] ∧
    FnOk P w K mg base (L2N.CX P w) k fI fd ps (fun vs H Q _ => ∃ (a : Addr) (ys : List V), vs = .ref a :: ys ∧ ys.length = fs.length ∧ H a = some (exo a C none) ∧
      ∀ dx, H dx = none → dx ≠ a → Q .non (upd (upd H dx (exd dx ((fs.zip ys).reverse))) a (exo a C (some dx))))

section
variable {X : Cx} {Wx : WX} {e : Expr} {es : List Expr} {ta : TA} {x : Str} {C : Addr} {fs : List Str} {k : Nat} {p pos : Pos}
/-- the heap with the new exception's fields -/
theorem xd_eq {H : Hp} {a dx : Addr} {u1 u2 u3 u4 : HO} (ha : H a = none) (hd : dx ≠ a) : upd (del (upd (upd (upd H a u1) dx u2) a u3) a) dx u4 = upd H dx u4 := by
  funext b
  by_cases q : b = dx
  · subst q; rw [upd_same, upd_same]
  · rw [upd_ne q, upd_ne q]
    by_cases r : b = a
    · subst r; rw [del_same, ha]
    · rw [del_ne r, upd_ne r, upd_ne q, upd_ne r]
/-- C(e, ..): its fields -/
def tMkN (C : Addr) (fs : List Str) (ta : TA) : St → Hp → XK → Prop := fun σ H Q => ta σ H fun ys H1 => ys.length = fs.length ∧ fs.length ≤ 1000 ∧ ∀ d, H1 d = none → Q (.ref C) (some d) (upd H1 d (.xd (fs.zip ys).reverse))
def qMk (H1 : Hp) (a C : Addr) (fs : List Str) (ys : List V) : VK := fun v H2 =>
  v = .non ∧ ∃ d, H2 = upd (upd (upd H1 a (exo a C none)) d (exd d (fs.zip ys).reverse)) a (exo a C (some d)) ∧ H1 d = none ∧ d ≠ a
theorem mkN (c : XCls X.prog X.w X.K X.mg X.base x C fs k) (tk : L2N.Takes X Wx) (room : Room (k + 1) X.A) (hg : Gl X x) (args : PA X (e :: es) ta) (hdb : (x == ("__debug__" : Str)) = false := by decide)
    (he : starEach (e :: es) X.env = (false, eval e X.env) :: starEach es X.env := by rfl) (hpl : (backTo pos (starEach es X.env)).any (·.1) = false := by rfl) :
    L2N.PMk X (.Call (.Name x p) (e :: es) [] pos) (tMkN C fs ta) := fun pins s σ H Q inv0 h => by
  obtain ⟨fI, fd, ps, find, typ, bi, promise⟩ := c.ini
  obtain ⟨nm, qn, NS, bs, mr, sn, sub, ab, col, dd, k0, k1, k2, k3, k5, look, refs⟩ := c.cl.cls
  refine wpAny_Call_Name_kw
    (ld_glob inv0 hg c.mgC ?_ hdb)
  refine PySem.W.callWith_K (h₀ := X.base) inv0.ok.mod.kin c.cl.kC
    (thn (args.run pos pins s σ H _ inv0 h) fun us st ⟨ys, H1, inv, rel, hl, hl2, cont⟩ => ⟨inv.kIn, ?_⟩)
    he hpl
  obtain ⟨hp, gens, drawn, toks, os⟩ := st
  -- the new object: behind the tuple of the arguments
  generalize ea : hp.objs.size + 1 = a
  have above : hp.objs.size ≤ a := by omega
  have fresh : H1 a = none := inv.hok.fresh above
  have keeps : ∀ b o, hp.get? b = some o →
      ((hp.push (PySem.W.kdv_tup us)).push (PySem.HandSPX.excO C hp.objs.size)).get? b = some o :=
    fun _ _ z => Heap.get?_push_of_some _ (Heap.get?_push_of_some _ z)
  have got : ((hp.push (PySem.W.kdv_tup us)).push (PySem.HandSPX.excO C hp.objs.size)).get? a =
      some (PySem.HandSPX.excO C hp.objs.size) := by rw [← ea]; heap_get
  have inv2 := inv.laid (t' := toks) (a := a) (o := exo a C none)
    (h' := (hp.push (PySem.W.kdv_tup us)).push (PySem.HandSPX.excO C hp.objs.size)) keeps above (exo_ok got)
  have many : us.length ≤ sizeLine := by rw [← Paired.length rel, sizeLine_eq]; omega
  have rel2 : Vals (.ref a :: ys) (Value.ref a :: us) := .cons rfl rel
  -- what __init__ comes to
  have due := cont
  have asked : ∃ (b : Addr) (zs : List V), V.ref a :: ys = .ref b :: zs ∧ zs.length = fs.length ∧ (upd H1 a (exo a C none)) b = some (exo b C none) ∧
      ∀ dx, (upd H1 a (exo a C none)) dx = none → dx ≠ b →
        (qMk H1 a C fs ys) .non
          (upd (upd (upd H1 a (exo a C none)) dx (exd dx ((fs.zip zs).reverse))) b (exo b C (some dx))) :=
    ⟨a, ys, rfl, hl, upd_same, fun dx hn ne => ⟨rfl, dx, rfl, by rw [upd_ne ne] at hn; exact hn, ne⟩⟩
  have plen := promise.len (.ref a :: ys) _ (qMk H1 a C fs ys) (fun _ _ _ => False) asked
  have alen : (Value.ref a :: us).length = ps.length := by rw [← plen]; exact rel2.length.symm
  have bnd := bi _ (Value.ref a :: us) inv2.kIn (by rw [List.append_nil]; exact alen)
  rw [List.append_nil] at bnd
  have ran := promise.run (X.A.under (.builtin "type.__call__" ⟨.ref C :: us, []⟩)) X.stack _ _ ⟨Value.ref a :: us, []⟩
    (Value.ref a :: us) (.ref a :: ys) (qMk H1 a C fs ys) (fun _ _ _ => False) ((room.make C us []).mono (Nat.le_refl _)) (inv2.env0.make C us []) bnd rel2 asked
  show wpAny _ _ (call (.ref C) us) _ _ _
  refine wpAny_call (PySem.HandSPX.call_own F.excBase_ValueError
    (fun Y => PySem.HandSPX.refsVE_contains Y mr refs) (inv.kIn _ _ look)
    (PySem.W.looks_findIn inv.kIn find) (fun self => PySem.W.bind_fn inv.kIn self typ) many ?_)
  rw [ea]
  refine codeAny_mono ran fun r s' post => ?_
  match r, post with
  | .error er, post =>
    exact L2N.passes_call (E := fun _ _ _ => False) tk (fun _ _ _ _ z => z.elim) pins σ _ _ er s' inv2 post
  | .ok (.ret u), post =>
    obtain ⟨v, H2, o2, b2, u2, hok2, rv, ev, d, eH, nd, ne⟩ := post
    subst ev
    obtain ⟨h2, g2, d2, t2, os'⟩ := s'
    have at_a : H2 a = some (exo a C (some d)) := by rw [eH, upd_same]
    have at_d : H2 d = some (exd d (fs.zip ys).reverse) := by rw [eH, upd_ne ne, upd_same]
    obtain ⟨t0, G, J, kG, gone, there, na⟩ :=
      mk_end0 (d2 := d2) (t2 := t2) inv above keeps u2 hok2 o2 b2 at_a at_d nd
    refine ⟨rv, a, _, _, ⟨G, g2, d2, t2, os'⟩, _, .ref C, some d, rfl, J, kG, gone, there,
      ⟨rfl, rfl, fun vs hv => ?_⟩, rfl, rfl, na, rfl, b2, raises_own c.cl.exC c.cl.tyC, ?_⟩
    · cases hv; rfl
    · rw [eH, xd_eq fresh ne]
      exact due d nd
end
end HD

set_option Elab.async false
set_option linter.all false
set_option maxRecDepth 100000
set_option maxHeartbeats 1000000
namespace HD
open PySem PySem.Spec PyProof.Rows L2
section
variable {P : Program} {w : World} {K : PySem.W.Frag} {mg : Str → Option Value} {base : Heap} {fI C : Addr} {fd : FuncData} {x qual f g : Str} {st : Stmt} {k : Nat} {p1 p2 p3 p4 q1 q2 q3 q4 : Pos} {y z : Str}
/-- __init__(self, y): self.f = y -/
theorem xcls1 (F : FunD K "__init__" qual (defArgs st) (defBody st) (defScope st) [] [] fI fd) (cl : OexC K C) (hm : mg x = some (.ref C)) (b : Binds K fd ["self", y] []) (sc : FnScope ["self", y] ["self", y] (defScope st))
    (find : PySem.W.findIn K (.ref C) "__init__" = some (some (.ref fI))) (typ : PySem.W.typeIn K (.ref fI) = some (.type "function")) (no : PySem.W.findIn K (.ref C) f = some none)
    (hb : defBody st = [.Assign [.Attribute (.Name "self" p1) f p2] (.Name y p3) p4]) (v0 : (defScope st).names.lookup ("self" : Str) = some .local) (v1 : (defScope st).names.lookup y = some .local) (d1 : (y == ("__debug__" : Str)) = false := by decide) (d2 : (y == ("__classdict__" : Str)) = false := by decide) : XCls P w K mg base x C [f] (k + 1) := by
  refine ⟨cl, hm, fI, fd, ["self", y], find, typ, b, F.ok sc (fun vs H Q E h => ?_) fun cdv A outer s H vs Q E hr h => ?_⟩
  · obtain ⟨a, ys, rfl, hl, _⟩ := h
    exact congrArg (· + 1) hl
  · rw [hb]
    refine ⟨_, pss_one (ps_ost (pe_var (i := 0) rfl (.inl v0) (by decide) (by decide)) (pe_var (i := 1) rfl (.inl v1) d1 d2)), ?_⟩
    obtain ⟨a, ys, rfl, hl, ha, hq⟩ := h
    match ys, hl with
    | [u], _ => exact ⟨u, rfl, .ref a, rfl, a, C, rfl, cl, no, .inl ⟨ha, fun dx hn ne => hq dx hn ne⟩⟩
theorem upd_twice {H : Hp} {a dx : Addr} {u1 u2 u3 : HO} (hd : dx ≠ a) : upd (upd (upd H dx u1) a u2) dx u3 = upd (upd H dx u3) a u2 := by
  funext b
  by_cases q : b = dx
  · subst q; rw [upd_same, upd_ne hd, upd_same]
  · rw [upd_ne q]
    by_cases r : b = a
    · subst r; rw [upd_same, upd_same]
    · rw [upd_ne r, upd_ne q, upd_ne r, upd_ne q]
/-- __init__(self, y, z): self.f = y; self.g = z -/
theorem xcls2 (F : FunD K "__init__" qual (defArgs st) (defBody st) (defScope st) [] [] fI fd) (cl : OexC K C) (hm : mg x = some (.ref C)) (b : Binds K fd ["self", y, z] []) (sc : FnScope ["self", y, z] ["self", y, z] (defScope st))
    (find : PySem.W.findIn K (.ref C) "__init__" = some (some (.ref fI))) (typ : PySem.W.typeIn K (.ref fI) = some (.type "function")) (no : PySem.W.findIn K (.ref C) f = some none) (no2 : PySem.W.findIn K (.ref C) g = some none)
    (hb : defBody st = [.Assign [.Attribute (.Name "self" p1) f p2] (.Name y p3) p4, .Assign [.Attribute (.Name "self" q1) g q2] (.Name z q3) q4]) (v0 : (defScope st).names.lookup ("self" : Str) = some .local) (v1 : (defScope st).names.lookup y = some .local) (v2 : (defScope st).names.lookup z = some .local)
    (d1 : (y == ("__debug__" : Str)) = false := by decide) (d2 : (y == ("__classdict__" : Str)) = false := by decide) (d3 : (z == ("__debug__" : Str)) = false := by decide) (d4 : (z == ("__classdict__" : Str)) = false := by decide) : XCls P w K mg base x C [f, g] (k + 1) := by
  refine ⟨cl, hm, fI, fd, ["self", y, z], find, typ, b, F.ok sc (fun vs H Q E h => ?_) fun cdv A outer s H vs Q E hr h => ?_⟩
  · obtain ⟨a, ys, rfl, hl, _⟩ := h
    exact congrArg (· + 1) hl
  · rw [hb]
    refine ⟨_, pss_cons (ps_ost (pe_var (i := 0) rfl (.inl v0) (by decide) (by decide)) (pe_var (i := 1) rfl (.inl v1) d1 d2)) (pss_one (ps_ost (pe_var (i := 0) rfl (.inl v0) (by decide) (by decide)) (pe_var (i := 2) rfl (.inl v2) d3 d4))), ?_⟩
    obtain ⟨a, ys, rfl, hl, ha, hq⟩ := h
    match ys, hl with
    | [u, t], _ =>
      refine ⟨u, rfl, .ref a, rfl, a, C, rfl, cl, no, .inl ⟨ha, fun dx hn ne => ?_⟩⟩
      refine ⟨t, rfl, .ref a, rfl, a, C, rfl, cl, no2, .inr ⟨dx, _, upd_same, by rw [upd_ne ne, upd_same], by simp, ?_⟩⟩
      rw [upd_twice ne]
      exact hq dx hn ne
end

/-! ## raise C(e, ..) -/
def dRaise (C : Addr) (fs : List Str) (T : TAD) : TSD := fun DD ev => T ev (fun ds ev1 => ds.length = fs.length ∧ fs.length ≤ 1000 ∧ DD.ex C (some (fs.zip (dsOf ds)).reverse) ev1) DD.ex
section
variable {K : PySem.W.Frag} {W W' : Wd} {H H' : Hp} {L L' : List Addr} {ρ : List Sv} {σ : St} {G : Gs}
theorem isx_zip : ∀ {fs : List Str} {vs : List V} {ds : List Dt}, Iss K W vs ds → Isx K W (fs.zip vs) (fs.zip ds)
  | [], _, _, _ => by simp; exact .nil
  | f :: fs, _, _, .nil => .nil
  | f :: fs, _, _, .cons i r => .cons i (isx_zip r)
theorem Isx.app : ∀ {as bs cs ds}, Isx K W as bs → Isx K W cs ds → Isx K W (as ++ cs) (bs ++ ds)
  | _, _, _, _, .nil, y => y
  | _, _, _, _, .cons i r, y => .cons i (Isx.app r y)
theorem Isx.rev : ∀ {as bs}, Isx K W as bs → Isx K W as.reverse bs.reverse
  | _, _, .nil => .nil
  | _, _, .cons i r => by
    rw [List.reverse_cons, List.reverse_cons]
    exact (Isx.rev r).app (.cons i .nil)
theorem sl_iss : ∀ {ds : List Dt} {vs : List V} {L}, Sl K W H (ds.map fun d => some (d, 0)) (vs.map some) L → Iss K W vs ds
  | [], [], _, s => .nil
  | d :: ds, v :: vs, _, s => by
    cases s with
    | yes o r => exact .cons o.zero.1 (sl_iss r)
  | [], v :: vs, _, s => by cases s
  | d :: ds, [], _, s => by cases s
/-- a new frozen object -/
theorem Rel.froz {p : Addr} {o : HO} (R : Rel K W ρ G σ H L) (hp : H p = none) :
    Rel K ((W.add (upd H p o) [p])) ρ G σ (upd H p o) L ∧ Ext W (W.add (upd H p o) [p]) H (upd H p o) L L := by
  obtain ⟨R1, E1⟩ := R.grow (o := o) hp
  have pL : ∀ a ∈ L, a ∉ [p] := fun a ha hb => by
    rw [List.mem_singleton.mp hb] at ha
    obtain ⟨u, e⟩ := R.alive p ha
    rw [hp] at e; cases e
  have pC : p ∉ W.ca := fun h => by
    obtain ⟨n, hn, e⟩ := List.mem_iff_getElem.mp h
    have hg : n < G.length := by rw [← R.len]; exact hn
    obtain ⟨vs, z, _⟩ := R.cel n p (G[n]'hg) (by rw [List.getElem?_eq_getElem hn, e]) (List.getElem?_eq_getElem hg)
    rw [hp] at z; cases z
  obtain ⟨M, s, q⟩ := R1.sl
  refine ⟨⟨⟨M, s.frame (Wd.le_add R1.sub) (fun _ _ _ e => e), q⟩, R1.nd, fun a ha => (Wd.add_off (pL a ha)).trans (R1.offF a ha), R1.offC, Wd.add_sub R1.sub, R1.len, fun n a ds e1 e2 => ?_, fun a ha => ?_, R1.cnd⟩, ?_⟩
  · obtain ⟨vs, e3, z⟩ := R1.cel n a ds e1 e2
    exact ⟨vs, e3, z.mono (Wd.le_add R1.sub)⟩
  · exact (Wd.add_off fun z => pC (by rw [← List.mem_singleton.mp z]; exact ha)).trans (R1.cF a ha)
  · refine ⟨Wd.le_add R1.sub, fun a u e n => ?_, fun a h n => absurd h n, E1.keep, E1.newL, E1.live⟩
    by_cases z : a ∈ [p]
    · rw [List.mem_singleton.mp z]; exact .inl hp
    · rw [Wd.add_off z, n] at e; cases e
end
section
variable {X : Cx} {Wx : WX} {e : Expr} {es : List Expr} {T : TAD} {x : Str} {C : Addr} {fs : List Str} {k : Nat} {p p2 pos : Pos}
theorem ds_raise (c : XCls X.prog X.w X.K X.mg X.base x C fs k) (tk : L2N.Takes X Wx) (hc : X.calm = true) (room : Room (k + 1) X.A) (args : DA X Wx (e :: es) T) (hg : Gl X x := by rfl) (hdb : (x == ("__debug__" : Str)) = false := by decide)
    (he : starEach (e :: es) X.env = (false, eval e X.env) :: starEach es X.env := by rfl) (hpl : (backTo p2 (starEach es X.env)).any (·.1) = false := by rfl) :
    DS X Wx (.Raise (some (.Call (.Name x p) (e :: es) [] p2)) none pos) (dRaise C fs T) := by
  refine (L2N.ps_raise hc tk (mkN c tk room hg args hdb he hpl)).imp fun D σ H h => ?_
  obtain ⟨W, ev, L, DD, R, t, cs⟩ := h
  refine ⟨W, ev, L, _, DD.ex, R, t, fun ds ev1 vs W1 H1 L1 u hl R1 E => ?_, fun C' f' ev' dx W' H' L' px R' x' E' => cs.ex C' f' ev' σ dx W' H' L' px R' x' E'⟩
  refine ⟨hl.trans u.1, u.2.1, fun d hd => ?_⟩
  obtain ⟨W2, L2, R2, E2⟩ := R1.downAll 0 (fun _ _ => Nat.zero_le _) hl
  obtain ⟨A, B, pm, RA, RB⟩ := Rel.split (map_len hl) R2
  rw [Rel.argRel (K := X.K) (W := W) (G := ev1.G) (H := H)] at RA
  obtain ⟨MA, sA, _⟩ := RA.sl
  have ii := sl_iss sA
  obtain ⟨R3, E3⟩ := RB.froz (o := .xd (fs.zip vs).reverse) hd
  have E4 : Ext W W2 H H1 L B := (E.trans E2).less fun a ha => pm.mem_iff.mpr (List.mem_append_right _ ha)
  refine cs.ex C (some (fs.zip (dsOf ds)).reverse) ev1 σ (some d) _ _ B u.2.2 R3 ⟨d, _, rfl, (Wd.add_at (List.mem_singleton.mpr rfl)).trans upd_same, ?_⟩ (E4.trans E3)
  exact (Isx.rev (isx_zip ii)).mono E3.le
end
end HD

set_option Elab.async false
set_option linter.all false
set_option maxRecDepth 100000
set_option maxHeartbeats 4000000
namespace HD
open PySem PySem.Spec PyProof.Rows L2

/-! ## the exception that is handled: isinstance of it, its fields (its dict may stand) -/
/-- what its class must say -/
structure XIs (K : PySem.W.Frag) (D : Addr) : Prop where
  e : ExcC K D
/-- error.__class__ -/
theorem x_class {prog : Program} {w : World} {A : Around} {E : Value → Shared → Prop} {s : Shared} {K : PySem.W.Frag}
    {a D : Addr} {oe : Obj} {od : Option Obj} {Q : Option Value → Shared → Prop} (c : ExcC K D) (inK : K.In s.heap)
    (at_ : PySem.W.InstAt s.heap a oe D od) (q : Q (some (.ref D)) { s with toks := s.toks + 1 }) :
    wpAny (model prog w) A (getAttr? (.ref a) "__class__") Q E s := by
  -- the descriptor is found on the class, before the dict
  have found : PySem.W.findObj K D od "__class__" =
      some (.bind (.builtin "getset_descriptor.__get__") (.builtin "object.__class__")) := by
    obtain ⟨cd, hc, _⟩ := PySem.W.any_some c.hd
    have ha := c.ha
    have hn := c.hn
    have ht := c.ht
    unfold PySem.W.findObj
    rw [show PySem.W.clsIn K D = some cd from hc, Option.bind_some, ha, Option.bind_some]
    simp [hn, ht]
  obtain ⟨hp, gens, drawn, toks, os⟩ := s
  have ty := at_.type (M := model prog w)
  have ga := PySem.W.looks_findIn (M := model prog w) inK c.hg
  have gt := PySem.W.looks_findIn (M := model prog w) inK c.hk
  have lf := PySem.W.looks_find (M := model prog w) inK at_ found
  have isX : PySem.W.Looks (model prog w) hp (isInstance (.ref a) (.type "BaseException")) true :=
    ty.andThen (PySem.W.looks_subIn inK c.hs)
  have other : (Value.builtin "BaseException.__getattribute__" == Value.builtin "object.__getattribute__") = false := by
    decide +kernel
  have both : (onTheHeap (Value.ref D) &&
      Value.builtin "BaseException.__getattribute__" == Value.builtin "object.__getattribute__") = false := by
    rw [other]; rfl
  unfold getAttr? getAttrBy? getAttrBy
  refine wpAny_bind (wpAny_mkText (wpAny_bind
    (wpAny_attempt (wpAny_holding (wpAny_bind (ty.at (wpAny_bind (ga.at ?_))))))))
  show wpAny _ _ (if (onTheHeap (Value.ref D) &&
    Value.builtin "BaseException.__getattribute__" == Value.builtin "object.__getattribute__") = true
    then _ else _) _ _ _
  rw [both, if_neg Bool.false_ne_true]
  unfold getAttrByItsOwn
  unfold hookBefore
  refine wpAny_bind ?_
  have yes : onTheHeap (Value.ref D) = true := rfl
  rw [if_pos yes]
  refine gt.at (wpAny_bind (wpAny_attempt (wpAny_holding ?_)))
  unfold callGetattribute
  rw [show (false && onTheHeap (Value.builtin "BaseException.__getattribute__")) = false from rfl, if_neg Bool.false_ne_true]
  unfold boundAndCalled
  rw [PySem.F.excAttr_ValueError.ga.bind (.ref a)]
  refine wpAny_bind (wpAny_pure (wpAny_call
    (codeAny_call_builtin PySem.F.excAttr_ValueError.ga.plain PySem.F.entry_bexc_ga ?_)))
  refine @PySem.W.check_slot (model prog w) _ _ ⟨hp, gens, drawn, toks + 1, os⟩
    "BaseException.__getattribute__" "BaseException" "__getattribute__" (.ref a) [.str "__class__" toks] [] _
    (by decide +kernel) (by decide +kernel) isX (PySem.F.args_bexc_ga (.ref a) (.str "__class__" toks)) ?_
  unfold Builtin.«object.__getattribute__»
  refine wpAny_bind (wpAny_of_eq (a := ((Value.ref a : Value), [Value.str "__class__" toks]))
    (by first | rfl | (simp only [slotArgs]; rfl)) ?_)
  refine wpAny_bind (wpAny_pure (wpAny_bind
    (ty.at (wpAny_bind (lf.at ?_)))))
  show wpAny _ _ (holding [Value.builtin "object.__class__"]
    (call (.builtin "getset_descriptor.__get__") [.builtin "object.__class__", .ref a, .ref D]) >>= ret) _ _ _
  refine wpAny_bind (wpAny_holding (wpAny_call
    (PySem.W.class_get (s := ⟨hp, gens, drawn, toks + 1, os⟩) (ox := oe) (od := od) inK at_ c.hm ?_)))
  refine wpAny_pure ?_
  show wpAny _ _ (handedOut (.ref D)) _ _ _
  rw [PySem.W.handedOut_of (v := .ref D) rfl]
  first
  | exact wpAny_pure (wpAny_pure q)
  | exact wpAny_pure q
  | exact wpAny_pure (wpAny_bind (wpAny_pure (wpAny_pure q)))
theorem x_kit {K : PySem.W.Frag} {a D : Addr} {oe : Obj} {od : Option Obj} (c : ExcC K D) :
    PySem.W.KitX K (.ref a) (.ref D) (fun h => PySem.W.InstAt h a oe D od) where
  ty := fun M h inK I => I.type
  it := fun M h inK I => by
    obtain ⟨cd, hc, _⟩ := PySem.W.any_some c.hd
    unfold PySem.W.clsIn at hc
    split at hc
    · rename_i h0
      intro A' Q' E' s' keeps q
      unfold isType loadHead
      exact wpAny_bind (wpAny_loadPart (keeps _ _ (inK _ _ h0)) (wpAny_pure q))
    · cases hc
  ne := fun h tp dd its n sl inK htp => by
    refine Bool.eq_false_iff.mpr fun same => ?_
    obtain ⟨cd, hc, _⟩ := PySem.W.any_some c.hd
    cases Value.ref.inj (beq_iff_eq.mp same)
    unfold PySem.W.clsIn at hc
    split at hc
    · rename_i h0
      cases (inK _ _ h0).symm.trans htp
    · cases hc
  ca := fun inK I q => x_class c inK I q
end HD

set_option Elab.async false
set_option linter.all false
set_option maxRecDepth 100000
set_option maxHeartbeats 1000000
namespace HD
open PySem PySem.Spec PyProof.Rows L2
/-- the caught exception: what stands at its address, its class, its dict -/
structure Caught (X : Cx) (p : Addr × Obj) (D : Addr) (dx : Option Addr) : Prop where
  mem : p ∈ X.pn
  zn : L2N.Zn (.ref D) dx p.2
  fld : ∃ vs, p.2.data = .fields vs
  ec : ExcC X.K D
section
variable {X : Cx} {Wx : WX} {p : Addr × Obj} {D : Addr} {dx : Option Addr} {pos p1 p2 p3 p4 : Pos} {x : Str} {i : Nat} {b : Bool}
theorem Caught.inst (c : Caught X p D dx) {pins : List (Addr × Obj)} {σ : St} {H : Hp} {s : Shared} (I : Inv X pins σ H s) (hd : ∀ dd, dx = some dd → ∃ vs, H dd = some (.xd vs)) : ∃ od, PySem.W.InstAt s.heap p.1 p.2 D od := by
  have at_ := (I.pin p (List.mem_append_left _ c.mem)).1
  obtain ⟨vs, hv⟩ := c.fld
  have no : PySem.W.notCls p.2 = true := by unfold PySem.W.notCls; rw [hv]
  cases dx with
  | none => exact ⟨none, at_, c.zn.1, no, by rw [c.zn.2.1]; exact trivial⟩
  | some dd =>
    obtain ⟨ws, hw⟩ := hd dd rfl
    obtain ⟨o, ho⟩ := objOk_get (I.hok dd _ hw)
    exact ⟨some o, at_, c.zn.1, no, by rw [c.zn.2.1]; exact ho⟩
theorem exc_xd {W : Wd} {H : Hp} {a : Addr} {fs : List (Str × Dt)} (h : Is X.K W (.ref a) (.exc a dx fs)) (s : ∀ a o, W.F a = some o → H a = some o) : ∀ dd, dx = some dd → ∃ vs, H dd = some (.xd vs) := fun dd e => by
  cases h with
  | exn => cases e
  | exf e1 r => cases e; exact ⟨_, s _ _ e1⟩
/-- isinstance(error, C) -/
def rIsX (K : PySem.W.Frag) (D : Addr) (dx : Option Addr) (a : Addr) (c : V) (b : Bool) : List V → Hp → VK → Prop := fun xs H Q => xs = [.ref a, c] ∧ (∀ dd, dx = some dd → ∃ vs, H dd = some (.xd vs)) ∧ Q (.bl b) H
theorem call_isX {c : V} {cv : Value} (ca : Caught X p D dx) (hcv : ∀ u, RelV c u → u = cv) (ok : PySem.W.kitOne X.K (.ref D) cv = some b) : CallR X (.builtin "isinstance") (rIsX X.K D dx p.1 c b) := fun pins s σ H xs us Q inv r h => by
  obtain ⟨rfl, hd, q⟩ := h
  match us, r with
  | [u0, u1], .cons r0 (.cons r1 .nil) =>
    obtain rfl : u0 = .ref p.1 := r0
    obtain rfl := hcv _ r1
    obtain ⟨od, at_⟩ := ca.inst inv hd
    exact PySem.W.kia_one (x_kit ca.ec) inv.kIn at_ ok (fun z => nomatch z) fun tk => ⟨.bl b, H, inv.kept (t' := tk) fun _ _ z => z, rfl, q⟩
def dIsX (a : Addr) (dx : Option Addr) (b : Bool) (i : Nat) : TED := fun ev P _ => ∃ fs n, ev.r[i]? = some (some (.exc a dx fs, n)) ∧ P (.bl b) topL ev
theorem lIsX {c : V} {σ : St} {H : Hp} {Q : VK} (q : liftE X.K Wx (dIsX p.1 dx b i) σ H Q) : tCB (rIsX X.K D dx p.1 c b) (tCons (tVar i) (tCons (tC c) tNil)) σ H Q := by
  obtain ⟨W, ev, L, P, Xc, R, ⟨fs, n, e, u⟩, cov, cx⟩ := q
  obtain ⟨v, f, a, o⟩ := R.at e
  obtain ⟨rfl, i1⟩ := o.exc
  exact ⟨_, a, rfl, exc_xd i1 R.sub, cov.is R (fun _ h => h) .bl (.inr rfl) u⟩
variable {n : Str}
/-- .. C of the module -/
theorem de_isX {C : Addr} (ca : Caught X p D dx) (ok : PySem.W.kitOne X.K (.ref D) (.ref C) = some b) (hm : X.mg "isinstance" = none) (hC : X.mg x = some (.ref C)) (hi : PE X (.Name n p1) (tVar i)) (hg : Gl X "isinstance" := by rfl) (hgt : Gl X x := by rfl)
    (hdb : (x == ("__debug__" : Str)) = false := by decide)
    (he : starEach [.Name n p1, .Name x p2] X.env = (false, eval (.Name n p1) X.env) :: starEach [.Name x p2] X.env := by rfl) (he2 : starEach [.Name x p2] X.env = (false, eval (.Name x p2) X.env) :: starEach [] X.env := by rfl) (hpl : (backTo pos (starEach [.Name x p2] X.env)).any (·.1) = false := by rfl) :
    DE X Wx (.Call (.Name "isinstance" p3) [.Name n p1, .Name x p2] [] pos) (dIsX p.1 dx b i) :=
  (pe_callB (call_isX (c := .ref C) ca (fun u r => r) ok) hg hm boot_isinstance (pa_cons hi (pa_cons (pe_glob (v := .ref C) hgt hC rfl hdb) pa_nil he2) he) (by decide) (by decide) he hpl).imp fun σ H Q q => lIsX q
/-- .. a built-in class -/
theorem de_isXB {t : String} (ca : Caught X p D dx) (ok : PySem.W.kitOne X.K (.ref D) (.type t) = some b) (hm : X.mg "isinstance" = none) (hmt : X.mg x = none) (hv : bootBuiltins x = some (.type t)) (hi : PE X (.Name n p1) (tVar i)) (hg : Gl X "isinstance" := by rfl) (hgt : Gl X x := by rfl)
    (hn : x ≠ "__name__" := by decide) (hdb : (x == ("__debug__" : Str)) = false := by decide)
    (he : starEach [.Name n p1, .Name x p2] X.env = (false, eval (.Name n p1) X.env) :: starEach [.Name x p2] X.env := by rfl) (he2 : starEach [.Name x p2] X.env = (false, eval (.Name x p2) X.env) :: starEach [] X.env := by rfl) (hpl : (backTo pos (starEach [.Name x p2] X.env)).any (·.1) = false := by rfl) :
    DE X Wx (.Call (.Name "isinstance" p3) [.Name n p1, .Name x p2] [] pos) (dIsX p.1 dx b i) :=
  (pe_callB (call_isX (c := .ty t) ca (fun u r => r) ok) hg hm boot_isinstance (pa_cons hi (pa_cons (pe_bltn hgt hmt hv (v := .ty t) rfl hn hdb) pa_nil he2) he) (by decide) (by decide) he hpl).imp fun σ H Q q => lIsX q

/-! ### error.f -/
def dFld (a dd : Addr) (f : Str) (i : Nat) : TED := fun ev P _ => ∃ fs n d, ev.r[i]? = some (some (.exc a (some dd) fs, n)) ∧ fs.lookup f = some d ∧ P d 0 ev
theorem isx_look {K : PySem.W.Frag} {W : Wd} {f : Str} {d : Dt} : ∀ {vs : List (Str × V)} {fs : List (Str × Dt)}, Isx K W vs fs → fs.lookup f = some d → ∃ v, vs.lookup f = some v ∧ Is K W v d
  | _, _, .nil, h => by cases h
  | _, _, .cons (k := k) (vs := vs) (ds := ds) i r, h => by
    rw [List.lookup_cons] at h ⊢
    cases q : (f == k) with
    | true => rw [q] at h; cases h; exact ⟨_, rfl, i⟩
    | false => rw [q] at h; exact isx_look r h
def tFldX (a dd : Addr) (f : Str) (i : Nat) : TE := fun σ H Q => σ[i]? = some (some (.ref a)) ∧ ∃ (vs : List (Str × V)) (v : V), H dd = some (.xd vs) ∧ vs.lookup f = some v ∧ Q v H
theorem pe_fldX {dd : Addr} {f : Str} {e : Expr} (ca : Caught X p D (some dd)) (cl : XfC X.K D) (no : PySem.W.findIn X.K (.ref D) f = some none) (hi : PE X e (tVar i)) (hb : attributeBase e f X.env (eval e X.env) = eval e X.env := by rfl) : PE X (.Attribute e f pos) (tFldX p.1 dd f i) := by
  refine ⟨fun pins s σ H Q inv ⟨at0, vs, v, eh, lk, q⟩ => ?_⟩
  refine attr_of hb (thn (hi.run pins s σ H (fun x H1 => x = .ref p.1 ∧ H1 = H) inv ⟨_, at0, rfl, rfl⟩) fun u s1 ⟨x, H1, inv1, rx, ex, eH⟩ => ?_)
  subst ex
  subst eH
  obtain rfl : u = Value.ref p.1 := rx
  obtain ⟨ms, hns, hr⟩ : ∃ mA, s1.heap.Ns1 dd mA ∧ ∀ f, RelO (vs.lookup f) (mA f) := inv1.hok dd _ eh
  obtain ⟨o, ho, hl⟩ := lookIn_ns hns
  obtain ⟨u, hu, ru⟩ := RelO.some_of (v := v) (o := ms f) (by rw [← lk]; exact hr f)
  obtain ⟨ws, hv⟩ := ca.fld
  have inst : PySem.W.InstAt s1.heap p.1 p.2 D (some o) := by
    refine ⟨(inv1.pin p (List.mem_append_left _ ca.mem)).1, ca.zn.1, ?_, ?_⟩
    · unfold PySem.W.notCls; rw [hv]
    · rw [ca.zn.2.1]; exact ho
  exact HandSPX.exc_get inv1.kIn inst cl.ga cl.gg cl.exC
    (PySem.W.findObj_own cl.hdC no rfl (by rw [hl, hu])) (handed_of ru)
    ⟨v, H1, inv1.tok _, ru, q⟩
theorem de_fld {dd : Addr} {f : Str} {e : Expr} (ca : Caught X p D (some dd)) (cl : XfC X.K D) (no : PySem.W.findIn X.K (.ref D) f = some none) (hi : PE X e (tVar i)) (hb : attributeBase e f X.env (eval e X.env) = eval e X.env := by rfl) : DE X Wx (.Attribute e f pos) (dFld p.1 dd f i) := by
  refine (pe_fldX ca cl no hi hb).imp fun σ H Q q => ?_
  obtain ⟨W, ev, L, P, Xc, R, ⟨fs, n, d, e, l, u⟩, cov, cx⟩ := q
  obtain ⟨v, fp, a, o⟩ := R.at e
  obtain ⟨rfl, i1⟩ := o.exc
  cases i1 with
  | exf e1 r =>
    obtain ⟨v, lv, iv⟩ := isx_look r l
    exact ⟨a, _, v, R.sub _ _ e1, lv, cov.is R (fun _ h => h) iv (.inl rfl) u⟩
end
end HD

set_option Elab.async false
set_option linter.all false
set_option maxRecDepth 100000
set_option maxHeartbeats 1000000
namespace HD
open PySem PySem.Spec PyProof.Rows L2
open L2H (RoomH Hot1 PinOk cxH inv_startH)
/-! ## defs that are called while p's exception is handled; what they promise may speak of p -/
structure FnP (P : Program) (w : World) (K : PySem.W.Frag) (mg : Str → Option Value) (base : Heap) (k : Nat) (f : Addr) (fd : FuncData) (ps : List Str) (sp : Addr × Obj → Sp) : Prop where
  args : ∀ p vs H Q E, sp p vs H Q E → vs.length = ps.length
  runs : ∀ (A : Around) (outer : List Env) (s : Shared) (H : Hp) (args : Args) (us : List Value) (vs : List V) (Q : VK) (E : XK) (p : Addr × Obj),
    RoomH k A → Hot1 A p → PinOk outer H s p → Env0 P w K mg base A outer s H → BindsTo s fd args (ps.zip us) → Vals vs us → sp p vs H Q E →
    codeAny (model P w) A (.call (.ref f) args) (CR (L2N.CX P w) outer P w H s Q E) s
section
variable {P : Program} {w : World} {K : PySem.W.Frag} {mg : Str → Option Value} {base : Heap} {k : Nat} {f : Addr} {x : Str} {fd : FuncData} {st : Stmt} {N ps : List Str} {sp : Addr × Obj → Sp}
theorem fnP_of (F : Fd K x st f fd) (sc : FnScope N ps (defScope st)) (len : ∀ p vs H Q E, sp p vs H Q E → vs.length = ps.length)
    (body : ∀ (cdv : Value) (A : Around) (outer : List Env) (s : Shared) (H : Hp) (vs : List V) (Q : VK) (E : XK) (p : Addr × Obj), Hot1 A p → RoomH k (A.deeper (envOfC x (defScope st) s.heap.objs.size f cdv)) → sp p vs H Q E →
      ∃ t, PSs (cxH (L2N.CX P w) P w K mg base N x (defScope st) f cdv A outer s H E p) (defBody st) t ∧ t { nx := fun _ H' => Q .non H', rt := Q } (L2.start N vs) H) :
    FnP P w K mg base (k + 1) f fd ps sp := by
  obtain ⟨oc, od, dV, kV, doc, pm, an, cdv, ct, osl, rfl, look, code, _, _⟩ := F.ex
  refine ⟨len, fun A outer s H args us vs Q E p room hot pin env0 bnd rel hsp => ?_⟩
  have many := len _ _ _ _ _ hsp
  have inK : K.In s.heap := env0.mod.kin.keeps fun b o e => (env0.bs b o e).1
  have noLim : s.heap.NoLimit := env0.mod.nolimit.keeps fun b o e => (env0.bs b o e).1
  have kinds : ∀ y ∈ ps.zip us, (defScope st).names.lookup y.1 = some .local ∨
      ((defScope st).names.lookup y.1 = some .cell ∧ ((cellsFrom (s.heap.objs.size + 1) (defScope st).names []).lookup y.1).isSome = true) :=
    fun y hy => (sc.par y.1 (List.of_mem_zip (a := y.1) (b := y.2) hy).1).imp id fun q => ⟨q, PySem.W.cellsFrom_some _ _ _ (.inl q)⟩
  refine codeAny_call_function room.depth (inK _ _ look) rfl sc.co sc.gen rfl
    (PySem.W.codeRec_of inK code) (bnd _ _ _ _ ?_)
  refine wpAny_newFunctionEnv_cells sc.kind kinds fun env he s1 came => ?_
  subst he
  refine ⟨noLim.keeps came.toInCall.keep, codeAny_func ?_⟩
  obtain ⟨t, walk, q⟩ := body cdv A outer s H vs Q E p hot (room.deeper _) hsp
  refine wpAny_mono (walk.run [] s1 (L2.start N vs) H _ (inv_startH sc pin env0 many rel came) q) (fun fl s' post => ?_) fun _ _ z => z
  match fl, post with
  | .ret u, ⟨v, σ', H', J, rv, q⟩ => exact ⟨v, H', J.os, J.bare, J.base, J.hok, rv, q⟩
  | .next, ⟨σ', H', J, q⟩ => exact ⟨.non, H', J.os, J.bare, J.base, J.hok, (rfl : RelV .non Value.none), q⟩
  | .brk, ⟨_, _, _, q⟩ => exact q.elim
  | .cont, ⟨_, _, _, q⟩ => exact q.elim
end
structure CalP (P : Program) (w : World) (K : PySem.W.Frag) (mg : Str → Option Value) (base : Heap) (x : Str) (k : Nat) (S : Addr × Obj → SpD) : Prop where
  ex : ∃ (f : Addr) (fd : FuncData) (ps : List Str), mg x = some (.ref f) ∧ PySem.W.keepIn K (.ref f) = true ∧ Binds K fd ps [] ∧ FnP P w K mg base k f fd ps (fun p => liftF K (S p))
theorem calP_of {P : Program} {w : World} {K : PySem.W.Frag} {mg : Str → Option Value} {base : Heap} {x : Str} {st : Stmt} {f : Addr} {fd : FuncData} {N ps : List Str} {k : Nat} {S : Addr × Obj → SpD} {T : Addr × Obj → TSD} (F : Fd K x st f fd) (hm : mg x = some (.ref f)) (b : Binds K fd ps []) (sc : FnScope N ps (defScope st))
    (hn : ∀ p ds G P X, S p ds G P X → ds.length = ps.length)
    (walk : ∀ cdv A outer s H E p, Hot1 A p → RoomH k (A.deeper (envOfC x (defScope st) s.heap.objs.size f cdv)) → (∃ ds G P X, S p ds G P X) →
      DSs (cxH (L2N.CX P w) P w K mg base N x (defScope st) f cdv A outer s H E p) (fun cls d _ H => E cls d H) (defBody st) (T p))
    (law : ∀ p ds G P X, S p ds G P X → T p (endsOf P X) ⟨slots ds (N.length - ps.length), G⟩) : CalP P w K mg base x (k + 1) S := by
  refine ⟨f, fd, ps, hm, F.kp, b, fnP_of F sc (fun p vs H Q E h => ?_) fun cdv A outer s H vs Q E p hot room hsp => ?_⟩
  · obtain ⟨W, ds, G, P, X, hl, R, s, _⟩ := h
    rw [hl, hn _ _ _ _ _ s]
  · have h2 : ∃ ds G P X, S p ds G P X := by
      obtain ⟨W, ds, G, P, X, hl, R, s, _⟩ := hsp
      exact ⟨ds, G, P, X, s⟩
    exact ⟨_, walk cdv A outer s H E p hot room h2, body_lift (hn p) (law p) hsp⟩
section
variable {X : Cx} {Wx : WX} {e : Expr} {es : List Expr} {T : TAD} {x : Str} {k : Nat} {S : Addr × Obj → SpD} {p : Addr × Obj} {q pos : Pos}
theorem de_callP (F : CalP X.prog X.w X.K X.mg X.base x k S) (tk : L2N.Takes X Wx) (room : RoomH k X.A) (hot : Hot1 X.A p) (hp : p ∈ X.pn) (ha : DA X Wx (e :: es) T) (hg : Gl X x := by rfl) (hdb : (x == ("__debug__" : Str)) = false := by decide)
    (he : starEach (e :: es) X.env = (false, eval e X.env) :: starEach es X.env := by rfl) (hpl : (backTo pos (starEach es X.env)).any (·.1) = false := by rfl) : DE X Wx (.Call (.Name x q) (e :: es) [] pos) (dCall (S p) T) := by
  obtain ⟨f, fd, ps, hm, hk, bi, fn⟩ := F.ex
  refine PE.imp (t := tCallS (liftF X.K (S p)) (WE Wx) (liftA X.K Wx T)) ⟨fun pins s σ H Q inv h => ?_⟩ fun σ H Q h => call_lift h
  refine wpAny_Call_Name_kw
    (ld_glob inv hg hm ?_ hdb)
  refine PySem.W.callWith_K (h₀ := X.base) inv.ok.mod.kin hk
    (thn (ha.run pos pins s σ H _ inv h) fun us st ⟨vs, H1, inv1, rel, want⟩ => ⟨inv1.kIn, ?_⟩)
    he hpl
  have alen : us.length = ps.length := rel.length.symm.trans (fn.args _ _ _ _ _ want)
  have bnd := bi st us inv1.kIn (by rw [List.append_nil]; exact alen)
  rw [List.append_nil] at bnd
  have at_ := inv1.pin p (List.mem_append_left _ hp)
  have pin : PinOk X.stack H1 st p := ⟨at_.1, at_.2.1, fun hm => (List.mem_cons.mp (inv1.stkSub p.1 hm)).elim at_.2.2.1 at_.2.2.2.1, at_.2.2.2.2⟩
  refine wpAny_call (codeAny_mono (fn.runs X.A X.stack st H1 ⟨us, []⟩ us vs Q (WE Wx σ) p room hot pin inv1.env0 bnd rel want) fun r s' post => ?_)
  match r, post with
  | .error er, post => exact L2N.passAt tk σ pins H1 st er s' inv1 post
  | .ok (.ret u), post => exact inv1.after post
end
end HD

set_option Elab.async false
set_option linter.all false
set_option maxRecDepth 100000
set_option maxHeartbeats 1000000
namespace HD
open PySem PySem.Spec PyProof.Rows L2
section
variable {K : PySem.W.Frag} {W W' : Wd} {H H' : Hp} {L L' : List Addr} {ρ : List Sv} {σ : St} {G : Gs}
theorem Rel.hole {t : Option V} (R : Rel K W ρ G σ H L) : Rel K W (none :: ρ) G (t :: σ) H L := by
  obtain ⟨M, s, p⟩ := R.sl
  exact ⟨⟨M, .no s, p⟩, R.nd, R.offF, R.offC, R.sub, R.len, R.cel, R.cF, R.cnd⟩
def fldsOf (f : Fld) : List (Str × Dt) := f.getD []
theorem exAt_is {f : Fld} {dx : Option Addr} {a : Addr} (h : ExAt K W f dx) : Is K W (.ref a) (.exc a dx (fldsOf f)) := by
  cases f with
  | none =>
    have e : dx = none := h
    subst e
    exact .exn
  | some fs =>
    obtain ⟨dd, vs, e, q, r⟩ := h
    subst e
    exact .exf q r
end
/-- try: body; except C as n: suite (slot i is n's); the suite lets nothing out -/
def dTry (K : PySem.W.Frag) (c : Value) (i : Nat) (Tb : TSD) (Ts : Addr → Value → Option Addr → TSD) : TSD := fun DD ev =>
  Tb { DD with ex := fun C f ev1 => ∃ b, PySem.W.exmOne K (.ref C) c = some b ∧
    (b = true → ∀ a dx, dx.isSome = f.isSome → Ts a (.ref C) dx { nx := fun e => DD.nx ⟨e.r.set i none, e.G⟩, rt := DD.rt, ex := fun _ _ _ => False, bk := fun e => DD.bk ⟨e.r.set i none, e.G⟩, ct := fun e => DD.ct ⟨e.r.set i none, e.G⟩ }
      ⟨ev1.r.set i (some (.exc a dx (fldsOf f), topL)), ev1.G⟩) ∧ (b = false → DD.ex C f ev1) } ev
section
variable {X : Cx} {Wx : WX} {x n : Str} {c : Value} {i : Nat} {body suite : List Stmt} {b₀ : Stmt} {np pos pos' : Pos} {Tb : TSD} {Ts : Addr → Value → Option Addr → TSD}
theorem exAt_some {K : PySem.W.Frag} {W : Wd} {f : Fld} {dx : Option Addr} (h : ExAt K W f dx) : dx.isSome = f.isSome := by
  cases f with
  | none => rw [show dx = none from h]; rfl
  | some fs =>
    obtain ⟨dd, vs, e, q, r⟩ := h
    rw [e]; rfl
abbrev noW0 : WX := fun _ _ _ _ => False
theorem takes_noW0 {X : Cx} : L2N.Takes X noW0 := fun _ _ ⟨_, _, _, _, _, _, _, _, _, _, _, _, _, _, _, _, z⟩ => z.elim
theorem ds_try (hs : X.stack = X.env :: X.outer) (hf : X.env.frame = some X.env.locals) (hN : X.N.Nodup) (hi : X.N[i]? = some n) (hln : X.env.kindOf n = some .local) (hc : Names X x c) (tk : L2N.Takes X Wx)
    (hb : ∀ (W : WX) (pn : List (Addr × Obj)) (xe : Value → Shared → Prop), L2N.Takes (X.tr pn xe) W → PassesOwn (model X.prog X.w) X.A X.env xe → DSs (X.tr pn xe) W body Tb)
    (hsu : ∀ (a : Addr) (oe : Obj) (cls : Value) (d : Option Addr) (pn : List (Addr × Obj)), L2N.Zn cls d oe → (∃ vs, oe.data = .fields vs) → DSs (X.suite a ((a, oe) :: pn)) noW0 (b₀ :: suite) (Ts a cls d)) :
    DS X Wx (.Try body [.ExceptHandler (some (.Name x np)) (some n) (b₀ :: suite) pos'] [] [] pos) (dTry X.K c i Tb Ts) := by
  refine (L2N.ps_try_as (tb := fun W => liftS X.K W Tb) (ts := fun a cls d => liftS X.K noW0 (Ts a cls d)) hs hf hN hi hln hc tk hb hsu).imp fun D σ H q => ?_
  obtain ⟨W, ev, L, DD, R, t, cs⟩ := q
  refine ⟨W, ev, L, _, R, t, ⟨cs.nx, cs.bk, cs.ct, cs.rt, fun C f ev1 σ1 dx W1 H1 L1 h R1 xa E1 => ?_⟩⟩
  obtain ⟨b, e, yes, no⟩ := h
  refine ⟨b, e, fun hb a na => ?_, fun hb => cs.ex C f ev1 σ1 dx W1 H1 L1 (no hb) R1 xa E1⟩
  obtain ⟨L2, sub2, R2⟩ := Rel.store (R1.put (n := topL) (exAt_is (a := a) xa) (.inr rfl)) i
  have E2 : Ext W W1 H H1 L L2 := E1.less sub2
  have cs2 := cs.step E2
  have out : ∀ {ev' σ' W' H' L'}, Rel X.K W' (Ev.r ev') (Ev.G ev') σ' H' L' → ∃ L3, (∀ a ∈ L3, a ∈ L') ∧ Rel X.K W' (ev'.r.set i none) ev'.G (σ'.set i none) H' L3 := fun {ev' σ' W' H' L'} R' => Rel.store (R'.hole (t := none)) i
  refine ⟨W1, _, L2, _, R2, yes hb a dx (exAt_some xa), ⟨fun ev' σ' W' H' L' p R' E' => ?_, fun ev' σ' W' H' L' p R' E' => ?_, fun ev' σ' W' H' L' p R' E' => ?_, fun d n G v W' H' L' p R' E' => cs2.rt d n G v W' H' L' p R' E', fun _ _ _ _ _ _ _ _ p _ _ _ => p⟩⟩
  · obtain ⟨L3, s3, R3⟩ := out R'
    exact cs2.nx _ _ W' H' L3 p R3 (E'.less s3)
  · obtain ⟨L3, s3, R3⟩ := out R'
    exact cs2.bk _ _ W' H' L3 p R3 (E'.less s3)
  · obtain ⟨L3, s3, R3⟩ := out R'
    exact cs2.ct _ _ W' H' L3 p R3 (E'.less s3)
end
end HD

set_option Elab.async false
set_option linter.all false
set_option maxRecDepth 100000
set_option maxHeartbeats 1000000
namespace HD
open PySem PySem.Spec PyProof.Rows L2
/-! ## list.count, list.index of any shaped data; str.split -/
def rCntD (K : PySem.W.Frag) : V → List V → Hp → VK → Prop := fun x xs H Q => ∃ (a : Addr) (y : V) (d : PyData) (ds : List PyData), x = V.ref a ∧ xs = [y] ∧ Dp K H (V.ref a) (.list ds) ∧ Dp K H y d ∧
  SeqAt.shaped (.list ds) = true ∧ SeqAt.shaped d = true ∧ Q (.int (ds.countP fun z => PyData.eqv z d : Nat)) H
theorem mt_countD {X : Cx} (hu : X.A.units + 65 < cLine) : MtR X "list.count" (rCntD X.K) := fun pins s σ H x xs v us Q inv rx rxs h => by
  obtain ⟨a, y, d, ds, rfl, rfl, hl, hy, sl, sd, q⟩ := h
  obtain rfl : v = .ref a := rx
  match us, rxs with
  | [uy], .cons ry .nil =>
    obtain ⟨bs, ryd⟩ := Dp.reads inv d y uy hy ry
    match hl with
    | .lst hs ha =>
      obtain ⟨its, rel, ⟨⟨cls, dd, data, slots⟩, n, look, hc, _, hdt⟩, few⟩ := inv.list hs
      simp only at hc hdt
      subst hc hdt
      obtain ⟨as, all⟩ := Dp.readsAll inv ds _ its ha rel
      have lay : PyData.canLayAll0 ds = true := SeqAt.canLay_of_shaped sl
      have same : its.map (SeqAt.readOf s.heap) = ds := SeqAt.readsAll_map ds its as lay all
      have count : its.toArray.toList.countP (fun u => PyData.eqv (SeqAt.readOf s.heap u) d) = ds.countP fun z => PyData.eqv z d := by
        rw [← same, List.countP_map]; rfl
      refine call_meets PySem.F.slot_list_count ⟨_, look, rfl⟩ PySem.F.entry_list_count
        (PySem.F.args_list_count_2 _ _)
        (SeqAt.list_countAt a its.toArray n dd slots uy fun u => PyData.eqv (SeqAt.readOf s.heap u) d)
        ⟨look, SeqAt.items_eqAt (vs := its.toArray) (show ReadsAll s.heap its.toArray.toList ds as from all) ryd lay (SeqAt.canLay_of_shaped sd) (room_in_shaped sd hu), ?_⟩
      rw [count]
      exact ⟨.int _, H, inv.tok _, ⟨_, rfl⟩, q⟩
def cntD (ds : List Dt) (d : Dt) : Nat := (toPys ds).countP fun z => PyData.eqv z (toPy d)
def idxD (ds : List Dt) (d : Dt) : Option Nat := (toPys ds).findIdx? fun z => PyData.eqv z (toPy d)
def dCnt (j : Nat) (Ta : TED) : TED := fun ev P Xc => (∃ ds m, ev.r[j]? = some (some (.lst ds, m))) ∧ Ta ev (fun d n ev1 => ∃ ds m, ev1.r[j]? = some (some (.lst ds, m)) ∧ shp (.lst ds) = true ∧ shp d = true ∧ P (.int (cntD ds d : Nat)) topL ev1) Xc
def dIdxM (j : Nat) (Ta : TED) : TED := fun ev P Xc => (∃ ds m, ev.r[j]? = some (some (.lst ds, m))) ∧ Ta ev (fun d n ev1 => ∃ ds m q, ev1.r[j]? = some (some (.lst ds, m)) ∧ shp (.lst ds) = true ∧ shp d = true ∧ idxD ds d = some q ∧ P (.int (q : Nat)) topL ev1) Xc
section
variable {X : Cx} {Wx : WX} {e a b o : Expr} {Ta Tb : TED} {pos p : Pos} {j : Nat}
theorem de_cnt {apos cpos : Pos} (hu : X.A.units + 65 < cLine) (ho : PE X o (tVar j)) (ha : DE X Wx a Ta)
    (hbase : attributeBase o "count" X.env (eval o X.env) = eval o X.env := by rfl)
    (hfew : ((backTo cpos (starEach [a] X.env)).all (fun x => !x.1) && (backToKw cpos (keywordEach [] X.env)).all (fun x => x.1.isSome) && decide ([a].length + ([] : List Keyword).length + (if ([] : List Keyword).isEmpty then 0 else 1) < 30)) = true := by rfl)
    (hline : (apos.endLine == cpos.line) = true := by rfl) (he : starEach [a] X.env = (false, eval a X.env) :: starEach [] X.env := by rfl) (hplain : (backTo cpos (starEach [] X.env)).any (·.1) = false := by rfl) :
    DE X Wx (.Call (.Attribute o "count" apos) [a] [] cpos) (dCnt j Ta) := by
  refine (pe_bm PySem.F.plainAttrs_list PySem.F.slot_list_count PySem.F.type_list_count (mt_countD hu) ho (pa_cons ha pa_nil he) hbase hfew hline he hplain).imp fun σ H Q q => ?_
  obtain ⟨W, ev, L, P, Xc, R, ⟨⟨ds0, m0, e0⟩, t⟩, c, cx⟩ := q
  obtain ⟨v0, f0, ev0, o0⟩ := R.at e0
  refine ⟨v0, ev0, tyV_lst R.sub o0, W, ev, L, _, Xc, R, t, fun d n ev1 v W1 H1 L1 u R1 E => ?_, cx⟩
  obtain ⟨ds, m, e1, s1, s2, z⟩ := u
  obtain ⟨_, _, f1, _, _, o1, _, _⟩ := R1.pop
  obtain ⟨L2, sub2, R2⟩ := R1.drop
  obtain ⟨v1, f2, ev1', o2⟩ := R2.at e1
  rw [ev0] at ev1'
  cases ev1'
  obtain ⟨A, vs, rfl, _, _⟩ := o0.lstv R.sub
  exact ⟨A, v, toPy d, toPys ds, rfl, rfl, o2.dp R1.sub (SeqAt.canLay_of_shaped s1), o1.dp R1.sub (SeqAt.canLay_of_shaped s2), s1, s2, (c.step E).is R2 sub2 .int (.inr rfl) z⟩
theorem find_first {α : Type} {p : α → Bool} : ∀ {l : List α} {q : Nat}, l.findIdx? p = some q → ∃ z, l[q]? = some z ∧ p z = true ∧ ∀ (m : Nat) (z' : α), m < q → l[m]? = some z' → p z' = false := fun {l q} h => by
  obtain ⟨hq, hp, hn⟩ := List.findIdx?_eq_some_iff_getElem.mp h
  refine ⟨l[q], List.getElem?_eq_getElem hq, hp, fun m z' hm hz => ?_⟩
  obtain ⟨hl, e⟩ := List.getElem?_eq_some_iff.mp hz
  have := hn m hm
  rw [e] at this
  simpa using this
theorem de_idxM {apos cpos : Pos} (hu : X.A.units + 65 < cLine) (ho : PE X o (tVar j)) (ha : DE X Wx a Ta)
    (hbase : attributeBase o "index" X.env (eval o X.env) = eval o X.env := by rfl)
    (hfew : ((backTo cpos (starEach [a] X.env)).all (fun x => !x.1) && (backToKw cpos (keywordEach [] X.env)).all (fun x => x.1.isSome) && decide ([a].length + ([] : List Keyword).length + (if ([] : List Keyword).isEmpty then 0 else 1) < 30)) = true := by rfl)
    (hline : (apos.endLine == cpos.line) = true := by rfl) (he : starEach [a] X.env = (false, eval a X.env) :: starEach [] X.env := by rfl) (hplain : (backTo cpos (starEach [] X.env)).any (·.1) = false := by rfl) :
    DE X Wx (.Call (.Attribute o "index" apos) [a] [] cpos) (dIdxM j Ta) := by
  refine (pe_bm PySem.F.plainAttrs_list PySem.F.slot_list_index PySem.F.type_list_index (mt_indexD hu) ho (pa_cons ha pa_nil he) hbase hfew hline he hplain).imp fun σ H Q q => ?_
  obtain ⟨W, ev, L, P, Xc, R, ⟨⟨ds0, m0, e0⟩, t⟩, c, cx⟩ := q
  obtain ⟨v0, f0, ev0, o0⟩ := R.at e0
  refine ⟨v0, ev0, tyV_lst R.sub o0, W, ev, L, _, Xc, R, t, fun d n ev1 v W1 H1 L1 u R1 E => ?_, cx⟩
  obtain ⟨ds, m, q, e1, s1, s2, fq, z⟩ := u
  obtain ⟨_, _, f1, _, _, o1, _, _⟩ := R1.pop
  obtain ⟨L2, sub2, R2⟩ := R1.drop
  obtain ⟨v1, f2, ev1', o2⟩ := R2.at e1
  rw [ev0] at ev1'
  cases ev1'
  obtain ⟨A, vs, rfl, _, _⟩ := o0.lstv R.sub
  obtain ⟨y, g1, g2, g3⟩ := find_first fq
  exact ⟨A, v, toPy d, toPys ds, q, y, rfl, rfl, o2.dp R1.sub (SeqAt.canLay_of_shaped s1), o1.dp R1.sub (SeqAt.canLay_of_shaped s2), s1, s2, g1, g2, g3, (c.step E).is R2 sub2 .int (.inr rfl) z⟩
/-! x.split(y), of texts -/
def dSplit (Ta Tb : TED) : TED := fun ev P Xc => Ta ev (fun d1 _ ev1 => ∃ a, d1 = .str a ∧ Tb ev1 (fun d2 _ ev2 => ∃ b, d2 = .str b ∧ (b.length == 0) = false ∧ a.length + 2 ≤ sizeLine ∧ P (.lst ((Txt.split a b).map Dt.str)) topL ev2) Xc) Xc
theorem ows_strs {K : PySem.W.Frag} {W : Wd} {H : Hp} {n : Nat} : ∀ (ys : List Str), Ows K W H n [] (ys.map V.str) (ys.map Dt.str)
  | [] => .nil
  | y :: ys => .cons (fp := []) (gp := []) (.is .str (.inr rfl)) (ows_strs ys)
theorem de_split {apos : Pos} (ha : DE X Wx a Ta) (hb : DE X Wx b Tb) (hs : starEach [b] X.env = [(false, eval b X.env)] := by rfl) (hbase : attributeBase a "split" X.env (eval a X.env) = eval a X.env := by rfl) (hline : (apos.endLine == pos.line) = true := by rfl) :
    DE X Wx (.Call (.Attribute a "split" apos) [b] [] pos) (dSplit Ta Tb) := by
  refine (pe_split ha hb hs hbase hline).imp fun σ H Q q => ?_
  obtain ⟨W, ev, L, P, Xc, R, t, c, cx⟩ := q
  refine ⟨W, ev, L, _, Xc, R, t, fun d1 n1 ev1 v1 W1 H1 L1 u R1 E1 => ?_, cx⟩
  obtain ⟨z, rfl, u⟩ := u
  cases R1.str
  obtain ⟨L2, sub2, R2⟩ := R1.drop
  have E2 := E1.less sub2
  refine ⟨⟨z, rfl⟩, W1, ev1, L2, _, Xc, R2, u, fun d2 n2 ev2 v2 W3 H3 L3 u R3 E3 => ?_, cx.step E2⟩
  obtain ⟨y, rfl, h1, h2, pp⟩ := u
  cases R3.str
  obtain ⟨L4, sub4, R4⟩ := R3.drop
  refine ⟨z, y, rfl, rfl, h1, h2, fun p hp => ?_⟩
  obtain ⟨L5, R5, E5⟩ := Rel.made (X := []) (τ := []) (o := .lst ((Txt.split z y).map V.str)) (d := .lst ((Txt.split z y).map Dt.str)) (n := topL) (fp := []) rfl R4 hp
    fun L1 s s' => by
      cases s
      exact .lst upd_same (ows_strs _)
  exact c _ _ _ _ _ _ _ pp R5 ((E2.trans E3).less sub4 |>.trans E5)
end
end HD

set_option Elab.async false
set_option linter.all false
set_option maxRecDepth 100000
set_option maxHeartbeats 1000000
namespace HD
open PySem PySem.Spec PyProof.Rows L2
/-! ## constants of the module, {} -/
def GCon (K : PySem.W.Frag) (mg : Str → Option Value) (x : Str) (d : Dt) : Prop := ∃ (u : Value) (v : V), mg x = some u ∧ RelV v u ∧ ∀ W : Wd, Is K W v d
def dCon (d : Dt) : TED := fun ev P _ => P d d.lv ev
section
variable {X : Cx} {Wx : WX} {e a b o : Expr} {Ta Tb : TED} {pos p : Pos} {x : Str} {d : Dt}
theorem de_con (h : GCon X.K X.mg x d) (hg : Gl X x := by rfl) (hd : (x == ("__debug__" : Str)) = false := by decide) : DE X Wx (.Name x pos) (dCon d) := by
  obtain ⟨u, v, hm, rv, i⟩ := h
  exact (pe_glob hg hm rv hd).imp fun σ H Q ⟨W, ev, L, P, Xc, R, t, c, cx⟩ => c.is R (fun _ h => h) (i W) (lv_ok d) t
/-- the value, frozen -/
def dFz (Ta : TED) : TED := fun ev P Xc => Ta ev (fun d _ ev1 => P d d.lv ev1) Xc
theorem de_fz (ha : DE X Wx a Ta) : DE X Wx a (dFz Ta) := by
  refine ha.imp fun σ H Q q => ?_
  obtain ⟨W, ev, L, P, Xc, R, t, c, cx⟩ := q
  refine ⟨W, ev, L, _, Xc, R, t, fun d n ev1 v W1 H1 L1 u R1 E1 => ?_, cx⟩
  obtain ⟨W2, L2, i2, R2, E2⟩ := R1.fz
  exact c d d.lv ev1 v W2 H1 L2 u (R2.put i2 (lv_ok d)) (E1.trans E2)
def dDict0 : TED := fun ev P _ => P (.dct []) topL ev
theorem de_dict0 : DE X Wx (.Dict [] [] pos) dDict0 := by
  refine pe_dnewK.imp fun σ H Q ⟨W, ev, L, P, Xc, R, t, c, cx⟩ p hp => ?_
  obtain ⟨L2, R2, E2⟩ := Rel.made (X := []) (τ := []) (o := .dK []) (d := .dct []) (n := topL) (fp := []) rfl R hp (fun L1 s s' => by
    cases s
    exact .dct (n := 999) upd_same .nil)
  exact c _ _ _ _ _ _ _ t R2 E2
end
theorem bt_len : bootBuiltins "len" = some (.builtin "len") := by decide +kernel
theorem bt_abs : bootBuiltins "abs" = some (.builtin "abs") := by decide +kernel
theorem bt_all : bootBuiltins "all" = some (.builtin "all") := by decide +kernel
theorem bt_any : bootBuiltins "any" = some (.builtin "any") := by decide +kernel
theorem bt_sum : bootBuiltins "sum" = some (.builtin "sum") := by decide +kernel
theorem bt_int : bootBuiltins "int" = some (.type "int") := by decide +kernel
theorem bt_bool : bootBuiltins "bool" = some (.type "bool") := by decide +kernel
theorem bt_str : bootBuiltins "str" = some (.type "str") := by decide +kernel
theorem bt_tuple : bootBuiltins "tuple" = some (.type "tuple") := by decide +kernel
theorem bt_list : bootBuiltins "list" = some (.type "list") := by decide +kernel
theorem bt_dict : bootBuiltins "dict" = some (.type "dict") := by decide +kernel
theorem bt_ValueError : bootBuiltins "ValueError" = some (.type "ValueError") := by decide +kernel
end HD

set_option Elab.async false
set_option linter.all false
set_option maxRecDepth 100000
set_option maxHeartbeats 1000000
namespace HD
open PySem PySem.Spec PyProof.Rows L2
/-! ## loops and comprehensions, by what stays true -/
theorem loop_inv {g : TGD} {body : TSD} {DD : EndsD} {I : List Dt → Ev → Prop}
    (h : ∀ d rest ev, I (d :: rest) ev → ∀ N : Ev → Prop, (∀ ev', I rest ev' → N ev') → g d d.lv ev fun ev1 => body { DD with nx := N, ct := N, bk := DD.nx } ev1)
    (h0 : ∀ ev, I [] ev → DD.nx ev) : ∀ ds ev, I ds ev → dLoop g body DD ds ev
  | [], ev, i => h0 ev i
  | d :: ds, ev, i => h d ds ev i _ fun ev' i' => loop_inv h h0 ds ev' i'
inductive All2 {α β : Type} (R : α → β → Prop) : List α → List β → Prop
  | nil : All2 R [] []
  | cons {a b as bs} : R a b → All2 R as bs → All2 R (a :: as) (b :: bs)
def goStep (g : TGD) (A : TTD) (Te : TED) (own : List Nat) (d : Dt) (ev : Ev) (k : Option Dt → Nat → Ev → Prop) : Prop :=
  g d d.lv ev fun ev1 => A ev1 (fun b ev2 => if b = true then Te ev2 (fun y n ev3 => k (some y) n (ev3.wipe own)) noX else k none 0 (ev2.wipe own)) noX
theorem go_rel {g : TGD} {A : TTD} {Te : TED} {own : List Nat} {I : Ev → Prop} {R : Dt → Option Dt → Prop} : ∀ {ds : List Dt},
    (∀ d ∈ ds, ∀ ev, I ev → ∀ k : Option Dt → Nat → Ev → Prop, (∀ o n ev', R d o → I ev' → k o n ev') → goStep g A Te own d ev k) →
    ∀ {acc l ev P}, I ev → acc.length + ds.length ≤ sizeLine → (∀ os l ev', All2 R ds os → I ev' → P (acc ++ os.filterMap id) l ev') → dGo g A Te own ds acc l ev P
  | [], h, acc, l, ev, P, i, hl, hP => by
    have z := hP [] l ev .nil i
    have e : acc ++ ([] : List (Option Dt)).filterMap id = acc := by simp
    rw [e] at z
    exact z
  | d :: ds, h, acc, l, ev, P, i, hl, hP => by
    have hl' : acc.length + (ds.length + 1) ≤ sizeLine := hl
    refine h d List.mem_cons_self ev i (fun o n ev' => match o with
      | some y => acc.length < sizeLine ∧ dGo g A Te own ds (acc ++ [y]) (min (l - 1) n + 1) ev' P
      | none => dGo g A Te own ds acc l ev' P) fun o n ev' r i' => ?_
    have h' : ∀ d' ∈ ds, ∀ ev, I ev → ∀ k : Option Dt → Nat → Ev → Prop, (∀ o n ev', R d' o → I ev' → k o n ev') → goStep g A Te own d' ev k := fun d' hd' => h d' (List.mem_cons_of_mem _ hd')
    cases o with
    | some y =>
      refine ⟨by omega, go_rel h' i' (by rw [List.length_append]; show acc.length + 1 + ds.length ≤ _; omega) fun os l2 ev2 a i2 => ?_⟩
      have z := hP (some y :: os) l2 ev2 (.cons r a) i2
      simpa using z
    | none =>
      refine go_rel h' i' (by omega) fun os l2 ev2 a i2 => ?_
      have z := hP (none :: os) l2 ev2 (.cons r a) i2
      simpa using z
theorem all2_map {f : Dt → Dt} : ∀ {ds os}, All2 (fun d o => o = some (f d)) ds os → os.filterMap id = ds.map f
  | _, _, .nil => rfl
  | _, _, .cons h r => by subst h; simp [all2_map r]
theorem all2_filter {p : Dt → Bool} {f : Dt → Dt} : ∀ {ds os}, All2 (fun d o => o = if p d = true then some (f d) else none) ds os → os.filterMap id = (ds.filter p).map f
  | _, _, .nil => rfl
  | d :: ds, _, .cons h r => by
    subst h
    cases q : p d
    · simp [q, all2_filter r]
    · simp [q, all2_filter r]
theorem all2_all {φ : Dt → Prop} : ∀ {ds : List Dt} {os : List (Option Dt)}, All2 (fun _ o => ∃ y, o = some y ∧ φ y) ds os → ∃ ys, os.filterMap id = ys ∧ ys.length = ds.length ∧ ∀ y ∈ ys, φ y
  | _, _, .nil => ⟨[], rfl, rfl, fun _ h => (nomatch h)⟩
  | _, _, .cons ⟨y, e, h⟩ r => by
    obtain ⟨ys, e2, hl, hy⟩ := all2_all r
    subst e
    refine ⟨y :: ys, by simp [e2], by simp [hl], fun z hz => ?_⟩
    rcases List.mem_cons.mp hz with q | q
    · rw [q]; exact h
    · exact hy z q
/-- every item by a function -/
theorem go_map {g : TGD} {A : TTD} {Te : TED} {own : List Nat} {I : Ev → Prop} (f : Dt → Dt) {ds : List Dt}
    (h : ∀ d ∈ ds, ∀ ev, I ev → ∀ k : Option Dt → Nat → Ev → Prop, (∀ n ev', I ev' → k (some (f d)) n ev') → goStep g A Te own d ev k)
    {l ev P} (i : I ev) (hl : ds.length ≤ sizeLine) (hP : ∀ l ev', I ev' → P (ds.map f) l ev') : dGo g A Te own ds [] l ev P :=
  go_rel (R := fun d o => o = some (f d)) (fun d hd ev i k hk => h d hd ev i k fun n ev' i' => hk _ n ev' rfl i') i (by simpa using hl) fun os l ev' a i' => by
    have e := all2_map a
    simp only [List.nil_append, e]
    exact hP l ev' i'
theorem go_filter {g : TGD} {A : TTD} {Te : TED} {own : List Nat} {I : Ev → Prop} (p : Dt → Bool) (f : Dt → Dt) {ds : List Dt}
    (h : ∀ d ∈ ds, ∀ ev, I ev → ∀ k : Option Dt → Nat → Ev → Prop, (∀ n ev', I ev' → k (if p d = true then some (f d) else none) n ev') → goStep g A Te own d ev k)
    {l ev P} (i : I ev) (hl : ds.length ≤ sizeLine) (hP : ∀ l ev', I ev' → P ((ds.filter p).map f) l ev') : dGo g A Te own ds [] l ev P :=
  go_rel (R := fun d o => o = if p d = true then some (f d) else none) (fun d hd ev i k hk => h d hd ev i k fun n ev' i' => hk _ n ev' rfl i') i (by simpa using hl) fun os l ev' a i' => by
    have e := all2_filter a
    simp only [List.nil_append, e]
    exact hP l ev' i'
/-- every item has φ -/
theorem go_all {g : TGD} {A : TTD} {Te : TED} {own : List Nat} {I : Ev → Prop} (φ : Dt → Prop) {ds : List Dt}
    (h : ∀ d ∈ ds, ∀ ev, I ev → ∀ k : Option Dt → Nat → Ev → Prop, (∀ y n ev', φ y → I ev' → k (some y) n ev') → goStep g A Te own d ev k)
    {l ev P} (i : I ev) (hl : ds.length ≤ sizeLine) (hP : ∀ ys l ev', ys.length = ds.length → (∀ y ∈ ys, φ y) → I ev' → P ys l ev') : dGo g A Te own ds [] l ev P :=
  go_rel (R := fun _ o => ∃ y, o = some y ∧ φ y) (fun d hd ev i k hk => h d hd ev i k fun y n ev' p i' => hk _ n ev' ⟨y, rfl, p⟩ i') i (by simpa using hl) fun os l ev' a i' => by
    obtain ⟨ys, e, hl, hy⟩ := all2_all a
    simp only [List.nil_append, e]
    exact hP ys l ev' hl hy i'
theorem go_allN {g : TGD} {A : TTD} {Te : TED} {own : List Nat} {I : Nat → Ev → Prop} (M : Nat) (φ : Dt → Prop) : ∀ {ds : List Dt},
    (∀ d ∈ ds, ∀ j ev, j < M → I j ev → ∀ k : Option Dt → Nat → Ev → Prop, (∀ y n ev', φ y → I (j + 1) ev' → k (some y) n ev') → goStep g A Te own d ev k) →
    ∀ {j acc l ev P}, I j ev → j + ds.length ≤ M → acc.length + ds.length ≤ sizeLine → (∀ ys l ev', ys.length = ds.length → (∀ y ∈ ys, φ y) → I (j + ds.length) ev' → P (acc ++ ys) l ev') → dGo g A Te own ds acc l ev P
  | [], h, j, acc, l, ev, P, i, hj, hl, hP => by
    have z := hP [] l ev rfl (fun _ h => (nomatch h)) i
    rw [List.append_nil] at z
    exact z
  | d :: ds, h, j, acc, l, ev, P, i, hj, hl, hP => by
    have hl' : acc.length + (ds.length + 1) ≤ sizeLine := hl
    have hj' : j + (ds.length + 1) ≤ M := hj
    refine h d List.mem_cons_self j ev (by omega) i (fun o n ev' => match o with
      | some y => acc.length < sizeLine ∧ dGo g A Te own ds (acc ++ [y]) (min (l - 1) n + 1) ev' P
      | none => dGo g A Te own ds acc l ev' P) fun y n ev' r i' => ?_
    refine ⟨by omega, go_allN M φ (fun d' hd' => h d' (List.mem_cons_of_mem _ hd')) i' (by omega) (by rw [List.length_append]; show acc.length + 1 + ds.length ≤ _; omega) fun ys l2 ev2 hy ha i2 => ?_⟩
    have z := hP (y :: ys) l2 ev2 (congrArg (· + 1) hy) (fun z hz => (List.mem_cons.mp hz).elim (fun e => e ▸ r) (ha z)) (by
      have e : j + (d :: ds).length = j + 1 + ds.length := by simp; omega
      rw [e]; exact i2)
    rw [List.append_assoc]
    exact z
/-- one statement, then the rest -/
theorem ds_seq {S S' : TSD} {DD : EndsD} {ev : Ev} (Q : Ev → Prop) (h1 : ∀ N : Ev → Prop, (∀ ev, Q ev → N ev) → S { DD with nx := N } ev) (h2 : ∀ ev, Q ev → S' DD ev) : dsCons S S' DD ev := h1 _ h2
theorem ds_ifq {A : TTD} {S S' : TSD} {DD : EndsD} {ev : Ev} (Q : Bool → Ev → Prop) (h1 : ∀ N : Bool → Ev → Prop, (∀ b ev, Q b ev → N b ev) → A ev N DD.ex) (h2 : ∀ ev, Q true ev → S DD ev) (h3 : ∀ ev, Q false ev → S' DD ev) : dsIf A S S' DD ev :=
  h1 _ fun b ev q => by
    cases b
    · exact h3 ev q
    · exact h2 ev q
/-! ### bools of a list -/
theorem blsD_map (f : Dt → Bool) : ∀ ds : List Dt, blsD (ds.map fun d => .bl (f d)) = some (ds.map f)
  | [] => rfl
  | d :: ds => by simp [blsD, blsD_map f ds]
theorem CBls_map (f : Dt → Bool) (ds : List Dt) : CBls (.lst (ds.map fun d => .bl (f d))) := by show (blsD _).isSome = true; rw [blsD_map]; rfl
theorem allD_map (f : Dt → Bool) (ds : List Dt) : allD (.lst (ds.map fun d => .bl (f d))) = .bl (ds.all f) := by
  show Dt.bl (((blsD _).getD []).all id) = _
  rw [blsD_map]
  simp [List.all_map]
theorem anyD_map (f : Dt → Bool) (ds : List Dt) : anyD (.lst (ds.map fun d => .bl (f d))) = .bl (ds.any f) := by
  show Dt.bl (((blsD _).getD []).any id) = _
  rw [blsD_map]
  simp [List.any_map]
end HD

set_option Elab.async false
set_option linter.all false
set_option maxRecDepth 100000
set_option maxHeartbeats 4000000
namespace K01
open PySem PySem.Spec PyProof.Rows L2 HD
def top (i : Nat) : Stmt := PySem.Challenge.pw_coverorbound_k01_whole_nets_and_wrong_ne.main.body.getD i (.Pass ⟨0, 0, 0, 0⟩)
def c_MOST_SIGN : Dt := .int 9
def c_MOST_DEEDS : Dt := .int 10
def c_KEYS : Dt := .tup [.str "trays", .str "deeds", .str "start"]
def c_MOST_START : Dt := .int 99
def c_MOST_NUMBER : Dt := .int 3
def c_MOST_TRAYS : Dt := .int 8
def c_MOST_WIDE_TRAYS : Dt := .int 200
structure Bs (mg : Str → Option Value) : Prop where
  ValueError : mg "ValueError" = none
  abs : mg "abs" = none
  all : mg "all" = none
  bool : mg "bool" = none
  dict : mg "dict" = none
  int : mg "int" = none
  isinstance : mg "isinstance" = none
  len : mg "len" = none
  list : mg "list" = none
  max : mg "max" = none
  range : mg "range" = none
  str : mg "str" = none
  tuple : mg "tuple" = none
structure Cs (K : PySem.W.Frag) (mg : Str → Option Value) : Prop where
  MOST_SIGN : GCon K mg "MOST_SIGN" c_MOST_SIGN
  MOST_DEEDS : GCon K mg "MOST_DEEDS" c_MOST_DEEDS
  KEYS : GCon K mg "KEYS" c_KEYS
  MOST_START : GCon K mg "MOST_START" c_MOST_START
  MOST_NUMBER : GCon K mg "MOST_NUMBER" c_MOST_NUMBER
  MOST_TRAYS : GCon K mg "MOST_TRAYS" c_MOST_TRAYS
  MOST_WIDE_TRAYS : GCon K mg "MOST_WIDE_TRAYS" c_MOST_WIDE_TRAYS
/-! is_int -/
abbrev s_is_int : Stmt := top 20
abbrev N_is_int : List Str := ["value"]
theorem sc_is_int : FnScope N_is_int ["value"] (defScope s_is_int) := ⟨rfl, rfl, rfl, by decide +kernel, rfl, by decide +kernel, by decide +kernel⟩
def T_is_int : TSD := (dsRet (dFz (dAndV (dIsiV "int" 0) (dNotV (dIsiV "bool" 0)))))
theorem w_is_int {P : Program} {w : World} {K : PySem.W.Frag} {mg : Str → Option Value} {base : Heap} {k : Nat} (B : Bs mg) (C : Cs K mg) (f : Addr) (cdv : Value) (A : Around) (outer : List Env) (s : Shared) (H : Hp) (E : XK)
    (room : Room k (A.deeper (envOfC "is_int" (defScope s_is_int) s.heap.objs.size f cdv))) :
    DSs (cxOf (L2N.CX P w) P w K mg base N_is_int "is_int" (defScope s_is_int) f cdv A outer s H E) (fun cls d _ H => E cls d H) (defBody s_is_int) (T_is_int) := by
  have sc := sc_is_int
  have hu : (cxOf (L2N.CX P w) P w K mg base N_is_int "is_int" (defScope s_is_int) f cdv A outer s H E).A.units + 64 < cLine := room.units
  have hu5 : (cxOf (L2N.CX P w) P w K mg base N_is_int "is_int" (defScope s_is_int) f cdv A outer s H E).A.units + 65 < cLine := by have := room.un; show (A.deeper _).units + 65 < _; omega
  have tk : L2N.Takes (cxOf (L2N.CX P w) P w K mg base N_is_int "is_int" (defScope s_is_int) f cdv A outer s H E) (fun cls d _ H => E cls d H) := L2N.takes_of rfl rfl rfl rfl
  have hc : (cxOf (L2N.CX P w) P w K mg base N_is_int "is_int" (defScope s_is_int) f cdv A outer s H E).calm = true := rfl
  have hp : PassesOwn (model P w) (cxOf (L2N.CX P w) P w K mg base N_is_int "is_int" (defScope s_is_int) f cdv A outer s H E).A (cxOf (L2N.CX P w) P w K mg base N_is_int "is_int" (defScope s_is_int) f cdv A outer s H E).env (cxOf (L2N.CX P w) P w K mg base N_is_int "is_int" (defScope s_is_int) f cdv A outer s H E).xe := PassesOwn.leaving
  exact (dss_one (ds_ret (de_fz (de_and (de_isiV isi_int B.isinstance B.int bt_int (pv 0)) (de_one (de_not (de_isiV isi_bool B.isinstance B.bool bt_bool (pv 0))))))))
/-! is_from -/
abbrev s_is_from : Stmt := top 21
abbrev N_is_from : List Str := ["value", "low"]
theorem sc_is_from : FnScope N_is_from ["value", "low"] (defScope s_is_from) := ⟨rfl, rfl, rfl, by decide +kernel, rfl, by decide +kernel, by decide +kernel⟩
def T_is_from (S_is_int : SpD) : TSD := (dsRet (dFz (dAndV (dCall S_is_int (dCons (dFrz 0) dNil)) (dVV CI gLe 1 0))))
theorem w_is_from {P : Program} {w : World} {K : PySem.W.Frag} {mg : Str → Option Value} {base : Heap} {k : Nat} (B : Bs mg) (C : Cs K mg) {S_is_int : SpD} {kis_int : Nat} (F_is_int : Cal P w K mg base "is_int" kis_int S_is_int) (k_is_int : kis_int ≤ k) (f : Addr) (cdv : Value) (A : Around) (outer : List Env) (s : Shared) (H : Hp) (E : XK)
    (room : Room k (A.deeper (envOfC "is_from" (defScope s_is_from) s.heap.objs.size f cdv))) :
    DSs (cxOf (L2N.CX P w) P w K mg base N_is_from "is_from" (defScope s_is_from) f cdv A outer s H E) (fun cls d _ H => E cls d H) (defBody s_is_from) (T_is_from S_is_int) := by
  have sc := sc_is_from
  have hu : (cxOf (L2N.CX P w) P w K mg base N_is_from "is_from" (defScope s_is_from) f cdv A outer s H E).A.units + 64 < cLine := room.units
  have hu5 : (cxOf (L2N.CX P w) P w K mg base N_is_from "is_from" (defScope s_is_from) f cdv A outer s H E).A.units + 65 < cLine := by have := room.un; show (A.deeper _).units + 65 < _; omega
  have tk : L2N.Takes (cxOf (L2N.CX P w) P w K mg base N_is_from "is_from" (defScope s_is_from) f cdv A outer s H E) (fun cls d _ H => E cls d H) := L2N.takes_of rfl rfl rfl rfl
  have hc : (cxOf (L2N.CX P w) P w K mg base N_is_from "is_from" (defScope s_is_from) f cdv A outer s H E).calm = true := rfl
  have hp : PassesOwn (model P w) (cxOf (L2N.CX P w) P w K mg base N_is_from "is_from" (defScope s_is_from) f cdv A outer s H E).A (cxOf (L2N.CX P w) P w K mg base N_is_from "is_from" (defScope s_is_from) f cdv A outer s H E).env (cxOf (L2N.CX P w) P w K mg base N_is_from "is_from" (defScope s_is_from) f cdv A outer s H E).xe := PassesOwn.leaving
  exact (dss_one (ds_ret (de_fz (de_and (de_call F_is_int tk (room.mono k_is_int) (da_cons (de_frz 0) da_nil)) (de_one (de_VV op_le (int_OpB _) (pv 1) (pv 0) rfl))))))
/-! is_between -/
abbrev s_is_between : Stmt := top 22
abbrev N_is_between : List Str := ["value", "low", "high"]
theorem sc_is_between : FnScope N_is_between ["value", "low", "high"] (defScope s_is_between) := ⟨rfl, rfl, rfl, by decide +kernel, rfl, by decide +kernel, by decide +kernel⟩
def T_is_between (S_is_int : SpD) : TSD := (dsRet (dFz (dAndV (dCall S_is_int (dCons (dFrz 0) dNil)) (dAndV (dVV CI gLe 1 0) (dVV CI gLe 0 2)))))
theorem w_is_between {P : Program} {w : World} {K : PySem.W.Frag} {mg : Str → Option Value} {base : Heap} {k : Nat} (B : Bs mg) (C : Cs K mg) {S_is_int : SpD} {kis_int : Nat} (F_is_int : Cal P w K mg base "is_int" kis_int S_is_int) (k_is_int : kis_int ≤ k) (f : Addr) (cdv : Value) (A : Around) (outer : List Env) (s : Shared) (H : Hp) (E : XK)
    (room : Room k (A.deeper (envOfC "is_between" (defScope s_is_between) s.heap.objs.size f cdv))) :
    DSs (cxOf (L2N.CX P w) P w K mg base N_is_between "is_between" (defScope s_is_between) f cdv A outer s H E) (fun cls d _ H => E cls d H) (defBody s_is_between) (T_is_between S_is_int) := by
  have sc := sc_is_between
  have hu : (cxOf (L2N.CX P w) P w K mg base N_is_between "is_between" (defScope s_is_between) f cdv A outer s H E).A.units + 64 < cLine := room.units
  have hu5 : (cxOf (L2N.CX P w) P w K mg base N_is_between "is_between" (defScope s_is_between) f cdv A outer s H E).A.units + 65 < cLine := by have := room.un; show (A.deeper _).units + 65 < _; omega
  have tk : L2N.Takes (cxOf (L2N.CX P w) P w K mg base N_is_between "is_between" (defScope s_is_between) f cdv A outer s H E) (fun cls d _ H => E cls d H) := L2N.takes_of rfl rfl rfl rfl
  have hc : (cxOf (L2N.CX P w) P w K mg base N_is_between "is_between" (defScope s_is_between) f cdv A outer s H E).calm = true := rfl
  have hp : PassesOwn (model P w) (cxOf (L2N.CX P w) P w K mg base N_is_between "is_between" (defScope s_is_between) f cdv A outer s H E).A (cxOf (L2N.CX P w) P w K mg base N_is_between "is_between" (defScope s_is_between) f cdv A outer s H E).env (cxOf (L2N.CX P w) P w K mg base N_is_between "is_between" (defScope s_is_between) f cdv A outer s H E).xe := PassesOwn.leaving
  exact (dss_one (ds_ret (de_fz (de_and (de_call F_is_int tk (room.mono k_is_int) (da_cons (de_frz 0) da_nil)) (de_and (de_VV op_le (int_OpB _) (pv 1) (pv 0) rfl) (de_one (de_VV op_le (int_OpB _) (pv 0) (pv 2) rfl)))))))
/-! is_tuple_of -/
abbrev s_is_tuple_of : Stmt := top 23
abbrev N_is_tuple_of : List Str := ["value", "many"]
theorem sc_is_tuple_of : FnScope N_is_tuple_of ["value", "many"] (defScope s_is_tuple_of) := ⟨rfl, rfl, rfl, by decide +kernel, rfl, by decide +kernel, by decide +kernel⟩
def T_is_tuple_of : TSD := (dsRet (dFz (dAndV (dIsiV "tuple" 0) (dEV CEq eqD (dUV CLen lenD 0) 1))))
theorem w_is_tuple_of {P : Program} {w : World} {K : PySem.W.Frag} {mg : Str → Option Value} {base : Heap} {k : Nat} (B : Bs mg) (C : Cs K mg) (f : Addr) (cdv : Value) (A : Around) (outer : List Env) (s : Shared) (H : Hp) (E : XK)
    (room : Room k (A.deeper (envOfC "is_tuple_of" (defScope s_is_tuple_of) s.heap.objs.size f cdv))) :
    DSs (cxOf (L2N.CX P w) P w K mg base N_is_tuple_of "is_tuple_of" (defScope s_is_tuple_of) f cdv A outer s H E) (fun cls d _ H => E cls d H) (defBody s_is_tuple_of) (T_is_tuple_of) := by
  have sc := sc_is_tuple_of
  have hu : (cxOf (L2N.CX P w) P w K mg base N_is_tuple_of "is_tuple_of" (defScope s_is_tuple_of) f cdv A outer s H E).A.units + 64 < cLine := room.units
  have hu5 : (cxOf (L2N.CX P w) P w K mg base N_is_tuple_of "is_tuple_of" (defScope s_is_tuple_of) f cdv A outer s H E).A.units + 65 < cLine := by have := room.un; show (A.deeper _).units + 65 < _; omega
  have tk : L2N.Takes (cxOf (L2N.CX P w) P w K mg base N_is_tuple_of "is_tuple_of" (defScope s_is_tuple_of) f cdv A outer s H E) (fun cls d _ H => E cls d H) := L2N.takes_of rfl rfl rfl rfl
  have hc : (cxOf (L2N.CX P w) P w K mg base N_is_tuple_of "is_tuple_of" (defScope s_is_tuple_of) f cdv A outer s H E).calm = true := rfl
  have hp : PassesOwn (model P w) (cxOf (L2N.CX P w) P w K mg base N_is_tuple_of "is_tuple_of" (defScope s_is_tuple_of) f cdv A outer s H E).A (cxOf (L2N.CX P w) P w K mg base N_is_tuple_of "is_tuple_of" (defScope s_is_tuple_of) f cdv A outer s H E).env (cxOf (L2N.CX P w) P w K mg base N_is_tuple_of "is_tuple_of" (defScope s_is_tuple_of) f cdv A outer s H E).xe := PassesOwn.leaving
  exact (dss_one (ds_ret (de_fz (de_and (de_isiV isi_tuple B.isinstance B.tuple bt_tuple (pv 0)) (de_one (de_EV (opB_eq hu) eq_OpB (de_cBV call_lenA len_OpU lenD_flat rfl B.len bt_len (pv 0)) (pv 1) rfl))))))
/-! is_wide_filling -/
abbrev s_is_wide_filling : Stmt := top 25
abbrev N_is_wide_filling : List Str := ["value", "trays", "item"]
theorem sc_is_wide_filling : FnScope N_is_wide_filling ["value", "trays"] (defScope s_is_wide_filling) := ⟨rfl, rfl, rfl, by decide +kernel, rfl, by decide +kernel, by decide +kernel⟩
def T_is_wide_filling (S_is_tuple_of : SpD) (S_is_from : SpD) : TSD := (dsRet (dFz (dAndV (dCall S_is_tuple_of (dCons (dFrz 0) (dCons (dFrz 1) dNil))) (dU CBls allD (dLc (diSeq (dFrz 0)) (gdName 2) dYes (dCall S_is_from (dCons (dFrz 2) (dCons (dInt 0) dNil))) [2])))))
theorem w_is_wide_filling {P : Program} {w : World} {K : PySem.W.Frag} {mg : Str → Option Value} {base : Heap} {k : Nat} (B : Bs mg) (C : Cs K mg) {S_is_tuple_of : SpD} {kis_tuple_of : Nat} (F_is_tuple_of : Cal P w K mg base "is_tuple_of" kis_tuple_of S_is_tuple_of) (k_is_tuple_of : kis_tuple_of ≤ k) {S_is_from : SpD} {kis_from : Nat} (F_is_from : Cal P w K mg base "is_from" kis_from S_is_from) (k_is_from : kis_from ≤ k) (f : Addr) (cdv : Value) (A : Around) (outer : List Env) (s : Shared) (H : Hp) (E : XK)
    (room : Room k (A.deeper (envOfC "is_wide_filling" (defScope s_is_wide_filling) s.heap.objs.size f cdv))) :
    DSs (cxOf (L2N.CX P w) P w K mg base N_is_wide_filling "is_wide_filling" (defScope s_is_wide_filling) f cdv A outer s H E) (fun cls d _ H => E cls d H) (defBody s_is_wide_filling) (T_is_wide_filling S_is_tuple_of S_is_from) := by
  have sc := sc_is_wide_filling
  have hu : (cxOf (L2N.CX P w) P w K mg base N_is_wide_filling "is_wide_filling" (defScope s_is_wide_filling) f cdv A outer s H E).A.units + 64 < cLine := room.units
  have hu5 : (cxOf (L2N.CX P w) P w K mg base N_is_wide_filling "is_wide_filling" (defScope s_is_wide_filling) f cdv A outer s H E).A.units + 65 < cLine := by have := room.un; show (A.deeper _).units + 65 < _; omega
  have tk : L2N.Takes (cxOf (L2N.CX P w) P w K mg base N_is_wide_filling "is_wide_filling" (defScope s_is_wide_filling) f cdv A outer s H E) (fun cls d _ H => E cls d H) := L2N.takes_of rfl rfl rfl rfl
  have hc : (cxOf (L2N.CX P w) P w K mg base N_is_wide_filling "is_wide_filling" (defScope s_is_wide_filling) f cdv A outer s H E).calm = true := rfl
  have hp : PassesOwn (model P w) (cxOf (L2N.CX P w) P w K mg base N_is_wide_filling "is_wide_filling" (defScope s_is_wide_filling) f cdv A outer s H E).A (cxOf (L2N.CX P w) P w K mg base N_is_wide_filling "is_wide_filling" (defScope s_is_wide_filling) f cdv A outer s H E).env (cxOf (L2N.CX P w) P w K mg base N_is_wide_filling "is_wide_filling" (defScope s_is_wide_filling) f cdv A outer s H E).xe := PassesOwn.leaving
  exact (dss_one (ds_ret (de_fz (de_and (de_call F_is_tuple_of tk (room.mono k_is_tuple_of) (da_cons (de_frz 0) (da_cons (de_frz 1) da_nil))) (de_one (de_cB (cr_all hc) all_OpU allD_flat rfl B.all bt_all (de_lc hc sc.nd (own := [("item", 2)]) (blkOk_by (by rfl)) (by simp) (di_seq (de_frz 0)) (fun _ _ _ _ _ => (dg_name sc.nd rfl (by first | exact .inl rfl | exact .inr rfl))) (fun _ _ _ _ _ => dpts_nil) (fun _ _ _ _ _ => (de_call F_is_from takes_noW0 (room.mono k_is_from) (da_cons (de_frz 2) (da_cons de_int da_nil)))))))))))
/-! is_vector -/
abbrev s_is_vector : Stmt := top 34
abbrev N_is_vector : List Str := ["value", "trays", "high", "item"]
theorem sc_is_vector : FnScope N_is_vector ["value", "trays", "high"] (defScope s_is_vector) := ⟨rfl, rfl, rfl, by decide +kernel, rfl, by decide +kernel, by decide +kernel⟩
def T_is_vector (S_is_wide_filling : SpD) : TSD := (dsRet (dFz (dAndV (dCall S_is_wide_filling (dCons (dFrz 0) (dCons (dFrz 1) dNil))) (dOrV (dVE CN gIs 2 dNon) (dU CBls allD (dLc (diSeq (dFrz 0)) (gdName 3) dYes (dVV CI gLe 3 2) [3]))))))
theorem w_is_vector {P : Program} {w : World} {K : PySem.W.Frag} {mg : Str → Option Value} {base : Heap} {k : Nat} (B : Bs mg) (C : Cs K mg) {S_is_wide_filling : SpD} {kis_wide_filling : Nat} (F_is_wide_filling : Cal P w K mg base "is_wide_filling" kis_wide_filling S_is_wide_filling) (k_is_wide_filling : kis_wide_filling ≤ k) (f : Addr) (cdv : Value) (A : Around) (outer : List Env) (s : Shared) (H : Hp) (E : XK)
    (room : Room k (A.deeper (envOfC "is_vector" (defScope s_is_vector) s.heap.objs.size f cdv))) :
    DSs (cxOf (L2N.CX P w) P w K mg base N_is_vector "is_vector" (defScope s_is_vector) f cdv A outer s H E) (fun cls d _ H => E cls d H) (defBody s_is_vector) (T_is_vector S_is_wide_filling) := by
  have sc := sc_is_vector
  have hu : (cxOf (L2N.CX P w) P w K mg base N_is_vector "is_vector" (defScope s_is_vector) f cdv A outer s H E).A.units + 64 < cLine := room.units
  have hu5 : (cxOf (L2N.CX P w) P w K mg base N_is_vector "is_vector" (defScope s_is_vector) f cdv A outer s H E).A.units + 65 < cLine := by have := room.un; show (A.deeper _).units + 65 < _; omega
  have tk : L2N.Takes (cxOf (L2N.CX P w) P w K mg base N_is_vector "is_vector" (defScope s_is_vector) f cdv A outer s H E) (fun cls d _ H => E cls d H) := L2N.takes_of rfl rfl rfl rfl
  have hc : (cxOf (L2N.CX P w) P w K mg base N_is_vector "is_vector" (defScope s_is_vector) f cdv A outer s H E).calm = true := rfl
  have hp : PassesOwn (model P w) (cxOf (L2N.CX P w) P w K mg base N_is_vector "is_vector" (defScope s_is_vector) f cdv A outer s H E).A (cxOf (L2N.CX P w) P w K mg base N_is_vector "is_vector" (defScope s_is_vector) f cdv A outer s H E).env (cxOf (L2N.CX P w) P w K mg base N_is_vector "is_vector" (defScope s_is_vector) f cdv A outer s H E).xe := PassesOwn.leaving
  exact (dss_one (ds_ret (de_fz (de_and (de_call F_is_wide_filling tk (room.mono k_is_wide_filling) (da_cons (de_frz 0) (da_cons (de_frz 1) da_nil))) (de_one (de_or (de_VE op_isN isN_OpB (pv 2) de_non rfl) (de_one (de_cB (cr_all hc) all_OpU allD_flat rfl B.all bt_all (de_lc hc sc.nd (own := [("item", 3)]) (blkOk_by (by rfl)) (by simp) (di_seq (de_frz 0)) (fun _ _ _ _ _ => (dg_name sc.nd rfl (by first | exact .inl rfl | exact .inr rfl))) (fun _ _ _ _ _ => dpts_nil) (fun _ _ _ _ _ => (de_VV op_le (int_OpB _) (pv 3) (pv 2) rfl)))))))))))
/-! is_deed -/
abbrev s_is_deed : Stmt := top 35
abbrev N_is_deed : List Str := ["value", "trays", "high"]
theorem sc_is_deed : FnScope N_is_deed ["value", "trays", "high"] (defScope s_is_deed) := ⟨rfl, rfl, rfl, by decide +kernel, rfl, by decide +kernel, by decide +kernel⟩
def T_is_deed (S_is_vector : SpD) (S_is_tuple_of : SpD) (S_is_between : SpD) : TSD := (dsCons (dsIf (dOr (dNot (dTru (dCall S_is_tuple_of (dCons (dFrz 0) (dCons (dInt 3) dNil))))) (dNot (dTru (dCall S_is_between (dCons (dIxV 0 (dInt 0)) (dCons (dInt 0) (dCons (dCon c_MOST_SIGN) dNil))))))) (dsRet (dFz (dBl false))) dsNil) (dsRet (dFz (dAndV (dCall S_is_vector (dCons (dIxV 0 (dInt 1)) (dCons (dFrz 1) (dCons (dFrz 2) dNil)))) (dCall S_is_vector (dCons (dIxV 0 (dInt 2)) (dCons (dFrz 1) (dCons (dFrz 2) dNil))))))))
theorem w_is_deed {P : Program} {w : World} {K : PySem.W.Frag} {mg : Str → Option Value} {base : Heap} {k : Nat} (B : Bs mg) (C : Cs K mg) {S_is_vector : SpD} {kis_vector : Nat} (F_is_vector : Cal P w K mg base "is_vector" kis_vector S_is_vector) (k_is_vector : kis_vector ≤ k) {S_is_tuple_of : SpD} {kis_tuple_of : Nat} (F_is_tuple_of : Cal P w K mg base "is_tuple_of" kis_tuple_of S_is_tuple_of) (k_is_tuple_of : kis_tuple_of ≤ k) {S_is_between : SpD} {kis_between : Nat} (F_is_between : Cal P w K mg base "is_between" kis_between S_is_between) (k_is_between : kis_between ≤ k) (f : Addr) (cdv : Value) (A : Around) (outer : List Env) (s : Shared) (H : Hp) (E : XK)
    (room : Room k (A.deeper (envOfC "is_deed" (defScope s_is_deed) s.heap.objs.size f cdv))) :
    DSs (cxOf (L2N.CX P w) P w K mg base N_is_deed "is_deed" (defScope s_is_deed) f cdv A outer s H E) (fun cls d _ H => E cls d H) (defBody s_is_deed) (T_is_deed S_is_vector S_is_tuple_of S_is_between) := by
  have sc := sc_is_deed
  have hu : (cxOf (L2N.CX P w) P w K mg base N_is_deed "is_deed" (defScope s_is_deed) f cdv A outer s H E).A.units + 64 < cLine := room.units
  have hu5 : (cxOf (L2N.CX P w) P w K mg base N_is_deed "is_deed" (defScope s_is_deed) f cdv A outer s H E).A.units + 65 < cLine := by have := room.un; show (A.deeper _).units + 65 < _; omega
  have tk : L2N.Takes (cxOf (L2N.CX P w) P w K mg base N_is_deed "is_deed" (defScope s_is_deed) f cdv A outer s H E) (fun cls d _ H => E cls d H) := L2N.takes_of rfl rfl rfl rfl
  have hc : (cxOf (L2N.CX P w) P w K mg base N_is_deed "is_deed" (defScope s_is_deed) f cdv A outer s H E).calm = true := rfl
  have hp : PassesOwn (model P w) (cxOf (L2N.CX P w) P w K mg base N_is_deed "is_deed" (defScope s_is_deed) f cdv A outer s H E).A (cxOf (L2N.CX P w) P w K mg base N_is_deed "is_deed" (defScope s_is_deed) f cdv A outer s H E).env (cxOf (L2N.CX P w) P w K mg base N_is_deed "is_deed" (defScope s_is_deed) f cdv A outer s H E).xe := PassesOwn.leaving
  exact (dss_cons (ds_if (dw_pt (dw_or (dt_not (dt_tru (de_call F_is_tuple_of tk (room.mono k_is_tuple_of) (da_cons (de_frz 0) (da_cons de_int da_nil))))) (dw_or1 (dt_not (dt_tru (de_call F_is_between tk (room.mono k_is_between) (da_cons (de_ixV hu (pv 0) de_int) (da_cons de_int (da_cons (de_con C.MOST_SIGN) da_nil))))))))) (dss_one (ds_ret (de_fz de_bl))) dss_nil)
  (dss_one (ds_ret (de_fz (de_and (de_call F_is_vector tk (room.mono k_is_vector) (da_cons (de_ixV hu (pv 0) de_int) (da_cons (de_frz 1) (da_cons (de_frz 2) da_nil)))) (de_one (de_call F_is_vector tk (room.mono k_is_vector) (da_cons (de_ixV hu (pv 0) de_int) (da_cons (de_frz 1) (da_cons (de_frz 2) da_nil))))))))))
/-! are_deeds -/
abbrev s_are_deeds : Stmt := top 36
abbrev N_are_deeds : List Str := ["value", "trays", "low", "high", "deed"]
theorem sc_are_deeds : FnScope N_are_deeds ["value", "trays", "low", "high"] (defScope s_are_deeds) := ⟨rfl, rfl, rfl, by decide +kernel, rfl, by decide +kernel, by decide +kernel⟩
def T_are_deeds (S_is_deed : SpD) (S_is_between : SpD) : TSD := (dsCons (dsIf (dOr (dNot (dTru (dIsiV "list" 0))) (dNot (dTru (dCall S_is_between (dCons (dUV CLen lenD 0) (dCons (dFrz 2) (dCons (dCon c_MOST_DEEDS) dNil))))))) (dsRet (dFz (dBl false))) dsNil) (dsRet (dFz (dU CBls allD (dLc (diSeq (dFrz 0)) (gdName 4) dYes (dCall S_is_deed (dCons (dFrz 4) (dCons (dFrz 1) (dCons (dFrz 3) dNil)))) [4])))))
theorem w_are_deeds {P : Program} {w : World} {K : PySem.W.Frag} {mg : Str → Option Value} {base : Heap} {k : Nat} (B : Bs mg) (C : Cs K mg) {S_is_deed : SpD} {kis_deed : Nat} (F_is_deed : Cal P w K mg base "is_deed" kis_deed S_is_deed) (k_is_deed : kis_deed ≤ k) {S_is_between : SpD} {kis_between : Nat} (F_is_between : Cal P w K mg base "is_between" kis_between S_is_between) (k_is_between : kis_between ≤ k) (f : Addr) (cdv : Value) (A : Around) (outer : List Env) (s : Shared) (H : Hp) (E : XK)
    (room : Room k (A.deeper (envOfC "are_deeds" (defScope s_are_deeds) s.heap.objs.size f cdv))) :
    DSs (cxOf (L2N.CX P w) P w K mg base N_are_deeds "are_deeds" (defScope s_are_deeds) f cdv A outer s H E) (fun cls d _ H => E cls d H) (defBody s_are_deeds) (T_are_deeds S_is_deed S_is_between) := by
  have sc := sc_are_deeds
  have hu : (cxOf (L2N.CX P w) P w K mg base N_are_deeds "are_deeds" (defScope s_are_deeds) f cdv A outer s H E).A.units + 64 < cLine := room.units
  have hu5 : (cxOf (L2N.CX P w) P w K mg base N_are_deeds "are_deeds" (defScope s_are_deeds) f cdv A outer s H E).A.units + 65 < cLine := by have := room.un; show (A.deeper _).units + 65 < _; omega
  have tk : L2N.Takes (cxOf (L2N.CX P w) P w K mg base N_are_deeds "are_deeds" (defScope s_are_deeds) f cdv A outer s H E) (fun cls d _ H => E cls d H) := L2N.takes_of rfl rfl rfl rfl
  have hc : (cxOf (L2N.CX P w) P w K mg base N_are_deeds "are_deeds" (defScope s_are_deeds) f cdv A outer s H E).calm = true := rfl
  have hp : PassesOwn (model P w) (cxOf (L2N.CX P w) P w K mg base N_are_deeds "are_deeds" (defScope s_are_deeds) f cdv A outer s H E).A (cxOf (L2N.CX P w) P w K mg base N_are_deeds "are_deeds" (defScope s_are_deeds) f cdv A outer s H E).env (cxOf (L2N.CX P w) P w K mg base N_are_deeds "are_deeds" (defScope s_are_deeds) f cdv A outer s H E).xe := PassesOwn.leaving
  exact (dss_cons (ds_if (dw_pt (dw_or (dt_not (dt_tru (de_isiV isi_list B.isinstance B.list bt_list (pv 0)))) (dw_or1 (dt_not (dt_tru (de_call F_is_between tk (room.mono k_is_between) (da_cons (de_cBV call_lenA len_OpU lenD_flat rfl B.len bt_len (pv 0)) (da_cons (de_frz 2) (da_cons (de_con C.MOST_DEEDS) da_nil))))))))) (dss_one (ds_ret (de_fz de_bl))) dss_nil)
  (dss_one (ds_ret (de_fz (de_cB (cr_all hc) all_OpU allD_flat rfl B.all bt_all (de_lc hc sc.nd (own := [("deed", 4)]) (blkOk_by (by rfl)) (by simp) (di_seq (de_frz 0)) (fun _ _ _ _ _ => (dg_name sc.nd rfl (by first | exact .inl rfl | exact .inr rfl))) (fun _ _ _ _ _ => dpts_nil) (fun _ _ _ _ _ => (de_call F_is_deed takes_noW0 (room.mono k_is_deed) (da_cons (de_frz 4) (da_cons (de_frz 1) (da_cons (de_frz 3) da_nil)))))))))))
/-! has_keys -/
abbrev s_has_keys : Stmt := top 37
abbrev N_has_keys : List Str := ["value", "key"]
theorem sc_has_keys : FnScope N_has_keys ["value"] (defScope s_has_keys) := ⟨rfl, rfl, rfl, by decide +kernel, rfl, by decide +kernel, by decide +kernel⟩
def T_has_keys : TSD := (dsRet (dFz (dAndV (dIsiV "dict" 0) (dAndV (dEE CEq eqD (dUV CLen lenD 0) (dInt 3)) (dU CBls allD (dLc (diSeq (dCon c_KEYS)) (gdName 1) dYes (dVV CIn inD 1 0) [1]))))))
theorem w_has_keys {P : Program} {w : World} {K : PySem.W.Frag} {mg : Str → Option Value} {base : Heap} {k : Nat} (B : Bs mg) (C : Cs K mg) (f : Addr) (cdv : Value) (A : Around) (outer : List Env) (s : Shared) (H : Hp) (E : XK)
    (room : Room k (A.deeper (envOfC "has_keys" (defScope s_has_keys) s.heap.objs.size f cdv))) :
    DSs (cxOf (L2N.CX P w) P w K mg base N_has_keys "has_keys" (defScope s_has_keys) f cdv A outer s H E) (fun cls d _ H => E cls d H) (defBody s_has_keys) (T_has_keys) := by
  have sc := sc_has_keys
  have hu : (cxOf (L2N.CX P w) P w K mg base N_has_keys "has_keys" (defScope s_has_keys) f cdv A outer s H E).A.units + 64 < cLine := room.units
  have hu5 : (cxOf (L2N.CX P w) P w K mg base N_has_keys "has_keys" (defScope s_has_keys) f cdv A outer s H E).A.units + 65 < cLine := by have := room.un; show (A.deeper _).units + 65 < _; omega
  have tk : L2N.Takes (cxOf (L2N.CX P w) P w K mg base N_has_keys "has_keys" (defScope s_has_keys) f cdv A outer s H E) (fun cls d _ H => E cls d H) := L2N.takes_of rfl rfl rfl rfl
  have hc : (cxOf (L2N.CX P w) P w K mg base N_has_keys "has_keys" (defScope s_has_keys) f cdv A outer s H E).calm = true := rfl
  have hp : PassesOwn (model P w) (cxOf (L2N.CX P w) P w K mg base N_has_keys "has_keys" (defScope s_has_keys) f cdv A outer s H E).A (cxOf (L2N.CX P w) P w K mg base N_has_keys "has_keys" (defScope s_has_keys) f cdv A outer s H E).env (cxOf (L2N.CX P w) P w K mg base N_has_keys "has_keys" (defScope s_has_keys) f cdv A outer s H E).xe := PassesOwn.leaving
  exact (dss_one (ds_ret (de_fz (de_and (de_isiV isi_dict B.isinstance B.dict bt_dict (pv 0)) (de_and (de_EE (opB_eq hu) eq_OpB (de_cBV call_lenA len_OpU lenD_flat rfl B.len bt_len (pv 0)) de_int rfl) (de_one (de_cB (cr_all hc) all_OpU allD_flat rfl B.all bt_all (de_lc hc sc.nd (own := [("key", 1)]) (blkOk_by (by rfl)) (by simp) (di_seq (de_con C.KEYS)) (fun _ _ _ _ _ => (dg_name sc.nd rfl (by first | exact .inl rfl | exact .inr rfl))) (fun _ _ _ _ _ => dpts_nil) (fun _ _ _ _ _ => (de_VV (op_inA hu5) in_OpB (pv 1) (pv 0) rfl))))))))))
/-! wrong_key -/
abbrev s_wrong_key : Stmt := top 38
abbrev N_wrong_key : List Str := ["value", "trays"]
theorem sc_wrong_key : FnScope N_wrong_key ["value"] (defScope s_wrong_key) := ⟨rfl, rfl, rfl, by decide +kernel, rfl, by decide +kernel, by decide +kernel⟩
def T_wrong_key (S_is_vector : SpD) (S_are_deeds : SpD) (S_is_between : SpD) (S_has_keys : SpD) : TSD := (dsCons (dsIf (dNot (dTru (dCall S_has_keys (dCons (dFrz 0) dNil)))) (dsRet (dFz (dStr "net"))) dsNil) (dsCons (dsSet 1 (dIxV 0 (dStr "trays"))) (dsCons (dsIf (dNot (dTru (dCall S_is_between (dCons (dFrz 1) (dCons (dInt 1) (dCons (dCon c_MOST_TRAYS) dNil)))))) (dsRet (dFz (dStr "trays"))) dsNil) (dsCons (dsIf (dNot (dTru (dCall S_are_deeds (dCons (dIxV 0 (dStr "deeds")) (dCons (dFrz 1) (dCons (dInt 1) (dCons (dCon c_MOST_NUMBER) dNil))))))) (dsRet (dFz (dStr "deeds"))) dsNil) (dsRet (dFz (dIf (dTru (dCall S_is_vector (dCons (dIxV 0 (dStr "start")) (dCons (dFrz 1) (dCons (dCon c_MOST_START) dNil))))) dNon (dStr "start"))))))))
theorem w_wrong_key {P : Program} {w : World} {K : PySem.W.Frag} {mg : Str → Option Value} {base : Heap} {k : Nat} (B : Bs mg) (C : Cs K mg) {S_is_vector : SpD} {kis_vector : Nat} (F_is_vector : Cal P w K mg base "is_vector" kis_vector S_is_vector) (k_is_vector : kis_vector ≤ k) {S_are_deeds : SpD} {kare_deeds : Nat} (F_are_deeds : Cal P w K mg base "are_deeds" kare_deeds S_are_deeds) (k_are_deeds : kare_deeds ≤ k) {S_is_between : SpD} {kis_between : Nat} (F_is_between : Cal P w K mg base "is_between" kis_between S_is_between) (k_is_between : kis_between ≤ k) {S_has_keys : SpD} {khas_keys : Nat} (F_has_keys : Cal P w K mg base "has_keys" khas_keys S_has_keys) (k_has_keys : khas_keys ≤ k) (f : Addr) (cdv : Value) (A : Around) (outer : List Env) (s : Shared) (H : Hp) (E : XK)
    (room : Room k (A.deeper (envOfC "wrong_key" (defScope s_wrong_key) s.heap.objs.size f cdv))) :
    DSs (cxOf (L2N.CX P w) P w K mg base N_wrong_key "wrong_key" (defScope s_wrong_key) f cdv A outer s H E) (fun cls d _ H => E cls d H) (defBody s_wrong_key) (T_wrong_key S_is_vector S_are_deeds S_is_between S_has_keys) := by
  have sc := sc_wrong_key
  have hu : (cxOf (L2N.CX P w) P w K mg base N_wrong_key "wrong_key" (defScope s_wrong_key) f cdv A outer s H E).A.units + 64 < cLine := room.units
  have hu5 : (cxOf (L2N.CX P w) P w K mg base N_wrong_key "wrong_key" (defScope s_wrong_key) f cdv A outer s H E).A.units + 65 < cLine := by have := room.un; show (A.deeper _).units + 65 < _; omega
  have tk : L2N.Takes (cxOf (L2N.CX P w) P w K mg base N_wrong_key "wrong_key" (defScope s_wrong_key) f cdv A outer s H E) (fun cls d _ H => E cls d H) := L2N.takes_of rfl rfl rfl rfl
  have hc : (cxOf (L2N.CX P w) P w K mg base N_wrong_key "wrong_key" (defScope s_wrong_key) f cdv A outer s H E).calm = true := rfl
  have hp : PassesOwn (model P w) (cxOf (L2N.CX P w) P w K mg base N_wrong_key "wrong_key" (defScope s_wrong_key) f cdv A outer s H E).A (cxOf (L2N.CX P w) P w K mg base N_wrong_key "wrong_key" (defScope s_wrong_key) f cdv A outer s H E).env (cxOf (L2N.CX P w) P w K mg base N_wrong_key "wrong_key" (defScope s_wrong_key) f cdv A outer s H E).xe := PassesOwn.leaving
  exact (dss_cons (ds_if (dt_not (dt_tru (de_call F_has_keys tk (room.mono k_has_keys) (da_cons (de_frz 0) da_nil)))) (dss_one (ds_ret (de_fz de_str))) dss_nil)
  (dss_cons (ds_set (i := 1) sc.nd rfl (by first | exact .inl rfl | exact .inr rfl) (de_ixV hu (pv 0) de_str))
  (dss_cons (ds_if (dt_not (dt_tru (de_call F_is_between tk (room.mono k_is_between) (da_cons (de_frz 1) (da_cons de_int (da_cons (de_con C.MOST_TRAYS) da_nil)))))) (dss_one (ds_ret (de_fz de_str))) dss_nil)
  (dss_cons (ds_if (dt_not (dt_tru (de_call F_are_deeds tk (room.mono k_are_deeds) (da_cons (de_ixV hu (pv 0) de_str) (da_cons (de_frz 1) (da_cons de_int (da_cons (de_con C.MOST_NUMBER) da_nil))))))) (dss_one (ds_ret (de_fz de_str))) dss_nil)
  (dss_one (ds_ret (de_fz (de_if (dt_tru (de_call F_is_vector tk (room.mono k_is_vector) (da_cons (de_ixV hu (pv 0) de_str) (da_cons (de_frz 1) (da_cons (de_con C.MOST_START) da_nil))))) de_non de_str))))))))
/-! wrong_wide_key -/
abbrev s_wrong_wide_key : Stmt := top 39
abbrev N_wrong_wide_key : List Str := ["value", "trays"]
theorem sc_wrong_wide_key : FnScope N_wrong_wide_key ["value"] (defScope s_wrong_wide_key) := ⟨rfl, rfl, rfl, by decide +kernel, rfl, by decide +kernel, by decide +kernel⟩
def T_wrong_wide_key (S_is_vector : SpD) (S_are_deeds : SpD) (S_is_between : SpD) (S_has_keys : SpD) : TSD := (dsCons (dsIf (dNot (dTru (dCall S_has_keys (dCons (dFrz 0) dNil)))) (dsRet (dFz (dStr "net"))) dsNil) (dsCons (dsSet 1 (dIxV 0 (dStr "trays"))) (dsCons (dsIf (dNot (dTru (dCall S_is_between (dCons (dFrz 1) (dCons (dInt 0) (dCons (dCon c_MOST_WIDE_TRAYS) dNil)))))) (dsRet (dFz (dStr "trays"))) dsNil) (dsCons (dsIf (dNot (dTru (dCall S_are_deeds (dCons (dIxV 0 (dStr "deeds")) (dCons (dFrz 1) (dCons (dInt 0) (dCons dNon dNil))))))) (dsRet (dFz (dStr "deeds"))) dsNil) (dsRet (dFz (dIf (dTru (dCall S_is_vector (dCons (dIxV 0 (dStr "start")) (dCons (dFrz 1) (dCons dNon dNil))))) dNon (dStr "start"))))))))
theorem w_wrong_wide_key {P : Program} {w : World} {K : PySem.W.Frag} {mg : Str → Option Value} {base : Heap} {k : Nat} (B : Bs mg) (C : Cs K mg) {S_is_vector : SpD} {kis_vector : Nat} (F_is_vector : Cal P w K mg base "is_vector" kis_vector S_is_vector) (k_is_vector : kis_vector ≤ k) {S_are_deeds : SpD} {kare_deeds : Nat} (F_are_deeds : Cal P w K mg base "are_deeds" kare_deeds S_are_deeds) (k_are_deeds : kare_deeds ≤ k) {S_is_between : SpD} {kis_between : Nat} (F_is_between : Cal P w K mg base "is_between" kis_between S_is_between) (k_is_between : kis_between ≤ k) {S_has_keys : SpD} {khas_keys : Nat} (F_has_keys : Cal P w K mg base "has_keys" khas_keys S_has_keys) (k_has_keys : khas_keys ≤ k) (f : Addr) (cdv : Value) (A : Around) (outer : List Env) (s : Shared) (H : Hp) (E : XK)
    (room : Room k (A.deeper (envOfC "wrong_wide_key" (defScope s_wrong_wide_key) s.heap.objs.size f cdv))) :
    DSs (cxOf (L2N.CX P w) P w K mg base N_wrong_wide_key "wrong_wide_key" (defScope s_wrong_wide_key) f cdv A outer s H E) (fun cls d _ H => E cls d H) (defBody s_wrong_wide_key) (T_wrong_wide_key S_is_vector S_are_deeds S_is_between S_has_keys) := by
  have sc := sc_wrong_wide_key
  have hu : (cxOf (L2N.CX P w) P w K mg base N_wrong_wide_key "wrong_wide_key" (defScope s_wrong_wide_key) f cdv A outer s H E).A.units + 64 < cLine := room.units
  have hu5 : (cxOf (L2N.CX P w) P w K mg base N_wrong_wide_key "wrong_wide_key" (defScope s_wrong_wide_key) f cdv A outer s H E).A.units + 65 < cLine := by have := room.un; show (A.deeper _).units + 65 < _; omega
  have tk : L2N.Takes (cxOf (L2N.CX P w) P w K mg base N_wrong_wide_key "wrong_wide_key" (defScope s_wrong_wide_key) f cdv A outer s H E) (fun cls d _ H => E cls d H) := L2N.takes_of rfl rfl rfl rfl
  have hc : (cxOf (L2N.CX P w) P w K mg base N_wrong_wide_key "wrong_wide_key" (defScope s_wrong_wide_key) f cdv A outer s H E).calm = true := rfl
  have hp : PassesOwn (model P w) (cxOf (L2N.CX P w) P w K mg base N_wrong_wide_key "wrong_wide_key" (defScope s_wrong_wide_key) f cdv A outer s H E).A (cxOf (L2N.CX P w) P w K mg base N_wrong_wide_key "wrong_wide_key" (defScope s_wrong_wide_key) f cdv A outer s H E).env (cxOf (L2N.CX P w) P w K mg base N_wrong_wide_key "wrong_wide_key" (defScope s_wrong_wide_key) f cdv A outer s H E).xe := PassesOwn.leaving
  exact (dss_cons (ds_if (dt_not (dt_tru (de_call F_has_keys tk (room.mono k_has_keys) (da_cons (de_frz 0) da_nil)))) (dss_one (ds_ret (de_fz de_str))) dss_nil)
  (dss_cons (ds_set (i := 1) sc.nd rfl (by first | exact .inl rfl | exact .inr rfl) (de_ixV hu (pv 0) de_str))
  (dss_cons (ds_if (dt_not (dt_tru (de_call F_is_between tk (room.mono k_is_between) (da_cons (de_frz 1) (da_cons de_int (da_cons (de_con C.MOST_WIDE_TRAYS) da_nil)))))) (dss_one (ds_ret (de_fz de_str))) dss_nil)
  (dss_cons (ds_if (dt_not (dt_tru (de_call F_are_deeds tk (room.mono k_are_deeds) (da_cons (de_ixV hu (pv 0) de_str) (da_cons (de_frz 1) (da_cons de_int (da_cons de_non da_nil))))))) (dss_one (ds_ret (de_fz de_str))) dss_nil)
  (dss_one (ds_ret (de_fz (de_if (dt_tru (de_call F_is_vector tk (room.mono k_is_vector) (da_cons (de_ixV hu (pv 0) de_str) (da_cons (de_frz 1) (da_cons de_non da_nil))))) de_non de_str))))))))
/-! check_net -/
abbrev s_check_net : Stmt := top 40
abbrev N_check_net : List Str := ["net", "key"]
theorem sc_check_net : FnScope N_check_net ["net"] (defScope s_check_net) := ⟨rfl, rfl, rfl, by decide +kernel, rfl, by decide +kernel, by decide +kernel⟩
def T_check_net (S_wrong_key : SpD) (A_BadNet : Addr) : TSD := (dsCons (dsSet 1 (dCall S_wrong_key (dCons (dFrz 0) dNil))) (dsIf (tt (dVE CN gIsn 1 dNon)) (dRaise A_BadNet ["key"] (dCons (dFrz 1) dNil)) dsNil))
theorem w_check_net {P : Program} {w : World} {K : PySem.W.Frag} {mg : Str → Option Value} {base : Heap} {k : Nat} (B : Bs mg) (C : Cs K mg) {S_wrong_key : SpD} {kwrong_key : Nat} (F_wrong_key : Cal P w K mg base "wrong_key" kwrong_key S_wrong_key) (k_wrong_key : kwrong_key ≤ k) {A_BadNet : Addr} {f_BadNet : List Str} {kxBadNet : Nat} (X_BadNet : XCls P w K mg base "BadNet" A_BadNet ["key"] kxBadNet) (x_BadNet : kxBadNet + 1 ≤ k) (f : Addr) (cdv : Value) (A : Around) (outer : List Env) (s : Shared) (H : Hp) (E : XK)
    (room : Room k (A.deeper (envOfC "check_net" (defScope s_check_net) s.heap.objs.size f cdv))) :
    DSs (cxOf (L2N.CX P w) P w K mg base N_check_net "check_net" (defScope s_check_net) f cdv A outer s H E) (fun cls d _ H => E cls d H) (defBody s_check_net) (T_check_net S_wrong_key A_BadNet) := by
  have sc := sc_check_net
  have hu : (cxOf (L2N.CX P w) P w K mg base N_check_net "check_net" (defScope s_check_net) f cdv A outer s H E).A.units + 64 < cLine := room.units
  have hu5 : (cxOf (L2N.CX P w) P w K mg base N_check_net "check_net" (defScope s_check_net) f cdv A outer s H E).A.units + 65 < cLine := by have := room.un; show (A.deeper _).units + 65 < _; omega
  have tk : L2N.Takes (cxOf (L2N.CX P w) P w K mg base N_check_net "check_net" (defScope s_check_net) f cdv A outer s H E) (fun cls d _ H => E cls d H) := L2N.takes_of rfl rfl rfl rfl
  have hc : (cxOf (L2N.CX P w) P w K mg base N_check_net "check_net" (defScope s_check_net) f cdv A outer s H E).calm = true := rfl
  have hp : PassesOwn (model P w) (cxOf (L2N.CX P w) P w K mg base N_check_net "check_net" (defScope s_check_net) f cdv A outer s H E).A (cxOf (L2N.CX P w) P w K mg base N_check_net "check_net" (defScope s_check_net) f cdv A outer s H E).env (cxOf (L2N.CX P w) P w K mg base N_check_net "check_net" (defScope s_check_net) f cdv A outer s H E).xe := PassesOwn.leaving
  exact (dss_cons (ds_set (i := 1) sc.nd rfl (by first | exact .inl rfl | exact .inr rfl) (de_call F_wrong_key tk (room.mono k_wrong_key) (da_cons (de_frz 0) da_nil)))
  (dss_one (ds_if (dt_VE op_notN isnN_OpB (pv 1) de_non rfl) (dss_one (ds_raise X_BadNet tk hc (room.mono x_BadNet) (da_cons (de_frz 1) da_nil))) dss_nil)))
/-! check_wide -/
abbrev s_check_wide : Stmt := top 41
abbrev N_check_wide : List Str := ["net", "key"]
theorem sc_check_wide : FnScope N_check_wide ["net"] (defScope s_check_wide) := ⟨rfl, rfl, rfl, by decide +kernel, rfl, by decide +kernel, by decide +kernel⟩
def T_check_wide (S_wrong_wide_key : SpD) (A_BadNet : Addr) : TSD := (dsCons (dsSet 1 (dCall S_wrong_wide_key (dCons (dFrz 0) dNil))) (dsIf (tt (dVE CN gIsn 1 dNon)) (dRaise A_BadNet ["key"] (dCons (dFrz 1) dNil)) dsNil))
theorem w_check_wide {P : Program} {w : World} {K : PySem.W.Frag} {mg : Str → Option Value} {base : Heap} {k : Nat} (B : Bs mg) (C : Cs K mg) {S_wrong_wide_key : SpD} {kwrong_wide_key : Nat} (F_wrong_wide_key : Cal P w K mg base "wrong_wide_key" kwrong_wide_key S_wrong_wide_key) (k_wrong_wide_key : kwrong_wide_key ≤ k) {A_BadNet : Addr} {f_BadNet : List Str} {kxBadNet : Nat} (X_BadNet : XCls P w K mg base "BadNet" A_BadNet ["key"] kxBadNet) (x_BadNet : kxBadNet + 1 ≤ k) (f : Addr) (cdv : Value) (A : Around) (outer : List Env) (s : Shared) (H : Hp) (E : XK)
    (room : Room k (A.deeper (envOfC "check_wide" (defScope s_check_wide) s.heap.objs.size f cdv))) :
    DSs (cxOf (L2N.CX P w) P w K mg base N_check_wide "check_wide" (defScope s_check_wide) f cdv A outer s H E) (fun cls d _ H => E cls d H) (defBody s_check_wide) (T_check_wide S_wrong_wide_key A_BadNet) := by
  have sc := sc_check_wide
  have hu : (cxOf (L2N.CX P w) P w K mg base N_check_wide "check_wide" (defScope s_check_wide) f cdv A outer s H E).A.units + 64 < cLine := room.units
  have hu5 : (cxOf (L2N.CX P w) P w K mg base N_check_wide "check_wide" (defScope s_check_wide) f cdv A outer s H E).A.units + 65 < cLine := by have := room.un; show (A.deeper _).units + 65 < _; omega
  have tk : L2N.Takes (cxOf (L2N.CX P w) P w K mg base N_check_wide "check_wide" (defScope s_check_wide) f cdv A outer s H E) (fun cls d _ H => E cls d H) := L2N.takes_of rfl rfl rfl rfl
  have hc : (cxOf (L2N.CX P w) P w K mg base N_check_wide "check_wide" (defScope s_check_wide) f cdv A outer s H E).calm = true := rfl
  have hp : PassesOwn (model P w) (cxOf (L2N.CX P w) P w K mg base N_check_wide "check_wide" (defScope s_check_wide) f cdv A outer s H E).A (cxOf (L2N.CX P w) P w K mg base N_check_wide "check_wide" (defScope s_check_wide) f cdv A outer s H E).env (cxOf (L2N.CX P w) P w K mg base N_check_wide "check_wide" (defScope s_check_wide) f cdv A outer s H E).xe := PassesOwn.leaving
  exact (dss_cons (ds_set (i := 1) sc.nd rfl (by first | exact .inl rfl | exact .inr rfl) (de_call F_wrong_wide_key tk (room.mono k_wrong_wide_key) (da_cons (de_frz 0) da_nil)))
  (dss_one (ds_if (dt_VE op_notN isnN_OpB (pv 1) de_non rfl) (dss_one (ds_raise X_BadNet tk hc (room.mono x_BadNet) (da_cons (de_frz 1) da_nil))) dss_nil)))
/-! _law_next -/
abbrev s_law_next : Stmt := top 44
abbrev N_law_next : List Str := ["stream", "many", "k", "cell", "digit"]
theorem sc_law_next : FnScope N_law_next ["stream", "many"] (defScope s_law_next) := ⟨rfl, rfl, rfl, by decide +kernel, rfl, by decide +kernel, by decide +kernel⟩
def T_law_next : TSD := (dsCons (dsIf (tt (dEE CEq eqD (dIxV 0 (dInt 1)) (dInt 0))) (dsCons (dsSet 2 (dIxV 0 (dInt 2))) (dsCons (dsSet 3 (dAdd (dInt 7) (dFrz 2))) (dsCons (dsIf (tt (dVE CI gLt 2 (dU CLen lenD (dIxV 0 (dInt 0))))) (dsSet 3 (dMod (dU CNum intD (dU CInt1 absD (dIx (dIxV 0 (dInt 0)) (dFrz 2)))) (dMul (dMul (dPow (dInt 10) (dInt 64)) (dPow (dInt 10) (dInt 64))) (dPow (dInt 10) (dInt 64))))) dsNil) (dsCons (dsIf (tt (dVE CI gLt 3 (dPow (dInt 10) (dInt 18)))) (dsCons (dsSet 3 (dMod (dU CNum intD (dAdd (dAdd (dMul (dFrz 3) (dInt 48271)) (dMul (dFrz 2) (dInt 69621))) (dInt 11))) (dInt 2147483647))) (dsSet 3 (dAdd (dMul (dMod (dU CNum intD (dAdd (dMul (dFrz 3) (dInt 16807)) (dInt 13))) (dInt 2147483647)) (dInt 65537)) (dFrz 3)))) dsNil) (dsCons (dsAsg (dFrz 3) (gdSt 0 (dInt 1))) (dsAsg (dAdd (dFrz 2) (dInt 1)) (gdSt 0 (dInt 2)))))))) dsNil) (dsCons (dsSet 4 (dMod (dU CNum intD (dIxV 0 (dInt 1))) (dFrz 1))) (dsCons (dsAsg (dDiv (dIxV 0 (dInt 1)) (dFrz 1)) (gdSt 0 (dInt 1))) (dsRet (dFz (dFrz 4))))))
theorem w_law_next {P : Program} {w : World} {K : PySem.W.Frag} {mg : Str → Option Value} {base : Heap} {k : Nat} (B : Bs mg) (C : Cs K mg) (f : Addr) (cdv : Value) (A : Around) (outer : List Env) (s : Shared) (H : Hp) (E : XK)
    (room : Room k (A.deeper (envOfC "_law_next" (defScope s_law_next) s.heap.objs.size f cdv))) :
    DSs (cxOf (L2N.CX P w) P w K mg base N_law_next "_law_next" (defScope s_law_next) f cdv A outer s H E) (fun cls d _ H => E cls d H) (defBody s_law_next) (T_law_next) := by
  have sc := sc_law_next
  have hu : (cxOf (L2N.CX P w) P w K mg base N_law_next "_law_next" (defScope s_law_next) f cdv A outer s H E).A.units + 64 < cLine := room.units
  have hu5 : (cxOf (L2N.CX P w) P w K mg base N_law_next "_law_next" (defScope s_law_next) f cdv A outer s H E).A.units + 65 < cLine := by have := room.un; show (A.deeper _).units + 65 < _; omega
  have tk : L2N.Takes (cxOf (L2N.CX P w) P w K mg base N_law_next "_law_next" (defScope s_law_next) f cdv A outer s H E) (fun cls d _ H => E cls d H) := L2N.takes_of rfl rfl rfl rfl
  have hc : (cxOf (L2N.CX P w) P w K mg base N_law_next "_law_next" (defScope s_law_next) f cdv A outer s H E).calm = true := rfl
  have hp : PassesOwn (model P w) (cxOf (L2N.CX P w) P w K mg base N_law_next "_law_next" (defScope s_law_next) f cdv A outer s H E).A (cxOf (L2N.CX P w) P w K mg base N_law_next "_law_next" (defScope s_law_next) f cdv A outer s H E).env (cxOf (L2N.CX P w) P w K mg base N_law_next "_law_next" (defScope s_law_next) f cdv A outer s H E).xe := PassesOwn.leaving
  exact (dss_cons (ds_if (dt_EE (opB_eq hu) eq_OpB (de_ixV hu (pv 0) de_int) de_int rfl) (dss_cons (ds_set (i := 2) sc.nd rfl (by first | exact .inl rfl | exact .inr rfl) (de_ixV hu (pv 0) de_int))
  (dss_cons (ds_set (i := 3) sc.nd rfl (by first | exact .inl rfl | exact .inr rfl) (de_add de_int (de_frz 2)))
  (dss_cons (ds_if (dt_VE op_lt (int_OpB _) (pv 2) (de_cB call_lenA len_OpU lenD_flat rfl B.len bt_len (de_ixV hu (pv 0) de_int)) rfl) (dss_one (ds_set (i := 3) sc.nd rfl (by first | exact .inl rfl | exact .inr rfl) (de_mod (de_cT call_int1 int_OpU intD_flat rfl B.int bt_int (de_cB call_abs abs_OpU absD_flat rfl B.abs bt_abs (de_ix hu (de_ixV hu (pv 0) de_int) (de_frz 2)))) (de_mul (de_mul (de_pow de_int de_int) (de_pow de_int de_int)) (de_pow de_int de_int))))) dss_nil)
  (dss_cons (ds_if (dt_VE op_lt (int_OpB _) (pv 3) (de_pow de_int de_int) rfl) (dss_cons (ds_set (i := 3) sc.nd rfl (by first | exact .inl rfl | exact .inr rfl) (de_mod (de_cT call_int1 int_OpU intD_flat rfl B.int bt_int (de_add (de_add (de_mul (de_frz 3) de_int) (de_mul (de_frz 2) de_int)) de_int)) de_int))
  (dss_one (ds_set (i := 3) sc.nd rfl (by first | exact .inl rfl | exact .inr rfl) (de_add (de_mul (de_mod (de_cT call_int1 int_OpU intD_flat rfl B.int bt_int (de_add (de_mul (de_frz 3) de_int) de_int)) de_int) de_int) (de_frz 3))))) dss_nil)
  (dss_cons (ds_asg (de_frz 3) (dg_st hu (pv 0) de_int))
  (dss_one (ds_asg (de_add (de_frz 2) de_int) (dg_st hu (pv 0) de_int)))))))) dss_nil)
  (dss_cons (ds_set (i := 4) sc.nd rfl (by first | exact .inl rfl | exact .inr rfl) (de_mod (de_cT call_int1 int_OpU intD_flat rfl B.int bt_int (de_ixV hu (pv 0) de_int)) (de_frz 1)))
  (dss_cons (ds_asg (de_div (de_ixV hu (pv 0) de_int) (de_frz 1)) (dg_st hu (pv 0) de_int))
  (dss_one (ds_ret (de_fz (de_frz 4)))))))
/-! _law_pick -/
abbrev s_law_pick : Stmt := top 45
abbrev N_law_pick : List Str := ["stream", "rows"]
theorem sc_law_pick : FnScope N_law_pick ["stream", "rows"] (defScope s_law_pick) := ⟨rfl, rfl, rfl, by decide +kernel, rfl, by decide +kernel, by decide +kernel⟩
def T_law_pick (S_law_next : SpD) : TSD := (dsRet (dFz (dIxV 1 (dCall S_law_next (dCons (dFrz 0) (dCons (dUV CLen lenD 1) dNil))))))
theorem w_law_pick {P : Program} {w : World} {K : PySem.W.Frag} {mg : Str → Option Value} {base : Heap} {k : Nat} (B : Bs mg) (C : Cs K mg) {S_law_next : SpD} {klaw_next : Nat} (F_law_next : Cal P w K mg base "_law_next" klaw_next S_law_next) (k_law_next : klaw_next ≤ k) (f : Addr) (cdv : Value) (A : Around) (outer : List Env) (s : Shared) (H : Hp) (E : XK)
    (room : Room k (A.deeper (envOfC "_law_pick" (defScope s_law_pick) s.heap.objs.size f cdv))) :
    DSs (cxOf (L2N.CX P w) P w K mg base N_law_pick "_law_pick" (defScope s_law_pick) f cdv A outer s H E) (fun cls d _ H => E cls d H) (defBody s_law_pick) (T_law_pick S_law_next) := by
  have sc := sc_law_pick
  have hu : (cxOf (L2N.CX P w) P w K mg base N_law_pick "_law_pick" (defScope s_law_pick) f cdv A outer s H E).A.units + 64 < cLine := room.units
  have hu5 : (cxOf (L2N.CX P w) P w K mg base N_law_pick "_law_pick" (defScope s_law_pick) f cdv A outer s H E).A.units + 65 < cLine := by have := room.un; show (A.deeper _).units + 65 < _; omega
  have tk : L2N.Takes (cxOf (L2N.CX P w) P w K mg base N_law_pick "_law_pick" (defScope s_law_pick) f cdv A outer s H E) (fun cls d _ H => E cls d H) := L2N.takes_of rfl rfl rfl rfl
  have hc : (cxOf (L2N.CX P w) P w K mg base N_law_pick "_law_pick" (defScope s_law_pick) f cdv A outer s H E).calm = true := rfl
  have hp : PassesOwn (model P w) (cxOf (L2N.CX P w) P w K mg base N_law_pick "_law_pick" (defScope s_law_pick) f cdv A outer s H E).A (cxOf (L2N.CX P w) P w K mg base N_law_pick "_law_pick" (defScope s_law_pick) f cdv A outer s H E).env (cxOf (L2N.CX P w) P w K mg base N_law_pick "_law_pick" (defScope s_law_pick) f cdv A outer s H E).xe := PassesOwn.leaving
  exact (dss_one (ds_ret (de_fz (de_ixV hu (pv 1) (de_call F_law_next tk (room.mono k_law_next) (da_cons (de_frz 0) (da_cons (de_cBV call_lenA len_OpU lenD_flat rfl B.len bt_len (pv 1)) da_nil)))))))
/-! _law_from -/
abbrev s_law_from : Stmt := top 46
abbrev N_law_from : List Str := ["stream", "low", "high"]
theorem sc_law_from : FnScope N_law_from ["stream", "low", "high"] (defScope s_law_from) := ⟨rfl, rfl, rfl, by decide +kernel, rfl, by decide +kernel, by decide +kernel⟩
def T_law_from (S_law_next : SpD) : TSD := (dsRet (dFz (dAdd (dFrz 1) (dCall S_law_next (dCons (dFrz 0) (dCons (dAdd (dSub (dFrz 2) (dFrz 1)) (dInt 1)) dNil))))))
theorem w_law_from {P : Program} {w : World} {K : PySem.W.Frag} {mg : Str → Option Value} {base : Heap} {k : Nat} (B : Bs mg) (C : Cs K mg) {S_law_next : SpD} {klaw_next : Nat} (F_law_next : Cal P w K mg base "_law_next" klaw_next S_law_next) (k_law_next : klaw_next ≤ k) (f : Addr) (cdv : Value) (A : Around) (outer : List Env) (s : Shared) (H : Hp) (E : XK)
    (room : Room k (A.deeper (envOfC "_law_from" (defScope s_law_from) s.heap.objs.size f cdv))) :
    DSs (cxOf (L2N.CX P w) P w K mg base N_law_from "_law_from" (defScope s_law_from) f cdv A outer s H E) (fun cls d _ H => E cls d H) (defBody s_law_from) (T_law_from S_law_next) := by
  have sc := sc_law_from
  have hu : (cxOf (L2N.CX P w) P w K mg base N_law_from "_law_from" (defScope s_law_from) f cdv A outer s H E).A.units + 64 < cLine := room.units
  have hu5 : (cxOf (L2N.CX P w) P w K mg base N_law_from "_law_from" (defScope s_law_from) f cdv A outer s H E).A.units + 65 < cLine := by have := room.un; show (A.deeper _).units + 65 < _; omega
  have tk : L2N.Takes (cxOf (L2N.CX P w) P w K mg base N_law_from "_law_from" (defScope s_law_from) f cdv A outer s H E) (fun cls d _ H => E cls d H) := L2N.takes_of rfl rfl rfl rfl
  have hc : (cxOf (L2N.CX P w) P w K mg base N_law_from "_law_from" (defScope s_law_from) f cdv A outer s H E).calm = true := rfl
  have hp : PassesOwn (model P w) (cxOf (L2N.CX P w) P w K mg base N_law_from "_law_from" (defScope s_law_from) f cdv A outer s H E).A (cxOf (L2N.CX P w) P w K mg base N_law_from "_law_from" (defScope s_law_from) f cdv A outer s H E).env (cxOf (L2N.CX P w) P w K mg base N_law_from "_law_from" (defScope s_law_from) f cdv A outer s H E).xe := PassesOwn.leaving
  exact (dss_one (ds_ret (de_fz (de_add (de_frz 1) (de_call F_law_next tk (room.mono k_law_next) (da_cons (de_frz 0) (da_cons (de_add (de_sub (de_frz 2) (de_frz 1)) de_int) da_nil)))))))
/-! _law_number -/
abbrev s_law_number : Stmt := top 47
abbrev N_law_number : List Str := ["value", "low", "high"]
theorem sc_law_number : FnScope N_law_number ["value", "low", "high"] (defScope s_law_number) := ⟨rfl, rfl, rfl, by decide +kernel, rfl, by decide +kernel, by decide +kernel⟩
def T_law_number : TSD := (dsCons (dsIf (dOr (dNot (dTru (dIsiV "int" 0))) (dTru (dIsiV "bool" 0))) (dsRet (dFz (dBl false))) dsNil) (dsRet (dFz (dAndV (dVV CI gLe 1 0) (dVV CI gLe 0 2)))))
theorem w_law_number {P : Program} {w : World} {K : PySem.W.Frag} {mg : Str → Option Value} {base : Heap} {k : Nat} (B : Bs mg) (C : Cs K mg) (f : Addr) (cdv : Value) (A : Around) (outer : List Env) (s : Shared) (H : Hp) (E : XK)
    (room : Room k (A.deeper (envOfC "_law_number" (defScope s_law_number) s.heap.objs.size f cdv))) :
    DSs (cxOf (L2N.CX P w) P w K mg base N_law_number "_law_number" (defScope s_law_number) f cdv A outer s H E) (fun cls d _ H => E cls d H) (defBody s_law_number) (T_law_number) := by
  have sc := sc_law_number
  have hu : (cxOf (L2N.CX P w) P w K mg base N_law_number "_law_number" (defScope s_law_number) f cdv A outer s H E).A.units + 64 < cLine := room.units
  have hu5 : (cxOf (L2N.CX P w) P w K mg base N_law_number "_law_number" (defScope s_law_number) f cdv A outer s H E).A.units + 65 < cLine := by have := room.un; show (A.deeper _).units + 65 < _; omega
  have tk : L2N.Takes (cxOf (L2N.CX P w) P w K mg base N_law_number "_law_number" (defScope s_law_number) f cdv A outer s H E) (fun cls d _ H => E cls d H) := L2N.takes_of rfl rfl rfl rfl
  have hc : (cxOf (L2N.CX P w) P w K mg base N_law_number "_law_number" (defScope s_law_number) f cdv A outer s H E).calm = true := rfl
  have hp : PassesOwn (model P w) (cxOf (L2N.CX P w) P w K mg base N_law_number "_law_number" (defScope s_law_number) f cdv A outer s H E).A (cxOf (L2N.CX P w) P w K mg base N_law_number "_law_number" (defScope s_law_number) f cdv A outer s H E).env (cxOf (L2N.CX P w) P w K mg base N_law_number "_law_number" (defScope s_law_number) f cdv A outer s H E).xe := PassesOwn.leaving
  exact (dss_cons (ds_if (dw_pt (dw_or (dt_not (dt_tru (de_isiV isi_int B.isinstance B.int bt_int (pv 0)))) (dw_or1 (dt_tru (de_isiV isi_bool B.isinstance B.bool bt_bool (pv 0)))))) (dss_one (ds_ret (de_fz de_bl))) dss_nil)
  (dss_one (ds_ret (de_fz (de_and (de_VV op_le (int_OpB _) (pv 1) (pv 0) rfl) (de_one (de_VV op_le (int_OpB _) (pv 0) (pv 2) rfl)))))))
/-! _law_whole -/
abbrev s_law_whole : Stmt := top 48
abbrev N_law_whole : List Str := ["value", "low"]
theorem sc_law_whole : FnScope N_law_whole ["value", "low"] (defScope s_law_whole) := ⟨rfl, rfl, rfl, by decide +kernel, rfl, by decide +kernel, by decide +kernel⟩
def T_law_whole : TSD := (dsRet (dFz (dAndV (dIsiV "int" 0) (dAndV (dNotV (dIsiV "bool" 0)) (dVV CI gGe 0 1)))))
theorem w_law_whole {P : Program} {w : World} {K : PySem.W.Frag} {mg : Str → Option Value} {base : Heap} {k : Nat} (B : Bs mg) (C : Cs K mg) (f : Addr) (cdv : Value) (A : Around) (outer : List Env) (s : Shared) (H : Hp) (E : XK)
    (room : Room k (A.deeper (envOfC "_law_whole" (defScope s_law_whole) s.heap.objs.size f cdv))) :
    DSs (cxOf (L2N.CX P w) P w K mg base N_law_whole "_law_whole" (defScope s_law_whole) f cdv A outer s H E) (fun cls d _ H => E cls d H) (defBody s_law_whole) (T_law_whole) := by
  have sc := sc_law_whole
  have hu : (cxOf (L2N.CX P w) P w K mg base N_law_whole "_law_whole" (defScope s_law_whole) f cdv A outer s H E).A.units + 64 < cLine := room.units
  have hu5 : (cxOf (L2N.CX P w) P w K mg base N_law_whole "_law_whole" (defScope s_law_whole) f cdv A outer s H E).A.units + 65 < cLine := by have := room.un; show (A.deeper _).units + 65 < _; omega
  have tk : L2N.Takes (cxOf (L2N.CX P w) P w K mg base N_law_whole "_law_whole" (defScope s_law_whole) f cdv A outer s H E) (fun cls d _ H => E cls d H) := L2N.takes_of rfl rfl rfl rfl
  have hc : (cxOf (L2N.CX P w) P w K mg base N_law_whole "_law_whole" (defScope s_law_whole) f cdv A outer s H E).calm = true := rfl
  have hp : PassesOwn (model P w) (cxOf (L2N.CX P w) P w K mg base N_law_whole "_law_whole" (defScope s_law_whole) f cdv A outer s H E).A (cxOf (L2N.CX P w) P w K mg base N_law_whole "_law_whole" (defScope s_law_whole) f cdv A outer s H E).env (cxOf (L2N.CX P w) P w K mg base N_law_whole "_law_whole" (defScope s_law_whole) f cdv A outer s H E).xe := PassesOwn.leaving
  exact (dss_one (ds_ret (de_fz (de_and (de_isiV isi_int B.isinstance B.int bt_int (pv 0)) (de_and (de_not (de_isiV isi_bool B.isinstance B.bool bt_bool (pv 0))) (de_one (de_VV op_ge (int_OpB _) (pv 0) (pv 1) rfl)))))))
/-! _law_same -/
abbrev s_law_same : Stmt := top 49
abbrev N_law_same : List Str := ["actual", "due", "left", "turn", "one", "other", "at", "key"]
theorem sc_law_same : FnScope N_law_same ["actual", "due"] (defScope s_law_same) := ⟨rfl, rfl, rfl, by decide +kernel, rfl, by decide +kernel, by decide +kernel⟩
def T_law_same : TSD := (dsCons (dsSet 2 (dLst (dCons (dTup (dCons (dFrz 0) (dCons (dFrz 1) dNil))) dNil))) (dsCons (dsFor (diRange1 (dInt 2000000)) (gdName 3) (dsCons (dsIf (tt (dEE CEq eqD (dUV CLen lenD 2) (dInt 0))) (dsRet (dFz (dBl true))) dsNil) (dsCons (dsAsg (dPop 2) (gdTup 2 (gdCons (gdName 4) (gdCons (gdName 5) gdNil)))) (dsIf (dOr (dTru (dIsiV "tuple" 5)) (dTru (dIsiV "list" 5))) (dsCons (dsIf (dOr (tt (dEE CEq neD (dIsiV "tuple" 5) (dIsiV "tuple" 4))) (dOr (tt (dEE CEq neD (dIsiV "list" 5) (dIsiV "list" 4))) (tt (dEE CEq neD (dUV CLen lenD 4) (dUV CLen lenD 5))))) (dsRet (dFz (dBl false))) dsNil) (dsExtend 2 (dLc (diRange1 (dUV CLen lenD 5)) (gdName 6) dYes (dTup (dCons (dIxV 4 (dFrz 6)) (dCons (dIxV 5 (dFrz 6)) dNil))) [6]))) (dsIf (dTru (dIsiV "dict" 5)) (dsCons (dsIf (dOr (dNot (dTru (dIsiV "dict" 4))) (dOr (tt (dEE CEq neD (dUV CLen lenD 4) (dUV CLen lenD 5))) (tt (dEE CI gGt (dU CLen lenD (dLcK 5 (gdName 7) (tt (dVV CIn notinD 7 4)) (dFrz 7) [7])) (dInt 0))))) (dsRet (dFz (dBl false))) dsNil) (dsExtend 2 (dLcK 5 (gdName 7) dYes (dTup (dCons (dIxV 4 (dFrz 7)) (dCons (dIxV 5 (dFrz 7)) dNil))) [7]))) (dsIf (dOr (dTru (dIsiV "bool" 5)) (dTru (dIsiV "str" 5))) (dsIf (dOr (tt (dEE CEq neD (dIsiV "bool" 4) (dIsiV "bool" 5))) (dOr (tt (dEE CEq neD (dIsiV "str" 4) (dIsiV "str" 5))) (tt (dVV CEq neD 4 5)))) (dsRet (dFz (dBl false))) dsNil) (dsIf (dTru (dIsiV "int" 5)) (dsIf (dOr (dNot (dTru (dIsiV "int" 4))) (dOr (dTru (dIsiV "bool" 4)) (tt (dVV CEq neD 4 5)))) (dsRet (dFz (dBl false))) dsNil) (dsIf (tt (dVE CN gIsn 4 dNon)) (dsRet (dFz (dBl false))) dsNil)))))))) (dsRet (dFz (dBl false)))))
theorem w_law_same {P : Program} {w : World} {K : PySem.W.Frag} {mg : Str → Option Value} {base : Heap} {k : Nat} (B : Bs mg) (C : Cs K mg) (f : Addr) (cdv : Value) (A : Around) (outer : List Env) (s : Shared) (H : Hp) (E : XK)
    (room : Room k (A.deeper (envOfC "_law_same" (defScope s_law_same) s.heap.objs.size f cdv))) :
    DSs (cxOf (L2N.CX P w) P w K mg base N_law_same "_law_same" (defScope s_law_same) f cdv A outer s H E) (fun cls d _ H => E cls d H) (defBody s_law_same) (T_law_same) := by
  have sc := sc_law_same
  have hu : (cxOf (L2N.CX P w) P w K mg base N_law_same "_law_same" (defScope s_law_same) f cdv A outer s H E).A.units + 64 < cLine := room.units
  have hu5 : (cxOf (L2N.CX P w) P w K mg base N_law_same "_law_same" (defScope s_law_same) f cdv A outer s H E).A.units + 65 < cLine := by have := room.un; show (A.deeper _).units + 65 < _; omega
  have tk : L2N.Takes (cxOf (L2N.CX P w) P w K mg base N_law_same "_law_same" (defScope s_law_same) f cdv A outer s H E) (fun cls d _ H => E cls d H) := L2N.takes_of rfl rfl rfl rfl
  have hc : (cxOf (L2N.CX P w) P w K mg base N_law_same "_law_same" (defScope s_law_same) f cdv A outer s H E).calm = true := rfl
  have hp : PassesOwn (model P w) (cxOf (L2N.CX P w) P w K mg base N_law_same "_law_same" (defScope s_law_same) f cdv A outer s H E).A (cxOf (L2N.CX P w) P w K mg base N_law_same "_law_same" (defScope s_law_same) f cdv A outer s H E).env (cxOf (L2N.CX P w) P w K mg base N_law_same "_law_same" (defScope s_law_same) f cdv A outer s H E).xe := PassesOwn.leaving
  exact (dss_cons (ds_set (i := 2) sc.nd rfl (by first | exact .inl rfl | exact .inr rfl) (de_lst (da_cons (de_tup (da_cons (de_frz 0) (da_cons (de_frz 1) da_nil))) da_nil)))
  (dss_cons (ds_for hp hc (di_range1 B.range de_int) (dg_name sc.nd rfl (by first | exact .inl rfl | exact .inr rfl)) (dss_cons (ds_if (dt_EE (opB_eq hu) eq_OpB (de_cBV call_lenA len_OpU lenD_flat rfl B.len bt_len (pv 2)) de_int rfl) (dss_one (ds_ret (de_fz de_bl))) dss_nil)
  (dss_cons (ds_asg (de_pop (pv 2)) (dg_tup hc (dgs_cons (dg_name sc.nd rfl (by first | exact .inl rfl | exact .inr rfl)) (dgs_cons (dg_name sc.nd rfl (by first | exact .inl rfl | exact .inr rfl)) dgs_nil))))
  (dss_one (ds_if (dw_pt (dw_or (dt_tru (de_isiV isi_tuple B.isinstance B.tuple bt_tuple (pv 5))) (dw_or1 (dt_tru (de_isiV isi_list B.isinstance B.list bt_list (pv 5)))))) (dss_cons (ds_if (dw_pt (dw_or (dt_EE (opB_ne hu) ne_OpB (de_isiV isi_tuple B.isinstance B.tuple bt_tuple (pv 5)) (de_isiV isi_tuple B.isinstance B.tuple bt_tuple (pv 4)) rfl) (dw_or (dt_EE (opB_ne hu) ne_OpB (de_isiV isi_list B.isinstance B.list bt_list (pv 5)) (de_isiV isi_list B.isinstance B.list bt_list (pv 4)) rfl) (dw_or1 (dt_EE (opB_ne hu) ne_OpB (de_cBV call_lenA len_OpU lenD_flat rfl B.len bt_len (pv 4)) (de_cBV call_lenA len_OpU lenD_flat rfl B.len bt_len (pv 5)) rfl))))) (dss_one (ds_ret (de_fz de_bl))) dss_nil)
  (dss_one (ds_extend (pv 2) (de_lc hc sc.nd (own := [("at", 6)]) (blkOk_by (by rfl)) (by simp) (di_range1 B.range (de_cBV call_lenA len_OpU lenD_flat rfl B.len bt_len (pv 5))) (fun _ _ _ _ _ => (dg_name sc.nd rfl (by first | exact .inl rfl | exact .inr rfl))) (fun _ _ _ _ _ => dpts_nil) (fun _ _ _ _ _ => (de_tup (da_cons (de_ixV hu (pv 4) (de_frz 6)) (da_cons (de_ixV hu (pv 5) (de_frz 6)) da_nil)))))))) (dss_one (ds_if (dt_tru (de_isiV isi_dict B.isinstance B.dict bt_dict (pv 5))) (dss_cons (ds_if (dw_pt (dw_or (dt_not (dt_tru (de_isiV isi_dict B.isinstance B.dict bt_dict (pv 4)))) (dw_or (dt_EE (opB_ne hu) ne_OpB (de_cBV call_lenA len_OpU lenD_flat rfl B.len bt_len (pv 4)) (de_cBV call_lenA len_OpU lenD_flat rfl B.len bt_len (pv 5)) rfl) (dw_or1 (dt_EE op_gt (int_OpB _) (de_cB call_lenA len_OpU lenD_flat rfl B.len bt_len (de_lcK hc sc.nd (own := [("key", 7)]) (blkOk_by (by rfl)) (by simp) (pv 5) (fun _ _ _ _ _ => (dg_name sc.nd rfl (by first | exact .inl rfl | exact .inr rfl))) (fun _ _ _ _ _ => (dpts_one (dt_VV (op_ninA hu5) nin_OpB (pv 7) (pv 4) rfl))) (fun _ _ _ _ _ => (de_frz 7)))) de_int rfl))))) (dss_one (ds_ret (de_fz de_bl))) dss_nil)
  (dss_one (ds_extend (pv 2) (de_lcK hc sc.nd (own := [("key", 7)]) (blkOk_by (by rfl)) (by simp) (pv 5) (fun _ _ _ _ _ => (dg_name sc.nd rfl (by first | exact .inl rfl | exact .inr rfl))) (fun _ _ _ _ _ => dpts_nil) (fun _ _ _ _ _ => (de_tup (da_cons (de_ixV hu (pv 4) (de_frz 7)) (da_cons (de_ixV hu (pv 5) (de_frz 7)) da_nil)))))))) (dss_one (ds_if (dw_pt (dw_or (dt_tru (de_isiV isi_bool B.isinstance B.bool bt_bool (pv 5))) (dw_or1 (dt_tru (de_isiV isi_str B.isinstance B.str bt_str (pv 5)))))) (dss_one (ds_if (dw_pt (dw_or (dt_EE (opB_ne hu) ne_OpB (de_isiV isi_bool B.isinstance B.bool bt_bool (pv 4)) (de_isiV isi_bool B.isinstance B.bool bt_bool (pv 5)) rfl) (dw_or (dt_EE (opB_ne hu) ne_OpB (de_isiV isi_str B.isinstance B.str bt_str (pv 4)) (de_isiV isi_str B.isinstance B.str bt_str (pv 5)) rfl) (dw_or1 (dt_VV (opB_ne hu) ne_OpB (pv 4) (pv 5) rfl))))) (dss_one (ds_ret (de_fz de_bl))) dss_nil)) (dss_one (ds_if (dt_tru (de_isiV isi_int B.isinstance B.int bt_int (pv 5))) (dss_one (ds_if (dw_pt (dw_or (dt_not (dt_tru (de_isiV isi_int B.isinstance B.int bt_int (pv 4)))) (dw_or (dt_tru (de_isiV isi_bool B.isinstance B.bool bt_bool (pv 4))) (dw_or1 (dt_VV (opB_ne hu) ne_OpB (pv 4) (pv 5) rfl))))) (dss_one (ds_ret (de_fz de_bl))) dss_nil)) (dss_one (ds_if (dt_VE op_notN isnN_OpB (pv 4) de_non rfl) (dss_one (ds_ret (de_fz de_bl))) dss_nil)))))))))))))
  (dss_one (ds_ret (de_fz de_bl)))))
/-! _law_copy -/
abbrev s_law_copy : Stmt := top 50
abbrev N_law_copy : List Str := ["value", "found", "key", "item"]
theorem sc_law_copy : FnScope N_law_copy ["value"] (defScope s_law_copy) := ⟨rfl, rfl, rfl, by decide +kernel, rfl, by decide +kernel, by decide +kernel⟩
def T_law_copy (S_law_copy : SpD) : TSD := (dsCons (dsIf (dTru (dIsiV "dict" 0)) (dsCons (dsSet 1 dDict0) (dsCons (dsForK 0 (gdName 2) (dsAsg (dCall S_law_copy (dCons (dIxV 0 (dFrz 2)) dNil)) (gdSt 1 (dFrz 2)))) (dsRet (dFz (dFrz 1))))) dsNil) (dsCons (dsIf (dTru (dIsiV "list" 0)) (dsRet (dFz (dLc (diSeq (dFrz 0)) (gdName 3) dYes (dCall S_law_copy (dCons (dFrz 3) dNil)) [3]))) dsNil) (dsCons (dsIf (dTru (dIsiV "tuple" 0)) (dsRet (dFz (dTupOf (dLc (diSeq (dFrz 0)) (gdName 3) dYes (dCall S_law_copy (dCons (dFrz 3) dNil)) [3])))) dsNil) (dsRet (dFz (dFrz 0))))))
theorem w_law_copy {P : Program} {w : World} {K : PySem.W.Frag} {mg : Str → Option Value} {base : Heap} {k : Nat} (B : Bs mg) (C : Cs K mg) {S_law_copy : SpD} {klaw_copy : Nat} (F_law_copy : Cal P w K mg base "_law_copy" klaw_copy S_law_copy) (k_law_copy : klaw_copy ≤ k) (f : Addr) (cdv : Value) (A : Around) (outer : List Env) (s : Shared) (H : Hp) (E : XK)
    (room : Room k (A.deeper (envOfC "_law_copy" (defScope s_law_copy) s.heap.objs.size f cdv))) :
    DSs (cxOf (L2N.CX P w) P w K mg base N_law_copy "_law_copy" (defScope s_law_copy) f cdv A outer s H E) (fun cls d _ H => E cls d H) (defBody s_law_copy) (T_law_copy S_law_copy) := by
  have sc := sc_law_copy
  have hu : (cxOf (L2N.CX P w) P w K mg base N_law_copy "_law_copy" (defScope s_law_copy) f cdv A outer s H E).A.units + 64 < cLine := room.units
  have hu5 : (cxOf (L2N.CX P w) P w K mg base N_law_copy "_law_copy" (defScope s_law_copy) f cdv A outer s H E).A.units + 65 < cLine := by have := room.un; show (A.deeper _).units + 65 < _; omega
  have tk : L2N.Takes (cxOf (L2N.CX P w) P w K mg base N_law_copy "_law_copy" (defScope s_law_copy) f cdv A outer s H E) (fun cls d _ H => E cls d H) := L2N.takes_of rfl rfl rfl rfl
  have hc : (cxOf (L2N.CX P w) P w K mg base N_law_copy "_law_copy" (defScope s_law_copy) f cdv A outer s H E).calm = true := rfl
  have hp : PassesOwn (model P w) (cxOf (L2N.CX P w) P w K mg base N_law_copy "_law_copy" (defScope s_law_copy) f cdv A outer s H E).A (cxOf (L2N.CX P w) P w K mg base N_law_copy "_law_copy" (defScope s_law_copy) f cdv A outer s H E).env (cxOf (L2N.CX P w) P w K mg base N_law_copy "_law_copy" (defScope s_law_copy) f cdv A outer s H E).xe := PassesOwn.leaving
  exact (dss_cons (ds_if (dt_tru (de_isiV isi_dict B.isinstance B.dict bt_dict (pv 0))) (dss_cons (ds_set (i := 1) sc.nd rfl (by first | exact .inl rfl | exact .inr rfl) de_dict0)
  (dss_cons (ds_forK hp hc (pv 0) (dg_name sc.nd rfl (by first | exact .inl rfl | exact .inr rfl)) (dss_one (ds_asg (de_call F_law_copy tk (room.mono k_law_copy) (da_cons (de_ixV hu (pv 0) (de_frz 2)) da_nil)) (dg_st hu (pv 1) (de_frz 2)))))
  (dss_one (ds_ret (de_fz (de_frz 1)))))) dss_nil)
  (dss_cons (ds_if (dt_tru (de_isiV isi_list B.isinstance B.list bt_list (pv 0))) (dss_one (ds_ret (de_fz (de_lc hc sc.nd (own := [("item", 3)]) (blkOk_by (by rfl)) (by simp) (di_seq (de_frz 0)) (fun _ _ _ _ _ => (dg_name sc.nd rfl (by first | exact .inl rfl | exact .inr rfl))) (fun _ _ _ _ _ => dpts_nil) (fun _ _ _ _ _ => (de_call F_law_copy takes_noW0 (room.mono k_law_copy) (da_cons (de_frz 3) da_nil))))))) dss_nil)
  (dss_cons (ds_if (dt_tru (de_isiV isi_tuple B.isinstance B.tuple bt_tuple (pv 0))) (dss_one (ds_ret (de_fz (de_tupOf B.tuple (de_lc hc sc.nd (own := [("item", 3)]) (blkOk_by (by rfl)) (by simp) (di_seq (de_frz 0)) (fun _ _ _ _ _ => (dg_name sc.nd rfl (by first | exact .inl rfl | exact .inr rfl))) (fun _ _ _ _ _ => dpts_nil) (fun _ _ _ _ _ => (de_call F_law_copy takes_noW0 (room.mono k_law_copy) (da_cons (de_frz 3) da_nil)))))))) dss_nil)
  (dss_one (ds_ret (de_fz (de_frz 0)))))))
/-! _law_is_vector -/
abbrev s_law_is_vector : Stmt := top 53
abbrev N_law_is_vector : List Str := ["value", "trays", "high", "n"]
theorem sc_law_is_vector : FnScope N_law_is_vector ["value", "trays", "high"] (defScope s_law_is_vector) := ⟨rfl, rfl, rfl, by decide +kernel, rfl, by decide +kernel, by decide +kernel⟩
def T_law_is_vector (S_law_whole : SpD) : TSD := (dsCons (dsIf (dOr (dNot (dTru (dIsiV "tuple" 0))) (tt (dEV CEq neD (dUV CLen lenD 0) 1))) (dsRet (dFz (dBl false))) dsNil) (dsRet (dFz (dEE CEq eqD (dU CLen lenD (dLc (diSeq (dFrz 0)) (gdName 3) (dOr (dNot (dTru (dCall S_law_whole (dCons (dFrz 3) (dCons (dInt 0) dNil))))) (dAnd (tt (dVE CN gIsn 2 dNon)) (tt (dVV CI gGt 3 2)))) (dFrz 3) [3])) (dInt 0)))))
theorem w_law_is_vector {P : Program} {w : World} {K : PySem.W.Frag} {mg : Str → Option Value} {base : Heap} {k : Nat} (B : Bs mg) (C : Cs K mg) {S_law_whole : SpD} {klaw_whole : Nat} (F_law_whole : Cal P w K mg base "_law_whole" klaw_whole S_law_whole) (k_law_whole : klaw_whole ≤ k) (f : Addr) (cdv : Value) (A : Around) (outer : List Env) (s : Shared) (H : Hp) (E : XK)
    (room : Room k (A.deeper (envOfC "_law_is_vector" (defScope s_law_is_vector) s.heap.objs.size f cdv))) :
    DSs (cxOf (L2N.CX P w) P w K mg base N_law_is_vector "_law_is_vector" (defScope s_law_is_vector) f cdv A outer s H E) (fun cls d _ H => E cls d H) (defBody s_law_is_vector) (T_law_is_vector S_law_whole) := by
  have sc := sc_law_is_vector
  have hu : (cxOf (L2N.CX P w) P w K mg base N_law_is_vector "_law_is_vector" (defScope s_law_is_vector) f cdv A outer s H E).A.units + 64 < cLine := room.units
  have hu5 : (cxOf (L2N.CX P w) P w K mg base N_law_is_vector "_law_is_vector" (defScope s_law_is_vector) f cdv A outer s H E).A.units + 65 < cLine := by have := room.un; show (A.deeper _).units + 65 < _; omega
  have tk : L2N.Takes (cxOf (L2N.CX P w) P w K mg base N_law_is_vector "_law_is_vector" (defScope s_law_is_vector) f cdv A outer s H E) (fun cls d _ H => E cls d H) := L2N.takes_of rfl rfl rfl rfl
  have hc : (cxOf (L2N.CX P w) P w K mg base N_law_is_vector "_law_is_vector" (defScope s_law_is_vector) f cdv A outer s H E).calm = true := rfl
  have hp : PassesOwn (model P w) (cxOf (L2N.CX P w) P w K mg base N_law_is_vector "_law_is_vector" (defScope s_law_is_vector) f cdv A outer s H E).A (cxOf (L2N.CX P w) P w K mg base N_law_is_vector "_law_is_vector" (defScope s_law_is_vector) f cdv A outer s H E).env (cxOf (L2N.CX P w) P w K mg base N_law_is_vector "_law_is_vector" (defScope s_law_is_vector) f cdv A outer s H E).xe := PassesOwn.leaving
  exact (dss_cons (ds_if (dw_pt (dw_or (dt_not (dt_tru (de_isiV isi_tuple B.isinstance B.tuple bt_tuple (pv 0)))) (dw_or1 (dt_EV (opB_ne hu) ne_OpB (de_cBV call_lenA len_OpU lenD_flat rfl B.len bt_len (pv 0)) (pv 1) rfl)))) (dss_one (ds_ret (de_fz de_bl))) dss_nil)
  (dss_one (ds_ret (de_fz (de_EE (opB_eq hu) eq_OpB (de_cB call_lenA len_OpU lenD_flat rfl B.len bt_len (de_lc hc sc.nd (own := [("n", 3)]) (blkOk_by (by rfl)) (by simp) (di_seq (de_frz 0)) (fun _ _ _ _ _ => (dg_name sc.nd rfl (by first | exact .inl rfl | exact .inr rfl))) (fun _ _ _ _ _ => (dpts_one (dw_pt (dw_or (dt_not (dt_tru (de_call F_law_whole takes_noW0 (room.mono k_law_whole) (da_cons (de_frz 3) (da_cons de_int da_nil))))) (dw_or1 (dw_pt (dw_and (dt_VE op_notN isnN_OpB (pv 2) de_non rfl) (dw_and1 (dt_VV op_gt (int_OpB _) (pv 3) (pv 2) rfl))))))))) (fun _ _ _ _ _ => (de_frz 3)))) de_int rfl)))))
/-! _law_wrong -/
abbrev s_law_wrong : Stmt := top 54
abbrev N_law_wrong : List Str := ["value", "wide", "key", "trays", "rows", "deed"]
theorem sc_law_wrong : FnScope N_law_wrong ["value", "wide"] (defScope s_law_wrong) := ⟨rfl, rfl, rfl, by decide +kernel, rfl, by decide +kernel, by decide +kernel⟩
def T_law_wrong (S_law_is_vector : SpD) (S_law_number : SpD) : TSD := (dsCons (dsIf (dOr (dNot (dTru (dIsiV "dict" 0))) (dOr (tt (dEE CEq neD (dUV CLen lenD 0) (dInt 3))) (tt (dEE CI gGt (dU CLen lenD (dLc (diSeq (dTup (dCons (dStr "trays") (dCons (dStr "deeds") (dCons (dStr "start") dNil))))) (gdName 2) (tt (dVV CIn notinD 2 0)) (dFrz 2) [2])) (dInt 0))))) (dsRet (dFz (dStr "net"))) dsNil) (dsCons (dsSet 3 (dIxV 0 (dStr "trays"))) (dsCons (dsIf (dNot (dTru (dCall S_law_number (dCons (dFrz 3) (dCons (dIf (dTruV 1) (dInt 0) (dInt 1)) (dCons (dIf (dTruV 1) (dInt 200) (dInt 8)) dNil)))))) (dsRet (dFz (dStr "trays"))) dsNil) (dsCons (dsSet 4 (dIxV 0 (dStr "deeds"))) (dsCons (dsIf (dOr (dNot (dTru (dIsiV "list" 4))) (dOr (tt (dEE CI gGt (dUV CLen lenD 4) (dInt 10))) (dAnd (tt (dEE CEq eqD (dUV CLen lenD 4) (dInt 0))) (dNot (dTruV 1))))) (dsRet (dFz (dStr "deeds"))) dsNil) (dsCons (dsFor (diSeq (dFrz 4)) (gdName 5) (dsCons (dsIf (dOr (dNot (dTru (dIsiV "tuple" 5))) (dOr (tt (dEE CEq neD (dUV CLen lenD 5) (dInt 3))) (dNot (dTru (dCall S_law_number (dCons (dIxV 5 (dInt 0)) (dCons (dInt 0) (dCons (dInt 9) dNil)))))))) (dsRet (dFz (dStr "deeds"))) dsNil) (dsIf (dOr (dNot (dTru (dCall S_law_is_vector (dCons (dIxV 5 (dInt 1)) (dCons (dFrz 3) (dCons (dIf (dTruV 1) dNon (dInt 3)) dNil)))))) (dNot (dTru (dCall S_law_is_vector (dCons (dIxV 5 (dInt 2)) (dCons (dFrz 3) (dCons (dIf (dTruV 1) dNon (dInt 3)) dNil))))))) (dsRet (dFz (dStr "deeds"))) dsNil))) (dsRet (dFz (dIf (dTru (dCall S_law_is_vector (dCons (dIxV 0 (dStr "start")) (dCons (dFrz 3) (dCons (dIf (dTruV 1) dNon (dInt 99)) dNil))))) dNon (dStr "start"))))))))))
theorem w_law_wrong {P : Program} {w : World} {K : PySem.W.Frag} {mg : Str → Option Value} {base : Heap} {k : Nat} (B : Bs mg) (C : Cs K mg) {S_law_is_vector : SpD} {klaw_is_vector : Nat} (F_law_is_vector : Cal P w K mg base "_law_is_vector" klaw_is_vector S_law_is_vector) (k_law_is_vector : klaw_is_vector ≤ k) {S_law_number : SpD} {klaw_number : Nat} (F_law_number : Cal P w K mg base "_law_number" klaw_number S_law_number) (k_law_number : klaw_number ≤ k) (f : Addr) (cdv : Value) (A : Around) (outer : List Env) (s : Shared) (H : Hp) (E : XK)
    (room : Room k (A.deeper (envOfC "_law_wrong" (defScope s_law_wrong) s.heap.objs.size f cdv))) :
    DSs (cxOf (L2N.CX P w) P w K mg base N_law_wrong "_law_wrong" (defScope s_law_wrong) f cdv A outer s H E) (fun cls d _ H => E cls d H) (defBody s_law_wrong) (T_law_wrong S_law_is_vector S_law_number) := by
  have sc := sc_law_wrong
  have hu : (cxOf (L2N.CX P w) P w K mg base N_law_wrong "_law_wrong" (defScope s_law_wrong) f cdv A outer s H E).A.units + 64 < cLine := room.units
  have hu5 : (cxOf (L2N.CX P w) P w K mg base N_law_wrong "_law_wrong" (defScope s_law_wrong) f cdv A outer s H E).A.units + 65 < cLine := by have := room.un; show (A.deeper _).units + 65 < _; omega
  have tk : L2N.Takes (cxOf (L2N.CX P w) P w K mg base N_law_wrong "_law_wrong" (defScope s_law_wrong) f cdv A outer s H E) (fun cls d _ H => E cls d H) := L2N.takes_of rfl rfl rfl rfl
  have hc : (cxOf (L2N.CX P w) P w K mg base N_law_wrong "_law_wrong" (defScope s_law_wrong) f cdv A outer s H E).calm = true := rfl
  have hp : PassesOwn (model P w) (cxOf (L2N.CX P w) P w K mg base N_law_wrong "_law_wrong" (defScope s_law_wrong) f cdv A outer s H E).A (cxOf (L2N.CX P w) P w K mg base N_law_wrong "_law_wrong" (defScope s_law_wrong) f cdv A outer s H E).env (cxOf (L2N.CX P w) P w K mg base N_law_wrong "_law_wrong" (defScope s_law_wrong) f cdv A outer s H E).xe := PassesOwn.leaving
  exact (dss_cons (ds_if (dw_pt (dw_or (dt_not (dt_tru (de_isiV isi_dict B.isinstance B.dict bt_dict (pv 0)))) (dw_or (dt_EE (opB_ne hu) ne_OpB (de_cBV call_lenA len_OpU lenD_flat rfl B.len bt_len (pv 0)) de_int rfl) (dw_or1 (dt_EE op_gt (int_OpB _) (de_cB call_lenA len_OpU lenD_flat rfl B.len bt_len (de_lc hc sc.nd (own := [("key", 2)]) (blkOk_by (by rfl)) (by simp) (di_seq (de_tup (da_cons de_str (da_cons de_str (da_cons de_str da_nil))))) (fun _ _ _ _ _ => (dg_name sc.nd rfl (by first | exact .inl rfl | exact .inr rfl))) (fun _ _ _ _ _ => (dpts_one (dt_VV (op_ninA hu5) nin_OpB (pv 2) (pv 0) rfl))) (fun _ _ _ _ _ => (de_frz 2)))) de_int rfl))))) (dss_one (ds_ret (de_fz de_str))) dss_nil)
  (dss_cons (ds_set (i := 3) sc.nd rfl (by first | exact .inl rfl | exact .inr rfl) (de_ixV hu (pv 0) de_str))
  (dss_cons (ds_if (dt_not (dt_tru (de_call F_law_number tk (room.mono k_law_number) (da_cons (de_frz 3) (da_cons (de_if (dt_truV (pv 1)) de_int de_int) (da_cons (de_if (dt_truV (pv 1)) de_int de_int) da_nil)))))) (dss_one (ds_ret (de_fz de_str))) dss_nil)
  (dss_cons (ds_set (i := 4) sc.nd rfl (by first | exact .inl rfl | exact .inr rfl) (de_ixV hu (pv 0) de_str))
  (dss_cons (ds_if (dw_pt (dw_or (dt_not (dt_tru (de_isiV isi_list B.isinstance B.list bt_list (pv 4)))) (dw_or (dt_EE op_gt (int_OpB _) (de_cBV call_lenA len_OpU lenD_flat rfl B.len bt_len (pv 4)) de_int rfl) (dw_or1 (dw_pt (dw_and (dt_EE (opB_eq hu) eq_OpB (de_cBV call_lenA len_OpU lenD_flat rfl B.len bt_len (pv 4)) de_int rfl) (dw_and1 (dt_not (dt_truV (pv 1)))))))))) (dss_one (ds_ret (de_fz de_str))) dss_nil)
  (dss_cons (ds_for hp hc (di_seq (de_frz 4)) (dg_name sc.nd rfl (by first | exact .inl rfl | exact .inr rfl)) (dss_cons (ds_if (dw_pt (dw_or (dt_not (dt_tru (de_isiV isi_tuple B.isinstance B.tuple bt_tuple (pv 5)))) (dw_or (dt_EE (opB_ne hu) ne_OpB (de_cBV call_lenA len_OpU lenD_flat rfl B.len bt_len (pv 5)) de_int rfl) (dw_or1 (dt_not (dt_tru (de_call F_law_number tk (room.mono k_law_number) (da_cons (de_ixV hu (pv 5) de_int) (da_cons de_int (da_cons de_int da_nil)))))))))) (dss_one (ds_ret (de_fz de_str))) dss_nil)
  (dss_one (ds_if (dw_pt (dw_or (dt_not (dt_tru (de_call F_law_is_vector tk (room.mono k_law_is_vector) (da_cons (de_ixV hu (pv 5) de_int) (da_cons (de_frz 3) (da_cons (de_if (dt_truV (pv 1)) de_non de_int) da_nil)))))) (dw_or1 (dt_not (dt_tru (de_call F_law_is_vector tk (room.mono k_law_is_vector) (da_cons (de_ixV hu (pv 5) de_int) (da_cons (de_frz 3) (da_cons (de_if (dt_truV (pv 1)) de_non de_int) da_nil))))))))) (dss_one (ds_ret (de_fz de_str))) dss_nil))))
  (dss_one (ds_ret (de_fz (de_if (dt_tru (de_call F_law_is_vector tk (room.mono k_law_is_vector) (da_cons (de_ixV hu (pv 0) de_str) (da_cons (de_frz 3) (da_cons (de_if (dt_truV (pv 1)) de_non de_int) da_nil))))) de_non de_str))))))))))
/-! _law_drawn -/
abbrev s_law_drawn : Stmt := top 55
abbrev N_law_drawn : List Str := ["stream", "trays", "rows", "p"]
theorem sc_law_drawn : FnScope N_law_drawn ["stream", "trays", "rows"] (defScope s_law_drawn) := ⟨rfl, rfl, rfl, by decide +kernel, rfl, by decide +kernel, by decide +kernel⟩
def T_law_drawn (S_law_pick : SpD) : TSD := (dsRet (dFz (dTupOf (dLc (diRange1 (dFrz 1)) (gdName 3) dYes (dCall S_law_pick (dCons (dFrz 0) (dCons (dFrz 2) dNil))) [3]))))
theorem w_law_drawn {P : Program} {w : World} {K : PySem.W.Frag} {mg : Str → Option Value} {base : Heap} {k : Nat} (B : Bs mg) (C : Cs K mg) {S_law_pick : SpD} {klaw_pick : Nat} (F_law_pick : Cal P w K mg base "_law_pick" klaw_pick S_law_pick) (k_law_pick : klaw_pick ≤ k) (f : Addr) (cdv : Value) (A : Around) (outer : List Env) (s : Shared) (H : Hp) (E : XK)
    (room : Room k (A.deeper (envOfC "_law_drawn" (defScope s_law_drawn) s.heap.objs.size f cdv))) :
    DSs (cxOf (L2N.CX P w) P w K mg base N_law_drawn "_law_drawn" (defScope s_law_drawn) f cdv A outer s H E) (fun cls d _ H => E cls d H) (defBody s_law_drawn) (T_law_drawn S_law_pick) := by
  have sc := sc_law_drawn
  have hu : (cxOf (L2N.CX P w) P w K mg base N_law_drawn "_law_drawn" (defScope s_law_drawn) f cdv A outer s H E).A.units + 64 < cLine := room.units
  have hu5 : (cxOf (L2N.CX P w) P w K mg base N_law_drawn "_law_drawn" (defScope s_law_drawn) f cdv A outer s H E).A.units + 65 < cLine := by have := room.un; show (A.deeper _).units + 65 < _; omega
  have tk : L2N.Takes (cxOf (L2N.CX P w) P w K mg base N_law_drawn "_law_drawn" (defScope s_law_drawn) f cdv A outer s H E) (fun cls d _ H => E cls d H) := L2N.takes_of rfl rfl rfl rfl
  have hc : (cxOf (L2N.CX P w) P w K mg base N_law_drawn "_law_drawn" (defScope s_law_drawn) f cdv A outer s H E).calm = true := rfl
  have hp : PassesOwn (model P w) (cxOf (L2N.CX P w) P w K mg base N_law_drawn "_law_drawn" (defScope s_law_drawn) f cdv A outer s H E).A (cxOf (L2N.CX P w) P w K mg base N_law_drawn "_law_drawn" (defScope s_law_drawn) f cdv A outer s H E).env (cxOf (L2N.CX P w) P w K mg base N_law_drawn "_law_drawn" (defScope s_law_drawn) f cdv A outer s H E).xe := PassesOwn.leaving
  exact (dss_one (ds_ret (de_fz (de_tupOf B.tuple (de_lc hc sc.nd (own := [("p", 3)]) (blkOk_by (by rfl)) (by simp) (di_range1 B.range (de_frz 1)) (fun _ _ _ _ _ => (dg_name sc.nd rfl (by first | exact .inl rfl | exact .inr rfl))) (fun _ _ _ _ _ => dpts_nil) (fun _ _ _ _ _ => (de_call F_law_pick takes_noW0 (room.mono k_law_pick) (da_cons (de_frz 0) (da_cons (de_frz 2) da_nil)))))))))
/-! _law_base -/
abbrev s_law_base : Stmt := top 56
abbrev N_law_base : List Str := ["stream", "trays", "many", "rows", "fill", "deeds", "d"]
theorem sc_law_base : FnScope N_law_base ["stream"] (defScope s_law_base) := ⟨rfl, rfl, rfl, by decide +kernel, rfl, by decide +kernel, by decide +kernel⟩
def T_law_base (S_law_drawn : SpD) (S_law_next : SpD) (S_law_pick : SpD) (S_law_from : SpD) : TSD := (dsCons (dsIf (tt (dEE CI gGt (dCall S_law_next (dCons (dFrz 0) (dCons (dInt 3) dNil))) (dInt 0))) (dsCons (dsSet 1 (dCall S_law_pick (dCons (dFrz 0) (dCons (dTup (dCons (dInt 1) (dCons (dInt 8) (dCons (dCall S_law_from (dCons (dFrz 0) (dCons (dInt 1) (dCons (dInt 8) dNil)))) dNil)))) dNil)))) (dsCons (dsSet 2 (dCall S_law_pick (dCons (dFrz 0) (dCons (dTup (dCons (dInt 1) (dCons (dInt 10) (dCons (dCall S_law_from (dCons (dFrz 0) (dCons (dInt 1) (dCons (dInt 10) dNil)))) dNil)))) dNil)))) (dsCons (dsSet 3 (dTup (dCons (dInt 0) (dCons (dInt 1) (dCons (dInt 3) (dCons (dCall S_law_next (dCons (dFrz 0) (dCons (dInt 4) dNil))) dNil)))))) (dsSet 4 (dTup (dCons (dInt 0) (dCons (dInt 99) (dCons (dCall S_law_next (dCons (dFrz 0) (dCons (dInt 100) dNil))) dNil)))))))) (dsCons (dsSet 1 (dCall S_law_pick (dCons (dFrz 0) (dCons (dTup (dCons (dInt 0) (dCons (dInt 8) (dCons (dInt 9) (dCons (dCall S_law_next (dCons (dFrz 0) (dCons (dInt 12) dNil))) (dCons (dInt 200) dNil)))))) dNil)))) (dsCons (dsSet 2 (dIf (tt (dVE CI gGt 1 (dInt 20))) (dCall S_law_pick (dCons (dFrz 0) (dCons (dTup (dCons (dInt 0) (dCons (dInt 1) (dCons (dInt 2) dNil)))) dNil))) (dCall S_law_pick (dCons (dFrz 0) (dCons (dTup (dCons (dInt 0) (dCons (dInt 10) (dCons (dCall S_law_next (dCons (dFrz 0) (dCons (dInt 11) dNil))) dNil)))) dNil))))) (dsCons (dsSet 3 (dTup (dCons (dInt 0) (dCons (dInt 1) (dCons (dInt 4) (dCons (dInt 1000001) (dCons (dAdd (dPow (dInt 10) (dInt 59)) (dCall S_law_next (dCons (dFrz 0) (dCons (dInt 1000) dNil)))) dNil))))))) (dsSet 4 (dTup (dCons (dInt 0) (dCons (dInt 100) (dCons (dAdd (dPow (dInt 10) (dInt 59)) (dCall S_law_next (dCons (dFrz 0) (dCons (dInt 1000) dNil)))) dNil))))))))) (dsCons (dsSet 5 (dLc (diRange1 (dFrz 2)) (gdName 6) dYes (dTup (dCons (dCall S_law_pick (dCons (dFrz 0) (dCons (dTup (dCons (dInt 0) (dCons (dInt 9) (dCons (dCall S_law_next (dCons (dFrz 0) (dCons (dInt 10) dNil))) dNil)))) dNil))) (dCons (dCall S_law_drawn (dCons (dFrz 0) (dCons (dFrz 1) (dCons (dFrz 3) dNil)))) (dCons (dCall S_law_drawn (dCons (dFrz 0) (dCons (dFrz 1) (dCons (dFrz 3) dNil)))) dNil)))) [6])) (dsRet (dFz (dDict [("trays", (dFrz 1)), ("deeds", (dFrz 5)), ("start", (dCall S_law_drawn (dCons (dFrz 0) (dCons (dFrz 1) (dCons (dFrz 4) dNil)))))])))))
theorem w_law_base {P : Program} {w : World} {K : PySem.W.Frag} {mg : Str → Option Value} {base : Heap} {k : Nat} (B : Bs mg) (C : Cs K mg) {S_law_drawn : SpD} {klaw_drawn : Nat} (F_law_drawn : Cal P w K mg base "_law_drawn" klaw_drawn S_law_drawn) (k_law_drawn : klaw_drawn ≤ k) {S_law_next : SpD} {klaw_next : Nat} (F_law_next : Cal P w K mg base "_law_next" klaw_next S_law_next) (k_law_next : klaw_next ≤ k) {S_law_pick : SpD} {klaw_pick : Nat} (F_law_pick : Cal P w K mg base "_law_pick" klaw_pick S_law_pick) (k_law_pick : klaw_pick ≤ k) {S_law_from : SpD} {klaw_from : Nat} (F_law_from : Cal P w K mg base "_law_from" klaw_from S_law_from) (k_law_from : klaw_from ≤ k) (f : Addr) (cdv : Value) (A : Around) (outer : List Env) (s : Shared) (H : Hp) (E : XK)
    (room : Room k (A.deeper (envOfC "_law_base" (defScope s_law_base) s.heap.objs.size f cdv))) :
    DSs (cxOf (L2N.CX P w) P w K mg base N_law_base "_law_base" (defScope s_law_base) f cdv A outer s H E) (fun cls d _ H => E cls d H) (defBody s_law_base) (T_law_base S_law_drawn S_law_next S_law_pick S_law_from) := by
  have sc := sc_law_base
  have hu : (cxOf (L2N.CX P w) P w K mg base N_law_base "_law_base" (defScope s_law_base) f cdv A outer s H E).A.units + 64 < cLine := room.units
  have hu5 : (cxOf (L2N.CX P w) P w K mg base N_law_base "_law_base" (defScope s_law_base) f cdv A outer s H E).A.units + 65 < cLine := by have := room.un; show (A.deeper _).units + 65 < _; omega
  have tk : L2N.Takes (cxOf (L2N.CX P w) P w K mg base N_law_base "_law_base" (defScope s_law_base) f cdv A outer s H E) (fun cls d _ H => E cls d H) := L2N.takes_of rfl rfl rfl rfl
  have hc : (cxOf (L2N.CX P w) P w K mg base N_law_base "_law_base" (defScope s_law_base) f cdv A outer s H E).calm = true := rfl
  have hp : PassesOwn (model P w) (cxOf (L2N.CX P w) P w K mg base N_law_base "_law_base" (defScope s_law_base) f cdv A outer s H E).A (cxOf (L2N.CX P w) P w K mg base N_law_base "_law_base" (defScope s_law_base) f cdv A outer s H E).env (cxOf (L2N.CX P w) P w K mg base N_law_base "_law_base" (defScope s_law_base) f cdv A outer s H E).xe := PassesOwn.leaving
  exact (dss_cons (ds_if (dt_EE op_gt (int_OpB _) (de_call F_law_next tk (room.mono k_law_next) (da_cons (de_frz 0) (da_cons de_int da_nil))) de_int rfl) (dss_cons (ds_set (i := 1) sc.nd rfl (by first | exact .inl rfl | exact .inr rfl) (de_call F_law_pick tk (room.mono k_law_pick) (da_cons (de_frz 0) (da_cons (de_tup (da_cons de_int (da_cons de_int (da_cons (de_call F_law_from tk (room.mono k_law_from) (da_cons (de_frz 0) (da_cons de_int (da_cons de_int da_nil)))) da_nil)))) da_nil))))
  (dss_cons (ds_set (i := 2) sc.nd rfl (by first | exact .inl rfl | exact .inr rfl) (de_call F_law_pick tk (room.mono k_law_pick) (da_cons (de_frz 0) (da_cons (de_tup (da_cons de_int (da_cons de_int (da_cons (de_call F_law_from tk (room.mono k_law_from) (da_cons (de_frz 0) (da_cons de_int (da_cons de_int da_nil)))) da_nil)))) da_nil))))
  (dss_cons (ds_set (i := 3) sc.nd rfl (by first | exact .inl rfl | exact .inr rfl) (de_tup (da_cons de_int (da_cons de_int (da_cons de_int (da_cons (de_call F_law_next tk (room.mono k_law_next) (da_cons (de_frz 0) (da_cons de_int da_nil))) da_nil))))))
  (dss_one (ds_set (i := 4) sc.nd rfl (by first | exact .inl rfl | exact .inr rfl) (de_tup (da_cons de_int (da_cons de_int (da_cons (de_call F_law_next tk (room.mono k_law_next) (da_cons (de_frz 0) (da_cons de_int da_nil))) da_nil))))))))) (dss_cons (ds_set (i := 1) sc.nd rfl (by first | exact .inl rfl | exact .inr rfl) (de_call F_law_pick tk (room.mono k_law_pick) (da_cons (de_frz 0) (da_cons (de_tup (da_cons de_int (da_cons de_int (da_cons de_int (da_cons (de_call F_law_next tk (room.mono k_law_next) (da_cons (de_frz 0) (da_cons de_int da_nil))) (da_cons de_int da_nil)))))) da_nil))))
  (dss_cons (ds_set (i := 2) sc.nd rfl (by first | exact .inl rfl | exact .inr rfl) (de_if (dt_VE op_gt (int_OpB _) (pv 1) de_int rfl) (de_call F_law_pick tk (room.mono k_law_pick) (da_cons (de_frz 0) (da_cons (de_tup (da_cons de_int (da_cons de_int (da_cons de_int da_nil)))) da_nil))) (de_call F_law_pick tk (room.mono k_law_pick) (da_cons (de_frz 0) (da_cons (de_tup (da_cons de_int (da_cons de_int (da_cons (de_call F_law_next tk (room.mono k_law_next) (da_cons (de_frz 0) (da_cons de_int da_nil))) da_nil)))) da_nil)))))
  (dss_cons (ds_set (i := 3) sc.nd rfl (by first | exact .inl rfl | exact .inr rfl) (de_tup (da_cons de_int (da_cons de_int (da_cons de_int (da_cons de_int (da_cons (de_add (de_pow de_int de_int) (de_call F_law_next tk (room.mono k_law_next) (da_cons (de_frz 0) (da_cons de_int da_nil)))) da_nil)))))))
  (dss_one (ds_set (i := 4) sc.nd rfl (by first | exact .inl rfl | exact .inr rfl) (de_tup (da_cons de_int (da_cons de_int (da_cons (de_add (de_pow de_int de_int) (de_call F_law_next tk (room.mono k_law_next) (da_cons (de_frz 0) (da_cons de_int da_nil)))) da_nil))))))))))
  (dss_cons (ds_setLc hc sc.nd (i := 5) rfl rfl (own := [("d", 6)]) (blkOk_by (by rfl)) (by simp) (di_range1 B.range (de_frz 2)) (fun _ _ _ _ _ => (dg_name sc.nd rfl (by first | exact .inl rfl | exact .inr rfl))) (fun _ _ _ _ _ => dpts_nil) (fun _ _ _ _ _ => (de_tup (da_cons (de_call F_law_pick takes_noW0 (room.mono k_law_pick) (da_cons (de_frz 0) (da_cons (de_tup (da_cons de_int (da_cons de_int (da_cons (de_call F_law_next takes_noW0 (room.mono k_law_next) (da_cons (de_frz 0) (da_cons de_int da_nil))) da_nil)))) da_nil))) (da_cons (de_call F_law_drawn takes_noW0 (room.mono k_law_drawn) (da_cons (de_frz 0) (da_cons (de_frz 1) (da_cons (de_frz 3) da_nil)))) (da_cons (de_call F_law_drawn takes_noW0 (room.mono k_law_drawn) (da_cons (de_frz 0) (da_cons (de_frz 1) (da_cons (de_frz 3) da_nil)))) da_nil))))))
  (dss_one (ds_ret (de_fz (de_dict (l := [("trays", (dFrz 1)), ("deeds", (dFrz 5)), ("start", (dCall S_law_drawn (dCons (dFrz 0) (dCons (dFrz 1) (dCons (dFrz 4) dNil)))))]) (pps_cons pe_str (de_frz 1) (pps_cons pe_str (de_frz 5) (pps_cons pe_str (de_call F_law_drawn tk (room.mono k_law_drawn) (da_cons (de_frz 0) (da_cons (de_frz 1) (da_cons (de_frz 4) da_nil)))) pps_nil))) (show List.Nodup (["trays", "deeds", "start"] : List Str) by decide) (show 3 ≤ 15 by decide) rfl rfl (by simp) (show 3 ≤ 15 by decide)))))))
/-! _law_with -/
abbrev s_law_with : Stmt := top 57
abbrev N_law_with : List Str := ["value", "key", "part", "found", "name"]
theorem sc_law_with : FnScope N_law_with ["value", "key", "part"] (defScope s_law_with) := ⟨rfl, rfl, rfl, by decide +kernel, rfl, by decide +kernel, by decide +kernel⟩
def T_law_with : TSD := (dsCons (dsSet 3 dDict0) (dsCons (dsForK 0 (gdName 4) (dsAsg (dIxV 0 (dFrz 4)) (gdSt 3 (dFrz 4)))) (dsCons (dsAsg (dFrz 2) (gdSt 3 (dFrz 1))) (dsRet (dFz (dFrz 3))))))
theorem w_law_with {P : Program} {w : World} {K : PySem.W.Frag} {mg : Str → Option Value} {base : Heap} {k : Nat} (B : Bs mg) (C : Cs K mg) (f : Addr) (cdv : Value) (A : Around) (outer : List Env) (s : Shared) (H : Hp) (E : XK)
    (room : Room k (A.deeper (envOfC "_law_with" (defScope s_law_with) s.heap.objs.size f cdv))) :
    DSs (cxOf (L2N.CX P w) P w K mg base N_law_with "_law_with" (defScope s_law_with) f cdv A outer s H E) (fun cls d _ H => E cls d H) (defBody s_law_with) (T_law_with) := by
  have sc := sc_law_with
  have hu : (cxOf (L2N.CX P w) P w K mg base N_law_with "_law_with" (defScope s_law_with) f cdv A outer s H E).A.units + 64 < cLine := room.units
  have hu5 : (cxOf (L2N.CX P w) P w K mg base N_law_with "_law_with" (defScope s_law_with) f cdv A outer s H E).A.units + 65 < cLine := by have := room.un; show (A.deeper _).units + 65 < _; omega
  have tk : L2N.Takes (cxOf (L2N.CX P w) P w K mg base N_law_with "_law_with" (defScope s_law_with) f cdv A outer s H E) (fun cls d _ H => E cls d H) := L2N.takes_of rfl rfl rfl rfl
  have hc : (cxOf (L2N.CX P w) P w K mg base N_law_with "_law_with" (defScope s_law_with) f cdv A outer s H E).calm = true := rfl
  have hp : PassesOwn (model P w) (cxOf (L2N.CX P w) P w K mg base N_law_with "_law_with" (defScope s_law_with) f cdv A outer s H E).A (cxOf (L2N.CX P w) P w K mg base N_law_with "_law_with" (defScope s_law_with) f cdv A outer s H E).env (cxOf (L2N.CX P w) P w K mg base N_law_with "_law_with" (defScope s_law_with) f cdv A outer s H E).xe := PassesOwn.leaving
  exact (dss_cons (ds_set (i := 3) sc.nd rfl (by first | exact .inl rfl | exact .inr rfl) de_dict0)
  (dss_cons (ds_forK hp hc (pv 0) (dg_name sc.nd rfl (by first | exact .inl rfl | exact .inr rfl)) (dss_one (ds_asg (de_ixV hu (pv 0) (de_frz 4)) (dg_st hu (pv 3) (de_frz 4)))))
  (dss_cons (ds_asg (de_frz 2) (dg_st hu (pv 3) (de_frz 1)))
  (dss_one (ds_ret (de_fz (de_frz 3)))))))
/-! _law_without -/
abbrev s_law_without : Stmt := top 58
abbrev N_law_without : List Str := ["value", "key", "found", "name"]
theorem sc_law_without : FnScope N_law_without ["value", "key"] (defScope s_law_without) := ⟨rfl, rfl, rfl, by decide +kernel, rfl, by decide +kernel, by decide +kernel⟩
def T_law_without : TSD := (dsCons (dsSet 2 dDict0) (dsCons (dsForK 0 (gdName 3) (dsIf (tt (dVV CEq neD 3 1)) (dsAsg (dIxV 0 (dFrz 3)) (gdSt 2 (dFrz 3))) dsNil)) (dsRet (dFz (dFrz 2)))))
theorem w_law_without {P : Program} {w : World} {K : PySem.W.Frag} {mg : Str → Option Value} {base : Heap} {k : Nat} (B : Bs mg) (C : Cs K mg) (f : Addr) (cdv : Value) (A : Around) (outer : List Env) (s : Shared) (H : Hp) (E : XK)
    (room : Room k (A.deeper (envOfC "_law_without" (defScope s_law_without) s.heap.objs.size f cdv))) :
    DSs (cxOf (L2N.CX P w) P w K mg base N_law_without "_law_without" (defScope s_law_without) f cdv A outer s H E) (fun cls d _ H => E cls d H) (defBody s_law_without) (T_law_without) := by
  have sc := sc_law_without
  have hu : (cxOf (L2N.CX P w) P w K mg base N_law_without "_law_without" (defScope s_law_without) f cdv A outer s H E).A.units + 64 < cLine := room.units
  have hu5 : (cxOf (L2N.CX P w) P w K mg base N_law_without "_law_without" (defScope s_law_without) f cdv A outer s H E).A.units + 65 < cLine := by have := room.un; show (A.deeper _).units + 65 < _; omega
  have tk : L2N.Takes (cxOf (L2N.CX P w) P w K mg base N_law_without "_law_without" (defScope s_law_without) f cdv A outer s H E) (fun cls d _ H => E cls d H) := L2N.takes_of rfl rfl rfl rfl
  have hc : (cxOf (L2N.CX P w) P w K mg base N_law_without "_law_without" (defScope s_law_without) f cdv A outer s H E).calm = true := rfl
  have hp : PassesOwn (model P w) (cxOf (L2N.CX P w) P w K mg base N_law_without "_law_without" (defScope s_law_without) f cdv A outer s H E).A (cxOf (L2N.CX P w) P w K mg base N_law_without "_law_without" (defScope s_law_without) f cdv A outer s H E).env (cxOf (L2N.CX P w) P w K mg base N_law_without "_law_without" (defScope s_law_without) f cdv A outer s H E).xe := PassesOwn.leaving
  exact (dss_cons (ds_set (i := 2) sc.nd rfl (by first | exact .inl rfl | exact .inr rfl) de_dict0)
  (dss_cons (ds_forK hp hc (pv 0) (dg_name sc.nd rfl (by first | exact .inl rfl | exact .inr rfl)) (dss_one (ds_if (dt_VV (opB_ne hu) ne_OpB (pv 3) (pv 1) rfl) (dss_one (ds_asg (de_ixV hu (pv 0) (de_frz 3)) (dg_st hu (pv 2) (de_frz 3)))) dss_nil)))
  (dss_one (ds_ret (de_fz (de_frz 2))))))
/-! _law_bent_vector -/
abbrev s_law_bent_vector : Stmt := top 59
abbrev N_law_bent_vector : List Str := ["stream", "row", "high", "at", "odd", "p"]
theorem sc_law_bent_vector : FnScope N_law_bent_vector ["stream", "row", "high"] (defScope s_law_bent_vector) := ⟨rfl, rfl, rfl, by decide +kernel, rfl, by decide +kernel, by decide +kernel⟩
def T_law_bent_vector (S_law_pick : SpD) (S_law_next : SpD) : TSD := (dsCons (dsIf (dNot (dTru (dIsiV "tuple" 1))) (dsRet (dFz (dTup dNil))) dsNil) (dsCons (dsSet 3 (dCall S_law_next (dCons (dFrz 0) (dCons (dMax2 (dUV CLen lenD 1) (dInt 1)) dNil)))) (dsCons (dsIf (dAnd (tt (dEE CI gGt (dUV CLen lenD 1) (dInt 0))) (tt (dEE CI gGt (dCall S_law_next (dCons (dFrz 0) (dCons (dInt 4) dNil))) (dInt 0)))) (dsCons (dsSet 4 (dCall S_law_pick (dCons (dFrz 0) (dCons (dTup (dCons (dNeg (dInt 1)) (dCons (dAdd (dFrz 2) (dInt 1)) (dCons (dFrz 2) (dCons (dBl true) (dCons (dBl false) (dCons dNon (dCons (dStr "1") (dCons (dTup (dCons (dInt 1) dNil)) (dCons (dPow (dInt 10) (dInt 30)) dNil)))))))))) dNil)))) (dsRet (dFz (dTupOf (dLc (diRange1 (dUV CLen lenD 1)) (gdName 5) dYes (dIf (tt (dVV CEq eqD 5 3)) (dFrz 4) (dIxV 1 (dFrz 5))) [5]))))) dsNil) (dsRet (dFz (dCall S_law_pick (dCons (dFrz 0) (dCons (dLst (dCons (dLstOf (dFrz 1)) (dCons (dAdd (dFrz 1) (dTup (dCons (dInt 0) dNil))) (dCons (dSl (dFrz 1) (dPs (dInt 1)) dPn) (dCons dNon (dCons (dInt 0) dNil)))))) dNil))))))))
theorem w_law_bent_vector {P : Program} {w : World} {K : PySem.W.Frag} {mg : Str → Option Value} {base : Heap} {k : Nat} (B : Bs mg) (C : Cs K mg) {S_law_pick : SpD} {klaw_pick : Nat} (F_law_pick : Cal P w K mg base "_law_pick" klaw_pick S_law_pick) (k_law_pick : klaw_pick ≤ k) {S_law_next : SpD} {klaw_next : Nat} (F_law_next : Cal P w K mg base "_law_next" klaw_next S_law_next) (k_law_next : klaw_next ≤ k) (f : Addr) (cdv : Value) (A : Around) (outer : List Env) (s : Shared) (H : Hp) (E : XK)
    (room : Room k (A.deeper (envOfC "_law_bent_vector" (defScope s_law_bent_vector) s.heap.objs.size f cdv))) :
    DSs (cxOf (L2N.CX P w) P w K mg base N_law_bent_vector "_law_bent_vector" (defScope s_law_bent_vector) f cdv A outer s H E) (fun cls d _ H => E cls d H) (defBody s_law_bent_vector) (T_law_bent_vector S_law_pick S_law_next) := by
  have sc := sc_law_bent_vector
  have hu : (cxOf (L2N.CX P w) P w K mg base N_law_bent_vector "_law_bent_vector" (defScope s_law_bent_vector) f cdv A outer s H E).A.units + 64 < cLine := room.units
  have hu5 : (cxOf (L2N.CX P w) P w K mg base N_law_bent_vector "_law_bent_vector" (defScope s_law_bent_vector) f cdv A outer s H E).A.units + 65 < cLine := by have := room.un; show (A.deeper _).units + 65 < _; omega
  have tk : L2N.Takes (cxOf (L2N.CX P w) P w K mg base N_law_bent_vector "_law_bent_vector" (defScope s_law_bent_vector) f cdv A outer s H E) (fun cls d _ H => E cls d H) := L2N.takes_of rfl rfl rfl rfl
  have hc : (cxOf (L2N.CX P w) P w K mg base N_law_bent_vector "_law_bent_vector" (defScope s_law_bent_vector) f cdv A outer s H E).calm = true := rfl
  have hp : PassesOwn (model P w) (cxOf (L2N.CX P w) P w K mg base N_law_bent_vector "_law_bent_vector" (defScope s_law_bent_vector) f cdv A outer s H E).A (cxOf (L2N.CX P w) P w K mg base N_law_bent_vector "_law_bent_vector" (defScope s_law_bent_vector) f cdv A outer s H E).env (cxOf (L2N.CX P w) P w K mg base N_law_bent_vector "_law_bent_vector" (defScope s_law_bent_vector) f cdv A outer s H E).xe := PassesOwn.leaving
  exact (dss_cons (ds_if (dt_not (dt_tru (de_isiV isi_tuple B.isinstance B.tuple bt_tuple (pv 1)))) (dss_one (ds_ret (de_fz (de_tup da_nil)))) dss_nil)
  (dss_cons (ds_set (i := 3) sc.nd rfl (by first | exact .inl rfl | exact .inr rfl) (de_call F_law_next tk (room.mono k_law_next) (da_cons (de_frz 0) (da_cons (de_max2 hc B.max (de_cBV call_lenA len_OpU lenD_flat rfl B.len bt_len (pv 1)) de_int) da_nil))))
  (dss_cons (ds_if (dw_pt (dw_and (dt_EE op_gt (int_OpB _) (de_cBV call_lenA len_OpU lenD_flat rfl B.len bt_len (pv 1)) de_int rfl) (dw_and1 (dt_EE op_gt (int_OpB _) (de_call F_law_next tk (room.mono k_law_next) (da_cons (de_frz 0) (da_cons de_int da_nil))) de_int rfl)))) (dss_cons (ds_set (i := 4) sc.nd rfl (by first | exact .inl rfl | exact .inr rfl) (de_call F_law_pick tk (room.mono k_law_pick) (da_cons (de_frz 0) (da_cons (de_tup (da_cons (de_neg de_int) (da_cons (de_add (de_frz 2) de_int) (da_cons (de_frz 2) (da_cons de_bl (da_cons de_bl (da_cons de_non (da_cons de_str (da_cons (de_tup (da_cons de_int da_nil)) (da_cons (de_pow de_int de_int) da_nil)))))))))) da_nil))))
  (dss_one (ds_ret (de_fz (de_tupOf B.tuple (de_lc hc sc.nd (own := [("p", 5)]) (blkOk_by (by rfl)) (by simp) (di_range1 B.range (de_cBV call_lenA len_OpU lenD_flat rfl B.len bt_len (pv 1))) (fun _ _ _ _ _ => (dg_name sc.nd rfl (by first | exact .inl rfl | exact .inr rfl))) (fun _ _ _ _ _ => dpts_nil) (fun _ _ _ _ _ => (de_if (dt_VV (opB_eq hu) eq_OpB (pv 5) (pv 3) rfl) (de_frz 4) (de_ixV hu (pv 1) (de_frz 5)))))))))) dss_nil)
  (dss_one (ds_ret (de_fz (de_call F_law_pick tk (room.mono k_law_pick) (da_cons (de_frz 0) (da_cons (de_lst (da_cons (de_listOf B.list (de_frz 1)) (da_cons (de_add (de_frz 1) (de_tup (da_cons de_int da_nil))) (da_cons (de_sl (de_frz 1) (do_some de_int) do_none) (da_cons de_non (da_cons de_int da_nil)))))) da_nil)))))))))
/-! _law_bent_deed -/
abbrev s_law_bent_deed : Stmt := top 60
abbrev N_law_bent_deed : List Str := ["stream", "deed", "kind"]
theorem sc_law_bent_deed : FnScope N_law_bent_deed ["stream", "deed"] (defScope s_law_bent_deed) := ⟨rfl, rfl, rfl, by decide +kernel, rfl, by decide +kernel, by decide +kernel⟩
def T_law_bent_deed (S_law_bent_vector : SpD) (S_law_pick : SpD) (S_law_next : SpD) : TSD := (dsCons (dsIf (dOr (dNot (dTru (dIsiV "tuple" 1))) (tt (dEE CEq neD (dUV CLen lenD 1) (dInt 3)))) (dsRet (dFz (dTup (dCons (dInt 0) (dCons (dTup dNil) (dCons (dTup dNil) dNil)))))) dsNil) (dsCons (dsSet 2 (dCall S_law_next (dCons (dFrz 0) (dCons (dInt 6) dNil)))) (dsCons (dsIf (tt (dVE CI gLt 2 (dInt 2))) (dsRet (dFz (dTup (dCons (dCall S_law_pick (dCons (dFrz 0) (dCons (dTup (dCons (dNeg (dInt 1)) (dCons (dInt 10) (dCons (dBl true) (dCons dNon (dCons (dStr "0") (dCons (dInt 9) (dCons (dTup (dCons (dInt 0) dNil)) dNil)))))))) dNil))) (dCons (dIxV 1 (dInt 1)) (dCons (dIxV 1 (dInt 2)) dNil)))))) dsNil) (dsCons (dsIf (tt (dVE CEq eqD 2 (dInt 2))) (dsRet (dFz (dCall S_law_pick (dCons (dFrz 0) (dCons (dLst (dCons (dLstOf (dFrz 1)) (dCons (dAdd (dFrz 1) (dTup (dCons (dInt 0) dNil))) (dCons (dSl (dFrz 1) dPn (dPs (dInt 2))) (dCons dNon (dCons dDict0 dNil)))))) dNil))))) dsNil) (dsCons (dsIf (tt (dVE CI gLt 2 (dInt 5))) (dsRet (dFz (dTup (dCons (dIxV 1 (dInt 0)) (dCons (dCall S_law_bent_vector (dCons (dFrz 0) (dCons (dIxV 1 (dInt 1)) (dCons (dInt 3) dNil)))) (dCons (dIxV 1 (dInt 2)) dNil)))))) dsNil) (dsRet (dFz (dTup (dCons (dIxV 1 (dInt 0)) (dCons (dIxV 1 (dInt 1)) (dCons (dCall S_law_bent_vector (dCons (dFrz 0) (dCons (dIxV 1 (dInt 2)) (dCons (dInt 3) dNil)))) dNil)))))))))))
theorem w_law_bent_deed {P : Program} {w : World} {K : PySem.W.Frag} {mg : Str → Option Value} {base : Heap} {k : Nat} (B : Bs mg) (C : Cs K mg) {S_law_bent_vector : SpD} {klaw_bent_vector : Nat} (F_law_bent_vector : Cal P w K mg base "_law_bent_vector" klaw_bent_vector S_law_bent_vector) (k_law_bent_vector : klaw_bent_vector ≤ k) {S_law_pick : SpD} {klaw_pick : Nat} (F_law_pick : Cal P w K mg base "_law_pick" klaw_pick S_law_pick) (k_law_pick : klaw_pick ≤ k) {S_law_next : SpD} {klaw_next : Nat} (F_law_next : Cal P w K mg base "_law_next" klaw_next S_law_next) (k_law_next : klaw_next ≤ k) (f : Addr) (cdv : Value) (A : Around) (outer : List Env) (s : Shared) (H : Hp) (E : XK)
    (room : Room k (A.deeper (envOfC "_law_bent_deed" (defScope s_law_bent_deed) s.heap.objs.size f cdv))) :
    DSs (cxOf (L2N.CX P w) P w K mg base N_law_bent_deed "_law_bent_deed" (defScope s_law_bent_deed) f cdv A outer s H E) (fun cls d _ H => E cls d H) (defBody s_law_bent_deed) (T_law_bent_deed S_law_bent_vector S_law_pick S_law_next) := by
  have sc := sc_law_bent_deed
  have hu : (cxOf (L2N.CX P w) P w K mg base N_law_bent_deed "_law_bent_deed" (defScope s_law_bent_deed) f cdv A outer s H E).A.units + 64 < cLine := room.units
  have hu5 : (cxOf (L2N.CX P w) P w K mg base N_law_bent_deed "_law_bent_deed" (defScope s_law_bent_deed) f cdv A outer s H E).A.units + 65 < cLine := by have := room.un; show (A.deeper _).units + 65 < _; omega
  have tk : L2N.Takes (cxOf (L2N.CX P w) P w K mg base N_law_bent_deed "_law_bent_deed" (defScope s_law_bent_deed) f cdv A outer s H E) (fun cls d _ H => E cls d H) := L2N.takes_of rfl rfl rfl rfl
  have hc : (cxOf (L2N.CX P w) P w K mg base N_law_bent_deed "_law_bent_deed" (defScope s_law_bent_deed) f cdv A outer s H E).calm = true := rfl
  have hp : PassesOwn (model P w) (cxOf (L2N.CX P w) P w K mg base N_law_bent_deed "_law_bent_deed" (defScope s_law_bent_deed) f cdv A outer s H E).A (cxOf (L2N.CX P w) P w K mg base N_law_bent_deed "_law_bent_deed" (defScope s_law_bent_deed) f cdv A outer s H E).env (cxOf (L2N.CX P w) P w K mg base N_law_bent_deed "_law_bent_deed" (defScope s_law_bent_deed) f cdv A outer s H E).xe := PassesOwn.leaving
  exact (dss_cons (ds_if (dw_pt (dw_or (dt_not (dt_tru (de_isiV isi_tuple B.isinstance B.tuple bt_tuple (pv 1)))) (dw_or1 (dt_EE (opB_ne hu) ne_OpB (de_cBV call_lenA len_OpU lenD_flat rfl B.len bt_len (pv 1)) de_int rfl)))) (dss_one (ds_ret (de_fz (de_tup (da_cons de_int (da_cons (de_tup da_nil) (da_cons (de_tup da_nil) da_nil))))))) dss_nil)
  (dss_cons (ds_set (i := 2) sc.nd rfl (by first | exact .inl rfl | exact .inr rfl) (de_call F_law_next tk (room.mono k_law_next) (da_cons (de_frz 0) (da_cons de_int da_nil))))
  (dss_cons (ds_if (dt_VE op_lt (int_OpB _) (pv 2) de_int rfl) (dss_one (ds_ret (de_fz (de_tup (da_cons (de_call F_law_pick tk (room.mono k_law_pick) (da_cons (de_frz 0) (da_cons (de_tup (da_cons (de_neg de_int) (da_cons de_int (da_cons de_bl (da_cons de_non (da_cons de_str (da_cons de_int (da_cons (de_tup (da_cons de_int da_nil)) da_nil)))))))) da_nil))) (da_cons (de_ixV hu (pv 1) de_int) (da_cons (de_ixV hu (pv 1) de_int) da_nil))))))) dss_nil)
  (dss_cons (ds_if (dt_VE (opB_eq hu) eq_OpB (pv 2) de_int rfl) (dss_one (ds_ret (de_fz (de_call F_law_pick tk (room.mono k_law_pick) (da_cons (de_frz 0) (da_cons (de_lst (da_cons (de_listOf B.list (de_frz 1)) (da_cons (de_add (de_frz 1) (de_tup (da_cons de_int da_nil))) (da_cons (de_sl (de_frz 1) do_none (do_some de_int)) (da_cons de_non (da_cons de_dict0 da_nil)))))) da_nil)))))) dss_nil)
  (dss_cons (ds_if (dt_VE op_lt (int_OpB _) (pv 2) de_int rfl) (dss_one (ds_ret (de_fz (de_tup (da_cons (de_ixV hu (pv 1) de_int) (da_cons (de_call F_law_bent_vector tk (room.mono k_law_bent_vector) (da_cons (de_frz 0) (da_cons (de_ixV hu (pv 1) de_int) (da_cons de_int da_nil)))) (da_cons (de_ixV hu (pv 1) de_int) da_nil))))))) dss_nil)
  (dss_one (ds_ret (de_fz (de_tup (da_cons (de_ixV hu (pv 1) de_int) (da_cons (de_ixV hu (pv 1) de_int) (da_cons (de_call F_law_bent_vector tk (room.mono k_law_bent_vector) (da_cons (de_frz 0) (da_cons (de_ixV hu (pv 1) de_int) (da_cons de_int da_nil)))) da_nil))))))))))))
/-! _law_bent -/
abbrev s_law_bent : Stmt := top 61
abbrev N_law_bent : List Str := ["stream", "value", "key", "kind", "rows", "extra", "at"]
theorem sc_law_bent : FnScope N_law_bent ["stream", "value"] (defScope s_law_bent) := ⟨rfl, rfl, rfl, by decide +kernel, rfl, by decide +kernel, by decide +kernel⟩
def T_law_bent (S_law_bent_vector : SpD) (S_law_with : SpD) (S_law_bent_deed : SpD) (S_law_next : SpD) (S_law_pick : SpD) (S_law_without : SpD) : TSD := (dsCons (dsIf (dOr (dNot (dTru (dIsiV "dict" 1))) (tt (dEE CI gGt (dU CLen lenD (dLc (diSeq (dTup (dCons (dStr "trays") (dCons (dStr "deeds") (dCons (dStr "start") dNil))))) (gdName 2) (tt (dVV CIn notinD 2 1)) (dFrz 2) [2])) (dInt 0)))) (dsRet (dFz (dFrz 1))) dsNil) (dsCons (dsSet 3 (dCall S_law_next (dCons (dFrz 0) (dCons (dInt 12) dNil)))) (dsCons (dsIf (tt (dVE CEq eqD 3 (dInt 0))) (dsRet (dFz (dCall S_law_pick (dCons (dFrz 0) (dCons (dLst (dCons dNon (dCons (dLst dNil) (dCons (dStr "net") (dCons (dInt 0) (dCons dDict0 (dCons (dTup (dCons (dStr "trays") (dCons (dStr "deeds") (dCons (dStr "start") dNil)))) (dCons (dLst (dCons (dFrz 1) dNil)) dNil)))))))) dNil))))) dsNil) (dsCons (dsIf (tt (dVE CEq eqD 3 (dInt 1))) (dsRet (dFz (dCall S_law_without (dCons (dFrz 1) (dCons (dCall S_law_pick (dCons (dFrz 0) (dCons (dTup (dCons (dStr "trays") (dCons (dStr "deeds") (dCons (dStr "start") dNil)))) dNil))) dNil))))) dsNil) (dsCons (dsIf (tt (dVE CEq eqD 3 (dInt 2))) (dsRet (dFz (dCall S_law_with (dCons (dFrz 1) (dCons (dCall S_law_pick (dCons (dFrz 0) (dCons (dTup (dCons (dStr "end") (dCons (dStr "tray") (dCons (dStr "starts") dNil)))) dNil))) (dCons (dInt 0) dNil)))))) dsNil) (dsCons (dsIf (tt (dVE CEq eqD 3 (dInt 3))) (dsCons (dsSet 2 (dCall S_law_pick (dCons (dFrz 0) (dCons (dTup (dCons (dStr "trays") (dCons (dStr "deeds") (dCons (dStr "start") dNil)))) dNil)))) (dsRet (dFz (dCall S_law_with (dCons (dCall S_law_without (dCons (dFrz 1) (dCons (dFrz 2) dNil))) (dCons (dAdd (dFrz 2) (dStr "s")) (dCons (dIxV 1 (dFrz 2)) dNil))))))) dsNil) (dsCons (dsIf (tt (dVE CEq eqD 3 (dInt 4))) (dsRet (dFz (dCall S_law_with (dCons (dFrz 1) (dCons (dStr "trays") (dCons (dCall S_law_pick (dCons (dFrz 0) (dCons (dTup (dCons (dInt 0) (dCons (dInt 1) (dCons (dInt 8) (dCons (dInt 9) (dCons (dInt 200) (dCons (dInt 201) (dCons (dNeg (dInt 1)) (dCons (dBl true) (dCons dNon (dCons (dStr "2") (dCons (dTup (dCons (dInt 2) dNil)) dNil)))))))))))) dNil))) dNil)))))) dsNil) (dsCons (dsSet 4 (dIxV 1 (dStr "deeds"))) (dsCons (dsIf (dAnd (tt (dVE CEq eqD 3 (dInt 5))) (dTru (dIsiV "list" 4))) (dsCons (dsSet 5 (dIf (dTru (dIsi "tuple" (dIxV 1 (dStr "start")))) (dTup (dCons (dInt 0) (dCons (dIxV 1 (dStr "start")) (dCons (dIxV 1 (dStr "start")) dNil)))) (dTup (dCons (dInt 0) (dCons (dTup dNil) (dCons (dTup dNil) dNil)))))) (dsRet (dFz (dCall S_law_with (dCons (dFrz 1) (dCons (dStr "deeds") (dCons (dCall S_law_pick (dCons (dFrz 0) (dCons (dLst (dCons dNon (dCons (dTupOf (dFrz 4)) (dCons (dLst dNil) (dCons (dMul (dFrz 4) (dInt 3)) (dCons (dAdd (dFrz 4) (dLst (dCons (dFrz 5) dNil))) (dCons dDict0 (dCons (dSl (dFrz 4) (dPs (dInt 1)) dPn) dNil)))))))) dNil))) dNil))))))) dsNil) (dsCons (dsIf (dAnd (tt (dVE CI gLt 3 (dInt 9))) (dAnd (dTru (dIsiV "list" 4)) (tt (dEE CI gGt (dUV CLen lenD 4) (dInt 0))))) (dsCons (dsSet 6 (dCall S_law_next (dCons (dFrz 0) (dCons (dUV CLen lenD 4) dNil)))) (dsRet (dFz (dCall S_law_with (dCons (dFrz 1) (dCons (dStr "deeds") (dCons (dAdd (dAdd (dSl (dFrz 4) dPn (dPs (dFrz 6))) (dLst (dCons (dCall S_law_bent_deed (dCons (dFrz 0) (dCons (dIxV 4 (dFrz 6)) dNil))) dNil))) (dSl (dFrz 4) (dPs (dAdd (dFrz 6) (dInt 1))) dPn)) dNil))))))) dsNil) (dsRet (dFz (dCall S_law_with (dCons (dFrz 1) (dCons (dStr "start") (dCons (dCall S_law_bent_vector (dCons (dFrz 0) (dCons (dIxV 1 (dStr "start")) (dCons (dInt 99) dNil)))) dNil))))))))))))))))
theorem w_law_bent {P : Program} {w : World} {K : PySem.W.Frag} {mg : Str → Option Value} {base : Heap} {k : Nat} (B : Bs mg) (C : Cs K mg) {S_law_bent_vector : SpD} {klaw_bent_vector : Nat} (F_law_bent_vector : Cal P w K mg base "_law_bent_vector" klaw_bent_vector S_law_bent_vector) (k_law_bent_vector : klaw_bent_vector ≤ k) {S_law_with : SpD} {klaw_with : Nat} (F_law_with : Cal P w K mg base "_law_with" klaw_with S_law_with) (k_law_with : klaw_with ≤ k) {S_law_bent_deed : SpD} {klaw_bent_deed : Nat} (F_law_bent_deed : Cal P w K mg base "_law_bent_deed" klaw_bent_deed S_law_bent_deed) (k_law_bent_deed : klaw_bent_deed ≤ k) {S_law_next : SpD} {klaw_next : Nat} (F_law_next : Cal P w K mg base "_law_next" klaw_next S_law_next) (k_law_next : klaw_next ≤ k) {S_law_pick : SpD} {klaw_pick : Nat} (F_law_pick : Cal P w K mg base "_law_pick" klaw_pick S_law_pick) (k_law_pick : klaw_pick ≤ k) {S_law_without : SpD} {klaw_without : Nat} (F_law_without : Cal P w K mg base "_law_without" klaw_without S_law_without) (k_law_without : klaw_without ≤ k) (f : Addr) (cdv : Value) (A : Around) (outer : List Env) (s : Shared) (H : Hp) (E : XK)
    (room : Room k (A.deeper (envOfC "_law_bent" (defScope s_law_bent) s.heap.objs.size f cdv))) :
    DSs (cxOf (L2N.CX P w) P w K mg base N_law_bent "_law_bent" (defScope s_law_bent) f cdv A outer s H E) (fun cls d _ H => E cls d H) (defBody s_law_bent) (T_law_bent S_law_bent_vector S_law_with S_law_bent_deed S_law_next S_law_pick S_law_without) := by
  have sc := sc_law_bent
  have hu : (cxOf (L2N.CX P w) P w K mg base N_law_bent "_law_bent" (defScope s_law_bent) f cdv A outer s H E).A.units + 64 < cLine := room.units
  have hu5 : (cxOf (L2N.CX P w) P w K mg base N_law_bent "_law_bent" (defScope s_law_bent) f cdv A outer s H E).A.units + 65 < cLine := by have := room.un; show (A.deeper _).units + 65 < _; omega
  have tk : L2N.Takes (cxOf (L2N.CX P w) P w K mg base N_law_bent "_law_bent" (defScope s_law_bent) f cdv A outer s H E) (fun cls d _ H => E cls d H) := L2N.takes_of rfl rfl rfl rfl
  have hc : (cxOf (L2N.CX P w) P w K mg base N_law_bent "_law_bent" (defScope s_law_bent) f cdv A outer s H E).calm = true := rfl
  have hp : PassesOwn (model P w) (cxOf (L2N.CX P w) P w K mg base N_law_bent "_law_bent" (defScope s_law_bent) f cdv A outer s H E).A (cxOf (L2N.CX P w) P w K mg base N_law_bent "_law_bent" (defScope s_law_bent) f cdv A outer s H E).env (cxOf (L2N.CX P w) P w K mg base N_law_bent "_law_bent" (defScope s_law_bent) f cdv A outer s H E).xe := PassesOwn.leaving
  exact (dss_cons (ds_if (dw_pt (dw_or (dt_not (dt_tru (de_isiV isi_dict B.isinstance B.dict bt_dict (pv 1)))) (dw_or1 (dt_EE op_gt (int_OpB _) (de_cB call_lenA len_OpU lenD_flat rfl B.len bt_len (de_lc hc sc.nd (own := [("key", 2)]) (blkOk_by (by rfl)) (by simp) (di_seq (de_tup (da_cons de_str (da_cons de_str (da_cons de_str da_nil))))) (fun _ _ _ _ _ => (dg_name sc.nd rfl (by first | exact .inl rfl | exact .inr rfl))) (fun _ _ _ _ _ => (dpts_one (dt_VV (op_ninA hu5) nin_OpB (pv 2) (pv 1) rfl))) (fun _ _ _ _ _ => (de_frz 2)))) de_int rfl)))) (dss_one (ds_ret (de_fz (de_frz 1)))) dss_nil)
  (dss_cons (ds_set (i := 3) sc.nd rfl (by first | exact .inl rfl | exact .inr rfl) (de_call F_law_next tk (room.mono k_law_next) (da_cons (de_frz 0) (da_cons de_int da_nil))))
  (dss_cons (ds_if (dt_VE (opB_eq hu) eq_OpB (pv 3) de_int rfl) (dss_one (ds_ret (de_fz (de_call F_law_pick tk (room.mono k_law_pick) (da_cons (de_frz 0) (da_cons (de_lst (da_cons de_non (da_cons (de_lst da_nil) (da_cons de_str (da_cons de_int (da_cons de_dict0 (da_cons (de_tup (da_cons de_str (da_cons de_str (da_cons de_str da_nil)))) (da_cons (de_lst (da_cons (de_frz 1) da_nil)) da_nil)))))))) da_nil)))))) dss_nil)
  (dss_cons (ds_if (dt_VE (opB_eq hu) eq_OpB (pv 3) de_int rfl) (dss_one (ds_ret (de_fz (de_call F_law_without tk (room.mono k_law_without) (da_cons (de_frz 1) (da_cons (de_call F_law_pick tk (room.mono k_law_pick) (da_cons (de_frz 0) (da_cons (de_tup (da_cons de_str (da_cons de_str (da_cons de_str da_nil)))) da_nil))) da_nil)))))) dss_nil)
  (dss_cons (ds_if (dt_VE (opB_eq hu) eq_OpB (pv 3) de_int rfl) (dss_one (ds_ret (de_fz (de_call F_law_with tk (room.mono k_law_with) (da_cons (de_frz 1) (da_cons (de_call F_law_pick tk (room.mono k_law_pick) (da_cons (de_frz 0) (da_cons (de_tup (da_cons de_str (da_cons de_str (da_cons de_str da_nil)))) da_nil))) (da_cons de_int da_nil))))))) dss_nil)
  (dss_cons (ds_if (dt_VE (opB_eq hu) eq_OpB (pv 3) de_int rfl) (dss_cons (ds_set (i := 2) sc.nd rfl (by first | exact .inl rfl | exact .inr rfl) (de_call F_law_pick tk (room.mono k_law_pick) (da_cons (de_frz 0) (da_cons (de_tup (da_cons de_str (da_cons de_str (da_cons de_str da_nil)))) da_nil))))
  (dss_one (ds_ret (de_fz (de_call F_law_with tk (room.mono k_law_with) (da_cons (de_call F_law_without tk (room.mono k_law_without) (da_cons (de_frz 1) (da_cons (de_frz 2) da_nil))) (da_cons (de_add (de_frz 2) de_str) (da_cons (de_ixV hu (pv 1) (de_frz 2)) da_nil)))))))) dss_nil)
  (dss_cons (ds_if (dt_VE (opB_eq hu) eq_OpB (pv 3) de_int rfl) (dss_one (ds_ret (de_fz (de_call F_law_with tk (room.mono k_law_with) (da_cons (de_frz 1) (da_cons de_str (da_cons (de_call F_law_pick tk (room.mono k_law_pick) (da_cons (de_frz 0) (da_cons (de_tup (da_cons de_int (da_cons de_int (da_cons de_int (da_cons de_int (da_cons de_int (da_cons de_int (da_cons (de_neg de_int) (da_cons de_bl (da_cons de_non (da_cons de_str (da_cons (de_tup (da_cons de_int da_nil)) da_nil)))))))))))) da_nil))) da_nil))))))) dss_nil)
  (dss_cons (ds_set (i := 4) sc.nd rfl (by first | exact .inl rfl | exact .inr rfl) (de_ixV hu (pv 1) de_str))
  (dss_cons (ds_if (dw_pt (dw_and (dt_VE (opB_eq hu) eq_OpB (pv 3) de_int rfl) (dw_and1 (dt_tru (de_isiV isi_list B.isinstance B.list bt_list (pv 4)))))) (dss_cons (ds_set (i := 5) sc.nd rfl (by first | exact .inl rfl | exact .inr rfl) (de_if (dt_tru (de_isi isi_tuple B.isinstance B.tuple bt_tuple (de_ixV hu (pv 1) de_str))) (de_tup (da_cons de_int (da_cons (de_ixV hu (pv 1) de_str) (da_cons (de_ixV hu (pv 1) de_str) da_nil)))) (de_tup (da_cons de_int (da_cons (de_tup da_nil) (da_cons (de_tup da_nil) da_nil))))))
  (dss_one (ds_ret (de_fz (de_call F_law_with tk (room.mono k_law_with) (da_cons (de_frz 1) (da_cons de_str (da_cons (de_call F_law_pick tk (room.mono k_law_pick) (da_cons (de_frz 0) (da_cons (de_lst (da_cons de_non (da_cons (de_tupOf B.tuple (de_frz 4)) (da_cons (de_lst da_nil) (da_cons (de_mul (de_frz 4) de_int) (da_cons (de_add (de_frz 4) (de_lst (da_cons (de_frz 5) da_nil))) (da_cons de_dict0 (da_cons (de_sl (de_frz 4) (do_some de_int) do_none) da_nil)))))))) da_nil))) da_nil)))))))) dss_nil)
  (dss_cons (ds_if (dw_pt (dw_and (dt_VE op_lt (int_OpB _) (pv 3) de_int rfl) (dw_and (dt_tru (de_isiV isi_list B.isinstance B.list bt_list (pv 4))) (dw_and1 (dt_EE op_gt (int_OpB _) (de_cBV call_lenA len_OpU lenD_flat rfl B.len bt_len (pv 4)) de_int rfl))))) (dss_cons (ds_set (i := 6) sc.nd rfl (by first | exact .inl rfl | exact .inr rfl) (de_call F_law_next tk (room.mono k_law_next) (da_cons (de_frz 0) (da_cons (de_cBV call_lenA len_OpU lenD_flat rfl B.len bt_len (pv 4)) da_nil))))
  (dss_one (ds_ret (de_fz (de_call F_law_with tk (room.mono k_law_with) (da_cons (de_frz 1) (da_cons de_str (da_cons (de_add (de_add (de_sl (de_frz 4) do_none (do_some (de_frz 6))) (de_lst (da_cons (de_call F_law_bent_deed tk (room.mono k_law_bent_deed) (da_cons (de_frz 0) (da_cons (de_ixV hu (pv 4) (de_frz 6)) da_nil))) da_nil))) (de_sl (de_frz 4) (do_some (de_add (de_frz 6) de_int)) do_none)) da_nil)))))))) dss_nil)
  (dss_one (ds_ret (de_fz (de_call F_law_with tk (room.mono k_law_with) (da_cons (de_frz 1) (da_cons de_str (da_cons (de_call F_law_bent_vector tk (room.mono k_law_bent_vector) (da_cons (de_frz 0) (da_cons (de_ixV hu (pv 1) de_str) (da_cons de_int da_nil)))) da_nil)))))))))))))))))
end K01

set_option Elab.async false
set_option linter.all false
set_option maxRecDepth 100000
set_option maxHeartbeats 4000000
namespace K01
open PySem PySem.Spec PyProof.Rows L2 HD
local macro_rules | `(tactic| walk_at "rd") => `(tactic| simp only [dsRet, dFz, dAndV, dOrV, dNotV, dIsiV, dIsi, dCall, dCons, dNil, dFrz, dVV, dEV, dVE, dEE, dBin, dUn, dUV, dU, uB, Has, asB, tt, dAnd, dOr, dNot, dTru, dTruV, dIf, dsIf, dsCons, dsNil, dsSet, dsAsg, dInt, dBl, dNon, dStr, dCon, dIxV, dIx, dTup, dLst, dTupOf, dLstOf, dMax2, dMin2, dI, uInt, dSub, dMod, dDiv, dAdd, uAdd, dMul, uMul, dNeg, dPow, endsOf, gdSt, gdName, dDict0, diSeq, diRange1, diRange2, dLc, dLcK, dsFor, dsForK, Ev.wipe, wipeL, slots, dsOf, List.map_cons, List.map_nil, List.cons_append, List.nil_append, List.replicate, List.getElem?_cons_zero, List.getElem?_cons_succ, List.set_cons_zero, List.set_cons_succ, Option.some.injEq, Prod.mk.injEq, and_assoc, exists_and_left, exists_eq_left', exists_eq_left, exists_eq', Nat.reduceAdd, Nat.reduceSub, List.length_cons, List.length_nil, true_and, goStep, dYes, if_true, if_false, Bool.false_eq_true, dRaise])
/-- pure functions of one, two, three, four arguments -/
def Pu1 (C : Dt → Prop) (f : Dt → Dt) : SpD := fun ds G P _ => ∃ a, ds = [a] ∧ C a ∧ P (f a) (f a).lv G
def Pu2 (C : Dt → Dt → Prop) (f : Dt → Dt → Dt) : SpD := fun ds G P _ => ∃ a b, ds = [a, b] ∧ C a b ∧ P (f a b) (f a b).lv G
def Pu3 (C : Dt → Dt → Dt → Prop) (f : Dt → Dt → Dt → Dt) : SpD := fun ds G P _ => ∃ a b c, ds = [a, b, c] ∧ C a b c ∧ P (f a b c) (f a b c).lv G
def Pu4 (C : Dt → Dt → Dt → Dt → Prop) (f : Dt → Dt → Dt → Dt → Dt) : SpD := fun ds G P _ => ∃ a b c d, ds = [a, b, c, d] ∧ C a b c d ∧ P (f a b c d) (f a b c d).lv G
theorem pu1 {C f a G P X} : Pu1 C f [a] G P X ↔ C a ∧ P (f a) (f a).lv G := ⟨fun ⟨b, e, h⟩ => by cases e; exact h, fun h => ⟨a, rfl, h⟩⟩
theorem pu2 {C f a b G P X} : Pu2 C f [a, b] G P X ↔ C a b ∧ P (f a b) (f a b).lv G := ⟨fun ⟨_, _, e, h⟩ => by cases e; exact h, fun h => ⟨a, b, rfl, h⟩⟩
theorem pu3 {C f a b c G P X} : Pu3 C f [a, b, c] G P X ↔ C a b c ∧ P (f a b c) (f a b c).lv G := ⟨fun ⟨_, _, _, e, h⟩ => by cases e; exact h, fun h => ⟨a, b, c, rfl, h⟩⟩
theorem pu4 {C f a b c d G P X} : Pu4 C f [a, b, c, d] G P X ↔ C a b c d ∧ P (f a b c d) (f a b c d).lv G := ⟨fun ⟨_, _, _, _, e, h⟩ => by cases e; exact h, fun h => ⟨a, b, c, d, rfl, h⟩⟩
def isI : Dt → Bool
  | .int _ => true
  | _ => false
theorem isI_inv {d : Dt} (h : isI d = true) : ∃ i, d = .int i := by cases d <;> simp [isI] at h ⊢
theorem lv_bl {b} : (Dt.bl b).lv = topL := rfl
theorem lv_int {b} : (Dt.int b).lv = topL := rfl
theorem lv_str {b} : (Dt.str b).lv = topL := rfl
theorem lv_tup {b} : (Dt.tup b).lv = 0 := rfl
theorem lv_lst {b} : (Dt.lst b).lv = 0 := rfl
theorem lv_dct {b} : (Dt.dct b).lv = 0 := rfl
theorem lv_non : (Dt.non).lv = topL := rfl
theorem eqD_int {i j : Int} : eqD (.int i) (.int j) = decide (i = j) := by simp [eqD, toPy, PyData.eqv, Bool.beq_eq_decide_eq]
theorem ceq_int {i j : Int} : CEq (.int i) (.int j) = True := by simp [CEq, scalD]
def S_is_int : SpD := Pu1 (fun a => noCel a = true) fun a => .bl (isI a)
theorem l_is_int : ∀ ds G P X, S_is_int ds G P X → T_is_int (endsOf P X) ⟨slots ds 0, G⟩ := by
  rintro _ G P X ⟨a, rfl, h, hp⟩
  unfold T_is_int
  walk_at "rd"
  cases a <;> simp_all [noCel, isiD, tyD, isiB, isI]
def S_is_from : SpD := Pu2 (fun a b => noCel a = true ∧ isI b = true) fun a b => .bl (isI a && gLe b a)
theorem l_is_from : ∀ ds G P X, S_is_from ds G P X → T_is_from S_is_int (endsOf P X) ⟨slots ds 0, G⟩ := by
  rintro _ G P X ⟨a, b, rfl, ⟨h, hb⟩, hp⟩
  obtain ⟨j, rfl⟩ := isI_inv hb
  unfold T_is_from S_is_int
  walk_at "rd"
  rw [pu1]
  cases a <;> simp_all [noCel, isI, gI, CI, lv_bl]
def S_is_between : SpD := Pu3 (fun a b c => noCel a = true ∧ isI b = true ∧ isI c = true) fun a b c => .bl (isI a && gLe b a && gLe a c)
theorem l_is_between : ∀ ds G P X, S_is_between ds G P X → T_is_between S_is_int (endsOf P X) ⟨slots ds 0, G⟩ := by
  rintro _ G P X ⟨a, b, c, rfl, ⟨h, hb, hc⟩, hp⟩
  obtain ⟨j, rfl⟩ := isI_inv hb
  obtain ⟨k, rfl⟩ := isI_inv hc
  unfold T_is_between S_is_int
  walk_at "rd"
  rw [pu1]
  cases a <;> simp_all [noCel, isI, gI, CI, lv_bl]
  rename_i i
  by_cases q : j ≤ i <;> simp_all <;> (try (intro z; omega))
def tupN (a b : Dt) : Bool := match a, b with
  | .tup ds, .int n => decide ((ds.length : Int) = n)
  | _, _ => false
def S_is_tuple_of : SpD := Pu2 (fun a b => noCel a = true ∧ isI b = true) fun a b => .bl (tupN a b)
theorem l_is_tuple_of : ∀ ds G P X, S_is_tuple_of ds G P X → T_is_tuple_of (endsOf P X) ⟨slots ds 0, G⟩ := by
  rintro _ G P X ⟨a, b, rfl, ⟨h, hb⟩, hp⟩
  obtain ⟨j, rfl⟩ := isI_inv hb
  unfold T_is_tuple_of
  walk_at "rd"
  cases a <;> simp_all [noCel, isiD, tyD, isiB, isI, tupN, lenD, CLen, eqD_int, ceq_int, lv_bl]
def natI (d : Dt) : Bool := isI d && gLe (.int 0) d
/-- plain data of this depth -/
def Pl : Nat → Dt → Prop
  | 0, d => scD d = true
  | n + 1, .tup ds => ds.length ≤ 100000 ∧ ∀ d ∈ ds, Pl n d
  | n + 1, .lst ds => ds.length ≤ 100000 ∧ ∀ d ∈ ds, Pl n d
  | n + 1, .dct kvs => kvs.length ≤ 100000 ∧ (∀ kv ∈ kvs, (∃ s : Str, kv.1 = .inr s) ∧ Pl n kv.2) ∧ (kvs.map (·.1)).Nodup
  | _ + 1, d => scD d = true
def Plain (d : Dt) : Prop := ∃ n, Pl n d
theorem Pl.noCel : ∀ {n d}, Pl n d → noCel d = true
  | 0, d, h => by cases d <;> simp_all [Pl, scD, HD.noCel]
  | n + 1, d, h => by cases d <;> simp_all [Pl, scD, HD.noCel]
theorem Plain.noCel {d} (h : Plain d) : noCel d = true := let ⟨_, h⟩ := h; h.noCel
theorem Pl.succ : ∀ {n d}, Pl n d → Pl (n + 1) d
  | 0, d, h => by cases d <;> simp_all [Pl, scD]
  | n + 1, .tup ds, h => ⟨h.1, fun d hd => (h.2 d hd).succ⟩
  | n + 1, .lst ds, h => ⟨h.1, fun d hd => (h.2 d hd).succ⟩
  | n + 1, .dct kvs, h => ⟨h.1, fun kv hk => ⟨(h.2.1 kv hk).1, (h.2.1 kv hk).2.succ⟩, h.2.2⟩
  | n + 1, .non, h => rfl
  | n + 1, .bl _, h => rfl
  | n + 1, .int _, h => rfl
  | n + 1, .str _, h => rfl
  | n + 1, .cel _, h => h
  | n + 1, .exc _ _ _, h => h
theorem Pl.mono {n m d} (h : Pl n d) (k : n ≤ m) : Pl m d := by
  induction k with
  | refl => exact h
  | step _ ih => exact ih.succ
theorem Plain.tup {ds} (h : Plain (.tup ds)) : ds.length ≤ 100000 ∧ ∀ d ∈ ds, Plain d := by
  obtain ⟨n, h⟩ := h
  cases n with
  | zero => exact (nomatch (show false = true from h))
  | succ n => exact ⟨h.1, fun d hd => ⟨n, h.2 d hd⟩⟩
theorem Plain.lst {ds} (h : Plain (.lst ds)) : ds.length ≤ 100000 ∧ ∀ d ∈ ds, Plain d := by
  obtain ⟨n, h⟩ := h
  cases n with
  | zero => exact (nomatch (show false = true from h))
  | succ n => exact ⟨h.1, fun d hd => ⟨n, h.2 d hd⟩⟩
theorem Plain.dct {kvs} (h : Plain (.dct kvs)) : kvs.length ≤ 100000 ∧ (∀ kv ∈ kvs, (∃ s : Str, kv.1 = .inr s) ∧ Plain kv.2) ∧ (kvs.map (·.1)).Nodup := by
  obtain ⟨n, h⟩ := h
  cases n with
  | zero => exact (nomatch (show false = true from h))
  | succ n => exact ⟨h.1, fun d hd => ⟨(h.2.1 d hd).1, n, (h.2.1 d hd).2⟩, h.2.2⟩
theorem few {n : Nat} (h : n ≤ 100000) : n ≤ sizeLine := by rw [sizeLine_eq]; omega
def S_is_wide_filling : SpD := Pu2 (fun a b => Plain a ∧ isI b = true) fun a b => .bl (tupN a b && (match a with | .tup ds => ds.all natI | _ => false))
theorem l_is_wide_filling : ∀ ds G P X, S_is_wide_filling ds G P X → T_is_wide_filling S_is_tuple_of S_is_from (endsOf P X) ⟨slots ds 1, G⟩ := by
  rintro _ G P X ⟨a, b, rfl, ⟨h, hb⟩, hp⟩
  obtain ⟨j, rfl⟩ := isI_inv hb
  unfold T_is_wide_filling S_is_tuple_of S_is_from
  walk_at "rd"
  rw [pu2]
  refine ⟨⟨h.noCel, hb⟩, ?_⟩
  cases a <;> simp_all [tupN]
  rename_i ds
  obtain ⟨h1, h2⟩ := h.tup
  by_cases q : (ds.length : Int) = j
  · simp_all
    refine go_map (I := fun ev => ∃ n m, ev = ⟨[some (.tup ds, n), some (.int j, m), none], G⟩) (fun d => .bl (natI d)) (fun d hd' ev i k hk => ?_) ⟨_, _, rfl⟩ (few h1) (fun l ev' i => ?_)
    · obtain ⟨n, m, rfl⟩ := i
      walk_at "rd"
      rw [pu2]
      exact ⟨⟨(h2 d hd').noCel, rfl⟩, hk _ _ ⟨n, m, rfl⟩⟩
    · obtain ⟨n, m, rfl⟩ := i
      refine ⟨CBls_map _ _, ?_⟩
      rw [allD_map]
      exact hp
  · simp_all
def vecB (a t h : Dt) : Bool := tupN a t && (match a with | .tup ds => ds.all fun d => natI d && (isNonD h || gLe d h) | _ => false)
def niD (h : Dt) : Prop := h = .non ∨ isI h = true
def S_is_vector : SpD := Pu3 (fun a t h => Plain a ∧ isI t = true ∧ niD h) fun a t h => .bl (vecB a t h)
theorem natI_inv {d} (h : natI d = true) : ∃ i : Int, d = .int i ∧ 0 ≤ i := by cases d <;> simp_all [natI, isI, gI]
theorem l_is_vector : ∀ ds G P X, S_is_vector ds G P X → T_is_vector S_is_wide_filling (endsOf P X) ⟨slots ds 1, G⟩ := by
  rintro _ G P X ⟨a, b, c, rfl, ⟨h, hb, hc⟩, hp⟩
  obtain ⟨j, rfl⟩ := isI_inv hb
  unfold T_is_vector S_is_wide_filling
  walk_at "rd"
  rw [pu2]
  refine ⟨⟨h, hb⟩, ?_⟩
  match a, h, hp with
  | .non, h, hp => exact hp
  | .bl _, h, hp => exact hp
  | .int _, h, hp => exact hp
  | .str _, h, hp => exact hp
  | .lst _, h, hp => exact hp
  | .dct _, h, hp => exact hp
  | .cel _, h, hp => exact hp
  | .exc _ _ _, h, hp => exact hp
  | .tup ds, h, hp => ?_
  obtain ⟨h1, h2⟩ := h.tup
  simp only [vecB, tupN] at hp ⊢
  by_cases q : (ds.length : Int) = j
  · simp only [q, decide_true, Bool.true_and] at hp ⊢
    cases q2 : ds.all natI
    · have e : (ds.all fun d => natI d && (isNonD c || gLe d c)) = false := by
        obtain ⟨d, hd, e⟩ := List.all_eq_false.mp q2
        exact List.all_eq_false.mpr ⟨d, hd, by simp_all⟩
      rw [e] at hp
      rw [if_neg (by simp)]
      exact hp
    · have nn := List.all_eq_true.mp q2
      rw [if_pos rfl]
      rcases hc with rfl | hc
      · have e : (ds.all fun d => natI d && (isNonD .non || gLe d .non)) = true := List.all_eq_true.mpr fun d hd => by simp [nn d hd, isNonD]
        rw [e] at hp
        simpa [CN, gIs, isNonD] using hp
      · obtain ⟨k, rfl⟩ := isI_inv hc
        simp only [CN, gIs, isNonD, if_true, if_false, Bool.false_eq_true, true_and]
        refine go_map (I := fun ev => ∃ n m o, ev = ⟨[some (.tup ds, n), some (.int j, m), some (.int k, o), none], G⟩) (fun d => .bl (gLe d (.int k))) (fun d hd' ev i kk hk => ?_) ⟨_, _, _, rfl⟩ (few h1) (fun l ev' i => ?_)
        · obtain ⟨n, m, o, rfl⟩ := i
          obtain ⟨i, rfl, _⟩ := natI_inv (nn d hd')
          walk_at "rd"
          exact ⟨trivial, hk _ _ ⟨n, m, o, rfl⟩⟩
        · obtain ⟨n, m, o, rfl⟩ := i
          refine ⟨CBls_map _ _, ?_⟩
          rw [allD_map]
          have e : (ds.all fun d => gLe d (.int k)) = ds.all fun d => natI d && (isNonD (.int k) || gLe d (.int k)) := by
            refine Bool.eq_iff_iff.mpr ?_
            rw [List.all_eq_true, List.all_eq_true]
            exact ⟨fun z d hd => by simp [nn d hd, z d hd], fun z d hd => by simpa [nn d hd, isNonD] using z d hd⟩
          rw [e]
          simpa [isNonD] using hp
  · simp only [q, decide_false, Bool.false_and] at hp ⊢
    exact hp
end K01

set_option Elab.async false
set_option linter.all false
set_option maxRecDepth 100000
set_option maxHeartbeats 4000000
namespace K01
open PySem PySem.Spec PyProof.Rows L2 HD
local macro_rules | `(tactic| walk_at "rd") => `(tactic| simp only [dsRet, dFz, dAndV, dOrV, dNotV, dIsiV, dIsi, dCall, dCons, dNil, dFrz, dVV, dEV, dVE, dEE, dBin, dUn, dUV, dU, uB, Has, asB, tt, dAnd, dOr, dNot, dTru, dTruV, dIf, dsIf, dsCons, dsNil, dsSet, dsAsg, dInt, dBl, dNon, dStr, dCon, dIxV, dIx, dTup, dLst, dTupOf, dLstOf, dMax2, dMin2, dI, uInt, dSub, dMod, dDiv, dAdd, uAdd, dMul, uMul, dNeg, dPow, endsOf, gdSt, gdName, dDict0, diSeq, diRange1, diRange2, dLc, dLcK, dsFor, dsForK, Ev.wipe, wipeL, slots, dsOf, List.map_cons, List.map_nil, List.cons_append, List.nil_append, List.replicate, List.getElem?_cons_zero, List.getElem?_cons_succ, List.set_cons_zero, List.set_cons_succ, Option.some.injEq, Prod.mk.injEq, and_assoc, exists_and_left, exists_eq_left', exists_eq_left, exists_eq', Nat.reduceAdd, Nat.reduceSub, List.length_cons, List.length_nil, true_and, goStep, dYes, if_true, if_false, Bool.false_eq_true, dRaise])
theorem bcase : ∀ b : Bool, b = false ∨ b = true := by decide
def deedB (a t h : Dt) : Bool := match a with
  | .tup [s, x, y] => (isI s && gLe (.int 0) s && gLe s (.int 9)) && (vecB x t h && vecB y t h)
  | _ => false
theorem tup3 {a : Dt} (h : tupN a (.int 3) = true) : ∃ s x y, a = .tup [s, x, y] := by
  match a, h with
  | .tup [s, x, y], _ => exact ⟨s, x, y, rfl⟩
  | .tup [], h => simp [tupN] at h
  | .tup [_], h => simp [tupN] at h
  | .tup [_, _], h => simp [tupN] at h
  | .tup (_ :: _ :: _ :: _ :: r), h => simp [tupN] at h; omega
theorem deed_no {a t h : Dt} (q : tupN a (.int 3) = false) : deedB a t h = false := by
  unfold deedB
  split
  · simp [tupN] at q
  · rfl
theorem at3_0 {s x y : Dt} : atI [s, x, y] 0 = some s := rfl
theorem at3_1 {s x y : Dt} : atI [s, x, y] 1 = some x := rfl
theorem at3_2 {s x y : Dt} : atI [s, x, y] 2 = some y := rfl
theorem ix_tup {G ds i P} : ixD G (.tup ds) (.int i) P = ∃ c, atI ds i = some c ∧ P c := rfl
theorem ix_lst {G ds i P} : ixD G (.lst ds) (.int i) P = ∃ c, atI ds i = some c ∧ P c := rfl
theorem ix_dct {G ds x P} : ixD G (.dct ds) (.str x) P = ∃ c, lookD (.inr x) ds = some c ∧ P c := rfl
theorem ix_cel {G m i P} : ixD G (.cel m) (.int i) P = ∃ ds c, G[m]? = some ds ∧ atI ds i = some c ∧ P c := rfl
theorem tru_bl {b} : truD (.bl b) = b := rfl
theorem ctru_bl {b} : CTru (.bl b) = True := rfl
local macro_rules | `(tactic| walk_at "rt") => `(tactic| simp only [tru_bl, ctru_bl, lv_bl, lv_int, lv_str, lv_non, lv_tup, lv_lst, lv_dct, ix_tup, ix_lst, ix_dct, ix_cel, at3_0, at3_1, at3_2, exists_eq_left', exists_eq_left, Option.some.injEq, Nat.zero_le, true_or, or_true, true_and, and_true, Bool.not_true, Bool.not_false, if_true, if_false, Bool.false_eq_true, Bool.true_and, Bool.false_and])
def S_is_deed : SpD := Pu3 (fun a t h => Plain a ∧ isI t = true ∧ niD h) fun a t h => .bl (deedB a t h)
theorem l_is_deed : ∀ ds G P X, S_is_deed ds G P X → T_is_deed S_is_vector S_is_tuple_of S_is_between (endsOf P X) ⟨slots ds 0, G⟩ := by
  rintro _ G P X ⟨a, b, c, rfl, ⟨h, hb, hc⟩, hp⟩
  unfold T_is_deed S_is_vector S_is_tuple_of S_is_between
  walk_at "rd"
  rw [pu2]
  refine ⟨⟨h.noCel, rfl⟩, ?_⟩
  simp only [tru_bl, ctru_bl, true_and]
  rcases bcase (tupN a (.int 3)) with q | q
  · simp only [q, Bool.not_false, if_true]
    dsimp only at hp
    rw [deed_no q] at hp
    exact hp
  · obtain ⟨s, x, y, rfl⟩ := tup3 q
    have hs := (h.tup).2 s (by simp)
    have hx := (h.tup).2 x (by simp)
    have hy := (h.tup).2 y (by simp)
    simp only [q]
    walk_at "rt"
    rw [pu3]
    refine ⟨⟨hs.noCel, rfl, rfl⟩, ?_⟩
    simp only [c_MOST_SIGN]
    unfold deedB at hp
    walk_at "rt"
    rcases bcase ((isI s && gLe (.int 0) s && gLe s (.int 9))) with q2 | q2
    · simp only [q2, Bool.false_and, Bool.not_false, if_true] at hp ⊢
      exact hp
    · simp only [q2, Bool.true_and, Bool.not_true, if_false, Bool.false_eq_true] at hp ⊢
      rw [pu3]
      refine ⟨⟨hx, hb, hc⟩, ?_⟩
      try walk_at "rt"
      rcases bcase (vecB x b c) with q3 | q3
      · simp only [q3, Bool.false_and, if_false, Bool.false_eq_true] at hp ⊢
        exact hp
      · simp only [q3, Bool.true_and, if_true] at hp ⊢
        rw [pu3]
        exact ⟨⟨hy, hb, hc⟩, hp⟩
def deedsB (a t lo h : Dt) : Bool := match a with
  | .lst ds => (gLe lo (.int ds.length) && gLe (.int ds.length) (.int 10)) && ds.all fun d => deedB d t h
  | _ => false
def S_are_deeds : SpD := Pu4 (fun a t lo h => Plain a ∧ isI t = true ∧ isI lo = true ∧ niD h) fun a t lo h => .bl (deedsB a t lo h)
theorem isi_list_eq {a : Dt} : isiD "list" a = .bl (match a with | .lst _ => true | .cel _ => true | _ => false) := by cases a <;> rfl
theorem l_are_deeds : ∀ ds G P X, S_are_deeds ds G P X → T_are_deeds S_is_deed S_is_between (endsOf P X) ⟨slots ds 1, G⟩ := by
  rintro _ G P X ⟨a, b, c, d, rfl, ⟨h, hb, hc, hd⟩, hp⟩
  unfold T_are_deeds S_is_deed S_is_between
  walk_at "rd"
  refine ⟨h.noCel, ?_⟩
  match a, h, hp with
  | .non, h, hp => exact ⟨trivial, hp⟩
  | .bl _, h, hp => exact ⟨trivial, hp⟩
  | .int _, h, hp => exact ⟨trivial, hp⟩
  | .str _, h, hp => exact ⟨trivial, hp⟩
  | .tup _, h, hp => exact ⟨trivial, hp⟩
  | .dct _, h, hp => exact ⟨trivial, hp⟩
  | .cel _, h, hp => exact absurd h.noCel (by simp [noCel])
  | .exc _ _ _, h, hp => exact ⟨trivial, hp⟩
  | .lst ds, h, hp => ?_
  obtain ⟨h1, h2⟩ := h.lst
  obtain ⟨i, rfl⟩ := isI_inv hc
  simp only [isi_list_eq, tru_bl, ctru_bl, Bool.not_true, if_false, Bool.false_eq_true, true_and]
  refine ⟨trivial, ?_⟩
  rw [pu3]
  refine ⟨⟨rfl, rfl, rfl⟩, ?_⟩
  simp only [lenD, isI, c_MOST_DEEDS, Bool.true_and, tru_bl, ctru_bl, true_and]
  unfold deedsB at hp
  rcases bcase ((gLe (.int i) (.int ds.length) && gLe (.int ds.length) (.int 10))) with q | q
  · simp only [q, Bool.false_and, Bool.not_false, if_true] at hp ⊢
    exact hp
  · simp only [q, Bool.true_and, Bool.not_true, if_false, Bool.false_eq_true] at hp ⊢
    refine go_map (I := fun ev => ∃ n m o p, ev = ⟨[some (.lst ds, n), some (b, m), some (.int i, o), some (d, p), none], G⟩) (fun x => .bl (deedB x b d)) (fun x hx ev i kk hk => ?_) ⟨_, _, _, _, rfl⟩ (few h1) (fun l ev' i => ?_)
    · obtain ⟨n, m, o, p, rfl⟩ := i
      walk_at "rd"
      rw [pu3]
      exact ⟨⟨h2 x hx, hb, hd⟩, hk _ _ ⟨_, _, _, _, rfl⟩⟩
    · obtain ⟨n, m, o, p, rfl⟩ := i
      refine ⟨CBls_map _ _, ?_⟩
      rw [allD_map]
      exact hp
end K01

set_option Elab.async false
set_option linter.all false
set_option maxRecDepth 100000
set_option maxHeartbeats 4000000
namespace K01
open PySem PySem.Spec PyProof.Rows L2 HD
local macro_rules | `(tactic| walk_at "rd") => `(tactic| simp only [dsRet, dFz, dAndV, dOrV, dNotV, dIsiV, dIsi, dCall, dCons, dNil, dFrz, dVV, dEV, dVE, dEE, dBin, dUn, dUV, dU, uB, Has, asB, tt, dAnd, dOr, dNot, dTru, dTruV, dIf, dsIf, dsCons, dsNil, dsSet, dsAsg, dInt, dBl, dNon, dStr, dCon, dIxV, dIx, dTup, dLst, dTupOf, dLstOf, dMax2, dMin2, dI, uInt, dSub, dMod, dDiv, dAdd, uAdd, dMul, uMul, dNeg, dPow, endsOf, gdSt, gdName, dDict0, diSeq, diRange1, diRange2, dLc, dLcK, dsFor, dsForK, Ev.wipe, wipeL, slots, dsOf, List.map_cons, List.map_nil, List.cons_append, List.nil_append, List.replicate, List.getElem?_cons_zero, List.getElem?_cons_succ, List.set_cons_zero, List.set_cons_succ, Option.some.injEq, Prod.mk.injEq, and_assoc, exists_and_left, exists_eq_left', exists_eq_left, exists_eq', Nat.reduceAdd, Nat.reduceSub, List.length_cons, List.length_nil, true_and, goStep, dYes, if_true, if_false, Bool.false_eq_true, dRaise])
local macro_rules | `(tactic| walk_at "rt") => `(tactic| simp only [tru_bl, ctru_bl, lv_bl, lv_int, lv_str, lv_non, lv_tup, lv_lst, lv_dct, ix_tup, ix_lst, ix_dct, ix_cel, at3_0, at3_1, at3_2, exists_eq_left', exists_eq_left, Option.some.injEq, Nat.zero_le, true_or, or_true, true_and, and_true, Bool.not_true, Bool.not_false, if_true, if_false, Bool.false_eq_true, Bool.true_and, Bool.false_and])

def hasS (kvs : List (Key × Dt)) (s : Str) : Bool := (lookD (.inr s) kvs).isSome
def getS (kvs : List (Key × Dt)) (s : Str) : Dt := (lookD (.inr s) kvs).getD .non
def keysB (a : Dt) : Bool := match a with
  | .dct kvs => decide ((kvs.length : Int) = 3) && (hasS kvs "trays" && (hasS kvs "deeds" && hasS kvs "start"))
  | _ => false
theorem isi_dict_eq {a : Dt} : isiD "dict" a = .bl (match a with | .dct _ => true | _ => false) := by cases a <;> rfl
theorem isi_tuple_eq {a : Dt} : isiD "tuple" a = .bl (match a with | .tup _ => true | _ => false) := by cases a <;> rfl
theorem isi_int_eq {a : Dt} : isiD "int" a = .bl (match a with | .int _ => true | .bl _ => true | _ => false) := by cases a <;> rfl
theorem isi_bool_eq {a : Dt} : isiD "bool" a = .bl (match a with | .bl _ => true | _ => false) := by cases a <;> rfl
theorem isi_str_eq {a : Dt} : isiD "str" a = .bl (match a with | .str _ => true | _ => false) := by cases a <;> rfl
def S_has_keys : SpD := Pu1 (fun a => Plain a) fun a => .bl (keysB a)
theorem l_has_keys : ∀ ds G P X, S_has_keys ds G P X → T_has_keys (endsOf P X) ⟨slots ds 1, G⟩ := by
  rintro _ G P X ⟨a, rfl, h, hp⟩
  unfold T_has_keys
  walk_at "rd"
  refine ⟨h.noCel, ?_⟩
  simp only [isi_dict_eq]
  match a, h, hp with
  | .non, h, hp => exact hp
  | .bl _, h, hp => exact hp
  | .int _, h, hp => exact hp
  | .str _, h, hp => exact hp
  | .tup _, h, hp => exact hp
  | .lst _, h, hp => exact hp
  | .cel _, h, hp => exact hp
  | .exc _ _ _, h, hp => exact hp
  | .dct kvs, h, hp => ?_
  obtain ⟨h1, h2, h3⟩ := h.dct
  simp only [lenD, CLen, eqD_int, ceq_int, true_and, if_true]
  dsimp only [keysB] at hp
  rcases bcase (decide ((kvs.length : Int) = 3)) with q | q
  · simp only [q, Bool.false_and, if_false, Bool.false_eq_true] at hp ⊢
    exact hp
  · simp only [q, Bool.true_and, if_true] at hp ⊢
    refine go_map (I := fun ev => ∃ n, ev = ⟨[some (.dct kvs, n), none], G⟩) (fun x => .bl (inD x (.dct kvs))) (fun x hx ev i kk hk => ?_) ⟨_, rfl⟩ (few (by decide)) (fun l ev' i => ?_)
    · obtain ⟨n, rfl⟩ := i
      walk_at "rd"
      refine ⟨?_, hk _ _ ⟨_, rfl⟩⟩
      simp at hx
      rcases hx with rfl | rfl | rfl <;> rfl
    · obtain ⟨n, rfl⟩ := i
      refine ⟨CBls_map _ _, ?_⟩
      rw [allD_map]
      simpa [inD, keyD, hasS] using hp
def wrongB (a : Dt) (lo hi dl : Int) (dh sh : Dt) : Dt := match a with
  | .dct kvs =>
    if keysB (.dct kvs) = false then .str "net" else
    if (isI (getS kvs "trays") && gLe (.int lo) (getS kvs "trays") && gLe (getS kvs "trays") (.int hi)) = false then .str "trays" else
    if deedsB (getS kvs "deeds") (getS kvs "trays") (.int dl) dh = false then .str "deeds" else
    if vecB (getS kvs "start") (getS kvs "trays") sh = true then .non else .str "start"
  | _ => .str "net"
theorem keys_of {kvs} (h : keysB (.dct kvs) = true) (s : Str) (hs : s = "trays" ∨ s = "deeds" ∨ s = "start") : lookD (.inr s) kvs = some (getS kvs s) := by
  simp only [keysB, hasS, Bool.and_eq_true] at h
  unfold getS
  rcases hs with rfl | rfl | rfl
  · obtain ⟨x, e⟩ := Option.isSome_iff_exists.mp h.2.1; rw [e]; rfl
  · obtain ⟨x, e⟩ := Option.isSome_iff_exists.mp h.2.2.1; rw [e]; rfl
  · obtain ⟨x, e⟩ := Option.isSome_iff_exists.mp h.2.2.2; rw [e]; rfl
theorem lookD_mem {k : Key} {d : Dt} : ∀ {kvs : List (Key × Dt)}, lookD k kvs = some d → ∃ k', (k', d) ∈ kvs := fun {kvs} h => by
  unfold lookD at h
  obtain ⟨kv, e, rfl⟩ := Option.map_eq_some_iff.mp h
  exact ⟨kv.1, List.mem_of_find?_eq_some e⟩
theorem Plain.get {kvs s} (h : Plain (.dct kvs)) : Plain (getS kvs s) := by
  unfold getS
  cases q : lookD (.inr s) kvs with
  | none => exact ⟨0, rfl⟩
  | some d =>
    obtain ⟨k', m⟩ := lookD_mem q
    exact (h.dct.2.1 _ m).2
def S_wrong_key : SpD := Pu1 (fun a => Plain a) fun a => wrongB a 1 8 1 (.int 3) (.int 99)
theorem l_wrong_key : ∀ ds G P X, S_wrong_key ds G P X → T_wrong_key S_is_vector S_are_deeds S_is_between S_has_keys (endsOf P X) ⟨slots ds 1, G⟩ := by
  rintro _ G P X ⟨a, rfl, h, hp⟩
  unfold T_wrong_key S_is_vector S_are_deeds S_is_between S_has_keys
  walk_at "rd"
  rw [pu1]
  refine ⟨h, ?_⟩
  walk_at "rt"
  match a, h, hp with
  | .non, h, hp => exact hp
  | .bl _, h, hp => exact hp
  | .int _, h, hp => exact hp
  | .str _, h, hp => exact hp
  | .tup _, h, hp => exact hp
  | .lst _, h, hp => exact hp
  | .cel _, h, hp => exact hp
  | .exc _ _ _, h, hp => exact hp
  | .dct kvs, h, hp => ?_
  dsimp only [wrongB] at hp
  rcases bcase (keysB (.dct kvs)) with q | q
  · simp only [q, Bool.not_false, if_true] at hp ⊢
    exact hp
  have k1 := keys_of q "trays" (.inl rfl)
  have k2 := keys_of q "deeds" (.inr (.inl rfl))
  have k3 := keys_of q "start" (.inr (.inr rfl))
  simp only [q, Bool.not_true, if_false, Bool.false_eq_true, Bool.true_eq_false] at hp ⊢
  walk_at "rt"
  simp only [k1, Option.some.injEq, exists_eq_left']
  rw [pu3]
  refine ⟨⟨h.get.noCel, rfl, rfl⟩, ?_⟩
  simp only [c_MOST_TRAYS]
  rcases bcase (isI (getS kvs "trays") && gLe (.int 1) (getS kvs "trays") && gLe (getS kvs "trays") (.int 8)) with q1 | q1
  · simp only [q1, Bool.not_false, if_true] at hp ⊢
    exact ⟨trivial, hp⟩
  have t1 : isI (getS kvs "trays") = true := by simp only [Bool.and_eq_true] at q1; exact q1.1.1
  simp only [q1, Bool.not_true, if_false, Bool.false_eq_true, Bool.true_eq_false, k2, k3, Option.some.injEq, exists_eq_left'] at hp ⊢
  refine ⟨trivial, ?_⟩
  rw [pu4]
  refine ⟨⟨h.get, t1, rfl, .inr rfl⟩, ?_⟩
  simp only [c_MOST_NUMBER]
  walk_at "rt"
  rcases bcase (deedsB (getS kvs "deeds") (getS kvs "trays") (.int 1) (.int 3)) with q2 | q2
  · simp only [q2, Bool.not_false, if_true] at hp ⊢
    exact hp
  simp only [q2, Bool.not_true, if_false, Bool.false_eq_true, Bool.true_eq_false] at hp ⊢
  rw [pu3]
  refine ⟨⟨h.get, t1, .inr rfl⟩, ?_⟩
  simp only [c_MOST_START]
  walk_at "rt"
  rcases bcase (vecB (getS kvs "start") (getS kvs "trays") (.int 99)) with q3 | q3
  · simp only [q3, if_false, Bool.false_eq_true] at hp ⊢
    exact hp
  · simp only [q3, if_true] at hp ⊢
    exact hp
def S_wrong_wide_key : SpD := Pu1 (fun a => Plain a) fun a => wrongB a 0 200 0 .non .non
theorem l_wrong_wide_key : ∀ ds G P X, S_wrong_wide_key ds G P X → T_wrong_wide_key S_is_vector S_are_deeds S_is_between S_has_keys (endsOf P X) ⟨slots ds 1, G⟩ := by
  rintro _ G P X ⟨a, rfl, h, hp⟩
  unfold T_wrong_wide_key S_is_vector S_are_deeds S_is_between S_has_keys
  walk_at "rd"
  rw [pu1]
  refine ⟨h, ?_⟩
  walk_at "rt"
  match a, h, hp with
  | .non, h, hp => exact hp
  | .bl _, h, hp => exact hp
  | .int _, h, hp => exact hp
  | .str _, h, hp => exact hp
  | .tup _, h, hp => exact hp
  | .lst _, h, hp => exact hp
  | .cel _, h, hp => exact hp
  | .exc _ _ _, h, hp => exact hp
  | .dct kvs, h, hp => ?_
  dsimp only [wrongB] at hp
  rcases bcase (keysB (.dct kvs)) with q | q
  · simp only [q, Bool.not_false, if_true] at hp ⊢
    exact hp
  have k1 := keys_of q "trays" (.inl rfl)
  have k2 := keys_of q "deeds" (.inr (.inl rfl))
  have k3 := keys_of q "start" (.inr (.inr rfl))
  simp only [q, Bool.not_true, if_false, Bool.false_eq_true, Bool.true_eq_false] at hp ⊢
  walk_at "rt"
  simp only [k1, Option.some.injEq, exists_eq_left']
  rw [pu3]
  refine ⟨⟨h.get.noCel, rfl, rfl⟩, ?_⟩
  simp only [c_MOST_WIDE_TRAYS]
  rcases bcase (isI (getS kvs "trays") && gLe (.int 0) (getS kvs "trays") && gLe (getS kvs "trays") (.int 200)) with q1 | q1
  · simp only [q1, Bool.not_false, if_true] at hp ⊢
    exact ⟨trivial, hp⟩
  have t1 : isI (getS kvs "trays") = true := by simp only [Bool.and_eq_true] at q1; exact q1.1.1
  simp only [q1, Bool.not_true, if_false, Bool.false_eq_true, Bool.true_eq_false, k2, k3, Option.some.injEq, exists_eq_left'] at hp ⊢
  refine ⟨trivial, ?_⟩
  rw [pu4]
  refine ⟨⟨h.get, t1, rfl, .inl rfl⟩, ?_⟩
  walk_at "rt"
  rcases bcase (deedsB (getS kvs "deeds") (getS kvs "trays") (.int 0) .non) with q2 | q2
  · simp only [q2, Bool.not_false, if_true] at hp ⊢
    exact hp
  simp only [q2, Bool.not_true, if_false, Bool.false_eq_true, Bool.true_eq_false] at hp ⊢
  rw [pu3]
  refine ⟨⟨h.get, t1, .inl rfl⟩, ?_⟩
  walk_at "rt"
  rcases bcase (vecB (getS kvs "start") (getS kvs "trays") .non) with q3 | q3
  · simp only [q3, if_false, Bool.false_eq_true] at hp ⊢
    exact hp
  · simp only [q3, if_true] at hp ⊢
    exact hp

def S_check (A : Addr) (f : Dt → Dt) : SpD := fun ds G P X => ∃ a, ds = [a] ∧ Plain a ∧ (isNonD (f a) = true → P .non topL G) ∧ (isNonD (f a) = false → X A (some [("key", f a)]) G)
theorem l_check_net {A : Addr} : ∀ ds G P X, S_check A (fun a => wrongB a 1 8 1 (.int 3) (.int 99)) ds G P X → T_check_net S_wrong_key A (endsOf P X) ⟨slots ds 1, G⟩ := by
  rintro _ G P X ⟨a, rfl, h, hp, hx⟩
  unfold T_check_net S_wrong_key
  walk_at "rd"
  rw [pu1]
  refine ⟨h, ?_, ?_⟩
  · simp [CN, isNonD]
  · dsimp only [gIsn] at hp hx ⊢
    rcases bcase (isNonD (wrongB a 1 8 1 (.int 3) (.int 99))) with q | q
    · simp only [q, Bool.not_false, if_true]
      exact ⟨by decide, hx q⟩
    · simp only [q, Bool.not_true, if_false, Bool.false_eq_true]
      exact hp q
theorem l_check_wide {A : Addr} : ∀ ds G P X, S_check A (fun a => wrongB a 0 200 0 .non .non) ds G P X → T_check_wide S_wrong_wide_key A (endsOf P X) ⟨slots ds 1, G⟩ := by
  rintro _ G P X ⟨a, rfl, h, hp, hx⟩
  unfold T_check_wide S_wrong_wide_key
  walk_at "rd"
  rw [pu1]
  refine ⟨h, ?_, ?_⟩
  · simp [CN, isNonD]
  · dsimp only [gIsn] at hp hx ⊢
    rcases bcase (isNonD (wrongB a 0 200 0 .non .non)) with q | q
    · simp only [q, Bool.not_false, if_true]
      exact ⟨by decide, hx q⟩
    · simp only [q, Bool.not_true, if_false, Bool.false_eq_true]
      exact hp q
def S_law_number : SpD := Pu3 (fun a b c => noCel a = true ∧ isI b = true ∧ isI c = true) fun a b c => .bl (isI a && gLe b a && gLe a c)
theorem l_law_number : ∀ ds G P X, S_law_number ds G P X → T_law_number (endsOf P X) ⟨slots ds 0, G⟩ := by
  rintro _ G P X ⟨a, b, c, rfl, ⟨h, hb, hc⟩, hp⟩
  obtain ⟨j, rfl⟩ := isI_inv hb
  obtain ⟨k, rfl⟩ := isI_inv hc
  unfold T_law_number
  walk_at "rd"
  refine ⟨h, ?_⟩
  simp only [isi_int_eq, isi_bool_eq]
  cases a <;> simp_all [noCel, isI, gI, CI, lv_bl, tru_bl, ctru_bl]
  rename_i i
  by_cases q : j ≤ i <;> simp_all <;> (try (intro z; omega))
def S_law_whole : SpD := Pu2 (fun a b => noCel a = true ∧ isI b = true) fun a b => .bl (isI a && gLe b a)
theorem l_law_whole : ∀ ds G P X, S_law_whole ds G P X → T_law_whole (endsOf P X) ⟨slots ds 0, G⟩ := by
  rintro _ G P X ⟨a, b, rfl, ⟨h, hb⟩, hp⟩
  obtain ⟨j, rfl⟩ := isI_inv hb
  unfold T_law_whole
  walk_at "rd"
  refine ⟨h, ?_⟩
  simp only [isi_int_eq, isi_bool_eq]
  cases a <;> simp_all [noCel, isI, gI, CI, lv_bl, tru_bl, ctru_bl]
def S_law_is_vector : SpD := Pu3 (fun a t h => Plain a ∧ isI t = true ∧ niD h) fun a t h => .bl (vecB a t h)
theorem neD_int {i j : Int} : neD (.int i) (.int j) = !decide (i = j) := by simp [neD, eqD_int]
theorem l_law_is_vector : ∀ ds G P X, S_law_is_vector ds G P X → T_law_is_vector S_law_whole (endsOf P X) ⟨slots ds 1, G⟩ := by
  rintro _ G P X ⟨a, b, c, rfl, ⟨h, hb, hc⟩, hp⟩
  obtain ⟨j, rfl⟩ := isI_inv hb
  unfold T_law_is_vector S_law_whole
  walk_at "rd"
  refine ⟨h.noCel, ?_⟩
  simp only [isi_tuple_eq]
  match a, h, hp with
  | .non, h, hp => exact ⟨trivial, hp⟩
  | .bl _, h, hp => exact ⟨trivial, hp⟩
  | .int _, h, hp => exact ⟨trivial, hp⟩
  | .str _, h, hp => exact ⟨trivial, hp⟩
  | .lst _, h, hp => exact ⟨trivial, hp⟩
  | .dct _, h, hp => exact ⟨trivial, hp⟩
  | .cel _, h, hp => exact ⟨trivial, hp⟩
  | .exc _ _ _, h, hp => exact ⟨trivial, hp⟩
  | .tup ds, h, hp => ?_
  obtain ⟨h1, h2⟩ := h.tup
  refine ⟨trivial, ?_⟩
  walk_at "rt"
  simp only [lenD, CLen, neD_int, ceq_int, true_and]
  dsimp only [vecB, tupN] at hp
  rcases bcase (decide ((ds.length : Int) = j)) with q | q
  · simp only [q, Bool.not_false, if_true, Bool.false_and] at hp ⊢
    exact hp
  simp only [q, Bool.not_true, if_false, Bool.false_eq_true, Bool.true_and] at hp ⊢
  refine go_filter (I := fun ev => ∃ n m o, ev = ⟨[some (.tup ds, n), some (.int j, m), some (c, o), none], G⟩) (fun d => !(natI d && (isNonD c || gLe d c))) (fun d => d) (fun d hd ev i k hk => ?_) ⟨_, _, _, rfl⟩ (few h1) (fun l ev' i => ?_)
  · obtain ⟨n, m, o, rfl⟩ := i
    walk_at "rd"
    rw [pu2]
    refine ⟨⟨(h2 d hd).noCel, rfl⟩, ?_⟩
    walk_at "rt"
    have e0 : (isI d && gLe (.int 0) d) = natI d := rfl
    simp only [e0]
    rcases bcase (natI d) with z | z
    · simp only [z, Bool.not_false, if_true, Bool.false_and] at hk ⊢
      exact hk _ _ ⟨_, _, _, rfl⟩
    · simp only [z, Bool.not_true, if_false, Bool.false_eq_true, Bool.true_and] at hk ⊢
      refine ⟨rfl, ?_⟩
      obtain ⟨i, rfl, _⟩ := natI_inv z
      rcases hc with rfl | hc
      · simp only [gIsn, isNonD, Bool.not_true, if_false, Bool.false_eq_true, Bool.true_or] at hk ⊢
        exact hk _ _ ⟨_, _, _, rfl⟩
      · obtain ⟨k, rfl⟩ := isI_inv hc
        simp only [gIsn, isNonD, Bool.not_false, if_true, Bool.false_or] at hk ⊢
        refine ⟨trivial, ?_⟩
        have e1 : gGt (.int i) (.int k) = !gLe (.int i) (.int k) := by
          show decide (k < i) = !decide (i ≤ k)
          by_cases z3 : k < i
          · have z4 : ¬ i ≤ k := by omega
            simp [z3, z4]
          · have z4 : i ≤ k := by omega
            simp [z3, z4]
        rw [e1]
        rcases bcase (gLe (.int i) (.int k)) with z2 | z2
        · simp only [z2, Bool.not_false, if_true] at hk ⊢
          exact hk _ _ ⟨_, _, _, rfl⟩
        · simp only [z2, Bool.not_true, if_false, Bool.false_eq_true] at hk ⊢
          exact hk _ _ ⟨_, _, _, rfl⟩
  · obtain ⟨n, m, o, rfl⟩ := i
    simp only [List.map_id', lenD, CLen, ceq_int, eqD_int, true_and]
    have e : decide ((((ds.filter fun d => !(natI d && (isNonD c || gLe d c))).length : Nat) : Int) = 0) = ds.all fun d => natI d && (isNonD c || gLe d c) := by
      refine Bool.eq_iff_iff.mpr ?_
      rw [decide_eq_true_eq, List.all_eq_true]
      constructor
      · intro z d hd
        have z2 : (ds.filter fun d => !(natI d && (isNonD c || gLe d c))).length = 0 := by omega
        have z3 := List.eq_nil_of_length_eq_zero z2
        have z4 := List.filter_eq_nil_iff.mp z3 d hd
        revert z4
        cases natI d <;> cases isNonD c <;> cases gLe d c <;> simp
      · intro z
        have z3 : (ds.filter fun d => !(natI d && (isNonD c || gLe d c))) = [] := List.filter_eq_nil_iff.mpr fun d hd => by simp [z d hd]
        rw [z3]; rfl
    rw [e]
    exact hp
end K01

set_option Elab.async false
set_option linter.all false
set_option maxRecDepth 100000
set_option maxHeartbeats 4000000
namespace K01
open PySem PySem.Spec PyProof.Rows L2 HD
local macro_rules | `(tactic| walk_at "rd") => `(tactic| simp only [dsRet, dFz, dAndV, dOrV, dNotV, dIsiV, dIsi, dCall, dCons, dNil, dFrz, dVV, dEV, dVE, dEE, dBin, dUn, dUV, dU, uB, Has, asB, tt, dAnd, dOr, dNot, dTru, dTruV, dIf, dsIf, dsCons, dsNil, dsSet, dsAsg, dInt, dBl, dNon, dStr, dCon, dIxV, dIx, dTup, dLst, dTupOf, dLstOf, dMax2, dMin2, dI, uInt, dSub, dMod, dDiv, dAdd, uAdd, dMul, uMul, dNeg, dPow, endsOf, gdSt, gdName, dDict0, diSeq, diRange1, diRange2, dLc, dLcK, dsFor, dsForK, Ev.wipe, wipeL, slots, dsOf, List.map_cons, List.map_nil, List.cons_append, List.nil_append, List.replicate, List.getElem?_cons_zero, List.getElem?_cons_succ, List.set_cons_zero, List.set_cons_succ, Option.some.injEq, Prod.mk.injEq, and_assoc, exists_and_left, exists_eq_left', exists_eq_left, exists_eq', Nat.reduceAdd, Nat.reduceSub, List.length_cons, List.length_nil, true_and, goStep, dYes, if_true, if_false, Bool.false_eq_true, dRaise])
local macro_rules | `(tactic| walk_at "rt") => `(tactic| simp only [tru_bl, ctru_bl, lv_bl, lv_int, lv_str, lv_non, lv_tup, lv_lst, lv_dct, ix_tup, ix_lst, ix_dct, ix_cel, at3_0, at3_1, at3_2, exists_eq_left', exists_eq_left, Option.some.injEq, Nat.zero_le, true_or, or_true, true_and, and_true, Bool.not_true, Bool.not_false, if_true, if_false, Bool.false_eq_true, Bool.true_and, Bool.false_and])

def wrongW (a : Dt) (w : Bool) : Dt := if w = true then wrongB a 0 200 0 .non .non else wrongB a 1 8 1 (.int 3) (.int 99)
def S_law_wrong : SpD := fun ds G P _ => ∃ a w, ds = [a, .bl w] ∧ Plain a ∧ P (wrongW a w) (wrongW a w).lv G
theorem l_law_wrong_true : ∀ a G P X, Plain a → P (wrongW a true) (wrongW a true).lv G → T_law_wrong S_law_is_vector S_law_number (endsOf P X) ⟨slots [a, .bl true] 4, G⟩ := by
  intro a G P X h hp
  unfold T_law_wrong S_law_is_vector S_law_number
  walk_at "rd"
  refine ⟨h.noCel, ?_⟩
  simp only [isi_dict_eq]
  match a, h, hp with
  | .non, h, hp => exact ⟨trivial, hp⟩
  | .bl _, h, hp => exact ⟨trivial, hp⟩
  | .int _, h, hp => exact ⟨trivial, hp⟩
  | .str _, h, hp => exact ⟨trivial, hp⟩
  | .lst _, h, hp => exact ⟨trivial, hp⟩
  | .tup _, h, hp => exact ⟨trivial, hp⟩
  | .cel _, h, hp => exact ⟨trivial, hp⟩
  | .exc _ _ _, h, hp => exact ⟨trivial, hp⟩
  | .dct kvs, h, hp => ?_
  refine ⟨trivial, ?_⟩
  walk_at "rt"
  simp only [lenD, CLen, neD_int, ceq_int, true_and]
  simp only [wrongW, if_true, if_false, Bool.false_eq_true, wrongB] at hp
  have kb : keysB (.dct kvs) = (decide ((kvs.length : Int) = 3) && (hasS kvs "trays" && (hasS kvs "deeds" && hasS kvs "start"))) := rfl
  rcases bcase (decide ((kvs.length : Int) = 3)) with q | q
  · simp only [kb, q, Bool.not_false, if_true, Bool.false_and] at hp ⊢
    exact hp
  simp only [q, Bool.not_true, if_false, Bool.false_eq_true, Bool.true_and] at kb ⊢
  refine ⟨few (by decide), ?_⟩
  refine go_filter (I := fun ev => ev = ⟨[some (.dct kvs, 0), some (.bl true, 0), none, none, none, none], G⟩) (fun d => notinD d (.dct kvs)) (fun d => d) (fun d hd ev i k hk => ?_) rfl (few (by decide)) (fun l ev' i => ?_)
  · subst i
    walk_at "rd"
    refine ⟨?_, ?_⟩
    · simp only [List.mem_cons, List.not_mem_nil, or_false] at hd
      rcases hd with rfl | rfl | rfl <;> rfl
    · rcases bcase (notinD d (.dct kvs)) with z | z
      · simp only [z, if_false, Bool.false_eq_true] at hk ⊢
        exact hk _ _ rfl
      · simp only [z, if_true] at hk ⊢
        exact hk _ _ rfl
  subst i
  refine ⟨trivial, ?_⟩
  have e : gGt (.int ((((([Dt.str "trays", .str "deeds", .str "start"] : List Dt).filter fun d => notinD d (.dct kvs)).map fun d => d).length : Nat) : Int)) (.int 0) = !keysB (.dct kvs) := by
    rw [kb]
    have n1 : notinD (.str "trays") (.dct kvs) = !hasS kvs "trays" := rfl
    have n2 : notinD (.str "deeds") (.dct kvs) = !hasS kvs "deeds" := rfl
    have n3 : notinD (.str "start") (.dct kvs) = !hasS kvs "start" := rfl
    simp only [List.filter_cons, List.filter_nil, n1, n2, n3]
    cases hasS kvs "trays" <;> cases hasS kvs "deeds" <;> cases hasS kvs "start" <;> rfl
  simp only [e]
  rcases bcase (keysB (.dct kvs)) with q0 | q0
  · simp only [q0, Bool.not_false, if_true] at hp ⊢
    exact hp
  have k1 := keys_of q0 "trays" (.inl rfl)
  have k2 := keys_of q0 "deeds" (.inr (.inl rfl))
  have k3 := keys_of q0 "start" (.inr (.inr rfl))
  simp only [q0, Bool.not_true, if_false, Bool.false_eq_true, Bool.true_eq_false] at hp ⊢
  walk_at "rd"
  walk_at "rt"
  simp only [k1, k2, k3, Option.some.injEq, exists_eq_left']
  rw [pu3]
  refine ⟨⟨h.get.noCel, rfl, rfl⟩, ?_⟩
  walk_at "rt"
  rcases bcase (isI (getS kvs "trays") && gLe (.int 0) (getS kvs "trays") && gLe (getS kvs "trays") (.int 200)) with q1 | q1
  · simp only [q1, Bool.not_false, if_true] at hp ⊢
    exact hp
  have t1 : isI (getS kvs "trays") = true := by simp only [Bool.and_eq_true] at q1; exact q1.1.1
  simp only [q1, Bool.not_true, if_false, Bool.false_eq_true, Bool.true_eq_false] at hp ⊢
  have h2 := h.get (s := "deeds")
  have h3 := h.get (s := "start")
  generalize getS kvs "deeds" = dd at k2 h2 hp ⊢
  generalize getS kvs "start" = ss at k3 h3 hp ⊢
  generalize getS kvs "trays" = tt at k1 t1 hp ⊢
  refine ⟨h2.noCel, ?_⟩
  simp only [isi_list_eq]
  match dd, h2, hp with
  | .non, h2, hp => exact ⟨trivial, hp⟩
  | .bl _, h2, hp => exact ⟨trivial, hp⟩
  | .int _, h2, hp => exact ⟨trivial, hp⟩
  | .str _, h2, hp => exact ⟨trivial, hp⟩
  | .dct _, h2, hp => exact ⟨trivial, hp⟩
  | .tup _, h2, hp => exact ⟨trivial, hp⟩
  | .cel _, h2, hp => exact absurd h2.noCel (by simp [noCel])
  | .exc _ _ _, h2, hp => exact ⟨trivial, hp⟩
  | .lst rows, h2, hp => ?_
  refine ⟨trivial, ?_⟩
  walk_at "rt"
  have g10 : gGt (.int rows.length) (.int 10) = !gLe (.int rows.length) (.int 10) := by
    show decide ((10 : Int) < rows.length) = !decide ((rows.length : Int) ≤ 10)
    by_cases z : (10 : Int) < rows.length
    · have z2 : ¬ (rows.length : Int) ≤ 10 := by omega
      simp [z, z2]
    · have z2 : (rows.length : Int) ≤ 10 := by omega
      simp [z, z2]
  simp only [deedsB] at hp
  refine ⟨trivial, ?_⟩
  simp only [g10]
  rcases bcase (gLe (.int rows.length) (.int 10)) with q2 | q2
  · simp only [q2, Bool.not_false, if_true, Bool.and_false, Bool.false_and] at hp ⊢
    exact hp
  simp only [q2, Bool.not_true, if_false, Bool.false_eq_true, Bool.and_true] at hp ⊢
  refine ⟨by rw [ceq_int]; trivial, ?_⟩
  simp only [ite_self]
  have g0 : gLe (.int 0) (.int rows.length) = true := by
    show decide ((0 : Int) ≤ rows.length) = true
    exact decide_eq_true (by omega)
  simp only [g0, Bool.true_and] at hp
  have hz : ∀ {d rest}, (rows.all fun d => deedB d tt .non) = (List.all (d :: rest) fun d => deedB d tt .non) → deedB d tt .non = false → P (.str "deeds") topL G := fun {d rest} e1 e2 => by
    rw [e1] at hp
    simp only [List.all_cons, e2, Bool.false_and, Bool.and_false, if_true] at hp
    exact hp
  obtain ⟨f1, f2⟩ := h2.lst
  refine loop_inv (I := fun rest ev => (rows.all fun d => deedB d tt .non) = (rest.all fun d => deedB d tt .non) ∧ (∀ d ∈ rest, Plain d) ∧ ∃ n m o p x, ev = ⟨[some (.dct kvs, 0), some (.bl true, m), n, some (tt, o), some (.lst rows, p), x], G⟩) (fun d rest ev i N hN => ?_) (fun ev i => ?_) rows _ ⟨rfl, f2, _, _, _, _, _, rfl⟩
  · obtain ⟨ha, hpl, n, m, o, p, x, rfl⟩ := i
    have pd := hpl d List.mem_cons_self
    have fail := hz ha
    have next : deedB d tt .non = true → ∀ n m o p x, N ⟨[some (.dct kvs, 0), some (.bl true, m), n, some (tt, o), some (.lst rows, p), x], G⟩ := fun e n m o p x =>
      hN _ ⟨by rw [ha, List.all_cons, e, Bool.true_and], fun d hd => hpl d (List.mem_cons_of_mem _ hd), n, m, o, p, x, rfl⟩
    clear hz hN ha hpl
    walk_at "rd"
    refine ⟨pd.noCel, ?_⟩
    simp only [isi_tuple_eq]
    match d, pd, fail, next with
    | .non, pd, fail, next => exact ⟨trivial, fail rfl⟩
    | .bl _, pd, fail, next => exact ⟨trivial, fail rfl⟩
    | .int _, pd, fail, next => exact ⟨trivial, fail rfl⟩
    | .str _, pd, fail, next => exact ⟨trivial, fail rfl⟩
    | .lst _, pd, fail, next => exact ⟨trivial, fail rfl⟩
    | .dct _, pd, fail, next => exact ⟨trivial, fail rfl⟩
    | .cel _, pd, fail, next => exact ⟨trivial, fail rfl⟩
    | .exc _ _ _, pd, fail, next => exact ⟨trivial, fail rfl⟩
    | .tup ds, pd, fail, next => ?_
    refine ⟨trivial, ?_⟩
    walk_at "rt"
    simp only [lenD, CLen, neD_int, ceq_int, true_and]
    rcases bcase (tupN (.tup ds) (.int 3)) with q3 | q3
    · have e3 : decide ((ds.length : Int) = 3) = false := q3
      simp only [e3, Bool.not_false, if_true]
      exact fail (deed_no q3)
    have e3 : decide ((ds.length : Int) = 3) = true := q3
    simp only [e3, Bool.not_true, if_false, Bool.false_eq_true]
    obtain ⟨s1, s2, s3, e4⟩ := tup3 q3
    cases e4
    have ps := (pd.tup).2 s1 (by simp)
    have px := (pd.tup).2 s2 (by simp)
    have py := (pd.tup).2 s3 (by simp)
    walk_at "rt"
    rw [pu3]
    refine ⟨⟨ps.noCel, rfl, rfl⟩, ?_⟩
    walk_at "rt"
    simp only [deedB] at fail next
    rcases bcase (isI s1 && gLe (.int 0) s1 && gLe s1 (.int 9)) with q4 | q4
    · simp only [q4, Bool.not_false, if_true, Bool.false_and] at fail ⊢
      exact fail trivial
    simp only [q4, Bool.not_true, if_false, Bool.false_eq_true, Bool.true_and] at fail next ⊢
    rw [pu3]
    refine ⟨⟨px, t1, .inl rfl⟩, ?_⟩
    walk_at "rt"
    rcases bcase (vecB s2 tt .non) with q5 | q5
    · simp only [q5, Bool.not_false, if_true, Bool.false_and] at fail ⊢
      exact fail trivial
    simp only [q5, Bool.not_true, if_false, Bool.false_eq_true, Bool.true_and] at fail next ⊢
    rw [pu3]
    refine ⟨⟨py, t1, .inl rfl⟩, ?_⟩
    walk_at "rt"
    rcases bcase (vecB s3 tt .non) with q6 | q6
    · simp only [q6, Bool.not_false, if_true] at fail ⊢
      exact fail trivial
    simp only [q6, Bool.not_true, if_false, Bool.false_eq_true] at next ⊢
    exact next trivial _ _ _ _ _
  · obtain ⟨ha, _, n, m, o, p, x, rfl⟩ := i
    simp only [ha, List.all_nil, Bool.and_true, Bool.true_eq_false, if_false] at hp
    walk_at "rd"
    walk_at "rt"
    simp only [k3, Option.some.injEq, exists_eq_left']
    rw [pu3]
    refine ⟨⟨h3, t1, .inl rfl⟩, ?_⟩
    walk_at "rt"
    rcases bcase (vecB ss tt .non) with q7 | q7
    · simp only [q7, if_false, Bool.false_eq_true] at hp ⊢
      exact hp
    · simp only [q7, if_true] at hp ⊢
      exact hp
theorem l_law_wrong_false : ∀ a G P X, Plain a → P (wrongW a false) (wrongW a false).lv G → T_law_wrong S_law_is_vector S_law_number (endsOf P X) ⟨slots [a, .bl false] 4, G⟩ := by
  intro a G P X h hp
  unfold T_law_wrong S_law_is_vector S_law_number
  walk_at "rd"
  refine ⟨h.noCel, ?_⟩
  simp only [isi_dict_eq]
  match a, h, hp with
  | .non, h, hp => exact ⟨trivial, hp⟩
  | .bl _, h, hp => exact ⟨trivial, hp⟩
  | .int _, h, hp => exact ⟨trivial, hp⟩
  | .str _, h, hp => exact ⟨trivial, hp⟩
  | .lst _, h, hp => exact ⟨trivial, hp⟩
  | .tup _, h, hp => exact ⟨trivial, hp⟩
  | .cel _, h, hp => exact ⟨trivial, hp⟩
  | .exc _ _ _, h, hp => exact ⟨trivial, hp⟩
  | .dct kvs, h, hp => ?_
  refine ⟨trivial, ?_⟩
  walk_at "rt"
  simp only [lenD, CLen, neD_int, ceq_int, true_and]
  simp only [wrongW, if_true, if_false, Bool.false_eq_true, wrongB] at hp
  have kb : keysB (.dct kvs) = (decide ((kvs.length : Int) = 3) && (hasS kvs "trays" && (hasS kvs "deeds" && hasS kvs "start"))) := rfl
  rcases bcase (decide ((kvs.length : Int) = 3)) with q | q
  · simp only [kb, q, Bool.not_false, if_true, Bool.false_and] at hp ⊢
    exact hp
  simp only [q, Bool.not_true, if_false, Bool.false_eq_true, Bool.true_and] at kb ⊢
  refine ⟨few (by decide), ?_⟩
  refine go_filter (I := fun ev => ev = ⟨[some (.dct kvs, 0), some (.bl false, 0), none, none, none, none], G⟩) (fun d => notinD d (.dct kvs)) (fun d => d) (fun d hd ev i k hk => ?_) rfl (few (by decide)) (fun l ev' i => ?_)
  · subst i
    walk_at "rd"
    refine ⟨?_, ?_⟩
    · simp only [List.mem_cons, List.not_mem_nil, or_false] at hd
      rcases hd with rfl | rfl | rfl <;> rfl
    · rcases bcase (notinD d (.dct kvs)) with z | z
      · simp only [z, if_false, Bool.false_eq_true] at hk ⊢
        exact hk _ _ rfl
      · simp only [z, if_true] at hk ⊢
        exact hk _ _ rfl
  subst i
  refine ⟨trivial, ?_⟩
  have e : gGt (.int ((((([Dt.str "trays", .str "deeds", .str "start"] : List Dt).filter fun d => notinD d (.dct kvs)).map fun d => d).length : Nat) : Int)) (.int 0) = !keysB (.dct kvs) := by
    rw [kb]
    have n1 : notinD (.str "trays") (.dct kvs) = !hasS kvs "trays" := rfl
    have n2 : notinD (.str "deeds") (.dct kvs) = !hasS kvs "deeds" := rfl
    have n3 : notinD (.str "start") (.dct kvs) = !hasS kvs "start" := rfl
    simp only [List.filter_cons, List.filter_nil, n1, n2, n3]
    cases hasS kvs "trays" <;> cases hasS kvs "deeds" <;> cases hasS kvs "start" <;> rfl
  simp only [e]
  rcases bcase (keysB (.dct kvs)) with q0 | q0
  · simp only [q0, Bool.not_false, if_true] at hp ⊢
    exact hp
  have k1 := keys_of q0 "trays" (.inl rfl)
  have k2 := keys_of q0 "deeds" (.inr (.inl rfl))
  have k3 := keys_of q0 "start" (.inr (.inr rfl))
  simp only [q0, Bool.not_true, if_false, Bool.false_eq_true, Bool.true_eq_false] at hp ⊢
  walk_at "rd"
  walk_at "rt"
  simp only [k1, k2, k3, Option.some.injEq, exists_eq_left']
  rw [pu3]
  refine ⟨⟨h.get.noCel, rfl, rfl⟩, ?_⟩
  walk_at "rt"
  rcases bcase (isI (getS kvs "trays") && gLe (.int 1) (getS kvs "trays") && gLe (getS kvs "trays") (.int 8)) with q1 | q1
  · simp only [q1, Bool.not_false, if_true] at hp ⊢
    exact hp
  have t1 : isI (getS kvs "trays") = true := by simp only [Bool.and_eq_true] at q1; exact q1.1.1
  simp only [q1, Bool.not_true, if_false, Bool.false_eq_true, Bool.true_eq_false] at hp ⊢
  have h2 := h.get (s := "deeds")
  have h3 := h.get (s := "start")
  generalize getS kvs "deeds" = dd at k2 h2 hp ⊢
  generalize getS kvs "start" = ss at k3 h3 hp ⊢
  generalize getS kvs "trays" = tt at k1 t1 hp ⊢
  refine ⟨h2.noCel, ?_⟩
  simp only [isi_list_eq]
  match dd, h2, hp with
  | .non, h2, hp => exact ⟨trivial, hp⟩
  | .bl _, h2, hp => exact ⟨trivial, hp⟩
  | .int _, h2, hp => exact ⟨trivial, hp⟩
  | .str _, h2, hp => exact ⟨trivial, hp⟩
  | .dct _, h2, hp => exact ⟨trivial, hp⟩
  | .tup _, h2, hp => exact ⟨trivial, hp⟩
  | .cel _, h2, hp => exact absurd h2.noCel (by simp [noCel])
  | .exc _ _ _, h2, hp => exact ⟨trivial, hp⟩
  | .lst rows, h2, hp => ?_
  refine ⟨trivial, ?_⟩
  walk_at "rt"
  have g10 : gGt (.int rows.length) (.int 10) = !gLe (.int rows.length) (.int 10) := by
    show decide ((10 : Int) < rows.length) = !decide ((rows.length : Int) ≤ 10)
    by_cases z : (10 : Int) < rows.length
    · have z2 : ¬ (rows.length : Int) ≤ 10 := by omega
      simp [z, z2]
    · have z2 : (rows.length : Int) ≤ 10 := by omega
      simp [z, z2]
  simp only [deedsB] at hp
  refine ⟨trivial, ?_⟩
  simp only [g10]
  rcases bcase (gLe (.int rows.length) (.int 10)) with q2 | q2
  · simp only [q2, Bool.not_false, if_true, Bool.and_false, Bool.false_and] at hp ⊢
    exact hp
  simp only [q2, Bool.not_true, if_false, Bool.false_eq_true, Bool.and_true] at hp ⊢
  refine ⟨by rw [ceq_int]; trivial, ?_⟩
  have g0 : gLe (.int 1) (.int rows.length) = !eqD (.int rows.length) (.int 0) := by
    rw [eqD_int]
    show decide ((1 : Int) ≤ rows.length) = _
    by_cases z : (rows.length : Int) = 0
    · have z2 : ¬ (1 : Int) ≤ rows.length := by omega
      rw [decide_eq_false z2, decide_eq_true z]; rfl
    · have z2 : (1 : Int) ≤ rows.length := by omega
      rw [decide_eq_true z2, decide_eq_false z]; rfl
  simp only [g0] at hp
  rcases bcase (eqD (.int rows.length) (.int 0)) with q8 | q8
  case inr =>
    simp only [q8, Bool.not_true, Bool.false_and, if_true] at hp ⊢
    exact hp
  simp only [q8, Bool.not_false, Bool.true_and, if_false, Bool.false_eq_true] at hp ⊢
  have hz : ∀ {d rest}, (rows.all fun d => deedB d tt (.int 3)) = (List.all (d :: rest) fun d => deedB d tt (.int 3)) → deedB d tt (.int 3) = false → P (.str "deeds") topL G := fun {d rest} e1 e2 => by
    rw [e1] at hp
    simp only [List.all_cons, e2, Bool.false_and, Bool.and_false, if_true] at hp
    exact hp
  obtain ⟨f1, f2⟩ := h2.lst
  refine loop_inv (I := fun rest ev => (rows.all fun d => deedB d tt (.int 3)) = (rest.all fun d => deedB d tt (.int 3)) ∧ (∀ d ∈ rest, Plain d) ∧ ∃ n m o p x, ev = ⟨[some (.dct kvs, 0), some (.bl false, m), n, some (tt, o), some (.lst rows, p), x], G⟩) (fun d rest ev i N hN => ?_) (fun ev i => ?_) rows _ ⟨rfl, f2, _, _, _, _, _, rfl⟩
  · obtain ⟨ha, hpl, n, m, o, p, x, rfl⟩ := i
    have pd := hpl d List.mem_cons_self
    have fail := hz ha
    have next : deedB d tt (.int 3) = true → ∀ n m o p x, N ⟨[some (.dct kvs, 0), some (.bl false, m), n, some (tt, o), some (.lst rows, p), x], G⟩ := fun e n m o p x =>
      hN _ ⟨by rw [ha, List.all_cons, e, Bool.true_and], fun d hd => hpl d (List.mem_cons_of_mem _ hd), n, m, o, p, x, rfl⟩
    clear hz hN ha hpl
    walk_at "rd"
    refine ⟨pd.noCel, ?_⟩
    simp only [isi_tuple_eq]
    match d, pd, fail, next with
    | .non, pd, fail, next => exact ⟨trivial, fail rfl⟩
    | .bl _, pd, fail, next => exact ⟨trivial, fail rfl⟩
    | .int _, pd, fail, next => exact ⟨trivial, fail rfl⟩
    | .str _, pd, fail, next => exact ⟨trivial, fail rfl⟩
    | .lst _, pd, fail, next => exact ⟨trivial, fail rfl⟩
    | .dct _, pd, fail, next => exact ⟨trivial, fail rfl⟩
    | .cel _, pd, fail, next => exact ⟨trivial, fail rfl⟩
    | .exc _ _ _, pd, fail, next => exact ⟨trivial, fail rfl⟩
    | .tup ds, pd, fail, next => ?_
    refine ⟨trivial, ?_⟩
    walk_at "rt"
    simp only [lenD, CLen, neD_int, ceq_int, true_and]
    rcases bcase (tupN (.tup ds) (.int 3)) with q3 | q3
    · have e3 : decide ((ds.length : Int) = 3) = false := q3
      simp only [e3, Bool.not_false, if_true]
      exact fail (deed_no q3)
    have e3 : decide ((ds.length : Int) = 3) = true := q3
    simp only [e3, Bool.not_true, if_false, Bool.false_eq_true]
    obtain ⟨s1, s2, s3, e4⟩ := tup3 q3
    cases e4
    have ps := (pd.tup).2 s1 (by simp)
    have px := (pd.tup).2 s2 (by simp)
    have py := (pd.tup).2 s3 (by simp)
    walk_at "rt"
    rw [pu3]
    refine ⟨⟨ps.noCel, rfl, rfl⟩, ?_⟩
    walk_at "rt"
    simp only [deedB] at fail next
    rcases bcase (isI s1 && gLe (.int 0) s1 && gLe s1 (.int 9)) with q4 | q4
    · simp only [q4, Bool.not_false, if_true, Bool.false_and] at fail ⊢
      exact fail trivial
    simp only [q4, Bool.not_true, if_false, Bool.false_eq_true, Bool.true_and] at fail next ⊢
    rw [pu3]
    refine ⟨⟨px, t1, .inr rfl⟩, ?_⟩
    walk_at "rt"
    rcases bcase (vecB s2 tt (.int 3)) with q5 | q5
    · simp only [q5, Bool.not_false, if_true, Bool.false_and] at fail ⊢
      exact fail trivial
    simp only [q5, Bool.not_true, if_false, Bool.false_eq_true, Bool.true_and] at fail next ⊢
    rw [pu3]
    refine ⟨⟨py, t1, .inr rfl⟩, ?_⟩
    walk_at "rt"
    rcases bcase (vecB s3 tt (.int 3)) with q6 | q6
    · simp only [q6, Bool.not_false, if_true] at fail ⊢
      exact fail trivial
    simp only [q6, Bool.not_true, if_false, Bool.false_eq_true] at next ⊢
    exact next trivial _ _ _ _ _
  · obtain ⟨ha, _, n, m, o, p, x, rfl⟩ := i
    simp only [ha, List.all_nil, Bool.and_true, Bool.true_eq_false, if_false] at hp
    walk_at "rd"
    walk_at "rt"
    simp only [k3, Option.some.injEq, exists_eq_left']
    rw [pu3]
    refine ⟨⟨h3, t1, .inr rfl⟩, ?_⟩
    walk_at "rt"
    rcases bcase (vecB ss tt (.int 99)) with q7 | q7
    · simp only [q7, if_false, Bool.false_eq_true] at hp ⊢
      exact hp
    · simp only [q7, if_true] at hp ⊢
      exact hp
theorem l_law_wrong : ∀ ds G P X, S_law_wrong ds G P X → T_law_wrong S_law_is_vector S_law_number (endsOf P X) ⟨slots ds 4, G⟩ := by
  rintro _ G P X ⟨a, w, rfl, h, hp⟩
  cases w
  · exact l_law_wrong_false a G P X h hp
  · exact l_law_wrong_true a G P X h hp
end K01

set_option Elab.async false
set_option linter.all false
set_option maxRecDepth 100000
set_option maxHeartbeats 4000000
namespace K01
open PySem PySem.Spec PyProof.Rows L2 HD
local macro_rules | `(tactic| walk_at "rd") => `(tactic| simp only [dsRet, dFz, dAndV, dOrV, dNotV, dIsiV, dIsi, dCall, dCons, dNil, dFrz, dVV, dEV, dVE, dEE, dBin, dUn, dUV, dU, uB, Has, asB, tt, dAnd, dOr, dNot, dTru, dTruV, dIf, dsIf, dsCons, dsNil, dsSet, dsAsg, dInt, dBl, dNon, dStr, dCon, dIxV, dIx, dTup, dLst, dTupOf, dLstOf, dMax2, dMin2, dI, uInt, dSub, dMod, dDiv, dAdd, uAdd, dMul, uMul, dNeg, dPow, endsOf, gdSt, gdName, dDict0, diSeq, diRange1, diRange2, dLc, dLcK, dsFor, dsForK, Ev.wipe, wipeL, slots, dsOf, List.map_cons, List.map_nil, List.cons_append, List.nil_append, List.replicate, List.getElem?_cons_zero, List.getElem?_cons_succ, List.set_cons_zero, List.set_cons_succ, Option.some.injEq, Prod.mk.injEq, and_assoc, exists_and_left, exists_eq_left', exists_eq_left, exists_eq', Nat.reduceAdd, Nat.reduceSub, List.length_cons, List.length_nil, true_and, goStep, dYes, if_true, if_false, Bool.false_eq_true, dRaise])
local macro_rules | `(tactic| walk_at "rt") => `(tactic| simp only [tru_bl, ctru_bl, lv_bl, lv_int, lv_str, lv_non, lv_tup, lv_lst, lv_dct, ix_tup, ix_lst, ix_dct, at3_0, at3_1, at3_2, exists_eq_left', exists_eq_left, Option.some.injEq, Nat.zero_le, true_or, or_true, true_and, and_true, Bool.not_true, Bool.not_false, if_true, if_false, Bool.false_eq_true, Bool.true_and, Bool.false_and])

/-! ## the stream -/
def StOk (n : Nat) (c : List Dt) : Prop := ∃ (ns : List Int) (d : Int) (k : Nat), c = [.lst (ns.map Dt.int), .int d, .int k] ∧ 0 ≤ d ∧ k ≤ n
def GOk (n : Nat) (G : Gs) : Prop := ∃ c, G = [c] ∧ StOk n c
theorem GOk.mono {n m G} (h : GOk n G) (k : n ≤ m) : GOk m G := by
  obtain ⟨c, rfl, ns, d, k', rfl, h1, h2⟩ := h
  exact ⟨_, rfl, ns, d, k', rfl, h1, Nat.le_trans h2 k⟩
theorem log2_small {n k : Nat} (h : n < 2 ^ k) (hk : 0 < k) : n.log2 < k := by
  by_cases z : n = 0
  · subst z; simpa using hk
  · exact (Nat.log2_lt z).mpr h
theorem cmul_small {i j : Int} (hi : i.natAbs < 2 ^ 200) (hj : j.natAbs < 2 ^ 200) : CMulW i j := by
  have a := log2_small hi (by decide)
  have b := log2_small hj (by decide)
  unfold CMulW
  omega
theorem ints_at {ns : List Int} {k : Nat} (h : k < ns.length) : ∃ i, atI (ns.map Dt.int) (k : Int) = some (.int i) := by
  refine ⟨ns[k], ?_⟩
  have h1 : (0 : Int) ≤ k := by omega
  have h2 : ((k : Int) : Int) < ((ns.map Dt.int).length : Nat) := by rw [List.length_map]; omega
  unfold atI ixN
  rw [if_pos h1, if_pos h2]
  simp [h]
def S_law_next : SpD := fun ds G P _ => ∃ (m : Int) (n : Nat), ds = [.cel 0, .int m] ∧ 0 < m ∧ m < 2 ^ 64 ∧ n < 1000000 ∧ GOk n G ∧ ∀ v G', 0 ≤ v → v < m → GOk (n + 1) G' → P (.int v) topL G'
theorem c3_0 {x y z : Dt} : atI [x, y, z] 0 = some x := rfl
theorem c3_1 {x y z : Dt} : atI [x, y, z] 1 = some y := rfl
theorem c3_2 {x y z : Dt} : atI [x, y, z] 2 = some z := rfl
theorem g1_0 {α : Type} {x : α} : [x][0]? = some x := rfl
theorem ix0_0 {G : Gs} {x y z : Dt} {P : Dt → Prop} : ixD ([x, y, z] :: G) (.cel 0) (.int 0) P = P x := by
  show (∃ ds c, ([x, y, z] :: G)[0]? = some ds ∧ atI ds 0 = some c ∧ P c) = P x
  simp [atI, ixN]
theorem ix0_1 {G : Gs} {x y z : Dt} {P : Dt → Prop} : ixD ([x, y, z] :: G) (.cel 0) (.int 1) P = P y := by
  show (∃ ds c, ([x, y, z] :: G)[0]? = some ds ∧ atI ds 1 = some c ∧ P c) = P y
  simp [atI, ixN]
theorem ix0_2 {G : Gs} {x y z : Dt} {P : Dt → Prop} : ixD ([x, y, z] :: G) (.cel 0) (.int 2) P = P z := by
  show (∃ ds c, ([x, y, z] :: G)[0]? = some ds ∧ atI ds 2 = some c ∧ P c) = P z
  simp [atI, ixN]
theorem st0_1 {r : List Sv} {G : Gs} {x y z d : Dt} {m n : Nat} {P : Ev → Prop} : stD ⟨r, [x, y, z] :: G⟩ 0 (.cel 0) m (.int 1) d n P = P ⟨r, [x, d, z] :: G⟩ := by
  show (∃ ds q, ([x, y, z] :: G)[0]? = some ds ∧ ixN ds.length 1 = some q ∧ P ⟨r, ([x, y, z] :: G).set 0 (ds.set q d)⟩) = _
  simp [ixN]
theorem st0_2 {r : List Sv} {G : Gs} {x y z d : Dt} {m n : Nat} {P : Ev → Prop} : stD ⟨r, [x, y, z] :: G⟩ 0 (.cel 0) m (.int 2) d n P = P ⟨r, [x, y, d] :: G⟩ := by
  show (∃ ds q, ([x, y, z] :: G)[0]? = some ds ∧ ixN ds.length 2 = some q ∧ P ⟨r, ([x, y, z] :: G).set 0 (ds.set q d)⟩) = _
  simp [ixN]
local macro_rules | `(tactic| walk_at "rc") => `(tactic| simp only [ix0_0, ix0_1, ix0_2, st0_1, st0_2, Option.some.injEq, exists_eq_left', exists_eq_left, true_and, and_true, lv_int, lv_bl, ceq_int, eqD_int, lenD, CLen, CI, CInt1, CNum, absD, HD.intD, gI, decide_eq_true_eq, ix_lst])
theorem ix3_1 : ixN 3 1 = some 1 := rfl
theorem ix3_2 : ixN 3 2 = some 2 := rfl
theorem m30 {a b : Int} (hb : 0 < b) : 0 ≤ a % b := Int.emod_nonneg _ (by omega)
theorem ab_nn (i : Int) : (0 : Int) ≤ if i < 0 then -i else i := by split <;> omega
theorem na_small {i b : Int} (h0 : 0 ≤ i) (h : i < b) (hb : b.natAbs ≤ 2 ^ 200) : i.natAbs < 2 ^ 200 := by omega
theorem cp64 : CPow 10 64 := by unfold CPow; decide
theorem cp18 : CPow 10 18 := by unfold CPow; decide
theorem cm1 : CMulW (10 ^ Int.toNat 64) (10 ^ Int.toNat 64) := by unfold CMulW; decide +kernel
theorem cm2 : CMulW (10 ^ Int.toNat 64 * 10 ^ Int.toNat 64) (10 ^ Int.toNat 64) := by unfold CMulW; decide +kernel
theorem big0 : (0 : Int) < 10 ^ Int.toNat 64 * 10 ^ Int.toNat 64 * 10 ^ Int.toNat 64 := by decide +kernel
theorem flat_int {i : Int} : (Dt.int i).flat = true := rfl
theorem cdiv_small {i m : Int} (h : 0 < m) (h2 : m < 2 ^ 64) : CDivW i m := ⟨h, Nat.lt_of_lt_of_le (log2_small (k := 64) (by omega) (by decide)) (by decide)⟩
theorem l_law_next : ∀ ds G P X, S_law_next ds G P X → T_law_next (endsOf P X) ⟨slots ds 3, G⟩ := by
  rintro _ G P X ⟨m, n, rfl, hm, hm2, hn, ⟨c, rfl, ns, d, k, rfl, hd, hk⟩, hp⟩
  unfold T_law_next
  generalize hg : List.map Dt.int ns = L
  refine ds_seq (Q := fun ev => ∃ x y s2 s3 dd kk, ev = ⟨[some (.cel 0, x), some (.int m, y), s2, s3, none], [[.lst L, .int dd, .int kk]]⟩ ∧ 0 ≤ dd ∧ 0 ≤ kk ∧ kk ≤ (n : Int) + 1) (fun N hN => ?_) (fun ev hq => ?_)
  · refine ds_ifq (Q := fun b ev => b = decide (d = 0) ∧ ev = ⟨[some (.cel 0, 0), some (.int m, 0), none, none, none], [[.lst L, .int d, .int k]]⟩) (fun N1 h1 => ?_) ?_ ?_
    · walk_at "rd"
      try walk_at "rt"
      try walk_at "rc"
      exact h1 _ _ ⟨rfl, rfl⟩
    · rintro _ ⟨_, rfl⟩
      -- k = stream[2]
      refine ds_seq (Q := fun ev => ev = ⟨[some (.cel 0, 0), some (.int m, 0), some (.int k, topL), none, none], [[.lst L, .int d, .int k]]⟩) (fun N1 h1 => ?_) ?_
      · walk_at "rd"
        try walk_at "rt"
        try walk_at "rc"
        exact h1 _ rfl
      rintro _ rfl
      -- cell = 7 + k
      refine ds_seq (Q := fun ev => ev = ⟨[some (.cel 0, 0), some (.int m, 0), some (.int k, topL), some (.int (7 + k), topL), none], [[.lst L, .int d, .int k]]⟩) (fun N1 h1 => ?_) ?_
      · walk_at "rd"
        try walk_at "rt"
        exact h1 _ rfl
      rintro _ rfl
      refine ds_seq (Q := fun ev => ∃ c' : Int, 0 ≤ c' ∧ ev = ⟨[some (.cel 0, 0), some (.int m, 0), some (.int k, topL), some (.int c', topL), none], [[.lst L, .int d, .int k]]⟩) (fun N1 h1 => ?_) ?_
      · refine ds_ifq (Q := fun b ev => b = decide ((k : Int) < L.length) ∧ ev = ⟨[some (.cel 0, 0), some (.int m, 0), some (.int k, topL), some (.int (7 + k), topL), none], [[.lst L, .int d, .int k]]⟩) (fun N2 h2 => ?_) ?_ ?_
        · walk_at "rd"
          try walk_at "rt"
          try walk_at "rc"
          exact h2 _ _ ⟨rfl, rfl⟩
        · rintro _ ⟨hb, rfl⟩
          have hb := of_decide_eq_true hb.symm
          have hl : k < ns.length := by rw [← hg, List.length_map] at hb; omega
          obtain ⟨i, ei⟩ := ints_at hl
          rw [hg] at ei
          walk_at "rd"
          try walk_at "rt"
          try walk_at "rc"
          simp only [ei, Option.some.injEq, exists_eq_left']
          exact ⟨trivial, trivial, cp64, cp64, cm1, cp64, cm2, big0, h1 _ ⟨_, m30 big0, rfl⟩⟩
        · rintro _ ⟨hb, rfl⟩
          exact h1 _ ⟨_, by omega, rfl⟩
      rintro _ ⟨c', hc, rfl⟩
      refine ds_seq (Q := fun ev => ∃ c' : Int, 0 ≤ c' ∧ ev = ⟨[some (.cel 0, 0), some (.int m, 0), some (.int k, topL), some (.int c', topL), none], [[.lst L, .int d, .int k]]⟩) (fun N1 h1 => ?_) ?_
      · refine ds_ifq (Q := fun b ev => b = decide (c' < 10 ^ 18) ∧ ev = ⟨[some (.cel 0, 0), some (.int m, 0), some (.int k, topL), some (.int c', topL), none], [[.lst L, .int d, .int k]]⟩) (fun N2 h2 => ?_) ?_ ?_
        · walk_at "rd"
          try walk_at "rt"
          try walk_at "rc"
          exact ⟨cp18, h2 _ _ ⟨rfl, rfl⟩⟩
        · rintro _ ⟨hb, rfl⟩
          have hb := of_decide_eq_true hb.symm
          refine ds_seq (Q := fun ev => ∃ c' : Int, 0 ≤ c' ∧ c' < 2147483647 ∧ ev = ⟨[some (.cel 0, 0), some (.int m, 0), some (.int k, topL), some (.int c', topL), none], [[.lst L, .int d, .int k]]⟩) (fun N2 h2 => ?_) ?_
          · walk_at "rd"
            try walk_at "rt"
            try walk_at "rc"
            refine ⟨cmul_small (by omega) (by decide), cmul_small (by omega) (by decide), by decide, h2 _ ⟨_, m30 (by decide), Int.emod_lt_of_pos _ (by decide), rfl⟩⟩
          · rintro _ ⟨c2, g1, g2, rfl⟩
            walk_at "rd"
            try walk_at "rt"
            try walk_at "rc"
            refine ⟨cmul_small (by omega) (by decide), by decide, cmul_small ?_ (by decide), h1 _ ⟨_, ?_, rfl⟩⟩
            · have e1 : 0 ≤ (c2 * 16807 + 13) % 2147483647 := m30 (by decide)
              have e2 : (c2 * 16807 + 13) % 2147483647 < 2147483647 := Int.emod_lt_of_pos _ (by decide)
              omega
            · have e1 : 0 ≤ (c2 * 16807 + 13) % 2147483647 := m30 (by decide)
              omega
        · rintro _ ⟨hb, rfl⟩
          exact h1 _ ⟨_, hc, rfl⟩
      rintro _ ⟨c3, hc3, rfl⟩
      refine ds_seq (Q := fun ev => ev = ⟨[some (.cel 0, 0), some (.int m, 0), some (.int k, topL), some (.int c3, topL), none], [[.lst L, .int c3, .int k]]⟩) (fun N1 h1 => ?_) ?_
      · walk_at "rd"
        try walk_at "rt"
        try walk_at "rc"
        exact h1 _ rfl
      rintro _ rfl
      walk_at "rd"
      try walk_at "rt"
      try walk_at "rc"
      exact hN _ ⟨_, _, _, _, c3, (k : Int) + 1, rfl, hc3, by omega, by omega⟩
    · rintro _ ⟨_, rfl⟩
      exact hN _ ⟨_, _, _, _, _, _, rfl, hd, by omega, by omega⟩
  · obtain ⟨x, y, s2, s3, dd, kk, rfl, h1, h2, h3⟩ := hq
    walk_at "rd"
    try walk_at "rt"
    walk_at "rc"
    simp only [flat_int, or_true, true_and, List.getElem?_cons_zero, List.getElem?_cons_succ, Option.some.injEq, Prod.mk.injEq, and_assoc, exists_and_left, exists_eq_left', lv_int]
    refine ⟨hm, cdiv_small hm hm2, hp _ _ (Int.emod_nonneg _ (by omega)) (Int.emod_lt_of_pos _ hm) ⟨_, rfl, ns, dd / m, kk.toNat, ?_, Int.ediv_nonneg h1 (by omega), by omega⟩⟩
    rw [hg, Int.toNat_of_nonneg h2]
end K01

set_option Elab.async false
set_option linter.all false
set_option maxRecDepth 100000
set_option maxHeartbeats 4000000
namespace K01
open PySem PySem.Spec PyProof.Rows L2 HD
local macro_rules | `(tactic| walk_at "rd") => `(tactic| simp only [dsRet, dFz, dAndV, dOrV, dNotV, dIsiV, dIsi, dCall, dCons, dNil, dFrz, dVV, dEV, dVE, dEE, dBin, dUn, dUV, dU, uB, Has, asB, tt, dAnd, dOr, dNot, dTru, dTruV, dIf, dsIf, dsCons, dsNil, dsSet, dsAsg, dInt, dBl, dNon, dStr, dCon, dIxV, dIx, dTup, dLst, dTupOf, dLstOf, dMax2, dMin2, dI, uInt, dSub, dMod, dDiv, dAdd, uAdd, dMul, uMul, dNeg, dPow, endsOf, gdSt, gdName, dDict0, diSeq, diRange1, diRange2, dLc, dLcK, dsFor, dsForK, Ev.wipe, wipeL, slots, dsOf, List.map_cons, List.map_nil, List.cons_append, List.nil_append, List.replicate, List.getElem?_cons_zero, List.getElem?_cons_succ, List.set_cons_zero, List.set_cons_succ, Option.some.injEq, Prod.mk.injEq, and_assoc, exists_and_left, exists_eq_left', exists_eq_left, exists_eq', Nat.reduceAdd, Nat.reduceSub, List.length_cons, List.length_nil, true_and, goStep, dYes, if_true, if_false, Bool.false_eq_true, dRaise])
local macro_rules | `(tactic| walk_at "rt") => `(tactic| simp only [tru_bl, ctru_bl, lv_bl, lv_int, lv_str, lv_non, lv_tup, lv_lst, lv_dct, ix_tup, ix_lst, ix_dct, at3_0, at3_1, at3_2, exists_eq_left', exists_eq_left, Option.some.injEq, Nat.zero_le, true_or, or_true, true_and, and_true, Bool.not_true, Bool.not_false, if_true, if_false, Bool.false_eq_true, Bool.true_and, Bool.false_and])
local macro_rules | `(tactic| walk_at "rc") => `(tactic| simp only [ix0_0, ix0_1, ix0_2, st0_1, st0_2, Option.some.injEq, exists_eq_left', exists_eq_left, true_and, and_true, lv_int, lv_bl, ceq_int, eqD_int, lenD, CLen, CI, CInt1, CNum, absD, HD.intD, gI, decide_eq_true_eq, ix_lst])

def S_law_pick : SpD := fun ds G P _ => ∃ (rows : List Dt) (n : Nat), (ds = [.cel 0, .tup rows] ∨ ds = [.cel 0, .lst rows]) ∧ 0 < rows.length ∧ rows.length < 1000 ∧ n < 1000000 ∧ GOk n G ∧ ∀ d ∈ rows, ∀ G', GOk (n + 1) G' → P d d.lv G'
theorem at_in {rows : List Dt} {v : Int} (h0 : 0 ≤ v) (h1 : v < rows.length) : ∃ d, atI rows v = some d ∧ d ∈ rows := by
  have h2 : v.toNat < rows.length := by omega
  refine ⟨rows[v.toNat], ?_, List.getElem_mem h2⟩
  unfold atI ixN
  rw [if_pos h0, if_pos h1]
  simp [h2]
theorem l_law_pick : ∀ ds G P X, S_law_pick ds G P X → T_law_pick S_law_next (endsOf P X) ⟨slots ds 0, G⟩ := by
  rintro _ G P X ⟨rows, n, hds, h1, h2, hn, hG, hp⟩
  unfold T_law_pick
  rcases hds with rfl | rfl <;>
  · walk_at "rd"
    refine ⟨trivial, ?_⟩
    simp only [lenD]
    refine ⟨(rows.length : Int), n, rfl, by omega, by omega, hn, hG, fun v G' v0 v1 hG' => ?_⟩
    obtain ⟨d, e, m⟩ := at_in v0 v1
    walk_at "rt"
    exact ⟨d, e, hp d m G' hG'⟩
def S_law_from : SpD := fun ds G P _ => ∃ (lo hi : Int) (n : Nat), ds = [.cel 0, .int lo, .int hi] ∧ lo ≤ hi ∧ hi - lo < 2 ^ 60 ∧ n < 1000000 ∧ GOk n G ∧ ∀ v G', lo ≤ v → v ≤ hi → GOk (n + 1) G' → P (.int v) topL G'
theorem l_law_from : ∀ ds G P X, S_law_from ds G P X → T_law_from S_law_next (endsOf P X) ⟨slots ds 0, G⟩ := by
  rintro _ G P X ⟨lo, hi, n, rfl, h1, h2, hn, hG, hp⟩
  unfold T_law_from
  walk_at "rd"
  refine ⟨hi - lo + 1, n, rfl, by omega, by omega, hn, hG, fun v G' v0 v1 hG' => ?_⟩
  walk_at "rt"
  exact hp _ G' (by omega) (by omega) hG'
def S_law_drawn : SpD := fun ds G P _ => ∃ (t : Int) (rows : List Dt) (n : Nat), ds = [.cel 0, .int t, .tup rows] ∧ 0 ≤ t ∧ t ≤ 1000 ∧ 0 < rows.length ∧ rows.length < 1000 ∧ n + 1000 < 1000000 ∧ GOk n G ∧ ∀ ys G', ys.length = t.toNat → (∀ y ∈ ys, y ∈ rows) → GOk (n + 1000) G' → P (.tup ys) 0 G'
theorem rangeD_len {lo : Int} {n : Nat} : (rangeD lo n).length = n := by simp [rangeD]
theorem l_law_drawn : ∀ ds G P X, S_law_drawn ds G P X → T_law_drawn S_law_pick (endsOf P X) ⟨slots ds 1, G⟩ := by
  rintro _ G P X ⟨t, rows, n, rfl, h1, h2, h3, h4, hn, hG, hp⟩
  unfold T_law_drawn
  walk_at "rd"
  refine ⟨⟨by omega, by omega⟩, ?_⟩
  refine go_allN (I := fun j ev => ∃ x y z G', ev = ⟨[some (.cel 0, x), some (.int t, y), some (.tup rows, z), none], G'⟩ ∧ GOk (n + j) G') (j := 0) 1000 (fun d => d ∈ rows) (fun d hd j ev hj i k hk => ?_) ⟨_, _, _, _, rfl, hG⟩ ?_ ?_ (fun ys l ev' hl hy i => ?_)
  · obtain ⟨x, y, z, G', rfl, hG'⟩ := i
    walk_at "rd"
    exact ⟨rows, n + j, .inl rfl, h3, h4, by omega, hG', fun d' hd' G2 hG2 => hk _ _ _ hd' ⟨_, _, _, _, rfl, hG2⟩⟩
  · rw [rangeD_len]; omega
  · rw [rangeD_len]; rw [sizeLine_eq]; show 0 + _ ≤ _; omega
  · obtain ⟨x, y, z, G', rfl, hG'⟩ := i
    rw [rangeD_len] at hl hG'
    exact hp ys G' (by omega) hy (hG'.mono (by omega))
end K01

set_option Elab.async false
set_option linter.all false
set_option maxRecDepth 100000
set_option maxHeartbeats 4000000
namespace K01
open PySem PySem.Spec PyProof.Rows L2 HD
local macro_rules | `(tactic| walk_at "rd") => `(tactic| simp only [dsRet, dFz, dAndV, dOrV, dNotV, dIsiV, dIsi, dCall, dCons, dNil, dFrz, dVV, dEV, dVE, dEE, dBin, dUn, dUV, dU, uB, Has, asB, tt, dAnd, dOr, dNot, dTru, dTruV, dIf, dsIf, dsCons, dsNil, dsSet, dsAsg, dInt, dBl, dNon, dStr, dCon, dIxV, dIx, dTup, dLst, dTupOf, dLstOf, dMax2, dMin2, dI, uInt, dSub, dMod, dDiv, dAdd, uAdd, dMul, uMul, dNeg, dPow, endsOf, gdSt, gdName, dDict0, diSeq, diRange1, diRange2, dLc, dLcK, dsFor, dsForK, Ev.wipe, wipeL, slots, dsOf, List.map_cons, List.map_nil, List.cons_append, List.nil_append, List.replicate, List.getElem?_cons_zero, List.getElem?_cons_succ, List.set_cons_zero, List.set_cons_succ, Option.some.injEq, Prod.mk.injEq, and_assoc, exists_and_left, exists_eq_left', exists_eq_left, exists_eq', Nat.reduceAdd, Nat.reduceSub, List.length_cons, List.length_nil, true_and, goStep, dYes, if_true, if_false, Bool.false_eq_true, dRaise])
local macro_rules | `(tactic| walk_at "rt") => `(tactic| simp only [tru_bl, ctru_bl, lv_bl, lv_int, lv_str, lv_non, lv_tup, lv_lst, lv_dct, ix_tup, ix_lst, ix_dct, at3_0, at3_1, at3_2, exists_eq_left', exists_eq_left, Option.some.injEq, Nat.zero_le, true_or, or_true, true_and, and_true, Bool.not_true, Bool.not_false, if_true, if_false, Bool.false_eq_true, Bool.true_and, Bool.false_and])
local macro_rules | `(tactic| walk_at "rc") => `(tactic| simp only [ix0_0, ix0_1, ix0_2, st0_1, st0_2, Option.some.injEq, exists_eq_left', exists_eq_left, true_and, and_true, lv_int, lv_bl, ceq_int, eqD_int, lenD, CLen, CI, CInt1, CNum, absD, HD.intD, gI, decide_eq_true_eq, ix_lst])

mutual
def sz : Dt → Nat
  | .tup ds => 1 + szs ds
  | .lst ds => 1 + szs ds
  | .dct kvs => 1 + szk kvs
  | _ => 1
def szs : List Dt → Nat
  | [] => 0
  | d :: r => sz d + szs r
def szk : List (Key × Dt) → Nat
  | [] => 0
  | kv :: r => sz kv.2 + szk r
end
theorem szs_app : ∀ a b : List Dt, szs (a ++ b) = szs a + szs b
  | [], b => by simp [szs]
  | d :: a, b => by simp [szs, szs_app a b]; omega
theorem szk_app : ∀ a b : List (Key × Dt), szk (a ++ b) = szk a + szk b
  | [], b => by simp [szk]
  | d :: a, b => by simp [szk, szk_app a b]; omega
theorem szs_le {m : Nat} : ∀ {a : List Dt}, (∀ d ∈ a, sz d ≤ m) → szs a ≤ a.length * m
  | [], _ => by simp [szs]
  | d :: a, h => by
    have h1 := h d List.mem_cons_self
    have h2 := szs_le (a := a) fun x hx => h x (List.mem_cons_of_mem _ hx)
    simp only [szs, List.length_cons]
    rw [Nat.add_mul]
    omega
theorem sz_pos : ∀ d : Dt, 1 ≤ sz d
  | .tup _ | .lst _ | .dct _ => by simp [sz]
  | .non | .bl _ | .int _ | .str _ | .cel _ | .exc _ _ _ => by simp [sz]
theorem sz_mem : ∀ {a : List Dt} {d : Dt}, d ∈ a → sz d ≤ szs a
  | _ :: a, d, h => by
    simp only [szs]
    rcases List.mem_cons.mp h with e | h
    · rw [e]; omega
    · have := sz_mem h; omega
theorem len_szs : ∀ a : List Dt, a.length ≤ szs a
  | [] => Nat.le_refl _
  | d :: a => by have := sz_pos d; have := len_szs a; simp only [szs, List.length_cons]; omega
def Vd (n s : Nat) (d : Dt) : Prop := Pl n d ∧ sz d ≤ s
theorem intT {ys : List Dt} (h : ∀ y ∈ ys, isI y = true) (hl : ys.length ≤ 1000) (n : Nat) : Pl (n + 1) (.tup ys) ∧ sz (.tup ys) ≤ 1 + ys.length := by
  have hi : ∀ y ∈ ys, Pl n y ∧ sz y ≤ 1 := fun y hy => by
    obtain ⟨i, rfl⟩ := isI_inv (h y hy)
    exact ⟨by cases n <;> rfl, by simp [sz]⟩
  refine ⟨⟨by omega, fun y hy => (hi y hy).1⟩, ?_⟩
  have := szs_le (m := 1) fun y hy => (hi y hy).2
  simp only [sz]
  omega
def S_law_base : SpD := fun ds G P _ => ∃ n, ds = [.cel 0] ∧ n + 25000 < 1000000 ∧ GOk n G ∧ ∀ v G', Vd 6 2000 v → GOk (n + 25000) G' → P v v.lv G'
theorem l_law_base : ∀ ds G P X, S_law_base ds G P X → T_law_base S_law_drawn S_law_next S_law_pick S_law_from (endsOf P X) ⟨slots ds 6, G⟩ := by
  rintro _ G P X ⟨n, rfl, hn, hG, hp⟩
  unfold T_law_base
  refine ds_seq (Q := fun ev => ∃ x0 x1 x2 x3 x4 t m rows fill G', ev = ⟨[some (.cel 0, x0), some (.int t, x1), some (.int m, x2), some (.tup rows, x3), some (.tup fill, x4), none, none], G'⟩ ∧ 0 ≤ t ∧ t ≤ 200 ∧ 0 ≤ m ∧ m ≤ 11 ∧ (20 < t → m ≤ 2) ∧
    (0 < rows.length ∧ rows.length < 10 ∧ ∀ y ∈ rows, isI y = true) ∧ (0 < fill.length ∧ fill.length < 10 ∧ ∀ y ∈ fill, isI y = true) ∧ GOk (n + 10) G') (fun N hN => ?_) ?_
  · refine ds_ifq (Q := fun b ev => ∃ x0 G', ev = ⟨[some (.cel 0, x0), none, none, none, none, none, none], G'⟩ ∧ GOk (n + 1) G') (fun N1 h1 => ?_) ?_ ?_
    · walk_at "rd"
      refine ⟨3, n, rfl, by decide, by decide, by omega, hG, fun v G1 v0 v1 hG1 => ?_⟩
      exact ⟨trivial, h1 _ _ ⟨_, _, rfl, hG1⟩⟩
    · rintro _ ⟨x0, G1, rfl, hG1⟩
      walk_at "rd"
      refine ⟨1, 8, n + 1, rfl, by decide, by decide, by omega, hG1, fun v G2 v0 v1 hG2 => ?_⟩
      refine ⟨by rw [sizeLine_eq]; decide, _, n + 2, .inl rfl, by simp, by simp, by omega, hG2, fun d hd G3 hG3 => ?_⟩
      obtain ⟨t, rfl, t0, t1⟩ : ∃ t, d = .int t ∧ 0 ≤ t ∧ t ≤ 8 := by
        simp only [List.mem_cons, List.not_mem_nil, or_false] at hd
        rcases hd with rfl | rfl | rfl <;> exact ⟨_, rfl, by omega, by omega⟩
      refine ⟨1, 10, n + 3, rfl, by decide, by decide, by omega, hG3, fun v G4 v0 v1 hG4 => ?_⟩
      refine ⟨by rw [sizeLine_eq]; decide, _, n + 4, .inl rfl, by simp, by simp, by omega, hG4, fun d hd G5 hG5 => ?_⟩
      obtain ⟨m, rfl, m0, m1⟩ : ∃ t, d = .int t ∧ 0 ≤ t ∧ t ≤ 10 := by
        simp only [List.mem_cons, List.not_mem_nil, or_false] at hd
        rcases hd with rfl | rfl | rfl <;> exact ⟨_, rfl, by omega, by omega⟩
      refine ⟨4, n + 5, rfl, by decide, by decide, by omega, hG5, fun v G6 v0 v1 hG6 => ?_⟩
      refine ⟨by rw [sizeLine_eq]; decide, 100, n + 6, rfl, by decide, by decide, by omega, hG6, fun v2 G7 v20 v21 hG7 => ?_⟩
      refine ⟨by rw [sizeLine_eq]; decide, hN _ ⟨_, _, _, _, _, t, m, _, _, _, rfl, by omega, by omega, by omega, by omega, by omega, ⟨by simp, by simp, ?_⟩, ⟨by simp, by simp, ?_⟩, hG7.mono (by omega)⟩⟩
      · intro y hy
        simp only [List.mem_cons, List.not_mem_nil, or_false] at hy
        rcases hy with rfl | rfl | rfl | rfl <;> rfl
      · intro y hy
        simp only [List.mem_cons, List.not_mem_nil, or_false] at hy
        rcases hy with rfl | rfl | rfl <;> rfl
    · rintro _ ⟨x0, G1, rfl, hG1⟩
      refine ds_seq (Q := fun ev => ∃ x0 t x1 G', ev = ⟨[some (.cel 0, x0), some (.int t, x1), none, none, none, none, none], G'⟩ ∧ 0 ≤ t ∧ t ≤ 200 ∧ GOk (n + 3) G') (fun N1 h1 => ?_) ?_
      · walk_at "rd"
        refine ⟨12, n + 1, rfl, by decide, by decide, by omega, hG1, fun v G2 v0 v1 hG2 => ?_⟩
        refine ⟨by rw [sizeLine_eq]; decide, _, n + 2, .inl rfl, by simp, by simp, by omega, hG2, fun d hd G3 hG3 => ?_⟩
        obtain ⟨t, rfl, t0, t1⟩ : ∃ t, d = .int t ∧ 0 ≤ t ∧ t ≤ 200 := by
          simp only [List.mem_cons, List.not_mem_nil, or_false] at hd
          rcases hd with rfl | rfl | rfl | rfl | rfl <;> exact ⟨_, rfl, by omega, by omega⟩
        exact h1 _ ⟨_, _, _, _, rfl, t0, t1, hG3⟩
      rintro _ ⟨x0, t, x1, G1, rfl, t0, t1, hG1⟩
      refine ds_seq (Q := fun ev => ∃ x0 x1 m x2 G', ev = ⟨[some (.cel 0, x0), some (.int t, x1), some (.int m, x2), none, none, none, none], G'⟩ ∧ 0 ≤ m ∧ m ≤ 11 ∧ (20 < t → m ≤ 2) ∧ GOk (n + 5) G') (fun N1 h1 => ?_) ?_
      · walk_at "rd"
        refine ⟨trivial, ?_⟩
        by_cases q : 20 < t
        · rw [if_pos (show gGt (.int t) (.int 20) = true from decide_eq_true q)]
          refine ⟨by rw [sizeLine_eq]; decide, _, n + 3, .inl rfl, by simp, by simp, by omega, hG1, fun d hd G3 hG3 => ?_⟩
          obtain ⟨m, rfl, m0, m1⟩ : ∃ t, d = .int t ∧ 0 ≤ t ∧ t ≤ 2 := by
            simp only [List.mem_cons, List.not_mem_nil, or_false] at hd
            rcases hd with rfl | rfl | rfl <;> exact ⟨_, rfl, by omega, by omega⟩
          exact h1 _ ⟨_, _, _, _, _, rfl, by omega, by omega, fun _ => m1, hG3.mono (by omega)⟩
        · rw [if_neg (show ¬ gGt (.int t) (.int 20) = true from fun z => q (of_decide_eq_true z))]
          refine ⟨11, n + 3, rfl, by decide, by decide, by omega, hG1, fun v G2 v0 v1 hG2 => ?_⟩
          refine ⟨by rw [sizeLine_eq]; decide, _, n + 4, .inl rfl, by simp, by simp, by omega, hG2, fun d hd G3 hG3 => ?_⟩
          obtain ⟨m, rfl, m0, m1⟩ : ∃ t, d = .int t ∧ 0 ≤ t ∧ t ≤ 11 := by
            simp only [List.mem_cons, List.not_mem_nil, or_false] at hd
            rcases hd with rfl | rfl | rfl <;> exact ⟨_, rfl, by omega, by omega⟩
          exact h1 _ ⟨_, _, _, _, _, rfl, by omega, by omega, fun h => absurd h q, hG3⟩
      rintro _ ⟨x0, x1, m, x2, G1, rfl, m0, m1, tm, hG1⟩
      walk_at "rd"
      refine ⟨by unfold CPow; decide, 1000, n + 5, rfl, by decide, by decide, by omega, hG1, fun v G2 v0 v1 hG2 => ?_⟩
      walk_at "rd"
      refine ⟨by rw [sizeLine_eq]; decide, by unfold CPow; decide, 1000, n + 6, rfl, by decide, by decide, by omega, hG2, fun v2 G3 v20 v21 hG3 => ?_⟩
      walk_at "rd"
      refine ⟨by rw [sizeLine_eq]; decide, hN _ ⟨_, _, _, _, _, t, m, _, _, _, rfl, by omega, by omega, by omega, by omega, tm, ⟨by simp, by simp, ?_⟩, ⟨by simp, by simp, ?_⟩, hG3.mono (by omega)⟩⟩
      · intro y hy
        simp only [List.mem_cons, List.not_mem_nil, or_false] at hy
        rcases hy with rfl | rfl | rfl | rfl | rfl <;> rfl
      · intro y hy
        simp only [List.mem_cons, List.not_mem_nil, or_false] at hy
        rcases hy with rfl | rfl | rfl <;> rfl
  · rintro _ ⟨x0, x1, x2, x3, x4, t, m, rows, fill, G1, rfl, t0, t1, m0, m1, tm, ⟨r0, r1, r2⟩, ⟨f0, f1, f2⟩, hG1⟩
    have tn : t.toNat ≤ 200 := by omega
    refine ds_seq (Q := fun ev => ∃ x0 x1 x2 x3 x4 x5 deeds G', ev = ⟨[some (.cel 0, x0), some (.int t, x1), some (.int m, x2), some (.tup rows, x3), some (.tup fill, x4), some (.lst deeds, x5), none], G'⟩ ∧
      deeds.length = m.toNat ∧ (∀ d ∈ deeds, Pl 2 d ∧ sz d ≤ 4 + 2 * t.toNat) ∧ GOk (n + 23000) G') (fun N hN => ?_) ?_
    · walk_at "rd"
      refine ⟨⟨by omega, by omega⟩, ?_⟩
      refine go_allN (I := fun j ev => ∃ x0 x1 x2 x3 x4 G', ev = ⟨[some (.cel 0, x0), some (.int t, x1), some (.int m, x2), some (.tup rows, x3), some (.tup fill, x4), none, none], G'⟩ ∧ GOk (n + 10 + 2002 * j) G') (j := 0) 11 (fun d => Pl 2 d ∧ sz d ≤ 4 + 2 * t.toNat) (fun d hd j ev hj i k hk => ?_) ⟨_, _, _, _, _, _, rfl, hG1⟩ ?_ ?_ (fun ys l ev' hl hy i => ?_)
      · obtain ⟨x0, x1, x2, x3, x4, G', rfl, hG'⟩ := i
        walk_at "rd"
        refine ⟨10, n + 10 + 2002 * j, rfl, by decide, by decide, by omega, hG', fun v G2 v0 v1 hG2 => ?_⟩
        refine ⟨by rw [sizeLine_eq]; decide, _, n + 10 + 2002 * j + 1, .inl rfl, by simp, by simp, by omega, hG2, fun d1 hd1 G3 hG3 => ?_⟩
        have i1 : isI d1 = true := by
          simp only [List.mem_cons, List.not_mem_nil, or_false] at hd1
          rcases hd1 with rfl | rfl | rfl <;> rfl
        refine ⟨t, rows, n + 10 + 2002 * j + 2, rfl, by omega, by omega, r0, by omega, by omega, hG3, fun ys G4 hl hy hG4 => ?_⟩
        refine ⟨t, rows, n + 10 + 2002 * j + 1002, rfl, by omega, by omega, r0, by omega, by omega, hG4.mono (by omega), fun ys2 G5 hl2 hy2 hG5 => ?_⟩
        refine ⟨by rw [sizeLine_eq]; decide, hk _ _ _ ?_ ⟨_, _, _, _, _, _, rfl, hG5.mono (by omega)⟩⟩
        obtain ⟨e1, e2⟩ := intT (ys := ys) (fun y h => r2 y (hy y h)) (by omega) 0
        obtain ⟨e3, e4⟩ := intT (ys := ys2) (fun y h => r2 y (hy2 y h)) (by omega) 0
        obtain ⟨i, rfl⟩ := isI_inv i1
        refine ⟨⟨by simp, fun d hd => ?_⟩, ?_⟩
        · simp only [List.mem_cons, List.not_mem_nil, or_false] at hd
          rcases hd with rfl | rfl | rfl
          · rfl
          · exact e1
          · exact e3
        · simp only [sz, szs] at e2 e4 ⊢
          omega
      · rw [rangeD_len]; omega
      · rw [rangeD_len, sizeLine_eq]; show 0 + _ ≤ _; omega
      · obtain ⟨x0, x1, x2, x3, x4, G', rfl, hG'⟩ := i
        rw [rangeD_len] at hl hG'
        refine hN _ ⟨_, _, _, _, _, _, _, _, rfl, hl, hy, hG'.mono (by omega)⟩
    · rintro _ ⟨x0, x1, x2, x3, x4, x5, deeds, G2, rfl, hl, hy, hG2⟩
      walk_at "rd"
      simp only [dDict, dPairs, keysOf]
      walk_at "rd"
      refine ⟨t, fill, n + 23000, rfl, t0, by omega, f0, by omega, by omega, hG2, fun ys G3 hl2 hy2 hG3 => hp _ _ ⟨?_, ?_⟩ (hG3.mono (by omega))⟩
      · obtain ⟨e1, _⟩ := intT (ys := ys) (fun y h => f2 y (hy2 y h)) (by omega) 4
        have e2 : Pl 5 (.lst deeds) := ⟨by omega, fun d hd => (hy d hd).1.mono (by decide)⟩
        refine ⟨show 3 ≤ 100000 by decide, fun kv hkv => ?_, show ([.inr "trays", .inr "deeds", .inr "start"] : List Key).Nodup by decide⟩
        simp only [dctOf, List.zip_cons_cons, List.zip_nil_right, List.map_cons, List.map_nil, List.mem_cons, List.not_mem_nil, or_false] at hkv
        rcases hkv with rfl | rfl | rfl
        · exact ⟨⟨_, rfl⟩, rfl⟩
        · exact ⟨⟨_, rfl⟩, e2⟩
        · exact ⟨⟨_, rfl⟩, e1⟩
      · obtain ⟨_, e1⟩ := intT (ys := ys) (fun y h => f2 y (hy2 y h)) (by omega) 4
        have e2 := szs_le fun d hd => (hy d hd).2
        have e3 : deeds.length * (4 + 2 * t.toNat) ≤ 1000 := by
          by_cases q : 20 < t
          · have := tm q
            exact Nat.le_trans (Nat.mul_le_mul (show deeds.length ≤ 2 by omega) (show 4 + 2 * t.toNat ≤ 404 by omega)) (by decide)
          · exact Nat.le_trans (Nat.mul_le_mul (show deeds.length ≤ 11 by omega) (show 4 + 2 * t.toNat ≤ 44 by omega)) (by decide)
        simp only [dctOf, List.zip_cons_cons, List.zip_nil_right, List.map_cons, List.map_nil, sz, szk] at e1 ⊢
        omega
/-! ## changed values -/
theorem Pl.get {n : Nat} {kvs : List (Key × Dt)} {k : Key} {d : Dt} (h : Pl (n + 1) (.dct kvs)) (e : lookD k kvs = some d) : Pl n d := by
  obtain ⟨k', m⟩ := lookD_mem e
  exact (h.2.1 _ m).2
theorem sz_get {kvs : List (Key × Dt)} {k : Key} {d : Dt} (e : lookD k kvs = some d) : sz d ≤ szk kvs := by
  obtain ⟨k', m⟩ := lookD_mem e
  clear e
  induction kvs with
  | nil => cases m
  | cons x r ih =>
    simp only [szk]
    rcases List.mem_cons.mp m with e | m
    · rw [← e]; show sz d ≤ sz d + _; omega
    · have := ih m; omega
theorem look_at {n : Nat} {kvs : List (Key × Dt)} (h : (kvs.map (·.1)).Nodup) {kv : Key × Dt} (m : kv ∈ kvs) : lookD kv.1 kvs = some kv.2 := by
  unfold lookD
  induction kvs with
  | nil => cases m
  | cons x r ih =>
    rw [List.map_cons, List.nodup_cons] at h
    rw [List.find?_cons]
    rcases List.mem_cons.mp m with e | m
    · subst e; simp
    · have ne : ¬ x.1 = kv.1 := fun e => h.1 (e ▸ List.mem_map_of_mem m)
      simp only [ne, decide_false]
      exact ih h.2 m
theorem put_new {kvs : List (Key × Dt)} {k : Key} {v : Dt} (h : k ∉ kvs.map (·.1)) : putD kvs k v = kvs ++ [(k, v)] := by
  unfold putD
  rw [if_neg]
  intro z
  obtain ⟨x, m, e⟩ := List.any_eq_true.mp z
  exact h ((of_decide_eq_true e) ▸ List.mem_map_of_mem m)
theorem put_keys {kvs : List (Key × Dt)} {k : Key} {v : Dt} (h : (kvs.map (·.1)).Nodup) : ((putD kvs k v).map (·.1)).Nodup := by
  by_cases q : k ∈ kvs.map (·.1)
  · unfold putD
    rw [if_pos (by
      obtain ⟨x, m, e⟩ := List.mem_map.mp q
      exact List.any_eq_true.mpr ⟨x, m, decide_eq_true e⟩)]
    have e : (kvs.map fun kv => if kv.1 = k then (kv.1, v) else kv).map (·.1) = kvs.map (·.1) := by
      rw [List.map_map]
      refine List.map_congr_left fun x _ => ?_
      by_cases z : x.1 = k <;> simp [z]
    rw [e]; exact h
  · rw [put_new q, List.map_append]
    refine List.nodup_append.mpr ⟨h, by simp, fun a ha b hb e => ?_⟩
    simp at hb
    rw [e, hb] at ha
    exact q ha
theorem put_mem {kvs : List (Key × Dt)} {k : Key} {v : Dt} {kv : Key × Dt} (h : kv ∈ putD kvs k v) : kv ∈ kvs ∨ kv = (k, v) := by
  unfold putD at h
  split at h
  · obtain ⟨x, m, e⟩ := List.mem_map.mp h
    split at e
    · rename_i q; rw [← e, q]; exact .inr rfl
    · rw [← e]; exact .inl m
  · rcases List.mem_append.mp h with m | m
    · exact .inl m
    · exact .inr (by simpa using m)
theorem put_len {kvs : List (Key × Dt)} {k : Key} {v : Dt} : (putD kvs k v).length ≤ kvs.length + 1 := by
  unfold putD
  split <;> simp
theorem put_sz {kvs : List (Key × Dt)} {k : Key} {v : Dt} (h : (kvs.map (·.1)).Nodup) : szk (putD kvs k v) ≤ szk kvs + sz v := by
  by_cases q : k ∈ kvs.map (·.1)
  · unfold putD
    rw [if_pos (by
      obtain ⟨x, m, e⟩ := List.mem_map.mp q
      exact List.any_eq_true.mpr ⟨x, m, decide_eq_true e⟩)]
    clear q
    induction kvs with
    | nil => simp [szk]
    | cons x r ih =>
      rw [List.map_cons, List.nodup_cons] at h
      simp only [List.map_cons, szk]
      by_cases z : x.1 = k
      · have e : (r.map fun kv => if kv.1 = k then (kv.1, v) else kv) = r := by
          conv => rhs; rw [← List.map_id r]
          refine List.map_congr_left fun y hy => ?_
          have ne : ¬ y.1 = k := fun e => h.1 (by rw [z, ← e]; exact List.mem_map_of_mem hy)
          simp [ne]
        rw [e]; simp [z]; omega
      · have := ih h.2
        simp [z]; omega
  · rw [put_new q, szk_app]; simp [szk]
theorem len_szk : ∀ a : List (Key × Dt), a.length ≤ szk a
  | [] => Nat.le_refl _
  | d :: a => by have := sz_pos d.2; have := len_szk a; simp only [szk, List.length_cons]; omega
end K01

set_option Elab.async false
set_option linter.all false
set_option maxRecDepth 100000
set_option maxHeartbeats 4000000
namespace K01
open PySem PySem.Spec PyProof.Rows L2 HD
local macro_rules | `(tactic| walk_at "rd") => `(tactic| simp only [dsRet, dFz, dAndV, dOrV, dNotV, dIsiV, dIsi, dCall, dCons, dNil, dFrz, dVV, dEV, dVE, dEE, dBin, dUn, dUV, dU, uB, Has, asB, tt, dAnd, dOr, dNot, dTru, dTruV, dIf, dsIf, dsCons, dsNil, dsSet, dsAsg, dInt, dBl, dNon, dStr, dCon, dIxV, dIx, dTup, dLst, dTupOf, dLstOf, dMax2, dMin2, dI, uInt, dSub, dMod, dDiv, dAdd, uAdd, dMul, uMul, dNeg, dPow, endsOf, gdSt, gdName, dDict0, diSeq, diRange1, diRange2, dLc, dLcK, dsFor, dsForK, Ev.wipe, wipeL, slots, dsOf, List.map_cons, List.map_nil, List.cons_append, List.nil_append, List.replicate, List.getElem?_cons_zero, List.getElem?_cons_succ, List.set_cons_zero, List.set_cons_succ, Option.some.injEq, Prod.mk.injEq, and_assoc, exists_and_left, exists_eq_left', exists_eq_left, exists_eq', Nat.reduceAdd, Nat.reduceSub, List.length_cons, List.length_nil, true_and, goStep, dYes, if_true, if_false, Bool.false_eq_true, dRaise])
local macro_rules | `(tactic| walk_at "rt") => `(tactic| simp only [tru_bl, ctru_bl, lv_bl, lv_int, lv_str, lv_non, lv_tup, lv_lst, lv_dct, ix_tup, ix_lst, ix_dct, at3_0, at3_1, at3_2, exists_eq_left', exists_eq_left, Option.some.injEq, Nat.zero_le, true_or, or_true, true_and, and_true, Bool.not_true, Bool.not_false, if_true, if_false, Bool.false_eq_true, Bool.true_and, Bool.false_and])
local macro_rules | `(tactic| walk_at "rc") => `(tactic| simp only [ix0_0, ix0_1, ix0_2, st0_1, st0_2, Option.some.injEq, exists_eq_left', exists_eq_left, true_and, and_true, lv_int, lv_bl, ceq_int, eqD_int, lenD, CLen, CI, CInt1, CNum, absD, HD.intD, gI, decide_eq_true_eq, ix_lst])

theorem Pl.keys {n : Nat} {kvs : List (Key × Dt)} (h : Pl (n + 1) (.dct kvs)) {kv : Key × Dt} (m : kv ∈ kvs) : ∃ s : Str, kv.1 = .inr s := (h.2.1 kv m).1
theorem nd_app {a b : List (Key × Dt)} {x : Key × Dt} (h : ((a ++ x :: b).map (·.1)).Nodup) : x.1 ∉ a.map (·.1) := by
  rw [List.map_append, List.map_cons] at h
  intro z
  exact (List.nodup_append.mp h).2.2 _ z _ List.mem_cons_self rfl
theorem st_dct {ev : Ev} {j m n : Nat} {kvs : List (Key × Dt)} {s : Str} {d : Dt} {P : Ev → Prop} : stD ev j (.dct kvs) m (.str s) d n P = (1 ≤ m ∧ kvs.length < sizeLine ∧ P ⟨ev.r.set j (some (.dct (putD kvs (.inr s) d), 1)), ev.G⟩) := rfl
theorem few2 {n : Nat} (h : n ≤ 100000) : n < sizeLine := by rw [sizeLine_eq]; omega
def S_law_with : SpD := fun ds G P _ => ∃ kvs k part n s s2, ds = [.dct kvs, .str k, part] ∧ Vd (n + 1) s (.dct kvs) ∧ Vd n s2 part ∧ s ≤ 50000 ∧ ∀ kvs', Vd (n + 1) (s + s2) (.dct kvs') → P (.dct kvs') 0 G
theorem l_law_with : ∀ ds G P X, S_law_with ds G P X → T_law_with (endsOf P X) ⟨slots ds 2, G⟩ := by
  rintro _ G P X ⟨kvs, k, part, n, s, s2, rfl, ⟨hv, hs⟩, ⟨hv2, hs2⟩, hb, hp⟩
  unfold T_law_with
  have hlen : kvs.length ≤ 50000 := by have := len_szk kvs; simp only [sz] at hs; omega
  refine ds_seq (Q := fun ev => ev = ⟨[some (.dct kvs, 0), some (.str k, 0), some (part, 0), some (.dct [], topL), none], G⟩) (fun N hN => ?_) ?_
  · walk_at "rd"
    exact hN _ rfl
  rintro _ rfl
  refine ds_seq (Q := fun ev => ∃ l x, 1 ≤ l ∧ ev = ⟨[some (.dct kvs, 0), some (.str k, 0), some (part, 0), some (.dct kvs, l), x], G⟩) (fun N hN => ?_) ?_
  · walk_at "rd"
    refine ⟨kvs, rfl, ?_⟩
    refine loop_inv (I := fun rest ev => ∃ don r l x, rest = keysD r ∧ don ++ r = kvs ∧ 1 ≤ l ∧ ev = ⟨[some (.dct kvs, 0), some (.str k, 0), some (part, 0), some (.dct don, l), x], G⟩) (fun d rest ev i N1 h1 => ?_) (fun ev i => ?_) _ _ ⟨[], kvs, topL, none, rfl, rfl, by decide, rfl⟩
    · obtain ⟨don, r, l, x, e, hd, hl, rfl⟩ := i
      match r, e with
      | kv :: r', e =>
        obtain ⟨s3, e3⟩ := hv.keys (kv := kv) (by rw [← hd]; simp)
        obtain ⟨e1, e2⟩ := List.cons.inj e
        subst e1
        subst e2
        obtain ⟨kk, v⟩ := kv
        simp only at e3
        subst e3
        have look : lookD (.inr s3) kvs = some v := look_at (n := n) hv.2.2 (kv := (.inr s3, v)) (by rw [← hd]; simp)
        have new : putD don (.inr s3) v = don ++ [(.inr s3, v)] := put_new (nd_app (b := r') (x := (.inr s3, v)) (by rw [hd]; exact hv.2.2))
        have few3 : don.length ≤ 50000 := by have : don.length ≤ kvs.length := by rw [← hd]; simp
                                             omega
        simp only [keyDt]
        walk_at "rd"
        walk_at "rt"
        simp only [look, Option.some.injEq, exists_eq_left', List.getElem?_cons_zero, List.getElem?_cons_succ, List.set_cons_zero, List.set_cons_succ, Prod.mk.injEq, and_assoc, exists_and_left, st_dct, new]
        exact ⟨hl, few2 (by omega), h1 _ ⟨_, r', 1, _, rfl, by rw [List.append_assoc]; exact hd, by decide, rfl⟩⟩
    · obtain ⟨don, r, l, x, e, hd, hl, rfl⟩ := i
      match r, e with
      | [], _ =>
        rw [List.append_nil] at hd
        subst hd
        exact hN _ ⟨l, x, hl, rfl⟩
  rintro _ ⟨l, x, hl, rfl⟩
  walk_at "rd"
  walk_at "rt"
  simp only [st_dct]
  refine ⟨hl, few2 (by omega), ?_⟩
  walk_at "rd"
  walk_at "rt"
  refine hp _ ⟨⟨Nat.le_trans put_len (by omega), fun kv m => ?_, put_keys hv.2.2⟩, ?_⟩
  · rcases put_mem m with m | rfl
    · exact hv.2.1 kv m
    · exact ⟨⟨_, rfl⟩, hv2⟩
  · have := put_sz (k := .inr k) (v := part) hv.2.2
    simp only [sz] at hs ⊢
    omega
def S_law_without : SpD := fun ds G P _ => ∃ kvs k n s, ds = [.dct kvs, .str k] ∧ Vd (n + 1) s (.dct kvs) ∧ s ≤ 50000 ∧ ∀ kvs', Vd (n + 1) s (.dct kvs') → P (.dct kvs') 0 G
theorem szk_filter {p : Key × Dt → Bool} : ∀ {l : List (Key × Dt)}, szk (l.filter p) ≤ szk l
  | [] => Nat.le_refl _
  | x :: r => by
    have := szk_filter (p := p) (l := r)
    rw [List.filter_cons]
    split <;> simp only [szk] <;> omega
theorem ceq_str {a b : Str} : CEq (.str a) (.str b) = True := by simp [CEq, scalD]
theorem l_law_without : ∀ ds G P X, S_law_without ds G P X → T_law_without (endsOf P X) ⟨slots ds 2, G⟩ := by
  rintro _ G P X ⟨kvs, k, n, s, rfl, ⟨hv, hs⟩, hb, hp⟩
  unfold T_law_without
  have hlen : kvs.length ≤ 50000 := by have := len_szk kvs; simp only [sz] at hs; omega
  refine ds_seq (Q := fun ev => ev = ⟨[some (.dct kvs, 0), some (.str k, 0), some (.dct [], topL), none], G⟩) (fun N hN => ?_) ?_
  · walk_at "rd"
    exact hN _ rfl
  rintro _ rfl
  refine ds_seq (Q := fun ev => ∃ don l x y, 1 ≤ l ∧ don.Sublist kvs ∧ ev = ⟨[some (.dct kvs, 0), some (.str k, y), some (.dct don, l), x], G⟩) (fun N hN => ?_) ?_
  · walk_at "rd"
    refine ⟨kvs, rfl, ?_⟩
    refine loop_inv (I := fun rest ev => ∃ don r l x y pre, rest = keysD r ∧ pre ++ r = kvs ∧ don.Sublist pre ∧ 1 ≤ l ∧ ev = ⟨[some (.dct kvs, 0), some (.str k, y), some (.dct don, l), x], G⟩) (fun d rest ev i N1 h1 => ?_) (fun ev i => ?_) _ _ ⟨[], kvs, topL, none, 0, [], rfl, rfl, .refl _, by decide, rfl⟩
    · obtain ⟨don, r, l, x, y, pre, e, hd, hsub, hl, rfl⟩ := i
      match r, e with
      | kv :: r', e =>
        obtain ⟨s3, e3⟩ := hv.keys (kv := kv) (by rw [← hd]; simp)
        obtain ⟨e1, e2⟩ := List.cons.inj e
        subst e1
        subst e2
        obtain ⟨kk, v⟩ := kv
        simp only at e3
        subst e3
        have look : lookD (.inr s3) kvs = some v := look_at (n := n) hv.2.2 (kv := (.inr s3, v)) (by rw [← hd]; simp)
        have nin : (Sum.inr s3 : Key) ∉ don.map (·.1) := fun z => nd_app (b := r') (x := (.inr s3, v)) (by rw [hd]; exact hv.2.2) ((hsub.map (·.1)).subset z)
        have new : putD don (.inr s3) v = don ++ [(.inr s3, v)] := put_new nin
        have few3 : don.length ≤ 50000 := by
          have h1 := hsub.length_le
          have h2 : pre.length ≤ kvs.length := by rw [← hd]; simp
          omega
        simp only [keyDt]
        walk_at "rd"
        simp only [ceq_str, true_and]
        rcases bcase (neD (.str s3) (.str k)) with q | q
        · simp only [q, if_false, Bool.false_eq_true]
          exact h1 _ ⟨don, r', l, _, _, pre ++ [(.inr s3, v)], rfl, by rw [List.append_assoc]; exact hd, hsub.trans (List.sublist_append_left _ _), hl, rfl⟩
        · simp only [q, if_true]
          walk_at "rt"
          simp only [look, Option.some.injEq, exists_eq_left', List.getElem?_cons_zero, List.getElem?_cons_succ, List.set_cons_zero, List.set_cons_succ, Prod.mk.injEq, and_assoc, exists_and_left, st_dct, new]
          exact ⟨hl, few2 (by omega), h1 _ ⟨_, r', 1, _, _, pre ++ [(.inr s3, v)], rfl, by rw [List.append_assoc]; exact hd, hsub.append (.refl _), by decide, rfl⟩⟩
    · obtain ⟨don, r, l, x, y, pre, e, hd, hsub, hl, rfl⟩ := i
      match r, e with
      | [], _ =>
        rw [List.append_nil] at hd
        subst hd
        exact hN _ ⟨don, l, x, _, hl, hsub, rfl⟩
  rintro _ ⟨don, l, x, y, hl, hsub, rfl⟩
  walk_at "rd"
  walk_at "rt"
  have hl2 := hsub.length_le
  have hszk : ∀ {a b : List (Key × Dt)}, a.Sublist b → szk a ≤ szk b := fun {a b} h => by
    induction h with
    | slnil => exact Nat.le_refl _
    | cons _ _ ih => simp only [szk]; omega
    | cons_cons _ _ ih => simp only [szk]; omega
  have h3 := hszk hsub
  refine hp _ ⟨⟨by omega, fun kv m => hv.2.1 kv (hsub.subset m), (hsub.map (·.1)).nodup hv.2.2⟩, ?_⟩
  simp only [sz] at hs ⊢
  omega
end K01

set_option Elab.async false
set_option linter.all false
set_option maxRecDepth 100000
set_option maxHeartbeats 4000000
namespace K01
open PySem PySem.Spec PyProof.Rows L2 HD
local macro_rules | `(tactic| walk_at "rd") => `(tactic| simp only [dsRet, dFz, dAndV, dOrV, dNotV, dIsiV, dIsi, dCall, dCons, dNil, dFrz, dVV, dEV, dVE, dEE, dBin, dUn, dUV, dU, uB, Has, asB, tt, dAnd, dOr, dNot, dTru, dTruV, dIf, dsIf, dsCons, dsNil, dsSet, dsAsg, dInt, dBl, dNon, dStr, dCon, dIxV, dIx, dTup, dLst, dTupOf, dLstOf, dMax2, dMin2, dI, uInt, dSub, dMod, dDiv, dAdd, uAdd, dMul, uMul, dNeg, dPow, endsOf, gdSt, gdName, dDict0, diSeq, diRange1, diRange2, dLc, dLcK, dsFor, dsForK, Ev.wipe, wipeL, slots, dsOf, List.map_cons, List.map_nil, List.cons_append, List.nil_append, List.replicate, List.getElem?_cons_zero, List.getElem?_cons_succ, List.set_cons_zero, List.set_cons_succ, Option.some.injEq, Prod.mk.injEq, and_assoc, exists_and_left, exists_eq_left', exists_eq_left, exists_eq', Nat.reduceAdd, Nat.reduceSub, List.length_cons, List.length_nil, true_and, goStep, dYes, if_true, if_false, Bool.false_eq_true, dRaise, dSl, dPn, dPs])
local macro_rules | `(tactic| walk_at "rt") => `(tactic| simp only [tru_bl, ctru_bl, lv_bl, lv_int, lv_str, lv_non, lv_tup, lv_lst, lv_dct, ix_tup, ix_lst, ix_dct, at3_0, at3_1, at3_2, exists_eq_left', exists_eq_left, Option.some.injEq, Nat.zero_le, true_or, or_true, true_and, and_true, Bool.not_true, Bool.not_false, if_true, if_false, Bool.false_eq_true, Bool.true_and, Bool.false_and])
local macro_rules | `(tactic| walk_at "rc") => `(tactic| simp only [ix0_0, ix0_1, ix0_2, st0_1, st0_2, Option.some.injEq, exists_eq_left', exists_eq_left, true_and, and_true, lv_int, lv_bl, ceq_int, eqD_int, lenD, CLen, CI, CInt1, CNum, absD, HD.intD, gI, decide_eq_true_eq, ix_lst])

theorem cut_sub {ds : List Dt} {lo hi : Option Int} : (cutD ds lo hi).Sublist ds := (List.take_sublist _ _).trans (List.drop_sublist _ _)
theorem szs_sub {a b : List Dt} (h : a.Sublist b) : szs a ≤ szs b := by
  induction h with
  | slnil => exact Nat.le_refl _
  | cons _ _ ih => simp only [szs]; omega
  | cons_cons _ _ ih => simp only [szs]; omega
theorem Vd.mono {n m s t : Nat} {d : Dt} (h : Vd n s d) (k : n ≤ m) (j : s ≤ t) : Vd m t d := ⟨h.1.mono k, Nat.le_trans h.2 j⟩
theorem vd_int {n s : Nat} {i : Int} (h : 1 ≤ s) : Vd n s (.int i) := ⟨by cases n <;> rfl, h⟩
theorem vd_bl {n s : Nat} {i : Bool} (h : 1 ≤ s) : Vd n s (.bl i) := ⟨by cases n <;> rfl, h⟩
theorem vd_str {n s : Nat} {i : Str} (h : 1 ≤ s) : Vd n s (.str i) := ⟨by cases n <;> rfl, h⟩
theorem vd_non {n s : Nat} (h : 1 ≤ s) : Vd n s .non := ⟨by cases n <;> rfl, h⟩
theorem vd_tup {n s : Nat} {ds : List Dt} (h : ∀ d ∈ ds, Pl n d) (hs : 1 + szs ds ≤ s) (hb : s ≤ 100000) : Vd (n + 1) s (.tup ds) := ⟨⟨by have := len_szs ds; omega, h⟩, by simp only [sz]; omega⟩
theorem vd_lst {n s : Nat} {ds : List Dt} (h : ∀ d ∈ ds, Pl n d) (hs : 1 + szs ds ≤ s) (hb : s ≤ 100000) : Vd (n + 1) s (.lst ds) := ⟨⟨by have := len_szs ds; omega, h⟩, by simp only [sz]; omega⟩
theorem Pl.tupE {n : Nat} {ds : List Dt} (h : Pl (n + 1) (.tup ds)) : ∀ d ∈ ds, Pl n d := h.2
theorem Pl.lstE {n : Nat} {ds : List Dt} (h : Pl (n + 1) (.lst ds)) : ∀ d ∈ ds, Pl n d := h.2
theorem szs_idx : ∀ (ds : List Dt) (g : Nat → Dt), (∀ i (h : i < ds.length), sz (g i) ≤ sz ds[i] + 2) → szs ((List.range ds.length).map g) ≤ szs ds + 2 * ds.length
  | [], g, _ => by simp [szs]
  | d :: ds, g, h => by
    have h0 := h 0 (by simp)
    have h1 := szs_idx ds (fun i => g (i + 1)) fun i hi => by
      have := h (i + 1) (by simpa using hi)
      simpa using this
    rw [List.length_cons, List.range_succ_eq_map, List.map_cons, List.map_map]
    simp only [szs]
    have e : ((List.range ds.length).map (g ∘ Nat.succ)) = (List.range ds.length).map fun i => g (i + 1) := rfl
    rw [e]
    simp at h0
    omega
def S_law_bent_vector : SpD := fun ds G P _ => ∃ row high m s n, ds = [.cel 0, row, .int high] ∧ Vd (m + 2) s row ∧ 1 ≤ s ∧ s ≤ 15000 ∧ n + 10 < 1000000 ∧ GOk n G ∧ ∀ d G', Vd (m + 2) (3 * s + 4) d → GOk (n + 10) G' → P d d.lv G'
theorem l_law_bent_vector : ∀ ds G P X, S_law_bent_vector ds G P X → T_law_bent_vector S_law_pick S_law_next (endsOf P X) ⟨slots ds 3, G⟩ := by
  rintro _ G P X ⟨row, high, m, s, n, rfl, ⟨hv, hs⟩, hs1, hsb, hn, hG, hp⟩
  unfold T_law_bent_vector
  refine ds_seq (Q := fun ev => ∃ ds, row = .tup ds ∧ ev = ⟨[some (.cel 0, 0), some (.tup ds, 0), some (.int high, 0), none, none, none], G⟩) (fun N hN => ?_) ?_
  · walk_at "rd"
    refine ⟨hv.noCel, ?_⟩
    simp only [isi_tuple_eq]
    have bad : P (.tup []) 0 G := hp (.tup []) G (vd_tup (fun _ h => nomatch h) (by simp [szs] <;> omega) (by omega)) (hG.mono (by omega))
    match row, hv, hN with
    | .non, hv, hN => exact ⟨trivial, by rw [sizeLine_eq]; decide, bad⟩
    | .bl _, hv, hN => exact ⟨trivial, by rw [sizeLine_eq]; decide, bad⟩
    | .int _, hv, hN => exact ⟨trivial, by rw [sizeLine_eq]; decide, bad⟩
    | .str _, hv, hN => exact ⟨trivial, by rw [sizeLine_eq]; decide, bad⟩
    | .lst _, hv, hN => exact ⟨trivial, by rw [sizeLine_eq]; decide, bad⟩
    | .dct _, hv, hN => exact ⟨trivial, by rw [sizeLine_eq]; decide, bad⟩
    | .cel _, hv, hN => exact ⟨trivial, by rw [sizeLine_eq]; decide, bad⟩
    | .exc _ _ _, hv, hN => exact ⟨trivial, by rw [sizeLine_eq]; decide, bad⟩
    | .tup ds, hv, hN => exact ⟨trivial, hN _ ⟨ds, rfl, rfl⟩⟩
  rintro _ ⟨ds, rfl, rfl⟩
  have hlen := len_szs ds
  simp only [sz] at hs
  have hl : ds.length ≤ 15000 := by omega
  refine ds_seq (Q := fun ev => ∃ x0 x2 x3 a G', ev = ⟨[some (.cel 0, x0), some (.tup ds, 0), some (.int high, x2), some (.int a, x3), none, none], G'⟩ ∧ GOk (n + 1) G') (fun N hN => ?_) ?_
  · walk_at "rd"
    refine ⟨trivial, ?_⟩
    simp only [lenD]
    refine ⟨if (1 : Int) > ds.length then 1 else ds.length, n, rfl, by split <;> omega, by split <;> omega, by omega, hG, fun v G2 v0 v1 hG2 => hN _ ⟨_, _, _, _, _, rfl, hG2⟩⟩
  rintro _ ⟨x0, x2, x3, a, G1, rfl, hG1⟩
  refine ds_seq (Q := fun ev => ∃ x0 x2 x3 G', ev = ⟨[some (.cel 0, x0), some (.tup ds, 0), some (.int high, x2), some (.int a, x3), none, none], G'⟩ ∧ GOk (n + 2) G') (fun N hN => ?_) ?_
  · refine ds_ifq (Q := fun b ev => ∃ x0 x2 x3 G', ev = ⟨[some (.cel 0, x0), some (.tup ds, 0), some (.int high, x2), some (.int a, x3), none, none], G'⟩ ∧ GOk (n + 2) G') (fun N1 h1 => ?_) ?_ ?_
    · walk_at "rd"
      refine ⟨trivial, trivial, ?_⟩
      simp only [lenD]
      rcases bcase (gGt (.int ds.length) (.int 0)) with q | q
      · simp only [q, if_false, Bool.false_eq_true]
        exact h1 _ _ ⟨_, _, _, _, rfl, hG1.mono (by omega)⟩
      · simp only [q, if_true]
        refine ⟨4, n + 1, rfl, by decide, by decide, by omega, hG1, fun v G2 v0 v1 hG2 => ⟨trivial, h1 _ _ ⟨_, _, _, _, rfl, hG2⟩⟩⟩
    · rintro _ ⟨x0, x2, x3, G2, rfl, hG2⟩
      refine ds_seq (Q := fun ev => ∃ x0 x2 x3 x4 odd G', Vd 1 2 odd ∧ ev = ⟨[some (.cel 0, x0), some (.tup ds, 0), some (.int high, x2), some (.int a, x3), some (odd, x4), none], G'⟩ ∧ GOk (n + 3) G') (fun N1 h1 => ?_) ?_
      · walk_at "rd"
        refine ⟨by rw [sizeLine_eq]; decide, by unfold CPow; decide, by rw [sizeLine_eq]; decide, ?_⟩
        refine ⟨_, n + 2, .inl rfl, by simp, by simp, by omega, hG2, fun d hd G3 hG3 => h1 _ ⟨_, _, _, _, d, G3, ?_, rfl, hG3⟩⟩
        simp only [List.mem_cons, List.not_mem_nil, or_false] at hd
        rcases hd with rfl | rfl | rfl | rfl | rfl | rfl | rfl | rfl | rfl
        · exact vd_int (by decide)
        · exact vd_int (by decide)
        · exact vd_int (by decide)
        · exact vd_bl (by decide)
        · exact vd_bl (by decide)
        · exact vd_non (by decide)
        · exact vd_str (by decide)
        · exact vd_tup (n := 0) (fun d hd => by simp at hd; subst hd; rfl) (by simp [szs, sz]) (by decide)
        · exact vd_int (by decide)
      rintro _ ⟨x0, x2, x3, x4, odd, G3, ho, rfl, hG3⟩
      walk_at "rd"
      refine ⟨trivial, ?_⟩
      simp only [lenD]
      refine ⟨⟨by omega, by omega⟩, ?_⟩
      refine go_map (I := fun ev => ∃ x0 x2 x3 x4, ev = ⟨[some (.cel 0, x0), some (.tup ds, 0), some (.int high, x2), some (.int a, x3), some (odd, x4), none], G3⟩) (fun d => if eqD d (.int a) = true then odd else match d with | .int i => (atI ds i).getD .non | _ => .non) (fun d hd ev i k hk => ?_) ⟨_, _, _, _, rfl⟩ ?_ (fun l ev' i => ?_)
      · obtain ⟨x0, x2, x3, x4, rfl⟩ := i
        obtain ⟨j, hj, rfl⟩ : ∃ j : Nat, j < ds.length ∧ d = .int (0 + j) := by
          simp only [rangeD, List.mem_map, List.mem_range] at hd
          obtain ⟨j, hj, e⟩ := hd
          exact ⟨j, by omega, e.symm⟩
        walk_at "rd"
        refine ⟨by rw [ceq_int]; trivial, ?_⟩
        rcases bcase (eqD (.int (0 + j)) (.int a)) with q | q
        · simp only [q, if_false, Bool.false_eq_true] at hk ⊢
          obtain ⟨c, e, _⟩ := at_in (rows := ds) (v := 0 + (j : Int)) (by omega) (by omega)
          walk_at "rt"
          refine ⟨c, e, ?_⟩
          simp only [e, Option.getD_some] at hk
          exact hk _ _ ⟨_, _, _, _, rfl⟩
        · simp only [q, if_true] at hk ⊢
          exact hk _ _ ⟨_, _, _, _, rfl⟩
      · rw [rangeD_len, sizeLine_eq]; omega
      · obtain ⟨x0, x2, x3, x4, rfl⟩ := i
        refine hp _ _ ?_ (hG3.mono (by omega))
        have el : ∀ (j : Nat) (hj : j < ds.length), ∃ c, atI ds (0 + (j : Int)) = some c ∧ c = ds[j] := fun j hj => by
          obtain ⟨c, e, _⟩ := at_in (rows := ds) (v := 0 + (j : Int)) (by omega) (by omega)
          refine ⟨c, e, ?_⟩
          unfold atI ixN at e
          rw [if_pos (by omega), if_pos (by omega)] at e
          simp [hj] at e
          exact e.symm
        refine vd_tup (fun d hd => ?_) ?_ (by omega)
        · simp only [List.mem_map, rangeD, List.mem_range] at hd
          obtain ⟨_, ⟨j, hj, rfl⟩, rfl⟩ := hd
          dsimp only
          split
          · exact ho.1.mono (by omega)
          · obtain ⟨c, e, e2⟩ := el j (by omega)
            rw [e]
            obtain ⟨c2, e3, mm⟩ := at_in (rows := ds) (v := 0 + (j : Int)) (by omega) (by omega)
            rw [e] at e3
            cases e3
            exact hv.tupE _ mm
        · have bound := szs_idx ds (fun j => if eqD (.int (0 + j)) (.int a) = true then odd else (atI ds (0 + (j : Int))).getD .non) fun j hj => by
            split
            · have := ho.2; omega
            · obtain ⟨c, e, e2⟩ := el j hj
              rw [e, e2]
              show sz ds[j] ≤ _
              omega
          have e : (rangeD 0 ((ds.length : Int)).toNat).map (fun d => if eqD d (.int a) = true then odd else match d with | .int i => (atI ds i).getD .non | _ => .non) = (List.range ds.length).map fun j : Nat => if eqD (.int (0 + j)) (.int a) = true then odd else (atI ds (0 + (j : Int))).getD .non := by
            simp only [rangeD, List.map_map, Int.toNat_natCast]
            rfl
          rw [e]
          omega
    · rintro _ ⟨x0, x2, x3, G2, rfl, hG2⟩
      exact hN _ ⟨_, _, _, _, rfl, hG2⟩
  rintro _ ⟨x0, x2, x3, G2, rfl, hG2⟩
  walk_at "rd"
  have hpl := hv.tupE
  have hsub := cut_sub (ds := ds) (lo := some 1) (hi := none)
  have hz := szs_sub hsub
  refine ⟨by rw [sizeLine_eq]; decide, by rw [sizeLine_eq]; omega, by rw [sizeLine_eq]; decide, _, n + 2, .inr rfl, by simp, by simp, by omega, hG2, fun d hd G3 hG3 => hp d G3 ?_ (hG3.mono (by omega))⟩
  simp only [List.mem_cons, List.not_mem_nil, or_false] at hd
  rcases hd with rfl | rfl | rfl | rfl | rfl
  · exact vd_lst hpl (by omega) (by omega)
  · refine vd_tup (fun d hd => ?_) (by rw [szs_app]; simp [szs, sz]; omega) (by omega)
    rcases List.mem_append.mp hd with h | h
    · exact hpl d h
    · simp at h; subst h; cases m <;> rfl
  · exact vd_tup (fun d hd => hpl d (hsub.subset hd)) (by omega) (by omega)
  · exact vd_non (by omega)
  · exact vd_int (by omega)
end K01

set_option Elab.async false
set_option linter.all false
set_option maxRecDepth 100000
set_option maxHeartbeats 4000000
namespace K01
open PySem PySem.Spec PyProof.Rows L2 HD
local macro_rules | `(tactic| walk_at "rd") => `(tactic| simp only [dsRet, dFz, dAndV, dOrV, dNotV, dIsiV, dIsi, dCall, dCons, dNil, dFrz, dVV, dEV, dVE, dEE, dBin, dUn, dUV, dU, uB, Has, asB, tt, dAnd, dOr, dNot, dTru, dTruV, dIf, dsIf, dsCons, dsNil, dsSet, dsAsg, dInt, dBl, dNon, dStr, dCon, dIxV, dIx, dTup, dLst, dTupOf, dLstOf, dMax2, dMin2, dI, uInt, dSub, dMod, dDiv, dAdd, uAdd, dMul, uMul, dNeg, dPow, endsOf, gdSt, gdName, dDict0, diSeq, diRange1, diRange2, dLc, dLcK, dsFor, dsForK, Ev.wipe, wipeL, slots, dsOf, List.map_cons, List.map_nil, List.cons_append, List.nil_append, List.replicate, List.getElem?_cons_zero, List.getElem?_cons_succ, List.set_cons_zero, List.set_cons_succ, Option.some.injEq, Prod.mk.injEq, and_assoc, exists_and_left, exists_eq_left', exists_eq_left, exists_eq', Nat.reduceAdd, Nat.reduceSub, List.length_cons, List.length_nil, true_and, goStep, dYes, if_true, if_false, Bool.false_eq_true, dRaise, dSl, dPn, dPs])
local macro_rules | `(tactic| walk_at "rt") => `(tactic| simp only [tru_bl, ctru_bl, lv_bl, lv_int, lv_str, lv_non, lv_tup, lv_lst, lv_dct, ix_tup, ix_lst, ix_dct, at3_0, at3_1, at3_2, exists_eq_left', exists_eq_left, Option.some.injEq, Nat.zero_le, true_or, or_true, true_and, and_true, Bool.not_true, Bool.not_false, if_true, if_false, Bool.false_eq_true, Bool.true_and, Bool.false_and])
local macro_rules | `(tactic| walk_at "rc") => `(tactic| simp only [ix0_0, ix0_1, ix0_2, st0_1, st0_2, Option.some.injEq, exists_eq_left', exists_eq_left, true_and, and_true, lv_int, lv_bl, ceq_int, eqD_int, lenD, CLen, CI, CInt1, CNum, absD, HD.intD, gI, decide_eq_true_eq, ix_lst])

def isTup : Dt → Bool
  | .tup _ => true
  | _ => false
theorem isi_tup {a : Dt} : isiD "tuple" a = .bl (isTup a) := by cases a <;> rfl
def S_law_bent_deed : SpD := fun ds G P _ => ∃ deed m s n, ds = [.cel 0, deed] ∧ Vd (m + 3) s deed ∧ 1 ≤ s ∧ s ≤ 15000 ∧ n + 20 < 1000000 ∧ GOk n G ∧ ∀ d G', Vd (m + 3) (3 * s + 20) d → GOk (n + 20) G' → P d d.lv G'
theorem l_law_bent_deed : ∀ ds G P X, S_law_bent_deed ds G P X → T_law_bent_deed S_law_bent_vector S_law_pick S_law_next (endsOf P X) ⟨slots ds 1, G⟩ := by
  rintro _ G P X ⟨deed, m, s, n, rfl, ⟨hv, hs⟩, hs1, hsb, hn, hG, hp⟩
  unfold T_law_bent_deed
  have bad : P (.tup [.int 0, .tup [], .tup []]) 0 G := hp (.tup [.int 0, .tup [], .tup []]) G (vd_tup (fun d h => by
    simp only [List.mem_cons, List.not_mem_nil, or_false] at h
    rcases h with rfl | rfl | rfl
    · rfl
    · exact ⟨by simp, fun _ h => nomatch h⟩
    · exact ⟨by simp, fun _ h => nomatch h⟩) (by simp [szs, sz] <;> omega) (by omega)) (hG.mono (by omega))
  have z0 : 0 ≤ sizeLine := Nat.zero_le _
  have z3 : 3 ≤ sizeLine := by rw [sizeLine_eq]; decide
  have z5 : 5 ≤ sizeLine := by rw [sizeLine_eq]; decide
  have z7 : 7 ≤ sizeLine := by rw [sizeLine_eq]; decide
  have z1 : 1 ≤ sizeLine := by rw [sizeLine_eq]; decide
  refine ds_seq (Q := fun ev => ∃ a b c, deed = .tup [a, b, c] ∧ ev = ⟨[some (.cel 0, 0), some (.tup [a, b, c], 0), none], G⟩) (fun N hN => ?_) ?_
  · refine ds_ifq (Q := fun q ev => q = !tupN deed (.int 3) ∧ ev = ⟨[some (.cel 0, 0), some (deed, 0), none], G⟩) (fun N1 h1 => ?_) ?_ ?_
    · walk_at "rd"
      refine ⟨hv.noCel, ?_⟩
      simp only [isi_tuple_eq]
      match deed, hv, h1 with
      | .non, hv, h1 => exact ⟨trivial, h1 _ _ ⟨rfl, rfl⟩⟩
      | .bl _, hv, h1 => exact ⟨trivial, h1 _ _ ⟨rfl, rfl⟩⟩
      | .int _, hv, h1 => exact ⟨trivial, h1 _ _ ⟨rfl, rfl⟩⟩
      | .str _, hv, h1 => exact ⟨trivial, h1 _ _ ⟨rfl, rfl⟩⟩
      | .lst _, hv, h1 => exact ⟨trivial, h1 _ _ ⟨rfl, rfl⟩⟩
      | .dct _, hv, h1 => exact ⟨trivial, h1 _ _ ⟨rfl, rfl⟩⟩
      | .cel _, hv, h1 => exact ⟨trivial, h1 _ _ ⟨rfl, rfl⟩⟩
      | .exc _ _ _, hv, h1 => exact ⟨trivial, h1 _ _ ⟨rfl, rfl⟩⟩
      | .tup ds, hv, h1 =>
        refine ⟨trivial, trivial, ?_, h1 _ _ ⟨?_, rfl⟩⟩
        · simp only [lenD]; rw [ceq_int]; trivial
        · simp only [lenD, neD_int]; rfl
    · rintro _ ⟨_, rfl⟩
      walk_at "rd"
      exact ⟨z0, z0, z3, bad⟩
    · rintro _ ⟨q, rfl⟩
      have q' : tupN deed (.int 3) = true := by
        cases z : tupN deed (.int 3)
        · rw [z] at q; cases q
        · rfl
      obtain ⟨a, b, c, rfl⟩ := tup3 q'
      exact hN _ ⟨a, b, c, rfl, rfl⟩
  rintro _ ⟨a, b, c, rfl, rfl⟩
  have hpl := hv.tupE
  have pa := hpl a (by simp)
  have pb := hpl b (by simp)
  have pc := hpl c (by simp)
  simp only [sz, szs] at hs
  have s1 := sz_pos a
  have s2 := sz_pos b
  have s3 := sz_pos c
  have mk3 : ∀ x y z : Dt, Pl (m + 2) x → Pl (m + 2) y → Pl (m + 2) z → sz x + sz y + sz z ≤ 3 * s + 18 → Vd (m + 3) (3 * s + 20) (.tup [x, y, z]) := fun x y z hx hy hz hw => vd_tup (fun d h => by
    simp only [List.mem_cons, List.not_mem_nil, or_false] at h
    rcases h with rfl | rfl | rfl
    · exact hx
    · exact hy
    · exact hz) (by simp only [szs]; omega) (by omega)
  refine ds_seq (Q := fun ev => ∃ x0 v G', ev = ⟨[some (.cel 0, x0), some (.tup [a, b, c], 0), some (.int v, topL)], G'⟩ ∧ GOk (n + 1) G') (fun N hN => ?_) ?_
  · walk_at "rd"
    exact ⟨6, n, rfl, by decide, by decide, by omega, hG, fun v G2 _ _ hG2 => hN _ ⟨_, _, _, rfl, hG2⟩⟩
  rintro _ ⟨x0, v, G1, rfl, hG1⟩
  refine ds_seq (Q := fun ev => ∃ x0, ev = ⟨[some (.cel 0, x0), some (.tup [a, b, c], 0), some (.int v, topL)], G1⟩) (fun N hN => ?_) ?_
  · walk_at "rd"
    refine ⟨trivial, ?_⟩
    rcases bcase (gLt (.int v) (.int 2)) with q | q
    · simp only [q, if_false, Bool.false_eq_true]
      exact hN _ ⟨_, rfl⟩
    · simp only [q, if_true]
      refine ⟨z1, z7, _, n + 1, .inl rfl, by simp, by simp, by omega, hG1, fun d hd G3 hG3 => ?_⟩
      have hvd : Vd (m + 2) 2 d := by
        simp only [List.mem_cons, List.not_mem_nil, or_false] at hd
        rcases hd with rfl | rfl | rfl | rfl | rfl | rfl | rfl
        · exact vd_int (by decide)
        · exact vd_int (by decide)
        · exact vd_bl (by decide)
        · exact vd_non (by decide)
        · exact vd_str (by decide)
        · exact vd_int (by decide)
        · exact vd_tup (fun d hd => by simp at hd; subst hd; rfl) (by simp [szs, sz]) (by decide)
      walk_at "rt"
      have := hvd.2
      exact ⟨z3, hp _ _ (mk3 d b c hvd.1 pb pc (by omega)) (hG3.mono (by omega))⟩
  rintro _ ⟨x0, rfl⟩
  refine ds_seq (Q := fun ev => ∃ x0, ev = ⟨[some (.cel 0, x0), some (.tup [a, b, c], 0), some (.int v, topL)], G1⟩) (fun N hN => ?_) ?_
  · walk_at "rd"
    refine ⟨by rw [ceq_int]; trivial, ?_⟩
    rcases bcase (eqD (.int v) (.int 2)) with q | q
    · simp only [q, if_false, Bool.false_eq_true]
      exact hN _ ⟨_, rfl⟩
    · simp only [q, if_true]
      refine ⟨z1, by rw [sizeLine_eq]; decide, z5, _, n + 1, .inr rfl, by simp, by simp, by omega, hG1, fun d hd G3 hG3 => hp d G3 ?_ (hG3.mono (by omega))⟩
      simp only [List.mem_cons, List.not_mem_nil, or_false] at hd
      rcases hd with rfl | rfl | rfl | rfl | rfl
      · exact vd_lst hpl (by simp only [szs]; omega) (by omega)
      · refine vd_tup (fun d hd => ?_) (by simp [szs, sz]; omega) (by omega)
        simp only [List.cons_append, List.nil_append, List.mem_cons, List.not_mem_nil, or_false] at hd
        rcases hd with rfl | rfl | rfl | rfl
        · exact pa
        · exact pb
        · exact pc
        · rfl
      · refine vd_tup (fun d hd => hpl d (cut_sub.subset hd)) ?_ (by omega)
        have := szs_sub (cut_sub (ds := [a, b, c]) (lo := none) (hi := some 2))
        simp only [szs] at this
        omega
      · exact vd_non (by omega)
      · exact ⟨⟨by simp, fun _ h => (nomatch h), by simp⟩, by simp [sz, szk] <;> omega⟩
  rintro _ ⟨x0, rfl⟩
  have hbv : ∀ y : Dt, Pl (m + 2) y → sz y ≤ s → Vd (m + 2) s y := fun y hy hz => ⟨hy, hz⟩
  refine ds_seq (Q := fun ev => ∃ x0, ev = ⟨[some (.cel 0, x0), some (.tup [a, b, c], 0), some (.int v, topL)], G1⟩) (fun N hN => ?_) ?_
  · walk_at "rd"
    refine ⟨trivial, ?_⟩
    rcases bcase (gLt (.int v) (.int 5)) with q | q
    · simp only [q, if_false, Bool.false_eq_true]
      exact hN _ ⟨_, rfl⟩
    · simp only [q, if_true]
      walk_at "rt"
      refine ⟨b, 3, m, sz b, n + 1, rfl, ⟨pb, Nat.le_refl _⟩, s2, by omega, by omega, hG1, fun d G3 hd hG3 => ?_⟩
      walk_at "rt"
      have := hd.2
      exact ⟨z3, hp _ _ (mk3 a d c pa hd.1 pc (by omega)) (hG3.mono (by omega))⟩
  rintro _ ⟨x0, rfl⟩
  walk_at "rd"
  walk_at "rt"
  refine ⟨c, 3, m, sz c, n + 1, rfl, ⟨pc, Nat.le_refl _⟩, s3, by omega, by omega, hG1, fun d G3 hd hG3 => ?_⟩
  have := hd.2
  exact ⟨z3, hp _ _ (mk3 a b d pa pb hd.1 (by omega)) (hG3.mono (by omega))⟩

theorem if_eq {c v : Int} {x : Nat} {ev : Ev} {S S' : TSD} {DD : EndsD} (h : ev.r[3]? = some (some (.int v, x))) (h1 : S { DD with nx := fun e => S' DD e } ev) (h2 : S' DD ev) : dsCons (dsIf (tt (dVE CEq eqD 3 (dInt c))) S dsNil) S' DD ev := by
  refine ⟨⟨_, h⟩, _, _, h, by rw [ceq_int]; trivial, ?_⟩
  show (if eqD (.int v) (.int c) = true then _ else _)
  split
  · exact h1
  · exact h2
def S_law_bent : SpD := fun ds G P _ => ∃ v m s n, ds = [.cel 0, v] ∧ Vd (m + 6) s v ∧ 1 ≤ s ∧ s ≤ 14100 ∧ n + 100 < 1000000 ∧ GOk n G ∧ ∀ d G', Vd (m + 8) (7 * s + 100) d → GOk (n + 100) G' → P d d.lv G'
theorem l_law_bent : ∀ ds G P X, S_law_bent ds G P X → T_law_bent S_law_bent_vector S_law_with S_law_bent_deed S_law_next S_law_pick S_law_without (endsOf P X) ⟨slots ds 5, G⟩ := by
  rintro _ G P X ⟨v, m, s, n, rfl, ⟨hv, hs⟩, hs1, hsb, hn, hG, hp⟩
  unfold T_law_bent
  have z0 : 0 ≤ sizeLine := Nat.zero_le _
  have z1 : 1 ≤ sizeLine := by rw [sizeLine_eq]; decide
  have z3 : 3 ≤ sizeLine := by rw [sizeLine_eq]; decide
  have z7 : 7 ≤ sizeLine := by rw [sizeLine_eq]; decide
  have z11 : 11 ≤ sizeLine := by rw [sizeLine_eq]; decide
  refine ds_seq (Q := fun ev => ∃ kvs, v = .dct kvs ∧ hasS kvs "trays" = true ∧ hasS kvs "deeds" = true ∧ hasS kvs "start" = true ∧ ev = ⟨[some (.cel 0, 0), some (.dct kvs, 0), none, none, none, none, none], G⟩) (fun N hN => ?_) ?_
  · have same : P v v.lv G := hp v G ⟨hv.mono (by omega), by omega⟩ (hG.mono (by omega))
    walk_at "rd"
    refine ⟨hv.noCel, ?_⟩
    simp only [isi_dict_eq]
    match v, hv, same, hN with
    | .non, hv, same, hN => exact ⟨trivial, same⟩
    | .bl _, hv, same, hN => exact ⟨trivial, same⟩
    | .int _, hv, same, hN => exact ⟨trivial, same⟩
    | .str _, hv, same, hN => exact ⟨trivial, same⟩
    | .lst _, hv, same, hN => exact ⟨trivial, same⟩
    | .tup _, hv, same, hN => exact ⟨trivial, same⟩
    | .cel _, hv, same, hN => exact ⟨trivial, same⟩
    | .exc _ _ _, hv, same, hN => exact ⟨trivial, same⟩
    | .dct kvs, hv, same, hN => ?_
    refine ⟨trivial, ?_⟩
    walk_at "rt"
    refine ⟨z3, ?_⟩
    refine go_filter (I := fun ev => ev = ⟨[some (.cel 0, 0), some (.dct kvs, 0), none, none, none, none, none], G⟩) (fun d => notinD d (.dct kvs)) (fun d => d) (fun d hd ev i k hk => ?_) rfl (few (by decide)) (fun l ev' i => ?_)
    · subst i
      walk_at "rd"
      refine ⟨?_, ?_⟩
      · simp only [List.mem_cons, List.not_mem_nil, or_false] at hd
        rcases hd with rfl | rfl | rfl <;> rfl
      · rcases bcase (notinD d (.dct kvs)) with z | z
        · simp only [z, if_false, Bool.false_eq_true] at hk ⊢
          exact hk _ _ rfl
        · simp only [z, if_true] at hk ⊢
          exact hk _ _ rfl
    subst i
    simp only [lenD]
    refine ⟨trivial, trivial, ?_⟩
    have n1 : notinD (.str "trays") (.dct kvs) = !hasS kvs "trays" := rfl
    have n2 : notinD (.str "deeds") (.dct kvs) = !hasS kvs "deeds" := rfl
    have n3 : notinD (.str "start") (.dct kvs) = !hasS kvs "start" := rfl
    simp only [List.filter_cons, List.filter_nil, n1, n2, n3, List.map_id']
    rcases bcase (hasS kvs "trays") with a | a <;> rcases bcase (hasS kvs "deeds") with b | b <;> rcases bcase (hasS kvs "start") with c | c <;> simp only [a, b, c, Bool.not_true, Bool.not_false, if_true, if_false, Bool.false_eq_true]
    · exact ⟨_, _, rfl, same⟩
    · exact ⟨_, _, rfl, same⟩
    · exact ⟨_, _, rfl, same⟩
    · exact ⟨_, _, rfl, same⟩
    · exact ⟨_, _, rfl, same⟩
    · exact ⟨_, _, rfl, same⟩
    · exact ⟨_, _, rfl, same⟩
    · exact hN _ ⟨kvs, rfl, a, b, c, rfl⟩
  rintro _ ⟨kvs, rfl, q1, q2, q3, rfl⟩
  have part : ∀ k : Str, hasS kvs k = true → lookD (.inr k) kvs = some (getS kvs k) := fun k q => by
    obtain ⟨x, e⟩ := Option.isSome_iff_exists.mp q
    unfold getS
    rw [e]; rfl
  have ppl : ∀ k : Str, hasS kvs k = true → Pl (m + 5) (getS kvs k) := fun k q => Pl.get (n := m + 5) hv (part k q)
  have psz : ∀ k : Str, hasS kvs k = true → sz (getS kvs k) ≤ s := fun k q => by
    have := sz_get (part k q)
    simp only [sz] at hs
    omega
  have wd : ∀ k p G' Xx, Vd (m + 7) (6 * s + 100) p → GOk (n + 100) G' → S_law_with [.dct kvs, .str k, p] G' (fun d _ G'' => P d d.lv G'') Xx := fun k p G' Xx hp' hG' =>
    ⟨kvs, k, p, m + 7, s, 6 * s + 100, rfl, ⟨hv.mono (by omega), hs⟩, hp', by omega, fun kvs' h => hp _ _ (h.mono (by omega) (by omega)) hG'⟩
  refine ds_seq (Q := fun ev => ∃ x0 v G', ev = ⟨[some (.cel 0, x0), some (.dct kvs, 0), none, some (.int v, topL), none, none, none], G'⟩ ∧ GOk (n + 1) G') (fun N hN => ?_) ?_
  · walk_at "rd"
    exact ⟨12, n, rfl, by decide, by decide, by omega, hG, fun v G2 _ _ hG2 => hN _ ⟨_, _, _, rfl, hG2⟩⟩
  rintro _ ⟨x0, v, G1, rfl, hG1⟩
  refine if_eq rfl ?_ ?_
  · walk_at "rd"
    refine ⟨z0, z3, z1, z7, _, n + 1, .inr rfl, by simp, by simp, by omega, hG1, fun d hd G2 hG2 => hp d G2 ?_ (hG2.mono (by omega))⟩
    simp only [List.mem_cons, List.not_mem_nil, or_false] at hd
    rcases hd with rfl | rfl | rfl | rfl | rfl | rfl | rfl
    · exact vd_non (by omega)
    · exact vd_lst (fun _ h => (nomatch h)) (by simp [szs] <;> omega) (by omega)
    · exact vd_str (by omega)
    · exact vd_int (by omega)
    · exact ⟨⟨by simp, fun _ h => (nomatch h), by simp⟩, by simp [sz, szk] <;> omega⟩
    · refine vd_tup (fun d hd => ?_) (by simp [szs, sz] <;> omega) (by omega)
      simp only [List.mem_cons, List.not_mem_nil, or_false] at hd
      rcases hd with rfl | rfl | rfl <;> rfl
    · refine vd_lst (fun d hd => ?_) (by simp only [szs]; omega) (by omega)
      simp only [List.mem_cons, List.not_mem_nil, or_false] at hd
      subst hd
      exact hv.mono (by omega)
  refine if_eq rfl ?_ ?_
  · walk_at "rd"
    refine ⟨z3, _, n + 1, .inl rfl, by simp, by simp, by omega, hG1, fun d hd G2 hG2 => ?_⟩
    obtain ⟨k, rfl⟩ : ∃ k, d = .str k := by
      simp only [List.mem_cons, List.not_mem_nil, or_false] at hd
      rcases hd with rfl | rfl | rfl <;> exact ⟨_, rfl⟩
    exact ⟨kvs, k, m + 5, s, rfl, ⟨hv, hs⟩, by omega, fun kvs' h => hp _ _ (h.mono (by omega) (by omega)) (hG2.mono (by omega))⟩
  refine if_eq rfl ?_ ?_
  · walk_at "rd"
    refine ⟨z3, _, n + 1, .inl rfl, by simp, by simp, by omega, hG1, fun d hd G2 hG2 => ?_⟩
    obtain ⟨k, rfl⟩ : ∃ k, d = .str k := by
      simp only [List.mem_cons, List.not_mem_nil, or_false] at hd
      rcases hd with rfl | rfl | rfl <;> exact ⟨_, rfl⟩
    exact wd _ _ _ _ (vd_int (by omega)) (hG2.mono (by omega))
  refine if_eq rfl ?_ ?_
  · walk_at "rd"
    refine ⟨z3, _, n + 1, .inl rfl, by simp, by simp, by omega, hG1, fun d hd G2 hG2 => ?_⟩
    obtain ⟨k, rfl, hk, hkl⟩ : ∃ k, d = .str k ∧ hasS kvs k = true ∧ k.length ≤ 5 := by
      simp only [List.mem_cons, List.not_mem_nil, or_false] at hd
      rcases hd with rfl | rfl | rfl
      · exact ⟨_, rfl, q1, by decide⟩
      · exact ⟨_, rfl, q2, by decide⟩
      · exact ⟨_, rfl, q3, by decide⟩
    walk_at "rd"
    walk_at "rt"
    refine ⟨kvs, k, m + 5, s, rfl, ⟨hv, hs⟩, by omega, fun kvs' h => ?_⟩
    refine ⟨by rw [sizeLine_eq]; have : (("s" : Str)).length = 1 := by decide
               omega, ?_⟩
    refine ⟨_, part k hk, ?_⟩
    exact ⟨kvs', _, getS kvs k, m + 7, s, s, rfl, h.mono (by omega) (Nat.le_refl _), ⟨(ppl k hk).mono (by omega), psz k hk⟩, by omega, fun kvs2 h2 => hp _ _ (h2.mono (by omega) (by omega)) (hG2.mono (by omega))⟩
  refine if_eq rfl ?_ ?_
  · walk_at "rd"
    refine ⟨z1, z11, _, n + 1, .inl rfl, by simp, by simp, by omega, hG1, fun d hd G2 hG2 => wd _ _ _ _ ?_ (hG2.mono (by omega))⟩
    simp only [List.mem_cons, List.not_mem_nil, or_false] at hd
    rcases hd with rfl | rfl | rfl | rfl | rfl | rfl | rfl | rfl | rfl | rfl | rfl
    · exact vd_int (by omega)
    · exact vd_int (by omega)
    · exact vd_int (by omega)
    · exact vd_int (by omega)
    · exact vd_int (by omega)
    · exact vd_int (by omega)
    · exact vd_int (by omega)
    · exact vd_bl (by omega)
    · exact vd_non (by omega)
    · exact vd_str (by omega)
    · exact vd_tup (n := m + 6) (fun d hd => by simp at hd; subst hd; rfl) (by simp [szs, sz] <;> omega) (by omega)
  refine ds_seq (Q := fun ev => ev = ⟨[some (.cel 0, x0), some (.dct kvs, 0), none, some (.int v, topL), some (getS kvs "deeds", (getS kvs "deeds").lv), none, none], G1⟩) (fun N hN => ?_) ?_
  · walk_at "rd"
    walk_at "rt"
    exact ⟨_, part _ q2, hN _ rfl⟩
  rintro _ rfl
  have pd := ppl _ q2
  have ps := psz _ q2
  have pst := ppl _ q3
  have pss := psz _ q3
  have look3 := part _ q3
  generalize getS kvs "deeds" = rows at pd ps ⊢
  generalize getS kvs "start" = start at pst pss look3 ⊢
  refine ds_seq (Q := fun ev => ev = ⟨[some (.cel 0, x0), some (.dct kvs, 0), none, some (.int v, topL), some (rows, rows.lv), none, none], G1⟩) (fun N hN => ?_) ?_
  · refine ds_ifq (Q := fun b ev => (b = true → ∃ l, rows = .lst l) ∧ ev = ⟨[some (.cel 0, x0), some (.dct kvs, 0), none, some (.int v, topL), some (rows, rows.lv), none, none], G1⟩) (fun N1 h1 => ?_) ?_ ?_
    · walk_at "rd"
      refine ⟨by rw [ceq_int]; trivial, ?_⟩
      rcases bcase (eqD (.int v) (.int 5)) with q | q
      · simp only [q, if_false, Bool.false_eq_true]
        exact h1 _ _ ⟨fun h => (nomatch h), rfl⟩
      · simp only [q, if_true]
        refine ⟨pd.noCel, by rw [isi_list_eq]; trivial, h1 _ _ ⟨fun h => ?_, rfl⟩⟩
        rw [isi_list_eq] at h
        match rows, h, pd with
        | .lst l, _, _ => exact ⟨l, rfl⟩
        | .cel _, _, pd => exact absurd pd.noCel (by simp [noCel])
    · rintro _ ⟨hl, rfl⟩
      obtain ⟨l, rfl⟩ := hl rfl
      have hll := len_szs l
      simp only [sz] at ps
      refine ds_seq (Q := fun ev => ∃ x0 ex x5, Vd (m + 6) (2 * s + 10) ex ∧ ev = ⟨[some (.cel 0, x0), some (.dct kvs, 0), none, some (.int v, topL), some (.lst l, 0), some (ex, x5), none], G1⟩) (fun N1 h1 => ?_) ?_
      · walk_at "rd"
        walk_at "rt"
        simp only [look3, Option.some.injEq, exists_eq_left']
        refine ⟨pst.noCel, by rw [isi_tup]; trivial, ?_⟩
        simp only [isi_tup]
        rcases bcase (isTup start) with q | q
        · simp only [q, tru_bl, if_false, Bool.false_eq_true]
          refine ⟨z3, h1 _ ⟨_, _, _, vd_tup (fun d h => ?_) (by simp [szs, sz] <;> omega) (by omega), rfl⟩⟩
          simp only [List.mem_cons, List.not_mem_nil, or_false] at h
          rcases h with rfl | rfl | rfl
          · rfl
          · exact ⟨by simp, fun _ h => (nomatch h)⟩
          · exact ⟨by simp, fun _ h => (nomatch h)⟩
        · simp only [q, tru_bl, if_true]
          refine ⟨z3, h1 _ ⟨_, _, _, vd_tup (fun d h => ?_) (by simp only [szs, sz]; omega) (by omega), rfl⟩⟩
          simp only [List.mem_cons, List.not_mem_nil, or_false] at h
          rcases h with rfl | rfl | rfl
          · rfl
          · exact pst
          · exact pst
      rintro _ ⟨x0, ex, x5, hex, rfl⟩
      walk_at "rd"
      have hsub := cut_sub (ds := l) (lo := some 1) (hi := none)
      have hz := szs_sub hsub
      have hrep : (List.replicate 3 l).flatten = l ++ (l ++ l) := by simp [List.replicate]
      have e3 : (3 : Int).toNat = 3 := rfl
      refine ⟨z0, by decide, by decide, by rw [sizeLine_eq, e3]; omega, z1, by rw [sizeLine_eq]; omega, z7, _, n + 1, .inr rfl, by simp, by simp, by omega, hG1, fun d hd G2 hG2 => wd _ _ _ _ ?_ (hG2.mono (by omega))⟩
      simp only [e3, hrep, List.mem_cons, List.not_mem_nil, or_false] at hd
      have hpl := pd.lstE
      rcases hd with rfl | rfl | rfl | rfl | rfl | rfl | rfl
      · exact vd_non (by omega)
      · exact vd_tup (fun d h => (hpl d h).mono (by omega)) (by omega) (by omega)
      · exact vd_lst (fun _ h => (nomatch h)) (by simp [szs] <;> omega) (by omega)
      · refine vd_lst (fun d h => ?_) (by rw [szs_app, szs_app]; omega) (by omega)
        have : d ∈ l := by simpa using h
        exact (hpl d this).mono (by omega)
      · have h2 := hex.2
        refine vd_lst (fun d h => ?_) (by rw [szs_app]; simp only [szs]; omega) (by omega)
        rcases List.mem_append.mp h with h | h
        · exact (hpl d h).mono (by omega)
        · simp at h; subst h; exact hex.1
      · exact ⟨⟨by simp, fun _ h => (nomatch h), by simp⟩, by simp [sz, szk] <;> omega⟩
      · exact vd_lst (fun d h => (hpl d (hsub.subset h)).mono (by omega)) (by omega) (by omega)
    · rintro _ ⟨_, rfl⟩
      exact hN _ rfl
  rintro _ rfl
  refine ds_seq (Q := fun ev => ev = ⟨[some (.cel 0, x0), some (.dct kvs, 0), none, some (.int v, topL), some (rows, rows.lv), none, none], G1⟩) (fun N hN => ?_) ?_
  · refine ds_ifq (Q := fun b ev => (b = true → ∃ l, rows = .lst l ∧ 0 < l.length) ∧ ev = ⟨[some (.cel 0, x0), some (.dct kvs, 0), none, some (.int v, topL), some (rows, rows.lv), none, none], G1⟩) (fun N1 h1 => ?_) ?_ ?_
    · walk_at "rd"
      refine ⟨trivial, ?_⟩
      rcases bcase (gLt (.int v) (.int 9)) with q | q
      · simp only [q, if_false, Bool.false_eq_true]
        exact h1 _ _ ⟨fun h => (nomatch h), rfl⟩
      · simp only [q, if_true]
        refine ⟨pd.noCel, by rw [isi_list_eq]; trivial, ?_⟩
        rw [isi_list_eq]
        match rows, pd, h1 with
        | .non, pd, h1 => exact h1 _ _ ⟨fun h => (nomatch h), rfl⟩
        | .bl _, pd, h1 => exact h1 _ _ ⟨fun h => (nomatch h), rfl⟩
        | .int _, pd, h1 => exact h1 _ _ ⟨fun h => (nomatch h), rfl⟩
        | .str _, pd, h1 => exact h1 _ _ ⟨fun h => (nomatch h), rfl⟩
        | .tup _, pd, h1 => exact h1 _ _ ⟨fun h => (nomatch h), rfl⟩
        | .dct _, pd, h1 => exact h1 _ _ ⟨fun h => (nomatch h), rfl⟩
        | .exc _ _ _, pd, h1 => exact h1 _ _ ⟨fun h => (nomatch h), rfl⟩
        | .cel _, pd, h1 => exact absurd pd.noCel (by simp [noCel])
        | .lst l, pd, h1 =>
          simp only [tru_bl, if_true]
          refine ⟨trivial, trivial, h1 _ _ ⟨fun h => ⟨l, rfl, ?_⟩, rfl⟩⟩
          have h : decide ((0 : Int) < l.length) = true := h
          have := of_decide_eq_true h
          omega
    · rintro _ ⟨hl, rfl⟩
      obtain ⟨l, rfl, hl0⟩ := hl rfl
      have hll := len_szs l
      simp only [sz] at ps
      refine ds_seq (Q := fun ev => ∃ x0 a G', 0 ≤ a ∧ a < (l.length : Int) ∧ GOk (n + 2) G' ∧ ev = ⟨[some (.cel 0, x0), some (.dct kvs, 0), none, some (.int v, topL), some (.lst l, 0), none, some (.int a, topL)], G'⟩) (fun N1 h1 => ?_) ?_
      · walk_at "rd"
        refine ⟨trivial, ?_⟩
        simp only [lenD]
        exact ⟨(l.length : Int), n + 1, rfl, by omega, by omega, by omega, hG1, fun a G2 a0 a1 hG2 => h1 _ ⟨_, a, G2, a0, a1, hG2, rfl⟩⟩
      rintro _ ⟨x0, a, G2, a0, a1, hG2, rfl⟩
      obtain ⟨c, e, mm⟩ := at_in a0 a1
      have hpl := pd.lstE
      walk_at "rd"
      walk_at "rt"
      refine ⟨c, e, c, m + 1, sz c, n + 2, rfl, ⟨hpl c mm, Nat.le_refl _⟩, sz_pos c, by have := sz_mem mm; omega, by omega, hG2, fun d G3 hd hG3 => ?_⟩
      have hs1 := cut_sub (ds := l) (lo := none) (hi := some a)
      have hs2 := cut_sub (ds := l) (lo := some (a + 1)) (hi := none)
      have k1 := szs_sub hs1
      have k2 := szs_sub hs2
      have k3 := sz_mem mm
      have k4 := hd.2
      have k5 := hs1.length_le
      have k6 := hs2.length_le
      walk_at "rd"
      refine ⟨z1, by rw [sizeLine_eq]; omega, ?_⟩
      refine ⟨by rw [sizeLine_eq, List.length_append]; show _ + 1 + _ ≤ _; omega, ?_⟩
      refine wd _ _ _ _ (vd_lst (n := m + 6) (fun d2 h => ?_) (by rw [szs_app, szs_app]; simp only [szs]; omega) (by omega)) (hG3.mono (by omega))
      rcases List.mem_append.mp h with h | h
      · rcases List.mem_append.mp h with h | h
        · exact (hpl d2 (hs1.subset h)).mono (by omega)
        · simp at h; subst h; exact hd.1.mono (by omega)
      · exact (hpl d2 (hs2.subset h)).mono (by omega)
    · rintro _ ⟨_, rfl⟩
      exact hN _ rfl
  rintro _ rfl
  walk_at "rd"
  walk_at "rt"
  refine ⟨start, look3, start, 99, m + 3, sz start, n + 1, rfl, ⟨pst, Nat.le_refl _⟩, sz_pos _, by omega, by omega, hG1, fun d G2 hd hG2 => wd _ _ _ _ (hd.mono (by omega) (by omega)) (hG2.mono (by omega))⟩
end K01

set_option Elab.async false
set_option linter.all false
set_option maxRecDepth 100000
set_option maxHeartbeats 4000000
namespace K01
open PySem PySem.Spec PyProof.Rows L2 HD
local macro_rules | `(tactic| walk_at "rd") => `(tactic| simp only [dsRet, dFz, dAndV, dOrV, dNotV, dIsiV, dIsi, dCall, dCons, dNil, dFrz, dVV, dEV, dVE, dEE, dBin, dUn, dUV, dU, uB, Has, asB, tt, dAnd, dOr, dNot, dTru, dTruV, dIf, dsIf, dsCons, dsNil, dsSet, dsAsg, dInt, dBl, dNon, dStr, dCon, dIxV, dIx, dTup, dLst, dTupOf, dLstOf, dMax2, dMin2, dI, uInt, dSub, dMod, dDiv, dAdd, uAdd, dMul, uMul, dNeg, dPow, endsOf, gdSt, gdName, dDict0, diSeq, diRange1, diRange2, dLc, dLcK, dsFor, dsForK, Ev.wipe, wipeL, slots, dsOf, List.map_cons, List.map_nil, List.cons_append, List.nil_append, List.replicate, List.getElem?_cons_zero, List.getElem?_cons_succ, List.set_cons_zero, List.set_cons_succ, Option.some.injEq, Prod.mk.injEq, and_assoc, exists_and_left, exists_eq_left', exists_eq_left, exists_eq', Nat.reduceAdd, Nat.reduceSub, List.length_cons, List.length_nil, true_and, goStep, dYes, if_true, if_false, Bool.false_eq_true, dRaise, dSl, dPn, dPs, dsExtend, dPop, gdTup, gdCons, gdNil])
local macro_rules | `(tactic| walk_at "rt") => `(tactic| simp only [tru_bl, ctru_bl, lv_bl, lv_int, lv_str, lv_non, lv_tup, lv_lst, lv_dct, ix_tup, ix_lst, ix_dct, at3_0, at3_1, at3_2, exists_eq_left', exists_eq_left, Option.some.injEq, Nat.zero_le, true_or, or_true, true_and, and_true, Bool.not_true, Bool.not_false, if_true, if_false, Bool.false_eq_true, Bool.true_and, Bool.false_and])
local macro_rules | `(tactic| walk_at "rc") => `(tactic| simp only [ix0_0, ix0_1, ix0_2, st0_1, st0_2, Option.some.injEq, exists_eq_left', exists_eq_left, true_and, and_true, lv_int, lv_bl, ceq_int, eqD_int, lenD, CLen, CI, CInt1, CNum, absD, HD.intD, gI, decide_eq_true_eq, ix_lst])

def S_copy (n : Nat) : SpD := fun ds G P _ => ∃ d, ds = [d] ∧ Pl n d ∧ P d d.lv G
def S_copyP : Nat → SpD
  | 0 => fun _ _ _ _ => False
  | n + 1 => S_copy n
theorem l_law_copy (n : Nat) : ∀ ds G P X, S_copy n ds G P X → T_law_copy (S_copyP n) (endsOf P X) ⟨slots ds 3, G⟩ := by
  rintro _ G P X ⟨d, rfl, hv, hp⟩
  unfold T_law_copy
  have c0 := hv.noCel
  match n, d, hv, hp, c0 with
  | n, .non, hv, hp, c0 => walk_at "rd"; exact ⟨c0, trivial, c0, trivial, c0, trivial, hp⟩
  | n, .bl _, hv, hp, c0 => walk_at "rd"; exact ⟨c0, trivial, c0, trivial, c0, trivial, hp⟩
  | n, .int _, hv, hp, c0 => walk_at "rd"; exact ⟨c0, trivial, c0, trivial, c0, trivial, hp⟩
  | n, .str _, hv, hp, c0 => walk_at "rd"; exact ⟨c0, trivial, c0, trivial, c0, trivial, hp⟩
  | n + 1, .lst l, hv, hp, c0 =>
    walk_at "rd"
    refine ⟨c0, trivial, c0, trivial, ?_⟩
    refine go_map (I := fun ev => ∃ x, ev = ⟨[some (.lst l, x), none, none, none], G⟩) (fun d => d) (fun d hd ev i k hk => ?_) ⟨_, rfl⟩ (few hv.1) (fun l' ev' i => ?_)
    · obtain ⟨x, rfl⟩ := i
      walk_at "rd"
      exact ⟨d, rfl, hv.2 d hd, hk _ _ ⟨_, rfl⟩⟩
    · obtain ⟨x, rfl⟩ := i
      simp only [List.map_id']
      exact hp
  | n + 1, .tup l, hv, hp, c0 =>
    walk_at "rd"
    refine ⟨c0, trivial, c0, trivial, c0, trivial, ?_⟩
    refine go_map (I := fun ev => ∃ x, ev = ⟨[some (.tup l, x), none, none, none], G⟩) (fun d => d) (fun d hd ev i k hk => ?_) ⟨_, rfl⟩ (few hv.1) (fun l' ev' i => ?_)
    · obtain ⟨x, rfl⟩ := i
      walk_at "rd"
      exact ⟨d, rfl, hv.2 d hd, hk _ _ ⟨_, rfl⟩⟩
    · obtain ⟨x, rfl⟩ := i
      simp only [List.map_id']
      exact hp
  | n + 1, .dct kvs, hv, hp, c0 =>
    walk_at "rd"
    refine ⟨c0, trivial, kvs, rfl, ?_⟩
    refine loop_inv (I := fun rest ev => ∃ don r l x, rest = keysD r ∧ don ++ r = kvs ∧ 1 ≤ l ∧ ev = ⟨[some (.dct kvs, 0), some (.dct don, l), x, none], G⟩) (fun d rest ev i N1 h1 => ?_) (fun ev i => ?_) _ _ ⟨[], kvs, topL, none, rfl, rfl, by decide, rfl⟩
    · obtain ⟨don, r, l, x, e, hd, hl, rfl⟩ := i
      match r, e with
      | kv :: r', e =>
        obtain ⟨s3, e3⟩ := hv.keys (kv := kv) (by rw [← hd]; simp)
        obtain ⟨e1, e2⟩ := List.cons.inj e
        subst e1
        subst e2
        obtain ⟨kk, v⟩ := kv
        simp only at e3
        subst e3
        have look : lookD (.inr s3) kvs = some v := look_at (n := n) hv.2.2 (kv := (.inr s3, v)) (by rw [← hd]; simp)
        have new : putD don (.inr s3) v = don ++ [(.inr s3, v)] := put_new (nd_app (b := r') (x := (.inr s3, v)) (by rw [hd]; exact hv.2.2))
        have few3 : don.length ≤ 100000 := by
          have : don.length ≤ kvs.length := by rw [← hd]; simp
          have := hv.1
          omega
        simp only [keyDt]
        walk_at "rd"
        walk_at "rt"
        simp only [look, Option.some.injEq, exists_eq_left']
        refine ⟨v, rfl, hv.get look, ?_⟩
        simp only [List.getElem?_cons_zero, List.getElem?_cons_succ, List.set_cons_zero, List.set_cons_succ, Prod.mk.injEq, and_assoc, exists_and_left, st_dct, new]
        exact ⟨hl, few2 (by omega), h1 _ ⟨_, r', 1, _, rfl, by rw [List.append_assoc]; exact hd, by decide, rfl⟩⟩
    · obtain ⟨don, r, l, x, e, hd, hl, rfl⟩ := i
      match r, e with
      | [], _ =>
        rw [List.append_nil] at hd
        subst hd
        walk_at "rd"
        exact hp
/-! ## the same data -/
def wt : Dt → Nat
  | .tup [e, _] => sz e
  | _ => 0
def wts : List Dt → Nat
  | [] => 0
  | d :: r => wt d + wts r
theorem wts_app : ∀ a b : List Dt, wts (a ++ b) = wts a + wts b
  | [], b => by simp [wts]
  | d :: a, b => by simp [wts, wts_app a b]; omega
theorem wts_pair : ∀ a : List Dt, wts (a.map fun e => .tup [e, e]) = szs a
  | [] => rfl
  | d :: a => by simp [wts, szs, wt, wts_pair a]
theorem szs_vals : ∀ kvs : List (Key × Dt), szs (kvs.map (·.2)) = szk kvs
  | [] => rfl
  | kv :: r => by simp [szs, szk, szs_vals r]
theorem len_wts : ∀ {st : List Dt}, (∀ p ∈ st, ∃ e, p = Dt.tup [e, e]) → st.length ≤ wts st
  | [], _ => Nat.le_refl _
  | p :: st, h => by
    obtain ⟨e, rfl⟩ := h p List.mem_cons_self
    have := sz_pos e
    have := len_wts (st := st) fun q hq => h q (List.mem_cons_of_mem _ hq)
    simp only [wts, wt, List.length_cons]
    omega
theorem neD_bl {b : Bool} : neD (.bl b) (.bl b) = false := by cases b <;> simp [neD, eqD, toPy, PyData.eqv]
theorem neD_str {b : Str} : neD (.str b) (.str b) = false := by simp [neD, eqD, toPy, PyData.eqv]
theorem neD_i {b : Int} : neD (.int b) (.int b) = false := by simp [neD, eqD, toPy, PyData.eqv]
theorem ceq_bl {b c : Bool} : CEq (.bl b) (.bl c) = True := by simp [CEq, scalD]
def S_law_same : SpD := fun ds G P _ => ∃ d, ds = [d, d] ∧ Plain d ∧ sz d ≤ 100000 ∧ P (.bl true) topL G
theorem l_law_same : ∀ ds G P X, S_law_same ds G P X → T_law_same (endsOf P X) ⟨slots ds 6, G⟩ := by
  rintro _ G P X ⟨d, rfl, hv, hs, hp⟩
  unfold T_law_same
  refine ds_seq (Q := fun ev => ∃ x y l, 1 ≤ l ∧ (l ≤ 3 ∨ d.flat = true) ∧ ev = ⟨[some (d, x), some (d, y), some (.lst [.tup [d, d]], l), none, none, none, none, none], G⟩) (fun N hN => ?_) ?_
  · walk_at "rd"
    refine ⟨by rw [sizeLine_eq]; decide, by rw [sizeLine_eq]; decide, hN _ ⟨_, _, _, ?_, ?_, rfl⟩⟩
    · simp [minL]
    · cases q : d.flat
      · left
        have : d.lv = 0 := by unfold Dt.lv; rw [q]; rfl
        simp [minL, this]
        decide
      · exact .inr rfl
  rintro _ ⟨x, y, l, hl, hl3, rfl⟩
  refine ds_seq (Q := fun _ => False) (fun N hN => ?_) (fun _ h => h.elim)
  walk_at "rd"
  refine ⟨by unfold B62; decide, ?_⟩
  have hR : (rangeD 0 (2000000 : Int).toNat).length = 2000000 := rangeD_len
  generalize rangeD 0 (2000000 : Int).toNat = RR at hR ⊢
  refine loop_inv (I := fun rest ev => ∃ stack x y l x3 x4 x5, ev = ⟨[some (d, x), some (d, y), some (.lst stack, l), x3, x4, x5, none, none], G⟩ ∧ 1 ≤ l ∧ (∀ p ∈ stack, ∃ e, p = .tup [e, e] ∧ Plain e ∧ (l ≤ 3 ∨ e.flat = true)) ∧ wts stack < rest.length ∧ wts stack ≤ 100000)
    (fun t rest ev i N1 h1 => ?_) (fun ev i => ?_) _ _ ⟨[.tup [d, d]], _, _, _, _, _, _, rfl, hl, ?_, ?_, ?_⟩
  · obtain ⟨stack, x, y, l, x3, x4, x5, rfl, hl, hst, hw1, hw2⟩ := i
    rcases List.eq_nil_or_concat stack with rfl | ⟨st, p, rfl⟩
    · walk_at "rd"
      simp only [lenD]
      exact ⟨trivial, by rw [ceq_int]; trivial, hp⟩
    · rw [List.concat_eq_append] at *
      obtain ⟨e, rfl, he, hf⟩ := hst p (by simp)
      have hst2 : ∀ p ∈ st, ∃ e, p = .tup [e, e] ∧ Plain e ∧ (l ≤ 3 ∨ e.flat = true) := fun p hp => hst p (List.mem_append_left _ hp)
      rw [wts_app] at hw1 hw2
      simp only [wts, wt, List.length_cons] at hw1 hw2
      have pos := sz_pos e
      refine ds_seq (Q := fun ev => ev = ⟨[some (d, x), some (d, y), some (.lst (st ++ [.tup [e, e]]), l), some (t, t.lv), x4, x5, none, none], G⟩) (fun N2 h2 => ?_) ?_
      · walk_at "rd"
        simp only [lenD]
        have hne : eqD (.int ((st ++ [Dt.tup [e, e]]).length : Nat)) (.int 0) = false := by
          rw [eqD_int]
          exact decide_eq_false (by simp; omega)
        simp only [hne, if_false, Bool.false_eq_true]
        exact ⟨trivial, by rw [ceq_int]; trivial, h2 _ rfl⟩
      rintro _ rfl
      refine ds_seq (Q := fun ev => ev = ⟨[some (d, x), some (d, y), some (.lst st, l), some (t, t.lv), some (e, l - 1 - 1), some (e, l - 1 - 1), none, none], G⟩) (fun N2 h2 => ?_) ?_
      · walk_at "rd"
        exact ⟨st, _, rfl, hl, rfl, rfl, h2 _ rfl⟩
      rintro _ rfl
      have few3 := len_wts (st := st) fun p hp => let ⟨e, h, _⟩ := hst2 p hp; ⟨e, h⟩
      have same : 1 ≤ sz e → N1 ⟨[some (d, x), some (d, y), some (.lst st, l), some (t, t.lv), some (e, l - 1 - 1), some (e, l - 1 - 1), none, none], G⟩ := fun _ => h1 _ ⟨_, _, _, _, _, _, _, rfl, hl, hst2, by omega, by omega⟩
      have same := same pos
      match e, he, hf, same, hw1, hw2 with
      | .cel _, he, _, _, _, _ => exact absurd he.noCel (by simp [noCel])
      | .exc _ _ _, he, _, _, _, _ => exact absurd he.noCel (by simp [noCel])
      | .non, he, hf, same, hw1, hw2 =>
        walk_at "rd"
        exact ⟨rfl, trivial, rfl, trivial, rfl, trivial, rfl, trivial, rfl, trivial, rfl, trivial, rfl, same⟩
      | .int i, he, hf, same, hw1, hw2 =>
        walk_at "rd"
        refine ⟨rfl, trivial, rfl, trivial, rfl, trivial, rfl, trivial, rfl, trivial, rfl, trivial, rfl, trivial, rfl, trivial, by rw [ceq_int]; trivial, ?_⟩
        rw [if_neg (by rw [neD_i]; decide)]
        exact same
      | .bl i, he, hf, same, hw1, hw2 =>
        walk_at "rd"
        refine ⟨rfl, trivial, rfl, trivial, rfl, trivial, rfl, trivial, rfl, rfl, by rw [isi_bool_eq, ceq_bl]; trivial, ?_⟩
        rw [isi_bool_eq, if_neg (by rw [neD_bl]; decide)]
        refine ⟨rfl, rfl, by rw [isi_str_eq, ceq_bl]; trivial, ?_⟩
        rw [isi_str_eq, if_neg (by rw [neD_bl]; decide)]
        refine ⟨by rw [ceq_bl]; trivial, ?_⟩
        rw [if_neg (by rw [neD_bl]; decide)]
        exact same
      | .str i, he, hf, same, hw1, hw2 =>
        walk_at "rd"
        refine ⟨rfl, trivial, rfl, trivial, rfl, trivial, rfl, trivial, rfl, trivial, rfl, rfl, by rw [isi_bool_eq, ceq_bl]; trivial, ?_⟩
        rw [isi_bool_eq, if_neg (by rw [neD_bl]; decide)]
        refine ⟨rfl, rfl, by rw [isi_str_eq, ceq_bl]; trivial, ?_⟩
        rw [isi_str_eq, if_neg (by rw [neD_bl]; decide)]
        refine ⟨by rw [ceq_str]; trivial, ?_⟩
        rw [if_neg (by rw [neD_str]; decide)]
        exact same
      | .tup ds, he, hf, same, hw1, hw2 =>
        have hl3 : l ≤ 3 := hf.elim id fun h => (nomatch h)
        have hch := he.tup
        have hsz : sz (.tup ds) = 1 + szs ds := rfl
        rw [hsz] at hw1 hw2
        have hll := len_szs ds
        walk_at "rd"
        refine ⟨rfl, trivial, ?_⟩
        simp only [isi_tuple_eq, isi_list_eq, tru_bl, if_true]
        simp only [lenD]
        refine ⟨rfl, rfl, by rw [ceq_bl]; trivial, ?_⟩
        rw [if_neg (by rw [neD_bl]; decide)]
        refine ⟨rfl, rfl, by rw [ceq_bl]; trivial, ?_⟩
        rw [if_neg (by rw [neD_bl]; decide)]
        refine ⟨trivial, trivial, by rw [ceq_int]; trivial, ?_⟩
        simp only [neD_i, if_false, Bool.false_eq_true]
        refine ⟨⟨st, by simp⟩, trivial, ⟨by omega, by omega⟩, ?_⟩
        refine go_map (I := fun ev => ev = ⟨[some (d, x), some (d, y), some (.lst st, l), some (t, t.lv), some (.tup ds, l - 1 - 1), some (.tup ds, l - 1 - 1), none, none], G⟩) (fun a => match a with | .int i => (fun c => Dt.tup [c, c]) ((atI ds i).getD .non) | _ => .non) (fun a ha ev i k hk => ?_) rfl ?_ (fun l' ev' i => ?_)
        · subst i
          obtain ⟨j, hj, rfl⟩ : ∃ j : Nat, j < ds.length ∧ a = .int (0 + j) := by
            simp only [rangeD, List.mem_map, List.mem_range] at ha
            obtain ⟨j, hj, e⟩ := ha
            exact ⟨j, by omega, e.symm⟩
          obtain ⟨c, e, _⟩ := at_in (rows := ds) (v := 0 + (j : Int)) (by omega) (by omega)
          simp only [e, Option.getD_some] at hk
          walk_at "rd"
          walk_at "rt"
          refine ⟨c, e, .inl (by omega), c, e, .inl (by omega), by rw [sizeLine_eq]; decide, hk _ _ rfl⟩
        · rw [rangeD_len, sizeLine_eq]; omega
        · subst i
          have em : (rangeD 0 ((ds.length : Int)).toNat).map (fun a => match a with | .int i => (fun c => Dt.tup [c, c]) ((atI ds i).getD .non) | _ => .non) = ds.map fun c => .tup [c, c] := by
            simp only [rangeD, List.map_map, Int.toNat_natCast]
            refine List.ext_getElem (by simp) fun j h1 h2 => ?_
            have hj : j < ds.length := by simpa using h2
            have ea : atI ds (j : Int) = some ds[j] := by
              unfold atI ixN
              rw [if_pos (by omega), if_pos (by omega)]
              simp [hj]
            simp [ea]
          rw [em]
          walk_at "rd"
          refine ⟨st, l, _, rfl, rfl, rfl, hl, by rw [sizeLine_eq, List.length_map]; omega, h1 _ ⟨_, _, _, _, _, _, _, rfl, by decide, fun p hp => ?_, ?_, ?_⟩⟩
          · rcases List.mem_append.mp hp with hp | hp
            · obtain ⟨e, e1, e2, _⟩ := hst2 p hp
              exact ⟨e, e1, e2, .inl (by decide)⟩
            · obtain ⟨c, hc, rfl⟩ := List.mem_map.mp hp
              exact ⟨c, rfl, hch.2 c hc, .inl (by decide)⟩
          · rw [wts_app, wts_pair]; omega
          · rw [wts_app, wts_pair]; omega
      | .lst ds, he, hf, same, hw1, hw2 =>
        have hl3 : l ≤ 3 := hf.elim id fun h => (nomatch h)
        have hch := he.lst
        have hsz : sz (.lst ds) = 1 + szs ds := rfl
        rw [hsz] at hw1 hw2
        have hll := len_szs ds
        walk_at "rd"
        refine ⟨rfl, trivial, ?_⟩
        simp only [isi_tuple_eq, isi_list_eq, tru_bl, if_true, if_false, Bool.false_eq_true]
        refine ⟨rfl, trivial, ?_⟩
        simp only [lenD]
        refine ⟨rfl, rfl, by rw [ceq_bl]; trivial, ?_⟩
        rw [if_neg (by rw [neD_bl]; decide)]
        refine ⟨rfl, rfl, by rw [ceq_bl]; trivial, ?_⟩
        rw [if_neg (by rw [neD_bl]; decide)]
        refine ⟨trivial, trivial, by rw [ceq_int]; trivial, ?_⟩
        simp only [neD_i, if_false, Bool.false_eq_true]
        refine ⟨⟨st, by simp⟩, trivial, ⟨by omega, by omega⟩, ?_⟩
        refine go_map (I := fun ev => ev = ⟨[some (d, x), some (d, y), some (.lst st, l), some (t, t.lv), some (.lst ds, l - 1 - 1), some (.lst ds, l - 1 - 1), none, none], G⟩) (fun a => match a with | .int i => (fun c => Dt.tup [c, c]) ((atI ds i).getD .non) | _ => .non) (fun a ha ev i k hk => ?_) rfl ?_ (fun l' ev' i => ?_)
        · subst i
          obtain ⟨j, hj, rfl⟩ : ∃ j : Nat, j < ds.length ∧ a = .int (0 + j) := by
            simp only [rangeD, List.mem_map, List.mem_range] at ha
            obtain ⟨j, hj, e⟩ := ha
            exact ⟨j, by omega, e.symm⟩
          obtain ⟨c, e, _⟩ := at_in (rows := ds) (v := 0 + (j : Int)) (by omega) (by omega)
          simp only [e, Option.getD_some] at hk
          walk_at "rd"
          walk_at "rt"
          refine ⟨c, e, .inl (by omega), c, e, .inl (by omega), by rw [sizeLine_eq]; decide, hk _ _ rfl⟩
        · rw [rangeD_len, sizeLine_eq]; omega
        · subst i
          have em : (rangeD 0 ((ds.length : Int)).toNat).map (fun a => match a with | .int i => (fun c => Dt.tup [c, c]) ((atI ds i).getD .non) | _ => .non) = ds.map fun c => .tup [c, c] := by
            simp only [rangeD, List.map_map, Int.toNat_natCast]
            refine List.ext_getElem (by simp) fun j h1 h2 => ?_
            have hj : j < ds.length := by simpa using h2
            have ea : atI ds (j : Int) = some ds[j] := by
              unfold atI ixN
              rw [if_pos (by omega), if_pos (by omega)]
              simp [hj]
            simp [ea]
          rw [em]
          walk_at "rd"
          refine ⟨st, l, _, rfl, rfl, rfl, hl, by rw [sizeLine_eq, List.length_map]; omega, h1 _ ⟨_, _, _, _, _, _, _, rfl, by decide, fun p hp => ?_, ?_, ?_⟩⟩
          · rcases List.mem_append.mp hp with hp | hp
            · obtain ⟨e, e1, e2, _⟩ := hst2 p hp
              exact ⟨e, e1, e2, .inl (by decide)⟩
            · obtain ⟨c, hc, rfl⟩ := List.mem_map.mp hp
              exact ⟨c, rfl, hch.2 c hc, .inl (by decide)⟩
          · rw [wts_app, wts_pair]; omega
          · rw [wts_app, wts_pair]; omega
      | .dct kvs, he, hf, same, hw1, hw2 =>
        have hl3 : l ≤ 3 := hf.elim id fun h => (nomatch h)
        have hch := he.dct
        have hsz : sz (.dct kvs) = 1 + szk kvs := rfl
        rw [hsz] at hw1 hw2
        have hll := len_szk kvs
        have hstr : ∀ a ∈ keysD kvs, ∃ s v, a = .str s ∧ lookD (.inr s) kvs = some v := fun a ha => by
          obtain ⟨kv, hk, rfl⟩ := List.mem_map.mp ha
          obtain ⟨⟨s, e⟩, _⟩ := hch.2.1 kv hk
          refine ⟨s, kv.2, by rw [e]; rfl, ?_⟩
          rw [← e]
          exact look_at (n := 0) hch.2.2 hk
        have klen : (keysD kvs).length = kvs.length := by simp [keysD]
        walk_at "rd"
        refine ⟨rfl, trivial, rfl, trivial, rfl, trivial, rfl, trivial, trivial, trivial, ?_, ?_⟩
        · simp only [lenD]; rw [ceq_int]; trivial
        simp only [lenD, neD_i, if_false, Bool.false_eq_true]
        refine ⟨kvs, rfl, ?_⟩
        refine go_filter (I := fun ev => ∃ x5, ev = ⟨[some (d, x), some (d, y), some (.lst st, l), some (t, t.lv), some (.dct kvs, l - 1 - 1), some (.dct kvs, x5), none, none], G⟩) (fun a => notinD a (.dct kvs)) (fun a => a) (fun a ha ev i k hk => ?_) ⟨_, rfl⟩ (by rw [klen, sizeLine_eq]; omega) (fun l' ev' i => ?_)
        · obtain ⟨x5, rfl⟩ := i
          obtain ⟨s, v, rfl, e⟩ := hstr a ha
          have nn : notinD (.str s) (.dct kvs) = false := by simp [notinD, inD, keyD, e]
          simp only [nn, if_false, Bool.false_eq_true] at hk
          walk_at "rd"
          simp only [nn, if_false, Bool.false_eq_true]
          exact ⟨rfl, hk _ _ ⟨_, rfl⟩⟩
        obtain ⟨x5, rfl⟩ := i
        have none_ : (keysD kvs).filter (fun a => notinD a (.dct kvs)) = [] := List.filter_eq_nil_iff.mpr fun a ha => by
          obtain ⟨s, v, rfl, e⟩ := hstr a ha
          simp [notinD, inD, keyD, e]
        rw [none_]
        walk_at "rd"
        refine ⟨trivial, trivial, ?_⟩
        rw [if_neg (by decide)]
        refine ⟨⟨st, by simp⟩, kvs, rfl, ?_⟩
        refine go_map (I := fun ev => ∃ x5, x5 ≤ 1 ∧ ev = ⟨[some (d, x), some (d, y), some (.lst st, l), some (t, t.lv), some (.dct kvs, l - 1 - 1), some (.dct kvs, x5), none, none], G⟩) (fun a => match a with | .str s => (fun c => Dt.tup [c, c]) ((lookD (.inr s) kvs).getD .non) | _ => .non) (fun a ha ev i k hk => ?_) ⟨0, by decide, rfl⟩ ?_ (fun l' ev' i => ?_)
        · obtain ⟨x5, hx5, rfl⟩ := i
          obtain ⟨s, v, rfl, e⟩ := hstr a ha
          simp only [e, Option.getD_some] at hk
          walk_at "rd"
          walk_at "rt"
          refine ⟨v, e, .inl (by omega), v, e, .inl hx5, by rw [sizeLine_eq]; decide, hk _ _ ⟨_, hx5, rfl⟩⟩
        · rw [klen, sizeLine_eq]; omega
        · obtain ⟨x5, hx5, rfl⟩ := i
          have em : (keysD kvs).map (fun a => match a with | .str s => (fun c => Dt.tup [c, c]) ((lookD (.inr s) kvs).getD .non) | _ => .non) = (kvs.map (·.2)).map fun c => .tup [c, c] := by
            simp only [keysD, List.map_map]
            refine List.map_congr_left fun kv hk => ?_
            obtain ⟨⟨s, e⟩, _⟩ := hch.2.1 kv hk
            have lk := look_at (n := 0) hch.2.2 hk
            simp only [Function.comp, e, keyDt]
            rw [e] at lk
            rw [lk]
            rfl
          rw [em]
          walk_at "rd"
          refine ⟨st, l, _, rfl, rfl, rfl, hl, by rw [sizeLine_eq, List.length_map, List.length_map]; omega, h1 _ ⟨_, _, _, _, _, _, _, rfl, by decide, fun p hp => ?_, ?_, ?_⟩⟩
          · rcases List.mem_append.mp hp with hp | hp
            · obtain ⟨e, e1, e2, _⟩ := hst2 p hp
              exact ⟨e, e1, e2, .inl (by decide)⟩
            · obtain ⟨c, hc, rfl⟩ := List.mem_map.mp hp
              obtain ⟨kv, hk, rfl⟩ := List.mem_map.mp hc
              exact ⟨kv.2, rfl, (hch.2.1 kv hk).2, .inl (by decide)⟩
          · rw [wts_app, wts_pair, szs_vals]; omega
          · rw [wts_app, wts_pair, szs_vals]; omega
  · obtain ⟨stack, x, y, l, x3, x4, x5, rfl, hl, hst, hw1, hw2⟩ := i
    simp at hw1
  · intro p hp
    simp at hp
    exact ⟨d, hp, hv, hl3⟩
  · rw [hR]; simp only [wts, wt]; omega
  · simp only [wts, wt]; omega
end K01

set_option Elab.async false
set_option linter.all false
set_option maxRecDepth 100000
set_option maxHeartbeats 4000000
namespace K01
open PySem PySem.Spec PyProof.Rows L2 HD
structure Qs (K : PySem.W.Frag) (mg : Str → Option Value) (D : Addr) : Prop where
  m_BadNet : mg "BadNet" = some (.ref (He.ga K "BadNet"))
  k_BadNet : PySem.W.kitOne K (.ref D) (.ref (He.ga K "BadNet")) = some true
  m_BadRun : mg "BadRun" = some (.ref (He.ga K "BadRun"))
  k_BadRun : PySem.W.kitOne K (.ref D) (.ref (He.ga K "BadRun")) = some false
  m_BadFilling : mg "BadFilling" = some (.ref (He.ga K "BadFilling"))
  k_BadFilling : PySem.W.kitOne K (.ref D) (.ref (He.ga K "BadFilling")) = some false
  m_BadClimb : mg "BadClimb" = some (.ref (He.ga K "BadClimb"))
  k_BadClimb : PySem.W.kitOne K (.ref D) (.ref (He.ga K "BadClimb")) = some false
  m_BadWalk : mg "BadWalk" = some (.ref (He.ga K "BadWalk"))
  k_BadWalk : PySem.W.kitOne K (.ref D) (.ref (He.ga K "BadWalk")) = some false
  m_BadSeen : mg "BadSeen" = some (.ref (He.ga K "BadSeen"))
  k_BadSeen : PySem.W.kitOne K (.ref D) (.ref (He.ga K "BadSeen")) = some false
  m_BadEdit : mg "BadEdit" = some (.ref (He.ga K "BadEdit"))
  k_BadEdit : PySem.W.kitOne K (.ref D) (.ref (He.ga K "BadEdit")) = some false
  m_BadValue : mg "BadValue" = some (.ref (He.ga K "BadValue"))
  k_BadValue : PySem.W.kitOne K (.ref D) (.ref (He.ga K "BadValue")) = some false
  m_BadText : mg "BadText" = some (.ref (He.ga K "BadText"))
  k_BadText : PySem.W.kitOne K (.ref D) (.ref (He.ga K "BadText")) = some false
  m_NotFree : mg "NotFree" = some (.ref (He.ga K "NotFree"))
  k_NotFree : PySem.W.kitOne K (.ref D) (.ref (He.ga K "NotFree")) = some false
  m_NotJoined : mg "NotJoined" = some (.ref (He.ga K "NotJoined"))
  k_NotJoined : PySem.W.kitOne K (.ref D) (.ref (He.ga K "NotJoined")) = some false
  m_NotRing : mg "NotRing" = some (.ref (He.ga K "NotRing"))
  k_NotRing : PySem.W.kitOne K (.ref D) (.ref (He.ga K "NotRing")) = some false
  m_NotSafe : mg "NotSafe" = some (.ref (He.ga K "NotSafe"))
  k_NotSafe : PySem.W.kitOne K (.ref D) (.ref (He.ga K "NotSafe")) = some false
  m_Still : mg "Still" = some (.ref (He.ga K "Still"))
  k_Still : PySem.W.kitOne K (.ref D) (.ref (He.ga K "Still")) = some false
  m_TooMany : mg "TooMany" = some (.ref (He.ga K "TooMany"))
  k_TooMany : PySem.W.kitOne K (.ref D) (.ref (He.ga K "TooMany")) = some false
  m_NothingToUndo : mg "NothingToUndo" = some (.ref (He.ga K "NothingToUndo"))
  k_NothingToUndo : PySem.W.kitOne K (.ref D) (.ref (He.ga K "NothingToUndo")) = some false
  m_NothingToRedo : mg "NothingToRedo" = some (.ref (He.ga K "NothingToRedo"))
  k_NothingToRedo : PySem.W.kitOne K (.ref D) (.ref (He.ga K "NothingToRedo")) = some false
  m_WorkError : mg "WorkError" = some (.ref (He.ga K "WorkError"))
  k_WorkError : PySem.W.kitOne K (.ref D) (.ref (He.ga K "WorkError")) = some true
  k_ValueError : PySem.W.kitOne K (.ref D) (.type "ValueError") = some true
  n_key : PySem.W.findIn K (.ref D) "key" = some none
  n_place : PySem.W.findIn K (.ref D) "place" = some none
  n_name : PySem.W.findIn K (.ref D) "name" = some none
  n_step : PySem.W.findIn K (.ref D) "step" = some none
  n_item : PySem.W.findIn K (.ref D) "item" = some none
  n_word : PySem.W.findIn K (.ref D) "word" = some none
  n_line : PySem.W.findIn K (.ref D) "line" = some none
  n_column : PySem.W.findIn K (.ref D) "column" = some none
  ec : ExcC K D
  cl : XfC K D
/-! _law_named -/
abbrev s_law_named : Stmt := top 51
abbrev N_law_named : List Str := ["error", "names", "fits"]
theorem sc_law_named : FnScope N_law_named ["error"] (defScope s_law_named) := ⟨rfl, rfl, rfl, by decide +kernel, rfl, by decide +kernel, by decide +kernel⟩
def T_law_named (a : Addr) (dx : Option Addr) : TSD := (dsCons (dsSet 1 (dSplit (dStr "BadNet BadRun BadFilling BadClimb BadWalk BadSeen BadEdit BadValue BadText NotFree NotJoined NotRing NotSafe Still TooMany NothingToUndo NothingToRedo") (dStr " "))) (dsCons (dsSet 2 (dLst (dCons (dIsX a dx true 0) (dCons (dIsX a dx false 0) (dCons (dIsX a dx false 0) (dCons (dIsX a dx false 0) (dCons (dIsX a dx false 0) dNil))))))) (dsCons (dsSet 2 (dAdd (dFrz 2) (dLst (dCons (dIsX a dx false 0) (dCons (dIsX a dx false 0) (dCons (dIsX a dx false 0) (dCons (dIsX a dx false 0) (dCons (dIsX a dx false 0) dNil)))))))) (dsCons (dsSet 2 (dAdd (dFrz 2) (dLst (dCons (dIsX a dx false 0) (dCons (dIsX a dx false 0) (dCons (dIsX a dx false 0) (dCons (dIsX a dx false 0) (dCons (dIsX a dx false 0) dNil)))))))) (dsCons (dsSet 2 (dAdd (dFrz 2) (dLst (dCons (dIsX a dx false 0) (dCons (dIsX a dx false 0) dNil))))) (dsCons (dsIf (dOr (tt (dEE CEq neD (dCnt 2 (dBl true)) (dInt 1))) (dOr (dNot (dTru (dIsX a dx true 0))) (dNot (dTru (dIsX a dx true 0))))) (dsRet (dFz (dStr "other"))) dsNil) (dsRet (dFz (dIxV 1 (dIdxM 2 (dBl true)))))))))))
theorem w_law_named {P : Program} {w : World} {K : PySem.W.Frag} {mg : Str → Option Value} {base : Heap} {k : Nat} {D : Addr} (B : Bs mg) (Q : Qs K mg D) (f : Addr) (cdv : Value) (A : Around) (outer : List Env) (s : Shared) (H : Hp) (E : XK) (a : Addr) (oe : Obj) (dx : Option Addr)
    (zn : L2N.Zn (.ref D) (dx) oe) (fl : ∃ vs, oe.data = .fields vs) (room : L2H.RoomH k (A.deeper (envOfC "_law_named" (defScope s_law_named) s.heap.objs.size f cdv))) :
    DSs (L2H.cxH (L2N.CX P w) P w K mg base N_law_named "_law_named" (defScope s_law_named) f cdv A outer s H E (a, oe)) (fun cls d _ H => E cls d H) (defBody s_law_named) (T_law_named a dx) := by
  have sc := sc_law_named
  have ca : Caught (L2H.cxH (L2N.CX P w) P w K mg base N_law_named "_law_named" (defScope s_law_named) f cdv A outer s H E (a, oe)) (a, oe) D (dx) := ⟨List.mem_singleton.mpr rfl, zn, fl, Q.ec⟩
  have hu5 : (L2H.cxH (L2N.CX P w) P w K mg base N_law_named "_law_named" (defScope s_law_named) f cdv A outer s H E (a, oe)).A.units + 65 < cLine := by have := room.un; show (A.deeper _).units + 65 < _; omega
  have hu : (L2H.cxH (L2N.CX P w) P w K mg base N_law_named "_law_named" (defScope s_law_named) f cdv A outer s H E (a, oe)).A.units + 64 < cLine := by omega
  exact (dss_cons (ds_set (i := 1) sc.nd rfl (by first | exact .inl rfl | exact .inr rfl) (de_split de_str de_str))
  (dss_cons (ds_set (i := 2) sc.nd rfl (by first | exact .inl rfl | exact .inr rfl) (de_lst (da_cons (de_isX ca Q.k_BadNet B.isinstance Q.m_BadNet (pv 0)) (da_cons (de_isX ca Q.k_BadRun B.isinstance Q.m_BadRun (pv 0)) (da_cons (de_isX ca Q.k_BadFilling B.isinstance Q.m_BadFilling (pv 0)) (da_cons (de_isX ca Q.k_BadClimb B.isinstance Q.m_BadClimb (pv 0)) (da_cons (de_isX ca Q.k_BadWalk B.isinstance Q.m_BadWalk (pv 0)) da_nil)))))))
  (dss_cons (ds_set (i := 2) sc.nd rfl (by first | exact .inl rfl | exact .inr rfl) (de_add (de_frz 2) (de_lst (da_cons (de_isX ca Q.k_BadSeen B.isinstance Q.m_BadSeen (pv 0)) (da_cons (de_isX ca Q.k_BadEdit B.isinstance Q.m_BadEdit (pv 0)) (da_cons (de_isX ca Q.k_BadValue B.isinstance Q.m_BadValue (pv 0)) (da_cons (de_isX ca Q.k_BadText B.isinstance Q.m_BadText (pv 0)) (da_cons (de_isX ca Q.k_NotFree B.isinstance Q.m_NotFree (pv 0)) da_nil))))))))
  (dss_cons (ds_set (i := 2) sc.nd rfl (by first | exact .inl rfl | exact .inr rfl) (de_add (de_frz 2) (de_lst (da_cons (de_isX ca Q.k_NotJoined B.isinstance Q.m_NotJoined (pv 0)) (da_cons (de_isX ca Q.k_NotRing B.isinstance Q.m_NotRing (pv 0)) (da_cons (de_isX ca Q.k_NotSafe B.isinstance Q.m_NotSafe (pv 0)) (da_cons (de_isX ca Q.k_Still B.isinstance Q.m_Still (pv 0)) (da_cons (de_isX ca Q.k_TooMany B.isinstance Q.m_TooMany (pv 0)) da_nil))))))))
  (dss_cons (ds_set (i := 2) sc.nd rfl (by first | exact .inl rfl | exact .inr rfl) (de_add (de_frz 2) (de_lst (da_cons (de_isX ca Q.k_NothingToUndo B.isinstance Q.m_NothingToUndo (pv 0)) (da_cons (de_isX ca Q.k_NothingToRedo B.isinstance Q.m_NothingToRedo (pv 0)) da_nil)))))
  (dss_cons (ds_if (dw_pt (dw_or (dt_EE (opB_ne hu) ne_OpB (de_cnt hu5 (pv 2) de_bl) de_int rfl) (dw_or (dt_not (dt_tru (de_isX ca Q.k_WorkError B.isinstance Q.m_WorkError (pv 0)))) (dw_or1 (dt_not (dt_tru (de_isXB ca Q.k_ValueError B.isinstance B.ValueError bt_ValueError (pv 0)))))))) (dss_one (ds_ret (de_fz de_str))) dss_nil)
  (dss_one (ds_ret (de_fz (de_ixV hu (pv 1) (de_idxM hu5 (pv 2) de_bl)))))))))))
/-! _law_attributes -/
abbrev s_law_attributes : Stmt := top 52
abbrev N_law_attributes : List Str := ["e", "name"]
theorem sc_law_attributes : FnScope N_law_attributes ["e", "name"] (defScope s_law_attributes) := ⟨rfl, rfl, rfl, by decide +kernel, rfl, by decide +kernel, by decide +kernel⟩
def T_law_attributes (a : Addr) (dd : Addr) : TSD := (dsCons (dsIf (tt (dVE CEq eqD 1 (dStr "BadNet"))) (dsRet (dFz (dTup (dCons (dFld a dd "key" 0) dNil)))) dsNil) (dsCons (dsIf (tt (dVE CEq eqD 1 (dStr "BadRun"))) (dsRet (dFz (dTup (dCons (dFld a dd "place" 0) dNil)))) dsNil) (dsCons (dsIf (tt (dVE CIn inD 1 (dTup (dCons (dStr "BadFilling") (dCons (dStr "BadValue") dNil))))) (dsRet (dFz (dTup (dCons (dFld a dd "name" 0) dNil)))) dsNil) (dsCons (dsIf (tt (dVE CEq eqD 1 (dStr "BadClimb"))) (dsRet (dFz (dTup (dCons (dFld a dd "step" 0) dNil)))) dsNil) (dsCons (dsIf (tt (dVE CEq eqD 1 (dStr "BadWalk"))) (dsRet (dFz (dTup (dCons (dFld a dd "item" 0) dNil)))) dsNil) (dsCons (dsIf (tt (dVE CIn inD 1 (dTup (dCons (dStr "BadSeen") (dCons (dStr "BadEdit") (dCons (dStr "TooMany") dNil)))))) (dsRet (dFz (dTup (dCons (dFld a dd "word" 0) dNil)))) dsNil) (dsRet (dFz (dIf (tt (dVE CEq eqD 1 (dStr "BadText"))) (dTup (dCons (dFld a dd "line" 0) (dCons (dFld a dd "column" 0) dNil))) (dTup dNil))))))))))
theorem w_law_attributes {P : Program} {w : World} {K : PySem.W.Frag} {mg : Str → Option Value} {base : Heap} {k : Nat} {D : Addr} (B : Bs mg) (Q : Qs K mg D) (f : Addr) (cdv : Value) (A : Around) (outer : List Env) (s : Shared) (H : Hp) (E : XK) (a : Addr) (oe : Obj) (dd : Addr)
    (zn : L2N.Zn (.ref D) (some dd) oe) (fl : ∃ vs, oe.data = .fields vs) (room : L2H.RoomH k (A.deeper (envOfC "_law_attributes" (defScope s_law_attributes) s.heap.objs.size f cdv))) :
    DSs (L2H.cxH (L2N.CX P w) P w K mg base N_law_attributes "_law_attributes" (defScope s_law_attributes) f cdv A outer s H E (a, oe)) (fun cls d _ H => E cls d H) (defBody s_law_attributes) (T_law_attributes a dd) := by
  have sc := sc_law_attributes
  have ca : Caught (L2H.cxH (L2N.CX P w) P w K mg base N_law_attributes "_law_attributes" (defScope s_law_attributes) f cdv A outer s H E (a, oe)) (a, oe) D (some dd) := ⟨List.mem_singleton.mpr rfl, zn, fl, Q.ec⟩
  have hu5 : (L2H.cxH (L2N.CX P w) P w K mg base N_law_attributes "_law_attributes" (defScope s_law_attributes) f cdv A outer s H E (a, oe)).A.units + 65 < cLine := by have := room.un; show (A.deeper _).units + 65 < _; omega
  have hu : (L2H.cxH (L2N.CX P w) P w K mg base N_law_attributes "_law_attributes" (defScope s_law_attributes) f cdv A outer s H E (a, oe)).A.units + 64 < cLine := by omega
  exact (dss_cons (ds_if (dt_VE (opB_eq hu) eq_OpB (pv 1) de_str rfl) (dss_one (ds_ret (de_fz (de_tup (da_cons (de_fld ca Q.cl Q.n_key (pv 0)) da_nil))))) dss_nil)
  (dss_cons (ds_if (dt_VE (opB_eq hu) eq_OpB (pv 1) de_str rfl) (dss_one (ds_ret (de_fz (de_tup (da_cons (de_fld ca Q.cl Q.n_place (pv 0)) da_nil))))) dss_nil)
  (dss_cons (ds_if (dt_VE (op_inA hu5) in_OpB (pv 1) (de_tup (da_cons de_str (da_cons de_str da_nil))) rfl) (dss_one (ds_ret (de_fz (de_tup (da_cons (de_fld ca Q.cl Q.n_name (pv 0)) da_nil))))) dss_nil)
  (dss_cons (ds_if (dt_VE (opB_eq hu) eq_OpB (pv 1) de_str rfl) (dss_one (ds_ret (de_fz (de_tup (da_cons (de_fld ca Q.cl Q.n_step (pv 0)) da_nil))))) dss_nil)
  (dss_cons (ds_if (dt_VE (opB_eq hu) eq_OpB (pv 1) de_str rfl) (dss_one (ds_ret (de_fz (de_tup (da_cons (de_fld ca Q.cl Q.n_item (pv 0)) da_nil))))) dss_nil)
  (dss_cons (ds_if (dt_VE (op_inA hu5) in_OpB (pv 1) (de_tup (da_cons de_str (da_cons de_str (da_cons de_str da_nil)))) rfl) (dss_one (ds_ret (de_fz (de_tup (da_cons (de_fld ca Q.cl Q.n_word (pv 0)) da_nil))))) dss_nil)
  (dss_one (ds_ret (de_fz (de_if (dt_VE (opB_eq hu) eq_OpB (pv 1) de_str rfl) (de_tup (da_cons (de_fld ca Q.cl Q.n_line (pv 0)) (da_cons (de_fld ca Q.cl Q.n_column (pv 0)) da_nil))) (de_tup da_nil)))))))))))
end K01

set_option Elab.async false
set_option linter.all false
set_option maxRecDepth 100000
set_option maxHeartbeats 4000000
namespace K01
open PySem PySem.Spec PyProof.Rows L2 HD
local macro_rules | `(tactic| walk_at "rd") => `(tactic| simp only [dsRet, dFz, dAndV, dOrV, dNotV, dIsiV, dIsi, dCall, dCons, dNil, dFrz, dVV, dEV, dVE, dEE, dBin, dUn, dUV, dU, uB, Has, asB, tt, dAnd, dOr, dNot, dTru, dTruV, dIf, dsIf, dsCons, dsNil, dsSet, dsAsg, dInt, dBl, dNon, dStr, dCon, dIxV, dIx, dTup, dLst, dTupOf, dLstOf, dMax2, dMin2, dI, uInt, dSub, dMod, dDiv, dAdd, uAdd, dMul, uMul, dNeg, dPow, endsOf, gdSt, gdName, dDict0, diSeq, diRange1, diRange2, dLc, dLcK, dsFor, dsForK, Ev.wipe, wipeL, slots, dsOf, List.map_cons, List.map_nil, List.cons_append, List.nil_append, List.replicate, List.getElem?_cons_zero, List.getElem?_cons_succ, List.set_cons_zero, List.set_cons_succ, Option.some.injEq, Prod.mk.injEq, and_assoc, exists_and_left, exists_eq_left', exists_eq_left, exists_eq', Nat.reduceAdd, Nat.reduceSub, List.length_cons, List.length_nil, true_and, goStep, dYes, if_true, if_false, Bool.false_eq_true, dRaise, dSl, dPn, dPs, dsExtend, dPop, gdTup, gdCons, gdNil, dIsX, dSplit, dCnt, dIdxM, dFld])
local macro_rules | `(tactic| walk_at "rt") => `(tactic| simp only [tru_bl, ctru_bl, lv_bl, lv_int, lv_str, lv_non, lv_tup, lv_lst, lv_dct, ix_tup, ix_lst, ix_dct, at3_0, at3_1, at3_2, exists_eq_left', exists_eq_left, Option.some.injEq, Nat.zero_le, true_or, or_true, true_and, and_true, Bool.not_true, Bool.not_false, if_true, if_false, Bool.false_eq_true, Bool.true_and, Bool.false_and])
local macro_rules | `(tactic| walk_at "rc") => `(tactic| simp only [ix0_0, ix0_1, ix0_2, st0_1, st0_2, Option.some.injEq, exists_eq_left', exists_eq_left, true_and, and_true, lv_int, lv_bl, ceq_int, eqD_int, lenD, CLen, CI, CInt1, CNum, absD, HD.intD, gI, decide_eq_true_eq, ix_lst])

def S_named (D a : Addr) (cls : Value) (dx : Option Addr) : SpD := fun ds G P _ => cls = .ref D ∧ ∃ fs, ds = [.exc a dx fs] ∧ P (.str "BadNet") topL G
theorem names_split : Txt.split ("BadNet BadRun BadFilling BadClimb BadWalk BadSeen BadEdit BadValue BadText NotFree NotJoined NotRing NotSafe Still TooMany NothingToUndo NothingToRedo" : Str) (" " : Str) =
    (["BadNet", "BadRun", "BadFilling", "BadClimb", "BadWalk", "BadSeen", "BadEdit", "BadValue", "BadText", "NotFree", "NotJoined", "NotRing", "NotSafe", "Still", "TooMany", "NothingToUndo", "NothingToRedo"] : List Str) := by decide +kernel
def FL : List Dt := [.bl true, .bl false, .bl false, .bl false, .bl false, .bl false, .bl false, .bl false, .bl false, .bl false, .bl false, .bl false, .bl false, .bl false, .bl false, .bl false, .bl false]
theorem fl1 : shp (.lst FL) = true := by decide +kernel
theorem fl2 : cntD FL (.bl true) = 1 := by decide +kernel
theorem fl3 : idxD FL (.bl true) = some 0 := by decide +kernel
theorem fl4 : shp (.bl true) = true := by decide +kernel
theorem l_law_named {a : Addr} {dx : Option Addr} {fs : List (Str × Dt)} {G : Gs} {P : Dt → Nat → Gs → Prop} {X : Addr → Fld → Gs → Prop} (hp : P (.str "BadNet") topL G) : T_law_named a dx (endsOf P X) ⟨slots [.exc a dx fs] 2, G⟩ := by
  unfold T_law_named
  have z (n : Nat) (h : n ≤ 1000) : n ≤ sizeLine := by rw [sizeLine_eq]; omega
  walk_at "rd"
  simp only [Dt.str.injEq, Dt.exc.injEq, true_and, and_true, exists_eq_left', names_split]
  refine ⟨by decide +kernel, z _ (by decide +kernel), z _ (by decide), z _ (by decide), z _ (by decide), z _ (by decide), z _ (by decide), z _ (by decide), z _ (by decide), ⟨_, rfl⟩, FL, rfl, fl1, fl4, by rw [ceq_int]; trivial, ?_⟩
  rw [if_neg (by rw [fl2]; show ¬ neD (.int 1) (.int 1) = true; rw [neD_i]; decide)]
  refine ⟨trivial, trivial, ⟨_, rfl⟩, FL, rfl, fl1, fl4, 0, fl3, ?_⟩
  exact ⟨_, rfl, .inr rfl, hp⟩
theorem l_law_attributes {a : Addr} {dd : Addr} {v : Dt} {G : Gs} {P : Dt → Nat → Gs → Prop} {X : Addr → Fld → Gs → Prop} (hp : P (.tup [v]) 0 G) : T_law_attributes a dd (endsOf P X) ⟨slots [.exc a (some dd) [("key", v)], .str "BadNet"] 0, G⟩ := by
  unfold T_law_attributes
  walk_at "rd"
  refine ⟨by rw [ceq_str]; trivial, ?_⟩
  rw [if_pos (by decide +kernel)]
  exact ⟨[("key", v)], rfl, v, rfl, by rw [sizeLine_eq]; decide, hp⟩
end K01

set_option Elab.async false
set_option linter.all false
set_option maxRecDepth 100000
set_option maxHeartbeats 4000000
namespace K01
open PySem PySem.Spec PyProof.Rows L2 HD
local macro_rules | `(tactic| walk_at "rd") => `(tactic| simp only [dsRet, dFz, dAndV, dOrV, dNotV, dIsiV, dIsi, dCall, dCons, dNil, dFrz, dVV, dEV, dVE, dEE, dBin, dUn, dUV, dU, uB, Has, asB, tt, dAnd, dOr, dNot, dTru, dTruV, dIf, dsIf, dsCons, dsNil, dsSet, dsAsg, dInt, dBl, dNon, dStr, dCon, dIxV, dIx, dTup, dLst, dTupOf, dLstOf, dMax2, dMin2, dI, uInt, dSub, dMod, dDiv, dAdd, uAdd, dMul, uMul, dNeg, dPow, endsOf, gdSt, gdName, dDict0, diSeq, diRange1, diRange2, dLc, dLcK, dsFor, dsForK, Ev.wipe, wipeL, slots, dsOf, List.map_cons, List.map_nil, List.cons_append, List.nil_append, List.replicate, List.getElem?_cons_zero, List.getElem?_cons_succ, List.set_cons_zero, List.set_cons_succ, Option.some.injEq, Prod.mk.injEq, and_assoc, exists_and_left, exists_eq_left', exists_eq_left, exists_eq', Nat.reduceAdd, Nat.reduceSub, List.length_cons, List.length_nil, true_and, goStep, dYes, if_true, if_false, Bool.false_eq_true, dRaise, dSl, dPn, dPs, dsExtend, dPop, gdTup, gdCons, gdNil, dIsX, dSplit, dCnt, dIdxM, dFld])
local macro_rules | `(tactic| walk_at "rt") => `(tactic| simp only [tru_bl, ctru_bl, lv_bl, lv_int, lv_str, lv_non, lv_tup, lv_lst, lv_dct, ix_tup, ix_lst, ix_dct, at3_0, at3_1, at3_2, exists_eq_left', exists_eq_left, Option.some.injEq, Nat.zero_le, true_or, or_true, true_and, and_true, Bool.not_true, Bool.not_false, if_true, if_false, Bool.false_eq_true, Bool.true_and, Bool.false_and])
local macro_rules | `(tactic| walk_at "rc") => `(tactic| simp only [ix0_0, ix0_1, ix0_2, st0_1, st0_2, Option.some.injEq, exists_eq_left', exists_eq_left, true_and, and_true, lv_int, lv_bl, ceq_int, eqD_int, lenD, CLen, CI, CInt1, CNum, absD, HD.intD, gI, decide_eq_true_eq, ix_lst])

def S_attr (D a : Addr) (cls : Value) (dx : Option Addr) : SpD := fun ds G P _ => cls = .ref D ∧ dx.isSome = true ∧ ∃ v, ds = [.exc a dx [("key", v)], .str "BadNet"] ∧ P (.tup [v]) 0 G
abbrev SnP (D : Addr) (p : Addr × Obj) : SpD := S_named D p.1 p.2.cls p.2.dict
abbrev SaP (D : Addr) (p : Addr × Obj) : SpD := S_attr D p.1 p.2.cls p.2.dict
theorem zn_of {A : Around} {p : Addr × Obj} {D : Addr} (h : L2H.Hot1 A p) (e : p.2.cls = .ref D) : L2N.Zn (.ref D) p.2.dict p.2 ∧ ∃ vs, p.2.data = .fields vs := by
  obtain ⟨_, vs, e1, e2⟩ := h
  exact ⟨⟨e, rfl, fun ws hw => by rw [e1] at hw; cases hw; exact e2⟩, vs, e1⟩
section
variable {P : Program} {w : World} {K : PySem.W.Frag} {mg : Str → Option Value} {base : Heap} {D : Addr} {f : Addr} {fd : FuncData}
theorem c_named (B : Bs mg) (Q : Qs K mg D) (F : Fd K "_law_named" s_law_named f fd) (hm : mg "_law_named" = some (.ref f)) (b : Binds K fd ["error"] []) (k : Nat) : CalP P w K mg base "_law_named" (k + 1) (SnP D) := by
  refine calP_of (T := fun p => T_law_named p.1 p.2.dict) F hm b sc_law_named (fun p ds G P X h => ?_) (fun cdv A outer s H E p hot room h => ?_) (fun p ds G P X h => ?_)
  · obtain ⟨_, fs, rfl, _⟩ := h; rfl
  · obtain ⟨_, _, _, _, h, _⟩ := h
    obtain ⟨z, fl⟩ := zn_of hot h
    exact w_law_named B Q f cdv A outer s H E p.1 p.2 p.2.dict z fl room
  · obtain ⟨_, fs, rfl, hp⟩ := h
    exact l_law_named hp
theorem c_attributes (B : Bs mg) (Q : Qs K mg D) (F : Fd K "_law_attributes" s_law_attributes f fd) (hm : mg "_law_attributes" = some (.ref f)) (b : Binds K fd ["e", "name"] []) (k : Nat) : CalP P w K mg base "_law_attributes" (k + 1) (SaP D) := by
  refine calP_of (T := fun p => T_law_attributes p.1 (p.2.dict.getD 0)) F hm b sc_law_attributes (fun p ds G P X h => ?_) (fun cdv A outer s H E p hot room h => ?_) (fun p ds G P X h => ?_)
  · obtain ⟨_, _, v, rfl, _⟩ := h; rfl
  · obtain ⟨_, _, _, _, h, hs, _⟩ := h
    obtain ⟨z, fl⟩ := zn_of hot h
    obtain ⟨dd, e⟩ := Option.isSome_iff_exists.mp hs
    rw [e] at z
    have e2 : p.2.dict.getD 0 = dd := by rw [e]; rfl
    rw [e2]
    exact w_law_attributes B Q f cdv A outer s H E p.1 p.2 dd z fl room
  · obtain ⟨_, hs, v, rfl, hp⟩ := h
    obtain ⟨dd, e⟩ := Option.isSome_iff_exists.mp hs
    rw [e]
    exact l_law_attributes hp
end
/-! _law_ask -/
abbrev s_law_ask : Stmt := top 62
abbrev N_law_ask : List Str := ["wide", "value", "e", "answer", "name"]
theorem sc_law_ask : FnScope N_law_ask ["wide", "value"] (defScope s_law_ask) := ⟨rfl, rfl, rfl, by decide +kernel, rfl, by decide +kernel, by decide +kernel⟩
def Ts_ask (D a : Addr) (cls : Value) (dx : Option Addr) : TSD := dsCons (dsSet 4 (dCall (S_named D a cls dx) (dCons (dFrz 2) dNil))) (dsRet (dFz (dLst (dCons (dStr "raised") (dCons (dFrz 4) (dCons (dCall (S_attr D a cls dx) (dCons (dFrz 2) (dCons (dFrz 4) dNil))) dNil))))))
def T_law_ask (K : PySem.W.Frag) (S_w S_n : SpD) (D Wk : Addr) : TSD := dsCons (dTry K (.ref Wk) 2 (dsIf (dTruV 0) (dsSet 3 (dCall S_w (dCons (dFrz 1) dNil))) (dsSet 3 (dCall S_n (dCons (dFrz 1) dNil)))) (Ts_ask D)) (dsRet (dFz (dLst (dCons (dStr "told") (dCons (dFrz 3) dNil)))))
theorem w_law_ask {P : Program} {w : World} {K : PySem.W.Frag} {mg : Str → Option Value} {base : Heap} {k : Nat} {D Wk : Addr} {S_w S_n : SpD} {k1 k2 k3 k4 : Nat} (F_w : Cal P w K mg base "check_wide" k1 S_w) (h1 : k1 ≤ k) (F_n : Cal P w K mg base "check_net" k2 S_n) (h2 : k2 ≤ k) (FN : CalP P w K mg base "_law_named" k3 (SnP D)) (h3 : k3 ≤ k) (FA : CalP P w K mg base "_law_attributes" k4 (SaP D)) (h4 : k4 ≤ k)
    (mW : mg "WorkError" = some (.ref Wk)) (f : Addr) (cdv : Value) (A : Around) (outer : List Env) (s : Shared) (H : Hp) (E : XK) (room : Room k (A.deeper (envOfC "_law_ask" (defScope s_law_ask) s.heap.objs.size f cdv))) :
    DSs (cxOf (L2N.CX P w) P w K mg base N_law_ask "_law_ask" (defScope s_law_ask) f cdv A outer s H E) (fun cls d _ H => E cls d H) (defBody s_law_ask) (T_law_ask K S_w S_n D Wk) := by
  have sc := sc_law_ask
  have tk : L2N.Takes (cxOf (L2N.CX P w) P w K mg base N_law_ask "_law_ask" (defScope s_law_ask) f cdv A outer s H E) (fun cls d _ H => E cls d H) := L2N.takes_of rfl rfl rfl rfl
  refine dss_cons (ds_try (n := "e") rfl rfl sc.nd rfl rfl ⟨rfl, by decide, .inl mW⟩ tk (fun W pn xe tkW own => ?_) (fun a oe cls d pn zn fl => ?_)) (dss_one (ds_ret (de_fz (de_lst (da_cons de_str (da_cons (de_frz 3) da_nil))))))
  · exact dss_one (ds_if (dt_truV (pv 0)) (dss_one (ds_set (i := 3) sc.nd rfl (.inl rfl) (de_call F_w tkW (room.mono h1) (da_cons (de_frz 1) da_nil)))) (dss_one (ds_set (i := 3) sc.nd rfl (.inl rfl) (de_call F_n tkW (room.mono h2) (da_cons (de_frz 1) da_nil)))))
  · obtain ⟨rfl, rfl, ctx⟩ := zn
    obtain ⟨vs, hv⟩ := fl
    have hot : L2H.Hot1 (Cx.suite (cxOf (L2N.CX P w) P w K mg base N_law_ask "_law_ask" (defScope s_law_ask) f cdv A outer s H E) a ((a, oe) :: pn)).A (a, oe) := ⟨rfl, vs, hv, ctx vs hv⟩
    have rm : ∀ j, j ≤ k → L2H.RoomH j (Cx.suite (cxOf (L2N.CX P w) P w K mg base N_law_ask "_law_ask" (defScope s_law_ask) f cdv A outer s H E) a ((a, oe) :: pn)).A := fun j hj => ⟨(room.mono hj).dp, (room.mono hj).un⟩
    exact dss_cons (ds_set (i := 4) sc.nd rfl (.inl rfl) (de_callP (p := (a, oe)) FN takes_noW0 (rm _ h3) hot List.mem_cons_self (da_cons (de_frz 2) da_nil)))
      (dss_one (ds_ret (de_fz (de_lst (da_cons de_str (da_cons (de_frz 4) (da_cons (de_callP (p := (a, oe)) FA takes_noW0 (rm _ h4) hot List.mem_cons_self (da_cons (de_frz 2) (da_cons (de_frz 4) da_nil))) da_nil)))))))
abbrev fNet : Dt → Dt := fun a => wrongB a 1 8 1 (.int 3) (.int 99)
abbrev fWide : Dt → Dt := fun a => wrongB a 0 200 0 .non .non
def dueD (r : Dt) : Dt := if isNonD r = true then .lst [.str "told", .non] else .lst [.str "raised", .str "BadNet", .tup [r]]
def S_law_ask : SpD := fun ds G P _ => ∃ q v, ds = [.bl q, v] ∧ Plain v ∧ P (dueD (wrongW v q)) 0 G
theorem l_law_ask {K : PySem.W.Frag} {D Wk : Addr} (hx : PySem.W.exmOne K (.ref D) (.ref Wk) = some true) : ∀ ds G P X, S_law_ask ds G P X → T_law_ask K (S_check D fWide) (S_check D fNet) D Wk (endsOf P X) ⟨slots ds 3, G⟩ := by
  rintro _ G P X ⟨q, v, rfl, hv, hp⟩
  have z2 : 2 ≤ sizeLine := by rw [sizeLine_eq]; decide
  have z3 : 3 ≤ sizeLine := by rw [sizeLine_eq]; decide
  have told : isNonD (wrongW v q) = true → P (.lst [.str "told", .non]) 0 G := fun h => by unfold dueD at hp; rw [if_pos h] at hp; exact hp
  have raised : isNonD (wrongW v q) = false → P (.lst [.str "raised", .str "BadNet", .tup [wrongW v q]]) 0 G := fun h => by unfold dueD at hp; rw [if_neg (by rw [h]; decide)] at hp; exact hp
  unfold T_law_ask
  cases q
  · walk_at "rd"
    simp only [dTry]
    walk_at "rd"
    refine ⟨trivial, v, rfl, hv, fun hn => ⟨z2, told hn⟩, fun hn => ?_⟩
    refine ⟨true, hx, fun _ a dx hdx => ?_, fun h => (nomatch h)⟩
    unfold Ts_ask
    simp only [fldsOf, Option.getD_some]
    walk_at "rd"
    refine ⟨rfl, _, rfl, ?_⟩
    walk_at "rd"
    exact ⟨rfl, hdx, _, rfl, z3, raised hn⟩
  · walk_at "rd"
    simp only [dTry]
    walk_at "rd"
    refine ⟨trivial, v, rfl, hv, fun hn => ⟨z2, told hn⟩, fun hn => ?_⟩
    refine ⟨true, hx, fun _ a dx hdx => ?_, fun h => (nomatch h)⟩
    unfold Ts_ask
    simp only [fldsOf, Option.getD_some]
    walk_at "rd"
    refine ⟨rfl, _, rfl, ?_⟩
    walk_at "rd"
    exact ⟨rfl, hdx, _, rfl, z3, raised hn⟩
end K01

set_option Elab.async false
set_option linter.all false
set_option maxRecDepth 100000
set_option maxHeartbeats 4000000
namespace K01
open PySem PySem.Spec PyProof.Rows L2 HD
local macro_rules | `(tactic| walk_at "rd") => `(tactic| simp only [dsRet, dFz, dAndV, dOrV, dNotV, dIsiV, dIsi, dCall, dCons, dNil, dFrz, dVV, dEV, dVE, dEE, dBin, dUn, dUV, dU, uB, Has, asB, tt, dAnd, dOr, dNot, dTru, dTruV, dIf, dsIf, dsCons, dsNil, dsSet, dsAsg, dInt, dBl, dNon, dStr, dCon, dIxV, dIx, dTup, dLst, dTupOf, dLstOf, dMax2, dMin2, dI, uInt, dSub, dMod, dDiv, dAdd, uAdd, dMul, uMul, dNeg, dPow, endsOf, gdSt, gdName, dDict0, diSeq, diRange1, diRange2, dLc, dLcK, dsFor, dsForK, Ev.wipe, wipeL, slots, dsOf, List.map_cons, List.map_nil, List.cons_append, List.nil_append, List.replicate, List.getElem?_cons_zero, List.getElem?_cons_succ, List.set_cons_zero, List.set_cons_succ, Option.some.injEq, Prod.mk.injEq, and_assoc, exists_and_left, exists_eq_left', exists_eq_left, exists_eq', Nat.reduceAdd, Nat.reduceSub, List.length_cons, List.length_nil, true_and, goStep, dYes, if_true, if_false, Bool.false_eq_true, dRaise, dSl, dPn, dPs, dsExtend, dPop, gdTup, gdCons, gdNil, dIsX, dSplit, dCnt, dIdxM, dFld])
local macro_rules | `(tactic| walk_at "rt") => `(tactic| simp only [tru_bl, ctru_bl, lv_bl, lv_int, lv_str, lv_non, lv_tup, lv_lst, lv_dct, ix_tup, ix_lst, ix_dct, at3_0, at3_1, at3_2, exists_eq_left', exists_eq_left, Option.some.injEq, Nat.zero_le, true_or, or_true, true_and, and_true, Bool.not_true, Bool.not_false, if_true, if_false, Bool.false_eq_true, Bool.true_and, Bool.false_and])
local macro_rules | `(tactic| walk_at "rc") => `(tactic| simp only [ix0_0, ix0_1, ix0_2, st0_1, st0_2, Option.some.injEq, exists_eq_left', exists_eq_left, true_and, and_true, lv_int, lv_bl, ceq_int, eqD_int, lenD, CLen, CI, CInt1, CNum, absD, HD.intD, gI, decide_eq_true_eq, ix_lst])

/-! law -/
abbrev s_law : Stmt := top 63
abbrev N_law : List Str := ["script", "stream", "turn", "value", "bend", "wide", "passed", "key", "due"]
theorem sc_law : FnScope N_law ["script"] (defScope s_law) := ⟨rfl, rfl, rfl, by decide +kernel, rfl, by decide +kernel, by decide +kernel⟩
def T_law (S_law_ask : SpD) (S_law_same : SpD) (S_law_wrong : SpD) (S_law_copy : SpD) (S_law_bent : SpD) (S_law_pick : SpD) (S_law_base : SpD) : TSD := (dsCons (dsFor (diRange1 (dInt 8)) (gdName 2) (dsCons (dsSet 3 (dCall S_law_base (dCons (dFrz 1) dNil))) (dsCons (dsFor (diRange1 (dCall S_law_pick (dCons (dFrz 1) (dCons (dTup (dCons (dInt 0) (dCons (dInt 1) (dCons (dInt 1) (dCons (dInt 2) dNil))))) dNil)))) (gdName 4) (dsSet 3 (dCall S_law_bent (dCons (dFrz 1) (dCons (dFrz 3) dNil))))) (dsFor (diSeq (dTup (dCons (dBl false) (dCons (dBl true) (dCons (dBl false) dNil))))) (gdName 5) (dsCons (dsSet 6 (dCall S_law_copy (dCons (dFrz 3) dNil))) (dsCons (dsSet 7 (dCall S_law_wrong (dCons (dFrz 3) (dCons (dFrz 5) dNil)))) (dsCons (dsSet 8 (dIf (tt (dVE CN gIs 7 dNon)) (dLst (dCons (dStr "told") (dCons dNon dNil))) (dLst (dCons (dStr "raised") (dCons (dStr "BadNet") (dCons (dTup (dCons (dFrz 7) dNil)) dNil)))))) (dsIf (dOr (dNot (dTru (dCall S_law_same (dCons (dCall S_law_ask (dCons (dFrz 5) (dCons (dFrz 6) dNil))) (dCons (dFrz 8) dNil))))) (dNot (dTru (dCall S_law_same (dCons (dFrz 6) (dCons (dFrz 3) dNil)))))) (dsRet (dFz (dBl false))) dsNil)))))))) (dsRet (dFz (dBl true))))
theorem w_law {P : Program} {w : World} {K : PySem.W.Frag} {mg : Str → Option Value} {base : Heap} {k : Nat} (B : Bs mg) {S_law_ask : SpD} {klaw_ask : Nat} (F_law_ask : Cal P w K mg base "_law_ask" klaw_ask S_law_ask) (k_law_ask : klaw_ask ≤ k) {S_law_same : SpD} {klaw_same : Nat} (F_law_same : Cal P w K mg base "_law_same" klaw_same S_law_same) (k_law_same : klaw_same ≤ k) {S_law_wrong : SpD} {klaw_wrong : Nat} (F_law_wrong : Cal P w K mg base "_law_wrong" klaw_wrong S_law_wrong) (k_law_wrong : klaw_wrong ≤ k) {S_law_copy : SpD} {klaw_copy : Nat} (F_law_copy : Cal P w K mg base "_law_copy" klaw_copy S_law_copy) (k_law_copy : klaw_copy ≤ k) {S_law_bent : SpD} {klaw_bent : Nat} (F_law_bent : Cal P w K mg base "_law_bent" klaw_bent S_law_bent) (k_law_bent : klaw_bent ≤ k) {S_law_pick : SpD} {klaw_pick : Nat} (F_law_pick : Cal P w K mg base "_law_pick" klaw_pick S_law_pick) (k_law_pick : klaw_pick ≤ k) {S_law_base : SpD} {klaw_base : Nat} (F_law_base : Cal P w K mg base "_law_base" klaw_base S_law_base) (k_law_base : klaw_base ≤ k) (f : Addr) (cdv : Value) (A : Around) (outer : List Env) (s : Shared) (H : Hp) (E : XK)
    (room : Room k (A.deeper (envOfC "law" (defScope s_law) s.heap.objs.size f cdv))) : DSs (cxOf (L2N.CX P w) P w K mg base N_law "law" (defScope s_law) f cdv A outer s H E) (fun cls d _ H => E cls d H) (defBody s_law).tail (T_law S_law_ask S_law_same S_law_wrong S_law_copy S_law_bent S_law_pick S_law_base) := by
  have sc := sc_law
  have tk : L2N.Takes (cxOf (L2N.CX P w) P w K mg base N_law "law" (defScope s_law) f cdv A outer s H E) (fun cls d _ H => E cls d H) := L2N.takes_of rfl rfl rfl rfl
  have hc : (cxOf (L2N.CX P w) P w K mg base N_law "law" (defScope s_law) f cdv A outer s H E).calm = true := rfl
  have hp : PassesOwn (model P w) (cxOf (L2N.CX P w) P w K mg base N_law "law" (defScope s_law) f cdv A outer s H E).A (cxOf (L2N.CX P w) P w K mg base N_law "law" (defScope s_law) f cdv A outer s H E).env (cxOf (L2N.CX P w) P w K mg base N_law "law" (defScope s_law) f cdv A outer s H E).xe := PassesOwn.leaving
  exact (dss_cons (ds_for hp hc (di_range1 B.range de_int) (dg_name sc.nd rfl (by first | exact .inl rfl | exact .inr rfl)) (dss_cons (ds_set (i := 3) sc.nd rfl (by first | exact .inl rfl | exact .inr rfl) (de_call F_law_base tk (room.mono k_law_base) (da_cons (de_frz 1) da_nil)))
  (dss_cons (ds_for hp hc (di_range1 B.range (de_call F_law_pick tk (room.mono k_law_pick) (da_cons (de_frz 1) (da_cons (de_tup (da_cons de_int (da_cons de_int (da_cons de_int (da_cons de_int da_nil))))) da_nil)))) (dg_name sc.nd rfl (by first | exact .inl rfl | exact .inr rfl)) (dss_one (ds_set (i := 3) sc.nd rfl (by first | exact .inl rfl | exact .inr rfl) (de_call F_law_bent tk (room.mono k_law_bent) (da_cons (de_frz 1) (da_cons (de_frz 3) da_nil))))))
  (dss_one (ds_for hp hc (di_seq (de_tup (da_cons de_bl (da_cons de_bl (da_cons de_bl da_nil))))) (dg_name sc.nd rfl (by first | exact .inl rfl | exact .inr rfl)) (dss_cons (ds_set (i := 6) sc.nd rfl (by first | exact .inl rfl | exact .inr rfl) (de_call F_law_copy tk (room.mono k_law_copy) (da_cons (de_frz 3) da_nil)))
  (dss_cons (ds_set (i := 7) sc.nd rfl (by first | exact .inl rfl | exact .inr rfl) (de_call F_law_wrong tk (room.mono k_law_wrong) (da_cons (de_frz 3) (da_cons (de_frz 5) da_nil))))
  (dss_cons (ds_set (i := 8) sc.nd rfl (by first | exact .inl rfl | exact .inr rfl) (de_if (dt_VE op_isN isN_OpB (pv 7) de_non rfl) (de_lst (da_cons de_str (da_cons de_non da_nil))) (de_lst (da_cons de_str (da_cons de_str (da_cons (de_tup (da_cons (de_frz 7) da_nil)) da_nil))))))
  (dss_one (ds_if (dw_pt (dw_or (dt_not (dt_tru (de_call F_law_same tk (room.mono k_law_same) (da_cons (de_call F_law_ask tk (room.mono k_law_ask) (da_cons (de_frz 5) (da_cons (de_frz 6) da_nil))) (da_cons (de_frz 8) da_nil))))) (dw_or1 (dt_not (dt_tru (de_call F_law_same tk (room.mono k_law_same) (da_cons (de_frz 6) (da_cons (de_frz 3) da_nil)))))))) (dss_one (ds_ret (de_fz de_bl))) dss_nil))))))))))
  (dss_one (ds_ret (de_fz de_bl))))

abbrev eLaw : EndsD := { nx := fun _ => False, rt := fun d _ _ => d = .bl true, ex := fun _ _ _ => False }
def sb : Nat → Nat
  | 0 => 2000
  | 1 => 14100
  | _ => 98800
theorem dueP (v : Dt) (q : Bool) : Plain (dueD (wrongW v q)) ∧ sz (dueD (wrongW v q)) ≤ 100000 := by
  have h : ∀ r : Dt, (r = .non ∨ ∃ s, r = .str s) → Plain (dueD r) ∧ sz (dueD r) ≤ 100000 := fun r h => by
    unfold dueD
    rcases h with rfl | ⟨s, rfl⟩
    · rw [if_pos (show isNonD .non = true from rfl)]
      exact ⟨⟨1, by simp, fun d hd => by
        simp only [List.mem_cons, List.not_mem_nil, or_false] at hd
        rcases hd with rfl | rfl <;> rfl⟩, by simp [sz, szs]⟩
    · rw [if_neg (show ¬ isNonD (.str s) = true from fun h => (nomatch (show false = true from h)))]
      exact ⟨⟨2, by simp, fun d hd => by
        simp only [List.mem_cons, List.not_mem_nil, or_false] at hd
        rcases hd with rfl | rfl | rfl
        · rfl
        · rfl
        · exact ⟨by simp, fun d hd => by simp at hd; subst hd; rfl⟩⟩, by simp [sz, szs]⟩
  refine h _ ?_
  have hb : ∀ a lo hi dl dh sh, wrongB a lo hi dl dh sh = .non ∨ ∃ s, wrongB a lo hi dl dh sh = .str s := fun a lo hi dl dh sh => by
    unfold wrongB
    split
    · split
      · exact .inr ⟨_, rfl⟩
      · split
        · exact .inr ⟨_, rfl⟩
        · split
          · exact .inr ⟨_, rfl⟩
          · split
            · exact .inl rfl
            · exact .inr ⟨_, rfl⟩
    · exact .inr ⟨_, rfl⟩
  unfold wrongW
  split <;> exact hb _ _ _ _ _ _
theorem l_law {ns : List Int} : T_law S_law_ask S_law_same S_law_wrong (S_copy 10) S_law_bent S_law_pick S_law_base eLaw ⟨[none, some (.cel 0, topL), none, none, none, none, none, none, none], [[.lst (ns.map Dt.int), .int 0, .int 0]]⟩ := by
  unfold T_law
  have z2 : 2 ≤ sizeLine := by rw [sizeLine_eq]; decide
  have z3 : 3 ≤ sizeLine := by rw [sizeLine_eq]; decide
  have z4 : 4 ≤ sizeLine := by rw [sizeLine_eq]; decide
  have z1 : 1 ≤ sizeLine := by rw [sizeLine_eq]; decide
  refine ds_seq (Q := fun _ => True) (fun N hN => ?_) (fun ev _ => by walk_at "rd")
  walk_at "rd"
  refine ⟨by unfold B62; decide, ?_⟩
  have h8 : (rangeD 0 (8 : Int).toNat).length = 8 := rangeD_len
  generalize rangeD 0 (8 : Int).toNat = R at h8 ⊢
  refine loop_inv (I := fun rest ev => ∃ G x1 x2 x3 x4 x5 x6 x7 x8, rest.length ≤ 8 ∧ ev = ⟨[none, some (.cel 0, x1), x2, x3, x4, x5, x6, x7, x8], G⟩ ∧ GOk (26000 * (8 - rest.length)) G) (fun t rest ev i N1 h1 => ?_) (fun ev i => hN ev trivial) _ _ ⟨_, _, _, _, _, _, _, _, _, by omega, rfl, ?_⟩
  · obtain ⟨G, x1, x2, x3, x4, x5, x6, x7, x8, hl, rfl, hG⟩ := i
    have hl : rest.length + 1 ≤ 8 := hl
    have e8 : 8 - (t :: rest).length = 8 - (rest.length + 1) := rfl
    rw [e8] at hG
    generalize hn : 26000 * (8 - (rest.length + 1)) = n at hG
    have hn1 : n + 26000 = 26000 * (8 - rest.length) := by omega
    have hn2 : n ≤ 200000 := by omega
    refine ds_seq (Q := fun ev => ∃ G x1 x2 x3 x4 x5 x6 x7 x8 v, Vd 6 2000 v ∧ ev = ⟨[none, some (.cel 0, x1), x2, some (v, x3), x4, x5, x6, x7, x8], G⟩ ∧ GOk (n + 25000) G) (fun N2 h2 => ?_) ?_
    · walk_at "rd"
      exact ⟨n, rfl, by omega, hG, fun v G' hv hG' => h2 _ ⟨_, _, _, _, _, _, _, _, _, v, hv, rfl, hG'⟩⟩
    rintro _ ⟨G, x1, x2, x3, x4, x5, x6, x7, x8, v, hv, rfl, hG⟩
    refine ds_seq (Q := fun ev => ∃ G x1 x2 x3 x4 x5 x6 x7 x8 v, Vd 10 98800 v ∧ ev = ⟨[none, some (.cel 0, x1), x2, some (v, x3), x4, x5, x6, x7, x8], G⟩ ∧ GOk (n + 26000) G) (fun N2 h2 => ?_) ?_
    · walk_at "rd"
      refine ⟨z4, _, n + 25000, .inl rfl, by simp, by simp, by omega, hG, fun d hd G2 hG2 => ?_⟩
      obtain ⟨m, rfl, m0, m2⟩ : ∃ m : Int, d = .int m ∧ 0 ≤ m ∧ m ≤ 2 := by
        simp only [List.mem_cons, List.not_mem_nil, or_false] at hd
        rcases hd with rfl | rfl | rfl | rfl <;> exact ⟨_, rfl, by omega, by omega⟩
      refine ⟨⟨by omega, by omega⟩, ?_⟩
      refine loop_inv (I := fun rest ev => ∃ c G x1 x2 x3 x4 x5 x6 x7 x8 v, c + rest.length ≤ 2 ∧ Vd (6 + 2 * c) (sb c) v ∧ ev = ⟨[none, some (.cel 0, x1), x2, some (v, x3), x4, x5, x6, x7, x8], G⟩ ∧ GOk (n + 25001 + 100 * c) G) (fun t rest ev i N3 h3 => ?_) (fun ev i => ?_) _ _ ⟨0, _, _, _, _, _, _, _, _, _, v, by rw [rangeD_len]; omega, hv, rfl, hG2⟩
      · obtain ⟨c, G, x1, x2, x3, x4, x5, x6, x7, x8, v, hc, hv, rfl, hG⟩ := i
        have hc : c + (rest.length + 1) ≤ 2 := hc
        walk_at "rd"
        have hsb : sb c ≤ 14100 ∧ 1 ≤ sb c ∧ 7 * sb c + 100 ≤ sb (c + 1) := by
          match c, hc with
          | 0, _ => decide
          | 1, _ => decide
          | c + 2, hc => omega
        refine ⟨v, 2 * c, sb c, n + 25001 + 100 * c, rfl, by rw [Nat.add_comm]; exact hv, hsb.2.1, hsb.1, by omega, hG, fun d G' hd hG' => h3 _ ⟨c + 1, _, _, _, _, _, _, _, _, _, d, by omega, hd.mono (by omega) hsb.2.2, rfl, hG'.mono (by omega)⟩⟩
      · obtain ⟨c, G, x1, x2, x3, x4, x5, x6, x7, x8, v, hc, hv, rfl, hG⟩ := i
        have hc : c ≤ 2 := by simpa using hc
        have hsb : sb c ≤ 98800 := by
          match c, hc with
          | 0, _ => decide
          | 1, _ => decide
          | c + 2, hc => exact Nat.le_refl _
        exact h2 _ ⟨_, _, _, _, _, _, _, _, _, v, hv.mono (by omega) hsb, rfl, hG.mono (by omega)⟩
    rintro _ ⟨G, x1, x2, x3, x4, x5, x6, x7, x8, v, hv, rfl, hG⟩
    have pv : Plain v := ⟨10, hv.1⟩
    walk_at "rd"
    refine ⟨z3, ?_⟩
    refine loop_inv (I := fun rest ev => ∃ x1 x2 x3 x4 x5 x6 x7 x8, (∀ d ∈ rest, ∃ q, d = .bl q) ∧ ev = ⟨[none, some (.cel 0, x1), x2, some (v, x3), x4, x5, x6, x7, x8], G⟩) (fun t rest ev i N3 h3 => ?_) (fun ev i => ?_) _ _ ⟨_, _, _, _, _, _, _, _, ?_, rfl⟩
    · obtain ⟨x1, x2, x3, x4, x5, x6, x7, x8, hb, rfl⟩ := i
      obtain ⟨q, rfl⟩ := hb t List.mem_cons_self
      have hb2 : ∀ d ∈ rest, ∃ q, d = .bl q := fun d hd => hb d (List.mem_cons_of_mem _ hd)
      refine ds_seq (Q := fun ev => ∃ x1 x3 x6, ev = ⟨[none, some (.cel 0, x1), x2, some (v, x3), x4, some (.bl q, topL), some (v, x6), x7, x8], G⟩) (fun N4 h4 => ?_) ?_
      · walk_at "rd"
        exact ⟨v, rfl, hv.1, h4 _ ⟨_, _, _, rfl⟩⟩
      rintro _ ⟨x1, x3, x6, rfl⟩
      refine ds_seq (Q := fun ev => ∃ x1 x3 x6 x7, ev = ⟨[none, some (.cel 0, x1), x2, some (v, x3), x4, some (.bl q, topL), some (v, x6), some (wrongW v q, x7), x8], G⟩) (fun N4 h4 => ?_) ?_
      · walk_at "rd"
        exact ⟨v, q, rfl, pv, h4 _ ⟨_, _, _, _, rfl⟩⟩
      rintro _ ⟨x1, x3, x6, x7, rfl⟩
      refine ds_seq (Q := fun ev => ∃ x1 x3 x6 x7 x8, ev = ⟨[none, some (.cel 0, x1), x2, some (v, x3), x4, some (.bl q, topL), some (v, x6), x7, some (dueD (wrongW v q), x8)], G⟩) (fun N4 h4 => ?_) ?_
      · walk_at "rd"
        refine ⟨rfl, ?_⟩
        unfold dueD at h4
        rcases bcase (isNonD (wrongW v q)) with z | z
        · have e : gIs (wrongW v q) .non = false := z
          simp only [z, e, if_false, Bool.false_eq_true] at h4 ⊢
          exact ⟨z1, z3, h4 _ ⟨_, _, _, _, _, rfl⟩⟩
        · have e : gIs (wrongW v q) .non = true := z
          simp only [z, e, if_true] at h4 ⊢
          exact ⟨z2, h4 _ ⟨_, _, _, _, _, rfl⟩⟩
      rintro _ ⟨x1, x3, x6, x7, x8, rfl⟩
      walk_at "rd"
      refine ⟨q, v, rfl, pv, ?_⟩
      walk_at "rd"
      refine ⟨_, rfl, (dueP v q).1, (dueP v q).2, trivial, ?_⟩
      walk_at "rt"
      refine ⟨v, rfl, pv, by have := hv.2; omega, ?_⟩
      exact ⟨trivial, h3 _ ⟨_, _, _, _, _, _, _, _, hb2, rfl⟩⟩
    · obtain ⟨x1, x2, x3, x4, x5, x6, x7, x8, _, rfl⟩ := i
      exact h1 _ ⟨_, _, _, _, _, _, _, _, _, by omega, rfl, by rw [← hn1]; exact hG⟩
    · intro d hd
      simp only [List.mem_cons, List.not_mem_nil, or_false] at hd
      rcases hd with rfl | rfl | rfl <;> exact ⟨_, rfl⟩
  · rw [h8]
    exact ⟨_, rfl, ns, 0, 0, rfl, by omega, by omega⟩
end K01

set_option Elab.async false
set_option linter.all false
set_option maxRecDepth 100000
set_option maxHeartbeats 4000000
namespace K01
open PySem PySem.Spec PyProof.Rows L2 HD
local macro_rules | `(tactic| walk_at "rd") => `(tactic| simp only [dsRet, dFz, dAndV, dOrV, dNotV, dIsiV, dIsi, dCall, dCons, dNil, dFrz, dVV, dEV, dVE, dEE, dBin, dUn, dUV, dU, uB, Has, asB, tt, dAnd, dOr, dNot, dTru, dTruV, dIf, dsIf, dsCons, dsNil, dsSet, dsAsg, dInt, dBl, dNon, dStr, dCon, dIxV, dIx, dTup, dLst, dTupOf, dLstOf, dMax2, dMin2, dI, uInt, dSub, dMod, dDiv, dAdd, uAdd, dMul, uMul, dNeg, dPow, endsOf, gdSt, gdName, dDict0, diSeq, diRange1, diRange2, dLc, dLcK, dsFor, dsForK, Ev.wipe, wipeL, slots, dsOf, List.map_cons, List.map_nil, List.cons_append, List.nil_append, List.replicate, List.getElem?_cons_zero, List.getElem?_cons_succ, List.set_cons_zero, List.set_cons_succ, Option.some.injEq, Prod.mk.injEq, and_assoc, exists_and_left, exists_eq_left', exists_eq_left, exists_eq', Nat.reduceAdd, Nat.reduceSub, List.length_cons, List.length_nil, true_and, goStep, dYes, if_true, if_false, Bool.false_eq_true, dRaise, dSl, dPn, dPs, dsExtend, dPop, gdTup, gdCons, gdNil, dIsX, dSplit, dCnt, dIdxM, dFld])
local macro_rules | `(tactic| walk_at "rt") => `(tactic| simp only [tru_bl, ctru_bl, lv_bl, lv_int, lv_str, lv_non, lv_tup, lv_lst, lv_dct, ix_tup, ix_lst, ix_dct, at3_0, at3_1, at3_2, exists_eq_left', exists_eq_left, Option.some.injEq, Nat.zero_le, true_or, or_true, true_and, and_true, Bool.not_true, Bool.not_false, if_true, if_false, Bool.false_eq_true, Bool.true_and, Bool.false_and])
local macro_rules | `(tactic| walk_at "rc") => `(tactic| simp only [ix0_0, ix0_1, ix0_2, st0_1, st0_2, Option.some.injEq, exists_eq_left', exists_eq_left, true_and, and_true, lv_int, lv_bl, ceq_int, eqD_int, lenD, CLen, CI, CInt1, CNum, absD, HD.intD, gI, decide_eq_true_eq, ix_lst])

theorem gcon_int {K : PySem.W.Frag} {mg : Str → Option Value} {x : Str} {i : Int} (h : ∃ t, mg x = some (.int i t)) : GCon K mg x (.int i) := by
  obtain ⟨t, e⟩ := h
  exact ⟨_, .int i, e, ⟨t, rfl⟩, fun W => .int⟩
theorem iss_dv {K : PySem.W.Frag} {W : Wd} : ∀ xs : List Str, Iss K W ((xs.map He.Dv.str).map (He.Dv.v K)) (xs.map Dt.str)
  | [] => .nil
  | x :: xs => .cons .str (iss_dv xs)
theorem gcon_tup {K : PySem.W.Frag} {mg : Str → Option Value} {x : Str} {a : Addr} {xs : List Str} (h : mg x = some (.ref a)) (ht : ∀ H : Hp, SqT K H a ((xs.map He.Dv.str).map (He.Dv.v K))) : GCon K mg x (.tup (xs.map Dt.str)) :=
  ⟨_, .ref a, h, rfl, fun W => .tup (ht W.F) (iss_dv xs)⟩
/-- the class's look, as a Bool -/
def oexB (K : PySem.W.Frag) (C : Addr) : Bool := (match K.lookup C with
  | some ⟨.type "type", _, .cls cd, sl⟩ => (match cd.mro, sl.toList with
    | .ref C' :: bm, [_, _, _, _, some (.builtin n), _] => decide (C' = C) && (decide (n = "ValueError.__new__") && (!cd.hasDel && (cd.hasDict && PySem.HandSPX.refsVE bm)))
    | _, _ => false)
  | _ => false) && (decide (PySem.W.findIn K (.ref C) "__setattr__" = some (some (.builtin "object.__setattr__"))) && (decide (PySem.W.subIn K (.ref C) (.type "BaseException") = some true) &&
    (decide (PySem.W.typeIn K (.ref C) = some (.type "type")) && PySem.W.keepIn K (.ref C))))
theorem oexB_ok {K : PySem.W.Frag} {C : Addr} (h : oexB K C = true) : OexC K C := by
  unfold oexB at h
  simp only [Bool.and_eq_true, decide_eq_true_eq] at h
  obtain ⟨q, h1, h2, h3, h4⟩ := h
  refine ⟨?_, h1, h2, h3, h4⟩
  split at q
  · rename_i dd cd sl look
    split at q
    · rename_i C' bm k0 k1 k2 k3 n k5 hm hs
      simp only [Bool.and_eq_true, decide_eq_true_eq, Bool.not_eq_true'] at q
      obtain ⟨rfl, rfl, q3, q4, q5⟩ := q
      obtain ⟨nm, bs, mro, ns, qn, hd, sn, sub, ab, col, del⟩ := cd
      try dsimp only at hm
      try dsimp only at q3
      try dsimp only at q4
      subst hm q3 q4
      have hsl : sl = #[k0, k1, k2, k3, some (.builtin "ValueError.__new__"), k5] := by
        obtain ⟨l⟩ := sl
        simp only at hs
        rw [hs]
      subst hsl
      exact ⟨_, _, _, _, _, _, _, _, _, _, _, _, _, _, _, look, q5⟩
    · cases q
  · cases q
def isB (K : PySem.W.Frag) (D : Addr) : Bool := decide (PySem.W.findIn K (.ref D) "__getattribute__" = some (some (.builtin "BaseException.__getattribute__"))) && (decide (PySem.W.findIn K (.ref D) "__getattr__" = some none) && (decide (PySem.W.subIn K (.ref D) (.type "BaseException") = some true) && (PySem.W.hasDictIn K D &&
  (decide (PySem.W.findIn K (.ref D) "__class__" = some (some (.builtin "object.__class__"))) && (decide (PySem.W.specialIn K (.builtin "object.__class__") "__get__" = some (some (.builtin "getset_descriptor.__get__"))) && (decide (PySem.W.takesIn K (.builtin "object.__class__") = some true) && decide (PySem.W.mroIn K D (.type "object") = some true)))))))
theorem isB_ok {K : PySem.W.Frag} {D : Addr} (h : isB K D = true) : ExcC K D := by
  unfold isB at h
  simp only [Bool.and_eq_true, decide_eq_true_eq] at h
  obtain ⟨h1, h2, h3, h4, h5, h6, h7, h8⟩ := h
  exact ⟨h1, h2, h3, h4, h5, h6, h7, h8⟩
section
variable {P : Program} {w : World} {K : PySem.W.Frag} {mg : Str → Option Value} {base : Heap} {f : Addr} {fd : FuncData}
theorem cal_no {x : Str} {ps : List Str} (hm : mg x = some (.ref f)) (kp : PySem.W.keepIn K (.ref f) = true) (b : Binds K fd ps []) (k : Nat) : Cal P w K mg base x k (fun _ _ _ _ => False) :=
  ⟨f, fd, ps, hm, kp, b, fun vs H Q E h => (by obtain ⟨_, _, _, _, _, _, _, h, _⟩ := h; exact h.elim), fun A outer s H args us vs Q E _ _ _ _ h => (by obtain ⟨_, _, _, _, _, _, _, h, _⟩ := h; exact h.elim)⟩
theorem c_copy (B : Bs mg) (C : Cs K mg) (F : Fd K "_law_copy" s_law_copy f fd) (hm : mg "_law_copy" = some (.ref f)) (b : Binds K fd ["value"] []) : ∀ n : Nat, Cal P w K mg base "_law_copy" (n + 1) (S_copy n) := fun n => by
  have go : ∀ n, Cal P w K mg base "_law_copy" n (S_copyP n) := fun n => by
    induction n with
    | zero => exact cal_no hm F.kp b 0
    | succ n ih => exact cal_of F hm b sc_law_copy (fun ds G P X h => by obtain ⟨_, rfl, _⟩ := h; rfl) (fun cdv A outer s H E room => w_law_copy B C ih (Nat.le_refl _) f cdv A outer s H E room) (l_law_copy n)
  exact go (n + 1)
/-! _law_stream: the script's list is copied -/
abbrev s_law_stream : Stmt := top 43
def spStream (K : PySem.W.Frag) : Sp := fun vs H Q _ => ∃ (a : Addr) (xs : List V), vs = [.ref a] ∧ SqL K H a xs ∧ ∀ q p, H q = none → upd H q (.lst xs) p = none → Q (.ref p) (upd (upd H q (.lst xs)) p (.lst [.ref q, .int 0, .int 0]))
theorem sc_law_stream : FnScope ["script"] ["script"] (defScope s_law_stream) := ⟨rfl, rfl, rfl, by decide +kernel, rfl, by decide +kernel, by decide +kernel⟩
theorem ok_stream (B : Bs mg) (F : Fd K "_law_stream" s_law_stream f fd) : FnOk P w K mg base (L2N.CX P w) 1 f fd ["script"] (spStream K) := by
  refine F.ok sc_law_stream (fun vs H Q E h => ?_) fun cdv A outer s H vs Q E room h => ?_
  · obtain ⟨a, xs, rfl, _⟩ := h; rfl
  · refine ⟨_, pss_one (ps_ret (pe_lst (pa_cons (pe_callTy call_list_of rfl B.list bt_list (pa_cons (pv 0) pa_nil)) (pa_cons pe_int (pa_cons pe_int pa_nil))))), ?_⟩
    obtain ⟨a, xs, rfl, hs, hq⟩ := h
    refine ⟨_, rfl, a, xs, rfl, .inl hs, fun q hq0 => ?_⟩
    exact ⟨by rw [sizeLine_eq]; simp, fun p hp => hq q p hq0 hp⟩
def spLaw (K : PySem.W.Frag) : Sp := fun vs H Q _ => ∃ (a : Addr) (ns : List Int), vs = [.ref a] ∧ SqL K H a (ns.map V.int) ∧ ∀ H', Q (.bl true) H'
theorem iss_ints {W : Wd} : ∀ ns : List Int, Iss K W (ns.map V.int) (ns.map Dt.int)
  | [] => .nil
  | n :: ns => .cons .int (iss_ints ns)
theorem ok_law {fS : Addr} {fdS : FuncData} (B : Bs mg) (F : Fd K "law" s_law f fd) (FS : FnOk P w K mg base (L2N.CX P w) 1 fS fdS ["script"] (spStream K)) (hm : mg "_law_stream" = some (.ref fS)) (kp : PySem.W.keepIn K (.ref fS) = true) (b : Binds K fdS ["script"] [])
    {k k1 k2 k3 k4 k5 k6 k7 : Nat} (C1 : Cal P w K mg base "_law_ask" k1 S_law_ask) (h1 : k1 ≤ k + 1) (C2 : Cal P w K mg base "_law_same" k2 S_law_same) (h2 : k2 ≤ k + 1) (C3 : Cal P w K mg base "_law_wrong" k3 S_law_wrong) (h3 : k3 ≤ k + 1) (C4 : Cal P w K mg base "_law_copy" k4 (S_copy 10)) (h4 : k4 ≤ k + 1)
    (C5 : Cal P w K mg base "_law_bent" k5 S_law_bent) (h5 : k5 ≤ k + 1) (C6 : Cal P w K mg base "_law_pick" k6 S_law_pick) (h6 : k6 ≤ k + 1) (C7 : Cal P w K mg base "_law_base" k7 S_law_base) (h7 : k7 ≤ k + 1) : FnOk P w K mg base (L2N.CX P w) (k + 1 + 1) f fd ["script"] (spLaw K) := by
  refine F.ok sc_law (fun vs H Q E h => ?_) fun cdv A outer s H vs Q E room h => ?_
  · obtain ⟨a, ns, rfl, _⟩ := h; rfl
  · have tk : L2N.Takes (cxOf (L2N.CX P w) P w K mg base N_law "law" (defScope s_law) f cdv A outer s H E) (fun cls d _ H => E cls d H) := L2N.takes_of rfl rfl rfl rfl
    have walk := w_law B C1 h1 C2 h2 C3 h3 C4 h4 C5 h5 C6 h6 C7 h7 f cdv A outer s H E room
    refine ⟨_, pss_cons (ps_set (i := 1) sc_law.nd rfl (.inl rfl) (pe_callS FS (room.mono (by omega)) rfl hm kp b (fun σ => L2N.passAt tk σ) (pa_cons (pv 0) pa_nil))) walk, ?_⟩
    obtain ⟨a, ns, rfl, hs, hq⟩ := h
    refine ⟨_, rfl, a, _, rfl, hs, fun q p hq0 hp0 => ?_⟩
    have npq : p ≠ q := fun e => by rw [e, upd_same] at hp0; cases hp0
    let W : Wd := ⟨fun b => if b = q then some (.lst (ns.map V.int)) else none, [p]⟩
    have hW : W.F q = some (.lst (ns.map V.int)) := if_pos rfl
    refine ⟨W, ⟨[none, some (.cel 0, topL), none, none, none, none, none, none, none], [[.lst (ns.map Dt.int), .int 0, .int 0]]⟩, [], eLaw, ?_, l_law, ?_⟩
    · refine ⟨⟨[], ?_, .refl _⟩, .nil, fun _ h => (nomatch h), fun _ h => (nomatch h), fun b o e => ?_, rfl, fun n a2 ds e1 e2 => ?_, fun a2 ha => ?_, List.nodup_cons.mpr ⟨fun h => (nomatch h), .nil⟩⟩
      · exact .no (.yes (fp := []) (L := []) (.is (.cel rfl) (.inr rfl)) (Sl.nones 7))
      · by_cases hb : b = q
        · subst hb
          rw [hW] at e
          rw [upd_ne (Ne.symm npq), upd_same]
          exact e
        · have e' : W.F b = none := if_neg hb
          rw [e'] at e; cases e
      · match n, e1, e2 with
        | 0, e1, e2 =>
          cases e1
          cases e2
          exact ⟨_, upd_same, .cons (.lst hW (iss_ints ns)) (.cons .int (.cons .int .nil))⟩
      · rw [List.mem_singleton.mp ha]
        exact if_neg npq
    · exact ⟨fun _ _ _ _ _ p => p.elim, fun _ _ _ _ _ p => p.elim, fun _ _ _ _ _ p => p.elim, fun d n G v W' H' L' p R' E' => by
        subst p
        cases R'.bl
        exact hq H', fun _ _ _ _ _ _ _ _ p => p.elim⟩
end
def cbody : Stmt → List Stmt
  | .ClassDef (body := b) .. => b
  | _ => []
abbrev s_initBadNet : Stmt := (cbody (top 2)).getD 0 (.Pass ⟨0, 0, 0, 0⟩)
def d_is_int : He.DefD := ⟨("is_int", none), "is_int", "is_int", defArgs s_is_int, defBody s_is_int, defScope s_is_int, [], []⟩
def d_is_from : He.DefD := ⟨("is_from", none), "is_from", "is_from", defArgs s_is_from, defBody s_is_from, defScope s_is_from, [], []⟩
def d_is_between : He.DefD := ⟨("is_between", none), "is_between", "is_between", defArgs s_is_between, defBody s_is_between, defScope s_is_between, [], []⟩
def d_is_tuple_of : He.DefD := ⟨("is_tuple_of", none), "is_tuple_of", "is_tuple_of", defArgs s_is_tuple_of, defBody s_is_tuple_of, defScope s_is_tuple_of, [], []⟩
def d_is_wide_filling : He.DefD := ⟨("is_wide_filling", none), "is_wide_filling", "is_wide_filling", defArgs s_is_wide_filling, defBody s_is_wide_filling, defScope s_is_wide_filling, [], []⟩
def d_is_vector : He.DefD := ⟨("is_vector", none), "is_vector", "is_vector", defArgs s_is_vector, defBody s_is_vector, defScope s_is_vector, [], []⟩
def d_is_deed : He.DefD := ⟨("is_deed", none), "is_deed", "is_deed", defArgs s_is_deed, defBody s_is_deed, defScope s_is_deed, [], []⟩
def d_are_deeds : He.DefD := ⟨("are_deeds", none), "are_deeds", "are_deeds", defArgs s_are_deeds, defBody s_are_deeds, defScope s_are_deeds, [], []⟩
def d_has_keys : He.DefD := ⟨("has_keys", none), "has_keys", "has_keys", defArgs s_has_keys, defBody s_has_keys, defScope s_has_keys, [], []⟩
def d_wrong_key : He.DefD := ⟨("wrong_key", none), "wrong_key", "wrong_key", defArgs s_wrong_key, defBody s_wrong_key, defScope s_wrong_key, [], []⟩
def d_wrong_wide_key : He.DefD := ⟨("wrong_wide_key", none), "wrong_wide_key", "wrong_wide_key", defArgs s_wrong_wide_key, defBody s_wrong_wide_key, defScope s_wrong_wide_key, [], []⟩
def d_check_net : He.DefD := ⟨("check_net", none), "check_net", "check_net", defArgs s_check_net, defBody s_check_net, defScope s_check_net, [], []⟩
def d_check_wide : He.DefD := ⟨("check_wide", none), "check_wide", "check_wide", defArgs s_check_wide, defBody s_check_wide, defScope s_check_wide, [], []⟩
def d_law_next : He.DefD := ⟨("_law_next", none), "_law_next", "_law_next", defArgs s_law_next, defBody s_law_next, defScope s_law_next, [], []⟩
def d_law_pick : He.DefD := ⟨("_law_pick", none), "_law_pick", "_law_pick", defArgs s_law_pick, defBody s_law_pick, defScope s_law_pick, [], []⟩
def d_law_from : He.DefD := ⟨("_law_from", none), "_law_from", "_law_from", defArgs s_law_from, defBody s_law_from, defScope s_law_from, [], []⟩
def d_law_number : He.DefD := ⟨("_law_number", none), "_law_number", "_law_number", defArgs s_law_number, defBody s_law_number, defScope s_law_number, [], []⟩
def d_law_whole : He.DefD := ⟨("_law_whole", none), "_law_whole", "_law_whole", defArgs s_law_whole, defBody s_law_whole, defScope s_law_whole, [], []⟩
def d_law_same : He.DefD := ⟨("_law_same", none), "_law_same", "_law_same", defArgs s_law_same, defBody s_law_same, defScope s_law_same, [], []⟩
def d_law_copy : He.DefD := ⟨("_law_copy", none), "_law_copy", "_law_copy", defArgs s_law_copy, defBody s_law_copy, defScope s_law_copy, [], []⟩
def d_law_is_vector : He.DefD := ⟨("_law_is_vector", none), "_law_is_vector", "_law_is_vector", defArgs s_law_is_vector, defBody s_law_is_vector, defScope s_law_is_vector, [], []⟩
def d_law_wrong : He.DefD := ⟨("_law_wrong", none), "_law_wrong", "_law_wrong", defArgs s_law_wrong, defBody s_law_wrong, defScope s_law_wrong, [], []⟩
def d_law_drawn : He.DefD := ⟨("_law_drawn", none), "_law_drawn", "_law_drawn", defArgs s_law_drawn, defBody s_law_drawn, defScope s_law_drawn, [], []⟩
def d_law_base : He.DefD := ⟨("_law_base", none), "_law_base", "_law_base", defArgs s_law_base, defBody s_law_base, defScope s_law_base, [], []⟩
def d_law_with : He.DefD := ⟨("_law_with", none), "_law_with", "_law_with", defArgs s_law_with, defBody s_law_with, defScope s_law_with, [], []⟩
def d_law_without : He.DefD := ⟨("_law_without", none), "_law_without", "_law_without", defArgs s_law_without, defBody s_law_without, defScope s_law_without, [], []⟩
def d_law_bent_vector : He.DefD := ⟨("_law_bent_vector", none), "_law_bent_vector", "_law_bent_vector", defArgs s_law_bent_vector, defBody s_law_bent_vector, defScope s_law_bent_vector, [], []⟩
def d_law_bent_deed : He.DefD := ⟨("_law_bent_deed", none), "_law_bent_deed", "_law_bent_deed", defArgs s_law_bent_deed, defBody s_law_bent_deed, defScope s_law_bent_deed, [], []⟩
def d_law_bent : He.DefD := ⟨("_law_bent", none), "_law_bent", "_law_bent", defArgs s_law_bent, defBody s_law_bent, defScope s_law_bent, [], []⟩
def d_law_stream : He.DefD := ⟨("_law_stream", none), "_law_stream", "_law_stream", defArgs s_law_stream, defBody s_law_stream, defScope s_law_stream, [], []⟩
def d_law_named : He.DefD := ⟨("_law_named", none), "_law_named", "_law_named", defArgs s_law_named, defBody s_law_named, defScope s_law_named, [], []⟩
def d_law_attributes : He.DefD := ⟨("_law_attributes", none), "_law_attributes", "_law_attributes", defArgs s_law_attributes, defBody s_law_attributes, defScope s_law_attributes, [], []⟩
def d_law_ask : He.DefD := ⟨("_law_ask", none), "_law_ask", "_law_ask", defArgs s_law_ask, defBody s_law_ask, defScope s_law_ask, [], []⟩
def d_law : He.DefD := ⟨("law", none), "law", "law", defArgs s_law, defBody s_law, defScope s_law, [], []⟩
def d_init : He.DefD := ⟨("BadNet", some "__init__"), "__init__", "BadNet.__init__", defArgs s_initBadNet, defBody s_initBadNet, defScope s_initBadNet, [], []⟩
def fn : List He.DefD := [d_is_int, d_is_from, d_is_between, d_is_tuple_of, d_is_wide_filling, d_is_vector, d_is_deed, d_are_deeds, d_has_keys, d_wrong_key, d_wrong_wide_key, d_check_net, d_check_wide, d_law_next, d_law_pick, d_law_from, d_law_number, d_law_whole, d_law_same, d_law_copy, d_law_is_vector, d_law_wrong, d_law_drawn, d_law_base, d_law_with, d_law_without, d_law_bent_vector, d_law_bent_deed, d_law_bent, d_law_stream, d_law_named, d_law_attributes, d_law_ask, d_law, d_init]
def fa : List He.Fa := [.glo "is_int", .glo "is_from", .glo "is_between", .glo "is_tuple_of", .glo "is_wide_filling", .glo "is_vector", .glo "is_deed", .glo "are_deeds", .glo "has_keys", .glo "wrong_key", .glo "wrong_wide_key", .glo "check_net", .glo "check_wide", .glo "_law_next", .glo "_law_pick", .glo "_law_from", .glo "_law_number", .glo "_law_whole", .glo "_law_same", .glo "_law_copy", .glo "_law_is_vector", .glo "_law_wrong", .glo "_law_drawn", .glo "_law_base", .glo "_law_with", .glo "_law_without", .glo "_law_bent_vector", .glo "_law_bent_deed", .glo "_law_bent", .glo "_law_stream", .glo "_law_named", .glo "_law_attributes", .glo "_law_ask", .glo "law", .glo "BadNet", .glo "BadRun", .glo "BadFilling", .glo "BadClimb", .glo "BadWalk", .glo "BadSeen", .glo "BadEdit", .glo "BadValue", .glo "BadText", .glo "NotFree", .glo "NotJoined", .glo "NotRing", .glo "NotSafe", .glo "Still", .glo "TooMany", .glo "NothingToUndo", .glo "NothingToRedo", .glo "WorkError", .free "ValueError", .free "abs", .free "all", .free "bool", .free "dict", .free "int", .free "isinstance", .free "len", .free "list", .free "max", .free "range", .free "str", .free "tuple", .int "MOST_SIGN" 9, .int "MOST_DEEDS" 10, .int "MOST_START" 99, .int "MOST_NUMBER" 3, .int "MOST_TRAYS" 8, .int "MOST_WIDE_TRAYS" 200, .glo "KEYS"]
abbrev gN (K : PySem.W.Frag) : Addr := He.ga K "BadNet"
def exL (K : PySem.W.Frag) : List Bool := [oexB K (gN K),
  isB K (gN K),
  L2.xfB K (gN K),
  decide (PySem.W.findIn K (.ref (gN K)) "__init__" = some (some (.ref (He.ma K (gN K) "__init__")))),
  decide (PySem.W.typeIn K (.ref (He.ma K (gN K) "__init__")) = some (.type "function")),
  decide (PySem.W.exmOne K (.ref (gN K)) (.ref (He.ga K "WorkError")) = some true),
  decide (PySem.W.kitOne K (.ref (gN K)) (.type "ValueError") = some true),
  decide (PySem.W.findIn K (.ref (gN K)) "key" = some none),
  decide (PySem.W.findIn K (.ref (gN K)) "place" = some none),
  decide (PySem.W.findIn K (.ref (gN K)) "name" = some none),
  decide (PySem.W.findIn K (.ref (gN K)) "step" = some none),
  decide (PySem.W.findIn K (.ref (gN K)) "item" = some none),
  decide (PySem.W.findIn K (.ref (gN K)) "word" = some none),
  decide (PySem.W.findIn K (.ref (gN K)) "line" = some none),
  decide (PySem.W.findIn K (.ref (gN K)) "column" = some none),
  decide (PySem.W.kitOne K (.ref (gN K)) (.ref (He.ga K "BadNet")) = some true),
  decide (PySem.W.kitOne K (.ref (gN K)) (.ref (He.ga K "BadRun")) = some false),
  decide (PySem.W.kitOne K (.ref (gN K)) (.ref (He.ga K "BadFilling")) = some false),
  decide (PySem.W.kitOne K (.ref (gN K)) (.ref (He.ga K "BadClimb")) = some false),
  decide (PySem.W.kitOne K (.ref (gN K)) (.ref (He.ga K "BadWalk")) = some false),
  decide (PySem.W.kitOne K (.ref (gN K)) (.ref (He.ga K "BadSeen")) = some false),
  decide (PySem.W.kitOne K (.ref (gN K)) (.ref (He.ga K "BadEdit")) = some false),
  decide (PySem.W.kitOne K (.ref (gN K)) (.ref (He.ga K "BadValue")) = some false),
  decide (PySem.W.kitOne K (.ref (gN K)) (.ref (He.ga K "BadText")) = some false),
  decide (PySem.W.kitOne K (.ref (gN K)) (.ref (He.ga K "NotFree")) = some false),
  decide (PySem.W.kitOne K (.ref (gN K)) (.ref (He.ga K "NotJoined")) = some false),
  decide (PySem.W.kitOne K (.ref (gN K)) (.ref (He.ga K "NotRing")) = some false),
  decide (PySem.W.kitOne K (.ref (gN K)) (.ref (He.ga K "NotSafe")) = some false),
  decide (PySem.W.kitOne K (.ref (gN K)) (.ref (He.ga K "Still")) = some false),
  decide (PySem.W.kitOne K (.ref (gN K)) (.ref (He.ga K "TooMany")) = some false),
  decide (PySem.W.kitOne K (.ref (gN K)) (.ref (He.ga K "NothingToUndo")) = some false),
  decide (PySem.W.kitOne K (.ref (gN K)) (.ref (He.ga K "NothingToRedo")) = some false),
  decide (PySem.W.kitOne K (.ref (gN K)) (.ref (He.ga K "WorkError")) = some true),
  He.tupB K "KEYS" [.str "trays", .str "deeds", .str "start"]]
def ex (K : PySem.W.Frag) : Bool := (exL K).all id
theorem ex_at {K : PySem.W.Frag} (h : ex K = true) (i : Nat) {b : Bool} (e : (exL K)[i]? = some b) : b = true := List.all_eq_true.mp h b (List.mem_of_getElem? e)
theorem facts {P : Program} {w : World} {K : PySem.W.Frag} {h : Heap} {mg : Str → Option Value} {f : Addr} (X : K.In h) (G : h.Ns mainGlobals mg) (hfa : mg ("law" : Str) = some (.ref f)) (c : He.SaysX fa fn [] [] ex w h K) :
    ∃ fd : FuncData, (∀ (s : Shared) (v : Value), BindsTo s fd ⟨[v], []⟩ [("script", v)]) ∧ ∀ base : Heap, K.In base → base.Ns mainGlobals mg → FnOk P w K mg base (L2N.CX P w) 12 f fd ["script"] (spLaw K) := by
  have cd : He.SaysD fa fn K := congrArg Prod.fst (show He.obsT fa fn [] K = He.valT fn [] w from c.t)
  have more := c.more
  have g_is_int : mg "is_int" = some (.ref (He.ga K "is_int")) := He.glo_ok X G (cd.fact 0 (f := .glo "is_int") rfl)
  have g_is_from : mg "is_from" = some (.ref (He.ga K "is_from")) := He.glo_ok X G (cd.fact 1 (f := .glo "is_from") rfl)
  have g_is_between : mg "is_between" = some (.ref (He.ga K "is_between")) := He.glo_ok X G (cd.fact 2 (f := .glo "is_between") rfl)
  have g_is_tuple_of : mg "is_tuple_of" = some (.ref (He.ga K "is_tuple_of")) := He.glo_ok X G (cd.fact 3 (f := .glo "is_tuple_of") rfl)
  have g_is_wide_filling : mg "is_wide_filling" = some (.ref (He.ga K "is_wide_filling")) := He.glo_ok X G (cd.fact 4 (f := .glo "is_wide_filling") rfl)
  have g_is_vector : mg "is_vector" = some (.ref (He.ga K "is_vector")) := He.glo_ok X G (cd.fact 5 (f := .glo "is_vector") rfl)
  have g_is_deed : mg "is_deed" = some (.ref (He.ga K "is_deed")) := He.glo_ok X G (cd.fact 6 (f := .glo "is_deed") rfl)
  have g_are_deeds : mg "are_deeds" = some (.ref (He.ga K "are_deeds")) := He.glo_ok X G (cd.fact 7 (f := .glo "are_deeds") rfl)
  have g_has_keys : mg "has_keys" = some (.ref (He.ga K "has_keys")) := He.glo_ok X G (cd.fact 8 (f := .glo "has_keys") rfl)
  have g_wrong_key : mg "wrong_key" = some (.ref (He.ga K "wrong_key")) := He.glo_ok X G (cd.fact 9 (f := .glo "wrong_key") rfl)
  have g_wrong_wide_key : mg "wrong_wide_key" = some (.ref (He.ga K "wrong_wide_key")) := He.glo_ok X G (cd.fact 10 (f := .glo "wrong_wide_key") rfl)
  have g_check_net : mg "check_net" = some (.ref (He.ga K "check_net")) := He.glo_ok X G (cd.fact 11 (f := .glo "check_net") rfl)
  have g_check_wide : mg "check_wide" = some (.ref (He.ga K "check_wide")) := He.glo_ok X G (cd.fact 12 (f := .glo "check_wide") rfl)
  have g_law_next : mg "_law_next" = some (.ref (He.ga K "_law_next")) := He.glo_ok X G (cd.fact 13 (f := .glo "_law_next") rfl)
  have g_law_pick : mg "_law_pick" = some (.ref (He.ga K "_law_pick")) := He.glo_ok X G (cd.fact 14 (f := .glo "_law_pick") rfl)
  have g_law_from : mg "_law_from" = some (.ref (He.ga K "_law_from")) := He.glo_ok X G (cd.fact 15 (f := .glo "_law_from") rfl)
  have g_law_number : mg "_law_number" = some (.ref (He.ga K "_law_number")) := He.glo_ok X G (cd.fact 16 (f := .glo "_law_number") rfl)
  have g_law_whole : mg "_law_whole" = some (.ref (He.ga K "_law_whole")) := He.glo_ok X G (cd.fact 17 (f := .glo "_law_whole") rfl)
  have g_law_same : mg "_law_same" = some (.ref (He.ga K "_law_same")) := He.glo_ok X G (cd.fact 18 (f := .glo "_law_same") rfl)
  have g_law_copy : mg "_law_copy" = some (.ref (He.ga K "_law_copy")) := He.glo_ok X G (cd.fact 19 (f := .glo "_law_copy") rfl)
  have g_law_is_vector : mg "_law_is_vector" = some (.ref (He.ga K "_law_is_vector")) := He.glo_ok X G (cd.fact 20 (f := .glo "_law_is_vector") rfl)
  have g_law_wrong : mg "_law_wrong" = some (.ref (He.ga K "_law_wrong")) := He.glo_ok X G (cd.fact 21 (f := .glo "_law_wrong") rfl)
  have g_law_drawn : mg "_law_drawn" = some (.ref (He.ga K "_law_drawn")) := He.glo_ok X G (cd.fact 22 (f := .glo "_law_drawn") rfl)
  have g_law_base : mg "_law_base" = some (.ref (He.ga K "_law_base")) := He.glo_ok X G (cd.fact 23 (f := .glo "_law_base") rfl)
  have g_law_with : mg "_law_with" = some (.ref (He.ga K "_law_with")) := He.glo_ok X G (cd.fact 24 (f := .glo "_law_with") rfl)
  have g_law_without : mg "_law_without" = some (.ref (He.ga K "_law_without")) := He.glo_ok X G (cd.fact 25 (f := .glo "_law_without") rfl)
  have g_law_bent_vector : mg "_law_bent_vector" = some (.ref (He.ga K "_law_bent_vector")) := He.glo_ok X G (cd.fact 26 (f := .glo "_law_bent_vector") rfl)
  have g_law_bent_deed : mg "_law_bent_deed" = some (.ref (He.ga K "_law_bent_deed")) := He.glo_ok X G (cd.fact 27 (f := .glo "_law_bent_deed") rfl)
  have g_law_bent : mg "_law_bent" = some (.ref (He.ga K "_law_bent")) := He.glo_ok X G (cd.fact 28 (f := .glo "_law_bent") rfl)
  have g_law_stream : mg "_law_stream" = some (.ref (He.ga K "_law_stream")) := He.glo_ok X G (cd.fact 29 (f := .glo "_law_stream") rfl)
  have g_law_named : mg "_law_named" = some (.ref (He.ga K "_law_named")) := He.glo_ok X G (cd.fact 30 (f := .glo "_law_named") rfl)
  have g_law_attributes : mg "_law_attributes" = some (.ref (He.ga K "_law_attributes")) := He.glo_ok X G (cd.fact 31 (f := .glo "_law_attributes") rfl)
  have g_law_ask : mg "_law_ask" = some (.ref (He.ga K "_law_ask")) := He.glo_ok X G (cd.fact 32 (f := .glo "_law_ask") rfl)
  have g_law : mg "law" = some (.ref (He.ga K "law")) := He.glo_ok X G (cd.fact 33 (f := .glo "law") rfl)
  have g_BadNet : mg "BadNet" = some (.ref (He.ga K "BadNet")) := He.glo_ok X G (cd.fact 34 (f := .glo "BadNet") rfl)
  have g_BadRun : mg "BadRun" = some (.ref (He.ga K "BadRun")) := He.glo_ok X G (cd.fact 35 (f := .glo "BadRun") rfl)
  have g_BadFilling : mg "BadFilling" = some (.ref (He.ga K "BadFilling")) := He.glo_ok X G (cd.fact 36 (f := .glo "BadFilling") rfl)
  have g_BadClimb : mg "BadClimb" = some (.ref (He.ga K "BadClimb")) := He.glo_ok X G (cd.fact 37 (f := .glo "BadClimb") rfl)
  have g_BadWalk : mg "BadWalk" = some (.ref (He.ga K "BadWalk")) := He.glo_ok X G (cd.fact 38 (f := .glo "BadWalk") rfl)
  have g_BadSeen : mg "BadSeen" = some (.ref (He.ga K "BadSeen")) := He.glo_ok X G (cd.fact 39 (f := .glo "BadSeen") rfl)
  have g_BadEdit : mg "BadEdit" = some (.ref (He.ga K "BadEdit")) := He.glo_ok X G (cd.fact 40 (f := .glo "BadEdit") rfl)
  have g_BadValue : mg "BadValue" = some (.ref (He.ga K "BadValue")) := He.glo_ok X G (cd.fact 41 (f := .glo "BadValue") rfl)
  have g_BadText : mg "BadText" = some (.ref (He.ga K "BadText")) := He.glo_ok X G (cd.fact 42 (f := .glo "BadText") rfl)
  have g_NotFree : mg "NotFree" = some (.ref (He.ga K "NotFree")) := He.glo_ok X G (cd.fact 43 (f := .glo "NotFree") rfl)
  have g_NotJoined : mg "NotJoined" = some (.ref (He.ga K "NotJoined")) := He.glo_ok X G (cd.fact 44 (f := .glo "NotJoined") rfl)
  have g_NotRing : mg "NotRing" = some (.ref (He.ga K "NotRing")) := He.glo_ok X G (cd.fact 45 (f := .glo "NotRing") rfl)
  have g_NotSafe : mg "NotSafe" = some (.ref (He.ga K "NotSafe")) := He.glo_ok X G (cd.fact 46 (f := .glo "NotSafe") rfl)
  have g_Still : mg "Still" = some (.ref (He.ga K "Still")) := He.glo_ok X G (cd.fact 47 (f := .glo "Still") rfl)
  have g_TooMany : mg "TooMany" = some (.ref (He.ga K "TooMany")) := He.glo_ok X G (cd.fact 48 (f := .glo "TooMany") rfl)
  have g_NothingToUndo : mg "NothingToUndo" = some (.ref (He.ga K "NothingToUndo")) := He.glo_ok X G (cd.fact 49 (f := .glo "NothingToUndo") rfl)
  have g_NothingToRedo : mg "NothingToRedo" = some (.ref (He.ga K "NothingToRedo")) := He.glo_ok X G (cd.fact 50 (f := .glo "NothingToRedo") rfl)
  have g_WorkError : mg "WorkError" = some (.ref (He.ga K "WorkError")) := He.glo_ok X G (cd.fact 51 (f := .glo "WorkError") rfl)
  have g_KEYS : mg "KEYS" = some (.ref (He.ga K "KEYS")) := He.glo_ok X G (cd.fact 71 (f := .glo "KEYS") rfl)
  have B : Bs mg := ⟨He.free_ok X G (cd.fact 52 (f := .free "ValueError") rfl), He.free_ok X G (cd.fact 53 (f := .free "abs") rfl), He.free_ok X G (cd.fact 54 (f := .free "all") rfl), He.free_ok X G (cd.fact 55 (f := .free "bool") rfl), He.free_ok X G (cd.fact 56 (f := .free "dict") rfl), He.free_ok X G (cd.fact 57 (f := .free "int") rfl), He.free_ok X G (cd.fact 58 (f := .free "isinstance") rfl), He.free_ok X G (cd.fact 59 (f := .free "len") rfl), He.free_ok X G (cd.fact 60 (f := .free "list") rfl), He.free_ok X G (cd.fact 61 (f := .free "max") rfl), He.free_ok X G (cd.fact 62 (f := .free "range") rfl), He.free_ok X G (cd.fact 63 (f := .free "str") rfl), He.free_ok X G (cd.fact 64 (f := .free "tuple") rfl)⟩
  have C : Cs K mg := ⟨gcon_int (He.int_ok X G (cd.fact 65 (f := .int "MOST_SIGN" 9) rfl)), gcon_int (He.int_ok X G (cd.fact 66 (f := .int "MOST_DEEDS" 10) rfl)), gcon_tup (xs := ["trays", "deeds", "start"]) g_KEYS (fun H => He.tupB_ok (ex_at more 33 rfl) H), gcon_int (He.int_ok X G (cd.fact 67 (f := .int "MOST_START" 99) rfl)), gcon_int (He.int_ok X G (cd.fact 68 (f := .int "MOST_NUMBER" 3) rfl)), gcon_int (He.int_ok X G (cd.fact 69 (f := .int "MOST_TRAYS" 8) rfl)), gcon_int (He.int_ok X G (cd.fact 70 (f := .int "MOST_WIDE_TRAYS" 200) rfl))⟩
  have Q : Qs K mg (gN K) := ⟨g_BadNet, of_decide_eq_true (ex_at more 15 rfl), g_BadRun, of_decide_eq_true (ex_at more 16 rfl), g_BadFilling, of_decide_eq_true (ex_at more 17 rfl), g_BadClimb, of_decide_eq_true (ex_at more 18 rfl), g_BadWalk, of_decide_eq_true (ex_at more 19 rfl), g_BadSeen, of_decide_eq_true (ex_at more 20 rfl), g_BadEdit, of_decide_eq_true (ex_at more 21 rfl), g_BadValue, of_decide_eq_true (ex_at more 22 rfl), g_BadText, of_decide_eq_true (ex_at more 23 rfl), g_NotFree, of_decide_eq_true (ex_at more 24 rfl), g_NotJoined, of_decide_eq_true (ex_at more 25 rfl), g_NotRing, of_decide_eq_true (ex_at more 26 rfl), g_NotSafe, of_decide_eq_true (ex_at more 27 rfl), g_Still, of_decide_eq_true (ex_at more 28 rfl), g_TooMany, of_decide_eq_true (ex_at more 29 rfl), g_NothingToUndo, of_decide_eq_true (ex_at more 30 rfl), g_NothingToRedo, of_decide_eq_true (ex_at more 31 rfl), g_WorkError, of_decide_eq_true (ex_at more 32 rfl), of_decide_eq_true (ex_at more 6 rfl), of_decide_eq_true (ex_at more 7 rfl), of_decide_eq_true (ex_at more 8 rfl), of_decide_eq_true (ex_at more 9 rfl), of_decide_eq_true (ex_at more 10 rfl), of_decide_eq_true (ex_at more 11 rfl), of_decide_eq_true (ex_at more 12 rfl), of_decide_eq_true (ex_at more 13 rfl), of_decide_eq_true (ex_at more 14 rfl), isB_ok (ex_at more 1 rfl), L2.xfB_ok (ex_at more 2 rfl)⟩
  obtain ⟨fd_is_int, FD_is_int⟩ : ∃ fd, Fd K "is_int" s_is_int (He.ga K "is_int") fd := cd.def_ 0 (d := d_is_int) rfl
  obtain ⟨fd_is_from, FD_is_from⟩ : ∃ fd, Fd K "is_from" s_is_from (He.ga K "is_from") fd := cd.def_ 1 (d := d_is_from) rfl
  obtain ⟨fd_is_between, FD_is_between⟩ : ∃ fd, Fd K "is_between" s_is_between (He.ga K "is_between") fd := cd.def_ 2 (d := d_is_between) rfl
  obtain ⟨fd_is_tuple_of, FD_is_tuple_of⟩ : ∃ fd, Fd K "is_tuple_of" s_is_tuple_of (He.ga K "is_tuple_of") fd := cd.def_ 3 (d := d_is_tuple_of) rfl
  obtain ⟨fd_is_wide_filling, FD_is_wide_filling⟩ : ∃ fd, Fd K "is_wide_filling" s_is_wide_filling (He.ga K "is_wide_filling") fd := cd.def_ 4 (d := d_is_wide_filling) rfl
  obtain ⟨fd_is_vector, FD_is_vector⟩ : ∃ fd, Fd K "is_vector" s_is_vector (He.ga K "is_vector") fd := cd.def_ 5 (d := d_is_vector) rfl
  obtain ⟨fd_is_deed, FD_is_deed⟩ : ∃ fd, Fd K "is_deed" s_is_deed (He.ga K "is_deed") fd := cd.def_ 6 (d := d_is_deed) rfl
  obtain ⟨fd_are_deeds, FD_are_deeds⟩ : ∃ fd, Fd K "are_deeds" s_are_deeds (He.ga K "are_deeds") fd := cd.def_ 7 (d := d_are_deeds) rfl
  obtain ⟨fd_has_keys, FD_has_keys⟩ : ∃ fd, Fd K "has_keys" s_has_keys (He.ga K "has_keys") fd := cd.def_ 8 (d := d_has_keys) rfl
  obtain ⟨fd_wrong_key, FD_wrong_key⟩ : ∃ fd, Fd K "wrong_key" s_wrong_key (He.ga K "wrong_key") fd := cd.def_ 9 (d := d_wrong_key) rfl
  obtain ⟨fd_wrong_wide_key, FD_wrong_wide_key⟩ : ∃ fd, Fd K "wrong_wide_key" s_wrong_wide_key (He.ga K "wrong_wide_key") fd := cd.def_ 10 (d := d_wrong_wide_key) rfl
  obtain ⟨fd_check_net, FD_check_net⟩ : ∃ fd, Fd K "check_net" s_check_net (He.ga K "check_net") fd := cd.def_ 11 (d := d_check_net) rfl
  obtain ⟨fd_check_wide, FD_check_wide⟩ : ∃ fd, Fd K "check_wide" s_check_wide (He.ga K "check_wide") fd := cd.def_ 12 (d := d_check_wide) rfl
  obtain ⟨fd_law_next, FD_law_next⟩ : ∃ fd, Fd K "_law_next" s_law_next (He.ga K "_law_next") fd := cd.def_ 13 (d := d_law_next) rfl
  obtain ⟨fd_law_pick, FD_law_pick⟩ : ∃ fd, Fd K "_law_pick" s_law_pick (He.ga K "_law_pick") fd := cd.def_ 14 (d := d_law_pick) rfl
  obtain ⟨fd_law_from, FD_law_from⟩ : ∃ fd, Fd K "_law_from" s_law_from (He.ga K "_law_from") fd := cd.def_ 15 (d := d_law_from) rfl
  obtain ⟨fd_law_number, FD_law_number⟩ : ∃ fd, Fd K "_law_number" s_law_number (He.ga K "_law_number") fd := cd.def_ 16 (d := d_law_number) rfl
  obtain ⟨fd_law_whole, FD_law_whole⟩ : ∃ fd, Fd K "_law_whole" s_law_whole (He.ga K "_law_whole") fd := cd.def_ 17 (d := d_law_whole) rfl
  obtain ⟨fd_law_same, FD_law_same⟩ : ∃ fd, Fd K "_law_same" s_law_same (He.ga K "_law_same") fd := cd.def_ 18 (d := d_law_same) rfl
  obtain ⟨fd_law_copy, FD_law_copy⟩ : ∃ fd, Fd K "_law_copy" s_law_copy (He.ga K "_law_copy") fd := cd.def_ 19 (d := d_law_copy) rfl
  obtain ⟨fd_law_is_vector, FD_law_is_vector⟩ : ∃ fd, Fd K "_law_is_vector" s_law_is_vector (He.ga K "_law_is_vector") fd := cd.def_ 20 (d := d_law_is_vector) rfl
  obtain ⟨fd_law_wrong, FD_law_wrong⟩ : ∃ fd, Fd K "_law_wrong" s_law_wrong (He.ga K "_law_wrong") fd := cd.def_ 21 (d := d_law_wrong) rfl
  obtain ⟨fd_law_drawn, FD_law_drawn⟩ : ∃ fd, Fd K "_law_drawn" s_law_drawn (He.ga K "_law_drawn") fd := cd.def_ 22 (d := d_law_drawn) rfl
  obtain ⟨fd_law_base, FD_law_base⟩ : ∃ fd, Fd K "_law_base" s_law_base (He.ga K "_law_base") fd := cd.def_ 23 (d := d_law_base) rfl
  obtain ⟨fd_law_with, FD_law_with⟩ : ∃ fd, Fd K "_law_with" s_law_with (He.ga K "_law_with") fd := cd.def_ 24 (d := d_law_with) rfl
  obtain ⟨fd_law_without, FD_law_without⟩ : ∃ fd, Fd K "_law_without" s_law_without (He.ga K "_law_without") fd := cd.def_ 25 (d := d_law_without) rfl
  obtain ⟨fd_law_bent_vector, FD_law_bent_vector⟩ : ∃ fd, Fd K "_law_bent_vector" s_law_bent_vector (He.ga K "_law_bent_vector") fd := cd.def_ 26 (d := d_law_bent_vector) rfl
  obtain ⟨fd_law_bent_deed, FD_law_bent_deed⟩ : ∃ fd, Fd K "_law_bent_deed" s_law_bent_deed (He.ga K "_law_bent_deed") fd := cd.def_ 27 (d := d_law_bent_deed) rfl
  obtain ⟨fd_law_bent, FD_law_bent⟩ : ∃ fd, Fd K "_law_bent" s_law_bent (He.ga K "_law_bent") fd := cd.def_ 28 (d := d_law_bent) rfl
  obtain ⟨fd_law_stream, FD_law_stream⟩ : ∃ fd, Fd K "_law_stream" s_law_stream (He.ga K "_law_stream") fd := cd.def_ 29 (d := d_law_stream) rfl
  obtain ⟨fd_law_named, FD_law_named⟩ : ∃ fd, Fd K "_law_named" s_law_named (He.ga K "_law_named") fd := cd.def_ 30 (d := d_law_named) rfl
  obtain ⟨fd_law_attributes, FD_law_attributes⟩ : ∃ fd, Fd K "_law_attributes" s_law_attributes (He.ga K "_law_attributes") fd := cd.def_ 31 (d := d_law_attributes) rfl
  obtain ⟨fd_law_ask, FD_law_ask⟩ : ∃ fd, Fd K "_law_ask" s_law_ask (He.ga K "_law_ask") fd := cd.def_ 32 (d := d_law_ask) rfl
  obtain ⟨fd_law, FD_law⟩ : ∃ fd, Fd K "law" s_law (He.ga K "law") fd := cd.def_ 33 (d := d_law) rfl
  obtain ⟨fd_init, FD_init⟩ := cd.def_ 34 (d := d_init) rfl
  have e := hfa.symm.trans g_law
  cases e
  refine ⟨fd_law, fun s v => (FunD.bindsA (ps := ["script"]) FD_law fun _ _ _ _ _ _ us hl => match us, hl with | [_], _ => rfl) s [v] rfl, fun base _ _ => ?_⟩
  have XN : XCls P w K mg base "BadNet" (gN K) ["key"] 1 := xcls1 (st := s_initBadNet) (qual := "BadNet.__init__") (y := "key") (f := "key") FD_init (oexB_ok (ex_at more 0 rfl)) g_BadNet (FD_init.bindsN fun _ _ _ _ _ _ us hl => match us, hl with | [_, _], _ => rfl) ⟨rfl, rfl, rfl, by decide +kernel, rfl, by decide +kernel, by decide +kernel⟩ (of_decide_eq_true (ex_at more 3 rfl)) (of_decide_eq_true (ex_at more 4 rfl)) (of_decide_eq_true (ex_at more 7 rfl)) rfl rfl rfl
  have C_is_int : Cal P w K mg base "is_int" 1 S_is_int := cal_of FD_is_int g_is_int (FD_is_int.bindsN fun _ _ _ _ _ _ us hl => match us, hl with | [_], _ => rfl) sc_is_int (fun ds G P X h => by obtain ⟨_, rfl, _⟩ := h; rfl) (fun cdv A outer s H E room => w_is_int B C _ cdv A outer s H E room) l_is_int
  have C_is_from : Cal P w K mg base "is_from" 2 S_is_from := cal_of FD_is_from g_is_from (FD_is_from.bindsN fun _ _ _ _ _ _ us hl => match us, hl with | [_, _], _ => rfl) sc_is_from (fun ds G P X h => by obtain ⟨_, _, rfl, _⟩ := h; rfl) (fun cdv A outer s H E room => w_is_from B C C_is_int (by decide) _ cdv A outer s H E room) l_is_from
  have C_is_between : Cal P w K mg base "is_between" 2 S_is_between := cal_of FD_is_between g_is_between (FD_is_between.bindsN fun _ _ _ _ _ _ us hl => match us, hl with | [_, _, _], _ => rfl) sc_is_between (fun ds G P X h => by obtain ⟨_, _, _, rfl, _⟩ := h; rfl) (fun cdv A outer s H E room => w_is_between B C C_is_int (by decide) _ cdv A outer s H E room) l_is_between
  have C_is_tuple_of : Cal P w K mg base "is_tuple_of" 1 S_is_tuple_of := cal_of FD_is_tuple_of g_is_tuple_of (FD_is_tuple_of.bindsN fun _ _ _ _ _ _ us hl => match us, hl with | [_, _], _ => rfl) sc_is_tuple_of (fun ds G P X h => by obtain ⟨_, _, rfl, _⟩ := h; rfl) (fun cdv A outer s H E room => w_is_tuple_of B C _ cdv A outer s H E room) l_is_tuple_of
  have C_is_wide_filling : Cal P w K mg base "is_wide_filling" 3 S_is_wide_filling := cal_of FD_is_wide_filling g_is_wide_filling (FD_is_wide_filling.bindsN fun _ _ _ _ _ _ us hl => match us, hl with | [_, _], _ => rfl) sc_is_wide_filling (fun ds G P X h => by obtain ⟨_, _, rfl, _⟩ := h; rfl) (fun cdv A outer s H E room => w_is_wide_filling B C C_is_tuple_of (by decide) C_is_from (by decide) _ cdv A outer s H E room) l_is_wide_filling
  have C_is_vector : Cal P w K mg base "is_vector" 4 S_is_vector := cal_of FD_is_vector g_is_vector (FD_is_vector.bindsN fun _ _ _ _ _ _ us hl => match us, hl with | [_, _, _], _ => rfl) sc_is_vector (fun ds G P X h => by obtain ⟨_, _, _, rfl, _⟩ := h; rfl) (fun cdv A outer s H E room => w_is_vector B C C_is_wide_filling (by decide) _ cdv A outer s H E room) l_is_vector
  have C_is_deed : Cal P w K mg base "is_deed" 5 S_is_deed := cal_of FD_is_deed g_is_deed (FD_is_deed.bindsN fun _ _ _ _ _ _ us hl => match us, hl with | [_, _, _], _ => rfl) sc_is_deed (fun ds G P X h => by obtain ⟨_, _, _, rfl, _⟩ := h; rfl) (fun cdv A outer s H E room => w_is_deed B C C_is_vector (by decide) C_is_tuple_of (by decide) C_is_between (by decide) _ cdv A outer s H E room) l_is_deed
  have C_are_deeds : Cal P w K mg base "are_deeds" 6 S_are_deeds := cal_of FD_are_deeds g_are_deeds (FD_are_deeds.bindsN fun _ _ _ _ _ _ us hl => match us, hl with | [_, _, _, _], _ => rfl) sc_are_deeds (fun ds G P X h => by obtain ⟨_, _, _, _, rfl, _⟩ := h; rfl) (fun cdv A outer s H E room => w_are_deeds B C C_is_deed (by decide) C_is_between (by decide) _ cdv A outer s H E room) l_are_deeds
  have C_has_keys : Cal P w K mg base "has_keys" 1 S_has_keys := cal_of FD_has_keys g_has_keys (FD_has_keys.bindsN fun _ _ _ _ _ _ us hl => match us, hl with | [_], _ => rfl) sc_has_keys (fun ds G P X h => by obtain ⟨_, rfl, _⟩ := h; rfl) (fun cdv A outer s H E room => w_has_keys B C _ cdv A outer s H E room) l_has_keys
  have C_wrong_key : Cal P w K mg base "wrong_key" 7 S_wrong_key := cal_of FD_wrong_key g_wrong_key (FD_wrong_key.bindsN fun _ _ _ _ _ _ us hl => match us, hl with | [_], _ => rfl) sc_wrong_key (fun ds G P X h => by obtain ⟨_, rfl, _⟩ := h; rfl) (fun cdv A outer s H E room => w_wrong_key B C C_is_vector (by decide) C_are_deeds (by decide) C_is_between (by decide) C_has_keys (by decide) _ cdv A outer s H E room) l_wrong_key
  have C_wrong_wide_key : Cal P w K mg base "wrong_wide_key" 7 S_wrong_wide_key := cal_of FD_wrong_wide_key g_wrong_wide_key (FD_wrong_wide_key.bindsN fun _ _ _ _ _ _ us hl => match us, hl with | [_], _ => rfl) sc_wrong_wide_key (fun ds G P X h => by obtain ⟨_, rfl, _⟩ := h; rfl) (fun cdv A outer s H E room => w_wrong_wide_key B C C_is_vector (by decide) C_are_deeds (by decide) C_is_between (by decide) C_has_keys (by decide) _ cdv A outer s H E room) l_wrong_wide_key
  have C_check_net : Cal P w K mg base "check_net" 8 (S_check (gN K) fNet) := cal_of FD_check_net g_check_net (FD_check_net.bindsN fun _ _ _ _ _ _ us hl => match us, hl with | [_], _ => rfl) sc_check_net (fun ds G P X h => by obtain ⟨_, rfl, _⟩ := h; rfl) (fun cdv A outer s H E room => w_check_net (f_BadNet := []) B C C_wrong_key (by decide) XN (by decide) _ cdv A outer s H E room) l_check_net
  have C_check_wide : Cal P w K mg base "check_wide" 8 (S_check (gN K) fWide) := cal_of FD_check_wide g_check_wide (FD_check_wide.bindsN fun _ _ _ _ _ _ us hl => match us, hl with | [_], _ => rfl) sc_check_wide (fun ds G P X h => by obtain ⟨_, rfl, _⟩ := h; rfl) (fun cdv A outer s H E room => w_check_wide (f_BadNet := []) B C C_wrong_wide_key (by decide) XN (by decide) _ cdv A outer s H E room) l_check_wide
  have C_law_next : Cal P w K mg base "_law_next" 1 S_law_next := cal_of FD_law_next g_law_next (FD_law_next.bindsN fun _ _ _ _ _ _ us hl => match us, hl with | [_, _], _ => rfl) sc_law_next (fun ds G P X h => by obtain ⟨_, _, rfl, _⟩ := h; rfl) (fun cdv A outer s H E room => w_law_next B C _ cdv A outer s H E room) l_law_next
  have C_law_pick : Cal P w K mg base "_law_pick" 2 S_law_pick := cal_of FD_law_pick g_law_pick (FD_law_pick.bindsN fun _ _ _ _ _ _ us hl => match us, hl with | [_, _], _ => rfl) sc_law_pick (fun ds G P X h => by obtain ⟨_, _, h, _⟩ := h; rcases h with rfl | rfl <;> rfl) (fun cdv A outer s H E room => w_law_pick B C C_law_next (by decide) _ cdv A outer s H E room) l_law_pick
  have C_law_from : Cal P w K mg base "_law_from" 2 S_law_from := cal_of FD_law_from g_law_from (FD_law_from.bindsN fun _ _ _ _ _ _ us hl => match us, hl with | [_, _, _], _ => rfl) sc_law_from (fun ds G P X h => by obtain ⟨_, _, _, rfl, _⟩ := h; rfl) (fun cdv A outer s H E room => w_law_from B C C_law_next (by decide) _ cdv A outer s H E room) l_law_from
  have C_law_number : Cal P w K mg base "_law_number" 1 S_law_number := cal_of FD_law_number g_law_number (FD_law_number.bindsN fun _ _ _ _ _ _ us hl => match us, hl with | [_, _, _], _ => rfl) sc_law_number (fun ds G P X h => by obtain ⟨_, _, _, rfl, _⟩ := h; rfl) (fun cdv A outer s H E room => w_law_number B C _ cdv A outer s H E room) l_law_number
  have C_law_whole : Cal P w K mg base "_law_whole" 1 S_law_whole := cal_of FD_law_whole g_law_whole (FD_law_whole.bindsN fun _ _ _ _ _ _ us hl => match us, hl with | [_, _], _ => rfl) sc_law_whole (fun ds G P X h => by obtain ⟨_, _, rfl, _⟩ := h; rfl) (fun cdv A outer s H E room => w_law_whole B C _ cdv A outer s H E room) l_law_whole
  have C_law_same : Cal P w K mg base "_law_same" 1 S_law_same := cal_of FD_law_same g_law_same (FD_law_same.bindsN fun _ _ _ _ _ _ us hl => match us, hl with | [_, _], _ => rfl) sc_law_same (fun ds G P X h => by obtain ⟨_, rfl, _⟩ := h; rfl) (fun cdv A outer s H E room => w_law_same B C _ cdv A outer s H E room) l_law_same
  have copies : ∀ n : Nat, Cal P w K mg base "_law_copy" (n + 1) (S_copy n) := c_copy B C FD_law_copy g_law_copy (FD_law_copy.bindsN fun _ _ _ _ _ _ us hl => match us, hl with | [_], _ => rfl)
  have C_law_copy := copies 10
  have C_law_is_vector : Cal P w K mg base "_law_is_vector" 2 S_law_is_vector := cal_of FD_law_is_vector g_law_is_vector (FD_law_is_vector.bindsN fun _ _ _ _ _ _ us hl => match us, hl with | [_, _, _], _ => rfl) sc_law_is_vector (fun ds G P X h => by obtain ⟨_, _, _, rfl, _⟩ := h; rfl) (fun cdv A outer s H E room => w_law_is_vector B C C_law_whole (by decide) _ cdv A outer s H E room) l_law_is_vector
  have C_law_wrong : Cal P w K mg base "_law_wrong" 3 S_law_wrong := cal_of FD_law_wrong g_law_wrong (FD_law_wrong.bindsN fun _ _ _ _ _ _ us hl => match us, hl with | [_, _], _ => rfl) sc_law_wrong (fun ds G P X h => by obtain ⟨_, _, rfl, _⟩ := h; rfl) (fun cdv A outer s H E room => w_law_wrong B C C_law_is_vector (by decide) C_law_number (by decide) _ cdv A outer s H E room) l_law_wrong
  have C_law_drawn : Cal P w K mg base "_law_drawn" 3 S_law_drawn := cal_of FD_law_drawn g_law_drawn (FD_law_drawn.bindsN fun _ _ _ _ _ _ us hl => match us, hl with | [_, _, _], _ => rfl) sc_law_drawn (fun ds G P X h => by obtain ⟨_, _, _, rfl, _⟩ := h; rfl) (fun cdv A outer s H E room => w_law_drawn B C C_law_pick (by decide) _ cdv A outer s H E room) l_law_drawn
  have C_law_base : Cal P w K mg base "_law_base" 4 S_law_base := cal_of FD_law_base g_law_base (FD_law_base.bindsN fun _ _ _ _ _ _ us hl => match us, hl with | [_], _ => rfl) sc_law_base (fun ds G P X h => by obtain ⟨_, rfl, _⟩ := h; rfl) (fun cdv A outer s H E room => w_law_base B C C_law_drawn (by decide) C_law_next (by decide) C_law_pick (by decide) C_law_from (by decide) _ cdv A outer s H E room) l_law_base
  have C_law_with : Cal P w K mg base "_law_with" 1 S_law_with := cal_of FD_law_with g_law_with (FD_law_with.bindsN fun _ _ _ _ _ _ us hl => match us, hl with | [_, _, _], _ => rfl) sc_law_with (fun ds G P X h => by obtain ⟨_, _, _, _, _, _, rfl, _⟩ := h; rfl) (fun cdv A outer s H E room => w_law_with B C _ cdv A outer s H E room) l_law_with
  have C_law_without : Cal P w K mg base "_law_without" 1 S_law_without := cal_of FD_law_without g_law_without (FD_law_without.bindsN fun _ _ _ _ _ _ us hl => match us, hl with | [_, _], _ => rfl) sc_law_without (fun ds G P X h => by obtain ⟨_, _, _, _, rfl, _⟩ := h; rfl) (fun cdv A outer s H E room => w_law_without B C _ cdv A outer s H E room) l_law_without
  have C_law_bent_vector : Cal P w K mg base "_law_bent_vector" 3 S_law_bent_vector := cal_of FD_law_bent_vector g_law_bent_vector (FD_law_bent_vector.bindsN fun _ _ _ _ _ _ us hl => match us, hl with | [_, _, _], _ => rfl) sc_law_bent_vector (fun ds G P X h => by obtain ⟨_, _, _, _, _, rfl, _⟩ := h; rfl) (fun cdv A outer s H E room => w_law_bent_vector B C C_law_pick (by decide) C_law_next (by decide) _ cdv A outer s H E room) l_law_bent_vector
  have C_law_bent_deed : Cal P w K mg base "_law_bent_deed" 4 S_law_bent_deed := cal_of FD_law_bent_deed g_law_bent_deed (FD_law_bent_deed.bindsN fun _ _ _ _ _ _ us hl => match us, hl with | [_, _], _ => rfl) sc_law_bent_deed (fun ds G P X h => by obtain ⟨_, _, _, _, rfl, _⟩ := h; rfl) (fun cdv A outer s H E room => w_law_bent_deed B C C_law_bent_vector (by decide) C_law_pick (by decide) C_law_next (by decide) _ cdv A outer s H E room) l_law_bent_deed
  have C_law_bent : Cal P w K mg base "_law_bent" 5 S_law_bent := cal_of FD_law_bent g_law_bent (FD_law_bent.bindsN fun _ _ _ _ _ _ us hl => match us, hl with | [_, _], _ => rfl) sc_law_bent (fun ds G P X h => by obtain ⟨_, _, _, _, rfl, _⟩ := h; rfl) (fun cdv A outer s H E room => w_law_bent B C C_law_bent_vector (by decide) C_law_with (by decide) C_law_bent_deed (by decide) C_law_next (by decide) C_law_pick (by decide) C_law_without (by decide) _ cdv A outer s H E room) l_law_bent
  have CN := c_named (P := P) (w := w) (base := base) B Q FD_law_named g_law_named (FD_law_named.bindsN fun _ _ _ _ _ _ us hl => match us, hl with | [_], _ => rfl) 0
  have CA := c_attributes (P := P) (w := w) (base := base) B Q FD_law_attributes g_law_attributes (FD_law_attributes.bindsN fun _ _ _ _ _ _ us hl => match us, hl with | [_, _], _ => rfl) 0
  have C_law_ask : Cal P w K mg base "_law_ask" 9 S_law_ask := cal_of FD_law_ask g_law_ask (FD_law_ask.bindsN fun _ _ _ _ _ _ us hl => match us, hl with | [_, _], _ => rfl) sc_law_ask (fun ds G P X h => by obtain ⟨_, _, rfl, _⟩ := h; rfl) (fun cdv A outer s H E room => w_law_ask C_check_wide (by decide) C_check_net (by decide) CN (by decide) CA (by decide) g_WorkError _ cdv A outer s H E room) (l_law_ask (of_decide_eq_true (ex_at more 5 rfl)))
  exact ok_law B FD_law (ok_stream B FD_law_stream) g_law_stream FD_law_stream.kp (FD_law_stream.bindsN fun _ _ _ _ _ _ us hl => match us, hl with | [_], _ => rfl) C_law_ask (by decide) C_law_same (by decide) C_law_wrong (by decide) C_law_copy (by decide) C_law_bent (by decide) C_law_pick (by decide) C_law_base (by decide)

end K01

set_option Elab.async false
set_option linter.all false
set_option maxRecDepth 100000
set_option maxHeartbeats 0
namespace K01
open PySem PySem.Spec PyProof.Rows L2 HD
def lo0 : List Str := ["WorkError", "BadNet", "BadRun", "BadFilling", "BadClimb", "BadWalk", "BadSeen", "BadEdit", "BadValue", "BadText", "NotFree", "NotJoined", "NotRing", "NotSafe", "Still", "TooMany", "NothingToUndo", "NothingToRedo", "is_int", "is_from"]
def lo1 : List Str := ["is_between", "is_tuple_of", "is_wide_filling", "KEYS", "MOST_TRAYS", "MOST_DEEDS", "MOST_SIGN", "MOST_NUMBER", "MOST_START", "MOST_WIDE_TRAYS", "is_vector", "is_deed", "are_deeds", "has_keys", "wrong_key", "wrong_wide_key", "check_net", "check_wide", "_law_stream", "_law_next"]
def lo2 : List Str := ["_law_pick", "_law_from", "_law_number", "_law_whole", "_law_same", "_law_copy", "_law_named", "_law_attributes", "_law_is_vector", "_law_wrong", "_law_drawn", "_law_base", "_law_with", "_law_without", "_law_bent_vector", "_law_bent_deed", "_law_bent", "_law_ask"]
def loose : List Str := lo0 ++ lo1 ++ lo2
abbrev rw0 : PySem.W.OpenLaw := PySem.Challenge.rw_coverorbound_k01_whole_nets_and_wrong_ne
abbrev R : PySem.W.OpenRow := PySem.W.OpenLaw.row rw0
abbrev hk : PySem.W.Hook := He.hookX 6 fa fn [] [] ex
def ob (s : PySem.W.SharedT) : He.AlX := He.obsX 6 fa fn [] [] ex (HandSHeadRun.getT s)
theorem ob_eq (s : PySem.W.SharedT) : ob s = hk.obs s.abs := He.obsX_eq (HandSHeadRun.getT_eq s)
theorem run (w : World) : HandSHeadRun.RunEq R (PySem.W.view R.prog [63]) hk ob 9000 loose w := by
  intro os
  kernel_rfl
end K01

set_option Elab.async false
set_option linter.all false
set_option maxRecDepth 100000
set_option maxHeartbeats 0
namespace K01
open PySem PySem.Spec PyProof.Rows L2 HD
/-- what flies out, at some world -/
def anyCX (P : Program) : CXT := fun outer H s E u s' => ∃ w, L2N.CX P w outer H s E u s'
theorem wider {P : Program} {w : World} {K : PySem.W.Frag} {mg : Str → Option Value} {base : Heap} {k : Nat} {f : Addr} {fd : FuncData} {ps : List Str} {sp : Sp} (F : FnOk P w K mg base (L2N.CX P w) k f fd ps sp) : FnOk P w K mg base (anyCX P) k f fd ps sp := by
  refine ⟨F.len, fun A outer s H args us vs Q E h1 h2 h3 h4 h5 => codeAny_mono (F.run A outer s H args us vs Q E h1 h2 h3 h4 h5) fun r s' h => ?_⟩
  cases r with
  | error e => exact ⟨w, h⟩
  | ok fl => cases fl <;> exact h
end K01
open PySem PySem.W PySem.Calls PyProof.Rows
theorem PySem.Challenge.cw_coverorbound_k01_whole_nets_and_wrong_ne_holds : PySem.Challenge.rw_coverorbound_k01_whole_nets_and_wrong_ne.Holds := by
  w_on; o_law
  refine HandSHeadRun.head_any (r := OpenLaw.row K01.rw0) (q := view (OpenLaw.row K01.rw0).prog [63]) (H := K01.hk) (ob := K01.ob) (M := 9000) (loose := K01.loose) (d := HandSHeadRun.topDef (OpenLaw.row K01.rw0).prog 63) (kwd := []) K01.ob_eq
    (by kernel_rfl) (fun s => by kernel_rfl) K01.run (by kernel_rfl) (by kernel_rfl) (by kernel_rfl) (by rfl) (by first | assumption | decide +kernel) (by decide +kernel) ⟨rfl, rfl, rfl, rfl, rfl, by decide +kernel⟩ ?hw ?hc
  case hw => w_witness2
  case hc =>
    refine L2.walk_ofE (l := K01.rw0) (n := 63) (k := 12) (x := "script") (CX := K01.anyCX K01.rw0.prog) rfl (by decide) (by kernel_rfl) ⟨rfl, by decide, by decide⟩ ?F ?G
    case F =>
      intro w mg fa h Y G hmg0
      obtain ⟨K, KX, c⟩ := Y
      have hmg : mg ("law" : PySem.Str) = some (.ref fa) := by
        have e : (HandSHeadRun.topDef (OpenLaw.row K01.rw0).prog 63).name = ("law" : PySem.Str) := by kernel_rfl
        rw [← e]
        exact hmg0
      obtain ⟨fd, hb, hF⟩ := K01.facts (P := K01.rw0.prog) (w := w) KX G hmg c
      exact ⟨K, fd, K01.spLaw K, KX, hb, fun H a ns hl _ hS => ⟨a, ns, rfl, hS, fun _ => rfl⟩, fun base h1 h2 => K01.wider (hF base h1 h2)⟩
    case G =>
      intro H s e s' z
      obtain ⟨_, _, _, _, _, _, _, _, _, _, _, _, _, z⟩ := z
      exact z

