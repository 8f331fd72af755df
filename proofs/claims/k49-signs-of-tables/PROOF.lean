import PyProof.Rows.All
import Wide.All
import OpenK.AllK
import Wide.FinOn
import HandS.ForMost
import HandS.OwnEq
import HandS.Walk
import HandS.Zip
import HandS.TupAny
import HandS.TupMul
import HandS.Conv
import HandS.Defaults
import KE.KOpsOwn
import HandS.IsInst
import PyProof.InstNe
import HandS.Flt
import HandS.Style
import HandS.HeadHook2
import KE.GoesNew
import KE.GoesMore
import KE.GoesEnum
import PySem.Challenge.RW_fewestpowers_k49_whole_signs_of_tables_b
import HandS.Head0
import HandS.Head1
import HandS.Head2
import HandS.HeadEnd
import HandS.HeadHook1
import KE.KStateDown
section
set_option Elab.async false
set_option linter.all false
set_option maxRecDepth 100000
set_option maxHeartbeats 2000000
/-! Fw1: data, what stands for data in a heap, worlds, steps, slots. -/
namespace Fw
open PySem PySem.Spec PyProof.Rows L2
abbrev Frag := PySem.W.Frag
abbrev St := L2.St
inductive Dat where
  | non | bl (b : Bool) | int (i : Int) | str (x : Str) | adr (a : Addr)
  | tup (l : List Dat) | lst (l : List Dat) | rd (l : List Dat) | obj (C : Addr) (fs : List (Str × Dat))
def LM : Nat := 100000
theorem LM_le {n : Nat} (h : n ≤ LM) : n ≤ sizeLine := Nat.le_trans h (by decide)
theorem LM_lt {n : Nat} (h : n ≤ LM) : n < sizeLine := Nat.lt_of_le_of_lt h (by decide)

mutual
inductive Rep (K : Frag) (H : Hp) : V → Dat → Prop
  | non : Rep K H .non .non
  | bl (b : Bool) : Rep K H (.bl b) (.bl b)
  | int (i : Int) : Rep K H (.int i) (.int i)
  | str (x : Str) : Rep K H (.str x) (.str x)
  | adr (a : Addr) : Rep K H (.ref a) (.adr a)
  | tup {a : Addr} {vs : List V} {ds : List Dat} : SqT K H a vs → Reps K H vs ds → ds.length ≤ LM → Rep K H (.ref a) (.tup ds)
  | lst {a : Addr} {vs : List V} {ds : List Dat} : H a = some (.lst vs) → Reps K H vs ds → ds.length ≤ LM → Rep K H (.ref a) (.lst ds)
  | rd {a : Addr} {vs : List V} {ds : List Dat} : SqL K H a vs → Reps K H vs ds → ds.length ≤ LM → Rep K H (.ref a) (.rd ds)
  | obj {a C dx : Addr} {fv : List (Str × V)} {fs : List (Str × Dat)} : H a = some (.ins C dx fv) → RepF K H fv fs → Rep K H (.ref a) (.obj C fs)
inductive Reps (K : Frag) (H : Hp) : List V → List Dat → Prop
  | nil : Reps K H [] []
  | cons {v : V} {d : Dat} {vs : List V} {ds : List Dat} : Rep K H v d → Reps K H vs ds → Reps K H (v :: vs) (d :: ds)
inductive RepF (K : Frag) (H : Hp) : List (Str × V) → List (Str × Dat) → Prop
  | nil : RepF K H [] []
  | cons {f : Str} {v : V} {d : Dat} {vs : List (Str × V)} {ds : List (Str × Dat)} : Rep K H v d → RepF K H vs ds → RepF K H ((f, v) :: vs) ((f, d) :: ds)
end

section
variable {K : Frag} {H H' : Hp}
mutual
theorem Rep.mono (e : Ext H H') : ∀ {v : V} {d : Dat}, Rep K H v d → Rep K H' v d
  | _, _, .non => .non
  | _, _, .bl b => .bl b
  | _, _, .int i => .int i
  | _, _, .str x => .str x
  | _, _, .adr a => .adr a
  | _, _, .tup h r l => .tup (h.ext e) (r.mono e) l
  | _, _, .lst h r l => .lst (e _ _ h) (r.mono e) l
  | _, _, .rd h r l => .rd (h.ext e) (r.mono e) l
  | _, _, .obj h r => .obj (e _ _ h) (r.mono e)
theorem Reps.mono (e : Ext H H') : ∀ {v : List V} {d : List Dat}, Reps K H v d → Reps K H' v d
  | _, _, .nil => .nil
  | _, _, .cons h r => .cons (h.mono e) (r.mono e)
theorem RepF.mono (e : Ext H H') : ∀ {v : List (Str × V)} {d : List (Str × Dat)}, RepF K H v d → RepF K H' v d
  | _, _, .nil => .nil
  | _, _, .cons h r => .cons (h.mono e) (r.mono e)
end
theorem Reps.length : ∀ {vs : List V} {ds : List Dat}, Reps K H vs ds → vs.length = ds.length
  | _, _, .nil => rfl
  | _, _, .cons _ r => congrArg (· + 1) r.length
theorem Reps.get : ∀ {vs : List V} {ds : List Dat} {i : Nat} {d : Dat}, Reps K H vs ds → ds[i]? = some d → ∃ v, vs[i]? = some v ∧ Rep K H v d
  | _, _, 0, _, .cons h _, e => ⟨_, rfl, by cases Option.some.inj e; exact h⟩
  | _, _, i + 1, d, .cons _ r, e => Reps.get (i := i) r (by simpa using e)
theorem Reps.getV : ∀ {vs : List V} {ds : List Dat} {i : Nat} {v : V}, Reps K H vs ds → vs[i]? = some v → ∃ d, ds[i]? = some d ∧ Rep K H v d
  | _, _, 0, _, .cons h _, e => ⟨_, rfl, by cases Option.some.inj e; exact h⟩
  | _, _, i + 1, d, .cons _ r, e => Reps.getV (i := i) r (by simpa using e)
theorem Reps.append : ∀ {vs us : List V} {ds es : List Dat}, Reps K H vs ds → Reps K H us es → Reps K H (vs ++ us) (ds ++ es)
  | _, _, _, _, .nil, s => s
  | _, _, _, _, .cons h r, s => .cons h (r.append s)
theorem Reps.set {v : V} {d : Dat} (h : Rep K H v d) : ∀ {vs : List V} {ds : List Dat} (i : Nat), Reps K H vs ds → Reps K H (vs.set i v) (ds.set i d)
  | _, _, _, .nil => .nil
  | _, _, 0, .cons _ r => .cons h r
  | _, _, i + 1, .cons g r => .cons g (Reps.set h i r)
theorem Reps.take : ∀ {vs : List V} {ds : List Dat} (n : Nat), Reps K H vs ds → Reps K H (vs.take n) (ds.take n)
  | _, _, 0, _ => .nil
  | _, _, _ + 1, .nil => .nil
  | _, _, n + 1, .cons h r => .cons h (r.take n)
theorem Reps.drop : ∀ {vs : List V} {ds : List Dat} (n : Nat), Reps K H vs ds → Reps K H (vs.drop n) (ds.drop n)
  | _, _, 0, r => r
  | _, _, _ + 1, .nil => .nil
  | _, _, n + 1, .cons _ r => r.drop n
theorem Reps.rep {v : V} {d : Dat} (h : Rep K H v d) : ∀ n : Nat, Reps K H (List.replicate n v) (List.replicate n d)
  | 0 => .nil
  | n + 1 => .cons h (Reps.rep h n)
theorem RepF.lookup {f : Str} : ∀ {vs : List (Str × V)} {ds : List (Str × Dat)} {d : Dat}, RepF K H vs ds → ds.lookup f = some d → ∃ v, vs.lookup f = some v ∧ Rep K H v d
  | _, _, d, .cons (f := g) h r, e => by
    by_cases q : (f == g) = true
    · simp only [List.lookup_cons, q] at e ⊢
      cases Option.some.inj e
      exact ⟨_, rfl, h⟩
    · have q' : (f == g) = false := by simpa using q
      simp only [List.lookup_cons, q'] at e ⊢
      exact r.lookup e
theorem RepF.none {f : Str} : ∀ {vs : List (Str × V)} {ds : List (Str × Dat)}, RepF K H vs ds → ds.lookup f = none → vs.lookup f = none
  | _, _, .nil, _ => rfl
  | _, _, .cons (f := g) h r, e => by
    by_cases q : (f == g) = true
    · simp only [List.lookup_cons, q] at e
      cases e
    · have q' : (f == g) = false := by simpa using q
      simp only [List.lookup_cons, q'] at e ⊢
      exact r.none e
theorem RepF.length : ∀ {vs : List (Str × V)} {ds : List (Str × Dat)}, RepF K H vs ds → vs.length = ds.length
  | _, _, .nil => rfl
  | _, _, .cons _ r => congrArg (· + 1) r.length
/-- a field put into the fields -/
def putD (f : Str) (d : Dat) : List (Str × Dat) → List (Str × Dat)
  | [] => [(f, d)]
  | (g, x) :: r => if g = f then (g, d) :: r else (g, x) :: putD f d r
theorem RepF.put {f : Str} {v : V} {d : Dat} (h : Rep K H v d) : ∀ {vs : List (Str × V)} {ds : List (Str × Dat)}, RepF K H vs ds → RepF K H (putF f v vs) (putD f d ds)
  | _, _, .nil => .cons h .nil
  | _, _, .cons (f := g) q r => by
    unfold putF putD
    by_cases e : g = f
    · rw [if_pos e, if_pos e]
      exact .cons h r
    · rw [if_neg e, if_neg e]
      exact .cons q (RepF.put h r)
end

/-! ### worlds -/
abbrev Wd := Option (Addr × Int × Int)
def hide (w : Wd) (H : Hp) : Hp := fun a => match w with
  | some (s, _) => if a = s then none else H a
  | none => H a
def WOk (w : Wd) (H : Hp) : Prop := ∀ s i j, w = some (s, i, j) → H s = some (.lst [.int i, .int j])
theorem hide_sub {w : Wd} {H : Hp} {a : Addr} {o : HO} (h : hide w H a = some o) : H a = some o := by
  unfold hide at h
  split at h
  · split at h
    · cases h
    · exact h
  · exact h
theorem hide_ext {w : Wd} {H : Hp} : Ext (hide w H) H := fun _ _ h => hide_sub h
theorem hide_ne {w : Wd} {H : Hp} {a : Addr} (h : ∀ s i j, w = some (s, i, j) → a ≠ s) : hide w H a = H a := by
  unfold hide
  split
  · rename_i s p
    obtain ⟨i, j⟩ := p
    exact if_neg (h s i j rfl)
  · rfl
theorem hide_none {H : Hp} : hide none H = H := rfl
theorem WOk.ne {w : Wd} {H : Hp} {a : Addr} (h : WOk w H) (n : H a = none) : ∀ s i j, w = some (s, i, j) → a ≠ s := fun s i j e z => by
  subst z
  rw [h _ _ _ e] at n
  cases n
theorem hide_free {w : Wd} {H : Hp} {a : Addr} (n : H a = none) : hide w H a = none := by
  cases e : hide w H a with
  | none => rfl
  | some o => rw [hide_sub e] at n; cases n
theorem hide_upd {w : Wd} {H : Hp} {a : Addr} {o : HO} (h : ∀ s i j, w = some (s, i, j) → a ≠ s) : hide w (upd H a o) = upd (hide w H) a o := by
  funext b
  unfold hide upd
  cases w with
  | none => rfl
  | some p =>
    obtain ⟨s, i, j⟩ := p
    have z := h s i j rfl
    by_cases e : b = a
    · subst e
      simp [z]
    · simp [e]
/-- from heap H (its frozen part G, the world w) to H', G', w': nothing is lost but the world's own list -/
structure Stp (w : Wd) (G H : Hp) (w' : Wd) (G' H' : Hp) : Prop where
  ad : w'.map (·.1) = w.map (·.1)
  all : Ext (hide w H) (hide w' H')
  wok : WOk w' H'
  gx : Ext G G'
  new : ∀ a, hide w H a ≠ none → G' a = G a
  gle : Ext G' (hide w' H')
theorem Stp.refl {w : Wd} {G H : Hp} (h : WOk w H) (g : Ext G (hide w H)) : Stp w G H w G H := ⟨rfl, Ext.rfl', h, Ext.rfl', fun _ _ => rfl, g⟩
theorem Stp.trans {w w1 w2 : Wd} {G G1 G2 H H1 H2 : Hp} (a : Stp w G H w1 G1 H1) (b : Stp w1 G1 H1 w2 G2 H2) : Stp w G H w2 G2 H2 :=
  ⟨b.ad.trans a.ad, a.all.trans b.all, b.wok, a.gx.trans b.gx, fun x hx => by
    have h1 : hide w1 H1 x ≠ none := by
      cases e : hide w H x with
      | none => exact absurd e hx
      | some o => rw [a.all x o e]; exact fun z => by cases z
    rw [b.new x h1, a.new x hx], b.gle⟩
section
variable {w : Wd} {G H : Hp} {p : Addr} {o : HO}
theorem WOk.upd (h : WOk w H) (n : H p = none) : WOk w (upd H p o) := fun s i j e => by
  rw [upd_ne (Ne.symm (h.ne n s i j e))]
  exact h s i j e
theorem Ext.free {G H : Hp} {p : Addr} (g : Ext G H) (n : H p = none) : G p = none := by
  cases e : G p with
  | none => rfl
  | some o => rw [g p o e] at n; cases n
/-- a new object, frozen at once -/
theorem Stp.new' (h : WOk w H) (g : Ext G (hide w H)) (n : H p = none) : Stp w G H w (upd G p o) (upd H p o) := by
  have ne := h.ne n
  have hp : hide w H p = none := hide_free n
  refine ⟨rfl, ?_, h.upd n, Ext.upd (Ext.free g hp), fun a ha => ?_, ?_⟩
  · rw [hide_upd ne]
    exact Ext.upd hp
  · rw [upd_ne]
    rintro rfl
    exact ha hp
  · rw [hide_upd ne]
    intro a u e
    by_cases q : a = p
    · subst q
      rw [upd_same] at e ⊢
      exact e
    · rw [upd_ne q] at e ⊢
      exact g a u e
/-- a new object, not frozen -/
theorem Stp.newO (h : WOk w H) (g : Ext G (hide w H)) (n : H p = none) : Stp w G H w G (upd H p o) := by
  have ne := h.ne n
  have hp : hide w H p = none := hide_free n
  refine ⟨rfl, ?_, h.upd n, Ext.rfl', fun a ha => rfl, ?_⟩
  · rw [hide_upd ne]
    exact Ext.upd hp
  · rw [hide_upd ne]
    exact g.trans (Ext.upd hp)
/-- what was made on the way is frozen -/
theorem Stp.freeze {w' : Wd} {G' H' : Hp} (s : Stp w G H w' G' H') (hp : hide w H p = none) (hg : G' p = none) (h' : hide w' H' p = some o) : Stp w G H w' (L2.upd G' p o) H' := by
  refine ⟨s.ad, s.all, s.wok, s.gx.trans (Ext.upd hg), fun a ha => ?_, fun a u e => ?_⟩
  · rw [upd_ne (by rintro rfl; exact ha hp)]
    exact s.new a ha
  · by_cases q : a = p
    · subst q
      rw [upd_same] at e
      cases e
      exact h'
    · rw [upd_ne q] at e
      exact s.gle a u e
/-- the world's own list is written -/
theorem Stp.world {s : Addr} {i j i' j' : Int} {G H : Hp} (h : WOk (some (s, i, j)) H) (g : Ext G (hide (some (s, i, j)) H)) : Stp (some (s, i, j)) G H (some (s, i', j')) G (upd H s (.lst [.int i', .int j'])) := by
  have e0 : hide (some (s, i', j')) (upd H s (.lst [.int i', .int j'])) = hide (some (s, i, j)) H := by
    funext a
    show (if a = s then none else _) = (if a = s then none else H a)
    by_cases q : a = s
    · rw [if_pos q, if_pos q]
    · rw [if_neg q, if_neg q, upd_ne q]
  refine ⟨rfl, by rw [e0]; exact Ext.rfl', fun s' i2 j2 e => ?_, Ext.rfl', fun _ _ => rfl, by rw [e0]; exact g⟩
  cases e
  exact upd_same
end

/-! ### slots -/
inductive Slot where
  | un | fz (d : Dat) | ow (l : List Dat) | ow2 (l : List (List Dat)) | oi (p C : Addr) (fs : List (Str × Dat))
abbrev Own := Addr → Option Nat
/-- the lists at ps, each its own, hold ls -/
def Rows (K : Frag) (G H : Hp) (O : Own) (i : Nat) (p : Addr) (ps : List Addr) (ls : List (List Dat)) : Prop :=
  ps.length = ls.length ∧ ps.Nodup ∧ ∀ (j : Nat) (q : Addr), ps[j]? = some q → O q = some i ∧ q ≠ p ∧ ∃ l vs, ls[j]? = some l ∧ H q = some (.lst vs) ∧ Reps K G vs l ∧ l.length ≤ LM
def SlotOk (K : Frag) (G H : Hp) (O : Own) (i : Nat) (x : Option V) : Slot → Prop
  | .un => True
  | .fz d => ∃ v, x = some v ∧ Rep K G v d
  | .ow l => ∃ p vs, x = some (.ref p) ∧ O p = some i ∧ H p = some (.lst vs) ∧ Reps K G vs l ∧ l.length ≤ LM
  | .ow2 ls => ∃ p ps, x = some (.ref p) ∧ O p = some i ∧ H p = some (.lst (ps.map V.ref)) ∧ ls.length ≤ LM ∧ Rows K G H O i p ps ls
  | .oi p C fs => ∃ dx fv, x = some (.ref p) ∧ O p = some i ∧ H p = some (.ins C dx fv) ∧ RepF K G fv fs
structure Bs where
  B0 : Hp
  B : Hp
  sa : Option Addr
structure Wor (b : Bs) (w : Wd) (G H : Hp) : Prop where
  ad : w.map (·.1) = b.sa
  gx : Ext b.B G
  new : ∀ a, b.B0 a ≠ none → G a = b.B a
  gle : Ext G (hide w H)
  all : Ext b.B0 (hide w H)
  wok : WOk w H
structure Sat (K : Frag) (b : Bs) (Γ : List Slot) (w : Wd) (G : Hp) (O : Own) (σ : St) (H : Hp) : Prop extends Wor b w G H where
  len : σ.length = Γ.length
  own : ∀ a i, O a = some i → G a = none ∧ b.B0 a = none ∧ some a ≠ b.sa ∧ H a ≠ none
  slots : ∀ i s, Γ[i]? = some s → ∃ x, σ[i]? = some x ∧ SlotOk K G H O i x s
theorem Wor.step {b : Bs} {w w' : Wd} {G H G' H' : Hp} (h : Wor b w G H) (s : Stp w G H w' G' H') : Wor b w' G' H' where
  ad := s.ad.trans h.ad
  gx := h.gx.trans s.gx
  new := fun a ha => by
    have h1 : hide w H a ≠ none := by
      cases e : b.B0 a with
      | none => exact absurd e ha
      | some o => rw [h.all a o e]; exact fun z => by cases z
    rw [s.new a h1, h.new a ha]
  gle := s.gle
  all := h.all.trans s.all
  wok := s.wok
section
variable {K : Frag} {b : Bs} {Γ : List Slot} {w w' : Wd} {G H G' H' : Hp} {O : Own} {σ : St}
theorem Sat.hidden (S : Sat K b Γ w G O σ H) {a : Addr} {i : Nat} (h : O a = some i) : ∀ s x y, w = some (s, x, y) → a ≠ s := fun s x y e z => by
  have q := (S.own a i h).2.2.1
  have q2 := S.ad
  rw [e] at q2
  rw [← q2, z] at q
  exact q rfl
theorem Sat.hid (S : Sat K b Γ w G O σ H) {a : Addr} {i : Nat} (h : O a = some i) : hide w H a = H a := hide_ne (S.hidden h)
theorem SlotOk.step {i : Nat} {x : Option V} {s : Slot} (h : SlotOk K G H O i x s) (gx : Ext G G') (kp : ∀ a o, O a = some i → H a = some o → H' a = some o) : SlotOk K G' H' O i x s := by
  cases s with
  | un => trivial
  | fz d => obtain ⟨v, e, r⟩ := h; exact ⟨v, e, r.mono gx⟩
  | ow l => obtain ⟨p, vs, e, o, hp, r, z⟩ := h; exact ⟨p, vs, e, o, kp _ _ o hp, r.mono gx, z⟩
  | ow2 ls =>
    obtain ⟨p, ps, e, o, hp, z, h1, h2, h3⟩ := h
    refine ⟨p, ps, e, o, kp _ _ o hp, z, h1, h2, fun j q hq => ?_⟩
    obtain ⟨oq, nq, l, vs, e1, e2, e3, e4⟩ := h3 j q hq
    exact ⟨oq, nq, l, vs, e1, kp _ _ oq e2, e3.mono gx, e4⟩
  | oi p C fs => obtain ⟨dx, fv, e, o, hp, r⟩ := h; exact ⟨dx, fv, e, o, kp _ _ o hp, r.mono gx⟩
theorem Sat.step (S : Sat K b Γ w G O σ H) (s : Stp w G H w' G' H') : Sat K b Γ w' G' O σ H' := by
  have kp : ∀ a i, O a = some i → ∀ o, H a = some o → hide w' H' a = some o := fun a i h o e => s.all a o (by rw [S.hid h]; exact e)
  refine { toWor := S.toWor.step s, len := S.len, own := fun a i h => ?_, slots := fun i sl e => ?_ }
  · obtain ⟨h1, h2, h3, h4⟩ := S.own a i h
    obtain ⟨o, ho⟩ := Option.ne_none_iff_exists'.mp h4
    have q := kp a i h o ho
    refine ⟨?_, h2, h3, by rw [hide_sub q]; exact fun z => by cases z⟩
    rw [s.new a (by rw [S.hid h]; exact h4)]
    exact h1
  · obtain ⟨x, hx, ok⟩ := S.slots i sl e
    exact ⟨x, hx, ok.step s.gx fun a o h q => hide_sub (kp a i h o q)⟩
theorem Sat.refl (S : Sat K b Γ w G O σ H) : Stp w G H w G H := .refl S.wok S.gle
/-- a slot gets frozen data -/
theorem Sat.put (S : Sat K b Γ w G O σ H) {v : V} {d : Dat} (r : Rep K G v d) (i : Nat) : Sat K b (Γ.set i (.fz d)) w G O (σ.set i (some v)) H := by
  refine { toWor := S.toWor, len := by simpa using S.len, own := S.own, slots := fun j s e => ?_ }
  by_cases q : i = j
  · subst q
    have hi : i < Γ.length := by
      rcases Nat.lt_or_ge i Γ.length with h | h
      · exact h
      · rw [List.getElem?_eq_none (by simpa using h)] at e; cases e
    rw [List.getElem?_set_self hi] at e
    cases Option.some.inj e
    exact ⟨some v, List.getElem?_set_self (by rw [S.len]; exact hi), v, rfl, r⟩
  · rw [List.getElem?_set_ne q] at e
    rw [List.getElem?_set_ne q]
    exact S.slots j s e
/-- a slot is forgotten -/
theorem Sat.drop (S : Sat K b Γ w G O σ H) (x : Option V) (i : Nat) : Sat K b (Γ.set i .un) w G O (σ.set i x) H := by
  refine { toWor := S.toWor, len := by simpa using S.len, own := S.own, slots := fun j s e => ?_ }
  by_cases q : i = j
  · subst q
    have hi : i < Γ.length := by
      rcases Nat.lt_or_ge i Γ.length with h | h
      · exact h
      · rw [List.getElem?_eq_none (by simpa using h)] at e; cases e
    rw [List.getElem?_set_self hi] at e
    cases Option.some.inj e
    exact ⟨x, List.getElem?_set_self (by rw [S.len]; exact hi), trivial⟩
  · rw [List.getElem?_set_ne q] at e
    rw [List.getElem?_set_ne q]
    exact S.slots j s e
end
end Fw
end

section
set_option Elab.async false
set_option linter.all false
set_option maxRecDepth 100000
set_option maxHeartbeats 2000000
/-! Fw2: the judgements over data, and the rules of expressions. -/
namespace Fw
open PySem PySem.Spec PyProof.Rows L2
/-! ### some reading -/
def RE (X : Cx) (e : Expr) : TE := fun σ H Q => ∃ t, PE X e t ∧ t σ H Q
def RA (X : Cx) (es : List Expr) : TA := fun σ H Q => ∃ t, PA X es t ∧ t σ H Q
def RT (X : Cx) (e : Expr) : TT := fun σ H Q => ∃ t, PT X e t ∧ t σ H Q
def RW (X : Cx) (e : Expr) : TT := fun σ H Q => ∃ t, PW X e t ∧ t σ H Q
def RS (X : Cx) (s : Stmt) : TS := fun D σ H => ∃ t, PS X s t ∧ t D σ H
def RSs (X : Cx) (ss : List Stmt) : TS := fun D σ H => ∃ t, PSs X ss t ∧ t D σ H
def RG (X : Cx) (tg : Expr) : TG := fun v σ H Q => ∃ t, PG X tg t ∧ t v σ H Q
def RGs (X : Cx) (ts : List Expr) : TGs := fun vs σ H Q => ∃ t, PGs X ts t ∧ t vs σ H Q
def RI (X : Cx) (tg it : Expr) : TI := fun σ H R => ∃ t, PI X tg it t ∧ t σ H R
section
variable {X : Cx}
theorem pe_re {e : Expr} : PE X e (RE X e) := ⟨fun pins s σ H Q I ⟨_, h, q⟩ => h.run pins s σ H Q I q⟩
theorem pa_ra {es : List Expr} : PA X es (RA X es) := ⟨fun pos pins s σ H Q I ⟨_, h, q⟩ => h.run pos pins s σ H Q I q⟩
theorem pt_rt {e : Expr} : PT X e (RT X e) := ⟨fun pins s σ H Q I ⟨_, h, q⟩ => h.run pins s σ H Q I q⟩
theorem pw_rw {e : Expr} : PW X e (RW X e) := ⟨fun wh pins s σ H Q I ⟨_, h, q⟩ => h.run wh pins s σ H Q I q⟩
theorem ps_rs {e : Stmt} : PS X e (RS X e) := ⟨fun pins s σ H D I ⟨_, h, q⟩ => h.run pins s σ H D I q⟩
theorem pss_rss {e : List Stmt} : PSs X e (RSs X e) := ⟨fun pins s σ H D I ⟨_, h, q⟩ => h.run pins s σ H D I q⟩
theorem pg_rg {e : Expr} : PG X e (RG X e) := ⟨fun pins s σ H v u Q I r ⟨_, h, q⟩ => h.run pins s σ H v u Q I r q⟩
theorem pgs_rgs {e : List Expr} : PGs X e (RGs X e) := ⟨fun pins s σ H v u Q I r ⟨_, h, q⟩ => h.run pins s σ H v u Q I r q⟩
theorem pi_ri {tg e : Expr} : PI X tg e (RI X tg e) := ⟨fun pins s σ H R I ⟨_, h, q⟩ => h.run pins s σ H R I q⟩
end
/-- what stays the same throughout a law -/
structure Gx where
  P : Program
  w : World
  K : Frag
  mg : Str → Option Value
  base : Heap
abbrev gOf (X : Cx) : Gx := ⟨X.prog, X.w, X.K, X.mg, X.base⟩
/-- the frame: names by slot, scope, room for j calls -/
structure Cf (X : Cx) (g : Gx) (N : List Str) (sc : Scope) (j : Nat) : Prop where
  hg : g = gOf X
  hN : X.N = N
  hsc : X.env.scope = sc
  nd : N.Nodup
  calm : X.calm = true
  room : Room j X.A
  own : PassesOwn (model X.prog X.w) X.A X.env X.xe
abbrev GlS (sc : Scope) (x : Str) : Prop := sc.names.lookup x = some .globalImplicit
theorem Cf.to {X : Cx} {g : Gx} {N : List Str} {sc : Scope} {j : Nat} (fr : Cf X g N sc j) (φ : Gx → Prop) (h : φ g) : φ (gOf X) := by
  rw [← fr.hg]
  exact h
theorem Cf.gl {X : Cx} {g : Gx} {N : List Str} {sc : Scope} {j : Nat} (fr : Cf X g N sc j) {x : Str} (h : GlS sc x) : Gl X x := by
  show X.env.scope.names.lookup x = _
  rw [fr.hsc]
  exact h

/-! ### judgements -/
section
variable (X : Cx) (Γ : List Slot) (w : Wd)
/-- the expression gives the data d; the world is w' behind it -/
def CE (e : Expr) (d : Dat) (w' : Wd) : Prop := ∀ (b : Bs) (G : Hp) (O : Own) (σ : St) (H : Hp), Sat X.K b Γ w G O σ H → ∀ Q : VK, (∀ v G' H', Stp w G H w' G' H' → Rep X.K G' v d → Q v H') → RE X e σ H Q
/-- .. a new list, not yet frozen -/
def CF (e : Expr) (l : List Dat) (w' : Wd) : Prop := ∀ (b : Bs) (G : Hp) (O : Own) (σ : St) (H : Hp), Sat X.K b Γ w G O σ H → ∀ Q : VK,
  (∀ p vs G' H', Stp w G H w' G' H' → H p = none → G' p = none → H' p = some (.lst vs) → Reps X.K G' vs l → l.length ≤ LM → Q (.ref p) H') → RE X e σ H Q
def CA (es : List Expr) (ds : List Dat) (w' : Wd) : Prop := ∀ (b : Bs) (G : Hp) (O : Own) (σ : St) (H : Hp), Sat X.K b Γ w G O σ H → ∀ Q : List V → Hp → Prop, (∀ vs G' H', Stp w G H w' G' H' → Reps X.K G' vs ds → Q vs H') → RA X es σ H Q
def CT (e : Expr) (c : Bool) (w' : Wd) : Prop := ∀ (b : Bs) (G : Hp) (O : Own) (σ : St) (H : Hp), Sat X.K b Γ w G O σ H → ∀ Q : Bool → Hp → Prop, (∀ G' H', Stp w G H w' G' H' → Q c H') → RT X e σ H Q
def CW (e : Expr) (c : Bool) (w' : Wd) : Prop := ∀ (b : Bs) (G : Hp) (O : Own) (σ : St) (H : Hp), Sat X.K b Γ w G O σ H → ∀ Q : Bool → Hp → Prop, (∀ G' H', Stp w G H w' G' H' → Q c H') → RW X e σ H Q
end
/-- a two-place operation, by data -/
def D2 (K : Frag) (r : R2) (d1 d2 d : Dat) : Prop := ∀ (w : Wd) (G H : Hp) (x y : V) (Q : VK), WOk w H → Ext G (hide w H) → Rep K G x d1 → Rep K G y d2 → (∀ v G' H', Stp w G H w G' H' → Rep K G' v d → Q v H') → r x y H Q
/-- the operator op of the frame X gives d -/
def B2 (X : Cx) (f : Value → Value → Sem Value) (d1 d2 d : Dat) : Prop := ∃ r, OpR X f r ∧ D2 X.K r d1 d2 d
def U1 (X : Cx) (f : Value → Sem Value) (d1 d : Dat) : Prop := ∃ r, UnR X f r ∧ ∀ (w : Wd) (G H : Hp) (x : V) (Q : VK), WOk w H → Ext G (hide w H) → Rep X.K G x d1 → (∀ v G' H', Stp w G H w G' H' → Rep X.K G' v d → Q v H') → r x H Q

section
variable {X : Cx} {g : Gx} {N : List Str} {sc : Scope} {j : Nat} {Γ : List Slot} {w w1 w2 w' : Wd} {pos p : Pos} {a e o : Expr} {es : List Expr} {d d1 d2 : Dat} {ds : List Dat} {l : List Dat}
theorem CF.ce (h : CF X Γ w e l w') : CE X Γ w e (.lst l) w' := fun b G O σ H S Q q => h b G O σ H S Q fun p vs G' H' s hp hg h' r z => by
  have hs : hide w' H' p = some (.lst vs) := by
    rw [hide_ne fun s' x y e2 => ?_]
    · exact h'
    · have h0 : ∃ x0 y0, w = some (s', x0, y0) := by
        have := s.ad
        rw [e2] at this
        cases w with
        | none => cases this
        | some q0 => obtain ⟨s0, x0, y0⟩ := q0; cases this; exact ⟨x0, y0, rfl⟩
      obtain ⟨x0, y0, h0⟩ := h0
      exact S.wok.ne hp s' x0 y0 h0
  have s2 := s.freeze (hide_free hp) hg hs
  exact q _ _ _ s2 (.lst upd_same (r.mono (Ext.upd hg)) z)
theorem ce_var (fr : Cf X g N sc j) {x : Str} (i : Nat) (hi : N[i]? = some x) (hv : Vis sc x) (hd : Γ[i]? = some (.fz d)) (h1 : (x == ("__debug__" : Str)) = false := by decide) (h2 : (x == ("__classdict__" : Str)) = false := by decide) : CE X Γ w (.Name x pos) d w := fun b G O σ H S Q q => by
  obtain ⟨x', hx, v, e, r⟩ := S.slots i _ hd
  subst e
  refine ⟨_, pe_var (i := i) (by rw [fr.hN]; exact hi) (by rw [fr.hsc]; exact hv) h1 h2, v, hx, q _ _ _ S.refl r⟩
theorem ce_int {i : Int} {k : Nat} : CE X Γ w (.Constant (.int i) k pos) (.int i) w := fun b G O σ H S Q q => ⟨_, pe_int, q _ _ _ S.refl (.int i)⟩
theorem ce_bl {i : Bool} {k : Nat} : CE X Γ w (.Constant (.bool i) k pos) (.bl i) w := fun b G O σ H S Q q => ⟨_, pe_bl, q _ _ _ S.refl (.bl i)⟩
theorem ce_str {i : Str} {k : Nat} : CE X Γ w (.Constant (.str i) k pos) (.str i) w := fun b G O σ H S Q q => ⟨_, pe_str, q _ _ _ S.refl (.str i)⟩
theorem ce_non {k : Nat} : CE X Γ w (.Constant .none k pos) .non w := fun b G O σ H S Q q => ⟨_, pe_non, q _ _ _ S.refl .non⟩
/-- two in a row -/
theorem CE.two {r : R2} (ha : CE X Γ w a d1 w1) (he : CE X Γ w1 e d2 w2) (hr : D2 X.K r d1 d2 d) (b : Bs) (G : Hp) (O : Own) (σ : St) (H : Hp) (S : Sat X.K b Γ w G O σ H) (Q : VK) (q : ∀ v G' H', Stp w G H w2 G' H' → Rep X.K G' v d → Q v H') : tOp r (RE X a) (RE X e) σ H Q := by
  show RE X a σ H fun x H1 => RE X e σ H1 fun y H2 => r x y H2 Q
  refine ha b G O σ H S _ fun x G1 H1 s1 r1 => ?_
  refine he b G1 O σ H1 (S.step s1) _ fun y G2 H2 s2 r2 => ?_
  exact hr w2 G2 H2 x y Q s2.wok s2.gle (r1.mono s2.gx) r2 fun v G' H' s3 r3 => q v G' H' ((s1.trans s2).trans s3) r3
theorem ce_bin {op : Operator} (ha : CE X Γ w a d1 w1) (he : CE X Γ w1 e d2 w2) (ho : B2 X (binaryOp op) d1 d2 d) : CE X Γ w (.BinOp a op e pos) d w2 := fun b G O σ H S Q q =>
  let ⟨_, h1, h2⟩ := ho
  ⟨_, pe_op h1 pe_re pe_re, ha.two he h2 b G O σ H S Q q⟩
theorem ce_cmp {op : CmpOp} (ha : CE X Γ w a d1 w1) (he : CE X Γ w1 e d2 w2) (ho : B2 X (compareOp op) d1 d2 d) (hm : behindInMarks op e = false) : CE X Γ w (.Compare a [op] [e] pos) d w2 := fun b G O σ H S Q q =>
  let ⟨_, h1, h2⟩ := ho
  ⟨_, pe_cmpR h1 pe_re pe_re hm, ha.two he h2 b G O σ H S Q q⟩
theorem ct_cmp {op : CmpOp} {c : Bool} (ha : CE X Γ w a d1 w1) (he : CE X Γ w1 e d2 w2) (ho : B2 X (compareOp op) d1 d2 (.bl c)) (hm : behindInMarks op e = false) : CT X Γ w (.Compare a [op] [e] pos) c w2 := fun b G O σ H S Q q =>
  let ⟨_, h1, h2⟩ := ho
  ⟨_, pt_cmpR h1 pe_re pe_re hm, ha.two he h2 b G O σ H S _ fun v G' H' s r => by
    cases r
    exact ⟨c, rfl, q G' H' s⟩⟩
theorem ce_un {op : UnaryOp} (ha : CE X Γ w a d1 w1) (ho : U1 X (unaryOp op) d1 d) : CE X Γ w (.UnaryOp op a pos) d w1 := fun b G O σ H S Q q =>
  let ⟨_, h1, h2⟩ := ho
  ⟨_, pe_un h1 pe_re, ha b G O σ H S _ fun x G1 H1 s1 r1 => h2 w1 G1 H1 x Q s1.wok s1.gle r1 fun v G' H' s2 r2 => q v G' H' (s1.trans s2) r2⟩
/-! ### tests -/
theorem ct_val {c : Bool} (ha : CE X Γ w a (.bl c) w1) (he : ∀ whole, isTrue a X.env whole = (do let v ← whole; standAt a.pos; holding [v] (truthy v)) := by intro _; rfl) : CT X Γ w a c w1 := fun b G O σ H S Q q =>
  ⟨_, pt_val pe_re he, ha b G O σ H S _ fun v G' H' s r => by
    cases r
    exact ⟨c, rfl, q G' H' s⟩⟩
theorem ct_not {c : Bool} (ha : CT X Γ w a c w1) : CT X Γ w (.UnaryOp .Not a pos) (!c) w1 := fun b G O σ H S Q q => ⟨_, pt_not pt_rt, ha b G O σ H S _ q⟩
theorem ce_not {c : Bool} (ha : CE X Γ w a (.bl c) w1) : CE X Γ w (.UnaryOp .Not a pos) (.bl (!c)) w1 := fun b G O σ H S Q q => ⟨_, pe_not pe_re, ha b G O σ H S _ fun v G' H' s r => by
    cases r
    exact ⟨c, rfl, q _ G' H' s (.bl _)⟩⟩
theorem CW.t {c : Bool} (ha : CW X Γ w a c w1) : CT X Γ w a c w1 := fun b G O σ H S Q q => let ⟨t, h, z⟩ := ha b G O σ H S Q q; ⟨t, h.pt, z⟩
theorem cw_and1 {c : Bool} (ha : CT X Γ w a c w1) : CW X Γ w (.BoolOp .And [a] pos) c w1 := fun b G O σ H S Q q => ⟨_, pw_and1 pt_rt, ha b G O σ H S Q q⟩
theorem cw_or1 {c : Bool} (ha : CT X Γ w a c w1) : CW X Γ w (.BoolOp .Or [a] pos) c w1 := fun b G O σ H S Q q => ⟨_, pw_or1 pt_rt, ha b G O σ H S Q q⟩
/-- a and b, both asked -/
theorem cw_andT {c : Bool} (ha : CT X Γ w a true w1) (he : CW X Γ w1 (.BoolOp .And (e :: es) pos) c w2) : CW X Γ w (.BoolOp .And (a :: e :: es) pos) c w2 := fun b G O σ H S Q q =>
  ⟨_, pw_and pt_rt pw_rw, ha b G O σ H S _ fun G1 H1 s1 => by
    rw [if_pos rfl]
    exact he b G1 O σ H1 (S.step s1) Q fun G2 H2 s2 => q G2 H2 (s1.trans s2)⟩
theorem cw_andF (ha : CT X Γ w a false w1) : CW X Γ w (.BoolOp .And (a :: e :: es) pos) false w1 := fun b G O σ H S Q q =>
  ⟨_, pw_and pt_rt pw_rw, ha b G O σ H S _ fun G1 H1 s1 => by
    rw [if_neg Bool.false_ne_true]
    exact q G1 H1 s1⟩
theorem cw_orF {c : Bool} (ha : CT X Γ w a false w1) (he : CW X Γ w1 (.BoolOp .Or (e :: es) pos) c w2) : CW X Γ w (.BoolOp .Or (a :: e :: es) pos) c w2 := fun b G O σ H S Q q =>
  ⟨_, pw_or pt_rt pw_rw, ha b G O σ H S _ fun G1 H1 s1 => by
    rw [if_neg Bool.false_ne_true]
    exact he b G1 O σ H1 (S.step s1) Q fun G2 H2 s2 => q G2 H2 (s1.trans s2)⟩
theorem cw_orT (ha : CT X Γ w a true w1) : CW X Γ w (.BoolOp .Or (a :: e :: es) pos) true w1 := fun b G O σ H S Q q =>
  ⟨_, pw_or pt_rt pw_rw, ha b G O σ H S _ fun G1 H1 s1 => by
    rw [if_pos rfl]
    exact q G1 H1 s1⟩
/-- .. where the world stays -/
theorem cw_and {c c' : Bool} (ha : CT X Γ w a c w) (he : c = true → CW X Γ w (.BoolOp .And (e :: es) pos) c' w) : CW X Γ w (.BoolOp .And (a :: e :: es) pos) (c && c') w := by
  cases c with
  | true => rw [Bool.true_and]; exact cw_andT ha (he rfl)
  | false => rw [Bool.false_and]; exact cw_andF ha
theorem cw_or {c c' : Bool} (ha : CT X Γ w a c w) (he : c = false → CW X Γ w (.BoolOp .Or (e :: es) pos) c' w) : CW X Γ w (.BoolOp .Or (a :: e :: es) pos) (c || c') w := by
  cases c with
  | true => rw [Bool.true_or]; exact cw_orT ha
  | false => rw [Bool.false_or]; exact cw_orF ha (he rfl)
/-! as values (truth values all) -/
theorem ce_one {op : BoolOp} (ha : CE X Γ w a d w1) : CE X Γ w (.BoolOp op [a] pos) d w1 := fun b G O σ H S Q q => ⟨_, pe_one pe_re, ha b G O σ H S Q q⟩
theorem ce_andT (ha : CE X Γ w a (.bl true) w1) (he : CE X Γ w1 (.BoolOp .And (e :: es) pos) d w2) : CE X Γ w (.BoolOp .And (a :: e :: es) pos) d w2 := fun b G O σ H S Q q =>
  ⟨_, pe_and pe_re pe_re, ha b G O σ H S _ fun v G1 H1 s1 r => by
    cases r
    refine ⟨true, rfl, ?_⟩
    rw [if_pos rfl]
    exact he b G1 O σ H1 (S.step s1) Q fun v2 G2 H2 s2 => q v2 G2 H2 (s1.trans s2)⟩
theorem ce_andF (ha : CE X Γ w a (.bl false) w1) : CE X Γ w (.BoolOp .And (a :: e :: es) pos) (.bl false) w1 := fun b G O σ H S Q q =>
  ⟨_, pe_and pe_re pe_re, ha b G O σ H S _ fun v G1 H1 s1 r => by
    cases r
    refine ⟨false, rfl, ?_⟩
    rw [if_neg Bool.false_ne_true]
    exact q _ G1 H1 s1 (.bl _)⟩
theorem ce_orF (ha : CE X Γ w a (.bl false) w1) (he : CE X Γ w1 (.BoolOp .Or (e :: es) pos) d w2) : CE X Γ w (.BoolOp .Or (a :: e :: es) pos) d w2 := fun b G O σ H S Q q =>
  ⟨_, pe_or pe_re pe_re, ha b G O σ H S _ fun v G1 H1 s1 r => by
    cases r
    refine ⟨false, rfl, ?_⟩
    rw [if_neg Bool.false_ne_true]
    exact he b G1 O σ H1 (S.step s1) Q fun v2 G2 H2 s2 => q v2 G2 H2 (s1.trans s2)⟩
theorem ce_orT (ha : CE X Γ w a (.bl true) w1) : CE X Γ w (.BoolOp .Or (a :: e :: es) pos) (.bl true) w1 := fun b G O σ H S Q q =>
  ⟨_, pe_or pe_re pe_re, ha b G O σ H S _ fun v G1 H1 s1 r => by
    cases r
    refine ⟨true, rfl, ?_⟩
    rw [if_pos rfl]
    exact q _ G1 H1 s1 (.bl _)⟩
theorem ce_and {c c' : Bool} (ha : CE X Γ w a (.bl c) w) (he : c = true → CE X Γ w (.BoolOp .And (e :: es) pos) (.bl c') w) : CE X Γ w (.BoolOp .And (a :: e :: es) pos) (.bl (c && c')) w := by
  cases c with
  | true => rw [Bool.true_and]; exact ce_andT ha (he rfl)
  | false => rw [Bool.false_and]; exact ce_andF ha
theorem ce_or {c c' : Bool} (ha : CE X Γ w a (.bl c) w) (he : c = false → CE X Γ w (.BoolOp .Or (e :: es) pos) (.bl c') w) : CE X Γ w (.BoolOp .Or (a :: e :: es) pos) (.bl (c || c')) w := by
  cases c with
  | true => rw [Bool.true_or]; exact ce_orT ha
  | false => rw [Bool.false_or]; exact ce_orF ha (he rfl)
theorem ce_if {t : Expr} {c : Bool} (ht : CT X Γ w t c w1) (h1 : c = true → CE X Γ w1 a d w2) (h2 : c = false → CE X Γ w1 e d w2) : CE X Γ w (.IfExp t a e pos) d w2 := fun b G O σ H S Q q =>
  ⟨_, pe_ifExp pt_rt pe_re pe_re, ht b G O σ H S _ fun G1 H1 s1 => by
    cases c with
    | true =>
      rw [if_pos rfl]
      exact h1 rfl b G1 O σ H1 (S.step s1) Q fun v2 G2 H2 s2 => q v2 G2 H2 (s1.trans s2)
    | false =>
      rw [if_neg Bool.false_ne_true]
      exact h2 rfl b G1 O σ H1 (S.step s1) Q fun v2 G2 H2 s2 => q v2 G2 H2 (s1.trans s2)⟩
/-! ### arguments, displays -/
theorem ca_nil : CA X Γ w [] [] w := fun b G O σ H S Q q => ⟨_, pa_nil, q _ _ _ S.refl .nil⟩
theorem ca_cons (ha : CE X Γ w a d w1) (hr : CA X Γ w1 es ds w2) (hs : starEach (a :: es) X.env = (false, eval a X.env) :: starEach es X.env := by rfl) : CA X Γ w (a :: es) (d :: ds) w2 := fun b G O σ H S Q q =>
  ⟨_, pa_cons pe_re pa_ra hs, ha b G O σ H S _ fun v G1 H1 s1 r1 => hr b G1 O σ H1 (S.step s1) _ fun vs G2 H2 s2 r2 => q _ G2 H2 (s1.trans s2) (.cons (r1.mono s2.gx) r2)⟩
theorem Sat.laidO {K : Frag} {b : Bs} {G H : Hp} {O : Own} {σ : St} (S : Sat K b Γ w G O σ H) {q : Addr} {o : HO} (n : H q = none) : Stp w G H w (upd G q o) (upd H q o) := .new' S.wok S.gle n
end
end Fw
end

section
set_option Elab.async false
set_option linter.all false
set_option maxRecDepth 100000
set_option maxHeartbeats 2000000
/-! Fw3: containers, fields, calls. -/
namespace Fw
open PySem PySem.Spec PyProof.Rows L2
/-- the names of Python that the text leaves as they are -/
structure Bi (mg : Str → Option Value) : Prop where
  len : mg "len" = none
  range : mg "range" = none
  zip : mg "zip" = none
  enumerate : mg "enumerate" = none
  tuple : mg "tuple" = none
  list : mg "list" = none
  int : mg "int" = none
  bool : mg "bool" = none
  abs : mg "abs" = none
  isinstance : mg "isinstance" = none
  any : mg "any" = none
  all : mg "all" = none
  max : mg "max" = none
  min : mg "min" = none
theorem Cf.bi {X : Cx} {g : Gx} {N : List Str} {sc : Scope} {j : Nat} (fr : Cf X g N sc j) (bi : Bi g.mg) : Bi X.mg := by
  rw [fr.hg] at bi
  exact bi
section
variable {X : Cx} {g : Gx} {N : List Str} {sc : Scope} {j : Nat} {Γ : List Slot} {w w1 w2 w' : Wd} {pos p : Pos} {a e o : Expr} {es : List Expr} {d d1 d2 : Dat} {ds : List Dat} {l : List Dat}
theorem ce_tup {k : Nat} (h : CA X Γ w es ds w1) (hl : ds.length ≤ LM) : CE X Γ w (.Tuple es k pos) (.tup ds) w1 := fun b G O σ H S Q q =>
  ⟨_, pe_tup pa_ra, h b G O σ H S _ fun vs G1 H1 s1 r1 => ⟨by rw [r1.length]; exact LM_le hl, fun p hp => by
    have s2 := (S.step s1).laidO (o := .tup vs) hp
    exact q _ _ _ (s1.trans s2) (.tup (SqT.of upd_same) (r1.mono s2.gx) hl)⟩⟩
theorem cf_lst (h : CA X Γ w es ds w1) (hl : ds.length ≤ LM) : CF X Γ w (.List es pos) ds w1 := fun b G O σ H S Q q =>
  ⟨_, pe_lst pa_ra, h b G O σ H S _ fun vs G1 H1 s1 r1 => ⟨by rw [r1.length]; exact LM_le hl, fun p hp => by
    have h0 : H p = none := by
      cases e : H p with
      | none => rfl
      | some u =>
        by_cases z : ∃ s x y, w = some (s, x, y) ∧ p = s
        · obtain ⟨s, x, y, e1, e2⟩ := z
          have e3 : ∃ x' y', w1 = some (s, x', y') := by
            have := s1.ad
            rw [e1] at this
            cases w1 with
            | none => cases this
            | some q0 => obtain ⟨s0, x0, y0⟩ := q0; cases this; exact ⟨x0, y0, rfl⟩
          obtain ⟨x', y', e3⟩ := e3
          exact absurd e2 (s1.wok.ne hp s x' y' e3)
        · have h1 : hide w H p = some u := by rw [hide_ne (fun s x y e1 e2 => z ⟨s, x, y, e1, e2⟩)]; exact e
          rw [hide_sub (s1.all p u h1)] at hp
          cases hp
    exact q p vs G1 _ (s1.trans (Stp.newO s1.wok s1.gle hp)) h0 (Ext.free s1.gle (hide_free hp)) upd_same r1 hl⟩⟩
/-- what is new behind a step was new ahead of it -/
theorem Stp.back {G H G1 H1 : Hp} {p : Addr} (s1 : Stp w G H w1 G1 H1) (hp : H1 p = none) : H p = none := by
  cases e : H p with
  | none => rfl
  | some u =>
    by_cases z : ∃ s x y, w = some (s, x, y) ∧ p = s
    · obtain ⟨s, x, y, e1, e2⟩ := z
      have e3 : ∃ x' y', w1 = some (s, x', y') := by
        have := s1.ad
        rw [e1] at this
        cases w1 with
        | none => cases this
        | some q0 => obtain ⟨s0, x0, y0⟩ := q0; cases this; exact ⟨x0, y0, rfl⟩
      obtain ⟨x', y', e3⟩ := e3
      exact absurd e2 (s1.wok.ne hp s x' y' e3)
    · have h1 : hide w H p = some u := by rw [hide_ne (fun s x y e1 e2 => z ⟨s, x, y, e1, e2⟩)]; exact e
      rw [hide_sub (s1.all p u h1)] at hp
      cases hp
/-- a new list, of the items vs -/
theorem CF.fin {b : Bs} {G H G1 H1 : Hp} {Q : VK} {vs : List V} (q : ∀ p vs G' H', Stp w G H w1 G' H' → H p = none → G' p = none → H' p = some (.lst vs) → Reps X.K G' vs l → l.length ≤ LM → Q (.ref p) H') (s1 : Stp w G H w1 G1 H1) (r : Reps X.K G1 vs l) (z : l.length ≤ LM) :
    ∀ p, H1 p = none → Q (.ref p) (upd H1 p (.lst vs)) := fun p hp =>
  q p vs G1 _ (s1.trans (Stp.newO s1.wok s1.gle hp)) (s1.back hp) (Ext.free s1.gle (hide_free hp)) upd_same r z
theorem fin_tup {G H G1 H1 : Hp} {Q : VK} {vs : List V} (q : ∀ v G' H', Stp w G H w1 G' H' → Rep X.K G' v (.tup l) → Q v H') (s1 : Stp w G H w1 G1 H1) (r : Reps X.K G1 vs l) (z : l.length ≤ LM) : ∀ p, H1 p = none → Q (.ref p) (upd H1 p (.tup vs)) := fun p hp => by
  have s2 : Stp w1 G1 H1 w1 (upd G1 p (.tup vs)) (upd H1 p (.tup vs)) := .new' s1.wok s1.gle hp
  exact q _ _ _ (s1.trans s2) (.tup (SqT.of upd_same) (r.mono s2.gx) z)
/-! ### subscripts -/
theorem Reps.atI {K : Frag} {H : Hp} {vs : List V} {ds : List Dat} {d : Dat} {i : Int} (r : Reps K H vs ds) (h : atI ds i = some d) : ∃ v, L2.atI vs i = some v ∧ Rep K H v d := by
  unfold L2.atI at h ⊢
  rw [r.length]
  cases e : ixN ds.length i with
  | none => rw [e] at h; cases h
  | some k =>
    rw [e] at h
    exact r.get h
theorem ce_ixT {i : Int} (ha : CE X Γ w a (.tup l) w1) (he : CE X Γ w1 e (.int i) w2) (hi : atI l i = some d) (hs : PlainIx e := by exact fun _ _ => rfl) : CE X Γ w (.Subscript a e pos) d w2 := fun b G O σ H S Q q =>
  ⟨_, pe_ix ix_tup pe_re pe_re hs, by
    refine ha b G O σ H S _ fun x G1 H1 s1 r1 => ?_
    refine he b G1 O σ H1 (S.step s1) _ fun y G2 H2 s2 r2 => ?_
    cases r2
    cases r1.mono s2.gx with
    | tup h r z =>
      obtain ⟨v, hv, rv⟩ := r.atI hi
      exact ⟨_, _, _, v, rfl, rfl, h.ext (s2.gle.trans hide_ext), hv, q v G2 H2 (s1.trans s2) rv⟩⟩
theorem ce_ixL {i : Int} (ha : CE X Γ w a (.lst l) w1) (he : CE X Γ w1 e (.int i) w2) (hi : atI l i = some d) (hs : PlainIx e := by exact fun _ _ => rfl) : CE X Γ w (.Subscript a e pos) d w2 := fun b G O σ H S Q q =>
  ⟨_, pe_ix ix_list pe_re pe_re hs, by
    refine ha b G O σ H S _ fun x G1 H1 s1 r1 => ?_
    refine he b G1 O σ H1 (S.step s1) _ fun y G2 H2 s2 r2 => ?_
    cases r2
    cases r1.mono s2.gx with
    | lst h r z =>
      obtain ⟨v, hv, rv⟩ := r.atI hi
      exact ⟨_, _, _, v, rfl, rfl, SqL.of (hide_sub (s2.gle _ _ h)), hv, q v G2 H2 (s1.trans s2) rv⟩⟩
/-- an owned list's item -/
theorem ce_ixO (fr : Cf X g N sc j) {x : Str} {i : Int} (k : Nat) (hk : N[k]? = some x) (hv : Vis sc x) (hd : Γ[k]? = some (.ow l)) (he : CE X Γ w e (.int i) w2) (hi : atI l i = some d) (hs : PlainIx e := by exact fun _ _ => rfl) (h1 : (x == ("__debug__" : Str)) = false := by decide) (h2 : (x == ("__classdict__" : Str)) = false := by decide) :
    CE X Γ w (.Subscript (.Name x p) e pos) d w2 := fun b G O σ H S Q q => by
  obtain ⟨x', hx, p', vs, e1, o1, hp, r, z⟩ := S.slots k _ hd
  subst e1
  refine ⟨_, pe_ix ix_list (pe_var (i := k) (by rw [fr.hN]; exact hk) (by rw [fr.hsc]; exact hv) h1 h2) pe_re hs, .ref p', hx, ?_⟩
  refine he b G O σ H S _ fun y G2 H2 s2 r2 => ?_
  cases r2
  obtain ⟨v, hv, rv⟩ := r.atI hi
  have hp2 : H2 p' = some (.lst vs) := hide_sub (s2.all _ _ (by rw [S.hid o1]; exact hp))
  exact ⟨_, _, _, v, rfl, rfl, SqL.of hp2, hv, q v G2 H2 s2 (rv.mono s2.gx)⟩
theorem ce_len (bi : Bi g.mg) (fr : Cf X g N sc j) (hg : GlS sc "len") {l : List Dat} (ha : CE X Γ w a d w1) (hd : d = .tup l ∨ d = .lst l) (hs : starEach [a] X.env = (false, eval a X.env) :: starEach [] X.env := by rfl) : CE X Γ w (.Call (.Name "len" p) [a] [] pos) (.int l.length) w1 := fun b G O σ H S Q q =>
  ⟨_, pe_callB call_len_seq (fr.gl hg) (fr.bi bi).len boot_len (pa_cons pe_re pa_nil hs) (he := hs), ha b G O σ H S _ fun v G1 H1 s1 r1 => by
    rcases hd with rfl | rfl
    · cases r1 with
      | tup h r z => exact ⟨_, _, rfl, .inr (h.ext (s1.gle.trans hide_ext)), by rw [r.length]; exact q _ _ _ s1 (.int _)⟩
    · cases r1 with
      | lst h r z => exact ⟨_, _, rfl, .inl (SqL.of (hide_sub (s1.gle _ _ h))), by rw [r.length]; exact q _ _ _ s1 (.int _)⟩⟩
theorem ce_lenO (bi : Bi g.mg) (fr : Cf X g N sc j) (hg : GlS sc "len") {x : Str} {p2 : Pos} (k : Nat) (hk : N[k]? = some x) (hv : Vis sc x) (hd : Γ[k]? = some (.ow l)) (h1 : (x == ("__debug__" : Str)) = false := by decide) (h2 : (x == ("__classdict__" : Str)) = false := by decide) :
    CE X Γ w (.Call (.Name "len" p) [.Name x p2] [] pos) (.int l.length) w := fun b G O σ H S Q q => by
  obtain ⟨x', hx, p', vs, e1, o1, hp, r, z⟩ := S.slots k _ hd
  subst e1
  exact ⟨_, pe_callB call_len_seq (fr.gl hg) (fr.bi bi).len boot_len (pa_cons (pe_var (i := k) (by rw [fr.hN]; exact hk) (by rw [fr.hsc]; exact hv) h1 h2) pa_nil), .ref p', hx, _, _, rfl, .inl (SqL.of hp), by rw [r.length]; exact q _ _ _ S.refl (.int _)⟩
/-! ### slices -/
def CO (X : Cx) (Γ : List Slot) (w : Wd) (oe : Option Expr) (oi : Option Int) (w' : Wd) : Prop := match oe, oi with
  | none, none => w' = w
  | some e, some i => CE X Γ w e (.int i) w'
  | _, _ => False
def RO (X : Cx) (e : Option Expr) : TO := fun σ H Q => ∃ t, PO X e t ∧ t σ H Q
theorem po_ro {e : Option Expr} : PO X e (RO X e) := ⟨fun pins s σ H Q I ⟨_, h, q⟩ => h.run pins s σ H Q I q⟩
theorem CO.run {oe : Option Expr} {oi : Option Int} (h : CO X Γ w oe oi w1) {b : Bs} {G H : Hp} {O : Own} {σ : St} (S : Sat X.K b Γ w G O σ H) {Q : Option Int → Hp → Prop} (q : ∀ G' H', Stp w G H w1 G' H' → Q oi H') : RO X oe σ H Q := by
  cases oe with
  | none =>
    cases oi with
    | none =>
      have e : w1 = w := h
      subst e
      exact ⟨_, po_none, q _ _ S.refl⟩
    | some i => exact (show False from h).elim
  | some e =>
    cases oi with
    | none => exact (show False from h).elim
    | some i =>
      exact ⟨_, po_some pe_re, (show CE X Γ w e (.int i) w1 from h) b G O σ H S _ fun v G' H' s r => by
        cases r
        exact ⟨i, rfl, q G' H' s⟩⟩
def cutL {α : Type} (xs : List α) (lo hi : Option Int) : List α := (xs.drop (HT.sIx xs.length 0 lo)).take (HT.sIx xs.length xs.length hi - HT.sIx xs.length 0 lo)
theorem cutL_len {α : Type} (xs : List α) (lo hi : Option Int) : (cutL xs lo hi).length ≤ xs.length := by
  unfold cutL
  rw [List.length_take, List.length_drop]
  omega
theorem Reps.cut {K : Frag} {H : Hp} {vs : List V} {ds : List Dat} (r : Reps K H vs ds) (lo hi : Option Int) : Reps K H (cutV vs lo hi) (cutL ds lo hi) := by
  unfold cutV cutL
  rw [r.length]
  exact (r.drop _).take _
theorem cf_slL {lo hi : Option Expr} {i k : Option Int} {p2 : Pos} {w3 : Wd} (ha : CE X Γ w a (.lst l) w1) (h1 : CO X Γ w1 lo i w2) (h2 : CO X Γ w2 hi k w3) : CF X Γ w (.Subscript a (.Slice lo hi none p2) pos) (cutL l i k) w3 := fun b G O σ H S Q q =>
  ⟨_, pe_slice sl_list pe_re po_ro po_ro, by
    refine ha b G O σ H S _ fun x G1 H1 s1 r1 => ?_
    refine h1.run (S.step s1) fun G2 H2 s2 => ?_
    refine h2.run ((S.step s1).step s2) fun G3 H3 s3 => ?_
    cases r1.mono (s2.gx.trans s3.gx) with
    | lst h r z =>
      exact ⟨_, _, rfl, SqL.of (hide_sub (s3.gle _ _ h)), CF.fin (b := b) q ((s1.trans s2).trans s3) (r.cut i k) (Nat.le_trans (cutL_len _ _ _) z)⟩⟩
/-- .. of an owned list -/
theorem cf_slO (fr : Cf X g N sc j) {x : Str} {lo hi : Option Expr} {i k : Option Int} {p2 : Pos} {w3 : Wd} (m : Nat) (hk : N[m]? = some x) (hv : Vis sc x) (hd : Γ[m]? = some (.ow l)) (h1 : CO X Γ w lo i w2) (h2 : CO X Γ w2 hi k w3) (g1 : (x == ("__debug__" : Str)) = false := by decide) (g2 : (x == ("__classdict__" : Str)) = false := by decide) :
    CF X Γ w (.Subscript (.Name x p) (.Slice lo hi none p2) pos) (cutL l i k) w3 := fun b G O σ H S Q q => by
  obtain ⟨x', hx, p', vs, e1, o1, hp, r, z⟩ := S.slots m _ hd
  subst e1
  refine ⟨_, pe_slice sl_list (pe_var (i := m) (by rw [fr.hN]; exact hk) (by rw [fr.hsc]; exact hv) g1 g2) po_ro po_ro, .ref p', hx, ?_⟩
  refine h1.run S fun G2 H2 s2 => ?_
  refine h2.run (S.step s2) fun G3 H3 s3 => ?_
  have s := s2.trans s3
  have hp2 : H3 p' = some (.lst vs) := hide_sub (s.all _ _ (by rw [S.hid o1]; exact hp))
  exact ⟨_, _, rfl, SqL.of hp2, CF.fin (b := b) q s ((r.mono s.gx).cut i k) (Nat.le_trans (cutL_len _ _ _) z)⟩
theorem ce_slT {lo hi : Option Expr} {i k : Option Int} {p2 : Pos} {w3 : Wd} (ha : CE X Γ w a (.tup l) w1) (h1 : CO X Γ w1 lo i w2) (h2 : CO X Γ w2 hi k w3) : CE X Γ w (.Subscript a (.Slice lo hi none p2) pos) (.tup (cutL l i k)) w3 := fun b G O σ H S Q q =>
  ⟨_, pe_slice sl_tupA pe_re po_ro po_ro, by
    refine ha b G O σ H S _ fun x G1 H1 s1 r1 => ?_
    refine h1.run (S.step s1) fun G2 H2 s2 => ?_
    refine h2.run ((S.step s1).step s2) fun G3 H3 s3 => ?_
    have s := (s1.trans s2).trans s3
    cases r1.mono (s2.gx.trans s3.gx) with
    | tup h r z =>
      refine ⟨_, _, rfl, h.ext (s3.gle.trans hide_ext), fun ⟨z1, z2⟩ => ?_, fun _ => fin_tup q s (r.cut i k) (Nat.le_trans (cutL_len _ _ _) z)⟩
      have e : cutL l i k = l := by
        rw [r.length] at z1 z2
        unfold cutL
        rw [z1, z2]
        simp
      exact q _ _ _ s (by rw [e]; exact .tup h r z)⟩
/-! ### tuple(..), list(..) -/
theorem ce_tupleOf (bi : Bi g.mg) (fr : Cf X g N sc j) (hg : GlS sc "tuple") (ha : CE X Γ w a d w1) (hd : d = .tup l ∨ d = .lst l) (hs : starEach [a] X.env = (false, eval a X.env) :: starEach [] X.env := by rfl) : CE X Γ w (.Call (.Name "tuple" p) [a] [] pos) (.tup l) w1 := fun b G O σ H S Q q =>
  ⟨_, pe_tupleOf (fr.gl hg) (fr.bi bi).tuple pe_re hs, ha b G O σ H S _ fun v G1 H1 s1 r1 => by
    rcases hd with rfl | rfl
    · cases r1 with
      | tup h r z => exact .inr ⟨_, _, rfl, h.ext (s1.gle.trans hide_ext), q _ _ _ s1 (.tup h r z)⟩
    · cases r1 with
      | lst h r z => exact .inl ⟨_, _, rfl, SqL.of (hide_sub (s1.gle _ _ h)), fin_tup q s1 r z⟩⟩
/-- tuple(xs) of an owned list -/
theorem ce_tupleO (bi : Bi g.mg) (fr : Cf X g N sc j) (hg : GlS sc "tuple") {x : Str} {p2 : Pos} (k : Nat) (hk : N[k]? = some x) (hv : Vis sc x) (hd : Γ[k]? = some (.ow l)) (h1 : (x == ("__debug__" : Str)) = false := by decide) (h2 : (x == ("__classdict__" : Str)) = false := by decide) :
    CE X Γ w (.Call (.Name "tuple" p) [.Name x p2] [] pos) (.tup l) w := fun b G O σ H S Q q => by
  obtain ⟨x', hx, p', vs, e1, o1, hp, r, z⟩ := S.slots k _ hd
  subst e1
  exact ⟨_, pe_tupleOf (fr.gl hg) (fr.bi bi).tuple (pe_var (i := k) (by rw [fr.hN]; exact hk) (by rw [fr.hsc]; exact hv) h1 h2), .ref p', hx, .inl ⟨_, _, rfl, SqL.of hp, fin_tup q S.refl r z⟩⟩
theorem cf_listOf (bi : Bi g.mg) (fr : Cf X g N sc j) (hg : GlS sc "list") (ha : CE X Γ w a d w1) (hd : d = .tup l ∨ d = .lst l) (hs : starEach [a] X.env = (false, eval a X.env) :: starEach [] X.env := by rfl) : CF X Γ w (.Call (.Name "list" p) [a] [] pos) l w1 := fun b G O σ H S Q q =>
  ⟨_, pe_callTy call_list_of (fr.gl hg) (fr.bi bi).list boot_list (pa_cons pe_re pa_nil hs) (he := hs), ha b G O σ H S _ fun v G1 H1 s1 r1 => by
    rcases hd with rfl | rfl
    · cases r1 with
      | tup h r z => exact ⟨_, _, rfl, .inr (h.ext (s1.gle.trans hide_ext)), CF.fin (b := b) q s1 r z⟩
    · cases r1 with
      | lst h r z => exact ⟨_, _, rfl, .inl (SqL.of (hide_sub (s1.gle _ _ h))), CF.fin (b := b) q s1 r z⟩⟩
/-! ### fields -/
theorem ce_fld (fr : Cf X g N sc j) {C : Addr} {fs : List (Str × Dat)} {f : Str} (c : Cls g.K C) (n : NoAttr g.K C f) (ha : CE X Γ w a (.obj C fs) w1) (hf : fs.lookup f = some d) (hb : attributeBase a f X.env (eval a X.env) = eval a X.env := by rfl) : CE X Γ w (.Attribute a f pos) d w1 := fun b G O σ H S Q q =>
  ⟨_, pe_fld pe_re hb, ha b G O σ H S _ fun v G1 H1 s1 r1 => by
    cases r1 with
    | obj h r =>
      obtain ⟨v, hv, rv⟩ := r.lookup hf
      exact ⟨_, C, _, _, v, rfl, hide_sub (s1.gle _ _ h), fr.to (fun g => Cls g.K C) c, fr.to (fun g => NoAttr g.K C f) n, hv, q _ _ _ s1 rv⟩⟩
end

/-! ### promises over data -/
abbrev DS := List Dat → Wd → (Dat → Wd → Prop) → Prop
def spD (K : Frag) (S : DS) : Sp := fun vs H Q _ => ∃ ds w G, WOk w H ∧ Ext G (hide w H) ∧ Reps K G vs ds ∧ S ds w fun d w' => ∀ v G' H', Stp w G H w' G' H' → Rep K G' v d → Q v H'
/-- a def that keeps a promise over data, found by a module's name -/
structure Fd (X : Gx) (x : Str) (k : Nat) (S : DS) : Prop where
  ex : ∃ f fd ps, FnOk X.P X.w X.K X.mg X.base CX0 k f fd ps (spD X.K S) ∧ X.mg x = some (.ref f) ∧ PySem.W.keepIn X.K (.ref f) = true ∧ Binds X.K fd ps []
/-- a method -/
structure Md (X : Gx) (C : Addr) (m : Str) (k : Nat) (S : DS) : Prop where
  ex : ∃ f fd ps, FnOk X.P X.w X.K X.mg X.base CX0 k f fd ps (spD X.K S) ∧ Meth X.K C m f ∧ Binds X.K fd ps []
section
variable {X : Cx} {g : Gx} {N : List Str} {sc : Scope} {j k : Nat} {Γ : List Slot} {w w1 w2 w' : Wd} {pos p apos : Pos} {a e o : Expr} {es : List Expr} {d d1 d2 : Dat} {ds : List Dat} {l : List Dat} {S : DS}
theorem spD_go {K : Frag} {vs : List V} {ds : List Dat} {G0 H0 G H : Hp} {Q : VK} {E : XK} (s0 : Stp w G0 H0 w1 G H) (r : Reps K G vs ds) (h : S ds w1 fun d' w'' => d' = d ∧ w'' = w2) (hm : ∀ ds w P P', (∀ d w, P d w → P' d w) → S ds w P → S ds w P') (q : ∀ v G' H', Stp w G0 H0 w2 G' H' → Rep K G' v d → Q v H') : spD K S vs H Q E :=
  ⟨ds, w1, G, s0.wok, s0.gle, r, hm _ _ _ _ (fun d' w'' ⟨e1, e2⟩ v G' H' s1 r1 => by subst e1; subst e2; exact q v G' H' (s0.trans s1) r1) h⟩
/-- monotone in what is wanted -/
def Mon1 (S : DS) : Prop := ∀ ds w (P P' : Dat → Wd → Prop), (∀ d w, P d w → P' d w) → S ds w P → S ds w P'
theorem ce_call {x : Str} (fr : Cf X g N sc j) (F : Fd g x k S) (hk : k ≤ j) (hm : Mon1 S) (hg : GlS sc x) (ha : CA X Γ w (a :: es) ds w1) (h : S ds w1 fun d' w'' => d' = d ∧ w'' = w2) (hdb : (x == ("__debug__" : Str)) = false := by decide)
    (he : starEach (a :: es) X.env = (false, eval a X.env) :: starEach es X.env := by rfl) (hpl : (backTo pos (starEach es X.env)).any (·.1) = false := by rfl) : CE X Γ w (.Call (.Name x p) (a :: es) [] pos) d w2 := fun b G O σ H S' Q q => by
  obtain ⟨f, fd, ps, F1, F2, F3, F4⟩ := (fr.to (fun g => Fd g x k S) F).ex
  refine ⟨_, pe_call F1 (fr.room.mono hk) (fr.gl hg) F2 F3 F4 .nil pass0 pa_ra hdb he hpl, ha b G O σ H S' _ fun vs G1 H1 s1 r1 => ?_⟩
  show spD X.K S (vs ++ []) H1 Q E0
  rw [List.append_nil]
  exact spD_go s1 r1 h hm q
theorem ce_meth {C : Addr} {m : Str} {fs : List (Str × Dat)} {pl : Sem Bool} (fr : Cf X g N sc j) (c : Cls g.K C) (F : Md g C m k S) (hk : k ≤ j) (hm : Mon1 S) (ho : CE X Γ w o (.obj C fs) w') (hl : fs.lookup m = none) (ha : CA X Γ w' (a :: es) ds w1) (h : S (.obj C fs :: ds) w1 fun d' w'' => d' = d ∧ w'' = w2)
    (hst : starEach (a :: es) X.env = (false, eval a X.env) :: starEach es X.env := by rfl) (hpl : (backTo pos (starEach es X.env)).any (·.1) = false := by rfl)
    (ht : eval (.Call (.Attribute o m apos) (a :: es) [] pos) X.env = (do
      let ov ← eval o X.env
      standAt apos.atName
      let (f, first) ← holding [ov] (getMethod ov m pl)
      callWith pos f first (backTo pos (starEach (a :: es) X.env)) (backToKw pos (keywordEach [] X.env))) := by rfl) :
    CE X Γ w (.Call (.Attribute o m apos) (a :: es) [] pos) d w2 := fun b G O σ H S' Q q => by
  obtain ⟨f, fd, ps, F1, F2, F4⟩ := (fr.to (fun g => Md g C m k S) F).ex
  have c : Cls X.K C := fr.to (fun g => Cls g.K C) c
  refine ⟨_, pe_meth (pl := pl) pe_re c F2 F1 (fr.room.mono hk) F4 .nil pass0 pa_ra hst hpl ht, ho b G O σ H S' _ fun v G1 H1 s1 r1 => ?_⟩
  cases r1 with
  | obj g r =>
    refine ⟨_, _, _, rfl, hide_sub (s1.gle _ _ g), r.none hl, ?_⟩
    refine ha b G1 O σ H1 (S'.step s1) _ fun vs G2 H2 s2 r2 => ?_
    rw [List.append_nil]
    exact spD_go (s1.trans s2) (.cons ((Rep.obj g r).mono s2.gx) r2) h hm q
theorem ce_meth0 {C : Addr} {m : Str} {fs : List (Str × Dat)} {pl : Sem Bool} (fr : Cf X g N sc j) (c : Cls g.K C) (F : Md g C m k S) (hk : k ≤ j) (hm : Mon1 S) (ho : CE X Γ w o (.obj C fs) w1) (hl : fs.lookup m = none) (h : S [.obj C fs] w1 fun d' w'' => d' = d ∧ w'' = w2)
    (ht : eval (.Call (.Attribute o m apos) [] [] pos) X.env = (do
      let ov ← eval o X.env
      standAt apos.atName
      let (f, first) ← holding [ov] (getMethod ov m pl)
      callWith pos f first (backTo pos (starEach [] X.env)) (backToKw pos (keywordEach [] X.env))) := by rfl) :
    CE X Γ w (.Call (.Attribute o m apos) [] [] pos) d w2 := fun b G O σ H S' Q q => by
  obtain ⟨f, fd, ps, F1, F2, F4⟩ := (fr.to (fun g => Md g C m k S) F).ex
  have c : Cls X.K C := fr.to (fun g => Cls g.K C) c
  refine ⟨_, pe_meth0 (pl := pl) pe_re c F2 F1 (fr.room.mono hk) F4 .nil pass0 ht, ho b G O σ H S' _ fun v G1 H1 s1 r1 => ?_⟩
  cases r1 with
  | obj g r =>
    refine ⟨_, _, _, rfl, hide_sub (s1.gle _ _ g), r.none hl, ?_⟩
    show spD X.K S (_ :: ([] ++ [])) H1 Q E0
    exact spD_go s1 (.cons (Rep.obj g r) .nil) h hm q
end
end Fw
end

section
set_option Elab.async false
set_option linter.all false
set_option maxRecDepth 100000
set_option maxHeartbeats 2000000
/-! Fw4: objects made, statements, blocks, the rule of a def. -/
namespace Fw
open PySem PySem.Spec PyProof.Rows L2
/-! ### objects made -/
abbrev DI := List Dat → Wd → (List (Str × Dat) → Wd → Prop) → Prop
def spI (K : Frag) (C : Addr) (S : DI) : Sp := fun vs H Q _ => ∃ x dx rest ds w G H1, vs = .ref x :: rest ∧ H1 x = none ∧ H1 dx = none ∧ dx ≠ x ∧ H = upd (upd H1 dx (.own x)) x (.ins C dx []) ∧ WOk w H1 ∧ Ext G (hide w H1) ∧ Reps K G rest ds ∧
  S ds w fun fs w' => ∀ G' H' dx' fv, Stp w G H1 w' G' H' → G' x = none → H' x = some (.ins C dx' fv) → RepF K G' fv fs → Q .non H'
def Mon2 (S : DI) : Prop := ∀ ds w (P P' : List (Str × Dat) → Wd → Prop), (∀ d w, P d w → P' d w) → S ds w P → S ds w P'
/-- a class whose __init__ keeps a promise over data; dd: the defaults that fill up -/
structure Kd (X : Gx) (x : Str) (C : Addr) (k : Nat) (dd : List Dat) (S : DI) : Prop where
  ex : ∃ f fd ps dvs ds, Mk X.K C f ∧ FnOk X.P X.w X.K X.mg X.base CX0 k f fd ps (spI X.K C S) ∧ X.mg x = some (.ref C) ∧ (∀ H, Reps X.K H dvs dd) ∧ Vals dvs ds ∧ Binds X.K fd ps ds
section
variable {X : Cx} {g : Gx} {N : List Str} {sc : Scope} {j k : Nat} {Γ : List Slot} {w w1 w2 w' : Wd} {pos p apos : Pos} {a e o : Expr} {es : List Expr} {d d1 d2 : Dat} {ds dd : List Dat} {l : List Dat} {C : Addr}
theorem ce_make {x : Str} {S : DI} {fs : List (Str × Dat)} (fr : Cf X g N sc j) (F : Kd g x C k dd S) (hk : k + 1 ≤ j) (hm : Mon2 S) (hg : GlS sc x) (ha : CA X Γ w (a :: es) ds w1) (h : S (ds ++ dd) w1 fun fs' w'' => fs' = fs ∧ w'' = w2) (hdb : (x == ("__debug__" : Str)) = false := by decide)
    (he : starEach (a :: es) X.env = (false, eval a X.env) :: starEach es X.env := by rfl) (hpl : (backTo pos (starEach es X.env)).any (·.1) = false := by rfl) : CE X Γ w (.Call (.Name x p) (a :: es) [] pos) (.obj C fs) w2 := fun b G O σ H S' Q q => by
  obtain ⟨f, fd, ps, dvs, us, M, F1, F2, F3, F4, F5⟩ := (fr.to (fun g => Kd g x C k dd S) F).ex
  refine ⟨_, pe_make M F1 (fr.room.mono hk) (fr.gl hg) F2 F5 F4 pass0 pa_ra hdb he hpl, ha b G O σ H S' _ fun vs G1 H1 s1 r1 => ?_⟩
  intro y dx ny ndx ne
  refine ⟨y, dx, vs ++ dvs, ds ++ dd, w1, G1, H1, rfl, ny, ndx, ne, rfl, s1.wok, s1.gle, r1.append (F3 _), hm _ _ _ _ (fun fs' w'' ⟨e1, e2⟩ G' H' dx' fv s2 hg' h' rf => ?_) h⟩
  subst e1
  subst e2
  have hh : hide w'' H' y = some (.ins C dx' fv) := by
    rw [hide_ne fun s i1 i2 e => ?_]
    · exact h'
    · have e3 : ∃ x' y', w1 = some (s, x', y') := by
        have := s2.ad
        rw [e] at this
        cases w1 with
        | none => cases this
        | some q0 => obtain ⟨s0, x0, y0⟩ := q0; cases this; exact ⟨x0, y0, rfl⟩
      obtain ⟨x', y', e3⟩ := e3
      exact s1.wok.ne ny s x' y' e3
  have s3 := s2.freeze (hide_free ny) hg' hh
  exact ⟨rfl, q _ _ _ (s1.trans s3) (.obj upd_same (rf.mono (Ext.upd hg')))⟩
end

/-! ### statements -/
structure DE where
  nx : List Slot → Wd → Prop
  rt : Dat → Wd → Prop
  bk : List Slot → Wd → Prop := fun _ _ => False
  ct : List Slot → Wd → Prop := fun _ _ => False
  rf : List Dat → Wd → Prop := fun _ _ => False
/-- the ends of the heap serve those of the data -/
structure Up (K : Frag) (b : Bs) (E : DE) (D : Ends) : Prop where
  nx : ∀ Γ w G O σ H, Sat K b Γ w G O σ H → E.nx Γ w → D.nx σ H
  rt : ∀ d w G v H, Wor b w G H → Rep K G v d → E.rt d w → D.rt v H
  rf : ∀ l w G p vs H, Wor b w G H → b.B0 p = none → G p = none → H p = some (.lst vs) → Reps K G vs l → l.length ≤ LM → E.rf l w → D.rt (.ref p) H
  bk : ∀ Γ w G O σ H, Sat K b Γ w G O σ H → E.bk Γ w → D.bk σ H
  ct : ∀ Γ w G O σ H, Sat K b Γ w G O σ H → E.ct Γ w → D.ct σ H
section
variable (X : Cx) (Γ : List Slot) (w : Wd)
def CS (s : Stmt) (E : DE) : Prop := ∀ (b : Bs) (G : Hp) (O : Own) (σ : St) (H : Hp), Sat X.K b Γ w G O σ H → ∀ D : Ends, Up X.K b E D → RS X s D σ H
def CSS (ss : List Stmt) (E : DE) : Prop := ∀ (b : Bs) (G : Hp) (O : Own) (σ : St) (H : Hp), Sat X.K b Γ w G O σ H → ∀ D : Ends, Up X.K b E D → RSs X ss D σ H
end
section
variable {X : Cx} {g : Gx} {N : List Str} {sc : Scope} {j k : Nat} {Γ : List Slot} {w w1 w2 w' : Wd} {pos p apos : Pos} {a e o : Expr} {es : List Expr} {d d1 d2 : Dat} {ds dd : List Dat} {l : List Dat} {s : Stmt} {ss ss' : List Stmt} {E : DE}
theorem css_nil (h : E.nx Γ w) : CSS X Γ w [] E := fun b G O σ H S D U => ⟨_, pss_nil, U.nx _ _ _ _ _ _ S h⟩
theorem css_cons (h : CS X Γ w s { E with nx := fun Γ' w' => CSS X Γ' w' ss E }) : CSS X Γ w (s :: ss) E := fun b G O σ H S D U =>
  ⟨_, pss_cons ps_rs pss_rss, h b G O σ H S { D with nx := RSs X ss D } ⟨fun _ _ _ _ _ _ S' h' => h' _ _ _ _ _ S' D U, U.rt, U.rf, U.bk, U.ct⟩⟩
theorem css_one (h : CS X Γ w s E) : CSS X Γ w [s] E := fun b G O σ H S D U => ⟨_, pss_one ps_rs, h b G O σ H S D U⟩
theorem Up.imp {K : Frag} {b : Bs} {E E' : DE} {D : Ends} (U : Up K b E D) (nx : ∀ Γ w, E'.nx Γ w → E.nx Γ w) (rt : ∀ d w, E'.rt d w → E.rt d w) (rf : ∀ d w, E'.rf d w → E.rf d w) (bk : ∀ Γ w, E'.bk Γ w → E.bk Γ w) (ct : ∀ Γ w, E'.ct Γ w → E.ct Γ w) : Up K b E' D :=
  ⟨fun Γ w G O σ H S h => U.nx Γ w G O σ H S (nx Γ w h), fun d w G v H o r h => U.rt d w G v H o r (rt d w h), fun l w G p vs H o h1 h2 h3 h4 h5 h => U.rf l w G p vs H o h1 h2 h3 h4 h5 (rf l w h), fun Γ w G O σ H S h => U.bk Γ w G O σ H S (bk Γ w h), fun Γ w G O σ H S h => U.ct Γ w G O σ H S (ct Γ w h)⟩
theorem CSS.imp {E' : DE} (h : CSS X Γ w ss E') (nx : ∀ Γ w, E'.nx Γ w → E.nx Γ w) (rt : ∀ d w, E'.rt d w → E.rt d w) (rf : ∀ d w, E'.rf d w → E.rf d w) (bk : ∀ Γ w, E'.bk Γ w → E.bk Γ w) (ct : ∀ Γ w, E'.ct Γ w → E.ct Γ w) : CSS X Γ w ss E := fun b G O σ H S D U => h b G O σ H S D (U.imp nx rt rf bk ct)
theorem cs_ret (he : CE X Γ w e d w1) (h : E.rt d w1) : CS X Γ w (.Return (some e) pos) E := fun b G O σ H S D U =>
  ⟨_, ps_ret pe_re, he b G O σ H S _ fun v G1 H1 s1 r1 => U.rt d w1 G1 v H1 (S.toWor.step s1) r1 h⟩
theorem cs_retF (he : CF X Γ w e l w1) (h : E.rf l w1) : CS X Γ w (.Return (some e) pos) E := fun b G O σ H S D U =>
  ⟨_, ps_ret pe_re, he b G O σ H S _ fun p vs G1 H1 s1 np gp hp r1 z => U.rf l w1 G1 p vs H1 (S.toWor.step s1) (by
    cases e : b.B0 p with
    | none => rfl
    | some u => rw [hide_sub (S.all p u e)] at np; cases np) gp hp r1 z h⟩
theorem cs_drop (he : CE X Γ w e d w1) (h : E.nx Γ w1) (hs : swapsWith e none pos.line X.env = pure false := by rfl) : CS X Γ w (.Expr e pos) E := fun b G O σ H S D U =>
  ⟨_, ps_expr pe_re hs, he b G O σ H S _ fun v G1 H1 s1 r1 => U.nx _ _ _ _ _ _ (S.step s1) h⟩
theorem cs_pass (h : E.nx Γ w) : CS X Γ w (.Pass pos) E := fun b G O σ H S D U => ⟨_, ps_pass, U.nx _ _ _ _ _ _ S h⟩
theorem cs_if {c : Expr} {v : Bool} (hc : CT X Γ w c v w1) (h1 : v = true → CSS X Γ w1 ss E) (h2 : v = false → CSS X Γ w1 ss' E) : CS X Γ w (.If c ss ss' pos) E := fun b G O σ H S D U =>
  ⟨_, ps_if pt_rt pss_rss pss_rss, hc b G O σ H S _ fun G1 H1 s1 => by
    cases v with
    | true =>
      rw [if_pos rfl]
      exact h1 rfl b G1 O σ H1 (S.step s1) D U
    | false =>
      rw [if_neg Bool.false_ne_true]
      exact h2 rfl b G1 O σ H1 (S.step s1) D U⟩
/-! assignments -/
def SwOk (X : Cx) (tg e : Expr) (pos : Pos) : Prop := True
theorem cs_asg (fr : Cf X g N sc j) {x : Str} (i : Nat) (hi : N[i]? = some x) (hx : Loc sc x) (he : CE X Γ w e d w1) (h : E.nx (Γ.set i (.fz d)) w1) (hs : swapsWith e (some (.Name x p)) pos.line X.env = pure false := by rfl) (hf : X.fn x = true ∨ sc.names.lookup x = some .local := by first | exact .inl rfl | exact .inr rfl | assumption) :
    CS X Γ w (.Assign [.Name x p] e pos) E := fun b G O σ H S D U =>
  ⟨_, ps_set (i := i) (by rw [fr.hN]; exact fr.nd) (by rw [fr.hN]; exact hi) (by rw [fr.hsc]; exact hx) pe_re hs (by rw [fr.hsc]; exact hf), he b G O σ H S _ fun v G1 H1 s1 r1 => U.nx _ _ _ _ _ _ ((S.step s1).put r1 i) h⟩
theorem Sat.putO {K : Frag} {b : Bs} {G H : Hp} {O : Own} {σ : St} (S : Sat K b Γ w G O σ H) {q : Addr} {vs : List V} (i : Nat) (hq : H q = some (.lst vs)) (hG : G q = none) (hB : b.B0 q = none) (hs : some q ≠ b.sa) (hO : O q = none) (r : Reps K G vs l) (z : l.length ≤ LM) :
    Sat K b (Γ.set i (.ow l)) w G (fun a => if a = q then some i else O a) (σ.set i (some (.ref q))) H := by
  refine { toWor := S.toWor, len := by simpa using S.len, own := fun a k h => ?_, slots := fun m s e => ?_ }
  · by_cases ha : a = q
    · subst ha
      exact ⟨hG, hB, hs, by rw [hq]; exact fun z => by cases z⟩
    · rw [if_neg ha] at h
      exact S.own a k h
  · by_cases hm : i = m
    · subst hm
      have hi : i < Γ.length := by
        rcases Nat.lt_or_ge i Γ.length with h | h
        · exact h
        · rw [List.getElem?_eq_none (by simpa using h)] at e; cases e
      rw [List.getElem?_set_self hi] at e
      cases Option.some.inj e
      exact ⟨_, List.getElem?_set_self (by rw [S.len]; exact hi), q, vs, rfl, if_pos rfl, hq, r, z⟩
    · rw [List.getElem?_set_ne hm] at e
      rw [List.getElem?_set_ne hm]
      obtain ⟨x, hx, ok⟩ := S.slots m s e
      have nq : ∀ a, O a = some m → a ≠ q := fun a h z => by subst z; rw [hO] at h; cases h
      have imp : ∀ a, O a = some m → (if a = q then some i else O a) = some m := fun a h => by rw [if_neg (nq a h)]; exact h
      refine ⟨x, hx, ?_⟩
      cases s with
      | un => trivial
      | fz d => exact ok
      | ow l => obtain ⟨p, vs, e, o, hp, r⟩ := ok; exact ⟨p, vs, e, imp _ o, hp, r⟩
      | ow2 ls =>
        obtain ⟨p, ps, e, o, hp, z, h1, h2, h3⟩ := ok
        refine ⟨p, ps, e, imp _ o, hp, z, h1, h2, fun j c hc => ?_⟩
        obtain ⟨oq, r⟩ := h3 j c hc
        exact ⟨imp _ oq, r⟩
      | oi p C fs => obtain ⟨dx, fv, e, o, hp, r⟩ := ok; exact ⟨dx, fv, e, imp _ o, hp, r⟩
/-- name = a new list that will be changed -/
theorem cs_asgO (fr : Cf X g N sc j) {x : Str} (i : Nat) (hi : N[i]? = some x) (hx : Loc sc x) (he : CF X Γ w e l w1) (h : E.nx (Γ.set i (.ow l)) w1) (hs : swapsWith e (some (.Name x p)) pos.line X.env = pure false := by rfl) (hf : X.fn x = true ∨ sc.names.lookup x = some .local := by first | exact .inl rfl | exact .inr rfl | assumption) :
    CS X Γ w (.Assign [.Name x p] e pos) E := fun b G O σ H S D U =>
  ⟨_, ps_set (i := i) (by rw [fr.hN]; exact fr.nd) (by rw [fr.hN]; exact hi) (by rw [fr.hsc]; exact hx) pe_re hs (by rw [fr.hsc]; exact hf), he b G O σ H S _ fun q vs G1 H1 s1 nq hG hq r1 z => by
    have S1 := S.step s1
    have nB : b.B0 q = none := by
      cases e : b.B0 q with
      | none => rfl
      | some u => rw [hide_sub (S.all q u e)] at nq; cases nq
    have ns : some q ≠ b.sa := by
      rw [← S.ad]
      intro e
      cases w with
      | none => cases e
      | some c =>
        obtain ⟨s0, x0, y0⟩ := c
        cases e
        exact S.wok.ne nq _ x0 y0 rfl rfl
    have nO : O q = none := by
      cases e : O q with
      | none => rfl
      | some k => exact absurd nq (S.own q k e).2.2.2
    exact U.nx _ _ _ _ _ _ (S1.putO i hq hG nB ns nO r1 z) h⟩
end
/-! ### the rule of a def -/
section
variable {P : Program} {wd : World} {K : PySem.W.Frag} {mg : Str → Option Value} {base : Heap}
theorem sat_start {vs : List V} {ds : List Dat} {w : Wd} {G H : Hp} {n : Nat} (hw : WOk w H) (hG : Ext G (hide w H)) (r : Reps K G vs ds) :
    Sat K ⟨hide w H, G, w.map (·.1)⟩ (ds.map Slot.fz ++ List.replicate n .un) w G (fun _ => none) (vs.map some ++ List.replicate n none) H := by
  refine { ad := rfl, gx := Ext.rfl', new := fun _ _ => rfl, gle := hG, all := Ext.rfl', wok := hw, len := by simp [r.length], own := fun a i h => (by cases h), slots := fun i s e => ?_ }
  have hl := r.length
  by_cases hi : i < ds.length
  · rw [List.getElem?_append_left (by simpa using hi), List.getElem?_map] at e
    rw [List.getElem?_append_left (by simpa [hl] using hi), List.getElem?_map]
    cases q : ds[i]? with
    | none => rw [q] at e; cases e
    | some d =>
      rw [q] at e
      cases Option.some.inj e
      obtain ⟨v, hv, rv⟩ := r.get q
      rw [hv]
      exact ⟨some v, rfl, v, rfl, rv⟩
  · rw [List.getElem?_append_right (by simpa using hi), List.getElem?_replicate] at e
    rw [List.getElem?_append_right (by simpa [hl] using hi), List.getElem?_replicate]
    simp only [List.length_map] at e ⊢
    rw [hl]
    by_cases q : i - ds.length < n
    · rw [if_pos q] at e ⊢
      cases Option.some.inj e
      exact ⟨none, rfl, trivial⟩
    · rw [if_neg q] at e
      cases e
/-- a def by its body, over data -/
theorem fn_data {x qual : Str} {params : Arguments} {body : List Stmt} {scope : Scope} {dvs : List V} {kws : List (Str × V)} {f : Addr} {fd : FuncData} {N ps : List Str} {k : Nat} {S : DS} (F : FunD K x qual params body scope dvs kws f fd) (sc : FnScope N ps scope)
    (len : ∀ ds w Q, S ds w Q → ds.length = ps.length)
    (h : ∀ (X : Cx), Cf X ⟨P, wd, K, mg, base⟩ N scope k → X.K = K → (∀ x, X.fn x = true) → X.stack = X.env :: X.outer → ∀ ds w Q, S ds w Q → CSS X (ds.map Slot.fz ++ List.replicate (N.length - ps.length) .un) w body { nx := fun _ w' => Q .non w', rt := Q }) :
    FnOk P wd K mg base CX0 (k + 1) f fd ps (spD K S) := by
  refine F.ok sc (fun vs H Q E hsp => ?_) (fun cdv A outer s H vs Q E hr hsp => ?_)
  · obtain ⟨ds, w, G, _, _, r, hS⟩ := hsp
    rw [r.length]
    exact len _ _ _ hS
  · obtain ⟨ds, w, G, hw, hG, r, hS⟩ := hsp
    have hl := len _ _ _ hS
    have hb := h (cxOf CX0 P wd K mg base N qual scope f cdv A outer s H E).nox ⟨rfl, rfl, rfl, sc.nd, rfl, hr, PassesOwn.never⟩ rfl (fun _ => rfl) rfl ds w _ hS
    have S0 : Sat K ⟨hide w H, G, w.map (·.1)⟩ (ds.map Slot.fz ++ List.replicate (N.length - ps.length) .un) w G (fun _ => none) (start N vs) H := by
      unfold L2.start
      rw [r.length, hl]
      exact sat_start hw hG r
    have q := hb _ G _ _ H S0 { nx := fun _ H' => Q .non H', rt := Q } ⟨fun Γ w' G' O σ H' S' z => z .non G' H' ⟨S'.ad, S'.all, S'.wok, S'.gx, S'.new, S'.gle⟩ .non,
      fun d w' G' v H' o r z => z v G' H' ⟨o.ad, o.all, o.wok, o.gx, o.new, o.gle⟩ r, fun _ _ _ _ _ _ _ _ _ _ _ _ z => z.elim, fun _ _ _ _ _ _ _ z => z.elim, fun _ _ _ _ _ _ _ z => z.elim⟩
    exact ⟨_, PSs.nox pss_rss, q⟩
/-- a promise of a def that hands back a new list -/
abbrev DSF := List Dat → Wd → (List Dat → Wd → Prop) → Prop
def spF (K : Frag) (S : DSF) : Sp := fun vs H Q _ => ∃ ds w G, WOk w H ∧ Ext G (hide w H) ∧ Reps K G vs ds ∧ S ds w fun l w' => ∀ p vs G' H', Stp w G H w' G' H' → hide w H p = none → G' p = none → H' p = some (.lst vs) → Reps K G' vs l → l.length ≤ LM → Q (.ref p) H'
theorem fn_dataF {x qual : Str} {params : Arguments} {body : List Stmt} {scope : Scope} {dvs : List V} {kws : List (Str × V)} {f : Addr} {fd : FuncData} {N ps : List Str} {k : Nat} {S : DSF} (F : FunD K x qual params body scope dvs kws f fd) (sc : FnScope N ps scope)
    (len : ∀ ds w Q, S ds w Q → ds.length = ps.length)
    (h : ∀ (X : Cx), Cf X ⟨P, wd, K, mg, base⟩ N scope k → X.K = K → (∀ x, X.fn x = true) → X.stack = X.env :: X.outer → ∀ ds w Q, S ds w Q → CSS X (ds.map Slot.fz ++ List.replicate (N.length - ps.length) .un) w body { nx := fun _ _ => False, rt := fun _ _ => False, rf := Q }) :
    FnOk P wd K mg base CX0 (k + 1) f fd ps (spF K S) := by
  refine F.ok sc (fun vs H Q E hsp => ?_) (fun cdv A outer s H vs Q E hr hsp => ?_)
  · obtain ⟨ds, w, G, _, _, r, hS⟩ := hsp
    rw [r.length]
    exact len _ _ _ hS
  · obtain ⟨ds, w, G, hw, hG, r, hS⟩ := hsp
    have hl := len _ _ _ hS
    have hb := h (cxOf CX0 P wd K mg base N qual scope f cdv A outer s H E).nox ⟨rfl, rfl, rfl, sc.nd, rfl, hr, PassesOwn.never⟩ rfl (fun _ => rfl) rfl ds w _ hS
    have S0 : Sat K ⟨hide w H, G, w.map (·.1)⟩ (ds.map Slot.fz ++ List.replicate (N.length - ps.length) .un) w G (fun _ => none) (start N vs) H := by
      unfold L2.start
      rw [r.length, hl]
      exact sat_start hw hG r
    have q := hb _ G _ _ H S0 { nx := fun _ H' => Q .non H', rt := Q } ⟨fun _ _ _ _ _ _ _ z => z.elim, fun _ _ _ _ _ _ _ z => z.elim,
      fun l w' G' p vs H' o h1 h2 h3 h4 h5 z => z p vs G' H' ⟨o.ad, o.all, o.wok, o.gx, o.new, o.gle⟩ h1 h2 h3 h4 h5, fun _ _ _ _ _ _ _ z => z.elim, fun _ _ _ _ _ _ _ z => z.elim⟩
    exact ⟨_, PSs.nox pss_rss, q⟩
/-- the rule of an __init__ -/
theorem init_data {x qual : Str} {params : Arguments} {body : List Stmt} {scope : Scope} {dvs : List V} {kws : List (Str × V)} {f : Addr} {fd : FuncData} {N ps : List Str} {k : Nat} {S : DI} {C : Addr} (F : FunD K x qual params body scope dvs kws f fd) (sc : FnScope N ps scope)
    (len : ∀ ds w Q, S ds w Q → ds.length + 1 = ps.length)
    (h : ∀ (X : Cx), Cf X ⟨P, wd, K, mg, base⟩ N scope k → X.K = K → (∀ x, X.fn x = true) → X.stack = X.env :: X.outer → ∀ (y : Addr) ds w Q, S ds w Q → CSS X (.oi y C [] :: (ds.map Slot.fz ++ List.replicate (N.length - ps.length) .un)) w body { nx := fun Γ w' => ∃ fs, Γ[0]? = some (.oi y C fs) ∧ Q fs w', rt := fun _ _ => False }) :
    FnOk P wd K mg base CX0 (k + 1) f fd ps (spI K C S) := by
  refine F.ok sc (fun vs H Q E hsp => ?_) (fun cdv A outer s H vs Q E hr hsp => ?_)
  · obtain ⟨y, dx, rest, ds, w, G, H1, e, _, _, _, _, _, _, r, hS⟩ := hsp
    rw [e, List.length_cons, r.length]
    exact len _ _ _ hS
  · obtain ⟨y, dx, rest, ds, w, G, H1, rfl, ny, ndx, ne, rfl, hw, hG, r, hS⟩ := hsp
    have hl := len _ _ _ hS
    have hb := h (cxOf CX0 P wd K mg base N qual scope f cdv A outer s (upd (upd H1 dx (.own y)) y (.ins C dx [])) E).nox ⟨rfl, rfl, rfl, sc.nd, rfl, hr, PassesOwn.never⟩ rfl (fun _ => rfl) rfl y ds w _ hS
    have n2 : upd H1 dx (.own y) y = none := by rw [upd_ne (Ne.symm ne)]; exact ny
    have s1 : Stp w G H1 w G (upd H1 dx (.own y)) := .newO hw hG ndx
    have s2 : Stp w G (upd H1 dx (.own y)) w G (upd (upd H1 dx (.own y)) y (.ins C dx [])) := .newO s1.wok s1.gle n2
    have s := s1.trans s2
    have ny' : y ∉ ([] : List Addr) := by simp
    have nw : some y ≠ w.map (·.1) := by
      intro e
      cases w with
      | none => cases e
      | some c => obtain ⟨s0, x0, y0⟩ := c; cases e; exact hw.ne ny _ x0 y0 rfl rfl
    have S0 : Sat K ⟨hide w H1, G, w.map (·.1)⟩ (.oi y C [] :: (ds.map Slot.fz ++ List.replicate (N.length - ps.length) .un)) w G (fun a => if a = y then some 0 else none) (start N (.ref y :: rest)) (upd (upd H1 dx (.own y)) y (.ins C dx [])) := by
      have S1 := sat_start (K := K) (n := N.length - ps.length) hw hG r
      have W1 := S1.toWor.step s
      refine { toWor := W1, len := ?_, own := fun a i ha => ?_, slots := fun i sl e => ?_ }
      · unfold L2.start
        simp [r.length]
        omega
      · by_cases q : a = y
        · subst q
          exact ⟨Ext.free hG (hide_free ny), hide_free ny, nw, by rw [upd_same]; exact fun z => by cases z⟩
        · rw [if_neg q] at ha
          cases ha
      · unfold L2.start
        have e0 : (N.length - (V.ref y :: rest).length) = N.length - ps.length := by rw [List.length_cons, r.length, hl]
        rw [e0, List.map_cons, List.cons_append]
        cases i with
        | zero =>
          cases Option.some.inj e
          exact ⟨_, rfl, dx, [], rfl, if_pos rfl, upd_same, .nil⟩
        | succ i =>
          obtain ⟨xx, hx, ok⟩ := S1.slots i sl (by simpa using e)
          refine ⟨xx, by simpa using hx, ?_⟩
          cases sl with
          | un => trivial
          | fz d => obtain ⟨v, ev, rv⟩ := ok; exact ⟨v, ev, rv⟩
          | ow l => obtain ⟨_, _, _, o, _⟩ := ok; cases o
          | ow2 l => obtain ⟨_, _, _, o, _⟩ := ok; cases o
          | oi p C fs => obtain ⟨_, _, _, o, _⟩ := ok; cases o
    have q := hb _ G _ _ _ S0 { nx := fun _ H' => Q .non H', rt := Q } ⟨fun Γ w' G' O' σ' H' S' z => ?_, fun _ _ _ _ _ _ _ z => z.elim,
      fun _ _ _ _ _ _ _ _ _ _ _ _ z => z.elim, fun _ _ _ _ _ _ _ z => z.elim, fun _ _ _ _ _ _ _ z => z.elim⟩
    · exact ⟨_, PSs.nox pss_rss, q⟩
    · obtain ⟨fs, h0, hq⟩ := z
      obtain ⟨xx, hx, dx', fv, e, o, hp, rf⟩ := S'.slots 0 _ h0
      exact hq G' H' dx' fv ⟨S'.ad, S'.all, S'.wok, S'.gx, S'.new, S'.gle⟩ (S'.own y 0 o).1 hp rf
end
end Fw
end

section
set_option Elab.async false
set_option linter.all false
set_option maxRecDepth 100000
set_option maxHeartbeats 2000000
/-! Fw5: targets, what is walked, for, comprehensions, while. -/
namespace Fw
open PySem PySem.Spec PyProof.Rows L2
theorem wipe_get {σ : St} : ∀ (vs : List Nat) (k : Nat), (wipe σ vs)[k]? = if k ∈ vs then (if k < σ.length then some none else none) else σ[k]?
  | [], k => by simp [wipe]
  | v :: vs, k => by
    show ((wipe σ vs).set v none)[k]? = _
    have ih := wipe_get (σ := σ) vs k
    by_cases e : v = k
    · subst e
      rw [List.getElem?_set, if_pos rfl, if_pos (List.mem_cons_self ..), wipe_length]
    · rw [List.getElem?_set_ne e, ih]
      simp only [List.mem_cons]
      by_cases m : k ∈ vs
      · rw [if_pos m, if_pos (Or.inr m)]
      · rw [if_neg m, if_neg (by rintro (z | z); exact e z.symm; exact m z)]
theorem wipe_same {σ σ' : St} {is vs : List Nat} (hl : σ'.length = σ.length) (h : ∀ k, k ∉ is → σ'[k]? = σ[k]?) (hs : ∀ i ∈ is, i ∈ vs) : wipe σ' vs = wipe σ vs := by
  refine List.ext_getElem? fun k => ?_
  rw [wipe_get, wipe_get, hl]
  by_cases m : k ∈ vs
  · rw [if_pos m, if_pos m]
  · rw [if_neg m, if_neg m, h k fun z => m (hs k z)]
def wipeD (Γ : List Slot) : List Nat → List Slot
  | [] => Γ
  | v :: vs => (wipeD Γ vs).set v .un
theorem Sat.wipe {K : Frag} {b : Bs} {Γ : List Slot} {w : Wd} {G H : Hp} {O : Own} {σ : St} (S : Sat K b Γ w G O σ H) : ∀ vs : List Nat, Sat K b (wipeD Γ vs) w G O (L2.wipe σ vs) H
  | [] => S
  | v :: vs => (Sat.wipe S vs).drop none v
theorem Sat.rebase {K : Frag} {b : Bs} {Γ : List Slot} {w : Wd} {G H : Hp} {O : Own} {σ : St} (S : Sat K b Γ w G O σ H) : Sat K { b with B := G } Γ w G O σ H :=
  { ad := S.ad, gx := Ext.rfl', new := fun _ _ => rfl, gle := S.gle, all := S.all, wok := S.wok, len := S.len, own := S.own, slots := S.slots }
theorem Wor.unbase {b : Bs} {w w0 : Wd} {G H G0 H0 : Hp} (S : Wor { b with B := G0 } w G H) (W : Wor b w0 G0 H0) : Wor b w G H :=
  ⟨S.ad, W.gx.trans S.gx, fun a ha => (S.new a ha).trans (W.new a ha), S.gle, S.all, S.wok⟩
theorem Sat.unbase {K : Frag} {b : Bs} {Γ : List Slot} {w w0 : Wd} {G H G0 H0 : Hp} {O : Own} {σ : St} (S : Sat K { b with B := G0 } Γ w G O σ H) (W : Wor b w0 G0 H0) : Sat K b Γ w G O σ H ∧ Ext G0 G :=
  ⟨{ toWor := S.toWor.unbase W, len := S.len, own := S.own, slots := S.slots }, S.gx⟩
/-- a new address is nobody's -/
theorem Sat.nobody {K : Frag} {b : Bs} {Γ : List Slot} {w : Wd} {G H : Hp} {O : Own} {σ : St} (S : Sat K b Γ w G O σ H) {q : Addr} (nq : H q = none) : b.B0 q = none ∧ some q ≠ b.sa ∧ O q = none := by
  refine ⟨?_, ?_, ?_⟩
  · cases e : b.B0 q with
    | none => rfl
    | some u => rw [hide_sub (S.all q u e)] at nq; cases nq
  · rw [← S.ad]
    intro e
    cases w with
    | none => cases e
    | some c =>
      obtain ⟨s0, x0, y0⟩ := c
      cases e
      exact S.wok.ne nq _ x0 y0 rfl rfl
  · cases e : O q with
    | none => rfl
    | some k => exact absurd nq (S.own q k e).2.2.2
/-! ### targets: names, tuples of names -/
/-- the target's slots is are set; Γ' behind it -/
def CTg (X : Cx) (Γ : List Slot) (tg : Expr) (d : Dat) (is : List Nat) (Γ' : List Slot) : Prop := ∀ (b : Bs) (w : Wd) (G : Hp) (O : Own) (σ : St) (H : Hp) (v : V), Sat X.K b Γ w G O σ H → Rep X.K G v d → ∀ Q : St → Hp → Prop,
  (∀ σ', Sat X.K b Γ' w G O σ' H → σ'.length = σ.length → (∀ k, k ∉ is → σ'[k]? = σ[k]?) → Q σ' H) → RG X tg v σ H Q
def CTgs (X : Cx) (Γ : List Slot) (tgs : List Expr) (ds : List Dat) (is : List Nat) (Γ' : List Slot) : Prop := ∀ (b : Bs) (w : Wd) (G : Hp) (O : Own) (σ : St) (H : Hp) (vs : List V), Sat X.K b Γ w G O σ H → Reps X.K G vs ds → ∀ Q : St → Hp → Prop,
  (∀ σ', Sat X.K b Γ' w G O σ' H → σ'.length = σ.length → (∀ k, k ∉ is → σ'[k]? = σ[k]?) → Q σ' H) → RGs X tgs vs σ H Q
section
variable {X : Cx} {g : Gx} {N : List Str} {sc : Scope} {j k : Nat} {Γ Γ' Γ'' : List Slot} {w w1 w2 w' : Wd} {pos p apos : Pos} {a e o tg : Expr} {es tgs : List Expr} {d d1 d2 : Dat} {ds dd : List Dat} {l : List Dat} {is is' : List Nat}
theorem ctg_name (fr : Cf X g N sc j) {x : Str} (i : Nat) (hi : N[i]? = some x) (hx : Loc sc x) (hf : X.fn x = true ∨ sc.names.lookup x = some .local := by first | exact .inl rfl | exact .inr rfl | assumption) : CTg X Γ (.Name x p) d [i] (Γ.set i (.fz d)) := fun b w G O σ H v S r Q q =>
  ⟨_, pg_name (i := i) (by rw [fr.hN]; exact fr.nd) (by rw [fr.hN]; exact hi) (by rw [fr.hsc]; exact hx) (by rw [fr.hsc]; exact hf), q _ (S.put r i) (by simp) fun k hk => List.getElem?_set_ne (fun e => hk (by rw [e]; exact List.mem_singleton.mpr rfl))⟩
theorem ctgs_nil : CTgs X Γ [] [] [] Γ := fun b w G O σ H v S r Q q => ⟨_, pgs_nil, by cases r; exact ⟨rfl, q σ S rfl fun _ _ => rfl⟩⟩
theorem ctgs_cons (h1 : CTg X Γ tg d is Γ') (h2 : CTgs X Γ' tgs ds is' Γ'') (hs : (assignEach (tg :: tgs) X.env).map (·.2) = assign tg X.env :: (assignEach tgs X.env).map (·.2) := by rfl) : CTgs X Γ (tg :: tgs) (d :: ds) (is ++ is') Γ'' := fun b w G O σ H vs S r Q q => by
  refine ⟨_, pgs_cons pg_rg pgs_rgs hs, ?_⟩
  cases r with
  | cons r1 r2 =>
    refine ⟨_, _, rfl, h1 b w G O σ H _ S r1 _ fun σ1 S1 l1 e1 => h2 b w G O σ1 H _ S1 r2 _ fun σ2 S2 l2 e2 => q σ2 S2 (l2.trans l1) fun k hk => ?_⟩
    rw [e2 k fun z => hk (List.mem_append_right _ z), e1 k fun z => hk (List.mem_append_left _ z)]
theorem ctg_tup (fr : Cf X g N sc j) {m : Nat} (h : CTgs X Γ tgs ds is Γ') (hn : (assignEach tgs X.env).length = ds.length := by rfl) (hst : (assignEach tgs X.env).findIdx? (·.1) = none := by rfl) : CTg X Γ (.Tuple tgs m pos) (.tup ds) is Γ' := fun b w G O σ H v S r Q q => by
  refine ⟨_, pg_tup fr.calm pgs_rgs hn hst, ?_⟩
  cases r with
  | tup hs r z => exact ⟨_, _, rfl, hs.ext (S.gle.trans hide_ext), r.length, h b w G O σ H _ S r Q q⟩
/-! ### what is walked -/
def YD (K : Frag) (G : Hp) (ds : List Dat) : Nat → Hp → V → Hp → Prop := fun i H x H' => ∀ w G1, WOk w H → Ext G1 (hide w H) → Ext G G1 → ∃ G2 d, ds[i]? = some d ∧ Stp w G1 H w G2 H' ∧ Rep K G2 x d
def Wk (K : Frag) (G : Hp) (ds : List Dat) (J : It) : Prop := Walk J ds.length (fun H => Ext G H) (YD K G ds)
def CI (X : Cx) (Γ : List Slot) (w : Wd) (tg it : Expr) (ds : List Dat) (w' : Wd) : Prop := ∀ (b : Bs) (G : Hp) (O : Own) (σ : St) (H : Hp), Sat X.K b Γ w G O σ H → ∀ R : It → Hp → Prop, (∀ J G' H', Stp w G H w' G' H' → Wk X.K G' ds J → R J H') → RI X tg it σ H R
theorem yd_same {K : Frag} {G : Hp} {ds : List Dat} {i : Nat} {H : Hp} {x : V} {d : Dat} (hd : ds[i]? = some d) (r : Rep K G x d) : YD K G ds i H x H := fun w G1 hw hG e => ⟨G1, d, hd, .refl hw hG, r.mono e⟩
theorem wk_list {K : Frag} {G : Hp} {p : Addr} {vs : List V} {ds : List Dat} (h : G p = some (.lst vs)) (r : Reps K G vs ds) : Wk K G ds (Itl K p) := by
  have w0 : Walk (Itl K p) vs.length (fun H => SqL K H p vs) (YAt vs) := walk_list
  rw [r.length] at w0
  refine w0.mono (fun H e => SqL.of (e _ _ h)) fun i H x H' hi e y => ?_
  obtain ⟨rfl, hx⟩ := y
  obtain ⟨d, hd, rd⟩ := r.getV hx
  exact yd_same hd rd
theorem wk_tup {K : Frag} {G : Hp} {p : Addr} {vs : List V} {ds : List Dat} (h : SqT K G p vs) (r : Reps K G vs ds) : Wk K G ds (Itt K p) := by
  have w0 : Walk (Itt K p) vs.length (fun H => SqT K H p vs) (YAt vs) := walk_tup
  rw [r.length] at w0
  refine w0.mono (fun H e => h.ext e) fun i H x H' hi e y => ?_
  obtain ⟨rfl, hx⟩ := y
  obtain ⟨d, hd, rd⟩ := r.getV hx
  exact yd_same hd rd
/-- the ints lo, lo + 1, .. -/
def rgD (lo : Int) (n : Nat) : List Dat := (List.range n).map fun i => .int (lo + (i : Nat))
theorem rgD_len (lo : Int) (n : Nat) : (rgD lo n).length = n := by unfold rgD; simp
theorem rgD_at {lo : Int} {n i : Nat} (h : i < n) : (rgD lo n)[i]? = some (.int (lo + (i : Nat))) := by
  unfold rgD
  rw [List.getElem?_map, List.getElem?_range h]
  rfl
theorem wk_range {K : Frag} {G : Hp} (lo : Int) (n : Nat) : Wk K G (rgD lo n) (Itr lo n) := by
  have w0 : Walk (Itr lo n) n (fun _ => True) (YFn fun i => .int (lo + i)) := walk_range
  unfold Wk
  rw [rgD_len]
  refine w0.mono (fun _ _ => trivial) fun i H x H' hi e y => ?_
  obtain ⟨rfl, rfl⟩ := y
  exact yd_same (rgD_at hi) (.int _)
theorem yd_pair {K : Frag} {G : Hp} {ds : List Dat} {i : Nat} {H H' : Hp} {v : V} {xs ys : Nat → Option V} {d1 d2 : Dat} (y : YPair xs ys i H v H') (hd : ds[i]? = some (.tup [d1, d2])) (h1 : ∀ x, xs i = some x → Rep K G x d1) (h2 : ∀ x, ys i = some x → Rep K G x d2) : YD K G ds i H v H' := fun w G1 hw hG e => by
  obtain ⟨T, x, z, rfl, nT, rfl, ex, ey⟩ := y
  have s : Stp w G1 H w (upd G1 T (.tup [x, z])) (upd H T (.tup [x, z])) := .new' hw hG nT
  exact ⟨_, _, hd, s, .tup (SqT.of upd_same) (.cons ((h1 x ex).mono (e.trans s.gx)) (.cons ((h2 z ey).mono (e.trans s.gx)) .nil)) (by show 2 ≤ LM; decide)⟩
def zipD (ds es : List Dat) : List Dat := List.zipWith (fun a b => .tup [a, b]) ds es
theorem zipD_at {ds es : List Dat} {i : Nat} {a b : Dat} (h1 : ds[i]? = some a) (h2 : es[i]? = some b) : (zipD ds es)[i]? = some (.tup [a, b]) := by
  unfold zipD
  rw [List.getElem?_zipWith, h1, h2]
theorem wk_zipL {K : Frag} {G : Hp} {p q : Addr} {vs us : List V} {ds es : List Dat} (h : G p = some (.lst vs)) (r : Reps K G vs ds) (h' : G q = some (.lst us)) (r' : Reps K G us es) : Wk K G (zipD ds es) (Itz K p q) := by
  have w0 : Walk (Itz K p q) (min vs.length us.length) (fun H => SqL K H p vs ∧ SqL K H q us) (YPair (fun i => vs[i]?) (fun i => us[i]?)) := walk_zip rfl
  unfold Wk
  have el : (zipD ds es).length = min vs.length us.length := by unfold zipD; rw [List.length_zipWith, r.length, r'.length]
  rw [el]
  refine w0.mono (fun H e => ⟨SqL.of (e _ _ h), SqL.of (e _ _ h')⟩) fun i H x H' hi e y => ?_
  have l1 : i < ds.length := by rw [← r.length]; omega
  have l2 : i < es.length := by rw [← r'.length]; omega
  obtain ⟨v1, e1, r1⟩ := r.get (List.getElem?_eq_getElem l1)
  obtain ⟨v2, e2, r2⟩ := r'.get (List.getElem?_eq_getElem l2)
  refine yd_pair y (zipD_at (List.getElem?_eq_getElem l1) (List.getElem?_eq_getElem l2)) (fun x hx => ?_) (fun x hx => ?_)
  · rw [e1] at hx; cases hx; exact r1
  · rw [e2] at hx; cases hx; exact r2
theorem wk_zipT {K : Frag} {G : Hp} {p q : Addr} {vs us : List V} {ds es : List Dat} (h : SqT K G p vs) (r : Reps K G vs ds) (h' : SqT K G q us) (r' : Reps K G us es) : Wk K G (zipD ds es) (RZ.ItzT K p q) := by
  have el : (zipD ds es).length = min vs.length us.length := by unfold zipD; rw [List.length_zipWith, r.length, r'.length]
  have tuple_eq : ∀ {H : Hp} {a : Addr} {xs ys : List V}, SqT K H a xs → SqT K H a ys → True := fun _ _ => trivial
  refine ⟨fun i H hi e => ?_, fun H e => ?_, fun i H x H' hi e y => ?_⟩
  · rw [el] at hi
    exact ⟨vs, us, vs[i]'(by omega), us[i]'(by omega), h.ext e, h'.ext e, List.getElem?_eq_getElem _, List.getElem?_eq_getElem _⟩
  · exact ⟨vs, us, h.ext e, h'.ext e, by rw [el]; omega⟩
  · rw [el] at hi
    obtain ⟨T, x1, y1, rfl, nT, rfl, hh⟩ := y
    have ex := hh.1 vs (h.ext e)
    have ey := hh.2 us (h'.ext e)
    obtain ⟨d1, e1, r1⟩ := r.getV ex
    obtain ⟨d2, e2, r2⟩ := r'.getV ey
    exact yd_pair (xs := fun _ => some x1) (ys := fun _ => some y1) ⟨T, x1, y1, rfl, nT, rfl, rfl, rfl⟩ (zipD_at e1 e2) (fun x hx => by cases hx; exact r1) (fun x hx => by cases hx; exact r2)
def enD (ds : List Dat) : List Dat := List.zipWith (fun (i : Nat) b => .tup [.int i, b]) (List.range ds.length) ds
theorem enD_at {ds : List Dat} {i : Nat} {b : Dat} (h2 : ds[i]? = some b) : (enD ds)[i]? = some (.tup [.int (i : Nat), b]) := by
  unfold enD
  have hl : i < ds.length := (List.getElem?_eq_some_iff.mp h2).1
  rw [List.getElem?_zipWith, h2, List.getElem?_range hl]
theorem wk_enum {K : Frag} {G : Hp} {p : Addr} {vs : List V} {ds : List Dat} (h : G p = some (.lst vs)) (r : Reps K G vs ds) : Wk K G (enD ds) (Ite K p) := by
  have w0 : Walk (Ite K p) vs.length (fun H => SqL K H p vs) (YPair (fun i => some (.int (i : Nat))) (fun i => vs[i]?)) := walk_enum
  unfold Wk
  have el : (enD ds).length = vs.length := by unfold enD; simp [r.length]
  rw [el]
  refine w0.mono (fun H e => SqL.of (e _ _ h)) fun i H x H' hi e y => ?_
  have l1 : i < ds.length := by rw [← r.length]; omega
  obtain ⟨v1, e1, r1⟩ := r.get (List.getElem?_eq_getElem l1)
  refine yd_pair y (enD_at (List.getElem?_eq_getElem l1)) (fun x hx => by cases hx; exact .int _) (fun x hx => ?_)
  rw [e1] at hx; cases hx; exact r1
theorem ci_list (ha : CE X Γ w a (.lst ds) w1) : CI X Γ w tg a ds w1 := fun b G O σ H S R q =>
  ⟨_, pi_list pe_re, ha b G O σ H S _ fun v G1 H1 s1 r1 => by
    cases r1 with
    | lst h r z => exact ⟨_, rfl, ⟨_, SqL.of (hide_sub (s1.gle _ _ h))⟩, q _ G1 H1 s1 (wk_list h r)⟩⟩
theorem ci_tup (ha : CE X Γ w a (.tup ds) w1) : CI X Γ w tg a ds w1 := fun b G O σ H S R q =>
  ⟨_, pi_tup pe_re, ha b G O σ H S _ fun v G1 H1 s1 r1 => by
    cases r1 with
    | tup h r z => exact ⟨_, rfl, ⟨_, h.ext (s1.gle.trans hide_ext)⟩, q _ G1 H1 s1 (wk_tup h r)⟩⟩
theorem ci_range1 (bi : Bi g.mg) (fr : Cf X g N sc j) (hg : GlS sc "range") {n : Int} (ha : CA X Γ w [a] [.int n] w1) (hn : n ≤ LM) (hs : starEach [a] X.env = [(false, eval a X.env)] := by rfl) (h0 : 0 ≤ n := by omega) : CI X Γ w tg (.Call (.Name "range" p) [a] [] pos) (rgD 0 n.toNat) w1 := fun b G O σ H S R q =>
  ⟨_, pi_range1 (fr.gl hg) (fr.bi bi).range pa_ra hs, ha b G O σ H S _ fun vs G1 H1 s1 r1 => by
    cases r1 with
    | cons r1 r2 =>
      cases r1
      cases r2
      have hn' : n ≤ 100000 := hn
      exact ⟨n, rfl, by omega, by omega, q _ G1 H1 s1 (wk_range 0 _)⟩⟩
theorem ci_range2 (bi : Bi g.mg) (fr : Cf X g N sc j) (hg : GlS sc "range") {m n : Int} (ha : CA X Γ w [a, e] [.int m, .int n] w1) (hm : -LM ≤ m ∧ m ≤ LM) (hn : -LM ≤ n ∧ n ≤ LM) (hs : starEach [a, e] X.env = [(false, eval a X.env), (false, eval e X.env)] := by rfl) (hs2 : starEach [e] X.env = [(false, eval e X.env)] := by rfl) :
    CI X Γ w tg (.Call (.Name "range" p) [a, e] [] pos) (rgD m (n - m).toNat) w1 := fun b G O σ H S R q =>
  ⟨_, pi_range2 (fr.gl hg) (fr.bi bi).range pa_ra hs hs2, ha b G O σ H S _ fun vs G1 H1 s1 r1 => by
    cases r1 with
    | cons r1 r2 =>
      cases r1
      cases r2 with
      | cons r3 r4 =>
        cases r3
        cases r4
        have hm' : -100000 ≤ m ∧ m ≤ 100000 := hm
        have hn' : -100000 ≤ n ∧ n ≤ 100000 := hn
        exact ⟨m, n, rfl, ⟨by omega, by omega, by omega, by omega⟩, q _ G1 H1 s1 (wk_range m _)⟩⟩
theorem ci_zip (bi : Bi g.mg) (fr : Cf X g N sc j) (hg : GlS sc "zip") {tgs : List Expr} {m : Nat} {tp : Pos} {es : List Dat} (ha : CA X Γ w [a, e] [d1, d2] w1) (hd : (d1 = .lst ds ∧ d2 = .lst es) ∨ (d1 = .tup ds ∧ d2 = .tup es)) (hs : starEach [a, e] X.env = (false, eval a X.env) :: starEach [e] X.env := by rfl) (hs2 : ((backTo pos (starEach [e] X.env)).any fun x => x.1) = false := by rfl) :
    CI X Γ w (.Tuple tgs m tp) (.Call (.Name "zip" p) [a, e] [] pos) (zipD ds es) w1 := fun b G O σ H S R q =>
  ⟨_, RZ.pi_zipA (fr.gl hg) (fr.bi bi).zip pa_ra hs hs2, ha b G O σ H S _ fun vs G1 H1 s1 r1 => by
    cases r1 with
    | cons r1 r2 =>
      cases r2 with
      | cons r3 r4 =>
        cases r4
        rcases hd with ⟨rfl, rfl⟩ | ⟨rfl, rfl⟩
        · cases r1 with
          | lst h r z =>
            cases r3 with
            | lst h' r' z' => exact ⟨_, _, _, _, rfl, .inl ⟨SqL.of (hide_sub (s1.gle _ _ h)), SqL.of (hide_sub (s1.gle _ _ h')), q _ G1 H1 s1 (wk_zipL h r h' r')⟩⟩
        · cases r1 with
          | tup h r z =>
            cases r3 with
            | tup h' r' z' => exact ⟨_, _, _, _, rfl, .inr ⟨h.ext (s1.gle.trans hide_ext), h'.ext (s1.gle.trans hide_ext), q _ G1 H1 s1 (wk_zipT h r h' r')⟩⟩⟩
theorem ci_enum (bi : Bi g.mg) (fr : Cf X g N sc j) (hg : GlS sc "enumerate") {tgs : List Expr} {m : Nat} {tp : Pos} (ha : CA X Γ w [a] [.lst ds] w1) (hs : starEach [a] X.env = [(false, eval a X.env)] := by rfl) : CI X Γ w (.Tuple tgs m tp) (.Call (.Name "enumerate" p) [a] [] pos) (enD ds) w1 := fun b G O σ H S R q =>
  ⟨_, pi_enum (fr.gl hg) (fr.bi bi).enumerate pa_ra hs, ha b G O σ H S _ fun vs G1 H1 s1 r1 => by
    cases r1 with
    | cons r1 r2 =>
      cases r2
      cases r1 with
      | lst h r z => exact ⟨_, _, rfl, SqL.of (hide_sub (s1.gle _ _ h)), q _ G1 H1 s1 (wk_enum h r)⟩⟩
/-! ### for -/
theorem cs_for {body : List Stmt} {E : DE} (fr : Cf X g N sc j) (hi : CI X Γ w tg e ds w1) (I : Nat → List Slot → Wd → Prop) (h0 : I 0 Γ w1)
    (turn : ∀ i d Γ' w', ds[i]? = some d → I i Γ' w' → ∃ is Γ'', CTg X Γ' tg d is Γ'' ∧ CSS X Γ'' w' body { nx := I (i + 1), ct := I (i + 1), bk := E.nx, rt := E.rt, rf := E.rf })
    (done : ∀ Γ' w', I ds.length Γ' w' → E.nx Γ' w') (hs : ∀ x, foldedSetIterable e X.env x = pure x := by intro _; rfl) : CS X Γ w (.For tg e body [] pos) E := fun b G O σ H S D U => by
  refine ⟨_, ps_for fr.own fr.calm pi_ri pg_rg pss_rss hs, ?_⟩
  refine hi b G O σ H S _ fun J G1 H1 s1 wk => ?_
  refine for_it wk (fun i σ' H' => ∃ Γ' w' G' O', Sat X.K b Γ' w' G' O' σ' H' ∧ Ext G1 G' ∧ I i Γ' w') ⟨Γ, w1, G1, O, S.step s1, Ext.rfl', h0⟩ (fun i σ' H' hi ⟨Γ', w', G', O', S', e', _⟩ => e'.trans (S'.gle.trans hide_ext)) ?_ fun σ' H' ⟨Γ', w', G', O', S', e', h'⟩ => U.nx _ _ _ _ _ _ S' (done _ _ h')
  rintro i x σ' H' H'' hi ⟨Γ', w', G', O', S', e', h'⟩ y
  obtain ⟨G2, d, hd, s2, rd⟩ := y w' G' S'.wok S'.gle e'
  obtain ⟨is, Γ'', tgd, bd⟩ := turn i d Γ' w' hd h'
  refine tgd b w' G2 O' σ' H'' x (S'.step s2) rd _ fun σ2 S2 _ _ => ?_
  have W0 := (S'.step s2).toWor
  refine bd { b with B := G2 } G2 O' σ2 H'' (S2.rebase) _ ⟨?_, ?_, ?_, ?_, ?_⟩
  · rintro Γ3 w3 G3 O3 σ3 H3 S3 h3
    obtain ⟨S4, e4⟩ := S3.unbase W0
    exact ⟨Γ3, w3, G3, O3, S4, (e'.trans s2.gx).trans e4, h3⟩
  · intro d3 w3 G3 v3 H3 S3 r3 h3
    exact U.rt d3 w3 G3 v3 H3 (S3.unbase W0) r3 h3
  · intro l3 w3 G3 p3 vs3 H3 S3 n1 n2 n3 n4 n5 h3
    exact U.rf l3 w3 G3 p3 vs3 H3 (S3.unbase W0) n1 n2 n3 n4 n5 h3
  · rintro Γ3 w3 G3 O3 σ3 H3 S3 h3
    exact U.nx _ _ _ _ _ _ (S3.unbase W0).1 h3
  · rintro Γ3 w3 G3 O3 σ3 H3 S3 h3
    obtain ⟨S4, e4⟩ := S3.unbase W0
    exact ⟨Γ3, w3, G3, O3, S4, (e'.trans s2.gx).trans e4, h3⟩
/-! ### while -/
theorem cs_while {body : List Stmt} {E : DE} (fr : Cf X g N sc j) (I : Nat → List Slot → Wd → Prop) (m0 : Nat) (h0 : I m0 Γ w)
    (turn : ∀ m Γ' w', I m Γ' w' → ∃ c w'', CT X Γ' w' e c w'' ∧ (c = true → CSS X Γ' w'' body { nx := fun Γ2 w2 => ∃ m', m' < m ∧ I m' Γ2 w2, ct := fun Γ2 w2 => ∃ m', m' < m ∧ I m' Γ2 w2, bk := E.nx, rt := E.rt, rf := E.rf }) ∧ (c = false → E.nx Γ' w'')) : CS X Γ w (.While e body [] pos) E := fun b G O σ H S D U => by
  refine ⟨_, ps_while fr.own pt_rt pss_rss, fun m σ' H' => ∃ Γ' w' G' O', Sat X.K b Γ' w' G' O' σ' H' ∧ I m Γ' w', ⟨m0, Γ, w, G, O, S, h0⟩, ?_⟩
  rintro m σ' H' ⟨Γ', w', G', O', S', h'⟩
  obtain ⟨c, w'', hc, ht, hf⟩ := turn m Γ' w' h'
  refine hc b G' O' σ' H' S' _ fun G1 H1 s1 => ?_
  cases c with
  | true =>
    rw [if_pos rfl]
    refine ⟨fun σ2 H2 => ∃ m', m' < m ∧ ∃ Γ' w' G' O', Sat X.K b Γ' w' G' O' σ2 H2 ∧ I m' Γ' w', fun σ2 H2 z => z, ?_⟩
    refine ht rfl b G1 O' σ' H1 (S'.step s1) _ ⟨?_, U.rt, U.rf, U.nx, ?_⟩
    · rintro Γ3 w3 G3 O3 σ3 H3 S3 ⟨m', hm, h3⟩
      exact ⟨m', hm, Γ3, w3, G3, O3, S3, h3⟩
    · rintro Γ3 w3 G3 O3 σ3 H3 S3 ⟨m', hm, h3⟩
      exact ⟨m', hm, Γ3, w3, G3, O3, S3, h3⟩
  | false =>
    rw [if_neg Bool.false_ne_true]
    exact U.nx _ _ _ _ _ _ (S'.step s1) (hf rfl)
/-! ### comprehensions -/
def RTs (X : Cx) (ifs : List Expr) : TT := fun σ H Q => ∃ t, PTs X ifs t ∧ t σ H Q
theorem pts_rts {ifs : List Expr} : PTs X ifs (RTs X ifs) := ⟨fun pins s σ H Q I ⟨_, h, q⟩ => h.run pins s σ H Q I q⟩
def CTs (X : Cx) (Γ : List Slot) (w : Wd) (ifs : List Expr) (c : Bool) (w' : Wd) : Prop := ∀ (b : Bs) (G : Hp) (O : Own) (σ : St) (H : Hp), Sat X.K b Γ w G O σ H → ∀ Q : Bool → Hp → Prop, (∀ G' H', Stp w G H w' G' H' → Q c H') → RTs X ifs σ H Q
theorem cts_nil : CTs X Γ w [] true w := fun b G O σ H S Q q => ⟨_, pts_nil, q _ _ S.refl⟩
theorem cts_one {c : Bool} (h : CT X Γ w e c w1) : CTs X Γ w [e] c w1 := fun b G O σ H S Q q => ⟨_, pts_one pt_rt, h b G O σ H S Q q⟩
/-- the frame of a comprehension's block -/
structure Blk (X : Cx) (g : Gx) (N : List Str) (sc scope : Scope) (j : Nat) (X' : Cx) : Prop where
  cf : Cf X' g N (relS scope sc) j
  K : X'.K = X.K
  mg : X'.mg = X.mg
  prog : X'.prog = X.prog
  w : X'.w = X.w
  base : X'.base = X.base
  fn : ∀ x, X'.fn x = true ↔ scope.names.lookup x = some .cell
theorem blk_of (fr : Cf X g N sc j) {scope : Scope} {s : Shared} {H : Hp} {C : Addr} {cl : List (Str × Addr)} {fp : List Addr} : Blk X g N sc scope j (X.blk s H scope (compEnvC scope cl C X.env) fp) where
  cf := ⟨fr.hg, fr.hN, by show relS scope X.env.scope = _; rw [fr.hsc], fr.nd, fr.calm, fr.room, PassesOwn.never⟩
  K := rfl
  mg := rfl
  prog := rfl
  w := rfl
  base := rfl
  fn := fun x => by
    show (scope.names.lookup x == some NameKind.cell) = true ↔ _
    exact beq_iff_eq
def bG (X : Cx) (g : Gx) (N : List Str) (sc scope : Scope) (j : Nat) (tg : Expr) : TG := fun v σ H Q => ∀ X', Blk X g N sc scope j X' → RG X' tg v σ H Q
def bT (X : Cx) (g : Gx) (N : List Str) (sc scope : Scope) (j : Nat) (ifs : List Expr) : TT := fun σ H Q => ∀ X', Blk X g N sc scope j X' → RTs X' ifs σ H Q
def bE (X : Cx) (g : Gx) (N : List Str) (sc scope : Scope) (j : Nat) (elt : Expr) : TE := fun σ H Q => ∀ X', Blk X g N sc scope j X' → RE X' elt σ H Q
/-- what a comprehension comes to: at turn i the world is W i and the list so far is out i -/
theorem lc_data {elt it : Expr} {ifs : List Expr} {scope : Scope} {own : List (Str × Nat)} (hi : CI X Γ w tg it ds w1) (hl : ds.length ≤ LM) (W : Nat → Wd) (out : Nat → List Dat) (hW : W 0 = w1) (ho : out 0 = [])
    (turn : ∀ i d, ds[i]? = some d → ∃ is Γ' c w2 d', (∀ k ∈ is, k ∈ own.map (·.2)) ∧ (c = true → out (i + 1) = out i ++ [d']) ∧ (c = false → w2 = W (i + 1) ∧ out (i + 1) = out i) ∧
      ∀ (X' : Cx), Blk X g N sc scope j X' → CTg X' (wipeD Γ (own.map (·.2))) tg d is Γ' ∧ CTs X' Γ' (W i) ifs c w2 ∧ (c = true → CE X' Γ' w2 elt d' (W (i + 1))))
    (b : Bs) (G : Hp) (O : Own) (σ : St) (H : Hp) (S : Sat X.K b Γ w G O σ H) (Q : VK) (q : ∀ p vs G' H', Stp w G H (W ds.length) G' H' → H p = none → G' p = none → H' p = some (.lst vs) → Reps X.K G' vs (out ds.length) → (out ds.length).length ≤ LM → Q (.ref p) H') :
    tLc (RI X tg it) (bG X g N sc scope j tg) (bT X g N sc scope j ifs) (bE X g N sc scope j elt) (own.map (·.2)) σ H Q := by
  have hol : ∀ i, i ≤ ds.length → (out i).length ≤ i := fun i => by
    induction i with
    | zero => intro _; rw [ho]; exact Nat.le_refl _
    | succ i ih =>
      intro h
      have ih := ih (by omega)
      obtain ⟨is, Γ', c, w2, d', _, h1, h2, _⟩ := turn i ds[i] (List.getElem?_eq_getElem (by omega))
      cases c with
      | true =>
        rw [h1 rfl, List.length_append]
        show _ + 1 ≤ _
        omega
      | false =>
        rw [(h2 rfl).2]
        omega
  refine hi b G O σ H S _ fun J G1 H1 s1 wk => ?_
  intro D nD
  have S1 := S.step s1
  refine lc_it (g := bG X g N sc scope j tg) (tt := bT X g N sc scope j ifs) (te := bE X g N sc scope j elt) wk (fun i H' => ∃ G' vs, Stp w1 G1 H1 (W i) G' H' ∧ G' D = none ∧ H' D = some (.lst vs) ∧ Reps X.K G' vs (out i)) ⟨G1, [], by rw [hW]; exact .newO s1.wok s1.gle nD, Ext.free s1.gle (hide_free nD), upd_same, by rw [ho]; exact .nil⟩
    (fun i H' hi ⟨G', vs, s2, _⟩ => s2.gx.trans (s2.gle.trans hide_ext)) ?_ fun H' ⟨G', vs, s2, gD, hD, r⟩ => q D vs G' H' (s1.trans s2) (s1.back nD) gD hD r (Nat.le_trans (hol _ (Nat.le_refl _)) hl)
  rintro i x H' H'' hlt ⟨G', vs, s2, gD, hD, r⟩ y
  obtain ⟨G2, d, hd, s3, rd⟩ := y (W i) G' s2.wok s2.gle s2.gx
  obtain ⟨is, Γ', c, w2, d', his, h1, h2, bd⟩ := turn i d hd
  have S3 := ((S1.step s2).step s3).wipe (own.map (·.2))
  -- the state's address is not D
  have nS : ∀ {w3 : Wd} {G3 H3 : Hp}, Stp w1 G1 H1 w3 G3 H3 → ∀ s i j, w3 = some (s, i, j) → D ≠ s := fun {w3 G3 H3} s3 s i j e => by
    have e3 : ∃ x' y', w1 = some (s, x', y') := by
      have := s3.ad
      rw [e] at this
      cases w1 with
      | none => cases this
      | some q0 => obtain ⟨s0, x0, y0⟩ := q0; cases this; exact ⟨x0, y0, rfl⟩
    obtain ⟨x', y', e3⟩ := e3
    exact s1.wok.ne nD s x' y' e3
  have s23 := s2.trans s3
  intro X' B
  obtain ⟨tgd, _, _⟩ := bd X' B
  refine tgd b (W i) G2 O _ H'' x (by rw [B.K]; exact S3) (by rw [B.K]; exact rd) _ fun σ2 S2 l2 e2 => ⟨?_, ?_⟩
  · rw [wipe_same l2 e2 his]
    refine List.ext_getElem? fun k => ?_
    rw [wipe_get, wipe_length]
    by_cases m : k ∈ own.map (·.2)
    · rw [if_pos m, wipe_get, if_pos m]
    · rw [if_neg m]
  · intro X2 B2
    obtain ⟨_, tsd, _⟩ := bd X2 B2
    refine tsd b G2 O σ2 H'' (by rw [B2.K]; rw [B.K] at S2; exact S2) _ fun G3 H3 s4 => ?_
    have s234 := s23.trans s4
    have dk : ∀ {w3 : Wd} {G3 H3 : Hp}, Stp (W i) G' H' w3 G3 H3 → G3 D = none ∧ H3 D = some (.lst vs) := fun {w3 G3 H3} t => by
      have h0 : hide (W i) H' D = some (.lst vs) := by rw [hide_ne (nS s2)]; exact hD
      exact ⟨by rw [t.new D (by rw [h0]; exact fun z => by cases z)]; exact gD, hide_sub (t.all _ _ h0)⟩
    cases c with
    | true =>
      rw [if_pos rfl]
      intro X4 B4
      obtain ⟨_, _, ed⟩ := bd X4 B4
      refine ed rfl b G3 O σ2 H3 (by rw [B4.K]; rw [B.K] at S2; exact S2.step s4) _ fun z G4 H4 s5 rz => ?_
      rw [B4.K] at rz
      have t := (s3.trans s4).trans s5
      obtain ⟨g4, h4⟩ := dk t
      have hlen := r.length
      have hz : vs.length < sizeLine := by
        have := hol i (by omega)
        have : ds.length ≤ 100000 := hl
        rw [hlen]
        exact Nat.lt_of_le_of_lt (by omega) (show (100000 : Nat) < sizeLine by decide)
      have su : Stp w1 G1 H1 (W (i + 1)) G4 H4 := s234.trans s5
      refine ⟨vs, h4, hz, G4, vs ++ [z], ?_, g4, upd_same, ?_⟩
      · have e1 : hide (W (i + 1)) (upd H4 D (.lst (vs ++ [z]))) = upd (hide (W (i + 1)) H4) D (.lst (vs ++ [z])) := hide_upd (nS su)
        have n0 : hide w1 H1 D = none := hide_free nD
        refine ⟨su.ad, ?_, fun s i' j' e => ?_, su.gx, su.new, ?_⟩
        · rw [e1]
          intro a u ha
          rw [upd_ne (by rintro rfl; rw [n0] at ha; cases ha)]
          exact su.all a u ha
        · rw [upd_ne (Ne.symm (nS su s i' j' e))]
          exact su.wok s i' j' e
        · rw [e1]
          intro a u ha
          rw [upd_ne (by rintro rfl; rw [g4] at ha; cases ha)]
          exact su.gle a u ha
      · rw [h1 rfl]
        exact (r.mono t.gx).append (.cons rz .nil)
    | false =>
      rw [if_neg Bool.false_ne_true]
      obtain ⟨e1, e3⟩ := h2 rfl
      subst e1
      obtain ⟨g4, h4⟩ := dk (s3.trans s4)
      exact ⟨G3, vs, s234, g4, h4, by rw [e3]; exact r.mono (s3.trans s4).gx⟩
theorem pgB (fr : Cf X g N sc j) {scope : Scope} (s : Shared) (H : Hp) (C : Addr) (cl : List (Str × Addr)) (fp : List Addr) : PG (X.blk s H scope (compEnvC scope cl C X.env) fp) tg (bG X g N sc scope j tg) := ⟨fun pins s' σ H v u Q I r h => pg_rg.run pins s' σ H v u Q I r (h _ (blk_of fr))⟩
theorem ptB (fr : Cf X g N sc j) {scope : Scope} {ifs : List Expr} (s : Shared) (H : Hp) (C : Addr) (cl : List (Str × Addr)) (fp : List Addr) : PTs (X.blk s H scope (compEnvC scope cl C X.env) fp) ifs (bT X g N sc scope j ifs) := ⟨fun pins s' σ H Q I h => pts_rts.run pins s' σ H Q I (h _ (blk_of fr))⟩
theorem peB (fr : Cf X g N sc j) {scope : Scope} (s : Shared) (H : Hp) (C : Addr) (cl : List (Str × Addr)) (fp : List Addr) : PE (X.blk s H scope (compEnvC scope cl C X.env) fp) e (bE X g N sc scope j e) := ⟨fun pins s' σ H Q I h => pe_re.run pins s' σ H Q I (h _ (blk_of fr))⟩
/-- the core of a comprehension, whatever its list is for -/
structure LcD (X : Cx) (g : Gx) (N : List Str) (sc : Scope) (j : Nat) (Γ : List Slot) (w : Wd) (elt tg it : Expr) (ifs : List Expr) (scope : Scope) (own : List (Str × Nat)) (l : List Dat) (w' : Wd) : Prop where
  ok : BlkOk N sc scope own
  sf : ∀ x, foldedSetIterable it X.env x = pure x
  go : ∀ (b : Bs) (G : Hp) (O : Own) (σ : St) (H : Hp), Sat X.K b Γ w G O σ H → ∀ Q : VK, (∀ p vs G' H', Stp w G H w' G' H' → H p = none → G' p = none → H' p = some (.lst vs) → Reps X.K G' vs l → l.length ≤ LM → Q (.ref p) H') →
    tLc (RI X tg it) (bG X g N sc scope j tg) (bT X g N sc scope j ifs) (bE X g N sc scope j elt) (own.map (·.2)) σ H Q
section
variable {elt it : Expr} {ifs : List Expr} {scope : Scope} {own : List (Str × Nat)}
theorem lcd (hi : CI X Γ w tg it ds w1) (hl : ds.length ≤ LM) (ok : BlkOk N sc scope own) (W : Nat → Wd) (out : Nat → List Dat) (hW : W 0 = w1) (ho : out 0 = [])
    (turn : ∀ i d, ds[i]? = some d → ∃ is Γ' c w2 d', (∀ k ∈ is, k ∈ own.map (·.2)) ∧ (c = true → out (i + 1) = out i ++ [d']) ∧ (c = false → w2 = W (i + 1) ∧ out (i + 1) = out i) ∧
      ∀ (X' : Cx), Blk X g N sc scope j X' → CTg X' (wipeD Γ (own.map (·.2))) tg d is Γ' ∧ CTs X' Γ' (W i) ifs c w2 ∧ (c = true → CE X' Γ' w2 elt d' (W (i + 1))))
    (hs : ∀ x, foldedSetIterable it X.env x = pure x := by intro _; rfl) : LcD X g N sc j Γ w elt tg it ifs scope own (out ds.length) (W ds.length) := ⟨ok, hs, lc_data hi hl W out hW ho turn⟩
theorem LcD.cf (fr : Cf X g N sc j) (h : LcD X g N sc j Γ w elt tg it ifs scope own l w1) : CF X Γ w (.ListComp elt [⟨tg, it, ifs, 0⟩] scope pos) l w1 := fun b G O σ H S Q q =>
  ⟨_, pe_lc fr.calm (by rw [fr.hN]; exact fr.nd) pi_ri (by rw [fr.hN, fr.hsc]; exact h.ok) (pgB fr) (ptB fr) (peB fr) h.sf, h.go b G O σ H S Q q⟩
/-- name = [..], the name a plain local -/
theorem LcD.asg {E : DE} (fr : Cf X g N sc j) {x : Str} (i : Nat) (hi : N[i]? = some x) (hx : sc.names.lookup x = some .local) (h : LcD X g N sc j Γ w elt tg it ifs scope own l w1) (hn : E.nx (Γ.set i (.fz (.lst l))) w1)
    (hsw : swapsWith (.ListComp elt [⟨tg, it, ifs, 0⟩] scope p) (some (.Name x apos)) pos.line X.env = pure true) : CS X Γ w (.Assign [.Name x apos] (.ListComp elt [⟨tg, it, ifs, 0⟩] scope p) pos) E := fun b G O σ H S D U =>
  ⟨_, ps_setLc (i := i) fr.calm (by rw [fr.hN]; exact fr.nd) (by rw [fr.hN]; exact hi) (by rw [fr.hsc]; exact hx) hsw pi_ri (by rw [fr.hN, fr.hsc]; exact h.ok) (pgB fr) (ptB fr) (peB fr) h.sf, h.go b G O σ H S _ fun q vs G1 H1 s1 nq hG hq r1 z => by
    have S1 := S.step s1
    have hs : hide w1 H1 q = some (.lst vs) := by
      rw [hide_ne fun s' x y e2 => ?_]
      · exact hq
      · have h0 : ∃ x0 y0, w = some (s', x0, y0) := by
          have := s1.ad
          rw [e2] at this
          cases w with
          | none => cases this
          | some q0 => obtain ⟨s0, x0, y0⟩ := q0; cases this; exact ⟨x0, y0, rfl⟩
        obtain ⟨x0, y0, h0⟩ := h0
        exact S.wok.ne nq s' x0 y0 h0
    have s2 := s1.freeze (hide_free nq) hG hs
    exact U.nx _ _ _ _ _ _ ((S.step s2).put (.lst upd_same (r1.mono (Ext.upd hG)) z) i) hn⟩
theorem LcD.asgO {E : DE} (fr : Cf X g N sc j) {x : Str} (i : Nat) (hi : N[i]? = some x) (hx : sc.names.lookup x = some .local) (h : LcD X g N sc j Γ w elt tg it ifs scope own l w1) (hn : E.nx (Γ.set i (.ow l)) w1)
    (hsw : swapsWith (.ListComp elt [⟨tg, it, ifs, 0⟩] scope p) (some (.Name x apos)) pos.line X.env = pure true) : CS X Γ w (.Assign [.Name x apos] (.ListComp elt [⟨tg, it, ifs, 0⟩] scope p) pos) E := fun b G O σ H S D U =>
  ⟨_, ps_setLc (i := i) fr.calm (by rw [fr.hN]; exact fr.nd) (by rw [fr.hN]; exact hi) (by rw [fr.hsc]; exact hx) hsw pi_ri (by rw [fr.hN, fr.hsc]; exact h.ok) (pgB fr) (ptB fr) (peB fr) h.sf, h.go b G O σ H S _ fun q vs G1 H1 s1 nq hG hq r1 z => by
    have S1 := S.step s1
    obtain ⟨nB, ns, nO⟩ := S.nobody nq
    exact U.nx _ _ _ _ _ _ (S1.putO i hq hG nB ns nO r1 z) hn⟩
theorem swLc (fr : Cf X g N sc j) (hk : sc.kind = .function) {x : Str} (hy : sc.names.lookup x = some .local) (hl : (apos.line == p.line) = true) (ha : (scope.names.any fun (n, k) => n == x && (k == .local || k == .cell)) = false) {ln : Nat} {gs : List Comprehension} :
    swapsWith (.ListComp elt gs scope p) (some (.Name x apos)) ln X.env = pure true := sw_true (by rw [fr.hsc]; exact hk) (by rw [fr.hsc]; exact hy) hl ha
end
end
end Fw
end

section
set_option Elab.async false
set_option linter.all false
set_option maxRecDepth 100000
set_option maxHeartbeats 2000000
/-! Fw6: typed walks, comprehensions and loops; lists changed; parallel assignments; the world. -/
namespace Fw
open PySem PySem.Spec PyProof.Rows L2
section
variable {X : Cx} {g : Gx} {N : List Str} {sc : Scope} {j k : Nat} {Γ Γ' Γ'' : List Slot} {w w1 w2 w' : Wd} {pos p apos : Pos} {a e o tg : Expr} {es tgs : List Expr} {d d1 d2 : Dat} {ds dd : List Dat} {l : List Dat} {is is' : List Nat} {α β : Type}
/-! ### typed items -/
theorem zipD_map {xs : List α} {ys : List β} {f : α → Dat} {g : β → Dat} : zipD (xs.map f) (ys.map g) = (xs.zip ys).map fun q => .tup [f q.1, g q.2] := by
  unfold zipD
  rw [List.zipWith_map, List.zip, List.map_zipWith]
theorem enD_map {xs : List α} {f : α → Dat} : enD (xs.map f) = xs.zipIdx.map fun q => .tup [.int (q.2 : Nat), f q.1] := by
  unfold enD
  refine List.ext_getElem? fun i => ?_
  rw [List.getElem?_zipWith, List.getElem?_map, List.getElem?_map, List.getElem?_zipIdx, List.length_map]
  by_cases h : i < xs.length
  · rw [List.getElem?_range h, List.getElem?_eq_getElem h]
    simp
  · rw [List.getElem?_eq_none (by simpa using h), List.getElem?_eq_none (by simpa using h)]
    rfl
theorem ci_zipM (bi : Bi g.mg) (fr : Cf X g N sc j) (hg : GlS sc "zip") {m : Nat} {tp : Pos} {xs : List α} {ys : List β} {f : α → Dat} {g : β → Dat} (ha : CA X Γ w [a, e] [d1, d2] w1) (hd : (d1 = .lst (xs.map f) ∧ d2 = .lst (ys.map g)) ∨ (d1 = .tup (xs.map f) ∧ d2 = .tup (ys.map g)))
    (hs : starEach [a, e] X.env = (false, eval a X.env) :: starEach [e] X.env := by rfl) (hs2 : ((backTo pos (starEach [e] X.env)).any fun x => x.1) = false := by rfl) :
    CI X Γ w (.Tuple tgs m tp) (.Call (.Name "zip" p) [a, e] [] pos) ((xs.zip ys).map fun q => .tup [f q.1, g q.2]) w1 := by
  rw [← zipD_map]
  exact ci_zip bi fr hg ha hd hs hs2
theorem ci_enumM (bi : Bi g.mg) (fr : Cf X g N sc j) (hg : GlS sc "enumerate") {m : Nat} {tp : Pos} {xs : List α} {f : α → Dat} (ha : CA X Γ w [a] [.lst (xs.map f)] w1) (hs : starEach [a] X.env = [(false, eval a X.env)] := by rfl) :
    CI X Γ w (.Tuple tgs m tp) (.Call (.Name "enumerate" p) [a] [] pos) (xs.zipIdx.map fun q => .tup [.int (q.2 : Nat), f q.1]) w1 := by
  rw [← enD_map]
  exact ci_enum bi fr hg ha hs
theorem ci_rangeN (bi : Bi g.mg) (fr : Cf X g N sc j) (hg : GlS sc "range") {n : Nat} (ha : CE X Γ w a (.int n) w1) (hn : n ≤ LM) (hs : starEach [a] X.env = [(false, eval a X.env)] := by rfl) : CI X Γ w tg (.Call (.Name "range" p) [a] [] pos) ((List.range n).map fun i => .int (i : Nat)) w1 := by
  have h := ci_range1 (tg := tg) (p := p) (pos := pos) bi fr hg (n := n) (ca_cons ha ca_nil hs) (by omega) hs (by omega)
  unfold rgD at h
  simpa using h
theorem ci_rangeL (bi : Bi g.mg) (fr : Cf X g N sc j) (hg : GlS sc "range") {m n : Nat} (ha : CE X Γ w a (.int m) w1) (he : CE X Γ w1 e (.int n) w2) (hm : m ≤ LM) (hn : n ≤ LM) (hs : starEach [a, e] X.env = [(false, eval a X.env), (false, eval e X.env)] := by rfl) (hs2 : starEach [e] X.env = [(false, eval e X.env)] := by rfl) :
    CI X Γ w tg (.Call (.Name "range" p) [a, e] [] pos) ((List.range (n - m)).map fun i => .int ((m + i : Nat) : Int)) w2 := by
  have h := ci_range2 (tg := tg) (p := p) (pos := pos) bi fr hg (m := m) (n := n) (ca_cons ha (ca_cons he ca_nil hs2) (by rw [hs, hs2])) (by omega) (by omega) hs hs2
  unfold rgD at h
  have e1 : ((n : Int) - m).toNat = n - m := by omega
  rw [e1] at h
  simpa using h
/-! ### comprehensions, typed -/
section
variable {elt it : Expr} {scope : Scope} {own : List (Str × Nat)} {xs : List α}
theorem lc_map {enc f : α → Dat} (hi : CI X Γ w tg it (xs.map enc) w1) (hl : xs.length ≤ LM) (ok : BlkOk N sc scope own)
    (turn : ∀ x ∈ xs, ∃ is Γ', (∀ k ∈ is, k ∈ own.map (·.2)) ∧ ∀ (X' : Cx), Blk X g N sc scope j X' → CTg X' (wipeD Γ (own.map (·.2))) tg (enc x) is Γ' ∧ CE X' Γ' w1 elt (f x) w1)
    (hs : ∀ x, foldedSetIterable it X.env x = pure x := by intro _; rfl) : LcD X g N sc j Γ w elt tg it [] scope own (xs.map f) w1 := by
  have h := lcd (g := g) (j := j) (elt := elt) (ifs := []) hi (by simpa using hl) ok (fun _ => w1) (fun i => (xs.take i).map f) rfl rfl (fun i d hd => ?_) hs
  · simpa using h
  · rw [List.getElem?_map] at hd
    cases hx : xs[i]? with
    | none => rw [hx] at hd; cases hd
    | some x =>
      rw [hx] at hd
      cases Option.some.inj hd
      obtain ⟨is, Γ', h1, h2⟩ := turn x (List.mem_of_getElem? hx)
      refine ⟨is, Γ', true, w1, f x, h1, fun _ => ?_, fun h => (by cases h), fun X' B => ⟨(h2 X' B).1, cts_nil, fun _ => (h2 X' B).2⟩⟩
      rw [List.take_succ, hx, List.map_append]
      rfl
theorem lc_filter {enc f : α → Dat} {pr : α → Bool} {c : Expr} (hi : CI X Γ w tg it (xs.map enc) w1) (hl : xs.length ≤ LM) (ok : BlkOk N sc scope own)
    (turn : ∀ x ∈ xs, ∃ is Γ', (∀ k ∈ is, k ∈ own.map (·.2)) ∧ ∀ (X' : Cx), Blk X g N sc scope j X' → CTg X' (wipeD Γ (own.map (·.2))) tg (enc x) is Γ' ∧ CT X' Γ' w1 c (pr x) w1 ∧ (pr x = true → CE X' Γ' w1 elt (f x) w1))
    (hs : ∀ x, foldedSetIterable it X.env x = pure x := by intro _; rfl) : LcD X g N sc j Γ w elt tg it [c] scope own ((xs.filter pr).map f) w1 := by
  have h := lcd (g := g) (j := j) (elt := elt) (ifs := [c]) hi (by simpa using hl) ok (fun _ => w1) (fun i => ((xs.take i).filter pr).map f) rfl rfl (fun i d hd => ?_) hs
  · simpa using h
  · rw [List.getElem?_map] at hd
    cases hx : xs[i]? with
    | none => rw [hx] at hd; cases hd
    | some x =>
      rw [hx] at hd
      cases Option.some.inj hd
      obtain ⟨is, Γ', h1, h2⟩ := turn x (List.mem_of_getElem? hx)
      refine ⟨is, Γ', pr x, w1, f x, h1, fun q => ?_, fun q => ⟨rfl, ?_⟩, fun X' B => ⟨(h2 X' B).1, cts_one (h2 X' B).2.1, (h2 X' B).2.2⟩⟩
      · show List.map f (List.filter pr (List.take (i + 1) xs)) = _
        rw [List.take_succ, hx, List.filter_append, List.map_append]
        simp [q]
      · show List.map f (List.filter pr (List.take (i + 1) xs)) = _
        rw [List.take_succ, hx, List.filter_append, List.map_append]
        simp [q]
/-- one after another, the world handed on -/
def mapW (g : α → Wd → β × Wd) : List α → Wd → List β × Wd
  | [], w => ([], w)
  | x :: r, w => ((g x w).1 :: (mapW g r (g x w).2).1, (mapW g r (g x w).2).2)
theorem mapW_append (g : α → Wd → β × Wd) : ∀ (xs ys : List α) (w : Wd), mapW g (xs ++ ys) w = ((mapW g xs w).1 ++ (mapW g ys (mapW g xs w).2).1, (mapW g ys (mapW g xs w).2).2)
  | [], ys, w => rfl
  | x :: r, ys, w => by
    show (_, _) = _
    simp only [List.append_eq, mapW_append g r ys]
    rfl
theorem mapW_len (g : α → Wd → β × Wd) : ∀ (xs : List α) (w : Wd), (mapW g xs w).1.length = xs.length
  | [], _ => rfl
  | x :: r, w => congrArg (· + 1) (mapW_len g r _)
theorem lc_mapW {enc : α → Dat} {f : β → Dat} {gf : α → Wd → β × Wd} (hi : CI X Γ w tg it (xs.map enc) w1) (hl : xs.length ≤ LM) (ok : BlkOk N sc scope own)
    (turn : ∀ x ∈ xs, ∀ w', w'.map (·.1) = w1.map (·.1) → ∃ is Γ', (∀ k ∈ is, k ∈ own.map (·.2)) ∧ ((gf x w').2.map (·.1) = w1.map (·.1)) ∧ ∀ (X' : Cx), Blk X g N sc scope j X' → CTg X' (wipeD Γ (own.map (·.2))) tg (enc x) is Γ' ∧ CE X' Γ' w' elt (f (gf x w').1) (gf x w').2)
    (hs : ∀ x, foldedSetIterable it X.env x = pure x := by intro _; rfl) : LcD X g N sc j Γ w elt tg it [] scope own ((mapW gf xs w1).1.map f) (mapW gf xs w1).2 := by
  have hw : ∀ i, i ≤ xs.length → ((mapW gf (xs.take i) w1).2).map (·.1) = w1.map (·.1) := fun i => by
    induction i with
    | zero => intro _; rfl
    | succ i ih =>
      intro h
      rw [List.take_succ, List.getElem?_eq_getElem (show i < xs.length by omega), mapW_append]
      obtain ⟨_, _, _, q, _⟩ := turn xs[i] (List.getElem_mem _) _ (ih (by omega))
      exact q
  have h := lcd (g := g) (j := j) (elt := elt) (ifs := []) hi (by simpa using hl) ok (fun i => (mapW gf (xs.take i) w1).2) (fun i => (mapW gf (xs.take i) w1).1.map f) rfl rfl (fun i d hd => ?_) hs
  · simpa using h
  · rw [List.getElem?_map] at hd
    cases hx : xs[i]? with
    | none => rw [hx] at hd; cases hd
    | some x =>
      rw [hx] at hd
      cases Option.some.inj hd
      have hil : i < xs.length := (List.getElem?_eq_some_iff.mp hx).1
      obtain ⟨is, Γ', h1, _, h2⟩ := turn x (List.mem_of_getElem? hx) _ (hw i (by omega))
      have e1 : xs.take (i + 1) = xs.take i ++ [x] := by rw [List.take_succ, hx]; rfl
      refine ⟨is, Γ', true, (mapW gf (xs.take i) w1).2, f (gf x (mapW gf (xs.take i) w1).2).1, h1, fun _ => ?_, fun h => (by cases h), fun X' B => ⟨(h2 X' B).1, cts_nil, fun _ => ?_⟩⟩
      · show (mapW gf (xs.take (i + 1)) w1).1.map f = _
        rw [e1, mapW_append, List.map_append]
        rfl
      · have q := (h2 X' B).2
        rw [e1, mapW_append]
        exact q
end
/-! ### for, typed -/
theorem cs_forT {body : List Stmt} {E : DE} {xs : List α} {enc : α → Dat} (fr : Cf X g N sc j) (hi : CI X Γ w tg e (xs.map enc) w1) (I : Nat → List Slot → Wd → Prop) (h0 : I 0 Γ w1)
    (turn : ∀ i x Γ' w', xs[i]? = some x → I i Γ' w' → ∃ is Γ'', CTg X Γ' tg (enc x) is Γ'' ∧ CSS X Γ'' w' body { nx := I (i + 1), ct := I (i + 1), bk := E.nx, rt := E.rt, rf := E.rf })
    (done : ∀ Γ' w', I xs.length Γ' w' → E.nx Γ' w') (hs : ∀ x, foldedSetIterable e X.env x = pure x := by intro _; rfl) : CS X Γ w (.For tg e body [] pos) E := by
  refine cs_for fr hi I h0 (fun i d Γ' w' hd h => ?_) (by simpa using done) hs
  rw [List.getElem?_map] at hd
  cases hx : xs[i]? with
  | none => rw [hx] at hd; cases hd
  | some x =>
    rw [hx] at hd
    cases Option.some.inj hd
    exact turn i x Γ' w' hx h
/-! ### an owned list changed -/
theorem Sat.wr {K : Frag} {b : Bs} {G H : Hp} {O : Own} {σ : St} {i : Nat} {q : Addr} {vs : List V} {l' : List Dat} (S : Sat K b Γ w G O σ H) (hx : σ[i]? = some (some (.ref q))) (ho : O q = some i) (hi : i < Γ.length) (r : Reps K G vs l') (z : l'.length ≤ LM)
    (hk : ∀ s, Γ[i]? = some s → ∃ l, s = .ow l) : Sat K b (Γ.set i (.ow l')) w G O σ (upd H q (.lst vs)) := by
  obtain ⟨g1, g2, g3, g4⟩ := S.own q i ho
  have ne := S.hidden ho
  refine { ad := S.ad, gx := S.gx, new := S.new, gle := ?_, all := ?_, wok := fun s x y e => ?_, len := by simpa using S.len, own := fun a m h => ?_, slots := fun m s e => ?_ }
  · rw [hide_upd ne]
    intro a u ha
    rw [upd_ne (by rintro rfl; rw [g1] at ha; cases ha)]
    exact S.gle a u ha
  · rw [hide_upd ne]
    intro a u ha
    rw [upd_ne (by rintro rfl; rw [g2] at ha; cases ha)]
    exact S.all a u ha
  · rw [upd_ne (Ne.symm (ne s x y e))]
    exact S.wok s x y e
  · obtain ⟨h1, h2, h3, h4⟩ := S.own a m h
    refine ⟨h1, h2, h3, ?_⟩
    by_cases q' : a = q
    · subst q'; rw [upd_same]; exact fun z => by cases z
    · rw [upd_ne q']; exact h4
  · by_cases hm : i = m
    · subst hm
      rw [List.getElem?_set_self hi] at e
      cases Option.some.inj e
      exact ⟨_, hx, q, vs, rfl, ho, upd_same, r, z⟩
    · rw [List.getElem?_set_ne hm] at e
      obtain ⟨x, hx', ok⟩ := S.slots m s e
      refine ⟨x, hx', ok.step Ext.rfl' fun a o ha hq => ?_⟩
      rw [upd_ne (by rintro rfl; rw [ho] at ha; cases ha; exact hm rfl)]
      exact hq
/-- x[i] = e -/
theorem cs_sub {E : DE} (fr : Cf X g N sc j) {x : Str} {i : Int} {n : Nat} (m : Nat) (hm : N[m]? = some x) (hv : Vis sc x) (he : CE X Γ w e d w1) (hd : Γ[m]? = some (.ow l)) (hi : CE X Γ w1 a (.int i) w2) (hn : ixN l.length i = some n) (h : E.nx (Γ.set m (.ow (l.set n d))) w2)
    (h1 : (x == ("__debug__" : Str)) = false := by decide) (h2 : (x == ("__classdict__" : Str)) = false := by decide) (hs : swapsWithSole [.Subscript (.Name x p) a apos] e pos.line X.env = pure false := by rfl) (hw : swappedStores [.Subscript (.Name x p) a apos] e X.env = pure none := by rfl)
    (ha : ∀ v, assign (.Subscript (.Name x p) a apos) X.env v = (do
      let ov ← holding [v] (eval (.Name x p) X.env)
      let iv ← holding [v, ov] (eval a X.env)
      standAt apos
      holding [v, ov, iv] (setItem ov iv v)
      release [v, ov, iv] []) := by intro _; rfl) : CS X Γ w (.Assign [.Subscript (.Name x p) a apos] e pos) E := fun b G O σ H S D U => by
  refine ⟨_, ps_asg pe_re (pg_sub (pe_var (i := m) (by rw [fr.hN]; exact hm) (by rw [fr.hsc]; exact hv) h1 h2) pe_re set_list ha) hs hw, ?_⟩
  refine he b G O σ H S _ fun v G1 H1 s1 r1 => ?_
  have S1 := S.step s1
  obtain ⟨_, hx, q, vs, rfl, ho, hq, r, z⟩ := S1.slots m _ hd
  refine ⟨.ref q, hx, ?_⟩
  refine hi b G1 O σ H1 S1 _ fun iv G2 H2 s2 r2 => ?_
  cases r2
  have S2 := S1.step s2
  obtain ⟨_, hx', q', vs', e', ho', hq', r', z'⟩ := S2.slots m _ hd
  rw [hx] at hx'
  cases Option.some.inj hx'
  cases e'
  have hml : m < Γ.length := (List.getElem?_eq_some_iff.mp hd).1
  refine ⟨q, vs', i, n, rfl, rfl, hq', by rw [r'.length]; exact hn, ?_⟩
  exact U.nx _ _ _ _ _ _ (S2.wr hx ho hml ((r'.set (r1.mono s2.gx) n)) (by rw [List.length_set]; exact z') fun s hs => by rw [hd] at hs; cases hs; exact ⟨_, rfl⟩) h
/-- x.append(e) -/
theorem cs_append {E : DE} (fr : Cf X g N sc j) {x : Str} (m : Nat) (hm : N[m]? = some x) (hv : Vis sc x) (hd : Γ[m]? = some (.ow l)) (he : CE X Γ w e d w1) (hz : l.length < LM) (h : E.nx (Γ.set m (.ow (l ++ [d]))) w1)
    (h1 : (x == ("__debug__" : Str)) = false := by decide) (h2 : (x == ("__classdict__" : Str)) = false := by decide)
    {q : Pos} (hbase : attributeBase (.Name x p) "append" X.env (eval (.Name x p) X.env) = eval (.Name x p) X.env := by rfl) (hst : starEach [e] X.env = (false, eval e X.env) :: starEach [] X.env := by rfl)
    (hl2 : (apos.endLine == q.line) = true := by rfl)
    (hfew : ((backTo q (starEach [e] X.env)).all (fun x => !x.1) && (backToKw q (keywordEach [] X.env)).all (fun x => x.1.isSome) && decide (([e] : List Expr).length + ([] : List Keyword).length + (if ([] : List Keyword).isEmpty then 0 else 1) < 30)) = true := by rfl) : CS X Γ w (.Expr (.Call (.Attribute (.Name x p) "append" apos) [e] [] q) pos) E := fun b G O σ H S D U => by
  obtain ⟨_, hx, p', vs, rfl, ho, hp, r, z⟩ := S.slots m _ hd
  refine ⟨_, ps_expr (pe_bm PySem.F.plainAttrs_list PySem.F.slot_list_append PySem.F.type_list_append mt_append (pe_var (i := m) (by rw [fr.hN]; exact hm) (by rw [fr.hsc]; exact hv) h1 h2) (pa_cons pe_re pa_nil hst) hbase hfew hl2 hst), .ref p', hx, .inl ⟨rfl, vs, SqL.of hp⟩, ?_⟩
  refine he b G O σ H S _ fun v G1 H1 s1 r1 => ?_
  have S1 := S.step s1
  have hp1 : H1 p' = some (.lst vs) := hide_sub (s1.all _ _ (by rw [S.hid ho]; exact hp))
  have hml : m < Γ.length := (List.getElem?_eq_some_iff.mp hd).1
  refine ⟨p', vs, v, rfl, rfl, hp1, by rw [r.length]; exact LM_lt (Nat.le_of_lt hz), ?_⟩
  exact U.nx _ _ _ _ _ _ (S1.wr hx ho hml ((r.mono s1.gx).append (.cons r1 .nil)) (by rw [List.length_append]; exact hz) fun s hs => by rw [hd] at hs; cases hs; exact ⟨_, rfl⟩) h
/-- an owned list is no more changed -/
theorem Sat.frz {K : Frag} {b : Bs} {G H : Hp} {O : Own} {σ : St} (m : Nat) (S : Sat K b Γ w G O σ H) (hd : Γ[m]? = some (.ow l)) : ∃ G' O', Sat K b (Γ.set m (.fz (.lst l))) w G' O' σ H := by
  obtain ⟨_, hx, q, vs, rfl, ho, hq, r, z⟩ := S.slots m _ hd
  obtain ⟨g1, g2, g3, g4⟩ := S.own q m ho
  have ne := S.hidden ho
  have hh : hide w H q = some (.lst vs) := by rw [hide_ne ne]; exact hq
  have eG : Ext G (upd G q (.lst vs)) := Ext.upd g1
  have gle : Ext (upd G q (.lst vs)) (hide w H) := fun a u ha => by
    by_cases e : a = q
    · subst e; rw [upd_same] at ha; cases ha; exact hh
    · rw [upd_ne e] at ha; exact S.gle a u ha
  refine ⟨upd G q (.lst vs), fun a => if a = q then none else O a, { ad := S.ad, gx := S.gx.trans eG, new := fun a ha => ?_, gle := gle, all := S.all, wok := S.wok, len := by simpa using S.len, own := fun a i h => ?_, slots := fun i s e => ?_ }⟩
  · rw [upd_ne (by rintro rfl; exact ha g2)]
    exact S.new a ha
  · by_cases e : a = q
    · rw [if_pos e] at h
      cases h
    · rw [if_neg e] at h
      obtain ⟨h1, h2, h3, h4⟩ := S.own a i h
      exact ⟨by rw [upd_ne e]; exact h1, h2, h3, h4⟩
  · have hml : m < Γ.length := (List.getElem?_eq_some_iff.mp hd).1
    by_cases hm : m = i
    · subst hm
      rw [List.getElem?_set_self hml] at e
      cases Option.some.inj e
      exact ⟨_, hx, _, rfl, .lst upd_same (r.mono eG) z⟩
    · rw [List.getElem?_set_ne hm] at e
      obtain ⟨x, hx', ok⟩ := S.slots i s e
      have imp : ∀ a, O a = some i → (if a = q then none else O a) = some i := fun a h => by
        rw [if_neg (by rintro rfl; rw [ho] at h; cases h; exact hm rfl)]
        exact h
      refine ⟨x, hx', ?_⟩
      cases s with
      | un => trivial
      | fz d => obtain ⟨v, ev, rv⟩ := ok; exact ⟨v, ev, rv.mono eG⟩
      | ow l => obtain ⟨p, vs, e, o, hp, r, z⟩ := ok; exact ⟨p, vs, e, imp _ o, hp, r.mono eG, z⟩
      | ow2 ls =>
        obtain ⟨p, ps, e, o, hp, z, h1, h2, h3⟩ := ok
        refine ⟨p, ps, e, imp _ o, hp, z, h1, h2, fun j c hc => ?_⟩
        obtain ⟨oq, nq, l, vs, e1, e2, e3, e4⟩ := h3 j c hc
        exact ⟨imp _ oq, nq, l, vs, e1, e2, e3.mono eG, e4⟩
      | oi p C fs => obtain ⟨dx, fv, e, o, hp, r⟩ := ok; exact ⟨dx, fv, e, imp _ o, hp, r.mono eG⟩
theorem css_frz {ss : List Stmt} {E : DE} (m : Nat) (hd : Γ[m]? = some (.ow l)) (h : CSS X (Γ.set m (.fz (.lst l))) w ss E) : CSS X Γ w ss E := fun b G O σ H S D U => by
  obtain ⟨G', O', S'⟩ := S.frz m hd
  exact h b G' O' σ H S' D U
/-! ### assignments of several -/
/-- what a value is for: frozen data, a new list -/
inductive Mo where
  | fz (d : Dat) | nw (l : List Dat)
def Mo.slot : Mo → Slot
  | .fz d => .fz d
  | .nw l => .ow l
def CMd (X : Cx) (Γ : List Slot) (w : Wd) (e : Expr) (m : Mo) (w' : Wd) : Prop := match m with
  | .fz d => CE X Γ w e d w'
  | .nw l => CF X Γ w e l w'
/-- the value v is at hand for m, from H on (made behind H0) -/
def MV (K : Frag) (w0 : Wd) (H0 : Hp) (G H : Hp) (v : V) : Mo → Prop
  | .fz d => Rep K G v d
  | .nw l => ∃ p vs, v = .ref p ∧ H0 p = none ∧ G p = none ∧ H p = some (.lst vs) ∧ Reps K G vs l ∧ l.length ≤ LM
theorem CMd.run {m : Mo} (h : CMd X Γ w e m w1) {b : Bs} {G H : Hp} {O : Own} {σ : St} (S : Sat X.K b Γ w G O σ H) {Q : VK} (q : ∀ v G' H', Stp w G H w1 G' H' → MV X.K w H G' H' v m → Q v H') : RE X e σ H Q := by
  cases m with
  | fz d => exact h b G O σ H S Q q
  | nw l => exact h b G O σ H S Q fun p vs G' H' s n g hp r z => q _ G' H' s ⟨p, vs, rfl, n, g, hp, r, z⟩
theorem Stp.ne_world {w w1 : Wd} {G H G1 H1 : Hp} {p : Addr} (s1 : Stp w G H w1 G1 H1) (hw : WOk w H) (n : H p = none) : ∀ s i j, w1 = some (s, i, j) → p ≠ s := fun s i j e => by
  have e3 : ∃ x' y', w = some (s, x', y') := by
    have := s1.ad
    rw [e] at this
    cases w with
    | none => cases this
    | some q0 => obtain ⟨s0, x0, y0⟩ := q0; cases this; exact ⟨x0, y0, rfl⟩
  obtain ⟨x', y', e3⟩ := e3
  exact hw.ne n s x' y' e3
theorem MV.step {K : Frag} {w0 w1 w2 : Wd} {G0 H0 G H G' H' : Hp} {v : V} {m : Mo} (s0 : Stp w0 G0 H0 w1 G H) (hw : WOk w0 H0) (h : MV K w0 H0 G H v m) (s : Stp w1 G H w2 G' H') : MV K w0 H0 G' H' v m := by
  cases m with
  | fz d => exact Rep.mono s.gx h
  | nw l =>
    obtain ⟨p, vs, e, n, g, hp, r, z⟩ := h
    have hh : hide w1 H p = some (.lst vs) := by rw [hide_ne (s0.ne_world hw n)]; exact hp
    exact ⟨p, vs, e, n, by rw [s.new p (by rw [hh]; exact fun z => by cases z)]; exact g, hide_sub (s.all _ _ hh), r.mono s.gx, z⟩
/-- two values put into two slots -/
theorem Sat.put2 {K : Frag} {b : Bs} {w0 : Wd} {G0 H0 G H : Hp} {O : Own} {σ : St} {v1 v2 : V} {m1 m2 : Mo} {i1 i2 : Nat} (S0 : Sat K b Γ w0 G0 O σ H0) (s : Stp w0 G0 H0 w G H) {H1 : Hp} (a1 : MV K w0 H0 G H v1 m1) (a2 : MV K w1 H1 G H v2 m2) (hne : ∀ p, H1 p = none → v1 = .ref p → v2 = .ref p → ∀ l, m1 = .nw l → False) (h10 : ∀ p, H1 p = none → H0 p = none) :
    ∃ O', Sat K b ((Γ.set i1 m1.slot).set i2 m2.slot) w G O' ((σ.set i1 (some v1)).set i2 (some v2)) H := by
  have S := S0.step s
  have hO : ∃ O1, Sat K b (Γ.set i1 m1.slot) w G O1 (σ.set i1 (some v1)) H ∧ ∀ p, O1 p ≠ none → O p ≠ none ∨ (v1 = .ref p ∧ ∃ l, m1 = .nw l) := by
    cases m1 with
    | fz d => exact ⟨O, S.put a1 i1, fun p h => .inl h⟩
    | nw l =>
      obtain ⟨p, vs, e, n, g, hp, r, z⟩ := a1
      subst e
      obtain ⟨nB, ns, nO⟩ := S0.nobody n
      refine ⟨_, S.putO i1 hp g nB ns nO r z, fun a ha => ?_⟩
      by_cases q : a = p
      · subst q; exact .inr ⟨rfl, l, rfl⟩
      · exact .inl (by simpa [q] using ha)
  obtain ⟨O1, S1, h1⟩ := hO
  cases m2 with
  | fz d => exact ⟨O1, S1.put a2 i2⟩
  | nw l =>
    obtain ⟨p, vs, e, n, g, hp, r, z⟩ := a2
    subst e
    obtain ⟨nB, ns, nO⟩ := S0.nobody (h10 p n)
    have nO1 : O1 p = none := by
      cases q : O1 p with
      | none => rfl
      | some k =>
        rcases h1 p (by rw [q]; exact fun z => by cases z) with z | ⟨z, l', z'⟩
        · exact absurd nO z
        · exact (hne p n z rfl l' z').elim
    exact ⟨_, S1.putO i2 hp g nB ns nO1 r z⟩
/-- x, y = a, e -/
theorem cs_asg2 {E : DE} (fr : Cf X g N sc j) {x y : Str} {px py pt : Pos} {kt k2 : Nat} {pt2 : Pos} {m1 m2 : Mo} (i1 i2 : Nat) (h1 : N[i1]? = some x) (h2 : N[i2]? = some y) (hne : i1 ≠ i2) (hx : Loc sc x) (hy : Loc sc y) (ha : CMd X Γ w a m1 w1) (he : CMd X Γ w1 e m2 w2) (h : E.nx ((Γ.set i1 m1.slot).set i2 m2.slot) w2)
    (hsw : (sc.names.lookup x = some .local ∧ sc.names.lookup y = some .local ∧ swappedStores [.Tuple [.Name x px, .Name y py] kt pt] (.Tuple [a, e] k2 pt2) X.env = pure (some [x, y])) ∨ swappedStores [.Tuple [.Name x px, .Name y py] kt pt] (.Tuple [a, e] k2 pt2) X.env = pure none)
    (hf : ∀ x, Loc sc x → X.fn x = true ∨ sc.names.lookup x = some .local)
    (hs : swapsWithSole [.Tuple [.Name x px, .Name y py] kt pt] (.Tuple [a, e] k2 pt2) pos.line X.env = pure false := by rfl) (hst : starEach [a, e] X.env = (false, eval a X.env) :: starEach [e] X.env := by rfl) (hst2 : starEach [e] X.env = (false, eval e X.env) :: starEach [] X.env := by rfl)
    (hn : (assignEach [.Name x px, .Name y py] X.env).length = 2 := by rfl) (hni : (assignEach [.Name x px, .Name y py] X.env).findIdx? (·.1) = none := by rfl)
    (hg1 : (assignEach [.Name x px, .Name y py] X.env).map (·.2) = assign (.Name x px) X.env :: (assignEach [.Name y py] X.env).map (·.2) := by rfl) (hg2 : (assignEach [.Name y py] X.env).map (·.2) = assign (.Name y py) X.env :: (assignEach [] X.env).map (·.2) := by rfl)
    (hA : (assignEach [.Tuple [.Name x px, .Name y py] kt pt] X.env).map (·.2) = [assign (.Tuple [.Name x px, .Name y py] kt pt) X.env] := by rfl) :
    CS X Γ w (.Assign [.Tuple [.Name x px, .Name y py] kt pt] (.Tuple [a, e] k2 pt2) pos) E := fun b G O σ H S D U => by
  have N1 : X.N[i1]? = some x := by rw [fr.hN]; exact h1
  have N2 : X.N[i2]? = some y := by rw [fr.hN]; exact h2
  have nd : X.N.Nodup := by rw [fr.hN]; exact fr.nd
  have lx : Loc X.env.scope x := by rw [fr.hsc]; exact hx
  have ly : Loc X.env.scope y := by rw [fr.hsc]; exact hy
  have core : ∀ R : List V → Hp → Prop, (∀ v1 v2 G2 H2, Stp w G H w2 G2 H2 → (∃ O', Sat X.K b ((Γ.set i1 m1.slot).set i2 m2.slot) w2 G2 O' ((σ.set i1 (some v1)).set i2 (some v2)) H2) → R [v1, v2] H2) → tCons (RE X a) (tCons (RE X e) tNil) σ H R := fun R q => by
    refine ha.run S fun v1 G1 H1 s1 a1 => ?_
    refine he.run (S.step s1) fun v2 G2 H2 s2 a2 => ?_
    refine q v1 v2 G2 H2 (s1.trans s2) ?_
    refine S.put2 (s1.trans s2) (a1.step s1 S.wok s2) a2 (fun p hp e1 e2 l el => ?_) fun p hp => s1.back hp
    subst el
    obtain ⟨p', vs, e', _, _, hp', _⟩ := a1
    rw [e1] at e'
    cases e'
    rw [hp] at hp'
    cases hp'
  rcases hsw with ⟨l1, l2, hsw⟩ | hsw
  · refine ⟨_, ps_par (i := i1) (j := i2) fr.calm nd N1 N2 hne (by rw [fr.hsc]; exact l1) (by rw [fr.hsc]; exact l2) (pa_cons pe_re (pa_cons pe_re pa_nil hst2) hst) hsw hs, ?_⟩
    exact core _ fun v1 v2 G2 H2 s ⟨O', S'⟩ => ⟨v1, v2, rfl, U.nx _ _ _ _ _ _ S' h⟩
  · refine ⟨_, ps_asg (pe_tup (pa_cons pe_re (pa_cons pe_re pa_nil hst2) hst)) (pg_tup fr.calm (pgs_cons (pg_name (i := i1) nd N1 lx (by rw [fr.hsc]; exact hf x hx)) (pgs_cons (pg_name (i := i2) nd N2 ly (by rw [fr.hsc]; exact hf y hy)) pgs_nil hg2) hg1) hn hni) hs hsw hA, ?_⟩
    refine core (fun xs H1 => xs.length ≤ sizeLine ∧ ∀ p, H1 p = none → gTup X.K 2 (gCons (gName i1) (gCons (gName i2) gNil)) (.ref p) σ (upd H1 p (.tup xs)) D.nx) fun v1 v2 G2 H2 s ⟨O', S'⟩ => ⟨by show 2 ≤ sizeLine; decide, fun p hp => ⟨p, _, rfl, SqT.of upd_same, rfl, ⟨v1, _, rfl, ⟨v2, _, rfl, ⟨rfl, ?_⟩⟩⟩⟩⟩
    have s3 : Stp w2 G2 H2 w2 G2 (upd H2 p (.tup [v1, v2])) := .newO s.wok s.gle hp
    exact U.nx _ _ _ _ _ _ (S'.step s3) h
end
end Fw
end

section
set_option Elab.async false
set_option linter.all false
set_option maxRecDepth 100000
set_option maxHeartbeats 2000000
/-! Fw7: more targets, the world's own list, built-in functions, ints and truth values, operators of own classes. -/
namespace Fw
open PySem PySem.Spec PyProof.Rows L2
section
variable {X : Cx} {g : Gx} {N : List Str} {sc : Scope} {j k : Nat} {Γ Γ' Γ'' : List Slot} {w w1 w2 w' : Wd} {pos p apos : Pos} {a e o tg : Expr} {es tgs : List Expr} {d d1 d2 : Dat} {ds dd : List Dat} {l : List Dat} {is is' : List Nat} {α β : Type}
/-- (x, y, ..) = e -/
theorem cs_asgT {E : DE} (he : CE X Γ w e d w1) (ht : CTg X Γ tg d is Γ') (h : E.nx Γ' w1) (hs : swapsWithSole [tg] e pos.line X.env = pure false := by rfl) (hw : swappedStores [tg] e X.env = pure none := by rfl)
    (hA : (assignEach [tg] X.env).map (·.2) = [assign tg X.env] := by rfl) : CS X Γ w (.Assign [tg] e pos) E := fun b G O σ H S D U =>
  ⟨_, ps_asg pe_re pg_rg hs hw hA, he b G O σ H S _ fun v G1 H1 s1 r1 => ht b w1 G1 O σ H1 v (S.step s1) r1 _ fun σ' S' _ _ => U.nx _ _ _ _ _ _ S' h⟩
/-! ### targets that change an owned list -/
def CTm (X : Cx) (Γ : List Slot) (w : Wd) (tg : Expr) (d : Dat) (Γ' : List Slot) (w' : Wd) : Prop := ∀ (b : Bs) (G : Hp) (O : Own) (σ : St) (H : Hp) (v : V), Sat X.K b Γ w G O σ H → Rep X.K G v d → ∀ Q : St → Hp → Prop,
  (∀ σ' G' H', Sat X.K b Γ' w' G' O σ' H' → Ext G G' → Q σ' H') → RG X tg v σ H Q
def CTms (X : Cx) (Γ : List Slot) (w : Wd) (tgs : List Expr) (ds : List Dat) (Γ' : List Slot) (w' : Wd) : Prop := ∀ (b : Bs) (G : Hp) (O : Own) (σ : St) (H : Hp) (vs : List V), Sat X.K b Γ w G O σ H → Reps X.K G vs ds → ∀ Q : St → Hp → Prop,
  (∀ σ' G' H', Sat X.K b Γ' w' G' O σ' H' → Ext G G' → Q σ' H') → RGs X tgs vs σ H Q
theorem CTg.m (h : CTg X Γ tg d is Γ') : CTm X Γ w tg d Γ' w := fun b G O σ H v S r Q q => h b w G O σ H v S r Q fun σ' S' _ _ => q σ' G H S' Ext.rfl'
theorem ctm_sub (fr : Cf X g N sc j) {x : Str} {i : Int} {n : Nat} (m : Nat) (hm : N[m]? = some x) (hv : Vis sc x) (hd : Γ[m]? = some (.ow l)) (hi : CE X Γ w a (.int i) w2) (hn : ixN l.length i = some n)
    (h1 : (x == ("__debug__" : Str)) = false := by decide) (h2 : (x == ("__classdict__" : Str)) = false := by decide)
    (ha : ∀ v, assign (.Subscript (.Name x p) a apos) X.env v = (do
      let ov ← holding [v] (eval (.Name x p) X.env)
      let iv ← holding [v, ov] (eval a X.env)
      standAt apos
      holding [v, ov, iv] (setItem ov iv v)
      release [v, ov, iv] []) := by intro _; rfl) : CTm X Γ w (.Subscript (.Name x p) a apos) d (Γ.set m (.ow (l.set n d))) w2 := fun b G O σ H v S r1 Q q => by
  refine ⟨_, pg_sub (pe_var (i := m) (by rw [fr.hN]; exact hm) (by rw [fr.hsc]; exact hv) h1 h2) pe_re set_list ha, ?_⟩
  obtain ⟨_, hx, p', vs, rfl, ho, hq, r, z⟩ := S.slots m _ hd
  refine ⟨.ref p', hx, ?_⟩
  refine hi b G O σ H S _ fun iv G2 H2 s2 r2 => ?_
  cases r2
  have S2 := S.step s2
  obtain ⟨_, hx', q', vs', e', ho', hq', r', z'⟩ := S2.slots m _ hd
  rw [hx] at hx'
  cases Option.some.inj hx'
  cases e'
  have hml : m < Γ.length := (List.getElem?_eq_some_iff.mp hd).1
  refine ⟨p', vs', i, n, rfl, rfl, hq', by rw [r'.length]; exact hn, ?_⟩
  exact q _ _ _ (S2.wr hx ho hml ((r'.set (r1.mono s2.gx) n)) (by rw [List.length_set]; exact z') fun s hs => by rw [hd] at hs; cases hs; exact ⟨_, rfl⟩) s2.gx
theorem ctms_nil : CTms X Γ w [] [] Γ w := fun b G O σ H v S r Q q => ⟨_, pgs_nil, by cases r; exact ⟨rfl, q σ G H S Ext.rfl'⟩⟩
theorem ctms_cons (h1 : CTm X Γ w tg d Γ' w1) (h2 : CTms X Γ' w1 tgs ds Γ'' w2) (hs : (assignEach (tg :: tgs) X.env).map (·.2) = assign tg X.env :: (assignEach tgs X.env).map (·.2) := by rfl) : CTms X Γ w (tg :: tgs) (d :: ds) Γ'' w2 := fun b G O σ H vs S r Q q => by
  refine ⟨_, pgs_cons pg_rg pgs_rgs hs, ?_⟩
  cases r with
  | cons r1 r2 =>
    refine ⟨_, _, rfl, h1 b G O σ H _ S r1 _ fun σ1 G1 H1 S1 e1 => h2 b G1 O σ1 H1 _ S1 (r2.mono e1) _ fun σ2 G2 H2 S2 e2 => q σ2 G2 H2 S2 (e1.trans e2)⟩
/-- t1, t2, .. = e1, e2, .. -/
theorem cs_asgM {E : DE} (fr : Cf X g N sc j) {m : Nat} {tp : Pos} (he : CE X Γ w e (.tup ds) w1) (ht : CTms X Γ w1 tgs ds Γ' w2) (h : E.nx Γ' w2) (hs : swapsWithSole [.Tuple tgs m tp] e pos.line X.env = pure false := by rfl) (hw : swappedStores [.Tuple tgs m tp] e X.env = pure none := by rfl)
    (hn : (assignEach tgs X.env).length = ds.length := by rfl) (hst : (assignEach tgs X.env).findIdx? (·.1) = none := by rfl)
    (hA : (assignEach [.Tuple tgs m tp] X.env).map (·.2) = [assign (.Tuple tgs m tp) X.env] := by rfl) : CS X Γ w (.Assign [.Tuple tgs m tp] e pos) E := fun b G O σ H S D U => by
  refine ⟨_, ps_asg pe_re (pg_tup fr.calm pgs_rgs hn hst) hs hw hA, he b G O σ H S _ fun v G1 H1 s1 r1 => ?_⟩
  have S1 := S.step s1
  cases r1 with
  | tup hq r z =>
    refine ⟨_, _, rfl, hq.ext (s1.gle.trans hide_ext), r.length, ht b G1 O σ H1 _ S1 r _ fun σ' G' H' S' _ => U.nx _ _ _ _ _ _ S' h⟩
/-! ### the world's own list -/
theorem ce_state (fr : Cf X g N sc j) {x : Str} {s : Addr} {i0 i1 : Int} {i : Int} (m : Nat) (hm : N[m]? = some x) (hv : Vis sc x) (hd : Γ[m]? = some (.fz (.adr s))) (he : CE X Γ (some (s, i0, i1)) e (.int i) (some (s, i0, i1))) {r : Int} (hr : (i = 0 ∧ r = i0) ∨ (i = 1 ∧ r = i1)) (hs : PlainIx e := by exact fun _ _ => rfl)
    (h1 : (x == ("__debug__" : Str)) = false := by decide) (h2 : (x == ("__classdict__" : Str)) = false := by decide) : CE X Γ (some (s, i0, i1)) (.Subscript (.Name x p) e pos) (.int r) (some (s, i0, i1)) := fun b G O σ H S Q q => by
  obtain ⟨_, hx, v, rfl, rv⟩ := S.slots m _ hd
  cases rv
  refine ⟨_, pe_ix ix_list (pe_var (i := m) (by rw [fr.hN]; exact hm) (by rw [fr.hsc]; exact hv) h1 h2) pe_re hs, .ref s, hx, ?_⟩
  refine he b G O σ H S _ fun y G2 H2 s2 r2 => ?_
  cases r2
  refine ⟨s, _, i, .int r, rfl, rfl, SqL.of (s2.wok s i0 i1 rfl), ?_, q _ _ _ s2 (.int _)⟩
  rcases hr with ⟨rfl, rfl⟩ | ⟨rfl, rfl⟩ <;> rfl
theorem cs_state {E : DE} (fr : Cf X g N sc j) {x : Str} {s : Addr} {i0 i1 z i : Int} {j0 j1 : Int} (m : Nat) (hm : N[m]? = some x) (hv : Vis sc x) (hd : Γ[m]? = some (.fz (.adr s))) (he : CE X Γ (some (s, i0, i1)) e (.int z) (some (s, i0, i1))) (hi : CE X Γ (some (s, i0, i1)) a (.int i) (some (s, i0, i1)))
    (hr : (i = 0 ∧ j0 = z ∧ j1 = i1) ∨ (i = 1 ∧ j0 = i0 ∧ j1 = z)) (h : E.nx Γ (some (s, j0, j1)))
    (h1 : (x == ("__debug__" : Str)) = false := by decide) (h2 : (x == ("__classdict__" : Str)) = false := by decide) (hs : swapsWithSole [.Subscript (.Name x p) a apos] e pos.line X.env = pure false := by rfl) (hw : swappedStores [.Subscript (.Name x p) a apos] e X.env = pure none := by rfl)
    (ha : ∀ v, assign (.Subscript (.Name x p) a apos) X.env v = (do
      let ov ← holding [v] (eval (.Name x p) X.env)
      let iv ← holding [v, ov] (eval a X.env)
      standAt apos
      holding [v, ov, iv] (setItem ov iv v)
      release [v, ov, iv] []) := by intro _; rfl) : CS X Γ (some (s, i0, i1)) (.Assign [.Subscript (.Name x p) a apos] e pos) E := fun b G O σ H S D U => by
  refine ⟨_, ps_asg pe_re (pg_sub (pe_var (i := m) (by rw [fr.hN]; exact hm) (by rw [fr.hsc]; exact hv) h1 h2) pe_re set_list ha) hs hw, ?_⟩
  refine he b G O σ H S _ fun v G1 H1 s1 r1 => ?_
  cases r1
  have S1 := S.step s1
  obtain ⟨_, hx, v, rfl, rv⟩ := S1.slots m _ hd
  cases rv
  refine ⟨.ref s, hx, ?_⟩
  refine hi b G1 O σ H1 S1 _ fun iv G2 H2 s2 r2 => ?_
  cases r2
  have S2 := S1.step s2
  have hq := s2.wok s i0 i1 rfl
  have st : Stp (some (s, i0, i1)) G2 H2 (some (s, j0, j1)) G2 (upd H2 s (.lst [.int j0, .int j1])) := .world s2.wok s2.gle
  have e3 := U.nx _ _ _ _ _ _ (S2.step st) h
  rcases hr with ⟨rfl, rfl, rfl⟩ | ⟨rfl, rfl, rfl⟩
  · exact ⟨s, _, 0, 0, rfl, rfl, hq, rfl, e3⟩
  · exact ⟨s, _, 1, 1, rfl, rfl, hq, rfl, e3⟩
/-- the world begins: state = a new list of two ints -/
theorem css_world {E : DE} {ss : List Stmt} (fr : Cf X g N sc j) {x : Str} {i0 i1 : Int} (i : Nat) (hi : N[i]? = some x) (hx : Loc sc x) (he : CF X Γ none e [.int i0, .int i1] none) (hE : ∀ d w w', E.rt d w → E.rt d w') (hnx : ∀ Γ w, ¬ E.nx Γ w) (hbk : ∀ Γ w, ¬ E.bk Γ w) (hct : ∀ Γ w, ¬ E.ct Γ w) (hrf : ∀ d w, ¬ E.rf d w)
    (h : ∀ s, CSS X (Γ.set i (.fz (.adr s))) (some (s, i0, i1)) ss E) (hs : swapsWith e (some (.Name x p)) pos.line X.env = pure false := by rfl) (hf : X.fn x = true ∨ sc.names.lookup x = some .local := by first | exact .inl rfl | exact .inr rfl | assumption) :
    CSS X Γ none (.Assign [.Name x p] e pos :: ss) E := fun b G O σ H S D U => by
  refine ⟨_, pss_cons (ps_set (i := i) (by rw [fr.hN]; exact fr.nd) (by rw [fr.hN]; exact hi) (by rw [fr.hsc]; exact hx) pe_re hs (by rw [fr.hsc]; exact hf)) pss_rss, he b G O σ H S _ fun q vs G1 H1 s1 nq hG hq r1 z => ?_⟩
  have S1 := S.step s1
  obtain ⟨nB, ns, nO⟩ := S.nobody nq
  have evs : vs = [.int i0, .int i1] := by
    cases r1 with
    | cons r1 r2 =>
      cases r1
      cases r2 with
      | cons r3 r4 =>
        cases r3
        cases r4
        rfl
  subst evs
  have hsub : ∀ {F : Hp}, F q = none → Ext F H1 → Ext F (hide (some (q, i0, i1)) H1) := fun {F} n e a u ha => by
    show (if a = q then none else H1 a) = some u
    rw [if_neg (by rintro rfl; rw [n] at ha; cases ha)]
    exact e a u ha
  have S2 : Sat X.K ⟨b.B0, G1, some q⟩ (Γ.set i (.fz (.adr q))) (some (q, i0, i1)) G1 O (σ.set i (some (.ref q))) H1 := by
    have S3 := S1.put (.adr q) i
    refine { ad := rfl, gx := Ext.rfl', new := fun _ _ => rfl, gle := hsub hG S1.gle, all := hsub nB S1.all, wok := fun s x y e => by cases e; exact hq, len := S3.len, own := fun a m ha => ?_, slots := S3.slots }
    obtain ⟨h1, h2, h3, h4⟩ := S1.own a m ha
    exact ⟨h1, h2, fun e => (by cases e; rw [nO] at ha; cases ha), h4⟩
  refine h q _ G1 O _ H1 S2 D ⟨fun Γ w _ _ _ _ _ z => (hnx Γ w z).elim, fun d w' G' v H' W r z => ?_, fun l w' _ _ _ _ _ _ _ _ _ _ z => (hrf l w' z).elim, fun Γ w _ _ _ _ _ z => (hbk Γ w z).elim, fun Γ w _ _ _ _ _ z => (hct Γ w z).elim⟩
  refine U.rt d none G' v H' ⟨S1.ad, S1.gx.trans W.gx, fun a ha => (W.new a ha).trans (S1.new a ha), W.gle.trans hide_ext, W.all.trans hide_ext, fun s x y e => by cases e⟩ r (hE d w' none z)
/-! ### built-in functions -/
theorem ce_int1 (bi : Bi g.mg) (fr : Cf X g N sc j) (hg : GlS sc "int") {i : Int} (ha : CE X Γ w a d w1) (hd : d = .int i ∨ ∃ b, d = .bl b ∧ i = if b then 1 else 0) (hs : starEach [a] X.env = (false, eval a X.env) :: starEach [] X.env := by rfl) : CE X Γ w (.Call (.Name "int" p) [a] [] pos) (.int i) w1 := fun b G O σ H S Q q =>
  ⟨_, pe_callTy call_int1 (fr.gl hg) (fr.bi bi).int boot_int (pa_cons pe_re pa_nil hs) (he := hs), ha b G O σ H S _ fun v G1 H1 s1 r1 => by
    rcases hd with rfl | ⟨c, rfl, rfl⟩
    · cases r1
      exact .inl ⟨i, rfl, q _ _ _ s1 (.int _)⟩
    · cases r1
      exact .inr ⟨c, rfl, q _ _ _ s1 (.int _)⟩⟩
theorem ce_abs (bi : Bi g.mg) (fr : Cf X g N sc j) (hg : GlS sc "abs") {i : Int} (ha : CE X Γ w a (.int i) w1) (hs : starEach [a] X.env = (false, eval a X.env) :: starEach [] X.env := by rfl) : CE X Γ w (.Call (.Name "abs" p) [a] [] pos) (.int (if i < 0 then -i else i)) w1 := fun b G O σ H S Q q =>
  ⟨_, pe_callB call_abs (fr.gl hg) (fr.bi bi).abs (by decide +kernel) (pa_cons pe_re pa_nil hs) (he := hs), ha b G O σ H S _ fun v G1 H1 s1 r1 => by
    cases r1
    exact ⟨i, rfl, q _ _ _ s1 (.int _)⟩⟩
theorem reps_bl {K : Frag} {H : Hp} : ∀ {bs : List Bool} {vs : List V}, Reps K H vs (bs.map Dat.bl) → vs = bs.map V.bl
  | [], _, .nil => rfl
  | b :: bs, _, .cons r rs => by cases r; rw [reps_bl rs]; rfl
theorem reps_int {K : Frag} {H : Hp} : ∀ {bs : List Int} {vs : List V}, Reps K H vs (bs.map Dat.int) → vs = bs.map V.int
  | [], _, .nil => rfl
  | b :: bs, _, .cons r rs => by cases r; rw [reps_int rs]; rfl
theorem ce_all (bi : Bi g.mg) (fr : Cf X g N sc j) (hg : GlS sc "all") {bs : List Bool} (ha : CE X Γ w a (.lst (bs.map .bl)) w1) (hs : starEach [a] X.env = (false, eval a X.env) :: starEach [] X.env := by rfl) : CE X Γ w (.Call (.Name "all" p) [a] [] pos) (.bl (bs.all id)) w1 := fun b G O σ H S Q q =>
  ⟨_, pe_callB (cr_all fr.calm) (fr.gl hg) (fr.bi bi).all (by decide +kernel) (pa_cons pe_re pa_nil hs) (he := hs), ha b G O σ H S _ fun v G1 H1 s1 r1 => by
    cases r1 with
    | lst h r z => exact ⟨_, bs, rfl, by rw [← reps_bl r]; exact SqL.of (hide_sub (s1.gle _ _ h)), q _ _ _ s1 (.bl _)⟩⟩
theorem ce_any (bi : Bi g.mg) (fr : Cf X g N sc j) (hg : GlS sc "any") {bs : List Bool} (ha : CE X Γ w a (.lst (bs.map .bl)) w1) (hs : starEach [a] X.env = (false, eval a X.env) :: starEach [] X.env := by rfl) : CE X Γ w (.Call (.Name "any" p) [a] [] pos) (.bl (bs.any id)) w1 := fun b G O σ H S Q q =>
  ⟨_, pe_callB (cr_any fr.calm) (fr.gl hg) (fr.bi bi).any (by decide +kernel) (pa_cons pe_re pa_nil hs) (he := hs), ha b G O σ H S _ fun v G1 H1 s1 r1 => by
    cases r1 with
    | lst h r z => exact ⟨_, bs, rfl, by rw [← reps_bl r]; exact SqL.of (hide_sub (s1.gle _ _ h)), q _ _ _ s1 (.bl _)⟩⟩
/-! ### lists and tuples put together -/
theorem cf_cat {l2 : List Dat} (ha : CE X Γ w a (.lst l) w1) (he : CE X Γ w1 e (.lst l2) w2) (hz : l.length + l2.length ≤ LM) : CF X Γ w (.BinOp a .Add e pos) (l ++ l2) w2 := fun b G O σ H S Q q =>
  ⟨_, pe_op op_cat pe_re pe_re, by
    refine ha b G O σ H S _ fun x G1 H1 s1 r1 => ?_
    refine he b G1 O σ H1 (S.step s1) _ fun y G2 H2 s2 r2 => ?_
    cases r1.mono s2.gx with
    | lst h r z =>
      cases r2 with
      | lst h' r' z' =>
        refine ⟨_, _, _, _, rfl, rfl, hide_sub (s2.gle _ _ h), hide_sub (s2.gle _ _ h'), by rw [r.length, r'.length]; exact LM_le hz, CF.fin (b := b) q (s1.trans s2) (r.append r') (by rw [List.length_append]; exact hz)⟩⟩
theorem Reps.flat {K : Frag} {H : Hp} {vs : List V} {ds : List Dat} (r : Reps K H vs ds) : ∀ n : Nat, Reps K H (List.replicate n vs).flatten (List.replicate n ds).flatten
  | 0 => .nil
  | n + 1 => by
    rw [List.replicate_succ, List.replicate_succ, List.flatten_cons, List.flatten_cons]
    exact r.append (r.flat n)
theorem cf_rep {n : Int} (ha : CE X Γ w a (.lst l) w1) (he : CE X Γ w1 e (.int n) w2) (hn : n ≤ LM) (h0 : 0 ≤ n) (hz : l.length * n.toNat ≤ LM) : CF X Γ w (.BinOp a .Mult e pos) (List.replicate n.toNat l).flatten w2 := fun b G O σ H S Q q =>
  ⟨_, pe_op op_rep pe_re pe_re, by
    refine ha b G O σ H S _ fun x G1 H1 s1 r1 => ?_
    refine he b G1 O σ H1 (S.step s1) _ fun y G2 H2 s2 r2 => ?_
    cases r2
    have hn' : n ≤ 100000 := hn
    cases r1.mono s2.gx with
    | lst h r z =>
      refine ⟨_, n, _, rfl, rfl, hide_sub (s2.gle _ _ h), by omega, by omega, by rw [r.length]; exact LM_le hz, CF.fin (b := b) q (s1.trans s2) (r.flat _) (by rw [List.length_flatten, List.map_replicate, List.sum_replicate_nat, Nat.mul_comm]; exact hz)⟩⟩
theorem b2_catT {l2 : List Dat} (hz : l.length + l2.length ≤ LM) : B2 X (binaryOp .Add) (.tup l) (.tup l2) (.tup (l ++ l2)) := ⟨_, op_catA, fun w G H x y Q hw hG r1 r2 q => by
  cases r1 with
  | @tup _ vs _ h r z =>
    cases r2 with
    | @tup _ us _ h' r' z' =>
      have hs : Stp w G H w G H := .refl hw hG
      refine ⟨_, _, _, _, rfl, rfl, h.ext (hG.trans hide_ext), h'.ext (hG.trans hide_ext), by rw [r.length, r'.length]; exact LM_le hz, fun e => ?_, fun _ e => ?_, fun _ _ p hp => ?_⟩
      · subst e
        cases r
        exact q _ _ _ hs (.tup h' r' z')
      · subst e
        cases r'
        exact q _ _ _ hs (by rw [List.append_nil]; exact .tup h r z)
      · have s2 := Stp.new' (o := .tup (vs ++ us)) hw hG hp
        exact q _ _ _ s2 (.tup (SqT.of upd_same) ((r.append r').mono s2.gx) (by rw [List.length_append]; exact hz))⟩
theorem cf_listRg1 (bi : Bi g.mg) (fr : Cf X g N sc j) (hg : GlS sc "list") (hg2 : GlS sc "range") {n : Nat} {p2 pos2 : Pos} (ha : CE X Γ w a (.int n) w1) (hn : n ≤ LM) (na : starEach [a] X.env = (false, eval a X.env) :: starEach [] X.env := by rfl) (nb : starEach [.Call (.Name "range" p2) [a] [] pos2] X.env = (false, eval (.Call (.Name "range" p2) [a] [] pos2) X.env) :: starEach [] X.env := by rfl) :
    CF X Γ w (.Call (.Name "list" p) [.Call (.Name "range" p2) [a] [] pos2] [] pos) ((List.range n).map fun i => .int (i : Nat)) w1 := fun b G O σ H S Q q =>
  ⟨_, pe_listRg fr.calm (fr.gl hg) (fr.bi bi).list (prg_1 (fr.gl hg2) (fr.bi bi).range pe_re na) nb, ha b G O σ H S _ fun v G1 H1 s1 r1 => by
    cases r1
    have hn' : n ≤ 100000 := hn
    refine ⟨n, rfl, ⟨by omega, by omega, by omega, by omega, by omega⟩, ?_⟩
    refine CF.fin (b := b) q s1 ?_ (by simpa using hn)
    unfold rgV
    have : ((n : Int) - 0).toNat = n := by omega
    rw [this]
    exact rep_ints G1 (fun i => (0 : Int) + (i : Nat)) (fun i => ((i : Nat) : Int)) (fun i => by omega) (List.range n)⟩
where rep_ints (G : Hp) (f g : Nat → Int) (h : ∀ i, f i = g i) : ∀ xs : List Nat, Reps X.K G (xs.map fun i => V.int (f i)) (xs.map fun i => Dat.int (g i))
  | [] => .nil
  | x :: r => .cons (by show Rep X.K G (V.int (f x)) (Dat.int (g x)); rw [h x]; exact .int _) (rep_ints G f g h r)
theorem cf_listRg2 (bi : Bi g.mg) (fr : Cf X g N sc j) (hg : GlS sc "list") (hg2 : GlS sc "range") {m n : Nat} {p2 pos2 : Pos} (ha : CE X Γ w a (.int m) w1) (he : CE X Γ w1 e (.int n) w2) (hm : m ≤ LM) (hn : n ≤ LM) (na : starEach [a, e] X.env = (false, eval a X.env) :: starEach [e] X.env := by rfl) (na2 : starEach [e] X.env = (false, eval e X.env) :: starEach [] X.env := by rfl)
    (hp : (backTo pos2 (starEach [e] X.env)).any (·.1) = false := by rfl) (nb : starEach [.Call (.Name "range" p2) [a, e] [] pos2] X.env = (false, eval (.Call (.Name "range" p2) [a, e] [] pos2) X.env) :: starEach [] X.env := by rfl) :
    CF X Γ w (.Call (.Name "list" p) [.Call (.Name "range" p2) [a, e] [] pos2] [] pos) ((List.range (n - m)).map fun i => .int ((m + i : Nat) : Int)) w2 := fun b G O σ H S Q q =>
  ⟨_, pe_listRg fr.calm (fr.gl hg) (fr.bi bi).list (prg_2 (fr.gl hg2) (fr.bi bi).range pe_re pe_re na na2 hp) nb, ha b G O σ H S _ fun v G1 H1 s1 r1 => he b G1 O σ H1 (S.step s1) _ fun u G2 H2 s2 r2 => by
    cases r1
    cases r2
    have hm' : m ≤ 100000 := hm
    have hn' : n ≤ 100000 := hn
    refine ⟨m, n, rfl, rfl, ⟨by omega, by omega, by omega, by omega, by omega⟩, ?_⟩
    refine CF.fin (b := b) q (s1.trans s2) ?_ (by rw [List.length_map, List.length_range]; exact Nat.le_trans (Nat.sub_le _ _) hn)
    unfold rgV
    have : ((n : Int) - m).toNat = n - m := by omega
    rw [this]
    exact cf_listRg1.rep_ints G2 (fun i => (m : Int) + (i : Nat)) (fun i => ((m + i : Nat) : Int)) (fun i => by omega) (List.range (n - m))⟩
theorem ce_tupRg1 (bi : Bi g.mg) (fr : Cf X g N sc j) (hg : GlS sc "tuple") (hg2 : GlS sc "range") {n : Nat} {p2 pos2 : Pos} (ha : CE X Γ w a (.int n) w1) (hn : n ≤ LM) (na : starEach [a] X.env = (false, eval a X.env) :: starEach [] X.env := by rfl) (nb : starEach [.Call (.Name "range" p2) [a] [] pos2] X.env = (false, eval (.Call (.Name "range" p2) [a] [] pos2) X.env) :: starEach [] X.env := by rfl) :
    CE X Γ w (.Call (.Name "tuple" p) [.Call (.Name "range" p2) [a] [] pos2] [] pos) (.tup ((List.range n).map fun i => .int (i : Nat))) w1 := fun b G O σ H S Q q =>
  ⟨_, pe_tupRg fr.calm (fr.gl hg) (fr.bi bi).tuple (prg_1 (fr.gl hg2) (fr.bi bi).range pe_re na) nb, ha b G O σ H S _ fun v G1 H1 s1 r1 => by
    cases r1
    have hn' : n ≤ 100000 := hn
    refine ⟨n, rfl, ⟨by omega, by omega, by omega, by omega, by omega⟩, ?_⟩
    refine fin_tup q s1 ?_ (by simpa using hn)
    unfold rgV
    have : ((n : Int) - 0).toNat = n := by omega
    rw [this]
    exact cf_listRg1.rep_ints G1 (fun i => (0 : Int) + (i : Nat)) (fun i => ((i : Nat) : Int)) (fun i => by omega) (List.range n)⟩
/-! ### ints, truth values -/
theorem d2_I0 {K : Frag} {g : Int → Int → V} {i j : Int} {d : Dat} (h : ∀ H, Rep K H (g i j) d) : D2 K (rI0 g) (.int i) (.int j) d := fun w G H x y Q hw hG r1 r2 q => by
  cases r1
  cases r2
  exact ⟨i, j, rfl, rfl, q _ _ _ (.refl hw hG) (h G)⟩
theorem d2_I {K : Frag} {C : Int → Int → Prop} {g : Int → Int → V} {i j : Int} {d : Dat} (hc : C i j) (h : ∀ H, Rep K H (g i j) d) : D2 K (rI C g) (.int i) (.int j) d := fun w G H x y Q hw hG r1 r2 q => by
  cases r1
  cases r2
  exact ⟨i, j, rfl, rfl, hc, q _ _ _ (.refl hw hG) (h G)⟩
theorem b2_add {i j : Int} : B2 X (binaryOp .Add) (.int i) (.int j) (.int (i + j)) := ⟨_, op_add, d2_I0 fun _ => .int _⟩
theorem b2_sub {i j : Int} : B2 X (binaryOp .Sub) (.int i) (.int j) (.int (i - j)) := ⟨_, op_sub, d2_I0 fun _ => .int _⟩
/-- sizes: the bits of both together within the line -/
theorem op_mulS : OpR X (binaryOp .Mult) (rI IntMulOk fun i j => .int (i * j)) := opI fun _ _ _ _ _ _ _ hc q => mul_int q hc
theorem b2_mul {i j : Int} (h : IntMulOk i j) : B2 X (binaryOp .Mult) (.int i) (.int j) (.int (i * j)) := ⟨_, op_mulS, d2_I h fun _ => .int _⟩
theorem b2_div {i j : Int} (h : 0 < j ∧ j < 1073741824) : B2 X (binaryOp .FloorDiv) (.int i) (.int j) (.int (i / j)) := ⟨_, op_fdiv, d2_I h fun _ => .int _⟩
theorem b2_mod {i j : Int} (h : 0 < j) : B2 X (binaryOp .Mod) (.int i) (.int j) (.int (i % j)) := ⟨_, op_mod, d2_I h fun _ => .int _⟩
theorem b2_lt {i j : Int} : B2 X (compareOp .Lt) (.int i) (.int j) (.bl (decide (i < j))) := ⟨_, op_lt, d2_I0 fun _ => .bl _⟩
theorem b2_le {i j : Int} : B2 X (compareOp .LtE) (.int i) (.int j) (.bl (decide (i ≤ j))) := ⟨_, op_le, d2_I0 fun _ => .bl _⟩
theorem b2_gt {i j : Int} : B2 X (compareOp .Gt) (.int i) (.int j) (.bl (decide (j < i))) := ⟨_, op_gt, d2_I0 fun _ => .bl _⟩
theorem b2_ge {i j : Int} : B2 X (compareOp .GtE) (.int i) (.int j) (.bl (decide (j ≤ i))) := ⟨_, op_ge, d2_I0 fun _ => .bl _⟩
theorem b2_eqI {i j : Int} : B2 X (compareOp .Eq) (.int i) (.int j) (.bl (i == j)) := ⟨_, op_eq, fun w G H x y Q hw hG r1 r2 q => by
  cases r1
  cases r2
  refine ⟨rfl, ?_⟩
  rw [dec_int]
  exact q _ _ _ (.refl hw hG) (.bl _)⟩
theorem b2_neI {i j : Int} : B2 X (compareOp .NotEq) (.int i) (.int j) (.bl (i != j)) := ⟨_, op_ne, fun w G H x y Q hw hG r1 r2 q => by
  cases r1
  cases r2
  refine ⟨rfl, ?_⟩
  rw [dec_int]
  exact q _ _ _ (.refl hw hG) (.bl _)⟩
theorem b2_eqB {i j : Bool} : B2 X (compareOp .Eq) (.bl i) (.bl j) (.bl (i == j)) := ⟨_, op_eq, fun w G H x y Q hw hG r1 r2 q => by
  cases r1
  cases r2
  refine ⟨rfl, ?_⟩
  rw [dec_bl]
  exact q _ _ _ (.refl hw hG) (.bl _)⟩
theorem b2_neB {i j : Bool} : B2 X (compareOp .NotEq) (.bl i) (.bl j) (.bl (i != j)) := ⟨_, op_ne, fun w G H x y Q hw hG r1 r2 q => by
  cases r1
  cases r2
  refine ⟨rfl, ?_⟩
  rw [dec_bl]
  exact q _ _ _ (.refl hw hG) (.bl _)⟩
theorem op_subB : OpR X (binaryOp .Sub) (fun x y H Q => ∃ i k, x = .bl i ∧ y = .bl k ∧ Q (.int (b2i i - b2i k)) H) := by
  intro pins s σ H x y v u Q I rx ry h
  obtain ⟨i, k, rfl, rfl, q⟩ := h
  cases rx
  cases ry
  exact sub_bool ⟨.int (b2i i - b2i k), H, I.tok _, ⟨_, rfl⟩, q⟩
theorem b2_subB {i j : Bool} : B2 X (binaryOp .Sub) (.bl i) (.bl j) (.int (b2i i - b2i j)) := ⟨_, op_subB, fun w G H x y Q hw hG r1 r2 q => by
  cases r1
  cases r2
  exact ⟨_, _, rfl, rfl, q _ _ _ (.refl hw hG) (.int _)⟩⟩
theorem u1_neg {i : Int} : U1 X (unaryOp .USub) (.int i) (.int (-i)) := ⟨_, un_neg, fun w G H x Q hw hG r1 q => by
  cases r1
  exact ⟨_, rfl, q _ _ _ (.refl hw hG) (.int _)⟩⟩
end
end Fw
end

section
set_option Elab.async false
set_option linter.all false
set_option maxRecDepth 100000
set_option maxHeartbeats 2000000
/-! Fw8: operators of own classes, great divisors, isinstance. -/
namespace Fw
open PySem PySem.Spec PyProof.Rows L2
/-- an operator's method of the class at C: a def that keeps the promise S -/
structure Od (X : Gx) (C : Addr) (m : Str) (k : Nat) (S : DS) : Prop where
  ex : ∃ f fd ps, FnOk X.P X.w X.K X.mg X.base CX0 k f fd ps (spD X.K S) ∧ PySem.W.findIn X.K (.ref C) m = some (some (.ref f)) ∧ PySem.W.isFn X.K (.ref f) = true ∧ Binds X.K fd ps []
theorem cmpBack_of {v : V} {u : Value} {s : Shared} {Q : Value → Shared → Prop} (r : RelV v u) (h : Q u s) : PySem.W.CmpBack Q u s := by
  cases v with
  | non => cases (show u = Value.none from r); exact h
  | bl b => cases (show u = Value.bool b from r); exact h
  | int i => obtain ⟨t, e⟩ := (show ∃ t, u = Value.int i t from r); cases e; exact h
  | str x => obtain ⟨t, e⟩ := (show ∃ t, u = Value.str x t from r); cases e; exact h
  | byt b => obtain ⟨t, e⟩ := (show ∃ t, u = Value.bytes b t from r); cases e; exact h
  | flt b => obtain ⟨t, e⟩ := (show ∃ t, u = Value.float b t from r); cases e; exact h
  | ref a => cases (show u = Value.ref a from r); exact h
  | ty n => cases (show u = Value.type n from r); exact h
section
variable {X : Cx} {g : Gx} {C : Addr} {k j : Nat} {S : DS} {N : List Str} {sc : Scope}
def rOwn (X : Cx) (C : Addr) (S : DS) : R2 := fun x y H Q => ∃ a b dx dy fs gs, x = .ref a ∧ y = .ref b ∧ H a = some (.ins C dx fs) ∧ H b = some (.ins C dy gs) ∧ spD X.K S [.ref a, .ref b] H Q E0
theorem op_own {op : Operator} (fr : Cf X g N sc j) (F : Od g C (PySem.dunder op.info.2) k S) (hk : k ≤ j) (hc : PySem.W.selfFirst g.K C = true) : OpR X (binaryOp op) (rOwn X C S) := by
  intro pins s σ H x y v u Q I rx ry h
  obtain ⟨a, b, dx, dy, fs, gs, rfl, rfl, ha, hb, hs⟩ := h
  obtain ⟨f, fd, ps, F1, F2, F3, F4⟩ := (fr.to (fun g => Od g C (PySem.dunder op.info.2) k S) F).ex
  have hc : PySem.W.selfFirst X.K C = true := fr.to (fun g => PySem.W.selfFirst g.K C = true) hc
  cases rx
  cases ry
  obtain ⟨mA, J, _⟩ := ins_get I.hok ha
  obtain ⟨mB, J', _⟩ := ins_get I.hok hb
  obtain ⟨od, J, _⟩ := J.look
  obtain ⟨od', J', _⟩ := J'.look
  obtain ⟨m, hF⟩ := I.fr
  refine PySem.W.binop_K (op := op) hF I.ok.mod.kin J J'.type hc F2 F3 ?_
  have r2 : Vals [V.ref a, V.ref b] [Value.ref a, Value.ref b] := .cons rfl (.cons rfl .nil)
  exact thn (run_fn F1 (fr.room.mono hk) F4 .nil pass0 I r2 (by rw [List.append_nil]; exact hs)) fun u s' q => by
    obtain ⟨v, H', I', r, q⟩ := q
    exact cmpBack_of r ⟨v, H', I', r, q⟩
theorem b2_own {op : Operator} {fs gs : List (Str × Dat)} {d : Dat} (fr : Cf X g N sc j) (F : Od g C (PySem.dunder op.info.2) k S) (hk : k ≤ j) (hc : PySem.W.selfFirst g.K C = true) (hm : Mon1 S) (h : ∀ w, S [.obj C fs, .obj C gs] w fun d' w' => d' = d ∧ w' = w) : B2 X (binaryOp op) (.obj C fs) (.obj C gs) d :=
  ⟨_, op_own fr F hk hc, fun w G H x y Q hw hG r1 r2 q => by
    cases r1 with
    | obj g1 q1 =>
      cases r2 with
      | obj g2 q2 =>
        exact ⟨_, _, _, _, _, _, rfl, rfl, hide_sub (hG _ _ g1), hide_sub (hG _ _ g2), spD_go (.refl hw hG) (.cons (.obj g1 q1) (.cons (.obj g2 q2) .nil)) (h w) hm q⟩⟩
def uOwn (X : Cx) (C : Addr) (S : DS) : V → Hp → VK → Prop := fun x H Q => ∃ a dx fs, x = .ref a ∧ H a = some (.ins C dx fs) ∧ spD X.K S [.ref a] H Q E0
theorem un_own (fr : Cf X g N sc j) (F : Od g C "__neg__" k S) (hk : k ≤ j) : UnR X (unaryOp .USub) (uOwn X C S) := by
  intro pins s σ H x v Q I rx h
  obtain ⟨a, dx, fs, rfl, ha, hs⟩ := h
  obtain ⟨f, fd, ps, F1, F2, F3, F4⟩ := (fr.to (fun g => Od g C "__neg__" k S) F).ex
  cases rx
  obtain ⟨mA, J, _⟩ := ins_get I.hok ha
  obtain ⟨od, J, _⟩ := J.look
  obtain ⟨m, hF⟩ := I.fr
  refine PySem.W.ksp_neg hF I.ok.mod.kin J F2 F3 ?_
  have r2 : Vals [V.ref a] [Value.ref a] := .cons rfl .nil
  exact run_fn F1 (fr.room.mono hk) F4 .nil pass0 I r2 (by rw [List.append_nil]; exact hs)
theorem u1_own {fs : List (Str × Dat)} {d : Dat} (fr : Cf X g N sc j) (F : Od g C "__neg__" k S) (hk : k ≤ j) (hm : Mon1 S) (h : ∀ w, S [.obj C fs] w fun d' w' => d' = d ∧ w' = w) : U1 X (unaryOp .USub) (.obj C fs) d :=
  ⟨_, un_own fr F hk, fun w G H x Q hw hG r1 q => by
    cases r1 with
    | obj g1 q1 => exact ⟨_, _, _, rfl, hide_sub (hG _ _ g1), spD_go (.refl hw hG) (.cons (.obj g1 q1) .nil) (h w) hm q⟩⟩
/-! ### a field of self stored (in an __init__) -/
theorem cs_fld {Γ : List Slot} {w w1 : Wd} {e : Expr} {d : Dat} {x f : Str} {E : DE} {y : Addr} {fs : List (Str × Dat)} {p p2 pos : Pos} (fr : Cf X g N sc j) (c : Cls g.K C) (n : NoAttr g.K C f) (m : Nat) (hm : N[m]? = some x) (hv : Vis sc x) (hd : Γ[m]? = some (.oi y C fs)) (he : CE X Γ w e d w1) (hl : fs.length < 1000)
    (h : E.nx (Γ.set m (.oi y C (putD f d fs))) w1) (h1 : (x == ("__debug__" : Str)) = false := by decide) (h2 : (x == ("__classdict__" : Str)) = false := by decide) (hs : swapsWith e (some (.Attribute (.Name x p) f p2)) pos.line X.env = pure false := by rfl) :
    CS X Γ w (.Assign [.Attribute (.Name x p) f p2] e pos) E := fun b G O σ H S D U => by
  refine ⟨_, ps_fld (pe_var (i := m) (by rw [fr.hN]; exact hm) (by rw [fr.hsc]; exact hv) h1 h2) pe_re hs, ?_⟩
  refine he b G O σ H S _ fun v G1 H1 s1 r1 => ?_
  have S1 := S.step s1
  obtain ⟨_, hx, dx, fv, rfl, ho, hq, rf⟩ := S1.slots m _ hd
  have hml : m < Γ.length := (List.getElem?_eq_some_iff.mp hd).1
  refine ⟨.ref y, hx, y, C, dx, fv, rfl, hq, fr.to (fun g => Cls g.K C) c, fr.to (fun g => NoAttr g.K C f) n, by rw [rf.length]; exact hl, U.nx (Γ.set m (.oi y C (putD f d fs))) w1 G1 O _ _ ?_ h⟩
  obtain ⟨g1, g2, g3, g4⟩ := S1.own y m ho
  have ne := S1.hidden ho
  refine { ad := S1.ad, gx := S1.gx, new := S1.new, gle := ?_, all := ?_, wok := fun s x y' e => ?_, len := by simpa using S1.len, own := fun a i h => ?_, slots := fun i s e => ?_ }
  · rw [hide_upd ne]
    intro a u ha
    rw [upd_ne (by rintro rfl; rw [g1] at ha; cases ha)]
    exact S1.gle a u ha
  · rw [hide_upd ne]
    intro a u ha
    rw [upd_ne (by rintro rfl; rw [g2] at ha; cases ha)]
    exact S1.all a u ha
  · rw [upd_ne (Ne.symm (ne s x y' e))]
    exact S1.wok s x y' e
  · obtain ⟨h1, h2, h3, h4⟩ := S1.own a i h
    refine ⟨h1, h2, h3, ?_⟩
    by_cases q' : a = y
    · subst q'; rw [upd_same]; exact fun z => by cases z
    · rw [upd_ne q']; exact h4
  · by_cases hmi : m = i
    · subst hmi
      rw [List.getElem?_set_self hml] at e
      cases Option.some.inj e
      exact ⟨_, hx, dx, _, rfl, ho, upd_same, rf.put r1⟩
    · rw [List.getElem?_set_ne hmi] at e
      obtain ⟨x', hx', ok⟩ := S1.slots i s e
      refine ⟨x', hx', ok.step Ext.rfl' fun a o ha hq' => ?_⟩
      rw [upd_ne (by rintro rfl; rw [ho] at ha; cases ha; exact hmi rfl)]
      exact hq'
/-! ### great divisors -/
/-- the keys are written texts -/
def strB (es : Array DictEntry) : Bool := es.toList.all fun e => match e.key with
  | .str _ _ => true
  | _ => false
theorem strB_ok {es : Array DictEntry} (h : strB es = true) : StrKeys es := fun e he => by
  have h1 := List.all_eq_true.mp h e (by simpa using he)
  cases q : e.key with
  | str n t => exact ⟨n, t, rfl⟩
  | _ => rw [q] at h1; cases h1
def modsB (K : Frag) : Bool := match K.lookup sysModules with
  | some ⟨_, _, .dict es _, _⟩ => strB es
  | _ => false
def mainB (K : Frag) : Bool := match PySem.W.nsIn K PySem.mainGlobals "__builtins__" with
  | some (some (.ref bm)) => (match K.lookup bm with
    | some ⟨.type c, some d, _, _⟩ => c == "module" && d == builtinsNs
    | _ => false)
  | _ => false
/-- what the written part shows of the things that a division of great ints looks at -/
def seerB (K : Frag) : Bool :=
  decide (PySem.W.nsIn K cStatics "sys.audit-hooks" = some none) && decide (PySem.W.nsIn K cStatics "sys.dict" = some none) && decide (PySem.W.nsIn K sysModules "_pylong" = some none) && modsB K && mainB K
theorem ns_of {K : Frag} {h : Heap} {m : Str → Option Value} {a : Addr} {x : Str} {r : Option Value} (X : K.In h) (G : h.Ns a m) (e : PySem.W.nsIn K a x = some r) : m x = r := by
  obtain ⟨o, es, ep, ho, hd, hk, hf⟩ := G
  unfold PySem.W.nsIn at e
  split at e
  · rename_i c d es' n' sl q
    have := X _ _ q
    rw [ho] at this
    cases this
    cases hd
    rw [← hf x]
    unfold nsFind findBy
    rw [← Array.find?_toList]
    split at e
    · rename_i y hy
      cases e
      rw [hy]
      rfl
    · rename_i hy
      rw [hy]
      split at e
      · cases e
      · cases e
        rfl
  · cases e
theorem noSeer_of {K : Frag} {mg : Str → Option Value} {base : Heap} (M : Mod K mg base) (h : seerB K = true) : base.NoSeer := by
  simp only [seerB, Bool.and_eq_true, decide_eq_true_eq] at h
  obtain ⟨⟨⟨⟨h1, h2⟩, h3⟩, h4⟩, h5⟩ := h
  refine ⟨?_, ?_, M.blt, ?_⟩
  · obtain ⟨mc, nc, _⟩ := M.nolimit
    exact ⟨mc, nc, ns_of M.kin nc h1, ns_of M.kin nc h2⟩
  · unfold modsB at h4
    split at h4
    · rename_i c d es n sl q
      have ns : base.Ns sysModules (fun x => nsFind es x) := ⟨_, es, n, M.kin _ _ q, rfl, strB_ok h4, fun _ => rfl⟩
      exact ⟨_, ns, ns_of M.kin ns h3⟩
    · cases h4
  · unfold mainB at h5
    split at h5
    · rename_i bm q
      split at h5
      · rename_i c d dt sl q2
        simp only [Bool.and_eq_true, beq_iff_eq] at h5
        exact ⟨mg, bm, _, M.glob, ns_of M.kin M.glob q, M.kin _ _ q2, by rw [h5.1], by rw [h5.2]⟩
      · cases h5
    · cases h5
/-- the frame of a def, for a division of any ints -/
structure Dv (X : Cx) : Prop where
  seer : seerB X.K = true
  tree : X.prog.given.tree = none
  st : X.stack = X.env :: X.outer
  gen : X.env.scope.isGenerator = false
  co : X.env.scope.isCoroutine = false
theorem op_fdivG (fr : Cf X g N sc j) (dv : Dv X) (hj : 34 ≤ j) : OpR X (binaryOp .FloorDiv) (rI (fun _ z => z ≠ 0) fun i z => .int (i.fdiv z)) := by
  intro pins s σ H x y v u Q I rx ry h
  obtain ⟨i, z, rfl, rfl, hc, q⟩ := h
  obtain ⟨t, rfl⟩ := rx
  obtain ⟨t', rfl⟩ := ry
  have sr : s.heap.NoSeer := (noSeer_of I.ok.mod dv.seer).keeps I.bk
  have fs : X.A.frames = some (X.env :: X.outer) := by rw [I.ok.frames, dv.st]
  have sa : SeerAt (model X.prog X.w) X.A s.heap := SeerAt.of sr dv.tree fs dv.gen dv.co I.ok.blt I.ok.glob
  have dp : X.A.depth + Builtin.pylongFrames < recursionLimit := by
    have := fr.room.dp
    show X.A.depth + 100 < recursionLimit
    omega
  exact floordiv_int hc ⟨.int (i.fdiv z), H, I.tok _, ⟨_, rfl⟩, q⟩ (.inr (PylongRoom.of I.nolimit dp sa))
theorem b2_fdivG {i z : Int} (fr : Cf X g N sc j) (dv : Dv X) (hj : 34 ≤ j) (hz : z ≠ 0) : B2 X (binaryOp .FloorDiv) (.int i) (.int z) (.int (i.fdiv z)) := ⟨_, op_fdivG fr dv hj, d2_I hz fun _ => .int _⟩
/-! ### isinstance -/
end
end Fw
end

section
set_option Elab.async false
set_option linter.all false
set_option maxRecDepth 100000
set_option maxHeartbeats 2000000
/-! Fw9: isinstance, parallel assignment by scope, typed promises. -/
namespace Fw
open PySem PySem.Spec PyProof.Rows L2
/-- what isinstance looks at in an own class -/
structure Icl (K : Frag) (C : Addr) : Prop where
  cl : Cls K C
  ha : PySem.W.findIn K (.ref C) "__class__" = some (some (.builtin "object.__class__"))
  hn : PySem.W.specialIn K (.builtin "object.__class__") "__get__" = some (some (.builtin "getset_descriptor.__get__"))
  htk : PySem.W.takesIn K (.builtin "object.__class__") = some true
  hm : PySem.W.mroIn K C (.type "object") = some true
inductive TyD (K : Frag) : Dat → Value → Prop
  | non : TyD K .non (.type "NoneType")
  | bl (b : Bool) : TyD K (.bl b) (.type "bool")
  | int (i : Int) : TyD K (.int i) (.type "int")
  | str (x : Str) : TyD K (.str x) (.type "str")
  | tup (l : List Dat) : TyD K (.tup l) (.type "tuple")
  | lst (l : List Dat) : TyD K (.lst l) (.type "list")
  | obj {C : Addr} {fs : List (Str × Dat)} (h : Icl K C) : TyD K (.obj C fs) (.ref C)
theorem TyD.x {K : Frag} {G H : Hp} {v : V} {d : Dat} {t : Value} (h : TyD K d t) (r : Rep K G v d) (e : Ext G H) : TyX K H v t := by
  cases h with
  | non => cases r; exact .base .non
  | bl b => cases r; exact .base (.bl b)
  | int b => cases r; exact .base (.int b)
  | str b => cases r; exact .base (.str b)
  | tup l =>
    cases r with
    | tup h r z =>
      rcases h with (h | ⟨o, h⟩) | ⟨o, its, n, h1, h2, _⟩
      · exact .base (.tup (e _ _ h))
      · exact .fTuple (e _ _ h)
      · exact .kTuple h1 h2
  | lst l => cases r with | lst h r z => exact .base (.lst (e _ _ h))
  | obj i => cases r with | obj h r => exact .base (.ins (e _ _ h) i.cl i.ha i.hn i.htk i.hm)
section
variable {X : Cx} {g : Gx} {N : List Str} {sc : Scope} {j k : Nat} {Γ Γ' Γ'' : List Slot} {w w1 w2 w' : Wd} {pos p p2 apos : Pos} {a e o tg : Expr} {es tgs : List Expr} {d d1 d2 : Dat} {ds dd : List Dat} {l : List Dat} {is is' : List Nat} {α β ρ : Type}
/-- isinstance(e, T), T a class of Python -/
theorem ce_isiB (bi : Bi g.mg) (fr : Cf X g N sc j) {x : Str} {T : String} {t : Value} {b : Bool} (hg : GlS sc "isinstance") (hg2 : GlS sc x) (hm : g.mg x = none) (hv : bootBuiltins x = some (.type T)) (ha : CE X Γ w a d w1) (ht : TyD g.K d t) (hk : PySem.W.kitOne g.K t (.type T) = some b) (hn : x ≠ "__name__" := by decide) (hdb : (x == ("__debug__" : Str)) = false := by decide)
    (hs : starEach [a, .Name x p2] X.env = (false, eval a X.env) :: starEach [.Name x p2] X.env := by rfl) (hs2 : starEach [.Name x p2] X.env = (false, eval (.Name x p2) X.env) :: starEach [] X.env := by rfl) (hpl : (backTo pos (starEach [.Name x p2] X.env)).any (·.1) = false := by rfl) :
    CE X Γ w (.Call (.Name "isinstance" p) [a, .Name x p2] [] pos) (.bl b) w1 := fun b' G O σ H S Q q => by
  have hK := fr.to (fun g => TyD g.K d t) ht
  have hk' := fr.to (fun g => PySem.W.kitOne g.K t (.type T) = some b) hk
  refine ⟨_, pe_callB call_isi (fr.gl hg) (fr.bi bi).isinstance (by decide +kernel) (pa_cons pe_re (pa_cons (pe_bltn (v := .ty T) (fr.gl hg2) (fr.to (fun g => g.mg x = none) hm) hv rfl hn hdb) pa_nil hs2) hs) (he := hs) (hpl := hpl), ha b' G O σ H S _ fun v G1 H1 s1 r1 => ?_⟩
  exact ⟨v, .ty T, t, .type T, b, rfl, .ty T, TyD.x hK r1 (s1.gle.trans hide_ext), hk', q _ _ _ s1 (.bl _)⟩
/-- isinstance(e, C), C an own class -/
theorem ce_isiC (bi : Bi g.mg) (fr : Cf X g N sc j) {x : Str} {C : Addr} {t : Value} {b : Bool} (hg : GlS sc "isinstance") (hg2 : GlS sc x) (hm : g.mg x = some (.ref C)) (ha : CE X Γ w a d w1) (ht : TyD g.K d t) (hk : PySem.W.kitOne g.K t (.ref C) = some b) (hdb : (x == ("__debug__" : Str)) = false := by decide)
    (hs : starEach [a, .Name x p2] X.env = (false, eval a X.env) :: starEach [.Name x p2] X.env := by rfl) (hs2 : starEach [.Name x p2] X.env = (false, eval (.Name x p2) X.env) :: starEach [] X.env := by rfl) (hpl : (backTo pos (starEach [.Name x p2] X.env)).any (·.1) = false := by rfl) :
    CE X Γ w (.Call (.Name "isinstance" p) [a, .Name x p2] [] pos) (.bl b) w1 := fun b' G O σ H S Q q => by
  have hK := fr.to (fun g => TyD g.K d t) ht
  have hk' := fr.to (fun g => PySem.W.kitOne g.K t (.ref C) = some b) hk
  refine ⟨_, pe_callB call_isi (fr.gl hg) (fr.bi bi).isinstance (by decide +kernel) (pa_cons pe_re (pa_cons (pe_glob (v := .ref C) (fr.gl hg2) (fr.to (fun g => g.mg x = some (.ref C)) hm) rfl hdb) pa_nil hs2) hs) (he := hs) (hpl := hpl), ha b' G O σ H S _ fun v G1 H1 s1 r1 => ?_⟩
  exact ⟨v, .ref C, t, .ref C, b, rfl, .own C, TyD.x hK r1 (s1.gle.trans hide_ext), hk', q _ _ _ s1 (.bl _)⟩
/-- a module's whole number -/
theorem ce_globI (fr : Cf X g N sc j) {x : Str} {i : Int} (hg : GlS sc x) (hm : ∃ t, g.mg x = some (.int i t)) (hdb : (x == ("__debug__" : Str)) = false := by decide) : CE X Γ w (.Name x pos) (.int i) w := fun b' G O σ H S Q q => by
  obtain ⟨t, hm⟩ := hm
  exact ⟨_, pe_glob (v := .int i) (fr.gl hg) (fr.to (fun g => g.mg x = some (.int i t)) hm) ⟨_, rfl⟩ hdb, q _ _ _ S.refl (.int _)⟩
/-! ### parallel assignment, by the scope -/
abbrev envS (sc : Scope) : Env := { scope := sc, locals := 0, globals := 0, cells := [] }
theorem swS {ts : List Expr} {v : Expr} {env : Env} : swappedStores ts v env = swappedStores ts v (envS env.scope) := rfl
theorem Cf.sw {ts : List Expr} {v : Expr} {r : Option (List Str)} (fr : Cf X g N sc j) (h : swappedStores ts v (envS sc) = pure r) : swappedStores ts v X.env = pure r := by
  rw [swS, fr.hsc]
  exact h
theorem fn_any (h : ∀ x, X.fn x = true) : ∀ x, Loc sc x → X.fn x = true ∨ sc.names.lookup x = some .local := fun x _ => .inl (h x)
end
/-! ### typed promises -/
section
variable {α β γ δ ρ : Type}
def sp1 (e1 : α → Dat) (er : ρ → Dat) (pre : α → Prop) (f : α → ρ) : DS := fun ds w Q => ∃ a, ds = [e1 a] ∧ pre a ∧ Q (er (f a)) w
def sp2 (e1 : α → Dat) (e2 : β → Dat) (er : ρ → Dat) (pre : α → β → Prop) (f : α → β → ρ) : DS := fun ds w Q => ∃ a b, ds = [e1 a, e2 b] ∧ pre a b ∧ Q (er (f a b)) w
def sp3 (e1 : α → Dat) (e2 : β → Dat) (e3 : γ → Dat) (er : ρ → Dat) (pre : α → β → γ → Prop) (f : α → β → γ → ρ) : DS := fun ds w Q => ∃ a b c, ds = [e1 a, e2 b, e3 c] ∧ pre a b c ∧ Q (er (f a b c)) w
theorem sp1_mon {e1 : α → Dat} {er : ρ → Dat} {pre : α → Prop} {f : α → ρ} : Mon1 (sp1 e1 er pre f) := fun ds w P P' h ⟨a, e, p, q⟩ => ⟨a, e, p, h _ _ q⟩
theorem sp2_mon {e1 : α → Dat} {e2 : β → Dat} {er : ρ → Dat} {pre : α → β → Prop} {f : α → β → ρ} : Mon1 (sp2 e1 e2 er pre f) := fun ds w P P' h ⟨a, b, e, p, q⟩ => ⟨a, b, e, p, h _ _ q⟩
theorem sp3_mon {e1 : α → Dat} {e2 : β → Dat} {e3 : γ → Dat} {er : ρ → Dat} {pre : α → β → γ → Prop} {f : α → β → γ → ρ} : Mon1 (sp3 e1 e2 e3 er pre f) := fun ds w P P' h ⟨a, b, c, e, p, q⟩ => ⟨a, b, c, e, p, h _ _ q⟩
theorem sp1_len {e1 : α → Dat} {er : ρ → Dat} {pre : α → Prop} {f : α → ρ} {ds w Q} (h : sp1 e1 er pre f ds w Q) : ds.length = 1 := by obtain ⟨_, rfl, _⟩ := h; rfl
theorem sp2_len {e1 : α → Dat} {e2 : β → Dat} {er : ρ → Dat} {pre : α → β → Prop} {f : α → β → ρ} {ds w Q} (h : sp2 e1 e2 er pre f ds w Q) : ds.length = 2 := by obtain ⟨_, _, rfl, _⟩ := h; rfl
theorem sp3_len {e1 : α → Dat} {e2 : β → Dat} {e3 : γ → Dat} {er : ρ → Dat} {pre : α → β → γ → Prop} {f : α → β → γ → ρ} {ds w Q} (h : sp3 e1 e2 e3 er pre f ds w Q) : ds.length = 3 := by obtain ⟨_, _, _, rfl, _⟩ := h; rfl
end
end Fw
end

section
set_option Elab.async false
set_option linter.all false
set_option maxRecDepth 100000
set_option maxHeartbeats 2000000
/-! Fw10: == and != over data: ints, tuples of such, own objects with an own ==. -/
namespace Fw
open PySem PySem.Spec PyProof.Rows L2 GQ
open AutoSeq1 (wpAny_loadPart')
section
variable {prog : Program} {w : World} {A : Around} {R : Result → Shared → Prop}
/-- what the two tuples come to, by the items' answers -/
def both (e : Nat → Bool) (m n : Nat) : Bool := (List.range (min m n)).all e && m == n
theorem tup_eqB (l b : Addr) (xs ys : Array Value) (n n2 : Nat) (dd dd2 : Option Addr) (sl sl2 : Array (Option Value)) (e : Nat → Bool) (I : Nat → Shared → Prop)
    (turn : ∀ i (h1 : i < xs.size) (h2 : i < ys.size) s, I i s → wpAny (model prog w) A.in1 (eqBool xs[i] ys[i]) (fun r s' => r = e i ∧ I (i + 1) s') (fun e s' => R (.error e) s') s)
    (fin : ∀ i s, I i s → R (.ok (.ret (.bool (both e xs.size ys.size)))) s) {s : Shared} (g1 : s.heap.get? l = some { cls := .type "tuple", dict := dd, data := .seq xs n, slots := sl }) (g2 : s.heap.get? b = some { cls := .type "tuple", dict := dd2, data := .seq ys n2, slots := sl2 }) (h : I 0 s) :
    wpAny (model prog w) A.in1 (Builtin.«tuple.__eq__» ⟨[.ref l, .ref b], []⟩) (FinOf prog w A R) (fun e s' => R (.error e) s') s := by
  have f2 := AutoSeq1.sub_tuple_tuple
  have hZ : (xs.toList.zip ys.toList).length = min xs.size ys.size := by simp
  have h0 := h
  obtain ⟨hp, g, d, tk, os⟩ := s
  wp_walk using wpAny_loadPart' g1, wpAny_loadPart' g2, wpAny_forIn_list _ (fun rest b s' => b.1 = none ∧ ∃ i, rest = (xs.toList.zip ys.toList).drop i ∧ I i s' ∧ both e xs.size ys.size = (((List.range (min xs.size ys.size)).drop i).all e && xs.size == ys.size)) _
  case turn =>
    rintro ⟨y, x⟩ rest b s' ⟨hb', i, hz, hI, hR⟩
    have hlt : i < (xs.toList.zip ys.toList).length := by
      rcases Nat.lt_or_ge i (xs.toList.zip ys.toList).length with h' | h'
      · exact h'
      · rw [List.drop_of_length_le h'] at hz; cases hz
    have hm : i < min xs.size ys.size := hZ ▸ hlt
    have h1 : i < xs.size := Nat.lt_of_lt_of_le hm (Nat.min_le_left _ _)
    have h2 : i < ys.size := Nat.lt_of_lt_of_le hm (Nat.min_le_right _ _)
    rw [List.drop_eq_getElem_cons hlt] at hz
    injection hz with hyx hrest
    have hy : y = xs[i] := by have := congrArg Prod.fst hyx; simpa using this
    have hx : x = ys[i] := by have := congrArg Prod.snd hyx; simpa using this
    subst hy hx
    have hd : (List.range (min xs.size ys.size)).drop i = i :: (List.range (min xs.size ys.size)).drop (i + 1) := by simp [List.drop_eq_getElem_cons, hm]
    rw [hd, List.all_cons] at hR
    refine wpAny_bind (wpAny_mono (turn i h1 h2 s' hI) (fun r s2 q2 => ?_) fun _ _ x => x)
    obtain ⟨hr, q2⟩ := q2
    subst hr
    have hf := fin _ _ q2
    cases hy : e i with
    | true =>
      rw [hy] at hR
      wp_walk
      exact ⟨rfl, i + 1, hrest, q2, by simpa using hR⟩
    | false =>
      rw [hy] at hR
      rw [hR] at hf
      wp_walk
      simpa using hf
  case fin =>
    rintro ⟨b1, b2⟩ s' ⟨hb', i, hz, hI, hR⟩
    simp only at hb'
    subst hb'
    have hge : min xs.size ys.size ≤ i := by
      rcases Nat.lt_or_ge i (xs.toList.zip ys.toList).length with h' | h'
      · rw [List.drop_eq_getElem_cons h'] at hz; cases hz
      · exact hZ ▸ h'
    have hf := fin _ _ hI
    rw [hR, List.drop_of_length_le (by simpa using hge)] at hf
    wp_walk
    simpa [Builtin.Tuple.tupleCompareSizes] using hf
  case h => exact ⟨rfl, 0, rfl, h0, by simp [both]⟩
theorem tup_neB (l b : Addr) (xs ys : Array Value) (n n2 : Nat) (dd dd2 : Option Addr) (sl sl2 : Array (Option Value)) (e : Nat → Bool) (I : Nat → Shared → Prop)
    (turn : ∀ i (h1 : i < xs.size) (h2 : i < ys.size) s, I i s → wpAny (model prog w) A.in1 (eqBool xs[i] ys[i]) (fun r s' => r = e i ∧ I (i + 1) s') (fun e s' => R (.error e) s') s)
    (fin : ∀ i s, I i s → R (.ok (.ret (.bool (!both e xs.size ys.size)))) s) {s : Shared} (g1 : s.heap.get? l = some { cls := .type "tuple", dict := dd, data := .seq xs n, slots := sl }) (g2 : s.heap.get? b = some { cls := .type "tuple", dict := dd2, data := .seq ys n2, slots := sl2 }) (h : I 0 s) :
    wpAny (model prog w) A.in1 (Builtin.«tuple.__ne__» ⟨[.ref l, .ref b], []⟩) (FinOf prog w A R) (fun e s' => R (.error e) s') s := by
  have f2 := AutoSeq1.sub_tuple_tuple
  have hZ : (xs.toList.zip ys.toList).length = min xs.size ys.size := by simp
  have h0 := h
  obtain ⟨hp, g, d, tk, os⟩ := s
  wp_walk using wpAny_loadPart' g1, wpAny_loadPart' g2, wpAny_forIn_list _ (fun rest b s' => b.1 = none ∧ ∃ i, rest = (xs.toList.zip ys.toList).drop i ∧ I i s' ∧ both e xs.size ys.size = (((List.range (min xs.size ys.size)).drop i).all e && xs.size == ys.size)) _
  case turn =>
    rintro ⟨y, x⟩ rest b s' ⟨hb', i, hz, hI, hR⟩
    have hlt : i < (xs.toList.zip ys.toList).length := by
      rcases Nat.lt_or_ge i (xs.toList.zip ys.toList).length with h' | h'
      · exact h'
      · rw [List.drop_of_length_le h'] at hz; cases hz
    have hm : i < min xs.size ys.size := hZ ▸ hlt
    have h1 : i < xs.size := Nat.lt_of_lt_of_le hm (Nat.min_le_left _ _)
    have h2 : i < ys.size := Nat.lt_of_lt_of_le hm (Nat.min_le_right _ _)
    rw [List.drop_eq_getElem_cons hlt] at hz
    injection hz with hyx hrest
    have hy : y = xs[i] := by have := congrArg Prod.fst hyx; simpa using this
    have hx : x = ys[i] := by have := congrArg Prod.snd hyx; simpa using this
    subst hy hx
    have hd : (List.range (min xs.size ys.size)).drop i = i :: (List.range (min xs.size ys.size)).drop (i + 1) := by simp [List.drop_eq_getElem_cons, hm]
    rw [hd, List.all_cons] at hR
    refine wpAny_bind (wpAny_mono (turn i h1 h2 s' hI) (fun r s2 q2 => ?_) fun _ _ x => x)
    obtain ⟨hr, q2⟩ := q2
    subst hr
    have hf := fin _ _ q2
    cases hy : e i with
    | true =>
      rw [hy] at hR
      wp_walk
      exact ⟨rfl, i + 1, hrest, q2, by simpa using hR⟩
    | false =>
      rw [hy] at hR
      rw [hR] at hf
      wp_walk
      simpa using hf
  case fin =>
    rintro ⟨b1, b2⟩ s' ⟨hb', i, hz, hI, hR⟩
    simp only at hb'
    subst hb'
    have hge : min xs.size ys.size ≤ i := by
      rcases Nat.lt_or_ge i (xs.toList.zip ys.toList).length with h' | h'
      · rw [List.drop_eq_getElem_cons h'] at hz; cases hz
      · exact hZ ▸ h'
    have hf := fin _ _ hI
    rw [hR, List.drop_of_length_le (by simpa using hge)] at hf
    wp_walk
    simpa [Builtin.Tuple.tupleCompareSizes, bne] using hf
  case h => exact ⟨rfl, 0, rfl, h0, by simp [both]⟩
end
section
variable {prog : Program} {w : World} {A : Around} {E : Value → Shared → Prop} {s : Shared} {l b : Addr} {xs ys : Array Value} {Q : Value → Shared → Prop}
theorem rc_tupEq (e : Nat → Bool) (hu : A.units < cLine) (I : Nat → Shared → Prop) (hl : s.heap.IsTuple l xs) (hb : s.heap.IsTuple b ys)
    (turn : ∀ i (h1 : i < xs.size) (h2 : i < ys.size) s, I i s → wpAny (model prog w) A.in1 (eqBool xs[i] ys[i]) (fun r s' => r = e i ∧ I (i + 1) s') E s)
    (fin : ∀ i s, I i s → Q (.bool (both e xs.size ys.size)) s) (h : I 0 s) : wpAny (model prog w) A (richCompare .Eq (.ref l) (.ref b)) Q E s := by
  obtain ⟨⟨c1, dd, t1, sl⟩, o1, hc, n, hd⟩ := hl
  obtain ⟨⟨c2, dd2, t2, sl2⟩, o2, hc2, n2, hd2⟩ := hb
  simp only at hc hd hc2 hd2
  subst hc; subst hd; subst hc2; subst hd2
  refine wpAny_richCompare_same_room (op := .Eq) ⟨_, o1, rfl⟩ ⟨_, o2, rfl⟩ F.slot_tuple_eq (call_here F.slot_tuple_eq ⟨_, o1, rfl⟩ F.entry_tuple_eq (F.args_tuple_eq_2 _ _) ?_) hu
  exact tup_eqB (R := wants (fun v s' => v ≠ .notImplemented ∧ Q v s') E) l b xs ys n n2 dd dd2 sl sl2 e I turn (fun i s' q => ⟨(fun x => nomatch x), fin i s' q⟩) o1 o2 h
theorem rc_tupNe (e : Nat → Bool) (hu : A.units < cLine) (I : Nat → Shared → Prop) (hl : s.heap.IsTuple l xs) (hb : s.heap.IsTuple b ys)
    (turn : ∀ i (h1 : i < xs.size) (h2 : i < ys.size) s, I i s → wpAny (model prog w) A.in1 (eqBool xs[i] ys[i]) (fun r s' => r = e i ∧ I (i + 1) s') E s)
    (fin : ∀ i s, I i s → Q (.bool (!both e xs.size ys.size)) s) (h : I 0 s) : wpAny (model prog w) A (richCompare .NotEq (.ref l) (.ref b)) Q E s := by
  obtain ⟨⟨c1, dd, t1, sl⟩, o1, hc, n, hd⟩ := hl
  obtain ⟨⟨c2, dd2, t2, sl2⟩, o2, hc2, n2, hd2⟩ := hb
  simp only at hc hd hc2 hd2
  subst hc; subst hd; subst hc2; subst hd2
  refine wpAny_richCompare_same_room (op := .NotEq) ⟨_, o1, rfl⟩ ⟨_, o2, rfl⟩ F.slot_tuple_ne (call_here F.slot_tuple_ne ⟨_, o1, rfl⟩ F.entry_tuple_ne (F.args_tuple_ne_2 _ _) ?_) hu
  exact tup_neB (R := wants (fun v s' => v ≠ .notImplemented ∧ Q v s') E) l b xs ys n n2 dd dd2 sl sl2 e I turn (fun i s' q => ⟨(fun x => nomatch x), fin i s' q⟩) o1 o2 h
end
/-! != of objects of an own class, by object's rule -/
section
open PySem.W
variable {prog : Program} {w : World} {A : Around} {E : Value → Shared → Prop} {s : Shared} {K : PySem.W.Frag} {x C L f : Addr} {h₀ : Heap} {m : Str → Option Value} {ox : Obj} {od : Option Obj} {y tb : Value} {Q : Value → Shared → Prop}
theorem ifBoundB {M : Model} {id : String} {name : Str} {args : List Value} {Q : Option Value → Shared → Prop} (X : K.In s.heap) (I : InstAt s.heap x ox C od) (hs : findIn K (.ref C) name = some (some (.builtin id))) (hb : ∀ self, bindSpecial (.builtin id) self = pure (.builtin id, [self]))
    (h : wpAny M A (call (.builtin id) (.ref x :: args)) (fun v => Q (some v)) E s) : wpAny M A (callSpecialIfBound? (.ref x) name args) Q E s := by
  simp only [callSpecialIfBound?, bindSpecialIfBound?]
  refine wpAny_holding (wpAny_bind (wpAny_bind (wpAny_bind (I.type.here ((looks_findIn X hs).here ?_)))))
  simp only [hb]
  refine wpAny_bind (wpAny_askSetting (wpAny_ite ?_))
  have go : wpAny M A (call (.builtin id) ([.ref x] ++ args) >>= fun v => pure (some v)) Q E s := wpAny_bind (wpAny_mono h (fun v s' k => wpAny_pure k) fun _ _ k => k)
  split
  · exact wpAny_bind (wpAny_pure (wpAny_pure go))
  · exact wpAny_tryCatch (wpAny_bind (wpAny_pure (wpAny_pure go)))
theorem ne_own (hu : A.units + 1 < cLine) (Fh : Fr h₀ L s.heap m) (X₀ : K.In h₀) (I : InstAt s.heap x ox C od) (hb : Looks (model prog w) s.heap (typeOf y) tb) (hn : notFirst K C tb = true)
    (hs : findIn K (.ref C) "__ne__" = some (some (.builtin "object.__ne__"))) (he : findIn K (.ref C) "__eq__" = some (some (.ref f))) (hf : isFn K (.ref f) = true) (hm : mroIn K C (.type "object") = some true)
    (h : wpAny (model prog w) A.in1 (call (.ref f) [.ref x, y]) (fun v s' => ∃ c, v = .bool c ∧ Q (.bool (!c)) s') E s) : wpAny (model prog w) A (richCompare .NotEq (.ref x) y) Q E s := by
  have X := X₀.keeps Fh.keep
  have inner : ∀ {R : Result → Shared → Prop}, (∀ (v : Value) s', (∃ c, v = .bool c ∧ Q (.bool (!c)) s') → ∃ c, v = .bool c ∧ R (.ok (.ret (.bool (!c)))) s') → (∀ e s', E e s' → R (.error e) s') → wpAny (model prog w) A.in1 (Builtin.«object.__ne__» ⟨[.ref x, y], []⟩) (FinOf prog w A R) (fun e s' => R (.error e) s') s := fun {R} hR hE => by
    unfold Builtin.«object.__ne__»
    repeat (first
      | with_reducible refine wpAny_cRoomFor hu ?_
      | (refine wpAny_bind (m := callSpecialIfBound? (.ref x) (Str.ofString "__eq__") [y]) (ifBound_K X I he hf (wpAny_mono h (fun r s' hr => by
            obtain ⟨c, rfl, hq⟩ := hR _ _ hr
            repeat (first | exact hq | exact wpAny_pure hq | exact wpAny_truthy_bool hq | (refine wpAny_bind (m := truthy (.bool _)) (wpAny_truthy_bool ?_)) | wp_step)) hE)))
      | wp_step)
  have hi : Looks (model prog w) s.heap (isInstance (.ref x) (.type "object")) true := I.type.andThen (looks_mroIn X hm)
  have asked : ∀ {Q' : Unit → Shared → Prop} {E' : Value → Shared → Prop}, Q' () s → wpAny (model prog w) A.in1 (checkBuiltinCall "object.__ne__" ⟨[.ref x, y], []⟩) Q' E' s := fun {Q' E'} hq => by
    have ha := F.cmpArgs_ne (.ref x) y
    simp only [checkBuiltinCall, F.cmpKind_ne, F.cmpSplit_ne]
    refine wpAny_bind (hi.here ?_)
    cases hsig : Manifest.signature? "object.__ne__" with
    | none => exact wpAny_pure hq
    | some sig =>
      simp only [argsOk, hsig] at ha
      have h2 : Bind.checkArgs "object.__ne__" sig ⟨[.ref x, y], []⟩ = pure () := ha
      show wpAny _ _ (Bind.checkArgs "object.__ne__" sig ⟨[.ref x, y], []⟩) _ _ _
      rw [h2]
      exact wpAny_pure hq
  have one : wpAny (model prog w) A (tryCompare (.ref x) "__ne__" y) (fun r s' => ∃ v, r = some v ∧ Q v s') E s := by
    unfold tryCompare
    refine wpAny_bind (ifBoundB X I hs F.cmp_object.ne.bind (wpAny_call (codeAny_call_builtin F.cmp_object.ne.plain F.cmpEntry_ne (asked ?_))))
    refine inner (R := fun r s' => match r with | .ok (.ret v) => wpAny (model prog w) A (match some v with | some .notImplemented => pure none | none => pure none | some v => pure (some v)) (fun r s' => ∃ v, r = some v ∧ Q v s') E s' | .ok _ => False | .error e => E e s') (fun v s' hv => ?_) fun e s' he => he
    obtain ⟨c, rfl, hq⟩ := hv
    exact ⟨c, rfl, wpAny_pure ⟨_, rfl, hq⟩⟩
  unfold richCompare
  simp only [oneThing_ref]
  refine wpAny_holding (wpAny_bind (wpAny_cRoomFor (Nat.lt_of_succ_lt hu) ?_))
  refine wpAny_bind (I.type.here (wpAny_bind (hb.here ?_)))
  split
  · rename_i q
    have e : subIn K tb (.ref C) = some false := by
      rcases Bool.or_eq_true_iff.mp hn with e | e
      · rw [beq_iff_eq.mp e] at q; simp at q
      · exact beq_iff_eq.mp e
    refine wpAny_bind ((looks_subIn X e).here ?_)
    simp only [Bool.false_eq_true, if_false]
    refine wpAny_bind (wpAny_mono one (fun r s' z => ?_) fun _ _ e => e)
    obtain ⟨v, rfl, hq⟩ := z
    exact wpAny_pure hq
  · refine wpAny_bind (wpAny_pure ?_)
    simp only [Bool.false_eq_true, if_false]
    refine wpAny_bind (wpAny_mono one (fun r s' z => ?_) fun _ _ e => e)
    obtain ⟨v, rfl, hq⟩ := z
    exact wpAny_pure hq
end
/-! ### over data -/
abbrev MQ (X : Cx) (A : Around) {α : Type} (t : Sem α) (Q : α → Shared → Prop) (s : Shared) : Prop := wpAny (model X.prog X.w) A t Q X.xe s
/-- == inside a container gives c -/
def EqD (X : Cx) (n : Nat) (d1 d2 : Dat) (c : Bool) : Prop := ∀ (A : Around) (pins : List (Addr × Obj)) (s : Shared) (σ : St) (w : Wd) (G H : Hp) (x y : V) (u v : Value), L2.Sub X n A → Inv X pins σ H s → WOk w H → Ext G (hide w H) → RelV x u → RelV y v → Rep X.K G x d1 → Rep X.K G y d2 →
  MQ X A (eqBool u v) (fun r s' => r = c ∧ ∃ G' H', Inv X pins σ H' s' ∧ Stp w G H w G' H') s
/-- == (or !=) of the two gives c -/
def RcD (X : Cx) (n : Nat) (op : CmpOp) (d1 d2 : Dat) (c : Bool) : Prop := ∀ (A : Around) (pins : List (Addr × Obj)) (s : Shared) (σ : St) (w : Wd) (G H : Hp) (x y : V) (u v : Value), L2.Sub X n A → Inv X pins σ H s → WOk w H → Ext G (hide w H) → RelV x u → RelV y v → Rep X.K G x d1 → Rep X.K G y d2 →
  MQ X A (richCompare op u v) (fun r s' => r = .bool c ∧ ∃ G' H', Inv X pins σ H' s' ∧ Stp w G H w G' H') s
section
variable {X : Cx} {n m k : Nat} {d1 d2 : Dat} {ds es : List Dat} {c : Bool}
theorem EqD.mono (h : EqD X n d1 d2 c) (hn : n ≤ m) : EqD X m d1 d2 c := fun A pins s σ w G H x y u v sb => h A pins s σ w G H x y u v (sb.mono hn)
theorem eqD_flat (h : ∀ (K : PySem.W.Frag) (G : Hp) (x y : V), Rep K G x d1 → Rep K G y d2 → flatV x = true ∧ flatV y = true ∧ eqV x y = c) : EqD X 0 d1 d2 c := by
  intro A pins s σ w G H x y u v sb I hw hG rx ry r1 r2
  obtain ⟨fx, fy, e⟩ := h _ _ _ _ r1 r2
  have q := eqAt_V (A := A) (s := s) rx ry fx fy
  rw [e] at q
  exact q X.prog X.w X.xe _ ⟨rfl, G, H, I, .refl hw hG⟩
theorem eqD_int (i j : Int) : EqD X 0 (.int i) (.int j) (i == j) := eqD_flat fun K G x y r1 r2 => by
  cases r1; cases r2; exact ⟨rfl, rfl, rfl⟩
theorem eqD_bl (i j : Bool) : EqD X 0 (.bl i) (.bl j) (i == j) := eqD_flat fun K G x y r1 r2 => by
  cases r1; cases r2; refine ⟨rfl, rfl, ?_⟩; cases i <;> cases j <;> rfl
theorem eqD_non : EqD X 0 .non .non true := eqD_flat fun K G x y r1 r2 => by
  cases r1; cases r2; exact ⟨rfl, rfl, rfl⟩
theorem turnD (e : Nat → Bool) (h : ∀ i a b, ds[i]? = some a → es[i]? = some b → EqD X n a b (e i)) {A : Around} (sb : L2.Sub X (n + 1) A) {pins : List (Addr × Obj)} {σ : St} {w : Wd} {G H : Hp} {xs ys : List V} {its its2 : List Value} (r : Vals xs its) (r2 : Vals ys its2) (p1 : Reps X.K G xs ds) (p2 : Reps X.K G ys es)
    (i : Nat) (h1 : i < its.toArray.size) (h2 : i < its2.toArray.size) (s' : Shared) (l : ∃ G' H', Inv X pins σ H' s' ∧ Stp w G H w G' H') :
    MQ X A.in1 (eqBool its.toArray[i] its2.toArray[i]) (fun r s2 => r = e i ∧ ∃ G' H', Inv X pins σ H' s2 ∧ Stp w G H w G' H') s' := by
  obtain ⟨G1, H1, I1, s1⟩ := l
  have g1 : its[i]? = some its.toArray[i] := by
    have h1' : i < its.length := by simpa using h1
    rw [List.getElem?_eq_getElem h1']; simp
  have g2 : its2[i]? = some its2.toArray[i] := by
    have h2' : i < its2.length := by simpa using h2
    rw [List.getElem?_eq_getElem h2']; simp
  have k1 : i < xs.length := by rw [r.length]; simpa using h1
  have k2 : i < ys.length := by rw [r2.length]; simpa using h2
  obtain ⟨u, hu, ru⟩ := r.get (List.getElem?_eq_getElem k1)
  obtain ⟨v, hv, rv⟩ := r2.get (List.getElem?_eq_getElem k2)
  rw [g1] at hu
  rw [g2] at hv
  rw [Option.some.inj hu, Option.some.inj hv]
  obtain ⟨a, ea, ra⟩ := p1.getV (List.getElem?_eq_getElem k1)
  obtain ⟨b, eb, rb⟩ := p2.getV (List.getElem?_eq_getElem k2)
  refine wpAny_mono (h i a b ea eb A.in1 pins s' σ w G1 H1 _ _ u v sb.in1 I1 s1.wok s1.gle ru rv (ra.mono s1.gx) (rb.mono s1.gx)) (fun r s2 q => ?_) fun _ _ x => x
  obtain ⟨hr, G2, H2, I2, s2'⟩ := q
  exact ⟨hr, G2, H2, I2, s1.trans s2'⟩
theorem rcD_tup (e : Nat → Bool) (h : ∀ i a b, ds[i]? = some a → es[i]? = some b → EqD X n a b (e i)) : RcD X (n + 1) .Eq (.tup ds) (.tup es) (both e ds.length es.length) := by
  intro A pins s σ w G H x y u v sb I hw hG rx ry r1 r2
  cases r1 with
  | tup g1 p1 z1 =>
    cases r2 with
    | tup g2 p2 z2 =>
      cases rx
      cases ry
      obtain ⟨its, r, e1, _⟩ := I.tuple (g1.ext (hG.trans hide_ext))
      obtain ⟨its2, r2, e2, _⟩ := I.tuple (g2.ext (hG.trans hide_ext))
      have l1 : its.toArray.size = ds.length := by rw [List.size_toArray, ← r.length, p1.length]
      have l2 : its2.toArray.size = es.length := by rw [List.size_toArray, ← r2.length, p2.length]
      exact rc_tupEq e sb.room.units0 (fun _ s' => ∃ G' H', Inv X pins σ H' s' ∧ Stp w G H w G' H') e1 e2 (fun i h1 h2 s' q => turnD e h sb r r2 p1 p2 i h1 h2 s' q) (fun i s' q => ⟨by rw [l1, l2], q⟩) ⟨G, H, I, .refl hw hG⟩
theorem rcD_tupN (e : Nat → Bool) (h : ∀ i a b, ds[i]? = some a → es[i]? = some b → EqD X n a b (e i)) : RcD X (n + 1) .NotEq (.tup ds) (.tup es) (!both e ds.length es.length) := by
  intro A pins s σ w G H x y u v sb I hw hG rx ry r1 r2
  cases r1 with
  | tup g1 p1 z1 =>
    cases r2 with
    | tup g2 p2 z2 =>
      cases rx
      cases ry
      obtain ⟨its, r, e1, _⟩ := I.tuple (g1.ext (hG.trans hide_ext))
      obtain ⟨its2, r2, e2, _⟩ := I.tuple (g2.ext (hG.trans hide_ext))
      have l1 : its.toArray.size = ds.length := by rw [List.size_toArray, ← r.length, p1.length]
      have l2 : its2.toArray.size = es.length := by rw [List.size_toArray, ← r2.length, p2.length]
      exact rc_tupNe e sb.room.units0 (fun _ s' => ∃ G' H', Inv X pins σ H' s' ∧ Stp w G H w G' H') e1 e2 (fun i h1 h2 s' q => turnD e h sb r r2 p1 p2 i h1 h2 s' q) (fun i s' q => ⟨by rw [l1, l2], q⟩) ⟨G, H, I, .refl hw hG⟩
/-- data that one address can stand for -/
def RefD : Dat → Prop
  | .tup _ => True
  | .obj _ _ => True
  | _ => False
theorem RcD.eqD (h : RcD X n .Eq d1 d2 c) (h1 : RefD d1) (h2 : RefD d2) (same : ∀ pins σ H s G x, Inv X pins σ H s → Ext G H → Rep X.K G x d1 → Rep X.K G x d2 → c = true) : EqD X n d1 d2 c := by
  intro A pins s σ w G H x y u v sb I hw hG rx ry r1 r2
  have ref : ∀ {d : Dat} {x : V}, RefD d → Rep X.K G x d → ∃ a, x = .ref a := fun {d x} hd r => by
    cases r with
    | tup => exact ⟨_, rfl⟩
    | obj => exact ⟨_, rfl⟩
    | _ => exact hd.elim
  obtain ⟨a, rfl⟩ := ref h1 r1
  obtain ⟨b, rfl⟩ := ref h2 r2
  cases rx
  cases ry
  by_cases hab : a = b
  · subst hab
    rw [same _ _ _ _ _ _ I (hG.trans hide_ext) r1 r2]
    exact SeqAt.EqAt.same (A := A) (s := s) (.ref a) X.prog X.w X.xe _ ⟨rfl, G, H, I, .refl hw hG⟩
  · refine eqBool_refG hab (wpAny_mono (h A pins s σ w G H (.ref a) (.ref b) _ _ sb I hw hG rfl rfl r1 r2) (fun r s' q => ?_) fun _ _ x => x)
    obtain ⟨hr', q⟩ := q
    exact ⟨c, hr', rfl, q⟩
end
end Fw
end

section
set_option Elab.async false
set_option linter.all false
set_option maxRecDepth 100000
set_option maxHeartbeats 2000000
/-! Fw11: == of own objects and of data with such in it; chains; max of three; tuples many times. -/
namespace Fw
open PySem PySem.Spec PyProof.Rows L2 GQ
/-- an own class whose == keeps a promise, != being object's -/
structure Oe (X : Gx) (C : Addr) (k : Nat) (S : DS) : Prop where
  od : Od X C "__eq__" k S
  ne : PySem.W.findIn X.K (.ref C) "__ne__" = some (some (.builtin "object.__ne__"))
  mr : PySem.W.mroIn X.K C (.type "object") = some true
section
variable {X : Cx} {g : Gx} {n m k j : Nat} {d1 d2 d : Dat} {ds es : List Dat} {c : Bool} {C : Addr} {S : DS} {fs gs : List (Str × Dat)} {N : List Str} {sc : Scope}
/-- the own == run, anywhere below -/
theorem oe_run {A : Around} {pins : List (Addr × Obj)} {s : Shared} {σ : St} {w : Wd} {G H : Hp} {a b f : Addr} {fd : FuncData} {ps : List Str} (sb : L2.Sub X k A) (I : Inv X pins σ H s) (hw : WOk w H) (hG : Ext G (hide w H)) (F : FnOk X.prog X.w X.K X.mg X.base CX0 k f fd ps (spD X.K S)) (hb : Binds X.K fd ps [])
    (r1 : Rep X.K G (.ref a) d1) (r2 : Rep X.K G (.ref b) d2) (hm : Mon1 S) (h : S [d1, d2] w fun d' w' => d' = .bl c ∧ w' = w) :
    MQ X A (call (.ref f) [.ref a, .ref b]) (fun v s' => v = .bool c ∧ ∃ G' H', Inv X pins σ H' s' ∧ Stp w G H w G' H') s := by
  have hsp : spD X.K S [.ref a, .ref b] H (fun v H' => v = .bl c ∧ ∃ G', Stp w G H w G' H') E0 := spD_go (.refl hw hG) (.cons r1 (.cons r2 .nil)) h hm fun v G' H' s1 r => by
    cases r
    exact ⟨rfl, G', s1⟩
  have e0 : Env0 X.prog X.w X.K X.mg X.base A X.stack s H := by
    obtain ⟨_, h2, h3, h4, h5, h6, h7, h8⟩ := I.env0
    exact ⟨sb.fr.trans I.env0.frames, h2, h3, h4, h5, h6, h7, h8⟩
  have hl := F.len _ _ _ _ hsp
  refine wpAny_call (codeAny_mono (F.run A X.stack s H ⟨[.ref a, .ref b], []⟩ [.ref a, .ref b] [.ref a, .ref b] _ E0 sb.room e0 (by
    have q := hb s [.ref a, .ref b] I.kIn (by simpa using hl)
    simpa using q) (.cons rfl (.cons rfl .nil)) hsp) fun r s' hq => ?_)
  match r, hq with
  | .error e, hq => exact (pass0 (X := X) pins σ H s e s' I hq)
  | .ok (.ret _), hq =>
    obtain ⟨z, H', I', rz, ez, G', s1⟩ := I.after hq
    subst ez
    cases rz
    exact ⟨rfl, G', H', I', s1⟩
  | .ok .next, hq => exact False.elim hq
  | .ok .brk, hq => exact False.elim hq
  | .ok .cont, hq => exact False.elim hq
theorem nf_same {K : PySem.W.Frag} {C : Addr} : PySem.W.notFirst K C (.ref C) = true := by simp [PySem.W.notFirst]
theorem rcD_obj (F : Oe (gOf X) C k S) (hm : Mon1 S) (h : ∀ w, S [.obj C fs, .obj C gs] w fun d' w' => d' = .bl c ∧ w' = w) : RcD X k .Eq (.obj C fs) (.obj C gs) c := by
  intro A pins s σ w G H x y u v sb I hw hG rx ry r1 r2
  obtain ⟨f, fd, ps, F1, F2, F3, F4⟩ := F.od.ex
  have q1 := r1
  have q2 := r2
  cases r1 with
  | obj g1 p1 =>
    cases r2 with
    | obj g2 p2 =>
      cases rx
      cases ry
      obtain ⟨mA, J, _⟩ := ins_get I.hok (hide_sub (hG _ _ g1))
      obtain ⟨mB, J', _⟩ := ins_get I.hok (hide_sub (hG _ _ g2))
      obtain ⟨od, J, _⟩ := J.look
      obtain ⟨od', J', _⟩ := J'.look
      obtain ⟨m, hF⟩ := I.fr
      refine PySem.W.cmp_K (op := .Eq) (tb := .ref C) sb.room.units0 hF I.ok.mod.kin J J'.type nf_same F2 F3 (wpAny_mono (oe_run sb I hw hG F1 F4 q1 q2 hm (h w)) (fun z s' q => ?_) fun _ _ e => e)
      obtain ⟨e, q⟩ := q
      subst e
      exact ⟨rfl, q⟩
theorem rcD_objN (F : Oe (gOf X) C k S) (hm : Mon1 S) (h : ∀ w, S [.obj C fs, .obj C gs] w fun d' w' => d' = .bl c ∧ w' = w) : RcD X (k + 1) .NotEq (.obj C fs) (.obj C gs) (!c) := by
  intro A pins s σ w G H x y u v sb I hw hG rx ry r1 r2
  obtain ⟨f, fd, ps, F1, F2, F3, F4⟩ := F.od.ex
  have q1 := r1
  have q2 := r2
  cases r1 with
  | obj g1 p1 =>
    cases r2 with
    | obj g2 p2 =>
      cases rx
      cases ry
      obtain ⟨mA, J, _⟩ := ins_get I.hok (hide_sub (hG _ _ g1))
      obtain ⟨mB, J', _⟩ := ins_get I.hok (hide_sub (hG _ _ g2))
      obtain ⟨od, J, _⟩ := J.look
      obtain ⟨od', J', _⟩ := J'.look
      obtain ⟨m, hF⟩ := I.fr
      have hu : A.units + 1 < cLine := by
        have := sb.room.in1.units0
        exact this
      refine ne_own (tb := .ref C) hu hF I.ok.mod.kin J J'.type nf_same F.ne F2 F3 F.mr (wpAny_mono (oe_run sb.in1 I hw hG F1 F4 q1 q2 hm (h w)) (fun z s' q => ?_) fun _ _ e => e)
      obtain ⟨e, q⟩ := q
      exact ⟨c, e, rfl, q⟩
/-! ### the same shape, all through -/
theorem relV_inj {x y : V} {v : Value} (h1 : RelV x v) (h2 : RelV y v) : x = y := by
  cases x <;> cases y <;> simp only [L2.RelV] at h1 h2 <;>
    first
    | rfl
    | (obtain ⟨_, rfl⟩ := h1; obtain ⟨_, e⟩ := h2; cases e; done)
    | (obtain ⟨_, rfl⟩ := h1; obtain ⟨_, e⟩ := h2; cases e; rfl)
    | (obtain ⟨_, rfl⟩ := h1; cases h2; done)
    | (obtain ⟨_, rfl⟩ := h2; cases h1; done)
    | (subst h1; cases h2; rfl)
    | (subst h1; cases h2; done)
theorem vals_inj : ∀ {xs ys : List V} {us : List Value}, Vals xs us → Vals ys us → xs = ys
  | _, _, _, .nil, .nil => rfl
  | _, _, _, .cons a b, .cons a' b' => by rw [relV_inj a a', vals_inj b b']
theorem sqT_one {pins : List (Addr × Obj)} {σ : St} {H : Hp} {s : Shared} {a : Addr} {xs ys : List V} (I : Inv X pins σ H s) (h1 : SqT X.K H a xs) (h2 : SqT X.K H a ys) : xs = ys := by
  obtain ⟨its, r, e, _⟩ := I.tuple h1
  obtain ⟨its2, r2, e2, _⟩ := I.tuple h2
  obtain ⟨o, ho, hc, n, hd⟩ := e
  obtain ⟨o', ho', hc', n', hd'⟩ := e2
  rw [ho] at ho'
  cases ho'
  rw [hd] at hd'
  have : its = its2 := by
    injection hd' with h3
    simpa using h3
  subst this
  exact vals_inj r r2
/-- the objects that may stand in compared data, and their fields: ints all -/
def IntFs (fs : List (Str × Dat)) : Prop := ∀ p ∈ fs, ∃ i, p.2 = Dat.int i
theorem RepF.inj {K : PySem.W.Frag} {G : Hp} : ∀ {fv : List (Str × V)} {fs gs : List (Str × Dat)}, RepF K G fv fs → RepF K G fv gs → IntFs fs → IntFs gs → fs = gs
  | _, _, _, .nil, .nil, _, _ => rfl
  | _, _, _, .cons (f := f) r1 t1, .cons r2 t2, h1, h2 => by
    rename_i v d1 vs ds1 d2 ds2
    obtain ⟨i, e1⟩ := h1 (f, d1) (List.mem_cons_self ..)
    obtain ⟨i', e2⟩ := h2 (f, d2) (List.mem_cons_self ..)
    simp only at e1 e2
    subst e1 e2
    cases r1
    cases r2
    rw [RepF.inj t1 t2 (fun p hp => h1 p (List.mem_cons_of_mem _ hp)) fun p hp => h2 p (List.mem_cons_of_mem _ hp)]
mutual
inductive Sim (P : Addr → List (Str × Dat) → Prop) (k : Nat) : Nat → Dat → Dat → Prop
  | int {n : Nat} (i j : Int) : Sim P k n (.int i) (.int j)
  | bl {n : Nat} (i j : Bool) : Sim P k n (.bl i) (.bl j)
  | tup {n : Nat} {ds es : List Dat} : Sims P k n ds es → Sim P k (n + 1) (.tup ds) (.tup es)
  | obj {n : Nat} {C : Addr} {fs gs : List (Str × Dat)} : P C fs → P C gs → k ≤ n → Sim P k n (.obj C fs) (.obj C gs)
inductive Sims (P : Addr → List (Str × Dat) → Prop) (k : Nat) : Nat → List Dat → List Dat → Prop
  | nilL {n : Nat} {es : List Dat} : Sims P k n [] es
  | nilR {n : Nat} {ds : List Dat} : Sims P k n ds []
  | cons {n : Nat} {d e : Dat} {ds es : List Dat} : Sim P k n d e → Sims P k n ds es → Sims P k n (d :: ds) (e :: es)
end
/-- .. of one class of objects, of ints -/
def Pc (C : Addr) (P : List (Str × Dat) → Prop) : Addr → List (Str × Dat) → Prop := fun C' fs => C' = C ∧ IntFs fs ∧ P fs
noncomputable def eqc (d1 d2 : Dat) : Bool := @decide (d1 = d2) (Classical.propDecidable _)
theorem eqc_iff {d1 d2 : Dat} : eqc d1 d2 = true ↔ d1 = d2 := by unfold eqc; simp
theorem eqc_of {d1 d2 : Dat} {c : Bool} (h : c = true ↔ d1 = d2) : c = eqc d1 d2 := by
  rw [Bool.eq_iff_iff, h, eqc_iff]
section
variable {P : List (Str × Dat) → Prop}
mutual
theorem Sim.inj {pins : List (Addr × Obj)} {σ : St} {H : Hp} {s : Shared} {G : Hp} (I : Inv X pins σ H s) (hG : Ext G H) : ∀ {n : Nat} {d1 d2 : Dat} {x : V}, Sim (Pc C P) k n d1 d2 → Rep X.K G x d1 → Rep X.K G x d2 → d1 = d2
  | _, _, _, _, .int i j, r1, r2 => by cases r1; cases r2; rfl
  | _, _, _, _, .bl i j, r1, r2 => by cases r1; cases r2; rfl
  | _, _, _, _, .obj h1 h2 _, r1, r2 => by
    cases r1 with
    | obj g1 p1 =>
      cases r2 with
      | obj g2 p2 =>
        rw [g1] at g2
        cases g2
        rw [p1.inj p2 h1.2.1 h2.2.1]
  | _, _, _, _, .tup h, r1, r2 => by
    cases r1 with
    | tup g1 p1 z1 =>
      cases r2 with
      | tup g2 p2 z2 =>
        rw [sqT_one I (g1.ext hG) (g2.ext hG)] at p1
        rw [Sims.inj I hG h p1 p2]
theorem Sims.inj {pins : List (Addr × Obj)} {σ : St} {H : Hp} {s : Shared} {G : Hp} (I : Inv X pins σ H s) (hG : Ext G H) : ∀ {n : Nat} {d1 d2 : List Dat} {x : List V}, Sims (Pc C P) k n d1 d2 → Reps X.K G x d1 → Reps X.K G x d2 → d1 = d2
  | _, _, _, _, .nilL, r1, r2 => by cases r1; cases r2; rfl
  | _, _, _, _, .nilR, r1, r2 => by cases r2; cases r1; rfl
  | _, _, _, _, .cons h t, r1, r2 => by
    cases r1 with
    | cons a b =>
      cases r2 with
      | cons a' b' => rw [Sim.inj I hG h a a', Sims.inj I hG t b b']
end
/-- what is known of the own class's == -/
structure OwnEq (g : Gx) (C : Addr) (k : Nat) (P : List (Str × Dat) → Prop) : Prop where
  ex : ∃ S, Oe g C k S ∧ Mon1 S ∧ ∀ fs gs, P fs → P gs → ∀ w, S [.obj C fs, .obj C gs] w fun d' w' => d' = .bl (eqc (.obj C fs) (.obj C gs)) ∧ w' = w
theorem both_eq {ds es : List Dat} : both (fun i => match ds[i]?, es[i]? with | some a, some b => eqc a b | _, _ => true) ds.length es.length = eqc (.tup ds) (.tup es) := by
  refine eqc_of ?_
  unfold both
  rw [Bool.and_eq_true, List.all_eq_true, beq_iff_eq]
  constructor
  · rintro ⟨h1, h2⟩
    congr 1
    refine List.ext_getElem h2 fun i ha hb => ?_
    have := h1 i (List.mem_range.mpr (by omega))
    rw [List.getElem?_eq_getElem ha, List.getElem?_eq_getElem hb] at this
    exact eqc_iff.mp this
  · intro h
    injection h with h
    subst h
    refine ⟨fun i hi => ?_, rfl⟩
    have hi : i < ds.length := by simpa using hi
    rw [List.getElem?_eq_getElem hi]
    exact eqc_iff.mpr rfl
theorem Sims.at : ∀ {n : Nat} {ds es : List Dat} {i : Nat} {a b : Dat}, Sims (Pc C P) k n ds es → ds[i]? = some a → es[i]? = some b → Sim (Pc C P) k n a b
  | _, _, _, _, _, _, .nilL, h, _ => by simp at h
  | _, _, _, _, _, _, .nilR, _, h => by simp at h
  | _, _, _, 0, _, _, .cons h t, e1, e2 => by
    simp at e1 e2
    subst e1 e2
    exact h
  | _, _, _, i + 1, _, _, .cons h t, e1, e2 => Sims.at t (by simpa using e1) (by simpa using e2)
theorem Sim.eqD (o : OwnEq (gOf X) C k P) : ∀ (n : Nat) {d1 d2 : Dat}, Sim (Pc C P) k n d1 d2 → EqD X n d1 d2 (eqc d1 d2)
  | n, _, _, .int i j => by
    rw [← eqc_of (c := i == j) (by simp)]
    exact (eqD_int i j).mono (Nat.zero_le _)
  | n, _, _, .bl i j => by
    rw [← eqc_of (c := i == j) (by simp)]
    exact (eqD_bl i j).mono (Nat.zero_le _)
  | n, _, _, .obj (fs := fs) (gs := gs) h1 h2 hk => by
    obtain ⟨S, F, hm, hS⟩ := o.ex
    obtain ⟨rfl, i1, p1⟩ := h1
    obtain ⟨_, i2, p2⟩ := h2
    refine ((rcD_obj F hm (hS fs gs p1 p2)).eqD trivial trivial fun pins σ H s G x I hG r1 r2 => ?_).mono hk
    exact eqc_iff.mpr (Sim.inj I hG (.obj (k := k) (P := Pc _ P) (n := k) ⟨rfl, i1, p1⟩ ⟨rfl, i2, p2⟩ (Nat.le_refl _)) r1 r2)
  | n + 1, _, _, .tup (ds := ds) (es := es) h => by
    rw [← both_eq]
    refine (rcD_tup _ fun i a b ha hb => ?_).eqD trivial trivial fun pins σ H s G x I hG r1 r2 => ?_
    · rw [ha, hb]
      exact Sim.eqD o n (h.at ha hb)
    · rw [both_eq]
      exact eqc_iff.mpr (Sim.inj I hG (.tup h) r1 r2)
theorem Sim.rcE (o : OwnEq (gOf X) C k P) {n : Nat} (h : Sim (Pc C P) k n d1 d2) (hr : RefD d1) : RcD X n .Eq d1 d2 (eqc d1 d2) := by
  cases h with
  | int => exact hr.elim
  | bl => exact hr.elim
  | obj h1 h2 hk =>
    obtain ⟨S, F, hm, hS⟩ := o.ex
    obtain ⟨rfl, i1, p1⟩ := h1
    obtain ⟨_, i2, p2⟩ := h2
    exact fun A pins s σ w G H x y u v sb => rcD_obj F hm (hS _ _ p1 p2) A pins s σ w G H x y u v (sb.mono hk)
  | tup h =>
    rw [← both_eq]
    exact rcD_tup _ fun i a b ha hb => by
      rw [ha, hb]
      exact Sim.eqD o _ (h.at ha hb)
theorem Sim.rcN (o : OwnEq (gOf X) C k P) {n : Nat} (h : Sim (Pc C P) k n d1 d2) (hr : RefD d1) : RcD X (n + 1) .NotEq d1 d2 (!eqc d1 d2) := by
  cases h with
  | int => exact hr.elim
  | bl => exact hr.elim
  | obj h1 h2 hk =>
    obtain ⟨S, F, hm, hS⟩ := o.ex
    obtain ⟨rfl, i1, p1⟩ := h1
    obtain ⟨_, i2, p2⟩ := h2
    exact fun A pins s σ w G H x y u v sb => rcD_objN F hm (hS _ _ p1 p2) A pins s σ w G H x y u v (sb.mono (by omega))
  | tup h =>
    rw [← both_eq]
    exact fun A pins s σ w G H x y u v sb => rcD_tupN _ (fun i a b ha hb => by
      rw [ha, hb]
      exact Sim.eqD o _ (h.at ha hb)) A pins s σ w G H x y u v (sb.mono (by omega))
def rRc (X : Cx) (n : Nat) (op : CmpOp) : R2 := fun x y H Q => ∃ w G d1 d2 c, WOk w H ∧ Ext G (hide w H) ∧ Rep X.K G x d1 ∧ Rep X.K G y d2 ∧ RcD X n op d1 d2 c ∧ ∀ G' H', Stp w G H w G' H' → Q (.bl c) H'
theorem op_rc (fr : Cf X g N sc j) {op : CmpOp} (hn : n ≤ j) (he : op = .Eq ∨ op = .NotEq) : OpR X (compareOp op) (rRc X n op) := by
  intro pins s σ H x y v u Q I rx ry ⟨w, G, d1, d2, c, hw, hG, r1, r2, h, q⟩
  have go : wpAny (model X.prog X.w) X.A (richCompare op v u) (EP X pins σ Q) X.xe s := by
    refine wpAny_mono (h X.A pins s σ w G H x y v u ⟨fr.room.mono hn, rfl⟩ I hw hG rx ry r1 r2) (fun r s' z => ?_) fun _ _ x => x
    obtain ⟨hr, G', H', I', s1⟩ := z
    subst hr
    exact ⟨.bl c, H', I', rfl, q G' H' s1⟩
  rcases he with rfl | rfl <;> exact go
theorem b2_rc (fr : Cf X g N sc j) {op : CmpOp} (hn : n ≤ j) (he : op = .Eq ∨ op = .NotEq) (h : RcD X n op d1 d2 c) : B2 X (compareOp op) d1 d2 (.bl c) :=
  ⟨_, op_rc fr hn he, fun w G H x y Q hw hG r1 r2 q => ⟨w, G, d1, d2, c, hw, hG, r1, r2, h, fun G' H' s => q _ G' H' s (.bl c)⟩⟩
theorem b2_eqS (fr : Cf X g N sc j) (o : OwnEq g C k P) {n : Nat} (hn : n ≤ j) (h : Sim (Pc C P) k n d1 d2) (hr : RefD d1) (hc : c = true ↔ d1 = d2) : B2 X (compareOp .Eq) d1 d2 (.bl c) := by
  rw [eqc_of hc]
  exact b2_rc fr hn (.inl rfl) (h.rcE (fr.to (fun g => OwnEq g C k P) o) hr)
theorem b2_neS (fr : Cf X g N sc j) (o : OwnEq g C k P) {n : Nat} (hn : n + 1 ≤ j) (h : Sim (Pc C P) k n d1 d2) (hr : RefD d1) (hc : c = true ↔ d1 ≠ d2) : B2 X (compareOp .NotEq) d1 d2 (.bl c) := by
  have e : c = !eqc d1 d2 := by
    rw [Bool.eq_iff_iff, hc, Bool.not_eq_true', ← Bool.not_eq_true, eqc_iff]
  rw [e]
  exact b2_rc fr hn (.inr rfl) (h.rcN (fr.to (fun g => OwnEq g C k P) o) hr)
end
end
/-! ### tuples of ints compared -/
section
variable {X : Cx} {g : Gx} {j : Nat} {N : List Str} {sc : Scope} {c : Bool} {l1 l2 : List Int}
theorem eqD_intsT : RcD X 1 .Eq (.tup (l1.map .int)) (.tup (l2.map .int)) (l1 == l2) ∧ RcD X 1 .NotEq (.tup (l1.map .int)) (.tup (l2.map .int)) (l1 != l2) := by
  have e : both (fun i => l1[i]? == l2[i]?) (l1.map Dat.int).length (l2.map Dat.int).length = (l1 == l2) := by
    rw [Bool.eq_iff_iff]
    unfold both
    rw [Bool.and_eq_true, List.all_eq_true, beq_iff_eq, beq_iff_eq, List.length_map, List.length_map]
    constructor
    · rintro ⟨h1, h2⟩
      refine List.ext_getElem? fun i => ?_
      by_cases hi : i < l1.length
      · exact beq_iff_eq.mp (h1 i (List.mem_range.mpr (by omega)))
      · rw [List.getElem?_eq_none (by omega), List.getElem?_eq_none (by omega)]
    · rintro rfl
      exact ⟨fun i _ => beq_iff_eq.mpr rfl, rfl⟩
  have f : ∀ i a b, (l1.map Dat.int)[i]? = some a → (l2.map Dat.int)[i]? = some b → EqD X 0 a b (l1[i]? == l2[i]?) := fun i a b h1 h2 => by
    rw [List.getElem?_map] at h1 h2
    cases e1 : l1[i]? with
    | none => rw [e1] at h1; cases h1
    | some x =>
      cases e2 : l2[i]? with
      | none => rw [e2] at h2; cases h2
      | some y =>
        rw [e1] at h1
        rw [e2] at h2
        cases h1
        cases h2
        exact eqD_int x y
  refine ⟨?_, ?_⟩
  · rw [← e]
    exact rcD_tup _ f
  · unfold bne
    rw [← e]
    exact rcD_tupN _ f
theorem b2_eqIs (fr : Cf X g N sc j) (hj : 1 ≤ j) : B2 X (compareOp .Eq) (.tup (l1.map .int)) (.tup (l2.map .int)) (.bl (l1 == l2)) := b2_rc fr hj (.inl rfl) eqD_intsT.1
theorem b2_neIs (fr : Cf X g N sc j) (hj : 1 ≤ j) : B2 X (compareOp .NotEq) (.tup (l1.map .int)) (.tup (l2.map .int)) (.bl (l1 != l2)) := b2_rc fr hj (.inr rfl) eqD_intsT.2
end
end Fw
end

section
set_option Elab.async false
set_option linter.all false
set_option maxRecDepth 100000
set_option maxHeartbeats 2000000
/-! Fw12: lists of lists that are changed; chains; max of three; tuples many times. -/
namespace Fw
open PySem PySem.Spec PyProof.Rows L2
/-- new lists, at ps, that hold ls -/
def NRows (K : Frag) (H0 G H : Hp) (p : Addr) (ps : List Addr) (ls : List (List Dat)) : Prop :=
  ps.length = ls.length ∧ ps.Nodup ∧ ∀ (j : Nat) (q : Addr), ps[j]? = some q → H0 q = none ∧ G q = none ∧ q ≠ p ∧ ∃ l vs, ls[j]? = some l ∧ H q = some (.lst vs) ∧ Reps K G vs l ∧ l.length ≤ LM
theorem nodup_at : ∀ {ps : List Addr} {i j : Nat} {c : Addr}, ps.Nodup → ps[i]? = some c → ps[j]? = some c → i = j
  | [], _, _, _, _, h, _ => by simp at h
  | x :: r, 0, 0, _, _, _, _ => rfl
  | x :: r, 0, j + 1, _, n, h1, h2 => by
    simp at h1 h2
    subst h1
    exact absurd (List.mem_of_getElem? h2) (List.nodup_cons.mp n).1
  | x :: r, i + 1, 0, _, n, h1, h2 => by
    simp at h1 h2
    subst h2
    exact absurd (List.mem_of_getElem? h1) (List.nodup_cons.mp n).1
  | x :: r, i + 1, j + 1, _, n, h1, h2 => congrArg (· + 1) (nodup_at (i := i) (j := j) (List.nodup_cons.mp n).2 (by simpa using h1) (by simpa using h2))
section
variable {X : Cx} {g : Gx} {N : List Str} {sc : Scope} {j k : Nat} {Γ Γ' Γ'' : List Slot} {w w1 w2 w' : Wd} {pos p apos : Pos} {a e o tg : Expr} {es tgs : List Expr} {d d1 d2 d3 : Dat} {ds dd : List Dat} {l : List Dat} {is is' : List Nat} {α β : Type}
theorem lc_new {elt it : Expr} {scope : Scope} {own : List (Str × Nat)} (hi : CI X Γ w tg it ds w1) (hl : ds.length ≤ LM) (ls : List (List Dat)) (hls : ls.length = ds.length)
    (turn : ∀ (i : Nat) d, ds[i]? = some d → ∃ is Γ' l, ls[i]? = some l ∧ (∀ k ∈ is, k ∈ own.map (·.2)) ∧ ∀ (X' : Cx), Blk X g N sc scope j X' → CTg X' (wipeD Γ (own.map (·.2))) tg d is Γ' ∧ CF X' Γ' w1 elt l w1)
    (b : Bs) (G : Hp) (O : Own) (σ : St) (H : Hp) (S : Sat X.K b Γ w G O σ H) (Q : VK) (q : ∀ p ps G' H', Stp w G H w1 G' H' → H p = none → G' p = none → H' p = some (.lst (ps.map V.ref)) → NRows X.K H G' H' p ps ls → Q (.ref p) H') :
    tLc (RI X tg it) (bG X g N sc scope j tg) (bT X g N sc scope j []) (bE X g N sc scope j elt) (own.map (·.2)) σ H Q := by
  refine hi b G O σ H S _ fun J G1 H1 s1 wk => ?_
  intro D nD
  have S1 := S.step s1
  have nS : ∀ {a : Addr} {w3 : Wd} {G3 H3 : Hp}, H1 a = none → Stp w1 G1 H1 w3 G3 H3 → ∀ s i j, w3 = some (s, i, j) → a ≠ s := fun na s3 => s3.ne_world s1.wok na
  refine lc_it (g := bG X g N sc scope j tg) (tt := bT X g N sc scope j []) (te := bE X g N sc scope j elt) wk (fun i H' => ∃ G' ps, Stp w1 G1 H1 w1 G' H' ∧ G' D = none ∧ H' D = some (.lst (ps.map V.ref)) ∧ ps.length = i ∧ i ≤ ds.length ∧ NRows X.K H1 G' H' D ps (ls.take i))
    ⟨G1, [], .newO s1.wok s1.gle nD, Ext.free s1.gle (hide_free nD), upd_same, rfl, Nat.zero_le _, rfl, List.nodup_nil, fun j q hq => by simp at hq⟩
    (fun i H' hi ⟨G', ps, s2, _⟩ => s2.gx.trans (s2.gle.trans hide_ext)) ?_ fun H' ⟨G', ps, s2, gD, hD, hlen, _, r⟩ => q D ps G' H' (s1.trans s2) (s1.back nD) gD hD ?_
  rotate_left
  · rw [← hls, List.take_length] at r
    obtain ⟨r1, r2, r3⟩ := r
    refine ⟨r1, r2, fun j q hq => ?_⟩
    obtain ⟨a1, a2, a3, a4⟩ := r3 j q hq
    exact ⟨s1.back a1, a2, a3, a4⟩
  rintro i x H' H'' hlt ⟨G', ps, s2, gD, hD, hlen, hle, r⟩ y
  obtain ⟨G2, d, hd, s3, rd⟩ := y w1 G' s2.wok s2.gle s2.gx
  obtain ⟨is, Γ', l, hll, his, bd⟩ := turn i d hd
  have S3 := ((S1.step s2).step s3).wipe (own.map (·.2))
  have s23 := s2.trans s3
  intro X' B
  obtain ⟨tgd, _⟩ := bd X' B
  refine tgd b w1 G2 O _ H'' x (by rw [B.K]; exact S3) (by rw [B.K]; exact rd) _ fun σ2 S2 l2 e2 => ⟨?_, ?_⟩
  · rw [wipe_same l2 e2 his]
    refine List.ext_getElem? fun k => ?_
    rw [wipe_get, wipe_length]
    by_cases m : k ∈ own.map (·.2)
    · rw [if_pos m, wipe_get, if_pos m]
    · rw [if_neg m]
  · intro X2 B2
    refine cts_nil (X := X2) (Γ := Γ') (w := w1) b G2 O σ2 H'' (by rw [B2.K]; rw [B.K] at S2; exact S2) _ fun G3 H3 s4 => ?_
    rw [if_pos rfl]
    intro X4 B4
    obtain ⟨_, ed⟩ := bd X4 B4
    refine ed b G3 O σ2 H3 (by rw [B4.K]; rw [B.K] at S2; exact S2.step s4) _ fun p us G4 H4 s5' np gp hp rz zl => ?_
    have s5 := s4.trans s5'
    replace np := s4.back np
    rw [B4.K] at rz
    have t := s3.trans s5
    have su : Stp w1 G1 H1 w1 G4 H4 := s23.trans s5
    have keep : ∀ {a : Addr} {o : HO}, H1 a = none → G' a = none → H' a = some o → G4 a = none ∧ H4 a = some o := fun {a o} n0 ga ha => by
      have h0 : hide w1 H' a = some o := by rw [hide_ne (nS n0 s2)]; exact ha
      exact ⟨by rw [t.new a (by rw [h0]; exact fun z => by cases z)]; exact ga, hide_sub (t.all _ _ h0)⟩
    obtain ⟨g4, h4⟩ := keep nD gD hD
    have hz : (ps.map V.ref).length < sizeLine := by
      have : ds.length ≤ 100000 := hl
      rw [List.length_map, hlen]
      exact Nat.lt_of_le_of_lt (by omega) (show (100000 : Nat) < sizeLine by decide)
    have np1 : H1 p = none := s23.back np
    have npD : p ≠ D := by
      rintro rfl
      have h0 : hide w1 H' p = some (.lst (ps.map V.ref)) := by rw [hide_ne (nS nD s2)]; exact hD
      rw [hide_sub (s3.all _ _ h0)] at np
      cases np
    refine ⟨ps.map V.ref, h4, hz, G4, ps ++ [p], ?_, g4, ?_, by rw [List.length_append, hlen]; rfl, hlt, ?_⟩
    · have e1 : hide w1 (upd H4 D (.lst (ps.map V.ref ++ [.ref p]))) = upd (hide w1 H4) D (.lst (ps.map V.ref ++ [.ref p])) := hide_upd (nS nD su)
      have n0 : hide w1 H1 D = none := hide_free nD
      refine ⟨su.ad, ?_, fun s i' j' e => ?_, su.gx, su.new, ?_⟩
      · rw [e1]
        intro a u ha
        rw [upd_ne (by rintro rfl; rw [n0] at ha; cases ha)]
        exact su.all a u ha
      · rw [upd_ne (Ne.symm (nS nD su s i' j' e))]
        exact su.wok s i' j' e
      · rw [e1]
        intro a u ha
        rw [upd_ne (by rintro rfl; rw [g4] at ha; cases ha)]
        exact su.gle a u ha
    · rw [List.map_append]
      exact upd_same
    · obtain ⟨r1, r2, r3⟩ := r
      have hil : i < ls.length := by rw [hls]; exact hlt
      have old : ∀ j q, ps[j]? = some q → H1 q = none ∧ G4 q = none ∧ q ≠ D ∧ ∃ l vs, (ls.take i)[j]? = some l ∧ H4 q = some (.lst vs) ∧ Reps X.K G4 vs l ∧ l.length ≤ LM := fun j q hq => by
        obtain ⟨a1, a2, a3, l', vs', a4, a5, a6, a7⟩ := r3 j q hq
        obtain ⟨b1, b2⟩ := keep a1 a2 a5
        exact ⟨a1, b1, a3, l', vs', a4, b2, a6.mono t.gx, a7⟩
      have pnew : p ∉ ps := fun hm => by
        obtain ⟨jj, hj⟩ := List.mem_iff_getElem?.mp hm
        obtain ⟨a1, a2, a3, l', vs', a4, a5, a6, a7⟩ := r3 jj p hj
        have h0 : hide w1 H' p = some (.lst vs') := by rw [hide_ne (nS a1 s2)]; exact a5
        rw [hide_sub (s3.all _ _ h0)] at np
        cases np
      refine ⟨?_, ?_, fun jj q hq => ?_⟩
      · rw [List.length_append, r1, List.length_take, List.length_take]
        show _ + 1 = _
        omega
      · rw [List.nodup_append]
        refine ⟨r2, List.nodup_cons.mpr ⟨fun h => (by cases h), List.nodup_nil⟩, fun x hx y hy => ?_⟩
        cases List.mem_singleton.mp hy
        rintro rfl
        exact pnew hx
      · have tk : ls.take (i + 1) = ls.take i ++ [l] := by rw [List.take_succ, hll]; rfl
        by_cases hj : jj < ps.length
        · rw [List.getElem?_append_left hj] at hq
          obtain ⟨a1, a2, a3, l', vs', a4, a5, a6, a7⟩ := old jj q hq
          refine ⟨a1, a2, a3, l', vs', ?_, by rw [upd_ne a3]; exact a5, a6, a7⟩
          rw [tk, List.getElem?_append_left (by rw [← r1]; exact hj)]
          exact a4
        · rw [List.getElem?_append_right (by omega)] at hq
          have : jj - ps.length = 0 := by
            cases e : jj - ps.length with
            | zero => rfl
            | succ n => rw [e] at hq; simp at hq
          rw [this] at hq
          cases Option.some.inj hq
          refine ⟨np1, gp, npD, l, us, ?_, by rw [upd_ne npD]; exact hp, rz, zl⟩
          rw [tk, List.getElem?_append_right (by rw [← r1]; omega), ← r1, this]
          rfl
/-- rows in a slot -/
theorem Sat.putR {K : Frag} {b : Bs} {H0 G H : Hp} {O : Own} {σ : St} {w0 : Wd} {G0 : Hp} (S0 : Sat K b Γ w0 G0 O σ H0) (s : Stp w0 G0 H0 w G H) {q : Addr} {ps : List Addr} {ls : List (List Dat)} (i : Nat) (nq : H0 q = none) (hG : G q = none) (hq : H q = some (.lst (ps.map V.ref))) (r : NRows K H0 G H q ps ls) (z : ls.length ≤ LM) :
    Sat K b (Γ.set i (.ow2 ls)) w G (fun a => if a = q ∨ a ∈ ps then some i else O a) (σ.set i (some (.ref q))) H := by
  have S := S0.step s
  obtain ⟨r1, r2, r3⟩ := r
  have new0 : ∀ a, (a = q ∨ a ∈ ps) → H0 a = none ∧ G a = none ∧ H a ≠ none := fun a ha => by
    rcases ha with rfl | ha
    · exact ⟨nq, hG, by rw [hq]; exact fun z => by cases z⟩
    · obtain ⟨jj, hj⟩ := List.mem_iff_getElem?.mp ha
      obtain ⟨a1, a2, a3, l', vs', a4, a5, _⟩ := r3 jj a hj
      exact ⟨a1, a2, by rw [a5]; exact fun z => by cases z⟩
  refine { toWor := S.toWor, len := by simpa using S.len, own := fun a k h => ?_, slots := fun m sl e => ?_ }
  · by_cases ha : a = q ∨ a ∈ ps
    · obtain ⟨n0, n1, n2⟩ := new0 a ha
      obtain ⟨nB, ns, _⟩ := S0.nobody n0
      exact ⟨n1, nB, ns, n2⟩
    · rw [if_neg ha] at h
      exact S.own a k h
  · by_cases hm : i = m
    · subst hm
      have hi : i < Γ.length := by
        rcases Nat.lt_or_ge i Γ.length with h | h
        · exact h
        · rw [List.getElem?_eq_none (by simpa using h)] at e; cases e
      rw [List.getElem?_set_self hi] at e
      cases Option.some.inj e
      refine ⟨_, List.getElem?_set_self (by rw [S.len]; exact hi), q, ps, rfl, if_pos (.inl rfl), hq, z, r1, r2, fun jj c hc => ?_⟩
      obtain ⟨a1, a2, a3, a4⟩ := r3 jj c hc
      exact ⟨if_pos (.inr (List.mem_of_getElem? hc)), a3, a4⟩
    · rw [List.getElem?_set_ne hm] at e
      rw [List.getElem?_set_ne hm]
      obtain ⟨x, hx, ok⟩ := S.slots m sl e
      have imp : ∀ a, O a = some m → (if a = q ∨ a ∈ ps then some i else O a) = some m := fun a h => by
        rw [if_neg fun ha => ?_]
        · exact h
        · obtain ⟨n0, _, _⟩ := new0 a ha
          rw [(S0.nobody n0).2.2] at h
          cases h
      refine ⟨x, hx, ?_⟩
      cases sl with
      | un => trivial
      | fz d => exact ok
      | ow l => obtain ⟨p, vs, e, o, hp, r⟩ := ok; exact ⟨p, vs, e, imp _ o, hp, r⟩
      | ow2 ls' =>
        obtain ⟨p, ps', e, o, hp, z, h1, h2, h3⟩ := ok
        refine ⟨p, ps', e, imp _ o, hp, z, h1, h2, fun j c hc => ?_⟩
        obtain ⟨oq, r⟩ := h3 j c hc
        exact ⟨imp _ oq, r⟩
      | oi p C fs => obtain ⟨dx, fv, e, o, hp, r⟩ := ok; exact ⟨dx, fv, e, imp _ o, hp, r⟩
/-- name = [a new list for ..], its rows to be changed -/
theorem cs_rows {elt it : Expr} {scope : Scope} {own : List (Str × Nat)} {E : DE} (fr : Cf X g N sc j) {x : Str} (i : Nat) (hN : N[i]? = some x) (hx : sc.names.lookup x = some .local) (hi : CI X Γ w tg it ds w1) (hl : ds.length ≤ LM) (ok : BlkOk N sc scope own) (ls : List (List Dat)) (hls : ls.length = ds.length)
    (turn : ∀ (i : Nat) d, ds[i]? = some d → ∃ is Γ' l, ls[i]? = some l ∧ (∀ k ∈ is, k ∈ own.map (·.2)) ∧ ∀ (X' : Cx), Blk X g N sc scope j X' → CTg X' (wipeD Γ (own.map (·.2))) tg d is Γ' ∧ CF X' Γ' w1 elt l w1)
    (hn : E.nx (Γ.set i (.ow2 ls)) w1) (hsw : swapsWith (.ListComp elt [⟨tg, it, [], 0⟩] scope p) (some (.Name x apos)) pos.line X.env = pure true) (hs : ∀ x, foldedSetIterable it X.env x = pure x := by intro _; rfl) : CS X Γ w (.Assign [.Name x apos] (.ListComp elt [⟨tg, it, [], 0⟩] scope p) pos) E := fun b G O σ H S D U =>
  ⟨_, ps_setLc (i := i) fr.calm (by rw [fr.hN]; exact fr.nd) (by rw [fr.hN]; exact hN) (by rw [fr.hsc]; exact hx) hsw pi_ri (by rw [fr.hN, fr.hsc]; exact ok) (pgB fr) (ptB fr) (peB fr) hs, lc_new (elt := elt) hi hl ls hls turn b G O σ H S _ fun q ps G1 H1 s1 nq hG hq r =>
    U.nx _ _ _ _ _ _ (S.putR s1 i nq hG hq r (by rw [hls]; exact hl)) hn⟩

/-- x[i][j] = e, in rows of one's own -/
theorem cs_sub2 {E : DE} (fr : Cf X g N sc j) {x : Str} {i k : Int} {n n2 : Nat} {ls : List (List Dat)} {a2 : Expr} {p2 : Pos} {w3 : Wd} (m : Nat) (hm : N[m]? = some x) (hv : Vis sc x) (he : CE X Γ w e d w1) (hd : Γ[m]? = some (.ow2 ls)) (hi : CE X Γ w1 a (.int i) w2) (hk : CE X Γ w2 a2 (.int k) w3) (hn : ixN ls.length i = some n) (hl : ls[n]? = some l) (hn2 : ixN l.length k = some n2)
    (h : E.nx (Γ.set m (.ow2 (ls.set n (l.set n2 d)))) w3)
    (h1 : (x == ("__debug__" : Str)) = false := by decide) (h2 : (x == ("__classdict__" : Str)) = false := by decide) (hs : swapsWithSole [.Subscript (.Subscript (.Name x p) a p2) a2 apos] e pos.line X.env = pure false := by rfl) (hw : swappedStores [.Subscript (.Subscript (.Name x p) a p2) a2 apos] e X.env = pure none := by rfl) (hx0 : PlainIx a := by exact fun _ _ => rfl)
    (ha : ∀ v, assign (.Subscript (.Subscript (.Name x p) a p2) a2 apos) X.env v = (do
      let ov ← holding [v] (eval (.Subscript (.Name x p) a p2) X.env)
      let iv ← holding [v, ov] (eval a2 X.env)
      standAt apos
      holding [v, ov, iv] (setItem ov iv v)
      release [v, ov, iv] []) := by intro _; rfl) : CS X Γ w (.Assign [.Subscript (.Subscript (.Name x p) a p2) a2 apos] e pos) E := fun b G O σ H S D U => by
  refine ⟨_, ps_asg pe_re (pg_sub (pe_ix ix_list (pe_var (i := m) (by rw [fr.hN]; exact hm) (by rw [fr.hsc]; exact hv) h1 h2) pe_re hx0) pe_re set_list ha) hs hw, ?_⟩
  refine he b G O σ H S _ fun v G1 H1 s1 r1 => ?_
  have S1 := S.step s1
  obtain ⟨_, hx, q, ps, rfl, ho, hq, z, r⟩ := S1.slots m _ hd
  refine ⟨.ref q, hx, ?_⟩
  refine hi b G1 O σ H1 S1 _ fun iv G2 H2 s2 r2 => ?_
  cases r2
  have S2 := S1.step s2
  obtain ⟨_, hx2, q2, ps2, e2, ho2, hq2, z2, t1, t2, t3⟩ := S2.slots m _ hd
  rw [hx] at hx2
  cases Option.some.inj hx2
  cases e2
  have hnl : n < ls.length := (List.getElem?_eq_some_iff.mp hl).1
  obtain ⟨c, hc⟩ : ∃ c, ps2[n]? = some c := ⟨_, List.getElem?_eq_getElem (by rw [t1]; exact hnl)⟩
  obtain ⟨oc, nc, l', vs, el, hcv, rl, zl⟩ := t3 n c hc
  rw [hl] at el
  cases el
  refine ⟨q, ps2.map V.ref, i, .ref c, rfl, rfl, SqL.of hq2, ?_, ?_⟩
  · unfold L2.atI
    rw [List.length_map, t1, hn]
    show (ps2.map V.ref)[n]? = _
    rw [List.getElem?_map, hc]
    rfl
  refine hk b G2 O σ H2 S2 _ fun kv G3 H3 s3 r3 => ?_
  cases r3
  have S3 := S2.step s3
  obtain ⟨_, hx3, q3, ps3, e3, ho3, hq3, z3, u1, u2, u3⟩ := S3.slots m _ hd
  rw [hx] at hx3
  cases Option.some.inj hx3
  cases e3
  have hq2' : H3 q = some (.lst (ps2.map V.ref)) := hide_sub (s3.all _ _ (by rw [S2.hid ho2]; exact hq2))
  rw [hq3] at hq2'
  have eps : ps3 = ps2 := by
    injection hq2' with hq2'
    injection hq2' with hq2'
    exact (List.map_inj_right fun a b h => by cases h; rfl).mp hq2'
  subst eps
  obtain ⟨oc', nc', l2, vs', el', hcv', rl', zl'⟩ := u3 n c hc
  rw [hl] at el'
  cases el'
  refine ⟨c, vs', k, n2, rfl, rfl, hcv', by rw [rl'.length]; exact hn2, ?_⟩
  have hml : m < Γ.length := (List.getElem?_eq_some_iff.mp hd).1
  refine U.nx (Γ.set m (.ow2 (ls.set n (l.set n2 d)))) w3 G3 O σ _ ?_ h
  obtain ⟨g1, g2, g3, g4⟩ := S3.own c m oc'
  have ne := S3.hidden oc'
  refine { ad := S3.ad, gx := S3.gx, new := S3.new, gle := ?_, all := ?_, wok := fun s x y e => ?_, len := by simpa using S3.len, own := fun a i h => ?_, slots := fun i s e => ?_ }
  · rw [hide_upd ne]
    intro a u ha
    rw [upd_ne (by rintro rfl; rw [g1] at ha; cases ha)]
    exact S3.gle a u ha
  · rw [hide_upd ne]
    intro a u ha
    rw [upd_ne (by rintro rfl; rw [g2] at ha; cases ha)]
    exact S3.all a u ha
  · rw [upd_ne (Ne.symm (ne s x y e))]
    exact S3.wok s x y e
  · obtain ⟨h1, h2, h3, h4⟩ := S3.own a i h
    refine ⟨h1, h2, h3, ?_⟩
    by_cases q' : a = c
    · subst q'; rw [upd_same]; exact fun z => by cases z
    · rw [upd_ne q']; exact h4
  · by_cases hmi : m = i
    · subst hmi
      rw [List.getElem?_set_self hml] at e
      cases Option.some.inj e
      refine ⟨_, hx, q, ps3, rfl, ho3, by rw [upd_ne (Ne.symm nc')]; exact hq3, by rw [List.length_set]; exact z3, by rw [List.length_set]; exact u1, u2, fun jj c' hc' => ?_⟩
      obtain ⟨b1, b2, l4, vs4, b3, b4, b5, b6⟩ := u3 jj c' hc'
      refine ⟨b1, b2, ?_⟩
      by_cases hjn : n = jj
      · subst hjn
        rw [hc] at hc'
        cases hc'
        rw [List.getElem?_set_self hnl]
        exact ⟨_, _, rfl, upd_same, rl'.set (r1.mono (s2.gx.trans s3.gx)) n2, by rw [List.length_set]; exact zl'⟩
      · rw [List.getElem?_set_ne hjn]
        refine ⟨l4, vs4, b3, ?_, b5, b6⟩
        rw [upd_ne (by rintro rfl; exact hjn (nodup_at u2 hc hc'))]
        exact b4
    · rw [List.getElem?_set_ne hmi] at e
      obtain ⟨x', hx', ok⟩ := S3.slots i s e
      refine ⟨x', hx', ok.step Ext.rfl' fun a o ha hq' => ?_⟩
      rw [upd_ne (by rintro rfl; rw [oc'] at ha; cases ha; exact hmi rfl)]
      exact hq'
/-! ### chains of two comparisons -/
theorem ct_chain {op op' : CmpOp} {c1 c2 : Bool} (ha : CE X Γ w a d1 w) (he : CE X Γ w e d2 w) (ho : B2 X (compareOp op) d1 d2 (.bl c1)) (h3 : CE X Γ w o d3 w) (ho' : B2 X (compareOp op') d2 d3 (.bl c2)) (hm : lastMarks [op, op'] [e, o] = false := by rfl) : CT X Γ w (.Compare a [op, op'] [e, o] pos) (c1 && c2) w := fun b G O σ H S Q q => by
  obtain ⟨r, k1, k2⟩ := ho
  obtain ⟨r', k1', k2'⟩ := ho'
  refine ⟨_, pt_chain k1 k1' pe_re pe_re pe_re hm, ?_⟩
  refine ha b G O σ H S _ fun x G1 H1 s1 r1 => ?_
  refine he b G1 O σ H1 (S.step s1) _ fun y G2 H2 s2 r2 => ?_
  refine k2 w G2 H2 x y _ s2.wok s2.gle (r1.mono s2.gx) r2 fun z G3 H3 s3 rz => ?_
  cases rz
  refine ⟨c1, rfl, ?_⟩
  have s123 := (s1.trans s2).trans s3
  cases c1 with
  | false =>
    rw [if_neg Bool.false_ne_true]
    exact ⟨false, rfl, q G3 H3 s123⟩
  | true =>
    rw [if_pos rfl]
    refine h3 b G3 O σ H3 (S.step s123) _ fun u G4 H4 s4 r4 => ?_
    refine k2' w G4 H4 y u _ s4.wok s4.gle (r2.mono (s3.gx.trans s4.gx)) r4 fun z G5 H5 s5 rz => ?_
    cases rz
    exact ⟨c2, rfl, q G5 H5 ((s123.trans s4).trans s5)⟩
theorem ce_chain {op op' : CmpOp} {c1 c2 : Bool} (ha : CE X Γ w a d1 w) (he : CE X Γ w e d2 w) (ho : B2 X (compareOp op) d1 d2 (.bl c1)) (h3 : CE X Γ w o d3 w) (ho' : B2 X (compareOp op') d2 d3 (.bl c2)) (hm : lastMarks [op, op'] [e, o] = false := by rfl) : CE X Γ w (.Compare a [op, op'] [e, o] pos) (.bl (c1 && c2)) w := fun b G O σ H S Q q => by
  obtain ⟨r, k1, k2⟩ := ho
  obtain ⟨r', k1', k2'⟩ := ho'
  refine ⟨_, pe_chain k1 k1' pe_re pe_re pe_re hm, ?_⟩
  refine ha b G O σ H S _ fun x G1 H1 s1 r1 => ?_
  refine he b G1 O σ H1 (S.step s1) _ fun y G2 H2 s2 r2 => ?_
  refine k2 w G2 H2 x y _ s2.wok s2.gle (r1.mono s2.gx) r2 fun z G3 H3 s3 rz => ?_
  cases rz
  refine ⟨c1, rfl, ?_⟩
  have s123 := (s1.trans s2).trans s3
  cases c1 with
  | false =>
    rw [if_neg Bool.false_ne_true]
    exact q _ G3 H3 s123 (.bl _)
  | true =>
    rw [if_pos rfl]
    refine h3 b G3 O σ H3 (S.step s123) _ fun u G4 H4 s4 r4 => ?_
    refine k2' w G4 H4 y u _ s4.wok s4.gle (r2.mono (s3.gx.trans s4.gx)) r4 fun z G5 H5 s5 rz => ?_
    cases rz
    exact q _ G5 H5 ((s123.trans s4).trans s5) (.bl _)
theorem ce_max3 (bi : Bi g.mg) (fr : Cf X g N sc j) (hg : GlS sc "max") {i1 i2 i3 : Int} {a3 : Expr} {w3 : Wd} (ha : CE X Γ w a (.int i1) w1) (he : CE X Γ w1 e (.int i2) w2) (h3 : CE X Γ w2 a3 (.int i3) w3) (hs : starEach [a, e, a3] X.env = (false, eval a X.env) :: starEach [e, a3] X.env := by rfl) (hs2 : starEach [e, a3] X.env = (false, eval e X.env) :: starEach [a3] X.env := by rfl) (hs3 : starEach [a3] X.env = (false, eval a3 X.env) :: starEach [] X.env := by rfl)
    (hpl : (backTo pos (starEach [e, a3] X.env)).any (·.1) = false := by rfl) : CE X Γ w (.Call (.Name "max" p) [a, e, a3] [] pos) (.int (max (max i1 i2) i3)) w3 := fun b G O σ H S Q q =>
  ⟨_, pe_callB (call_max3Nu fr.calm) (fr.gl hg) (fr.bi bi).max (by decide +kernel) (pa_cons pe_re (pa_cons pe_re (pa_cons pe_re pa_nil hs3) hs2) hs) (he := hs) (hpl := hpl), by
    refine ha b G O σ H S _ fun x G1 H1 s1 r1 => ?_
    refine he b G1 O σ H1 (S.step s1) _ fun y G2 H2 s2 r2 => ?_
    refine h3 b G2 O σ H2 ((S.step s1).step s2) _ fun z G3 H3 s3 r3 => ?_
    cases r1
    cases r2
    cases r3
    refine ⟨_, _, _, .int (max (max i1 i2) i3), rfl, ?_, q _ _ _ ((s1.trans s2).trans s3) (.int _)⟩
    have m2 : ∀ u v : Int, nuMax2 (.int u) (.int v) = some (.int (max u v)) := fun u v => by
      show some (if decide (u < v) = true then V.int v else V.int u) = _
      by_cases h : u < v
      · rw [if_pos (decide_eq_true h), Int.max_eq_right (by omega)]
      · rw [if_neg (by simpa using h), Int.max_eq_left (by omega)]
    show (nuMax2 (.int i1) (.int i2)).bind _ = _
    rw [m2]
    exact m2 _ _⟩

/-- rows of one's own are no more changed -/
theorem Sat.frzL {K : Frag} {b : Bs} {G H : Hp} {O : Own} {σ : St} (m : Nat) (q : Addr) (vs : List V) (S : Sat K b Γ w G O σ H) (ho : O q = some m) (hq : H q = some (.lst vs)) (hd : Γ[m]? = some .un) : ∃ G' O', G' = upd G q (.lst vs) ∧ (∀ a, a ≠ q → O' a = O a) ∧ Sat K b Γ w G' O' σ H := by
  obtain ⟨g1, g2, g3, g4⟩ := S.own q m ho
  have ne := S.hidden ho
  have hh : hide w H q = some (.lst vs) := by rw [hide_ne ne]; exact hq
  have eG : Ext G (upd G q (.lst vs)) := Ext.upd g1
  have gle : Ext (upd G q (.lst vs)) (hide w H) := fun a u ha => by
    by_cases e : a = q
    · subst e; rw [upd_same] at ha; cases ha; exact hh
    · rw [upd_ne e] at ha; exact S.gle a u ha
  refine ⟨upd G q (.lst vs), fun a => if a = q then none else O a, rfl, fun a ha => if_neg ha, { ad := S.ad, gx := S.gx.trans eG, new := fun a ha => ?_, gle := gle, all := S.all, wok := S.wok, len := S.len, own := fun a i h => ?_, slots := fun i s e => ?_ }⟩
  · rw [upd_ne (by rintro rfl; exact ha g2)]
    exact S.new a ha
  · by_cases e : a = q
    · rw [if_pos e] at h
      cases h
    · rw [if_neg e] at h
      obtain ⟨h1, h2, h3, h4⟩ := S.own a i h
      exact ⟨by rw [upd_ne e]; exact h1, h2, h3, h4⟩
  · obtain ⟨x, hx', ok⟩ := S.slots i s e
    by_cases hm : m = i
    · subst hm
      rw [hd] at e
      cases e
      exact ⟨x, hx', trivial⟩
    · have imp : ∀ a, O a = some i → (if a = q then none else O a) = some i := fun a h => by
        rw [if_neg (by rintro rfl; rw [ho] at h; cases h; exact hm rfl)]
        exact h
      refine ⟨x, hx', ?_⟩
      cases s with
      | un => trivial
      | fz d => obtain ⟨v, ev, rv⟩ := ok; exact ⟨v, ev, rv.mono eG⟩
      | ow l => obtain ⟨p, vs, e, o, hp, r, z⟩ := ok; exact ⟨p, vs, e, imp _ o, hp, r.mono eG, z⟩
      | ow2 ls =>
        obtain ⟨p, ps, e, o, hp, z, h1, h2, h3⟩ := ok
        refine ⟨p, ps, e, imp _ o, hp, z, h1, h2, fun j c hc => ?_⟩
        obtain ⟨oq, nq, l, vs, e1, e2, e3, e4⟩ := h3 j c hc
        exact ⟨imp _ oq, nq, l, vs, e1, e2, e3.mono eG, e4⟩
      | oi p C fs => obtain ⟨dx, fv, e, o, hp, r⟩ := ok; exact ⟨dx, fv, e, imp _ o, hp, r.mono eG⟩
theorem Sat.unslot {K : Frag} {b : Bs} {G H : Hp} {O : Own} {σ : St} (m : Nat) (S : Sat K b Γ w G O σ H) : Sat K b (Γ.set m .un) w G O σ H :=
  { toWor := S.toWor, len := by simpa using S.len, own := S.own, slots := fun i s e => by
      by_cases hm : m = i
      · subst hm
        have hi : m < Γ.length := by
          rcases Nat.lt_or_ge m Γ.length with h | h
          · exact h
          · rw [List.getElem?_eq_none (by simpa using h)] at e; cases e
        rw [List.getElem?_set_self hi] at e
        cases Option.some.inj e
        obtain ⟨x, hx, _⟩ := S.slots m _ (List.getElem?_eq_getElem hi)
        exact ⟨x, hx, trivial⟩
      · rw [List.getElem?_set_ne hm] at e
        exact S.slots i s e }
theorem Sat.frzRows {K : Frag} {b : Bs} {H : Hp} {σ : St} (m : Nat) (hd : Γ[m]? = some .un) : ∀ (ps : List Addr) (ls : List (List Dat)) {G : Hp} {O : Own}, Sat K b Γ w G O σ H → ps.length = ls.length → ps.Nodup → (∀ (j : Nat) (q : Addr), ps[j]? = some q → O q = some m ∧ ∃ l vs, ls[j]? = some l ∧ H q = some (.lst vs) ∧ Reps K G vs l ∧ l.length ≤ LM) →
    ∃ G' O', Sat K b Γ w G' O' σ H ∧ Ext G G' ∧ (∀ a, a ∉ ps → O' a = O a) ∧ Reps K G' (ps.map V.ref) (ls.map .lst)
  | [], [], G, O, S, _, _, _ => ⟨G, O, S, Ext.rfl', fun _ _ => rfl, .nil⟩
  | [], _ :: _, _, _, _, h, _, _ => by simp at h
  | _ :: _, [], _, _, _, h, _, _ => by simp at h
  | q :: ps, l :: ls, G, O, S, hl, nd, h => by
    obtain ⟨oq, l', vs, e1, e2, e3, e4⟩ := h 0 q rfl
    cases Option.some.inj e1
    have g1 := (S.own q m oq).1
    obtain ⟨G1, O1, rfl, hO, S1⟩ := S.frzL m q vs oq e2 hd
    obtain ⟨nq, nd'⟩ := List.nodup_cons.mp nd
    obtain ⟨G2, O2, S2, x2, hO2, r2⟩ := Sat.frzRows m hd ps ls S1 (by simpa using hl) nd' fun j c hc => by
      obtain ⟨oc, l2, vs2, f1, f2, f3, f4⟩ := h (j + 1) c hc
      have hne : c ≠ q := by rintro rfl; exact nq (List.mem_of_getElem? hc)
      exact ⟨by rw [hO c hne]; exact oc, l2, vs2, f1, f2, f3.mono (Ext.upd g1), f4⟩
    refine ⟨G2, O2, S2, (Ext.upd g1).trans x2, fun a ha => ?_, .cons (.lst (x2 _ _ upd_same) (e3.mono ((Ext.upd g1).trans x2)) e4) r2⟩
    rw [hO2 a fun z => ha (List.mem_cons_of_mem _ z), hO a fun z => ha (by rw [z]; exact List.mem_cons_self ..)]
theorem css_frz2 {ss : List Stmt} {E : DE} {ls : List (List Dat)} (m : Nat) (hd : Γ[m]? = some (.ow2 ls)) (h : CSS X (Γ.set m (.fz (.lst (ls.map .lst)))) w ss E) : CSS X Γ w ss E := fun b G O σ H S D U => by
  obtain ⟨_, hx, q, ps, rfl, ho, hq, z, h1, h2, h3⟩ := S.slots m _ hd
  have hml : m < Γ.length := (List.getElem?_eq_some_iff.mp hd).1
  have S1 := S.unslot m
  have hd1 : (Γ.set m .un)[m]? = some .un := List.getElem?_set_self hml
  obtain ⟨G1, O1, S2, x1, hO, r⟩ := Sat.frzRows m hd1 ps ls S1 h1 h2 fun jj c hc => by
    obtain ⟨oc, nc, r⟩ := h3 jj c hc
    exact ⟨oc, r⟩
  have nq : q ∉ ps := fun hm => by
    obtain ⟨jj, hj⟩ := List.mem_iff_getElem?.mp hm
    exact (h3 jj q hj).2.1 rfl
  have oq : O1 q = some m := by rw [hO q nq]; exact ho
  have g1 := (S2.own q m oq).1
  obtain ⟨G2, O2, e2, _, S3⟩ := S2.frzL m q (ps.map V.ref) oq hq hd1
  subst e2
  have S4 := S3.put (d := .lst (ls.map .lst)) (v := .ref q) (.lst upd_same (r.mono (Ext.upd g1)) (by rw [List.length_map]; exact z)) m
  rw [List.set_set] at S4
  have es : σ.set m (some (.ref q)) = σ := by
    refine List.ext_getElem? fun i => ?_
    by_cases hi : m = i
    · subst hi
      rw [hx, List.getElem?_set_self ((List.getElem?_eq_some_iff.mp hx).1)]
    · rw [List.getElem?_set_ne hi]
  rw [es] at S4
  exact h b _ O2 σ H S4 D U
/-! ### tuples many times; slices of what is read -/
theorem cf_slR {lo hi : Option Expr} {i k : Option Int} {p2 : Pos} {w3 : Wd} (ha : CE X Γ w a (.rd l) w1) (h1 : CO X Γ w1 lo i w2) (h2 : CO X Γ w2 hi k w3) : CF X Γ w (.Subscript a (.Slice lo hi none p2) pos) (cutL l i k) w3 := fun b G O σ H S Q q =>
  ⟨_, pe_slice sl_list pe_re po_ro po_ro, by
    refine ha b G O σ H S _ fun x G1 H1 s1 r1 => ?_
    refine h1.run (S.step s1) fun G2 H2 s2 => ?_
    refine h2.run ((S.step s1).step s2) fun G3 H3 s3 => ?_
    cases r1.mono (s2.gx.trans s3.gx) with
    | rd h r z => exact ⟨_, _, rfl, h.ext (s3.gle.trans hide_ext), CF.fin (b := b) q ((s1.trans s2).trans s3) (r.cut i k) (Nat.le_trans (cutL_len _ _ _) z)⟩⟩
end
/-- tuple * 1 -/
theorem tup_mul1 (l : Addr) (items : Array Value) (n : Nat) (dd : Option Addr) (sl : Array (Option Value)) (u : Tok) :
    Meets (Builtin.«tuple.__mul__» ⟨[.ref l, .int 1 u], []⟩) (fun _ R s => s.heap.get? l = some { cls := .type "tuple", dict := dd, data := .seq items n, slots := sl } ∧ R (.ok (.ret (Value.ref l))) s) :=
  .of_wp fun prog w A R s h => by
    obtain ⟨hp, g, d, tk, os⟩ := s
    obtain ⟨hl, h⟩ := h
    have f1 := AutoSeq1.idx_int
    wp_walk using AutoSeq1.wpAny_loadPart' hl
    exact ⟨_, rfl, h⟩
def rRep1 (K : Frag) : R2 := fun x y H Q => ∃ l xs, x = .ref l ∧ y = .int 1 ∧ SqT K H l xs ∧ Q (.ref l) H
section
variable {X : Cx} {l : List Dat}
theorem op_rep1 : OpR X (binaryOp .Mult) (rRep1 X.K) := by
  intro pins s σ H x y v u Q I rx ry h
  obtain ⟨l, xs, rfl, rfl, hT, q⟩ := h
  cases rx
  obtain ⟨t, rfl⟩ := ry
  obtain ⟨its, r, ⟨⟨cls, dd, data, sl⟩, ho, hc, n, hd⟩, hs⟩ := I.tuple hT
  simp only at hc hd
  subst hc
  subst hd
  refine wpAny_binaryOp_repeat_ref (T := "tuple") (U := "int") (by decide) ⟨_, ho, rfl⟩ (fun s' => PySem.typeIs_int s' 1 t) noFill_tuple_mul PySem.F.fills_int_mul PySem.F.slot_int_rmul repeat_tuple PySem.F.slot_int_index.lookup ?_
  refine call_meets PySem.F.slot_int_rmul (PySem.typeIs_int s 1 t) PySem.F.entry_int_rmul (PySem.F.args_int_rmul_2 _ _) (int_rmul_tuple 1 t l its.toArray n dd sl) ⟨ho, rfl, ⟨_, ho, rfl⟩, ?_⟩
  refine call_meets PySem.F.slot_tuple_mul ⟨_, ho, rfl⟩ PySem.F.entry_tuple_mul (PySem.F.args_tuple_mul_2 _ _) (tup_mul1 l its.toArray n dd sl t) ⟨ho, ?_⟩
  exact ⟨.ref l, H, I, rfl, q⟩
theorem b2_repT {n : Nat} (hl : l ≠ []) (h1 : 1 ≤ n) (h2 : n ≤ 1000) (hz : l.length ≤ 100) : B2 X (binaryOp .Mult) (.tup l) (.int n) (.tup (List.replicate n l).flatten) := by
  by_cases h : n = 1
  · subst h
    refine ⟨_, op_rep1, fun w G H x y Q hw hG r1 r2 q => ?_⟩
    cases r2
    cases r1 with
    | tup g1 p1 z1 => exact ⟨_, _, rfl, rfl, g1.ext (hG.trans hide_ext), q _ G H (.refl hw hG) (by rw [show (List.replicate 1 l).flatten = l by simp]; exact .tup g1 p1 z1)⟩
  · refine ⟨_, op_repT, fun w G H x y Q hw hG r1 r2 q => ?_⟩
    cases r2
    cases r1 with
    | @tup _ vs _ g1 p1 z1 =>
      refine ⟨_, _, _, rfl, rfl, g1.ext (hG.trans hide_ext), fun e => hl (by subst e; cases p1; rfl), by omega, by omega, by rw [p1.length]; omega, fun p hp => ?_⟩
      have s2 := Stp.new' (o := .tup (List.replicate (n : Int).toNat vs).flatten) hw hG hp
      have fl := p1.flat (n : Int).toNat
      rw [Int.toNat_natCast] at fl s2 ⊢
      refine q _ _ _ s2 (.tup (SqT.of upd_same) (fl.mono s2.gx) ?_)
      rw [List.length_flatten, List.map_replicate, List.sum_replicate_nat]
      have a1 : n * l.length ≤ 1000 * 100 := Nat.mul_le_mul h2 hz
      exact a1
end
end Fw
end

section
set_option Elab.async false
set_option linter.all false
set_option maxRecDepth 100000
set_option maxHeartbeats 2000000
/-! Fw13: typed data; the statements' rules as blocks; loops over typed states. -/
namespace Fw
open PySem PySem.Spec PyProof.Rows L2
section
variable {α β γ δ ρ : Type}
abbrev eI : Int → Dat := Dat.int
abbrev eB : Bool → Dat := Dat.bl
def eN (_ : Unit) : Dat := .non
def eT (e : α → Dat) (l : List α) : Dat := .tup (l.map e)
def eL (e : α → Dat) (l : List α) : Dat := .lst (l.map e)
def eP (e : α → Dat) (f : β → Dat) (p : α × β) : Dat := .tup [e p.1, f p.2]
def eP3 (e : α → Dat) (f : β → Dat) (h : γ → Dat) (p : α × β × γ) : Dat := .tup [e p.1, f p.2.1, h p.2.2]
def eP4 (e : α → Dat) (f : β → Dat) (h : γ → Dat) (k : δ → Dat) (p : α × β × γ × δ) : Dat := .tup [e p.1, f p.2.1, h p.2.2.1, k p.2.2.2]
abbrev Cq (g : Gx) : Addr := He.ga g.K "Ratio"
def eQ (C : Addr) (q : Rat) : Dat := .obj C [("n", .int q.num), ("d", .int q.den)]
abbrev St2 := Int × Int
abbrev wS (s : Addr) (st : St2) : Wd := some (s, st.1, st.2)
/-- the item at a place, counted from behind where it is below 0 -/
def ix [Inhabited α] (l : List α) (i : Int) : α := (L2.atI l i).getD default
def IxOk (l : List α) (i : Int) : Prop := -(l.length : Int) ≤ i ∧ i < l.length
def nix (l : List α) (i : Int) : Nat := (if i < 0 then i + l.length else i).toNat
theorem ixN_ok {l : List α} {i : Int} (h : IxOk l i) : ixN l.length i = some (nix l i) ∧ nix l i < l.length := by
  unfold IxOk at h
  unfold ixN nix
  by_cases hi : i < 0
  · rw [if_neg (by omega), if_pos (by omega), if_pos hi]
    exact ⟨rfl, by omega⟩
  · rw [if_pos (by omega), if_pos (by omega), if_neg hi]
    exact ⟨rfl, by omega⟩
theorem ix_at [Inhabited α] {l : List α} {i : Int} (h : IxOk l i) : L2.atI l i = some (ix l i) := by
  obtain ⟨h1, h2⟩ := ixN_ok h
  unfold ix L2.atI
  rw [h1]
  show l[_]? = some (l[_]?.getD default)
  rw [List.getElem?_eq_getElem h2]
  rfl
theorem ix_map [Inhabited α] {l : List α} {i : Int} {e : α → Dat} (h : IxOk l i) : L2.atI (l.map e) i = some (e (ix l i)) := by
  have h0 := ix_at h
  unfold L2.atI at h0 ⊢
  rw [List.length_map, (ixN_ok h).1] at *
  show (l.map e)[_]? = _
  rw [List.getElem?_map]
  have : l[nix l i]? = some (ix l i) := h0
  rw [this]
  rfl
def setI (l : List α) (i : Int) (x : α) : List α := l.set (nix l i) x
/-- lo, lo + 1, .. below hi -/
def irng (lo hi : Int) : List Int := (List.range (hi - lo).toNat).map fun i => lo + (i : Nat)
theorem rgD_irng (lo hi : Int) : rgD lo (hi - lo).toNat = (irng lo hi).map eI := by
  unfold rgD irng
  rw [List.map_map]
  rfl
theorem irng_len (lo hi : Int) : (irng lo hi).length = (hi - lo).toNat := by simp [irng]
theorem cutL_map {e : α → Dat} {l : List α} {i k : Option Int} : cutL (l.map e) i k = (cutL l i k).map e := by
  unfold cutL
  rw [List.length_map, List.map_take, List.map_drop]
def LmOk (n : Nat) : Prop := n ≤ LM
/-! ### promises -/
def spG (ar : α → List Dat) (pre : α → Prop) (f : α → ρ) (er : ρ → Dat) : DS := fun ds w Q => ∃ a, ds = ar a ∧ pre a ∧ Q (er (f a)) w
def spW (ar : α → List Dat) (pre : α → St2 → Prop) (f : α → St2 → ρ × St2) (er : ρ → Dat) : DS := fun ds w Q => ∃ a s st, ds = .adr s :: ar a ∧ w = wS s st ∧ pre a st ∧ Q (er (f a st).1) (wS s (f a st).2)
theorem spG_mon {ar : α → List Dat} {pre : α → Prop} {f : α → ρ} {er : ρ → Dat} : Mon1 (spG ar pre f er) := fun ds w P P' h ⟨a, e, p, q⟩ => ⟨a, e, p, h _ _ q⟩
theorem spW_mon {ar : α → List Dat} {pre : α → St2 → Prop} {f : α → St2 → ρ × St2} {er : ρ → Dat} : Mon1 (spW ar pre f er) := fun ds w P P' h ⟨a, s, st, e, p, k, q⟩ => ⟨a, s, st, e, p, k, h _ _ q⟩
end
/-! ### the head's facts -/
structure HK (fa : List He.Fa) (fn : List He.DefD) (ck : Frag → Bool) (g : Gx) : Prop where
  says : He.SaysD fa fn g.K
  ck : ck g.K = true
  kin : g.K.In g.base
  ns : g.base.Ns mainGlobals g.mg
  tree : g.P.given.tree = none
section
variable {fa : List He.Fa} {fn : List He.DefD} {ck : Frag → Bool} {g : Gx} {N ps : List Str} {k : Nat} {S : DS}
theorem HK.glo (h : HK fa fn ck g) (i : Nat) {x : Str} (hi : fa[i]? = some (.glo x)) : g.mg x = some (.ref (He.ga g.K x)) := He.glo_ok h.kin h.ns (h.says.fact i hi)
theorem HK.free (h : HK fa fn ck g) (i : Nat) {x : Str} (hi : fa[i]? = some (.free x)) : g.mg x = none := He.free_ok h.kin h.ns (h.says.fact i hi)
abbrev BodyD (g : Gx) (N ps : List Str) (scope : Scope) (body : List Stmt) (k : Nat) (S : DS) : Prop := ∀ (X : Cx), Cf X g N scope k → X.K = g.K → (∀ x, X.fn x = true) → X.stack = X.env :: X.outer → ∀ ds w Q, S ds w Q → CSS X (ds.map Slot.fz ++ List.replicate (N.length - ps.length) .un) w body { nx := fun _ w' => Q .non w', rt := Q }
abbrev BndD (d : He.DefD) (ps : List Str) : Prop := ∀ (kV doc pm : Value) (an : Option Addr) (cdv ct : Value) (us : List Value), us.length = ps.length → bindArgs (PySem.W.fnOf d.name d.qual d.params d.body d.scope .none kV doc pm an cdv ct) ⟨us, []⟩ = pure (ps.zip us)
theorem HK.fnok (h : HK fa fn ck g) (i : Nat) {d : He.DefD} (hd : fn[i]? = some d) (hdf : d.dfl = []) (sc : FnScope N ps d.scope) (bnd : BndD d ps) (len : ∀ ds w Q, S ds w Q → ds.length = ps.length) (body : BodyD g N ps d.scope d.body k S) :
    ∃ fd, FnOk g.P g.w g.K g.mg g.base CX0 (k + 1) (He.fAd g.K d.at_) fd ps (spD g.K S) ∧ Binds g.K fd ps [] ∧ PySem.W.keepIn g.K (.ref (He.fAd g.K d.at_)) = true := by
  obtain ⟨fd, F⟩ := h.says.def_ i hd
  have e : d.dvs g.K = [] := by unfold He.DefD.dvs; rw [hdf]; rfl
  rw [e] at F
  exact ⟨fd, fn_data F sc len body, F.bindsN bnd, F.kp⟩
theorem HK.fd (h : HK fa fn ck g) (i m : Nat) {d : He.DefD} {x : Str} (hd : fn[i]? = some d) (hx : d.at_ = (x, none)) (hm : fa[m]? = some (.glo x)) (hdf : d.dfl = []) (sc : FnScope N ps d.scope) (bnd : BndD d ps) (len : ∀ ds w Q, S ds w Q → ds.length = ps.length) (body : BodyD g N ps d.scope d.body k S) : Fd g x (k + 1) S := by
  obtain ⟨fd, F1, F2, F3⟩ := h.fnok i hd hdf sc bnd len body
  rw [hx] at F1 F3
  exact ⟨_, fd, ps, F1, h.glo m hm, F3, F2⟩
theorem HK.meth (h : HK fa fn ck g) (i m : Nat) {d : He.DefD} {x y : Str} (hd : fn[i]? = some d) (hx : d.at_ = (x, some y)) (hm : fa[m]? = some (.meth x y)) (hdf : d.dfl = []) (sc : FnScope N ps d.scope) (bnd : BndD d ps) (len : ∀ ds w Q, S ds w Q → ds.length = ps.length) (body : BodyD g N ps d.scope d.body k S) : Md g (He.ga g.K x) y (k + 1) S ∧ Od g (He.ga g.K x) y (k + 1) S := by
  obtain ⟨fd, F1, F2, F3⟩ := h.fnok i hd hdf sc bnd len body
  rw [hx] at F1 F3
  have M := He.meth_ok (h.says.fact m hm)
  exact ⟨⟨_, fd, ps, F1, M, F2⟩, ⟨_, fd, ps, F1, M.1, M.2, F2⟩⟩
end
/-! ### blocks -/
section
variable {X : Cx} {g : Gx} {N : List Str} {sc : Scope} {j k : Nat} {Γ Γ' Γ'' : List Slot} {w w1 w2 w' : Wd} {pos p apos : Pos} {a b e o tg : Expr} {es tgs : List Expr} {d d1 d2 d3 : Dat} {ds dd : List Dat} {l : List Dat} {is is' : List Nat} {α β γ ρ σ : Type} {ss A B body : List Stmt} {E : DE} {x y z : Str}
theorem Sat.unslots {K : Frag} {b : Bs} {G H : Hp} {O : Own} {τ : L2.St} (S : Sat K b Γ w G O τ H) : ∀ ks : List Nat, Sat K b (wipeD Γ ks) w G O τ H
  | [] => S
  | k :: ks => (S.unslots ks).unslot k
theorem CT.wipe {v : Bool} (ks : List Nat) (h : CT X (wipeD Γ ks) w e v w1) : CT X Γ w e v w1 := fun b G O σ H S Q q => h b G O σ H (S.unslots ks) Q q
theorem css_wipe (ks : List Nat) (h : CSS X (wipeD Γ ks) w ss E) : CSS X Γ w ss E := fun b G O σ H S D U => h b G O σ H (S.unslots ks) D U
theorem css_join (ks : List Nat) (hg : wipeD Γ ks = Γ') (h : CSS X Γ' w ss E) : CSS X Γ w ss E := css_wipe ks (by rw [hg]; exact h)
theorem CTg.wipe (ks : List Nat) (h : CTg X (wipeD Γ ks) tg d is Γ') : CTg X Γ tg d is Γ' := fun b w G O σ H v S r Q q => h b w G O σ H v (S.unslots ks) r Q q
theorem css_if {c : Expr} {v : Bool} (hc : CT X Γ w c v w1) (h1 : v = true → CSS X Γ w1 A { E with nx := fun Γ' w' => CSS X Γ' w' ss E }) (h2 : v = false → CSS X Γ w1 B { E with nx := fun Γ' w' => CSS X Γ' w' ss E }) : CSS X Γ w (.If c A B pos :: ss) E := css_cons (cs_if hc h1 h2)
theorem css_ret (he : CE X Γ w e d w1) (h : E.rt d w1) : CSS X Γ w (.Return (some e) pos :: ss) E := css_cons (cs_ret he h)
theorem css_drop (he : CE X Γ w e d w1) (h : CSS X Γ w1 ss E) (hs : swapsWith e none pos.line X.env = pure false := by rfl) : CSS X Γ w (.Expr e pos :: ss) E := css_cons (cs_drop he h hs)
/-- name = e, the value named -/
theorem css_asg {u v : α} {f : α → Dat} (fr : Cf X g N sc j) (i : Nat) (hi : N[i]? = some x) (hx : Loc sc x) (hf : ∀ x, X.fn x = true) (hu : u = v) (he : CE X Γ w e (f v) w1) (hw : w2 = w1) (h : CSS X (Γ.set i (.fz (f u))) w2 ss E) (hs : swapsWith e (some (.Name x p)) pos.line X.env = pure false := by rfl) : CSS X Γ w (.Assign [.Name x p] e pos :: ss) E := by
  subst hu
  subst hw
  exact css_cons (cs_asg fr i hi hx he h hs (.inl (hf x)))
/-- name = a new list, to be changed -/
theorem css_asgO {u v : List α} {f : α → Dat} (fr : Cf X g N sc j) (i : Nat) (hi : N[i]? = some x) (hx : Loc sc x) (hf : ∀ x, X.fn x = true) (hu : u = v) (he : CF X Γ w e (v.map f) w1) (hw : w2 = w1) (h : CSS X (Γ.set i (.ow (u.map f))) w2 ss E) (hs : swapsWith e (some (.Name x p)) pos.line X.env = pure false := by rfl) : CSS X Γ w (.Assign [.Name x p] e pos :: ss) E := by
  subst hu
  subst hw
  exact css_cons (cs_asgO fr i hi hx he h hs (.inl (hf x)))
section
variable {elt it : Expr} {ifs : List Expr} {scope : Scope} {own : List (Str × Nat)}
/-- name = [..], the name a plain local on the same row -/
theorem css_lc {u v : List α} {f : α → Dat} (fr : Cf X g N sc j) (i : Nat) (hi : N[i]? = some x) (hx : sc.names.lookup x = some .local) (hk : sc.kind = .function) (hu : u = v) (he : LcD X g N sc j Γ w elt tg it ifs scope own (v.map f) w1) (hw : w2 = w1) (h : CSS X (Γ.set i (.fz (eL f u))) w2 ss E)
    (hl : (apos.line == p.line) = true := by rfl) (ha : (scope.names.any fun (n, k) => n == x && (k == .local || k == .cell)) = false := by rfl) : CSS X Γ w (.Assign [.Name x apos] (.ListComp elt [⟨tg, it, ifs, 0⟩] scope p) pos :: ss) E := by
  subst hu
  subst hw
  exact css_cons (he.asg fr i hi hx h (swLc fr hk hx hl ha))
theorem css_lcO {u v : List α} {f : α → Dat} (fr : Cf X g N sc j) (i : Nat) (hi : N[i]? = some x) (hx : sc.names.lookup x = some .local) (hk : sc.kind = .function) (hu : u = v) (he : LcD X g N sc j Γ w elt tg it ifs scope own (v.map f) w1) (hw : w2 = w1) (h : CSS X (Γ.set i (.ow (u.map f))) w2 ss E)
    (hl : (apos.line == p.line) = true := by rfl) (ha : (scope.names.any fun (n, k) => n == x && (k == .local || k == .cell)) = false := by rfl) : CSS X Γ w (.Assign [.Name x apos] (.ListComp elt [⟨tg, it, ifs, 0⟩] scope p) pos :: ss) E := by
  subst hu
  subst hw
  exact css_cons (he.asgO fr i hi hx h (swLc fr hk hx hl ha))
theorem css_rows {u v : List (List α)} {f : α → Dat} {xs : List β} {enc : β → Dat} (fr : Cf X g N sc j) (i : Nat) (hN : N[i]? = some x) (hx : sc.names.lookup x = some .local) (hk : sc.kind = .function) (hu : u = v) (fv : β → List α) (hv : v = xs.map fv) (hi : CI X Γ w tg it (xs.map enc) w1) (hz : xs.length ≤ LM) (ok : BlkOk N sc scope own)
    (turn : ∀ x ∈ xs, ∃ is Γ', (∀ k ∈ is, k ∈ own.map (·.2)) ∧ ∀ (X' : Cx), Blk X g N sc scope j X' → CTg X' (wipeD Γ (own.map (·.2))) tg (enc x) is Γ' ∧ CF X' Γ' w1 elt ((fv x).map f) w1) (hw : w2 = w1) (h : CSS X (Γ.set i (.ow2 (u.map (List.map f)))) w2 ss E)
    (hl : (apos.line == p.line) = true := by rfl) (ha : (scope.names.any fun (n, k) => n == x && (k == .local || k == .cell)) = false := by rfl) (hs : ∀ x, foldedSetIterable it X.env x = pure x := by intro _; rfl) : CSS X Γ w (.Assign [.Name x apos] (.ListComp elt [⟨tg, it, [], 0⟩] scope p) pos :: ss) E := by
  subst hu
  subst hw
  subst hv
  refine css_cons (cs_rows fr i hN hx hi (by simpa using hz) ok _ (by simp) (fun i d hd => ?_) h (swLc fr hk hx hl ha) hs)
  rw [List.getElem?_map] at hd
  cases hx : xs[i]? with
  | none => rw [hx] at hd; cases hd
  | some x =>
    rw [hx] at hd
    cases hd
    obtain ⟨is, Γ', h1, h2⟩ := turn x (List.mem_of_getElem? hx)
    exact ⟨is, Γ', _, by rw [List.getElem?_map, List.getElem?_map, hx]; rfl, h1, h2⟩
end
/-- x[i] = e -/
theorem css_sub {u : List α} {L : List α} {v : α} {f : α → Dat} {i : Int} (fr : Cf X g N sc j) (m : Nat) (hm : N[m]? = some x) (hv : Vis sc x) (hd : Γ[m]? = some (.ow (L.map f))) (he : CE X Γ w e (f v) w1) (hi : CE X Γ w1 a (.int i) w2) (ok : IxOk L i) (hu : u = setI L i v) (h : CSS X (Γ.set m (.ow (u.map f))) w2 ss E)
    (h1 : (x == ("__debug__" : Str)) = false := by decide) (h2 : (x == ("__classdict__" : Str)) = false := by decide) (hs : swapsWithSole [.Subscript (.Name x p) a apos] e pos.line X.env = pure false := by rfl) (hw : swappedStores [.Subscript (.Name x p) a apos] e X.env = pure none := by rfl)
    (ha : ∀ v, assign (.Subscript (.Name x p) a apos) X.env v = (do
      let ov ← holding [v] (eval (.Name x p) X.env)
      let iv ← holding [v, ov] (eval a X.env)
      standAt apos
      holding [v, ov, iv] (setItem ov iv v)
      release [v, ov, iv] []) := by intro _; rfl) : CSS X Γ w (.Assign [.Subscript (.Name x p) a apos] e pos :: ss) E := by
  subst hu
  refine css_cons (cs_sub (n := nix L i) fr m hm hv he hd hi (by rw [List.length_map]; exact (ixN_ok ok).1) ?_ h1 h2 hs hw ha)
  have e : (L.map f).set (nix L i) (f v) = (setI L i v).map f := by rw [setI, List.map_set]
  show CSS X (Γ.set m (.ow ((L.map f).set (nix L i) (f v)))) w2 ss E
  rw [e]
  exact h
theorem css_sub2 {u : List (List α)} {L : List (List α)} {v : α} {f : α → Dat} {i k : Int} {a2 : Expr} {p2 : Pos} {w3 : Wd} (fr : Cf X g N sc j) (m : Nat) (hm : N[m]? = some x) (hv : Vis sc x) (hd : Γ[m]? = some (.ow2 (L.map (List.map f)))) (he : CE X Γ w e (f v) w1) (hi : CE X Γ w1 a (.int i) w2) (hk : CE X Γ w2 a2 (.int k) w3) (ok : IxOk L i) (ok2 : IxOk (ix L i) k) (hu : u = setI L i (setI (ix L i) k v)) (h : CSS X (Γ.set m (.ow2 (u.map (List.map f)))) w3 ss E)
    (h1 : (x == ("__debug__" : Str)) = false := by decide) (h2 : (x == ("__classdict__" : Str)) = false := by decide) (hs : swapsWithSole [.Subscript (.Subscript (.Name x p) a p2) a2 apos] e pos.line X.env = pure false := by rfl) (hw : swappedStores [.Subscript (.Subscript (.Name x p) a p2) a2 apos] e X.env = pure none := by rfl) (hx0 : PlainIx a := by exact fun _ _ => rfl)
    (ha : ∀ v, assign (.Subscript (.Subscript (.Name x p) a p2) a2 apos) X.env v = (do
      let ov ← holding [v] (eval (.Subscript (.Name x p) a p2) X.env)
      let iv ← holding [v, ov] (eval a2 X.env)
      standAt apos
      holding [v, ov, iv] (setItem ov iv v)
      release [v, ov, iv] []) := by intro _; rfl) : CSS X Γ w (.Assign [.Subscript (.Subscript (.Name x p) a p2) a2 apos] e pos :: ss) E := by
  subst hu
  have hat : L[nix L i]? = some (ix L i) := by
    have h0 := ix_at ok
    unfold L2.atI at h0
    rw [(ixN_ok ok).1] at h0
    exact h0
  refine css_cons (cs_sub2 (n := nix L i) (n2 := nix (ix L i) k) (l := (ix L i).map f) fr m hm hv he hd hi hk (by rw [List.length_map]; exact (ixN_ok ok).1) (by rw [List.getElem?_map, hat]; rfl) (by rw [List.length_map]; exact (ixN_ok ok2).1) ?_ h1 h2 hs hw hx0 ha)
  have e : (L.map (List.map f)).set (nix L i) (((ix L i).map f).set (nix (ix L i) k) (f v)) = (setI L i (setI (ix L i) k v)).map (List.map f) := by rw [setI, setI, List.map_set, List.map_set]
  show CSS X (Γ.set m (.ow2 _)) w3 ss E
  rw [e]
  exact h
/-- x.append(e) -/
theorem css_append {u : List α} {L : List α} {v : α} {f : α → Dat} {q : Pos} (fr : Cf X g N sc j) (m : Nat) (hm : N[m]? = some x) (hv : Vis sc x) (hd : Γ[m]? = some (.ow (L.map f))) (he : CE X Γ w e (f v) w1) (ok : L.length < LM) (hu : u = L ++ [v]) (h : CSS X (Γ.set m (.ow (u.map f))) w1 ss E)
    (h1 : (x == ("__debug__" : Str)) = false := by decide) (h2 : (x == ("__classdict__" : Str)) = false := by decide)
    (hbase : attributeBase (.Name x p) "append" X.env (eval (.Name x p) X.env) = eval (.Name x p) X.env := by rfl) (hst : starEach [e] X.env = (false, eval e X.env) :: starEach [] X.env := by rfl)
    (hl2 : (apos.endLine == q.line) = true := by rfl)
    (hfew : ((backTo q (starEach [e] X.env)).all (fun x => !x.1) && (backToKw q (keywordEach [] X.env)).all (fun x => x.1.isSome) && decide (([e] : List Expr).length + ([] : List Keyword).length + (if ([] : List Keyword).isEmpty then 0 else 1) < 30)) = true := by rfl) : CSS X Γ w (.Expr (.Call (.Attribute (.Name x p) "append" apos) [e] [] q) pos :: ss) E := by
  subst hu
  refine css_cons (cs_append fr m hm hv hd he (by rw [List.length_map]; exact ok) ?_ h1 h2 hbase hst hl2 hfew)
  show CSS X (Γ.set m (.ow (L.map f ++ [f v]))) w1 ss E
  rw [show L.map f ++ [f v] = (L ++ [v]).map f by rw [List.map_append]; rfl]
  exact h
/-- for, over typed states -/
theorem css_for {xs : List α} {enc : α → Dat} (fr : Cf X g N sc j) (hi : CI X Γ w tg e (xs.map enc) w1) (ks : List Nat) (Gs : σ → List Slot) (ws : σ → Wd) (I : Nat → σ → Prop) (s0 : σ) (hg0 : wipeD Γ ks = Gs s0) (hw0 : w1 = ws s0) (h0 : I 0 s0)
    (turn : ∀ i x s, xs[i]? = some x → I i s → ∃ is Γ'', CTg X (Gs s) tg (enc x) is Γ'' ∧ CSS X Γ'' (ws s) body { nx := fun Γ' w' => ∃ s', wipeD Γ' ks = Gs s' ∧ w' = ws s' ∧ I (i + 1) s', ct := fun Γ' w' => ∃ s', wipeD Γ' ks = Gs s' ∧ w' = ws s' ∧ I (i + 1) s', bk := fun Γ' w' => CSS X Γ' w' ss E, rt := E.rt, rf := E.rf })
    (done : ∀ s, I xs.length s → CSS X (Gs s) (ws s) ss E) (hs : ∀ x, foldedSetIterable e X.env x = pure x := by intro _; rfl) : CSS X Γ w (.For tg e body [] pos :: ss) E := by
  refine css_cons (cs_forT (xs := xs) (enc := enc) fr hi (fun i Γ' w' => ∃ s, wipeD Γ' ks = Gs s ∧ w' = ws s ∧ I i s) ⟨s0, hg0, hw0, h0⟩ ?_ ?_ hs)
  · rintro i x Γ' w' hx ⟨s, hg, rfl, hI⟩
    obtain ⟨is, Γ'', h1, h2⟩ := turn i x s hx hI
    exact ⟨is, Γ'', .wipe ks (by rw [hg]; exact h1), h2⟩
  · rintro Γ' w' ⟨s, hg, rfl, hI⟩
    exact css_join ks hg (done s hI)
theorem css_while (fr : Cf X g N sc j) (ks : List Nat) (Gs : σ → List Slot) (ws : σ → Wd) (I : Nat → σ → Prop) (m0 : Nat) (s0 : σ) (hg0 : wipeD Γ ks = Gs s0) (hw0 : w = ws s0) (h0 : I m0 s0)
    (turn : ∀ m s, I m s → ∃ c, CT X (Gs s) (ws s) e c (ws s) ∧ (c = true → CSS X (Gs s) (ws s) body { nx := fun Γ' w' => ∃ s', wipeD Γ' ks = Gs s' ∧ w' = ws s' ∧ ∃ m', m' < m ∧ I m' s', ct := fun Γ' w' => ∃ s', wipeD Γ' ks = Gs s' ∧ w' = ws s' ∧ ∃ m', m' < m ∧ I m' s', bk := fun Γ' w' => CSS X Γ' w' ss E, rt := E.rt, rf := E.rf }) ∧ (c = false → CSS X (Gs s) (ws s) ss E)) :
    CSS X Γ w (.While e body [] pos :: ss) E := by
  refine css_cons (cs_while fr (fun m Γ' w' => ∃ s, wipeD Γ' ks = Gs s ∧ w' = ws s ∧ I m s) m0 ⟨s0, hg0, hw0, h0⟩ ?_)
  rintro m Γ' w' ⟨s, hg, rfl, hI⟩
  obtain ⟨c, h1, h2, h3⟩ := turn m s hI
  refine ⟨c, ws s, .wipe ks (by rw [hg]; exact h1), fun hc => ?_, fun hc => css_join ks hg (h3 hc)⟩
  refine css_join ks hg (CSS.imp (h2 hc) ?_ (fun _ _ z => z) (fun _ _ z => z) (fun _ _ z => z) ?_)
  · rintro Γ2 w2 ⟨s', a1, a2, m', a3, a4⟩
    exact ⟨m', a3, s', a1, a2, a4⟩
  · rintro Γ2 w2 ⟨s', a1, a2, m', a3, a4⟩
    exact ⟨m', a3, s', a1, a2, a4⟩
end
end Fw
end

section
set_option Elab.async false
set_option linter.all false
set_option maxRecDepth 100000
set_option maxHeartbeats 2000000
/-! Fw14: the typed rules of expressions. -/
namespace Fw
open PySem PySem.Spec PyProof.Rows L2
section
variable {X : Cx} {g : Gx} {N : List Str} {sc : Scope} {j k : Nat} {Γ Γ' Γ'' : List Slot} {w w1 w2 w' : Wd} {pos p p2 apos : Pos} {a b e o tg : Expr} {es tgs : List Expr} {d d1 d2 d3 : Dat} {is is' : List Nat} {α β γ ρ σ : Type} {x y z : Str} {f : α → Dat} {h : β → Dat} {L L2 : List α}
/-! items -/
theorem t_ixT [Inhabited α] {i : Int} (ha : CE X Γ w a (eT f L) w1) (he : CE X Γ w1 e (.int i) w2) (ok : IxOk L i) (hs : PlainIx e := by exact fun _ _ => rfl) : CE X Γ w (.Subscript a e pos) (f (ix L i)) w2 := ce_ixT ha he (ix_map ok) hs
theorem t_ixL [Inhabited α] {i : Int} (ha : CE X Γ w a (eL f L) w1) (he : CE X Γ w1 e (.int i) w2) (ok : IxOk L i) (hs : PlainIx e := by exact fun _ _ => rfl) : CE X Γ w (.Subscript a e pos) (f (ix L i)) w2 := ce_ixL ha he (ix_map ok) hs
theorem t_ixO [Inhabited α] {i : Int} (fr : Cf X g N sc j) (m : Nat) (hm : N[m]? = some x) (hv : Vis sc x) (hd : Γ[m]? = some (.ow (L.map f))) (he : CE X Γ w e (.int i) w2) (ok : IxOk L i) (hs : PlainIx e := by exact fun _ _ => rfl) (h1 : (x == ("__debug__" : Str)) = false := by decide) (h2 : (x == ("__classdict__" : Str)) = false := by decide) : CE X Γ w (.Subscript (.Name x p) e pos) (f (ix L i)) w2 := ce_ixO fr m hm hv hd he (ix_map ok) hs h1 h2
theorem t_fst {u : α × β} (ha : CE X Γ w a (eP f h u) w1) {kk : Nat} : CE X Γ w (.Subscript a (.Constant (.int 0) kk p) pos) (f u.1) w1 := ce_ixT ha ce_int rfl
theorem t_snd {u : α × β} (ha : CE X Γ w a (eP f h u) w1) {kk : Nat} : CE X Γ w (.Subscript a (.Constant (.int 1) kk p) pos) (h u.2) w1 := ce_ixT ha ce_int rfl
/-! len -/
theorem t_lenT (bi : Bi g.mg) (fr : Cf X g N sc j) (hg : GlS sc "len") (ha : CE X Γ w a (eT f L) w1) (hs : starEach [a] X.env = (false, eval a X.env) :: starEach [] X.env := by rfl) : CE X Γ w (.Call (.Name "len" p) [a] [] pos) (eI L.length) w1 := by
  have q := ce_len (p := p) (pos := pos) bi fr hg (l := L.map f) ha (.inl rfl) hs
  rw [List.length_map] at q
  exact q
theorem t_lenL (bi : Bi g.mg) (fr : Cf X g N sc j) (hg : GlS sc "len") (ha : CE X Γ w a (eL f L) w1) (hs : starEach [a] X.env = (false, eval a X.env) :: starEach [] X.env := by rfl) : CE X Γ w (.Call (.Name "len" p) [a] [] pos) (eI L.length) w1 := by
  have q := ce_len (p := p) (pos := pos) bi fr hg (l := L.map f) ha (.inr rfl) hs
  rw [List.length_map] at q
  exact q
theorem t_lenO (bi : Bi g.mg) (fr : Cf X g N sc j) (hg : GlS sc "len") (m : Nat) (hm : N[m]? = some x) (hv : Vis sc x) (hd : Γ[m]? = some (.ow (L.map f))) (h1 : (x == ("__debug__" : Str)) = false := by decide) (h2 : (x == ("__classdict__" : Str)) = false := by decide) : CE X Γ w (.Call (.Name "len" p) [.Name x p2] [] pos) (eI L.length) w := by
  have q := ce_lenO (p := p) (pos := pos) (p2 := p2) (w := w) bi fr hg m hm hv hd h1 h2
  rw [List.length_map] at q
  exact q
/-! displays -/
theorem t_tup1 {u : α} {kk : Nat} (ha : CE X Γ w a (f u) w1) (hs : starEach [a] X.env = (false, eval a X.env) :: starEach [] X.env := by rfl) : CE X Γ w (.Tuple [a] kk pos) (eT f [u]) w1 := ce_tup (ca_cons ha ca_nil hs) (Nat.le_of_ble_eq_true rfl)
theorem t_tup0 {kk : Nat} : CE X Γ w (.Tuple [] kk pos) (eT f []) w := ce_tup ca_nil (Nat.le_of_ble_eq_true rfl)
theorem t_tup2 {u v : α} {kk : Nat} (ha : CE X Γ w a (f u) w1) (hb : CE X Γ w1 b (f v) w2) (hs : starEach [a, b] X.env = (false, eval a X.env) :: starEach [b] X.env := by rfl) (hs2 : starEach [b] X.env = (false, eval b X.env) :: starEach [] X.env := by rfl) : CE X Γ w (.Tuple [a, b] kk pos) (eT f [u, v]) w2 := ce_tup (ca_cons ha (ca_cons hb ca_nil hs2) hs) (Nat.le_of_ble_eq_true rfl)
theorem t_pair {u : α} {v : β} {kk : Nat} (ha : CE X Γ w a (f u) w1) (hb : CE X Γ w1 b (h v) w2) (hs : starEach [a, b] X.env = (false, eval a X.env) :: starEach [b] X.env := by rfl) (hs2 : starEach [b] X.env = (false, eval b X.env) :: starEach [] X.env := by rfl) : CE X Γ w (.Tuple [a, b] kk pos) (eP f h (u, v)) w2 := ce_tup (ca_cons ha (ca_cons hb ca_nil hs2) hs) (Nat.le_of_ble_eq_true rfl)
theorem t_lst0 : CF X Γ w (.List [] pos) (([] : List α).map f) w := cf_lst ca_nil (Nat.le_of_ble_eq_true rfl)
theorem t_lst1 {u : α} (ha : CE X Γ w a (f u) w1) (hs : starEach [a] X.env = (false, eval a X.env) :: starEach [] X.env := by rfl) : CF X Γ w (.List [a] pos) ([u].map f) w1 := cf_lst (ca_cons ha ca_nil hs) (Nat.le_of_ble_eq_true rfl)
theorem t_lst2 {u v : α} (ha : CE X Γ w a (f u) w1) (hb : CE X Γ w1 b (f v) w2) (hs : starEach [a, b] X.env = (false, eval a X.env) :: starEach [b] X.env := by rfl) (hs2 : starEach [b] X.env = (false, eval b X.env) :: starEach [] X.env := by rfl) : CF X Γ w (.List [a, b] pos) ([u, v].map f) w2 := cf_lst (ca_cons ha (ca_cons hb ca_nil hs2) hs) (Nat.le_of_ble_eq_true rfl)
theorem t_fz (hf : CF X Γ w e (L.map f) w1) : CE X Γ w e (eL f L) w1 := hf.ce
/-! tuple(..), list(..) -/
theorem t_tupL (bi : Bi g.mg) (fr : Cf X g N sc j) (hg : GlS sc "tuple") (ha : CE X Γ w a (eL f L) w1) (hs : starEach [a] X.env = (false, eval a X.env) :: starEach [] X.env := by rfl) : CE X Γ w (.Call (.Name "tuple" p) [a] [] pos) (eT f L) w1 := ce_tupleOf bi fr hg ha (.inr rfl) hs
theorem t_tupT (bi : Bi g.mg) (fr : Cf X g N sc j) (hg : GlS sc "tuple") (ha : CE X Γ w a (eT f L) w1) (hs : starEach [a] X.env = (false, eval a X.env) :: starEach [] X.env := by rfl) : CE X Γ w (.Call (.Name "tuple" p) [a] [] pos) (eT f L) w1 := ce_tupleOf bi fr hg ha (.inl rfl) hs
theorem t_tupO (bi : Bi g.mg) (fr : Cf X g N sc j) (hg : GlS sc "tuple") (m : Nat) (hm : N[m]? = some x) (hv : Vis sc x) (hd : Γ[m]? = some (.ow (L.map f))) (h1 : (x == ("__debug__" : Str)) = false := by decide) (h2 : (x == ("__classdict__" : Str)) = false := by decide) : CE X Γ w (.Call (.Name "tuple" p) [.Name x p2] [] pos) (eT f L) w := ce_tupleO bi fr hg m hm hv hd h1 h2
theorem t_lstL (bi : Bi g.mg) (fr : Cf X g N sc j) (hg : GlS sc "list") (ha : CE X Γ w a (eL f L) w1) (hs : starEach [a] X.env = (false, eval a X.env) :: starEach [] X.env := by rfl) : CF X Γ w (.Call (.Name "list" p) [a] [] pos) (L.map f) w1 := cf_listOf bi fr hg ha (.inr rfl) hs
theorem t_lstT (bi : Bi g.mg) (fr : Cf X g N sc j) (hg : GlS sc "list") (ha : CE X Γ w a (eT f L) w1) (hs : starEach [a] X.env = (false, eval a X.env) :: starEach [] X.env := by rfl) : CF X Γ w (.Call (.Name "list" p) [a] [] pos) (L.map f) w1 := cf_listOf bi fr hg ha (.inl rfl) hs
def RgOk (n : Int) : Prop := 0 ≤ n ∧ n ≤ LM
def RgOk2 (m n : Int) : Prop := (0 ≤ m ∧ m ≤ LM) ∧ (0 ≤ n ∧ n ≤ LM)
theorem irng0 {n : Int} (h : 0 ≤ n) : (List.range n.toNat).map (fun i => Dat.int (i : Nat)) = (irng 0 n).map eI := by
  unfold irng
  rw [List.map_map, Int.sub_zero]
  exact List.map_congr_left fun i _ => by show Dat.int _ = Dat.int (0 + (i : Int)); rw [Int.zero_add]
theorem irng2 {m n : Int} (hm : 0 ≤ m) (hn : 0 ≤ n) : (List.range (n.toNat - m.toNat)).map (fun i => Dat.int ((m.toNat + i : Nat) : Int)) = (irng m n).map eI := by
  unfold irng
  rw [List.map_map, show (n - m).toNat = n.toNat - m.toNat by omega]
  exact List.map_congr_left fun i _ => by show Dat.int _ = Dat.int (m + (i : Int)); congr 1; omega
theorem t_lstRg (bi : Bi g.mg) (fr : Cf X g N sc j) (hg : GlS sc "list") (hg2 : GlS sc "range") {n : Int} {pos2 : Pos} (ha : CE X Γ w a (.int n) w1) (ok : RgOk n) (na : starEach [a] X.env = (false, eval a X.env) :: starEach [] X.env := by rfl) (nb : starEach [.Call (.Name "range" p2) [a] [] pos2] X.env = (false, eval (.Call (.Name "range" p2) [a] [] pos2) X.env) :: starEach [] X.env := by rfl) : CF X Γ w (.Call (.Name "list" p) [.Call (.Name "range" p2) [a] [] pos2] [] pos) ((irng 0 n).map eI) w1 := by
  obtain ⟨h0, h1⟩ := ok
  rw [← irng0 h0]
  exact cf_listRg1 bi fr hg hg2 (n := n.toNat) (by rw [Int.toNat_of_nonneg h0]; exact ha) (by omega) na nb
theorem t_lstRg2 (bi : Bi g.mg) (fr : Cf X g N sc j) (hg : GlS sc "list") (hg2 : GlS sc "range") {m n : Int} {pos2 : Pos} (ha : CE X Γ w a (.int m) w1) (he : CE X Γ w1 e (.int n) w2) (ok : RgOk2 m n) (na : starEach [a, e] X.env = (false, eval a X.env) :: starEach [e] X.env := by rfl) (na2 : starEach [e] X.env = (false, eval e X.env) :: starEach [] X.env := by rfl)
    (hp : (backTo pos2 (starEach [e] X.env)).any (·.1) = false := by rfl) (nb : starEach [.Call (.Name "range" p2) [a, e] [] pos2] X.env = (false, eval (.Call (.Name "range" p2) [a, e] [] pos2) X.env) :: starEach [] X.env := by rfl) : CF X Γ w (.Call (.Name "list" p) [.Call (.Name "range" p2) [a, e] [] pos2] [] pos) ((irng m n).map eI) w2 := by
  obtain ⟨⟨h0, h1⟩, h2, h3⟩ := ok
  rw [← irng2 h0 h2]
  exact cf_listRg2 bi fr hg hg2 (m := m.toNat) (n := n.toNat) (by rw [Int.toNat_of_nonneg h0]; exact ha) (by rw [Int.toNat_of_nonneg h2]; exact he) (by omega) (by omega) na na2 hp nb
theorem t_tupRg (bi : Bi g.mg) (fr : Cf X g N sc j) (hg : GlS sc "tuple") (hg2 : GlS sc "range") {n : Int} {pos2 : Pos} (ha : CE X Γ w a (.int n) w1) (ok : RgOk n) (na : starEach [a] X.env = (false, eval a X.env) :: starEach [] X.env := by rfl) (nb : starEach [.Call (.Name "range" p2) [a] [] pos2] X.env = (false, eval (.Call (.Name "range" p2) [a] [] pos2) X.env) :: starEach [] X.env := by rfl) : CE X Γ w (.Call (.Name "tuple" p) [.Call (.Name "range" p2) [a] [] pos2] [] pos) (eT eI (irng 0 n)) w1 := by
  obtain ⟨h0, h1⟩ := ok
  unfold eT
  rw [← irng0 h0]
  exact ce_tupRg1 bi fr hg hg2 (n := n.toNat) (by rw [Int.toNat_of_nonneg h0]; exact ha) (by omega) na nb
/-! slices -/
theorem t_slT {lo hi : Option Expr} {i k : Option Int} {w3 : Wd} (ha : CE X Γ w a (eT f L) w1) (h1 : CO X Γ w1 lo i w2) (h2 : CO X Γ w2 hi k w3) : CE X Γ w (.Subscript a (.Slice lo hi none p2) pos) (eT f (cutL L i k)) w3 := by
  unfold eT
  rw [← cutL_map]
  exact ce_slT ha h1 h2
theorem t_slL {lo hi : Option Expr} {i k : Option Int} {w3 : Wd} (ha : CE X Γ w a (eL f L) w1) (h1 : CO X Γ w1 lo i w2) (h2 : CO X Γ w2 hi k w3) : CF X Γ w (.Subscript a (.Slice lo hi none p2) pos) ((cutL L i k).map f) w3 := by
  rw [← cutL_map]
  exact cf_slL ha h1 h2
theorem t_slO (fr : Cf X g N sc j) {lo hi : Option Expr} {i k : Option Int} {w3 : Wd} (m : Nat) (hm : N[m]? = some x) (hv : Vis sc x) (hd : Γ[m]? = some (.ow (L.map f))) (h1 : CO X Γ w lo i w2) (h2 : CO X Γ w2 hi k w3) (g1 : (x == ("__debug__" : Str)) = false := by decide) (g2 : (x == ("__classdict__" : Str)) = false := by decide) : CF X Γ w (.Subscript (.Name x p) (.Slice lo hi none p2) pos) ((cutL L i k).map f) w3 := by
  rw [← cutL_map]
  exact cf_slO fr m hm hv hd h1 h2 g1 g2
theorem co_none : CO X Γ w none none w := rfl
theorem co_some {i : Int} (h : CE X Γ w e (.int i) w1) : CO X Γ w (some e) (some i) w1 := h
/-! put together, many times -/
theorem t_catT (ha : CE X Γ w a (eT f L) w1) (hb : CE X Γ w1 b (eT f L2) w2) (ok : L.length + L2.length ≤ LM) : CE X Γ w (.BinOp a .Add b pos) (eT f (L ++ L2)) w2 := by
  have q := ce_bin (pos := pos) ha hb (b2_catT (by simpa using ok))
  rw [← List.map_append] at q
  exact q
theorem t_catL (ha : CE X Γ w a (eL f L) w1) (hb : CE X Γ w1 b (eL f L2) w2) (ok : L.length + L2.length ≤ LM) : CF X Γ w (.BinOp a .Add b pos) ((L ++ L2).map f) w2 := by
  rw [List.map_append]
  exact cf_cat ha hb (by simpa using ok)
def rpt (n : Int) (u : α) : List α := List.replicate n.toNat u
theorem t_rep1T {u : α} {n : Int} (ha : CE X Γ w a (eT f [u]) w1) (hb : CE X Γ w1 b (.int n) w2) (ok : 1 ≤ n ∧ n ≤ 1000) : CE X Γ w (.BinOp a .Mult b pos) (eT f (rpt n u)) w2 := by
  have hb' : CE X Γ w1 b (.int (n.toNat : Nat)) w2 := by rw [Int.toNat_of_nonneg (by omega)]; exact hb
  have q := ce_bin (pos := pos) ha hb' (b2_repT (l := [f u]) (by simp) (by omega) (by omega) (Nat.le_of_ble_eq_true rfl))
  have e2 : (List.replicate n.toNat [f u]).flatten = (rpt n u).map f := by rw [rpt, List.map_replicate, List.flatten_replicate_singleton]
  rw [e2] at q
  exact q
theorem t_rep1L {u : α} {n : Int} (ha : CE X Γ w a (eL f [u]) w1) (hb : CE X Γ w1 b (.int n) w2) (ok : 0 ≤ n ∧ n ≤ LM) : CF X Γ w (.BinOp a .Mult b pos) ((rpt n u).map f) w2 := by
  have hz : [f u].length * n.toNat ≤ LM := by
    have h1 : (n.toNat : Int) ≤ LM := by omega
    show 1 * n.toNat ≤ LM
    omega
  have q := cf_rep (pos := pos) (l := [f u]) ha hb ok.2 ok.1 hz
  have e2 : (List.replicate n.toNat [f u]).flatten = (rpt n u).map f := by rw [rpt, List.map_replicate, List.flatten_replicate_singleton]
  rw [e2] at q
  exact q
/-! what is walked -/
theorem t_ciT (ha : CE X Γ w a (eT f L) w1) : CI X Γ w tg a (L.map f) w1 := ci_tup ha
theorem t_ciL (ha : CE X Γ w a (eL f L) w1) : CI X Γ w tg a (L.map f) w1 := ci_list ha
theorem t_ciR (bi : Bi g.mg) (fr : Cf X g N sc j) (hg : GlS sc "range") {n : Int} (ha : CE X Γ w a (.int n) w1) (ok : RgOk n) (hs : starEach [a] X.env = [(false, eval a X.env)] := by rfl) : CI X Γ w tg (.Call (.Name "range" p) [a] [] pos) ((irng 0 n).map eI) w1 := by
  have q := ci_range1 (tg := tg) (p := p) (pos := pos) bi fr hg (ca_cons ha ca_nil hs) ok.2 hs ok.1
  rw [show n.toNat = (n - 0).toNat by omega, rgD_irng] at q
  exact q
theorem t_ciR2 (bi : Bi g.mg) (fr : Cf X g N sc j) (hg : GlS sc "range") {m n : Int} (ha : CE X Γ w a (.int m) w1) (he : CE X Γ w1 e (.int n) w2) (ok : RgOk2 m n) (hs : starEach [a, e] X.env = [(false, eval a X.env), (false, eval e X.env)] := by rfl) (hs2 : starEach [e] X.env = [(false, eval e X.env)] := by rfl) : CI X Γ w tg (.Call (.Name "range" p) [a, e] [] pos) ((irng m n).map eI) w2 := by
  obtain ⟨⟨h0, h1⟩, h2, h3⟩ := ok
  have q := ci_range2 (tg := tg) (p := p) (pos := pos) bi fr hg (ca_cons ha (ca_cons he ca_nil hs2) (by rw [hs, hs2])) ⟨by omega, h1⟩ ⟨by omega, h3⟩ hs hs2
  rw [rgD_irng] at q
  exact q
theorem t_ciZL (bi : Bi g.mg) (fr : Cf X g N sc j) (hg : GlS sc "zip") {m : Nat} {tp : Pos} {M : List β} (ha : CE X Γ w a (eL f L) w1) (hb : CE X Γ w1 b (eL h M) w2) (hs : starEach [a, b] X.env = (false, eval a X.env) :: starEach [b] X.env := by rfl) (hs1 : starEach [b] X.env = (false, eval b X.env) :: starEach [] X.env := by rfl) (hs2 : ((backTo pos (starEach [b] X.env)).any fun x => x.1) = false := by rfl) :
    CI X Γ w (.Tuple tgs m tp) (.Call (.Name "zip" p) [a, b] [] pos) ((L.zip M).map (eP f h)) w2 := ci_zipM bi fr hg (ca_cons ha (ca_cons hb ca_nil hs1) hs) (.inl ⟨rfl, rfl⟩) hs hs2
theorem t_ciZT (bi : Bi g.mg) (fr : Cf X g N sc j) (hg : GlS sc "zip") {m : Nat} {tp : Pos} {M : List β} (ha : CE X Γ w a (eT f L) w1) (hb : CE X Γ w1 b (eT h M) w2) (hs : starEach [a, b] X.env = (false, eval a X.env) :: starEach [b] X.env := by rfl) (hs1 : starEach [b] X.env = (false, eval b X.env) :: starEach [] X.env := by rfl) (hs2 : ((backTo pos (starEach [b] X.env)).any fun x => x.1) = false := by rfl) :
    CI X Γ w (.Tuple tgs m tp) (.Call (.Name "zip" p) [a, b] [] pos) ((L.zip M).map (eP f h)) w2 := ci_zipM bi fr hg (ca_cons ha (ca_cons hb ca_nil hs1) hs) (.inr ⟨rfl, rfl⟩) hs hs2
/-- the items with their places -/
def enm (L : List α) : List (Int × α) := L.zipIdx.map fun q => ((q.2 : Int), q.1)
theorem t_ciE (bi : Bi g.mg) (fr : Cf X g N sc j) (hg : GlS sc "enumerate") {m : Nat} {tp : Pos} (ha : CE X Γ w a (eL f L) w1) (hs : starEach [a] X.env = [(false, eval a X.env)] := by rfl) : CI X Γ w (.Tuple tgs m tp) (.Call (.Name "enumerate" p) [a] [] pos) ((enm L).map (eP eI f)) w1 := by
  have q := ci_enumM (tgs := tgs) (m := m) (tp := tp) (p := p) (pos := pos) bi fr hg (ca_cons ha ca_nil hs) hs
  unfold enm
  rw [List.map_map]
  exact q
/-! comprehensions -/
section
variable {elt it : Expr} {scope : Scope} {own : List (Str × Nat)} {xs : List γ}
theorem t_lc {enc : γ → Dat} {val : γ → α} (hi : CI X Γ w tg it (xs.map enc) w1) (hl : xs.length ≤ LM) (ok : BlkOk N sc scope own)
    (turn : ∀ x ∈ xs, ∃ is Γ', (∀ k ∈ is, k ∈ own.map (·.2)) ∧ ∀ (X' : Cx), Blk X g N sc scope j X' → CTg X' (wipeD Γ (own.map (·.2))) tg (enc x) is Γ' ∧ CE X' Γ' w1 elt (f (val x)) w1)
    (hs : ∀ x, foldedSetIterable it X.env x = pure x := by intro _; rfl) : LcD X g N sc j Γ w elt tg it [] scope own ((xs.map val).map f) w1 := by
  rw [List.map_map]
  exact lc_map hi hl ok turn hs
theorem t_lcF {enc : γ → Dat} {val : γ → α} {pr : γ → Bool} {c : Expr} (hi : CI X Γ w tg it (xs.map enc) w1) (hl : xs.length ≤ LM) (ok : BlkOk N sc scope own)
    (turn : ∀ x ∈ xs, ∃ is Γ', (∀ k ∈ is, k ∈ own.map (·.2)) ∧ ∀ (X' : Cx), Blk X g N sc scope j X' → CTg X' (wipeD Γ (own.map (·.2))) tg (enc x) is Γ' ∧ CT X' Γ' w1 c (pr x) w1 ∧ (pr x = true → CE X' Γ' w1 elt (f (val x)) w1))
    (hs : ∀ x, foldedSetIterable it X.env x = pure x := by intro _; rfl) : LcD X g N sc j Γ w elt tg it [c] scope own (((xs.filter pr).map val).map f) w1 := by
  rw [List.map_map]
  exact lc_filter hi hl ok turn hs
/-- one after another, the state handed on -/
def mapS (u : γ → St2 → α × St2) : List γ → St2 → List α × St2
  | [], st => ([], st)
  | x :: r, st => ((u x st).1 :: (mapS u r (u x st).2).1, (mapS u r (u x st).2).2)
theorem mapW_S {sa : Addr} (u : γ → St2 → α × St2) : ∀ (xs : List γ) (st : St2), mapW (fun x w => match w with | some (s, i, j) => ((u x (i, j)).1, wS s (u x (i, j)).2) | none => ((u x (0, 0)).1, none)) xs (wS sa st) = ((mapS u xs st).1, wS sa (mapS u xs st).2)
  | [], _ => rfl
  | x :: r, st => by
    show (_ :: (mapW _ r _).1, (mapW _ r _).2) = _
    have q := mapW_S (sa := sa) u r (u x st).2
    exact Prod.ext (congrArg (fun z => (u x st).1 :: z.1) q) (congrArg (fun z => z.2) q)
theorem t_lcW {enc : γ → Dat} {sa : Addr} {st : St2} (u : γ → St2 → α × St2) (hi : CI X Γ w tg it (xs.map enc) (wS sa st)) (hl : xs.length ≤ LM) (ok : BlkOk N sc scope own)
    (turn : ∀ x ∈ xs, ∀ st : St2, ∃ is Γ', (∀ k ∈ is, k ∈ own.map (·.2)) ∧ ∀ (X' : Cx), Blk X g N sc scope j X' → CTg X' (wipeD Γ (own.map (·.2))) tg (enc x) is Γ' ∧ CE X' Γ' (wS sa st) elt (f (u x st).1) (wS sa (u x st).2))
    (hs : ∀ x, foldedSetIterable it X.env x = pure x := by intro _; rfl) : LcD X g N sc j Γ w elt tg it [] scope own ((mapS u xs st).1.map f) (wS sa (mapS u xs st).2) := by
  have q := lc_mapW (g := g) (j := j) (elt := elt) (f := f) (gf := fun x w => match w with | some (s, i, j) => ((u x (i, j)).1, wS s (u x (i, j)).2) | none => ((u x (0, 0)).1, none)) hi hl ok (fun x hx w' hw => ?_) hs
  · rw [mapW_S] at q
    exact q
  · cases w' with
    | none => cases hw
    | some v =>
      obtain ⟨s, i, jj⟩ := v
      have e : s = sa := by injection hw
      subst e
      obtain ⟨is, Γ', h1, h2⟩ := turn x hx (i, jj)
      exact ⟨is, Γ', h1, rfl, h2⟩
end
/-! tests, truth values -/
theorem t_if {t : Expr} {c : Bool} {u v : α} (ht : CT X Γ w t c w1) (h1 : c = true → CE X Γ w1 a (f u) w2) (h2 : c = false → CE X Γ w1 b (f v) w2) : CE X Γ w (.IfExp t a b pos) (f (if c = true then u else v)) w2 := ce_if ht (fun hc => by rw [if_pos hc]; exact h1 hc) fun hc => by rw [if_neg (by rw [hc]; exact Bool.false_ne_true)]; exact h2 hc
theorem t_boolI {c : Bool} (bi : Bi g.mg) (fr : Cf X g N sc j) (hg : GlS sc "int") (ha : CE X Γ w a (eB c) w1) (hs : starEach [a] X.env = (false, eval a X.env) :: starEach [] X.env := by rfl) : CE X Γ w (.Call (.Name "int" p) [a] [] pos) (eI (if c = true then 1 else 0)) w1 := ce_int1 bi fr hg ha (.inr ⟨c, rfl, by cases c <;> rfl⟩) hs
theorem t_intI {i : Int} (bi : Bi g.mg) (fr : Cf X g N sc j) (hg : GlS sc "int") (ha : CE X Γ w a (eI i) w1) (hs : starEach [a] X.env = (false, eval a X.env) :: starEach [] X.env := by rfl) : CE X Γ w (.Call (.Name "int" p) [a] [] pos) (eI i) w1 := ce_int1 bi fr hg ha (.inl rfl) hs
theorem t_abs {i : Int} (bi : Bi g.mg) (fr : Cf X g N sc j) (hg : GlS sc "abs") (ha : CE X Γ w a (eI i) w1) (hs : starEach [a] X.env = (false, eval a X.env) :: starEach [] X.env := by rfl) : CE X Γ w (.Call (.Name "abs" p) [a] [] pos) (eI i.natAbs) w1 := by
  have e : ((i.natAbs : Int)) = if i < 0 then -i else i := by
    by_cases h : i < 0
    · rw [if_pos h]; omega
    · rw [if_neg h]; omega
  show CE X Γ w _ (Dat.int _) w1
  rw [e]
  exact ce_abs bi fr hg ha hs
theorem t_all {bs : List Bool} (bi : Bi g.mg) (fr : Cf X g N sc j) (hg : GlS sc "all") (ha : CE X Γ w a (eL eB bs) w1) (hs : starEach [a] X.env = (false, eval a X.env) :: starEach [] X.env := by rfl) : CE X Γ w (.Call (.Name "all" p) [a] [] pos) (eB (bs.all id)) w1 := ce_all bi fr hg ha hs
theorem t_any {bs : List Bool} (bi : Bi g.mg) (fr : Cf X g N sc j) (hg : GlS sc "any") (ha : CE X Γ w a (eL eB bs) w1) (hs : starEach [a] X.env = (false, eval a X.env) :: starEach [] X.env := by rfl) : CE X Γ w (.Call (.Name "any" p) [a] [] pos) (eB (bs.any id)) w1 := ce_any bi fr hg ha hs
def MulOk (i j : Int) : Prop := IntMulOk i j
theorem t_eqI {i k : Int} : B2 X (compareOp .Eq) (eI i) (eI k) (eB (decide (i = k))) := b2_eqI
theorem t_neI {i k : Int} : B2 X (compareOp .NotEq) (eI i) (eI k) (eB (decide (i ≠ k))) := by
  have e : decide (i ≠ k) = (i != k) := by rw [Bool.eq_iff_iff]; simp
  rw [e]
  exact b2_neI
theorem t_eqB {i k : Bool} : B2 X (compareOp .Eq) (eB i) (eB k) (eB (decide (i = k))) := by
  have e : decide (i = k) = (i == k) := by cases i <;> cases k <;> rfl
  rw [e]
  exact b2_eqB
theorem t_neB {i k : Bool} : B2 X (compareOp .NotEq) (eB i) (eB k) (eB (decide (i ≠ k))) := by
  have e : decide (i ≠ k) = (i != k) := by cases i <;> cases k <;> rfl
  rw [e]
  exact b2_neB
theorem t_eqP {u v : Int × Int} (fr : Cf X g N sc j) (hj : 1 ≤ j) : B2 X (compareOp .Eq) (eP eI eI u) (eP eI eI v) (eB (decide (u = v))) := by
  have q := b2_eqIs (l1 := [u.1, u.2]) (l2 := [v.1, v.2]) fr hj
  have e : ([u.1, u.2] == [v.1, v.2]) = decide (u = v) := by rw [Bool.eq_iff_iff]; obtain ⟨u1, u2⟩ := u; obtain ⟨v1, v2⟩ := v; simp
  rw [e] at q
  exact q
theorem t_neP {u v : Int × Int} (fr : Cf X g N sc j) (hj : 1 ≤ j) : B2 X (compareOp .NotEq) (eP eI eI u) (eP eI eI v) (eB (decide (u ≠ v))) := by
  have q := b2_neIs (l1 := [u.1, u.2]) (l2 := [v.1, v.2]) fr hj
  have e : ([u.1, u.2] != [v.1, v.2]) = decide (u ≠ v) := by
    rw [Bool.eq_iff_iff]
    obtain ⟨u1, u2⟩ := u
    obtain ⟨v1, v2⟩ := v
    simp only [bne_iff_ne, ne_eq, decide_eq_true_eq, List.cons.injEq, Prod.mk.injEq, and_true]
  rw [e] at q
  exact q
theorem t_eqTI {u v : List Int} (fr : Cf X g N sc j) (hj : 1 ≤ j) : B2 X (compareOp .Eq) (eT eI u) (eT eI v) (eB (decide (u = v))) := by
  have q := b2_eqIs (l1 := u) (l2 := v) fr hj
  have e : (u == v) = decide (u = v) := by rw [Bool.eq_iff_iff]; simp
  rw [e] at q
  exact q
theorem t_neTI {u v : List Int} (fr : Cf X g N sc j) (hj : 1 ≤ j) : B2 X (compareOp .NotEq) (eT eI u) (eT eI v) (eB (decide (u ≠ v))) := by
  have q := b2_neIs (l1 := u) (l2 := v) fr hj
  have e : (u != v) = decide (u ≠ v) := by rw [Bool.eq_iff_iff]; simp
  rw [e] at q
  exact q
end
end Fw
end

section
set_option Elab.async false
set_option linter.all false
set_option maxRecDepth 100000
set_option maxHeartbeats 2000000
/-! Fw15: assignments of several, as blocks; the class Ratio's rules. -/
namespace Fw
open PySem PySem.Spec PyProof.Rows L2
section
variable {X : Cx} {g : Gx} {N : List Str} {sc : Scope} {j k : Nat} {Γ Γ' Γ'' : List Slot} {w w1 w2 w3 w' : Wd} {pos p apos : Pos} {a b e o tg : Expr} {es tgs : List Expr} {d d1 d2 d3 : Dat} {ds dd : List Dat} {l : List Dat} {is is' : List Nat} {α β γ ρ σ : Type} {ss A B body : List Stmt} {E : DE} {x y z : Str}
theorem lk (s : Scope) {x : Str} (h : s.names.lookup x = some .local ∨ s.names.lookup x = some .cell) : Loc s x := h
/-- x, y = a, b: to frozen data, new lists -/
theorem css_par2 {px py pt : Pos} {kt k2 : Nat} {pt2 : Pos} {m1 m2 n1 n2 : Mo} (fr : Cf X g N sc j) (i1 i2 : Nat) (h1 : N[i1]? = some x) (h2 : N[i2]? = some y) (hne : i1 ≠ i2) (hx : Loc sc x) (hy : Loc sc y) (hf : ∀ x, X.fn x = true) (e1 : n1 = m1) (e2 : n2 = m2) (ha : CMd X Γ w a m1 w1) (he : CMd X Γ w1 e m2 w2) (hw : w3 = w2) (h : CSS X ((Γ.set i1 n1.slot).set i2 n2.slot) w3 ss E)
    (hsw : (sc.names.lookup x = some .local ∧ sc.names.lookup y = some .local ∧ swappedStores [.Tuple [.Name x px, .Name y py] kt pt] (.Tuple [a, e] k2 pt2) X.env = pure (some [x, y])) ∨ swappedStores [.Tuple [.Name x px, .Name y py] kt pt] (.Tuple [a, e] k2 pt2) X.env = pure none)
    (hs : swapsWithSole [.Tuple [.Name x px, .Name y py] kt pt] (.Tuple [a, e] k2 pt2) pos.line X.env = pure false := by rfl) (hst : starEach [a, e] X.env = (false, eval a X.env) :: starEach [e] X.env := by rfl) (hst2 : starEach [e] X.env = (false, eval e X.env) :: starEach [] X.env := by rfl)
    (hn : (assignEach [.Name x px, .Name y py] X.env).length = 2 := by rfl) (hni : (assignEach [.Name x px, .Name y py] X.env).findIdx? (·.1) = none := by rfl)
    (hg1 : (assignEach [.Name x px, .Name y py] X.env).map (·.2) = assign (.Name x px) X.env :: (assignEach [.Name y py] X.env).map (·.2) := by rfl) (hg2 : (assignEach [.Name y py] X.env).map (·.2) = assign (.Name y py) X.env :: (assignEach [] X.env).map (·.2) := by rfl)
    (hA : (assignEach [.Tuple [.Name x px, .Name y py] kt pt] X.env).map (·.2) = [assign (.Tuple [.Name x px, .Name y py] kt pt) X.env] := by rfl) :
    CSS X Γ w (.Assign [.Tuple [.Name x px, .Name y py] kt pt] (.Tuple [a, e] k2 pt2) pos :: ss) E := by
  subst e1
  subst e2
  subst hw
  exact css_cons (cs_asg2 fr i1 i2 h1 h2 hne hx hy ha he h hsw (fn_any hf) hs hst hst2 hn hni hg1 hg2 hA)
/-- x, y, z = a, b, c: to frozen data -/
theorem css_par3 {px py pz pt : Pos} {kt k2 : Nat} {pt2 : Pos} {c : Expr} {f1 f2 f3 : Dat} {w4 : Wd} (fr : Cf X g N sc j) (i1 i2 i3 : Nat) (h1 : N[i1]? = some x) (h2 : N[i2]? = some y) (h3 : N[i3]? = some z) (n12 : i1 ≠ i2) (n13 : i1 ≠ i3) (n23 : i2 ≠ i3) (hx : sc.names.lookup x = some .local) (hy : sc.names.lookup y = some .local) (hz : sc.names.lookup z = some .local) (e1 : f1 = d1) (e2 : f2 = d2) (e3 : f3 = d3)
    (ha : CE X Γ w a d1 w1) (he : CE X Γ w1 e d2 w2) (hc : CE X Γ w2 c d3 w3) (hw : w4 = w3) (h : CSS X (((Γ.set i1 (.fz f1)).set i2 (.fz f2)).set i3 (.fz f3)) w4 ss E)
    (hsw : swappedStores [.Tuple [.Name x px, .Name y py, .Name z pz] kt pt] (.Tuple [a, e, c] k2 pt2) X.env = pure (some [x, y, z]))
    (hs : swapsWithSole [.Tuple [.Name x px, .Name y py, .Name z pz] kt pt] (.Tuple [a, e, c] k2 pt2) pos.line X.env = pure false := by rfl) (hst : starEach [a, e, c] X.env = (false, eval a X.env) :: starEach [e, c] X.env := by rfl) (hst2 : starEach [e, c] X.env = (false, eval e X.env) :: starEach [c] X.env := by rfl) (hst3 : starEach [c] X.env = (false, eval c X.env) :: starEach [] X.env := by rfl) :
    CSS X Γ w (.Assign [.Tuple [.Name x px, .Name y py, .Name z pz] kt pt] (.Tuple [a, e, c] k2 pt2) pos :: ss) E := by
  subst e1
  subst e2
  subst e3
  subst hw
  refine css_cons fun b G O τ H S D U => ?_
  refine ⟨_, ps_par3 (i := i1) (j := i2) (l := i3) fr.calm (by rw [fr.hN]; exact fr.nd) (by rw [fr.hN]; exact h1) (by rw [fr.hN]; exact h2) (by rw [fr.hN]; exact h3) n12 n13 n23 (by rw [fr.hsc]; exact hx) (by rw [fr.hsc]; exact hy) (by rw [fr.hsc]; exact hz) (pa_cons pe_re (pa_cons pe_re (pa_cons pe_re pa_nil hst3) hst2) hst) hsw hs, ?_⟩
  refine ha b G O τ H S _ fun v1 G1 H1 s1 r1 => he b G1 O τ H1 (S.step s1) _ fun v2 G2 H2 s2 r2 => hc b G2 O τ H2 ((S.step s1).step s2) _ fun v3 G3 H3 s3 r3 => ?_
  refine ⟨v1, v2, v3, rfl, U.nx _ _ _ _ _ _ ((((S.step ((s1.trans s2).trans s3)).put (r1.mono (s2.gx.trans s3.gx)) i1).put (r2.mono s3.gx) i2).put r3 i3) h⟩
/-- p, q = e, e a pair -/
theorem css_asgP {v : α × β} {u1 : α} {u2 : β} {f : α → Dat} {h : β → Dat} {px py pt : Pos} {kt : Nat} (fr : Cf X g N sc j) (i1 i2 : Nat) (h1 : N[i1]? = some x) (h2 : N[i2]? = some y) (hx : Loc sc x) (hy : Loc sc y) (hf : ∀ x, X.fn x = true) (e1 : u1 = v.1) (e2 : u2 = v.2) (he : CE X Γ w e (eP f h v) w1) (hw : w3 = w1) (k : CSS X ((Γ.set i1 (.fz (f u1))).set i2 (.fz (h u2))) w3 ss E)
    (hs : swapsWithSole [.Tuple [.Name x px, .Name y py] kt pt] e pos.line X.env = pure false := by rfl) (hsw : swappedStores [.Tuple [.Name x px, .Name y py] kt pt] e X.env = pure none := by rfl)
    (hn : (assignEach [.Name x px, .Name y py] X.env).length = 2 := by rfl) (hni : (assignEach [.Name x px, .Name y py] X.env).findIdx? (·.1) = none := by rfl)
    (hg1 : (assignEach [.Name x px, .Name y py] X.env).map (·.2) = assign (.Name x px) X.env :: (assignEach [.Name y py] X.env).map (·.2) := by rfl) (hg2 : (assignEach [.Name y py] X.env).map (·.2) = assign (.Name y py) X.env :: (assignEach [] X.env).map (·.2) := by rfl)
    (hA : (assignEach [.Tuple [.Name x px, .Name y py] kt pt] X.env).map (·.2) = [assign (.Tuple [.Name x px, .Name y py] kt pt) X.env] := by rfl) :
    CSS X Γ w (.Assign [.Tuple [.Name x px, .Name y py] kt pt] e pos :: ss) E := by
  subst e1
  subst e2
  subst hw
  exact css_cons (cs_asgT he (ctg_tup fr (ctgs_cons (ctg_name fr i1 h1 hx (.inl (hf x))) (ctgs_cons (ctg_name fr i2 h2 hy (.inl (hf y))) ctgs_nil hg2) hg1) hn hni) k hs hsw hA)
/-- a target of names, of tuples of names -/
theorem css_asgT (he : CE X Γ w e d w1) (ht : CTg X Γ tg d is Γ') (hw : w3 = w1) (hg : Γ' = Γ'') (k : CSS X Γ'' w3 ss E) (hs : swapsWithSole [tg] e pos.line X.env = pure false := by rfl) (hsw : swappedStores [tg] e X.env = pure none := by rfl) (hA : (assignEach [tg] X.env).map (·.2) = [assign tg X.env] := by rfl) : CSS X Γ w (.Assign [tg] e pos :: ss) E := by
  subst hw
  subst hg
  exact css_cons (cs_asgT he ht k hs hsw hA)
/-- x[i], x[k] = a, b -/
theorem css_swap {L u : List α} {f : α → Dat} {i k : Int} {v1 v2 : α} {ei ek : Expr} {q1 q2 px py pt pt2 : Pos} {kt k2 : Nat} (fr : Cf X g N sc j) (m : Nat) (hm : N[m]? = some x) (hv : Vis sc x) (hd : Γ[m]? = some (.ow (L.map f))) (ha : CE X Γ w a (f v1) w) (he : CE X Γ w e (f v2) w) (hi : CE X Γ w ei (.int i) w) (hk : CE X (Γ.set m (.ow ((setI L i v1).map f))) w ek (.int k) w)
    (ok1 : IxOk L i) (ok2 : IxOk L k) (hu : u = setI (setI L i v1) k v2) (h : CSS X (Γ.set m (.ow (u.map f))) w ss E)
    (h1 : (x == ("__debug__" : Str)) = false := by decide) (h2 : (x == ("__classdict__" : Str)) = false := by decide)
    (hs : swapsWithSole [.Tuple [.Subscript (.Name x px) ei q1, .Subscript (.Name x py) ek q2] kt pt] (.Tuple [a, e] k2 pt2) pos.line X.env = pure false := by rfl) (hsw : swappedStores [.Tuple [.Subscript (.Name x px) ei q1, .Subscript (.Name x py) ek q2] kt pt] (.Tuple [a, e] k2 pt2) X.env = pure none := by rfl)
    (hst : starEach [a, e] X.env = (false, eval a X.env) :: starEach [e] X.env := by rfl) (hst2 : starEach [e] X.env = (false, eval e X.env) :: starEach [] X.env := by rfl)
    (hn : (assignEach [.Subscript (.Name x px) ei q1, .Subscript (.Name x py) ek q2] X.env).length = 2 := by rfl) (hni : (assignEach [.Subscript (.Name x px) ei q1, .Subscript (.Name x py) ek q2] X.env).findIdx? (·.1) = none := by rfl)
    (hg1 : (assignEach [.Subscript (.Name x px) ei q1, .Subscript (.Name x py) ek q2] X.env).map (·.2) = assign (.Subscript (.Name x px) ei q1) X.env :: (assignEach [.Subscript (.Name x py) ek q2] X.env).map (·.2) := by rfl) (hg2 : (assignEach [.Subscript (.Name x py) ek q2] X.env).map (·.2) = assign (.Subscript (.Name x py) ek q2) X.env :: (assignEach [] X.env).map (·.2) := by rfl)
    (hA : (assignEach [.Tuple [.Subscript (.Name x px) ei q1, .Subscript (.Name x py) ek q2] kt pt] X.env).map (·.2) = [assign (.Tuple [.Subscript (.Name x px) ei q1, .Subscript (.Name x py) ek q2] kt pt) X.env] := by rfl)
    (ha1 : ∀ v, assign (.Subscript (.Name x px) ei q1) X.env v = (do
      let ov ← holding [v] (eval (.Name x px) X.env)
      let iv ← holding [v, ov] (eval ei X.env)
      standAt q1
      holding [v, ov, iv] (setItem ov iv v)
      release [v, ov, iv] []) := by intro _; rfl)
    (ha2 : ∀ v, assign (.Subscript (.Name x py) ek q2) X.env v = (do
      let ov ← holding [v] (eval (.Name x py) X.env)
      let iv ← holding [v, ov] (eval ek X.env)
      standAt q2
      holding [v, ov, iv] (setItem ov iv v)
      release [v, ov, iv] []) := by intro _; rfl) :
    CSS X Γ w (.Assign [.Tuple [.Subscript (.Name x px) ei q1, .Subscript (.Name x py) ek q2] kt pt] (.Tuple [a, e] k2 pt2) pos :: ss) E := by
  subst hu
  have hml : m < Γ.length := (List.getElem?_eq_some_iff.mp hd).1
  have e1 : (L.map f).set (nix L i) (f v1) = (setI L i v1).map f := by rw [setI, List.map_set]
  have l1 : (setI L i v1).length = L.length := by simp [setI]
  have ok3 : IxOk (setI L i v1) k := by unfold IxOk at ok2 ⊢; rw [l1]; exact ok2
  have e2 : ((setI L i v1).map f).set (nix (setI L i v1) k) (f v2) = (setI (setI L i v1) k v2).map f := by rw [setI.eq_def (setI L i v1), List.map_set]
  have t1 : CTm X Γ w (.Subscript (.Name x px) ei q1) (f v1) (Γ.set m (.ow ((setI L i v1).map f))) w := by
    rw [← e1]
    exact ctm_sub fr m hm hv hd hi (by rw [List.length_map]; exact (ixN_ok ok1).1) h1 h2 ha1
  have t2 : CTm X (Γ.set m (.ow ((setI L i v1).map f))) w (.Subscript (.Name x py) ek q2) (f v2) (Γ.set m (.ow ((setI (setI L i v1) k v2).map f))) w := by
    have q := ctm_sub (d := f v2) (n := nix (setI L i v1) k) (apos := q2) (p := py) fr m hm hv (List.getElem?_set_self hml) hk (by rw [List.length_map]; exact (ixN_ok ok3).1) h1 h2 ha2
    rw [List.set_set, e2] at q
    exact q
  exact css_cons (cs_asgM fr (ce_tup (ca_cons ha (ca_cons he ca_nil hst2) hst) (Nat.le_of_ble_eq_true rfl)) (ctms_cons t1 (ctms_cons t2 ctms_nil hg2) hg1) h hs hsw hn hni hA)
/-- x[i], x[k], y = a, b, c -/
theorem css_swap3 {L u : List α} {f : α → Dat} {fy : β → Dat} {i k : Int} {v1 v2 : α} {v3 u3 : β} {c ei ek : Expr} {q1 q2 px py pz pt pt2 : Pos} {kt k2 : Nat} (fr : Cf X g N sc j) (m m3 : Nat) (hm : N[m]? = some x) (hm3 : N[m3]? = some y) (hmm : m ≠ m3) (hv : Vis sc x) (hy : Loc sc y) (hf : ∀ x, X.fn x = true) (hd : Γ[m]? = some (.ow (L.map f))) (ha : CE X Γ w a (f v1) w) (he : CE X Γ w e (f v2) w) (hc : CE X Γ w c (fy v3) w) (hi : CE X Γ w ei (.int i) w) (hk : CE X (Γ.set m (.ow ((setI L i v1).map f))) w ek (.int k) w)
    (ok1 : IxOk L i) (ok2 : IxOk L k) (hu : u = setI (setI L i v1) k v2) (hu3 : u3 = v3) (h : CSS X ((Γ.set m (.ow (u.map f))).set m3 (.fz (fy u3))) w ss E)
    (h1 : (x == ("__debug__" : Str)) = false := by decide) (h2 : (x == ("__classdict__" : Str)) = false := by decide)
    (hs : swapsWithSole [.Tuple [.Subscript (.Name x px) ei q1, .Subscript (.Name x py) ek q2, .Name y pz] kt pt] (.Tuple [a, e, c] k2 pt2) pos.line X.env = pure false := by rfl) (hsw : swappedStores [.Tuple [.Subscript (.Name x px) ei q1, .Subscript (.Name x py) ek q2, .Name y pz] kt pt] (.Tuple [a, e, c] k2 pt2) X.env = pure none := by rfl)
    (hst : starEach [a, e, c] X.env = (false, eval a X.env) :: starEach [e, c] X.env := by rfl) (hst2 : starEach [e, c] X.env = (false, eval e X.env) :: starEach [c] X.env := by rfl) (hst3 : starEach [c] X.env = (false, eval c X.env) :: starEach [] X.env := by rfl)
    (hn : (assignEach [.Subscript (.Name x px) ei q1, .Subscript (.Name x py) ek q2, .Name y pz] X.env).length = 3 := by rfl) (hni : (assignEach [.Subscript (.Name x px) ei q1, .Subscript (.Name x py) ek q2, .Name y pz] X.env).findIdx? (·.1) = none := by rfl)
    (hg1 : (assignEach [.Subscript (.Name x px) ei q1, .Subscript (.Name x py) ek q2, .Name y pz] X.env).map (·.2) = assign (.Subscript (.Name x px) ei q1) X.env :: (assignEach [.Subscript (.Name x py) ek q2, .Name y pz] X.env).map (·.2) := by rfl) (hg2 : (assignEach [.Subscript (.Name x py) ek q2, .Name y pz] X.env).map (·.2) = assign (.Subscript (.Name x py) ek q2) X.env :: (assignEach [.Name y pz] X.env).map (·.2) := by rfl) (hg3 : (assignEach [.Name y pz] X.env).map (·.2) = assign (.Name y pz) X.env :: (assignEach [] X.env).map (·.2) := by rfl)
    (hA : (assignEach [.Tuple [.Subscript (.Name x px) ei q1, .Subscript (.Name x py) ek q2, .Name y pz] kt pt] X.env).map (·.2) = [assign (.Tuple [.Subscript (.Name x px) ei q1, .Subscript (.Name x py) ek q2, .Name y pz] kt pt) X.env] := by rfl)
    (ha1 : ∀ v, assign (.Subscript (.Name x px) ei q1) X.env v = (do
      let ov ← holding [v] (eval (.Name x px) X.env)
      let iv ← holding [v, ov] (eval ei X.env)
      standAt q1
      holding [v, ov, iv] (setItem ov iv v)
      release [v, ov, iv] []) := by intro _; rfl)
    (ha2 : ∀ v, assign (.Subscript (.Name x py) ek q2) X.env v = (do
      let ov ← holding [v] (eval (.Name x py) X.env)
      let iv ← holding [v, ov] (eval ek X.env)
      standAt q2
      holding [v, ov, iv] (setItem ov iv v)
      release [v, ov, iv] []) := by intro _; rfl) :
    CSS X Γ w (.Assign [.Tuple [.Subscript (.Name x px) ei q1, .Subscript (.Name x py) ek q2, .Name y pz] kt pt] (.Tuple [a, e, c] k2 pt2) pos :: ss) E := by
  subst hu
  subst hu3
  have hml : m < Γ.length := (List.getElem?_eq_some_iff.mp hd).1
  have e1 : (L.map f).set (nix L i) (f v1) = (setI L i v1).map f := by rw [setI, List.map_set]
  have l1 : (setI L i v1).length = L.length := by simp [setI]
  have ok3 : IxOk (setI L i v1) k := by unfold IxOk at ok2 ⊢; rw [l1]; exact ok2
  have e2 : ((setI L i v1).map f).set (nix (setI L i v1) k) (f v2) = (setI (setI L i v1) k v2).map f := by rw [setI.eq_def (setI L i v1), List.map_set]
  have t1 : CTm X Γ w (.Subscript (.Name x px) ei q1) (f v1) (Γ.set m (.ow ((setI L i v1).map f))) w := by
    rw [← e1]
    exact ctm_sub fr m hm hv hd hi (by rw [List.length_map]; exact (ixN_ok ok1).1) h1 h2 ha1
  have t2 : CTm X (Γ.set m (.ow ((setI L i v1).map f))) w (.Subscript (.Name x py) ek q2) (f v2) (Γ.set m (.ow ((setI (setI L i v1) k v2).map f))) w := by
    have q := ctm_sub (d := f v2) (n := nix (setI L i v1) k) (apos := q2) (p := py) fr m hm hv (List.getElem?_set_self hml) hk (by rw [List.length_map]; exact (ixN_ok ok3).1) h1 h2 ha2
    rw [List.set_set, e2] at q
    exact q
  exact css_cons (cs_asgM fr (ce_tup (ca_cons ha (ca_cons he (ca_cons hc ca_nil hst3) hst2) hst) (Nat.le_of_ble_eq_true rfl)) (ctms_cons t1 (ctms_cons t2 (ctms_cons (CTg.m (ctg_name fr m3 hm3 hy (.inl (hf y)))) ctms_nil hg3) hg2) hg1) h hs hsw hn hni hA)
end
end Fw
end

section
set_option Elab.async false
set_option linter.all false
set_option maxRecDepth 100000
set_option maxHeartbeats 2000000
/-! Fw16: the class Ratio as rational numbers. -/
namespace Fw
open PySem PySem.Spec PyProof.Rows L2
def fsQ (q : Rat) : List (Str × Dat) := [("n", .int q.num), ("d", .int q.den)]
theorem eQ_fs {C : Addr} {q : Rat} : eQ C q = .obj C (fsQ q) := rfl
def IsQ (fs : List (Str × Dat)) : Prop := ∃ q, fs = fsQ q
theorem fsQ_inj {x y : Rat} (h : fsQ x = fsQ y) : x = y := by
  unfold fsQ at h
  simp only [List.cons.injEq, Prod.mk.injEq, Dat.int.injEq, true_and, and_true] at h
  exact Rat.ext h.1 (by omega)
theorem fsQ_int (q : Rat) : IntFs (fsQ q) := fun p hp => by
  unfold fsQ at hp
  rcases List.mem_cons.mp hp with rfl | hp
  · exact ⟨_, rfl⟩
  · rcases List.mem_cons.mp hp with rfl | hp
    · exact ⟨_, rfl⟩
    · cases hp
/-- small enough to be reckoned with -/
def Qz (q : Rat) : Prop := q.num.natAbs < 2 ^ (2 ^ 25) ∧ q.den < 2 ^ (2 ^ 25)
theorem bits_of {i : Int} {k : Nat} (h : i.natAbs < 2 ^ k) : Builtin.Int.intBits i ≤ k := by
  unfold Builtin.Int.intBits
  split
  · exact Nat.zero_le _
  · rename_i h0
    have h1 : i.natAbs ≠ 0 := fun e => h0 (by rw [Int.natAbs_eq_zero.mp e]; rfl)
    have := (Nat.log2_lt h1).mpr h
    omega
theorem mulOk_of {i k : Int} (h1 : i.natAbs < 2 ^ (2 ^ 25)) (h2 : k.natAbs < 2 ^ (2 ^ 25)) : MulOk i k := by
  have b1 := bits_of h1
  have b2 := bits_of h2
  unfold MulOk IntMulOk
  intro h
  simp only [Bool.and_eq_true, Builtin.Int.intTooBig, decide_eq_true_eq] at h
  obtain ⟨_, h⟩ := h
  have e : bitsLine = 134217728 := rfl
  rw [e] at h
  have e2 : (2 : Nat) ^ 25 = 33554432 := by decide
  rw [e2] at b1 b2
  omega
theorem mulOk_l {i k : Int} (h : i.natAbs < 2 ^ 64) : MulOk i k := IntMulOk.of_left (bits_of h)
theorem mulOk_r {i k : Int} (h : k.natAbs < 2 ^ 64) : MulOk i k := IntMulOk.of_right (bits_of h)
def qsgn (q : Rat) : Int := q.num.sign
abbrev sQ1 (g : Gx) (f : Rat → Rat) : DS := spG (fun p : Rat => [eQ (Cq g) p]) (fun p => Qz p) f (eQ (Cq g))
abbrev sQ2 (g : Gx) (pre : Rat → Rat → Prop) (f : Rat → Rat → Rat) : DS := spG (fun p : Rat × Rat => [eQ (Cq g) p.1, eQ (Cq g) p.2]) (fun p => (Qz p.1 ∧ Qz p.2) ∧ pre p.1 p.2) (fun p => f p.1 p.2) (eQ (Cq g))
abbrev sQl (g : Gx) : DS := spG (fun p : Rat × Rat => [eQ (Cq g) p.1, eQ (Cq g) p.2]) (fun p => Qz p.1 ∧ Qz p.2) (fun p => decide (p.1 < p.2)) eB
abbrev sQs (g : Gx) : DS := spG (fun p : Rat => [eQ (Cq g) p]) (fun _ => True) qsgn eI
abbrev sQe (g : Gx) : DS := spG (fun p : Rat × Rat => [eQ (Cq g) p.1, eQ (Cq g) p.2]) (fun _ => True) (fun p => decide (p.1 = p.2)) eB
def sQi : DI := fun ds w Q => ∃ n d : Int, ds = [.int n, .int d] ∧ d ≠ 0 ∧ Q (fsQ (Rat.divInt n d)) w
theorem sQi_mon : Mon2 sQi := fun ds w P P' h ⟨n, d, e, k, q⟩ => ⟨n, d, e, k, h _ _ q⟩
theorem divInt1 (n : Int) : Rat.divInt n 1 = (n : Rat) := by
  rw [Rat.divInt_eq_div]
  show (n : Rat) / ((1 : Int) : Rat) = n
  rw [Rat.intCast_one]
  grind
structure QK (g : Gx) : Prop where
  bi : Bi g.mg
  cl : Cls g.K (Cq g)
  sf : PySem.W.selfFirst g.K (Cq g) = true
  ic : Icl g.K (Cq g)
  gl : g.mg "Ratio" = some (.ref (Cq g))
  nN : NoAttr g.K (Cq g) "n"
  nD : NoAttr g.K (Cq g) "d"
  mk1 : Kd g "Ratio" (Cq g) 50 [.int 1] sQi
  mk2 : Kd g "Ratio" (Cq g) 50 [] sQi
  add : Od g (Cq g) "__add__" 60 (sQ2 g (fun _ _ => True) fun x y => x + y)
  sub : Od g (Cq g) "__sub__" 60 (sQ2 g (fun _ _ => True) fun x y => x - y)
  mul : Od g (Cq g) "__mul__" 60 (sQ2 g (fun _ _ => True) fun x y => x * y)
  neg : Od g (Cq g) "__neg__" 60 (sQ1 g fun x => -x)
  eq : OwnEq g (Cq g) 60 IsQ
  over : Md g (Cq g) "over" 60 (sQ2 g (fun _ y => y ≠ 0) fun x y => x / y)
  less : Md g (Cq g) "less" 60 (sQl g)
  sign : Md g (Cq g) "sign" 60 (sQs g)
section
variable {X : Cx} {g : Gx} {N : List Str} {sc : Scope} {j k : Nat} {Γ Γ' Γ'' : List Slot} {w w1 w2 w3 w' : Wd} {pos p apos : Pos} {a b e o tg : Expr} {x y : Rat}
theorem t_mk1 {n : Int} (q : QK g) (fr : Cf X g N sc j) (hj : 51 ≤ j) (hg : GlS sc "Ratio") (ha : CE X Γ w a (eI n) w1) (hs : starEach [a] X.env = (false, eval a X.env) :: starEach [] X.env := by rfl) : CE X Γ w (.Call (.Name "Ratio" p) [a] [] pos) (eQ (Cq g) (n : Rat)) w1 :=
  ce_make fr q.mk1 hj sQi_mon hg (ca_cons ha ca_nil hs) ⟨n, 1, rfl, by decide, by rw [divInt1]; rfl, rfl⟩ (he := hs) (hpl := rfl)
theorem t_mk2 {n d : Int} (q : QK g) (fr : Cf X g N sc j) (hj : 51 ≤ j) (hg : GlS sc "Ratio") (ha : CE X Γ w a (eI n) w1) (hb : CE X Γ w1 b (eI d) w2) (ok : d ≠ 0) (hs : starEach [a, b] X.env = (false, eval a X.env) :: starEach [b] X.env := by rfl) (hs2 : starEach [b] X.env = (false, eval b X.env) :: starEach [] X.env := by rfl) (hpl : (backTo pos (starEach [b] X.env)).any (·.1) = false := by rfl) : CE X Γ w (.Call (.Name "Ratio" p) [a, b] [] pos) (eQ (Cq g) (Rat.divInt n d)) w2 :=
  ce_make fr q.mk2 hj sQi_mon hg (ca_cons ha (ca_cons hb ca_nil hs2) hs) ⟨n, d, rfl, ok, rfl, rfl⟩ (he := hs) (hpl := hpl)
theorem t_add (q : QK g) (fr : Cf X g N sc j) (hj : 60 ≤ j) (ha : CE X Γ w a (eQ (Cq g) x) w1) (hb : CE X Γ w1 b (eQ (Cq g) y) w2) (ok : Qz x ∧ Qz y) : CE X Γ w (.BinOp a .Add b pos) (eQ (Cq g) (x + y)) w2 :=
  ce_bin ha hb (b2_own (op := .Add) fr q.add hj q.sf spG_mon fun w => ⟨(x, y), rfl, ⟨ok, trivial⟩, rfl, rfl⟩)
theorem t_sub (q : QK g) (fr : Cf X g N sc j) (hj : 60 ≤ j) (ha : CE X Γ w a (eQ (Cq g) x) w1) (hb : CE X Γ w1 b (eQ (Cq g) y) w2) (ok : Qz x ∧ Qz y) : CE X Γ w (.BinOp a .Sub b pos) (eQ (Cq g) (x - y)) w2 :=
  ce_bin ha hb (b2_own (op := .Sub) fr q.sub hj q.sf spG_mon fun w => ⟨(x, y), rfl, ⟨ok, trivial⟩, rfl, rfl⟩)
theorem t_mul (q : QK g) (fr : Cf X g N sc j) (hj : 60 ≤ j) (ha : CE X Γ w a (eQ (Cq g) x) w1) (hb : CE X Γ w1 b (eQ (Cq g) y) w2) (ok : Qz x ∧ Qz y) : CE X Γ w (.BinOp a .Mult b pos) (eQ (Cq g) (x * y)) w2 :=
  ce_bin ha hb (b2_own (op := .Mult) fr q.mul hj q.sf spG_mon fun w => ⟨(x, y), rfl, ⟨ok, trivial⟩, rfl, rfl⟩)
theorem t_neg (q : QK g) (fr : Cf X g N sc j) (hj : 60 ≤ j) (ha : CE X Γ w a (eQ (Cq g) x) w1) (ok : Qz x) : CE X Γ w (.UnaryOp .USub a pos) (eQ (Cq g) (-x)) w1 :=
  ce_un ha (u1_own fr q.neg hj spG_mon fun w => ⟨x, rfl, ok, rfl, rfl⟩)
theorem t_sign (q : QK g) (fr : Cf X g N sc j) (hj : 60 ≤ j) (ha : CE X Γ w a (eQ (Cq g) x) w1) {pl : Sem Bool} (ht : eval (.Call (.Attribute a "sign" apos) [] [] pos) X.env = (do
      let ov ← eval a X.env
      standAt apos.atName
      let (f, first) ← holding [ov] (getMethod ov "sign" pl)
      callWith pos f first (backTo pos (starEach [] X.env)) (backToKw pos (keywordEach [] X.env))) := by rfl) : CE X Γ w (.Call (.Attribute a "sign" apos) [] [] pos) (eI (qsgn x)) w1 :=
  ce_meth0 fr q.cl q.sign hj spG_mon ha rfl ⟨x, rfl, trivial, rfl, rfl⟩ ht
theorem t_over (q : QK g) (fr : Cf X g N sc j) (hj : 60 ≤ j) (ha : CE X Γ w a (eQ (Cq g) x) w1) (hb : CE X Γ w1 b (eQ (Cq g) y) w2) (ok : (Qz x ∧ Qz y) ∧ y ≠ 0) {pl : Sem Bool} (hst : starEach [b] X.env = (false, eval b X.env) :: starEach [] X.env := by rfl) (ht : eval (.Call (.Attribute a "over" apos) [b] [] pos) X.env = (do
      let ov ← eval a X.env
      standAt apos.atName
      let (f, first) ← holding [ov] (getMethod ov "over" pl)
      callWith pos f first (backTo pos (starEach [b] X.env)) (backToKw pos (keywordEach [] X.env))) := by rfl) : CE X Γ w (.Call (.Attribute a "over" apos) [b] [] pos) (eQ (Cq g) (x / y)) w2 :=
  ce_meth fr q.cl q.over hj spG_mon ha rfl (ca_cons hb ca_nil hst) ⟨(x, y), rfl, ok, rfl, rfl⟩ hst rfl ht
theorem t_less (q : QK g) (fr : Cf X g N sc j) (hj : 60 ≤ j) (ha : CE X Γ w a (eQ (Cq g) x) w1) (hb : CE X Γ w1 b (eQ (Cq g) y) w2) (ok : Qz x ∧ Qz y) {pl : Sem Bool} (hst : starEach [b] X.env = (false, eval b X.env) :: starEach [] X.env := by rfl) (ht : eval (.Call (.Attribute a "less" apos) [b] [] pos) X.env = (do
      let ov ← eval a X.env
      standAt apos.atName
      let (f, first) ← holding [ov] (getMethod ov "less" pl)
      callWith pos f first (backTo pos (starEach [b] X.env)) (backToKw pos (keywordEach [] X.env))) := by rfl) : CE X Γ w (.Call (.Attribute a "less" apos) [b] [] pos) (eB (decide (x < y))) w2 :=
  ce_meth fr q.cl q.less hj spG_mon ha rfl (ca_cons hb ca_nil hst) ⟨(x, y), rfl, ok, rfl, rfl⟩ hst rfl ht
/-! == -/
theorem sim_q {C : Addr} {n : Nat} (hn : 60 ≤ n) : Sim (Pc C IsQ) 60 n (eQ C x) (eQ C y) := .obj ⟨rfl, fsQ_int x, x, rfl⟩ ⟨rfl, fsQ_int y, y, rfl⟩ hn
theorem sims_map {α : Type} {P : Addr → List (Str × Dat) → Prop} {k n : Nat} {f : α → Dat} (h : ∀ x y, Sim P k n (f x) (f y)) : ∀ (u v : List α), Sims P k n (u.map f) (v.map f)
  | [], _ => .nilL
  | _ :: _, [] => .nilR
  | x :: u, y :: v => .cons (h x y) (sims_map h u v)
theorem sim_t {C : Addr} {n : Nat} (hn : 60 ≤ n) (u v : List Rat) : Sim (Pc C IsQ) 60 (n + 1) (eT (eQ C) u) (eT (eQ C) v) := .tup (sims_map (fun _ _ => sim_q hn) u v)
theorem sim_tt {C : Addr} {n : Nat} (hn : 60 ≤ n) (u v : List (List Rat)) : Sim (Pc C IsQ) 60 (n + 2) (eT (eT (eQ C)) u) (eT (eT (eQ C)) v) := .tup (sims_map (fun _ _ => sim_t hn _ _) u v)
theorem eQ_inj {C : Addr} : (eQ C x = eQ C y) ↔ x = y := ⟨fun h => by injection h with _ h; exact fsQ_inj h, fun h => by rw [h]⟩
theorem map_inj_of {α : Type} {f : α → Dat} (h : ∀ x y, f x = f y → x = y) : ∀ {u v : List α}, u.map f = v.map f → u = v
  | [], [], _ => rfl
  | [], _ :: _, e => by simp at e
  | _ :: _, [], e => by simp at e
  | x :: u, y :: v, e => by
    simp only [List.map_cons, List.cons.injEq] at e
    rw [h _ _ e.1, map_inj_of h e.2]
theorem eT_inj {α : Type} {f : α → Dat} (h : ∀ x y, f x = f y → x = y) {u v : List α} : (eT f u = eT f v) ↔ u = v := ⟨fun e => by injection e with e; exact map_inj_of h e, fun e => by rw [e]⟩
theorem t_eqQ (q : QK g) (fr : Cf X g N sc j) (hj : 60 ≤ j) : B2 X (compareOp .Eq) (eQ (Cq g) x) (eQ (Cq g) y) (eB (decide (x = y))) := b2_eqS fr q.eq hj (sim_q (Nat.le_refl _)) trivial (by rw [decide_eq_true_eq, eQ_inj])
theorem t_neQ (q : QK g) (fr : Cf X g N sc j) (hj : 61 ≤ j) : B2 X (compareOp .NotEq) (eQ (Cq g) x) (eQ (Cq g) y) (eB (decide (x ≠ y))) := b2_neS fr q.eq hj (sim_q (Nat.le_refl _)) trivial (by rw [decide_eq_true_eq, ne_eq, ne_eq, eQ_inj])
theorem t_eqT {u v : List Rat} (q : QK g) (fr : Cf X g N sc j) (hj : 61 ≤ j) : B2 X (compareOp .Eq) (eT (eQ (Cq g)) u) (eT (eQ (Cq g)) v) (eB (decide (u = v))) := b2_eqS fr q.eq hj (sim_t (Nat.le_refl _) u v) trivial (by rw [decide_eq_true_eq, eT_inj fun _ _ => eQ_inj.mp])
theorem t_neT {u v : List Rat} (q : QK g) (fr : Cf X g N sc j) (hj : 62 ≤ j) : B2 X (compareOp .NotEq) (eT (eQ (Cq g)) u) (eT (eQ (Cq g)) v) (eB (decide (u ≠ v))) := b2_neS fr q.eq hj (sim_t (Nat.le_refl _) u v) trivial (by rw [decide_eq_true_eq, ne_eq, ne_eq, eT_inj fun _ _ => eQ_inj.mp])
theorem t_eqTT {u v : List (List Rat)} (q : QK g) (fr : Cf X g N sc j) (hj : 62 ≤ j) : B2 X (compareOp .Eq) (eT (eT (eQ (Cq g))) u) (eT (eT (eQ (Cq g))) v) (eB (decide (u = v))) := b2_eqS fr q.eq hj (sim_tt (Nat.le_refl _) u v) trivial (by rw [decide_eq_true_eq, eT_inj fun _ _ => (eT_inj fun _ _ => eQ_inj.mp).mp])
theorem t_neTT {u v : List (List Rat)} (q : QK g) (fr : Cf X g N sc j) (hj : 63 ≤ j) : B2 X (compareOp .NotEq) (eT (eT (eQ (Cq g))) u) (eT (eT (eQ (Cq g))) v) (eB (decide (u ≠ v))) := b2_neS fr q.eq hj (sim_tt (Nat.le_refl _) u v) trivial (by rw [decide_eq_true_eq, ne_eq, ne_eq, eT_inj fun _ _ => (eT_inj fun _ _ => eQ_inj.mp).mp])
/-- how isinstance sees such data -/
theorem tyQ (q : QK g) : TyD g.K (eQ (Cq g) x) (.ref (Cq g)) := .obj q.ic
theorem tyT {α : Type} {K : Frag} {f : α → Dat} {u : List α} : TyD K (eT f u) (.type "tuple") := .tup _
theorem tyL {α : Type} {K : Frag} {f : α → Dat} {u : List α} : TyD K (eL f u) (.type "list") := .lst _
theorem tyI {K : Frag} {i : Int} : TyD K (eI i) (.type "int") := .int i
theorem tyB {K : Frag} {i : Bool} : TyD K (eB i) (.type "bool") := .bl i
end
end Fw
end

section
set_option Elab.async false
set_option linter.all false
set_option maxRecDepth 100000
set_option maxHeartbeats 2000000
/-! Fw17: a join behind an if; rows frozen; zip of a list and a tuple. -/
namespace Fw
open PySem PySem.Spec PyProof.Rows L2
section
variable {X : Cx} {g : Gx} {N : List Str} {sc : Scope} {j k : Nat} {Γ Γ' Γ'' : List Slot} {w w1 w2 w3 w' : Wd} {pos p apos : Pos} {a b e o tg : Expr} {es tgs : List Expr} {d d1 d2 d3 : Dat} {α β γ ρ σ : Type} {ss A B body : List Stmt} {E : DE}
theorem css_ifJ {c : Expr} {v : Bool} (Pj : List Slot → Wd → Prop) (hc : CT X Γ w c v w1) (hr : ∀ Γj wj, Pj Γj wj → CSS X Γj wj ss E) (h1 : v = true → CSS X Γ w1 A { E with nx := fun Γ' w' => ∃ ks Γj wj, wipeD Γ' ks = Γj ∧ w' = wj ∧ Pj Γj wj }) (h2 : v = false → CSS X Γ w1 B { E with nx := fun Γ' w' => ∃ ks Γj wj, wipeD Γ' ks = Γj ∧ w' = wj ∧ Pj Γj wj }) : CSS X Γ w (.If c A B pos :: ss) E := by
  refine css_if hc (fun hv => CSS.imp (h1 hv) ?_ (fun _ _ z => z) (fun _ _ z => z) (fun _ _ z => z) (fun _ _ z => z)) (fun hv => CSS.imp (h2 hv) ?_ (fun _ _ z => z) (fun _ _ z => z) (fun _ _ z => z) (fun _ _ z => z))
  all_goals
    rintro Γ2 w2 ⟨ks, Γj, wj, hg, rfl, hP⟩
    exact css_join ks hg (hr Γj w2 hP)
theorem css_frzR {L : List (List α)} {f : α → Dat} (m : Nat) (hd : Γ[m]? = some (.ow2 (L.map (List.map f)))) (h : CSS X (Γ.set m (.fz (eL (eL f) L))) w ss E) : CSS X Γ w ss E := by
  refine css_frz2 m hd ?_
  rw [List.map_map]
  exact h
theorem swW {e : Expr} {t : Option Expr} {l : Nat} {env : Env} : swapsWith e t l env = swapsWith e t l (envS env.scope) := rfl
theorem Cf.sww {e : Expr} {t : Option Expr} {l : Nat} {r : Bool} (fr : Cf X g N sc j) (h : swapsWith e t l (envS sc) = pure r) : swapsWith e t l X.env = pure r := by
  rw [swW, fr.hsc]
  exact h
theorem tyP {K : Frag} {f : α → Dat} {h : β → Dat} {u : α × β} : TyD K (eP f h u) (.type "tuple") := .tup _
end
theorem kit_same {K : Frag} (t : Value) : PySem.W.kitOne K t t = some true := by
  unfold PySem.W.kitOne
  rw [if_pos (by cases t <;> simp)]
end Fw
end

section
set_option Elab.async false
set_option linter.all false
set_option maxRecDepth 100000
set_option maxHeartbeats 2000000
/-! Fw18: defs that hand back new lists; the law's def. -/
namespace Fw
open PySem PySem.Spec PyProof.Rows L2
/-- a def that hands back a new list, found by a module's name -/
structure FdF (X : Gx) (x : Str) (k : Nat) (S : DSF) : Prop where
  ex : ∃ f fd ps, FnOk X.P X.w X.K X.mg X.base CX0 k f fd ps (spF X.K S) ∧ X.mg x = some (.ref f) ∧ PySem.W.keepIn X.K (.ref f) = true ∧ Binds X.K fd ps []
def MonF (S : DSF) : Prop := ∀ ds w (P P' : List Dat → Wd → Prop), (∀ d w, P d w → P' d w) → S ds w P → S ds w P'
section
variable {X : Cx} {g : Gx} {N : List Str} {sc : Scope} {j k : Nat} {Γ Γ' Γ'' : List Slot} {w w1 w2 w3 w' : Wd} {pos p apos : Pos} {a b e o tg : Expr} {es tgs : List Expr} {ds : List Dat} {l : List Dat}
theorem cf_call {x : Str} {S : DSF} (fr : Cf X g N sc j) (F : FdF g x k S) (hk : k ≤ j) (hm : MonF S) (hg : GlS sc x) (ha : CA X Γ none (a :: es) ds none) (h : S ds none fun l' w'' => l' = l ∧ w'' = none) (hdb : (x == ("__debug__" : Str)) = false := by decide)
    (he : starEach (a :: es) X.env = (false, eval a X.env) :: starEach es X.env := by rfl) (hpl : (backTo pos (starEach es X.env)).any (·.1) = false := by rfl) : CF X Γ none (.Call (.Name x p) (a :: es) [] pos) l none := fun b G O σ H S' Q q => by
  obtain ⟨f, fd, ps, F1, F2, F3, F4⟩ := (fr.to (fun g => FdF g x k S) F).ex
  refine ⟨_, pe_call F1 (fr.room.mono hk) (fr.gl hg) F2 F3 F4 .nil pass0 pa_ra hdb he hpl, ha b G O σ H S' _ fun vs G1 H1 s1 r1 => ?_⟩
  show spF X.K S (vs ++ []) H1 Q E0
  rw [List.append_nil]
  refine ⟨ds, none, G1, s1.wok, s1.gle, r1, hm _ _ _ _ (fun l' w'' ⟨e1, e2⟩ p vs' G' H' s2 n1 n2 n3 r z => ?_) h⟩
  subst e1
  subst e2
  exact q p vs' G' H' (s1.trans s2) (s1.back n1) n2 n3 r z
end
section
variable {fa : List He.Fa} {fn : List He.DefD} {ck : Frag → Bool} {g : Gx} {N ps : List Str} {k : Nat} {S : DSF}
abbrev BodyF (g : Gx) (N ps : List Str) (scope : Scope) (body : List Stmt) (k : Nat) (S : DSF) : Prop := ∀ (X : Cx), Cf X g N scope k → X.K = g.K → (∀ x, X.fn x = true) → X.stack = X.env :: X.outer → ∀ ds w Q, S ds w Q → CSS X (ds.map Slot.fz ++ List.replicate (N.length - ps.length) .un) w body { nx := fun _ _ => False, rt := fun _ _ => False, rf := Q }
theorem HK.fdF (h : HK fa fn ck g) (i m : Nat) {d : He.DefD} {x : Str} (hd : fn[i]? = some d) (hx : d.at_ = (x, none)) (hm : fa[m]? = some (.glo x)) (hdf : d.dfl = []) (sc : FnScope N ps d.scope) (bnd : BndD d ps) (len : ∀ ds w Q, S ds w Q → ds.length = ps.length) (body : BodyF g N ps d.scope d.body k S) : FdF g x (k + 1) S := by
  obtain ⟨fd, F⟩ := h.says.def_ i hd
  have e : d.dvs g.K = [] := by unfold He.DefD.dvs; rw [hdf]; rfl
  rw [e] at F
  have kp := F.kp
  have F1 := fn_dataF (P := g.P) (wd := g.w) (mg := g.mg) (base := g.base) F sc len body
  rw [hx] at F1 kp
  exact ⟨_, fd, ps, F1, h.glo m hm, kp, F.bindsN bnd⟩
end
/-- the law: of a list of ints, True -/
def sLaw (n : Nat) : DS := fun ds w Q => ∃ ns : List Int, ns.length ≤ n ∧ ds = [.rd (ns.map .int)] ∧ w = none ∧ ∀ w', Q (.bl true) w'
theorem reps_ints {K : Frag} {G : Hp} : ∀ ns : List Int, Reps K G (ns.map V.int) (ns.map Dat.int)
  | [] => .nil
  | i :: r => .cons (.int i) (reps_ints r)
theorem sLaw_go {K : Frag} {n : Nat} (hn : n ≤ LM) {H : Hp} {a : Addr} {ns : List Int} {E : XK} (hl : ns.length ≤ n) (hS : SqL K H a (ns.map V.int)) : spD K (sLaw n) [.ref a] H (fun v _ => v = .bl true) E :=
  ⟨_, none, H, (fun s i j e => by cases e), Ext.rfl', .cons (.rd hS (reps_ints ns) (by rw [List.length_map]; omega)) .nil, ns, hl, rfl, rfl, (fun w' v G' H' _ r => by cases r; rfl)⟩
end Fw
end

section
set_option Elab.async false
set_option linter.all false
set_option maxRecDepth 100000
set_option maxHeartbeats 2000000
/-! Fw19: zip of a list and a tuple. -/
namespace Fw
open PySem PySem.Spec PyProof.Rows L2
/-- a list at a, a tuple at b, read anew at each turn -/
def ItzM (K : Frag) (a b : Addr) : It :=
  ⟨fun i H => ∃ (xs ys : List V) (x y : V), SqL K H a xs ∧ SqT K H b ys ∧ xs[i]? = some x ∧ ys[i]? = some y,
   fun i H v H' => ∃ T x y, v = .ref T ∧ H T = none ∧ H' = upd H T (.tup [x, y]) ∧ (∀ xs, SqL K H a xs → xs[i]? = some x) ∧ (∀ ys, SqT K H b ys → ys[i]? = some y),
   fun i H => ∃ xs ys : List V, SqL K H a xs ∧ SqT K H b ys ∧ i ≤ xs.length ∧ i ≤ ys.length ∧ (i = xs.length ∨ i = ys.length)⟩
theorem turn_zipM {P : Program} {w : World} {K : Frag} {elts : List Expr} {kk : Nat} {tpos : Pos} {a b z TI TO i1 i2 : Addr} (D : ZipSep2 z TI TO i1 i2 [i1, a] [i2, b]) (n1 : a ≠ i1) (n2 : b ≠ i2) :
    Turn P w K (.Tuple elts kk tpos) (ItzM K a b) [z, TI, TO, i1, i2] z (fun i h => IsZip h z TI TO .none ∧ IsTupOf2 h TI (.ref i1) (.ref i2) ∧ (∃ x y, IsTupOf2 h TO x y) ∧ h.IsListIter i1 a i ∧ h.IsTupleIter i2 b i) where
  mem := List.mem_cons_self ..
  obj := fun i h st c hc => by
    obtain ⟨s1, s2, ⟨x, y, s3⟩, ⟨o1, e1, _, d1⟩, ⟨o2, e2, _, d2⟩⟩ := st
    simp only [List.mem_cons, List.not_mem_nil, or_false] at hc
    rcases hc with rfl | rfl | rfl | rfl | rfl
    · exact ⟨_, s1, fun v q => nomatch q⟩
    · exact ⟨_, s2, fun v q => nomatch q⟩
    · exact ⟨_, s3, fun v q => nomatch q⟩
    · exact ⟨o1, e1, fun v q => by rw [d1] at q; cases q⟩
    · exact ⟨o2, e2, fun v q => by rw [d2] at q; cases q⟩
  keep := fun i h h' st k => by
    obtain ⟨s1, s2, ⟨x, y, s3⟩, h1, h2⟩ := st
    exact ⟨k z (by simp) _ s1, k TI (by simp) _ s2, ⟨x, y, k TO (by simp) _ s3⟩, h1.at fun o q => k i1 (by simp) o q, h2.at fun o q => k i2 (by simp) o q⟩
  item := by
    intro X eP ew eK hc i pins s σ H E I hf st hg
    subst eP ew eK
    obtain ⟨xs, ys, x, y, hqx, hqy, hx, hy⟩ := hg
    obtain ⟨its, rv, p1, _⟩ := I.list hqx
    obtain ⟨its2, rv2, p2, _⟩ := I.tuple hqy
    obtain ⟨u, hu, ru⟩ := rv.get hx
    obtain ⟨u2, hu2, ru2⟩ := rv2.get hy
    have hh : X.A.in1.handled = none := I.ok.hd hc
    have G := GoesN.zip2 (elts := elts) (x1 := kk) (pos := tpos) D (Draws.list (prog := X.prog) (w := X.w) hh i1 a n1 its.toArray) (Draws.tuple hh i2 b n2 its2.toArray)
    have l1 : i < its.length := (List.getElem?_eq_some_iff.mp hu).1
    have l2 : i < its2.length := (List.getElem?_eq_some_iff.mp hu2).1
    obtain ⟨s1, s2, s3, h1, h2⟩ := id st
    refine G.goes i s _ E (by simp; omega) ⟨s1, s2, s3, ⟨h1, p1.isList⟩, ⟨h2, p2⟩⟩ ?_
    rintro v h' tk ⟨T, x', y', rfl, hT, ex, ey, tT⟩ ⟨t1, t2, t3, ⟨t4, _⟩, ⟨t5, _⟩⟩ hk _
    have e1 : x' = u := by simpa [hu] using ex.symm
    have e2 : y' = u2 := by simpa [hu2] using ey.symm
    subst e1
    subst e2
    have new : ObjOk X.prog X.w (upd H T (.tup [x, y])) h' T (.tup [x, y]) := ⟨by show 2 ≤ sizeLine; decide, [x', y'], .cons ru (.cons ru2 .nil), tT⟩
    have I1 := I.turnedNew (t' := tk) (ch := [z, TO, i1, i2]) hk (fun c hcm => hf c (by
      simp only [List.mem_cons, List.not_mem_nil, or_false] at hcm ⊢
      rcases hcm with e | e | e | e <;> simp [e])) hT new
    refine ⟨.ref T, _, I1, rfl, ⟨T, x, y, rfl, I.hok.fresh hT, rfl, fun l hl => by rw [I.list_inj hl hqx]; exact hx, fun l hl => by rw [I.tuple_inj hl hqy]; exact hy⟩, ⟨t1, t2, t3, t4, t5⟩, fun c hcm => ?_⟩
    have hlt : c < s.heap.objs.size := by
      obtain ⟨xx, yy, s3⟩ := s3
      obtain ⟨_, e1, _⟩ := h1
      obtain ⟨_, e2, _⟩ := h2
      simp only [List.mem_cons, List.not_mem_nil, or_false] at hcm
      rcases hcm with rfl | rfl | rfl | rfl | rfl
      · exact Heap.lt_size s1
      · exact Heap.lt_size s2
      · exact Heap.lt_size s3
      · exact Heap.lt_size e1
      · exact Heap.lt_size e2
    rw [upd_ne (Nat.ne_of_lt (Nat.lt_of_lt_of_le hlt hT))]
    exact (hf c hcm).1
  done := by
    intro X eP ew eK hc i pins s σ H E I hf st hg
    subst eP ew eK
    obtain ⟨xs, ys, hqx, hqy, b1, b2, hend⟩ := hg
    obtain ⟨its, rv, p1, _⟩ := I.list hqx
    obtain ⟨its2, rv2, p2, _⟩ := I.tuple hqy
    have hh : X.A.in1.handled = none := I.ok.hd hc
    have G := GoesN.zip2 (elts := elts) (x1 := kk) (pos := tpos) D (Draws.list (prog := X.prog) (w := X.w) hh i1 a n1 its.toArray) (Draws.tuple hh i2 b n2 its2.toArray)
    obtain ⟨s1, s2, s3, h1, h2⟩ := id st
    have hi : i = min its.toArray.size its2.toArray.size := by
      have e1 := rv.length
      have e2 := rv2.length
      simp
      omega
    have st' : IsZip s.heap z TI TO .none ∧ IsTupOf2 s.heap TI (.ref i1) (.ref i2) ∧ (∃ a1 a2, IsTupOf2 s.heap TO a1 a2) ∧ (s.heap.IsListIter i1 a i ∧ s.heap.IsList a its.toArray) ∧ (s.heap.IsTupleIter i2 b i ∧ s.heap.IsTuple b its2.toArray) := ⟨s1, s2, s3, ⟨h1, p1.isList⟩, ⟨h2, p2⟩⟩
    rw [hi] at st'
    exact G.stops s (fun s1 => Inv X pins σ H s1) E st' fun h' tk hk _ => I.turnedL (t' := tk) (ch := [z, TO, i1, i2]) hk fun c hcm => hf c (by
      simp only [List.mem_cons, List.not_mem_nil, or_false] at hcm ⊢
      rcases hcm with e | e | e | e <;> simp [e])
  self := fun A i s Q E st h => wpAny_pyIter_zip st.1 h
def iZipM (K : Frag) (ta : TA) : TI := fun σ H R => ta σ H fun vs H1 => ∃ a b xs ys, vs = [.ref a, .ref b] ∧ SqL K H1 a xs ∧ SqT K H1 b ys ∧ R (ItzM K a b) H1
theorem pi_zipM {X : Cx} {e e2 : Expr} {ta : TA} {p pos tpos : Pos} {elts : List Expr} {kk : Nat} (hg : Gl X "zip") (hm : X.mg "zip" = none) (ha : PA X [e, e2] ta)
    (hs : starEach [e, e2] X.env = (false, eval e X.env) :: starEach [e2] X.env := by rfl) (hpl : (backTo pos (starEach [e2] X.env)).any (·.1) = false := by rfl) : PI X (.Tuple elts kk tpos) (.Call (.Name "zip" p) [e, e2] [] pos) (iZipM X.K ta) := by
  refine ⟨fun pins s σ H R I h => ?_⟩
  refine Call_ (ld_blt I hg hm PyProof.Rows.boot_zip (PyProof.Rows.callWith_type1 (thn (ha.run pos pins s σ H _ I h) fun us s1 ⟨vs, H1, I1, r1, q1⟩ => ?_) hs hpl))
  obtain ⟨a, b, xs, ys, ex, hqx, hqy, q⟩ := q1
  subst ex
  cases r1 with
  | cons r rr =>
    cases rr with
    | cons r' rr =>
      cases rr
      cases r
      cases r'
      obtain ⟨its, rv, p1, _⟩ := I1.list hqx
      obtain ⟨its2, rv2, p2, _⟩ := I1.tuple hqy
      obtain ⟨o2, ho2, _⟩ := id p2
      have la : a < s1.heap.objs.size := p1.lt
      have lb : b < s1.heap.objs.size := Heap.lt_size ho2
      refine zip_begins2 (begins_list a its.toArray) (begins_tuple b its2.toArray) p1.isList p2 fun h' z1 z2 z3 g1 g2 hsz hk => wpAny_pyIter_zip z1 ?_
      have I2 : Inv X pins σ H1 { s1 with heap := h' } := I1.kept (t' := s1.toks) hk
      have D : ZipSep2 (s1.heap.objs.size + 4) (s1.heap.objs.size + 2) (s1.heap.objs.size + 3) s1.heap.objs.size (s1.heap.objs.size + 1) [s1.heap.objs.size, a] [s1.heap.objs.size + 1, b] := zip_sep2 (fp1 := [a]) (fp2 := [b]) (fun c hc => by cases List.mem_singleton.mp hc; exact la) (fun c hc => by cases List.mem_singleton.mp hc; exact lb)
      refine ⟨s1.heap.objs.size + 4, [s1.heap.objs.size + 4, s1.heap.objs.size + 2, s1.heap.objs.size + 3, s1.heap.objs.size, s1.heap.objs.size + 1], _, _, H1, rfl, I2, turn_zipM D (Nat.ne_of_lt la) (Nat.ne_of_lt (Nat.lt_succ_of_lt lb)), ⟨z1, z2, ⟨_, _, z3⟩, ⟨_, g1, rfl, rfl⟩, ⟨_, g2, rfl, rfl⟩⟩, fun c hcm => ?_, q⟩
      have hle : s1.heap.objs.size ≤ c := by
        simp only [List.mem_cons, List.not_mem_nil, or_false] at hcm
        rcases hcm with e | e | e | e | e
        · rw [e]; exact Nat.le_add_right _ _
        · rw [e]; exact Nat.le_add_right _ _
        · rw [e]; exact Nat.le_add_right _ _
        · rw [e]; exact Nat.le_refl _
        · rw [e]; exact Nat.le_add_right _ _
      exact I1.fpOk hle (I1.hok.fresh hle)
theorem wk_zipM {K : Frag} {G : Hp} {p q : Addr} {vs us : List V} {ds es : List Dat} (h : G p = some (.lst vs)) (r : Reps K G vs ds) (h' : SqT K G q us) (r' : Reps K G us es) (inj : ∀ H ys, Ext G H → SqT K H q ys → True) : Wk K G (zipD ds es) (ItzM K p q) := by
  have el : (zipD ds es).length = min vs.length us.length := by unfold zipD; rw [List.length_zipWith, r.length, r'.length]
  refine ⟨fun i H hi e => ?_, fun H e => ?_, fun i H x H' hi e y => ?_⟩
  · rw [el] at hi
    exact ⟨vs, us, vs[i]'(by omega), us[i]'(by omega), SqL.of (e _ _ h), h'.ext e, List.getElem?_eq_getElem _, List.getElem?_eq_getElem _⟩
  · exact ⟨vs, us, SqL.of (e _ _ h), h'.ext e, by rw [el]; omega, by rw [el]; omega, by rw [el]; omega⟩
  · rw [el] at hi
    obtain ⟨T, x1, y1, rfl, nT, rfl, h1, h2⟩ := y
    have ex := h1 vs (SqL.of (e _ _ h))
    have ey := h2 us (h'.ext e)
    obtain ⟨d1, e1, r1⟩ := r.getV ex
    obtain ⟨d2, e2, r2⟩ := r'.getV ey
    exact yd_pair (xs := fun _ => some x1) (ys := fun _ => some y1) ⟨T, x1, y1, rfl, nT, rfl, rfl, rfl⟩ (zipD_at e1 e2) (fun x hx => by cases hx; exact r1) (fun x hx => by cases hx; exact r2)
section
variable {X : Cx} {g : Gx} {N : List Str} {sc : Scope} {j k : Nat} {Γ : List Slot} {w w1 w2 : Wd} {pos p : Pos} {a b : Expr} {tgs : List Expr} {α β : Type} {f : α → Dat} {h : β → Dat} {L : List α}
theorem t_ciZM (bi : Bi g.mg) (fr : Cf X g N sc j) (hg : GlS sc "zip") {m : Nat} {tp : Pos} {M : List β} (ha : CE X Γ w a (eL f L) w1) (hb : CE X Γ w1 b (eT h M) w2) (hs : starEach [a, b] X.env = (false, eval a X.env) :: starEach [b] X.env := by rfl) (hs1 : starEach [b] X.env = (false, eval b X.env) :: starEach [] X.env := by rfl) (hs2 : (backTo pos (starEach [b] X.env)).any (·.1) = false := by rfl) :
    CI X Γ w (.Tuple tgs m tp) (.Call (.Name "zip" p) [a, b] [] pos) ((L.zip M).map (eP f h)) w2 := fun b' G O σ H S R q =>
  ⟨_, pi_zipM (fr.gl hg) (fr.bi bi).zip pa_ra hs hs2, by
    refine (ca_cons ha (ca_cons hb ca_nil hs1) hs) b' G O σ H S _ fun vs G1 H1 s1 r1 => ?_
    cases r1 with
    | cons r1 r2 =>
      cases r2 with
      | cons r3 r4 =>
        cases r4
        cases r1 with
        | lst h1 r z =>
          cases r3 with
          | tup h2 r' z' =>
            refine ⟨_, _, _, _, rfl, SqL.of (hide_sub (s1.gle _ _ h1)), h2.ext (s1.gle.trans hide_ext), q _ G1 H1 s1 ?_⟩
            have wk := wk_zipM h1 r h2 r' fun _ _ _ _ => trivial
            rw [zipD_map] at wk
            exact wk⟩
end
end Fw
end

section
set_option Elab.async false
set_option linter.all false
set_option maxRecDepth 100000
set_option maxHeartbeats 2000000
/-! Fw20: weakest preconditions of loops and joins; they name one outcome (Det): a def's function is read off its weakest precondition. -/
namespace Fw
section
universe u
variable {τ : Type}
/-- what holds of W holds of one outcome -/
def Det (W : (τ → Prop) → Prop) : Prop := ∀ P, W P → ∃ t, P t ∧ ∀ Q, (W Q ↔ Q t)
theorem det_leaf (t : τ) : Det fun P => P t := fun P h => ⟨t, h, fun Q => Iff.rfl⟩
theorem det_false : Det fun (_ : τ → Prop) => False := fun P h => h.elim
theorem det_ok {p : Prop} {W : (τ → Prop) → Prop} (h : Det W) : Det fun P => p ∧ W P := fun P ⟨hp, hw⟩ => by
  obtain ⟨t, h1, h2⟩ := h P hw
  exact ⟨t, h1, fun Q => ⟨fun z => (h2 Q).mp z.2, fun z => ⟨hp, (h2 Q).mpr z⟩⟩⟩
theorem det_val {α : Type} {v : α} {W : α → (τ → Prop) → Prop} (h : ∀ x, Det (W x)) : Det fun P => ∀ x, x = v → W x P := fun P hw => by
  obtain ⟨t, h1, h2⟩ := h v P (hw v rfl)
  exact ⟨t, h1, fun Q => ⟨fun z => (h2 Q).mp (z v rfl), fun z x e => by rw [e]; exact (h2 Q).mpr z⟩⟩
theorem det_if {c : Bool} {A B : (τ → Prop) → Prop} (ha : Det A) (hb : Det B) : Det fun P => (c = true → A P) ∧ (c = false → B P) := fun P ⟨h1, h2⟩ => by
  cases c with
  | true =>
    obtain ⟨t, k1, k2⟩ := ha P (h1 rfl)
    exact ⟨t, k1, fun Q => ⟨fun z => (k2 Q).mp (z.1 rfl), fun z => ⟨fun _ => (k2 Q).mpr z, fun e => by cases e⟩⟩⟩
  | false =>
    obtain ⟨t, k1, k2⟩ := hb P (h2 rfl)
    exact ⟨t, k1, fun Q => ⟨fun z => (k2 Q).mp (z.2 rfl), fun z => ⟨fun e => (by cases e), fun _ => (k2 Q).mpr z⟩⟩⟩
theorem Det.mono {W : (τ → Prop) → Prop} (h : Det W) {P Q : τ → Prop} (hpq : ∀ t, P t → Q t) (hw : W P) : W Q := by
  obtain ⟨t, k1, k2⟩ := h P hw
  exact (k2 Q).mpr (hpq t k1)
/-- what W runs to -/
noncomputable def run [Inhabited τ] (W : (τ → Prop) → Prop) : τ := by
  classical exact if h : ∃ t, ∀ Q, (W Q ↔ Q t) then Classical.choose h else default
theorem run_of [Inhabited τ] {W : (τ → Prop) → Prop} (h : Det W) {R : τ → Prop} (hw : W R) : R (run W) ∧ ∀ Q, (W Q ↔ Q (run W)) := by
  obtain ⟨t, h1, h2⟩ := h R hw
  have e : ∃ t, ∀ Q, (W Q ↔ Q t) := ⟨t, h2⟩
  have k : ∀ Q, (W Q ↔ Q (run W)) := by
    unfold run
    rw [dif_pos e]
    exact Classical.choose_spec e
  exact ⟨(k R).mp hw, k⟩
/-! loops over one state -/
section
variable {α σ : Type}
def forS (xs : List α) (s0 : σ) (B : Nat → α → σ → (σ → Prop) → (τ → Prop) → Prop) (C : σ → (τ → Prop) → Prop) (P : τ → Prop) : Prop :=
  ∃ I : Nat → σ → Prop, I 0 s0 ∧ (∀ i x s, xs[i]? = some x → I i s → B i x s (I (i + 1)) P) ∧ (∀ s, I xs.length s → C s P)
def recS (B : Nat → α → σ → (σ → Prop) → (τ → Prop) → Prop) (C : σ → (τ → Prop) → Prop) : Nat → List α → σ → (τ → Prop) → Prop
  | _, [], s, P => C s P
  | i, x :: r, s, P => B i x s (fun s' => recS B C (i + 1) r s' P) P
abbrev Body (B : (σ → Prop) → (τ → Prop) → Prop) : (σ ⊕ τ → Prop) → Prop := fun P => B (fun s => P (.inl s)) (fun t => P (.inr t))
def sel (N : σ → Prop) (P : τ → Prop) : σ ⊕ τ → Prop
  | .inl s => N s
  | .inr t => P t
theorem Body.mono {B : (σ → Prop) → (τ → Prop) → Prop} (h : Det (Body B)) {N N' : σ → Prop} {P : τ → Prop} (hn : ∀ s, N s → N' s) (hb : B N P) : B N' P := by
  have := h.mono (P := sel N P) (Q := sel N' P) (fun t => by cases t with | inl s => exact hn s | inr t => exact fun z => z) hb
  exact this
theorem recS_det {B : Nat → α → σ → (σ → Prop) → (τ → Prop) → Prop} {C : σ → (τ → Prop) → Prop} (hb : ∀ i x s, Det (Body (B i x s))) (hc : ∀ s, Det (C s)) : ∀ (xs : List α) (i : Nat) (s : σ), Det (recS B C i xs s)
  | [], i, s => hc s
  | x :: r, i, s => fun P hw => by
    obtain ⟨t, h1, h2⟩ := hb i x s (sel (fun s' => recS B C (i + 1) r s' P) (P)) hw
    have k : ∀ Q, (recS B C i (x :: r) s Q ↔ sel (fun s' => recS B C (i + 1) r s' Q) Q t) := fun Q => h2 (sel (fun s' => recS B C (i + 1) r s' Q) (Q))
    cases t with
    | inl s' =>
      obtain ⟨t', k1, k2⟩ := recS_det hb hc r (i + 1) s' P h1
      exact ⟨t', k1, fun Q => (k Q).trans (k2 Q)⟩
    | inr t => exact ⟨t, h1, k⟩
theorem forS_rec {B : Nat → α → σ → (σ → Prop) → (τ → Prop) → Prop} {C : σ → (τ → Prop) → Prop} (hb : ∀ i x s, Det (Body (B i x s))) {xs : List α} {s0 : σ} {P : τ → Prop} : forS xs s0 B C P ↔ recS B C 0 xs s0 P := by
  constructor
  · rintro ⟨I, h0, h1, h2⟩
    have go : ∀ (r : List α) (i : Nat) (s : σ), xs.drop i = r → i + r.length = xs.length → I i s → recS B C i r s P := by
      intro r
      induction r with
      | nil =>
        intro i s hd hl hI
        have e : i = xs.length := by simpa using hl
        subst e
        exact h2 s hI
      | cons x r ih =>
        intro i s hd hl hI
        have hx : xs[i]? = some x := by
          have := congrArg (fun l => l[0]?) hd
          simpa using this
        refine Body.mono (hb i x s) (fun s' hs' => ih (i + 1) s' ?_ ?_ hs') (h1 i x s hx hI)
        · have := congrArg List.tail hd
          simpa using this
        · simp only [List.length_cons] at hl
          omega
    exact go xs 0 s0 rfl (by simp) h0
  · intro h
    refine ⟨fun i s => recS B C i (xs.drop i) s P, h, fun i x s hx hI => ?_, fun s hI => ?_⟩
    · have hlt : i < xs.length := (List.getElem?_eq_some_iff.mp hx).1
      have e : xs.drop i = x :: xs.drop (i + 1) := by
        rw [List.drop_eq_getElem_cons hlt]
        congr 1
        exact (List.getElem?_eq_some_iff.mp hx).2
      replace hI : recS B C i (xs.drop i) s P := hI
      rw [e] at hI
      exact hI
    · replace hI : recS B C xs.length (xs.drop xs.length) s P := hI
      rw [List.drop_length] at hI
      exact hI
theorem forS_det {B : Nat → α → σ → (σ → Prop) → (τ → Prop) → Prop} {C : σ → (τ → Prop) → Prop} {xs : List α} {s0 : σ} (hb : ∀ i x s, Det (Body (B i x s))) (hc : ∀ s, Det (C s)) : Det (forS xs s0 B C) := fun P hw => by
  obtain ⟨t, k1, k2⟩ := recS_det hb hc xs 0 s0 P ((forS_rec hb).mp hw)
  exact ⟨t, k1, fun Q => (forS_rec hb).trans (k2 Q)⟩
/-! while -/
def whlS (s0 : σ) (T : σ → Prop) (c : σ → Bool) (B : σ → (σ → Prop) → (τ → Prop) → Prop) (C : σ → (τ → Prop) → Prop) (P : τ → Prop) : Prop :=
  ∃ (I : Nat → σ → Prop) (m0 : Nat), I m0 s0 ∧ ∀ m s, I m s → T s ∧ ((c s = true → B s (fun s' => ∃ m', m' < m ∧ I m' s') P) ∧ (c s = false → C s P))
theorem whlS_det {T : σ → Prop} {c : σ → Bool} {B : σ → (σ → Prop) → (τ → Prop) → Prop} {C : σ → (τ → Prop) → Prop} {s0 : σ} (hb : ∀ s, Det (Body (B s))) (hc : ∀ s, Det (C s)) : Det (whlS s0 T c B C) := fun P ⟨I, m0, h0, h1⟩ => by
  -- from any state that I holds of: one outcome, and any invariant leads there
  have go : ∀ (m : Nat) (s : σ), I m s → ∃ t, P t ∧ (∀ Q, Q t → whlS s T c B C Q) ∧ (∀ Q, whlS s T c B C Q → Q t) := by
    intro m
    induction m using Nat.strongRecOn with
    | ind m ih =>
      intro s hI
      obtain ⟨hT, ht, hf⟩ := h1 m s hI
      cases e : c s with
      | false =>
        obtain ⟨t, k1, k2⟩ := hc s P (hf e)
        refine ⟨t, k1, fun Q hq => ⟨fun m' s' => m' = 0 ∧ s = s', 0, ⟨rfl, rfl⟩, ?_⟩, ?_⟩
        · rintro m' s' ⟨rfl, rfl⟩
          exact ⟨hT, (fun e2 => by rw [e] at e2; cases e2), fun _ => (k2 Q).mpr hq⟩
        · rintro Q ⟨J, n0, j0, j1⟩
          exact (k2 Q).mp ((j1 n0 s j0).2.2 e)
      | true =>
        obtain ⟨t, k1, k2⟩ := hb s (sel (fun s' => ∃ m', m' < m ∧ I m' s') (P)) (ht e)
        cases t with
        | inr t =>
          refine ⟨t, k1, fun Q hq => ⟨fun m' s' => m' = 0 ∧ s = s', 0, ⟨rfl, rfl⟩, ?_⟩, ?_⟩
          · rintro m' s' ⟨rfl, rfl⟩
            refine ⟨hT, fun _ => ?_, fun e2 => by rw [e] at e2; cases e2⟩
            exact (k2 (sel (fun s' => ∃ m', m' < 0 ∧ (m' = 0 ∧ s = s')) (Q))).mpr hq
          · rintro Q ⟨J, n0, j0, j1⟩
            exact (k2 (sel (fun s' => ∃ m', m' < n0 ∧ J m' s') (Q))).mp ((j1 n0 s j0).2.1 e)
        | inl s' =>
          obtain ⟨m', hm, hI'⟩ := k1
          obtain ⟨t, q1, q2, q3⟩ := ih m' hm s' hI'
          refine ⟨t, q1, fun Q hq => ?_, ?_⟩
          · obtain ⟨J, n0, j0, j1⟩ := q2 Q hq
            refine ⟨fun n r => (J n r ∧ n ≤ n0) ∨ (n = n0 + 1 ∧ s = r), n0 + 1, .inr ⟨rfl, rfl⟩, ?_⟩
            rintro n r (⟨j, hn⟩ | ⟨rfl, rfl⟩)
            · obtain ⟨a1, a2, a3⟩ := j1 n r j
              refine ⟨a1, fun e2 => Body.mono (hb r) (fun s2 ⟨n2, l2, j2⟩ => ⟨n2, l2, .inl ⟨j2, by omega⟩⟩) (a2 e2), a3⟩
            · refine ⟨hT, fun _ => ?_, fun e2 => by rw [e] at e2; cases e2⟩
              exact (k2 (sel (fun s2 => ∃ n2, n2 < n0 + 1 ∧ ((J n2 s2 ∧ n2 ≤ n0) ∨ (n2 = n0 + 1 ∧ s = s2))) (Q))).mpr ⟨n0, by omega, .inl ⟨j0, Nat.le_refl _⟩⟩
          · rintro Q ⟨J, n0, j0, j1⟩
            obtain ⟨n1, l1, j2⟩ := (k2 (sel (fun s' => ∃ m', m' < n0 ∧ J m' s') (Q))).mp ((j1 n0 s j0).2.1 e)
            exact q3 Q ⟨J, n1, j2, j1⟩
  obtain ⟨t, k1, k2, k3⟩ := go m0 s0 h0
  exact ⟨t, k1, fun Q => ⟨k3 Q, k2 Q⟩⟩
/-! a join -/
def jnS (D : (σ → Prop) → (τ → Prop) → Prop) (C : σ → (τ → Prop) → Prop) (P : τ → Prop) : Prop := ∃ K : σ → Prop, (∀ s, K s → C s P) ∧ D K P
theorem jnS_det {D : (σ → Prop) → (τ → Prop) → Prop} {C : σ → (τ → Prop) → Prop} (hd : Det (Body D)) (hc : ∀ s, Det (C s)) : Det (jnS D C) := fun P ⟨K, h1, h2⟩ => by
  obtain ⟨t, k1, k2⟩ := hd (sel (fun s => K s) (P)) h2
  cases t with
  | inr t =>
    exact ⟨t, k1, fun Q => ⟨fun ⟨K', q1, q2⟩ => (k2 (sel (fun s => K' s) (Q))).mp q2, fun hq => ⟨fun _ => False, fun s z => z.elim, (k2 (sel (fun s => False) (Q))).mpr hq⟩⟩⟩
  | inl s =>
    obtain ⟨t, q1, q2⟩ := hc s P (h1 s k1)
    refine ⟨t, q1, fun Q => ⟨fun ⟨K', z1, z2⟩ => (q2 Q).mp (z1 s ((k2 (sel (fun s => K' s) (Q))).mp z2)), fun hq => ⟨fun s' => s' = s, fun s' e => by rw [e]; exact (q2 Q).mpr hq, ?_⟩⟩⟩
    exact (k2 (sel (fun s' => s' = s) (Q))).mpr rfl
end
end

section
variable {α τ : Type} 
abbrev for0 (xs : List α) (B : Nat → α → (Unit → Prop) → Prop) (C : Prop) : Prop :=
  ∃ I : Nat → Unit → Prop, I 0 () ∧ (∀ (i : Nat) (x : α), xs[i]? = some x → I i () → B i x (I (i + 1))) ∧ (I xs.length () → C)
theorem det_for0 {xs : List α} {B : Nat → α → (Unit → Prop) → (τ → Prop) → Prop} {C : (τ → Prop) → Prop} (hb : ∀ (i : Nat) (x : α), Det fun P => B i x (fun s => P (Sum.inl s)) (fun t => P (Sum.inr t))) (hc : Det (C)) : Det fun P => for0 xs (fun i x N => B i x N P) (C P) := by
  have q := forS_det (xs := xs) (s0 := ()) (B := fun i x (s : Unit) => B i x) (C := fun s => C) (fun i x s => hb i x) (fun s => hc)
  intro P hw
  have eq : ∀ Q, for0 xs (fun i x N => B i x N Q) (C Q) ↔ forS xs (()) (fun i x (s : Unit) => B i x) (fun s => C) Q := fun Q => ⟨fun ⟨I, h0, h1, h2⟩ => ⟨I, h0, fun i x s hx hI => h1 i x hx hI, fun s hI => h2 hI⟩, fun ⟨I, h0, h1, h2⟩ => ⟨I, h0, fun i x hx hI => h1 i x () hx hI, fun hI => h2 () hI⟩⟩
  obtain ⟨t, k1, k2⟩ := q P ((eq P).mp hw)
  exact ⟨t, k1, fun Q => (eq Q).trans (k2 Q)⟩
abbrev whl0 (T : Prop) (c : Bool) (B : (Unit → Prop) → Prop) (C : Prop) : Prop :=
  ∃ (I : Nat → Unit → Prop) (m0 : Nat), I m0 () ∧ ∀ (m : Nat), I m () → T ∧ ((c = true → B (fun s' => ∃ m', m' < m ∧ I m' s')) ∧ (c = false → C))
theorem det_whl0 {T : Prop} {c : Bool} {B : (Unit → Prop) → (τ → Prop) → Prop} {C : (τ → Prop) → Prop} (hb : Det fun P => B (fun s => P (Sum.inl s)) (fun t => P (Sum.inr t))) (hc : Det (C)) : Det fun P => whl0 T c (fun N => B N P) (C P) := by
  have q := whlS_det (s0 := ()) (T := fun (s : Unit) => T) (c := fun s => c) (B := fun (s : Unit) => B) (C := fun s => C) (fun s => hb) (fun s => hc)
  intro P hw
  have eq : ∀ Q, whl0 T c (fun N => B N Q) (C Q) ↔ whlS (()) (fun (s : Unit) => T) (fun s => c) (fun (s : Unit) => B) (fun s => C) Q := fun Q => ⟨fun ⟨I, m0, h0, h1⟩ => ⟨I, m0, h0, fun m s hI => h1 m hI⟩, fun ⟨I, m0, h0, h1⟩ => ⟨I, m0, h0, fun m hI => h1 m () hI⟩⟩
  obtain ⟨t, k1, k2⟩ := q P ((eq P).mp hw)
  exact ⟨t, k1, fun Q => (eq Q).trans (k2 Q)⟩
abbrev jn0 (D : (Unit → Prop) → Prop) (C : Prop) : Prop := ∃ K : Unit → Prop, (K () → C) ∧ D K
theorem det_jn0 {D : (Unit → Prop) → (τ → Prop) → Prop} {C : (τ → Prop) → Prop} (hd : Det fun P => D (fun s => P (Sum.inl s)) (fun t => P (Sum.inr t))) (hc : Det (C)) : Det fun P => jn0 (fun K => D K P) (C P) := by
  have q := jnS_det (D := D) (C := fun (s : Unit) => C) hd (fun s => hc)
  intro P hw
  have eq : ∀ Q, jn0 (fun K => D K Q) (C Q) ↔ jnS D (fun (s : Unit) => C) Q := fun Q => ⟨fun ⟨K, h1, h2⟩ => ⟨K, fun s hs => h1 hs, h2⟩, fun ⟨K, h1, h2⟩ => ⟨K, fun hs => h1 () hs, h2⟩⟩
  obtain ⟨t, k1, k2⟩ := q P ((eq P).mp hw)
  exact ⟨t, k1, fun Q => (eq Q).trans (k2 Q)⟩
end

section
variable {α τ : Type} {A0 : Type} 
abbrev for1 (xs : List α) (a0 : A0) (B : Nat → α → A0 → (A0 → Prop) → Prop) (C : A0 → Prop) : Prop :=
  ∃ I : Nat → A0 → Prop, I 0 a0 ∧ (∀ (i : Nat) (x : α) (a0 : A0), xs[i]? = some x → I i a0 → B i x a0 (I (i + 1))) ∧ (∀ (a0 : A0), I xs.length a0 → C a0)
theorem det_for1 {xs : List α} {s : A0} {B : Nat → α → A0 → (A0 → Prop) → (τ → Prop) → Prop} {C : A0 → (τ → Prop) → Prop} (hb : ∀ (i : Nat) (x : α) (a0 : A0), Det fun P => B i x a0 (fun s => P (Sum.inl s)) (fun t => P (Sum.inr t))) (hc : ∀ (a0 : A0), Det (C a0)) : Det fun P => for1 xs s (fun i x a0 N => B i x a0 N P) (fun a0 => C a0 P) := by
  have q := forS_det (xs := xs) (s0 := s) (B := fun i x (s : A0) => B i x s) (C := fun s => C s) (fun i x s => hb i x s) (fun s => hc s)
  intro P hw
  have eq : ∀ Q, for1 xs s (fun i x a0 N => B i x a0 N Q) (fun a0 => C a0 Q) ↔ forS xs (s) (fun i x (s : A0) => B i x s) (fun s => C s) Q := fun Q => ⟨fun ⟨I, h0, h1, h2⟩ => ⟨I, h0, fun i x s hx hI => h1 i x s hx hI, fun s hI => h2 s hI⟩, fun ⟨I, h0, h1, h2⟩ => ⟨I, h0, fun i x a0 hx hI => h1 i x a0 hx hI, fun a0 hI => h2 a0 hI⟩⟩
  obtain ⟨t, k1, k2⟩ := q P ((eq P).mp hw)
  exact ⟨t, k1, fun Q => (eq Q).trans (k2 Q)⟩
abbrev whl1 (a0 : A0) (T : A0 → Prop) (c : A0 → Bool) (B : A0 → (A0 → Prop) → Prop) (C : A0 → Prop) : Prop :=
  ∃ (I : Nat → A0 → Prop) (m0 : Nat), I m0 a0 ∧ ∀ (m : Nat) (a0 : A0), I m a0 → T a0 ∧ ((c a0 = true → B a0 (fun s' => ∃ m', m' < m ∧ I m' s')) ∧ (c a0 = false → C a0))
theorem det_whl1 {s : A0} {T : A0 → Prop} {c : A0 → Bool} {B : A0 → (A0 → Prop) → (τ → Prop) → Prop} {C : A0 → (τ → Prop) → Prop} (hb : ∀ (a0 : A0), Det fun P => B a0 (fun s => P (Sum.inl s)) (fun t => P (Sum.inr t))) (hc : ∀ (a0 : A0), Det (C a0)) : Det fun P => whl1 s T c (fun a0 N => B a0 N P) (fun a0 => C a0 P) := by
  have q := whlS_det (s0 := s) (T := fun (s : A0) => T s) (c := fun s => c s) (B := fun (s : A0) => B s) (C := fun s => C s) (fun s => hb s) (fun s => hc s)
  intro P hw
  have eq : ∀ Q, whl1 s T c (fun a0 N => B a0 N Q) (fun a0 => C a0 Q) ↔ whlS (s) (fun (s : A0) => T s) (fun s => c s) (fun (s : A0) => B s) (fun s => C s) Q := fun Q => ⟨fun ⟨I, m0, h0, h1⟩ => ⟨I, m0, h0, fun m s hI => h1 m s hI⟩, fun ⟨I, m0, h0, h1⟩ => ⟨I, m0, h0, fun m a0 hI => h1 m a0 hI⟩⟩
  obtain ⟨t, k1, k2⟩ := q P ((eq P).mp hw)
  exact ⟨t, k1, fun Q => (eq Q).trans (k2 Q)⟩
abbrev jn1 (D : (A0 → Prop) → Prop) (C : A0 → Prop) : Prop := ∃ K : A0 → Prop, (∀ (a0 : A0), K a0 → C a0) ∧ D K
theorem det_jn1 {D : (A0 → Prop) → (τ → Prop) → Prop} {C : A0 → (τ → Prop) → Prop} (hd : Det fun P => D (fun s => P (Sum.inl s)) (fun t => P (Sum.inr t))) (hc : ∀ (a0 : A0), Det (C a0)) : Det fun P => jn1 (fun K => D K P) (fun a0 => C a0 P) := by
  have q := jnS_det (D := D) (C := fun (s : A0) => C s) hd (fun s => hc s)
  intro P hw
  have eq : ∀ Q, jn1 (fun K => D K Q) (fun a0 => C a0 Q) ↔ jnS D (fun (s : A0) => C s) Q := fun Q => ⟨fun ⟨K, h1, h2⟩ => ⟨K, fun s hs => h1 s hs, h2⟩, fun ⟨K, h1, h2⟩ => ⟨K, fun a0 hs => h1 a0 hs, h2⟩⟩
  obtain ⟨t, k1, k2⟩ := q P ((eq P).mp hw)
  exact ⟨t, k1, fun Q => (eq Q).trans (k2 Q)⟩
end

section
variable {α τ : Type} {A0 A1 : Type} 
abbrev for2 (xs : List α) (a0 : A0) (a1 : A1) (B : Nat → α → A0 → A1 → (A0 × A1 → Prop) → Prop) (C : A0 → A1 → Prop) : Prop :=
  ∃ I : Nat → A0 × A1 → Prop, I 0 (a0, a1) ∧ (∀ (i : Nat) (x : α) (a0 : A0) (a1 : A1), xs[i]? = some x → I i (a0, a1) → B i x a0 a1 (I (i + 1))) ∧ (∀ (a0 : A0) (a1 : A1), I xs.length (a0, a1) → C a0 a1)
theorem det_for2 {xs : List α} {a0 : A0} {a1 : A1} {B : Nat → α → A0 → A1 → (A0 × A1 → Prop) → (τ → Prop) → Prop} {C : A0 → A1 → (τ → Prop) → Prop} (hb : ∀ (i : Nat) (x : α) (a0 : A0) (a1 : A1), Det fun P => B i x a0 a1 (fun s => P (Sum.inl s)) (fun t => P (Sum.inr t))) (hc : ∀ (a0 : A0) (a1 : A1), Det (C a0 a1)) : Det fun P => for2 xs a0 a1 (fun i x a0 a1 N => B i x a0 a1 N P) (fun a0 a1 => C a0 a1 P) := by
  have q := forS_det (xs := xs) (s0 := (a0, a1)) (B := fun i x (s : A0 × A1) => B i x (s.1) (s.2)) (C := fun s => C (s.1) (s.2)) (fun i x s => hb i x (s.1) (s.2)) (fun s => hc (s.1) (s.2))
  intro P hw
  have eq : ∀ Q, for2 xs a0 a1 (fun i x a0 a1 N => B i x a0 a1 N Q) (fun a0 a1 => C a0 a1 Q) ↔ forS xs (a0, a1) (fun i x (s : A0 × A1) => B i x (s.1) (s.2)) (fun s => C (s.1) (s.2)) Q := fun Q => ⟨fun ⟨I, h0, h1, h2⟩ => ⟨I, h0, fun i x s hx hI => h1 i x (s.1) (s.2) hx hI, fun s hI => h2 (s.1) (s.2) hI⟩, fun ⟨I, h0, h1, h2⟩ => ⟨I, h0, fun i x a0 a1 hx hI => h1 i x (a0, a1) hx hI, fun a0 a1 hI => h2 (a0, a1) hI⟩⟩
  obtain ⟨t, k1, k2⟩ := q P ((eq P).mp hw)
  exact ⟨t, k1, fun Q => (eq Q).trans (k2 Q)⟩
abbrev whl2 (a0 : A0) (a1 : A1) (T : A0 → A1 → Prop) (c : A0 → A1 → Bool) (B : A0 → A1 → (A0 × A1 → Prop) → Prop) (C : A0 → A1 → Prop) : Prop :=
  ∃ (I : Nat → A0 × A1 → Prop) (m0 : Nat), I m0 (a0, a1) ∧ ∀ (m : Nat) (a0 : A0) (a1 : A1), I m (a0, a1) → T a0 a1 ∧ ((c a0 a1 = true → B a0 a1 (fun s' => ∃ m', m' < m ∧ I m' s')) ∧ (c a0 a1 = false → C a0 a1))
theorem det_whl2 {a0 : A0} {a1 : A1} {T : A0 → A1 → Prop} {c : A0 → A1 → Bool} {B : A0 → A1 → (A0 × A1 → Prop) → (τ → Prop) → Prop} {C : A0 → A1 → (τ → Prop) → Prop} (hb : ∀ (a0 : A0) (a1 : A1), Det fun P => B a0 a1 (fun s => P (Sum.inl s)) (fun t => P (Sum.inr t))) (hc : ∀ (a0 : A0) (a1 : A1), Det (C a0 a1)) : Det fun P => whl2 a0 a1 T c (fun a0 a1 N => B a0 a1 N P) (fun a0 a1 => C a0 a1 P) := by
  have q := whlS_det (s0 := (a0, a1)) (T := fun (s : A0 × A1) => T (s.1) (s.2)) (c := fun s => c (s.1) (s.2)) (B := fun (s : A0 × A1) => B (s.1) (s.2)) (C := fun s => C (s.1) (s.2)) (fun s => hb (s.1) (s.2)) (fun s => hc (s.1) (s.2))
  intro P hw
  have eq : ∀ Q, whl2 a0 a1 T c (fun a0 a1 N => B a0 a1 N Q) (fun a0 a1 => C a0 a1 Q) ↔ whlS (a0, a1) (fun (s : A0 × A1) => T (s.1) (s.2)) (fun s => c (s.1) (s.2)) (fun (s : A0 × A1) => B (s.1) (s.2)) (fun s => C (s.1) (s.2)) Q := fun Q => ⟨fun ⟨I, m0, h0, h1⟩ => ⟨I, m0, h0, fun m s hI => h1 m (s.1) (s.2) hI⟩, fun ⟨I, m0, h0, h1⟩ => ⟨I, m0, h0, fun m a0 a1 hI => h1 m (a0, a1) hI⟩⟩
  obtain ⟨t, k1, k2⟩ := q P ((eq P).mp hw)
  exact ⟨t, k1, fun Q => (eq Q).trans (k2 Q)⟩
abbrev jn2 (D : (A0 × A1 → Prop) → Prop) (C : A0 → A1 → Prop) : Prop := ∃ K : A0 × A1 → Prop, (∀ (a0 : A0) (a1 : A1), K (a0, a1) → C a0 a1) ∧ D K
theorem det_jn2 {D : (A0 × A1 → Prop) → (τ → Prop) → Prop} {C : A0 → A1 → (τ → Prop) → Prop} (hd : Det fun P => D (fun s => P (Sum.inl s)) (fun t => P (Sum.inr t))) (hc : ∀ (a0 : A0) (a1 : A1), Det (C a0 a1)) : Det fun P => jn2 (fun K => D K P) (fun a0 a1 => C a0 a1 P) := by
  have q := jnS_det (D := D) (C := fun (s : A0 × A1) => C (s.1) (s.2)) hd (fun s => hc (s.1) (s.2))
  intro P hw
  have eq : ∀ Q, jn2 (fun K => D K Q) (fun a0 a1 => C a0 a1 Q) ↔ jnS D (fun (s : A0 × A1) => C (s.1) (s.2)) Q := fun Q => ⟨fun ⟨K, h1, h2⟩ => ⟨K, fun s hs => h1 (s.1) (s.2) hs, h2⟩, fun ⟨K, h1, h2⟩ => ⟨K, fun a0 a1 hs => h1 (a0, a1) hs, h2⟩⟩
  obtain ⟨t, k1, k2⟩ := q P ((eq P).mp hw)
  exact ⟨t, k1, fun Q => (eq Q).trans (k2 Q)⟩
end

section
variable {α τ : Type} {A0 A1 A2 : Type} 
abbrev for3 (xs : List α) (a0 : A0) (a1 : A1) (a2 : A2) (B : Nat → α → A0 → A1 → A2 → (A0 × A1 × A2 → Prop) → Prop) (C : A0 → A1 → A2 → Prop) : Prop :=
  ∃ I : Nat → A0 × A1 × A2 → Prop, I 0 (a0, a1, a2) ∧ (∀ (i : Nat) (x : α) (a0 : A0) (a1 : A1) (a2 : A2), xs[i]? = some x → I i (a0, a1, a2) → B i x a0 a1 a2 (I (i + 1))) ∧ (∀ (a0 : A0) (a1 : A1) (a2 : A2), I xs.length (a0, a1, a2) → C a0 a1 a2)
theorem det_for3 {xs : List α} {a0 : A0} {a1 : A1} {a2 : A2} {B : Nat → α → A0 → A1 → A2 → (A0 × A1 × A2 → Prop) → (τ → Prop) → Prop} {C : A0 → A1 → A2 → (τ → Prop) → Prop} (hb : ∀ (i : Nat) (x : α) (a0 : A0) (a1 : A1) (a2 : A2), Det fun P => B i x a0 a1 a2 (fun s => P (Sum.inl s)) (fun t => P (Sum.inr t))) (hc : ∀ (a0 : A0) (a1 : A1) (a2 : A2), Det (C a0 a1 a2)) : Det fun P => for3 xs a0 a1 a2 (fun i x a0 a1 a2 N => B i x a0 a1 a2 N P) (fun a0 a1 a2 => C a0 a1 a2 P) := by
  have q := forS_det (xs := xs) (s0 := (a0, a1, a2)) (B := fun i x (s : A0 × A1 × A2) => B i x (s.1) (s.2.1) (s.2.2)) (C := fun s => C (s.1) (s.2.1) (s.2.2)) (fun i x s => hb i x (s.1) (s.2.1) (s.2.2)) (fun s => hc (s.1) (s.2.1) (s.2.2))
  intro P hw
  have eq : ∀ Q, for3 xs a0 a1 a2 (fun i x a0 a1 a2 N => B i x a0 a1 a2 N Q) (fun a0 a1 a2 => C a0 a1 a2 Q) ↔ forS xs (a0, a1, a2) (fun i x (s : A0 × A1 × A2) => B i x (s.1) (s.2.1) (s.2.2)) (fun s => C (s.1) (s.2.1) (s.2.2)) Q := fun Q => ⟨fun ⟨I, h0, h1, h2⟩ => ⟨I, h0, fun i x s hx hI => h1 i x (s.1) (s.2.1) (s.2.2) hx hI, fun s hI => h2 (s.1) (s.2.1) (s.2.2) hI⟩, fun ⟨I, h0, h1, h2⟩ => ⟨I, h0, fun i x a0 a1 a2 hx hI => h1 i x (a0, a1, a2) hx hI, fun a0 a1 a2 hI => h2 (a0, a1, a2) hI⟩⟩
  obtain ⟨t, k1, k2⟩ := q P ((eq P).mp hw)
  exact ⟨t, k1, fun Q => (eq Q).trans (k2 Q)⟩
abbrev whl3 (a0 : A0) (a1 : A1) (a2 : A2) (T : A0 → A1 → A2 → Prop) (c : A0 → A1 → A2 → Bool) (B : A0 → A1 → A2 → (A0 × A1 × A2 → Prop) → Prop) (C : A0 → A1 → A2 → Prop) : Prop :=
  ∃ (I : Nat → A0 × A1 × A2 → Prop) (m0 : Nat), I m0 (a0, a1, a2) ∧ ∀ (m : Nat) (a0 : A0) (a1 : A1) (a2 : A2), I m (a0, a1, a2) → T a0 a1 a2 ∧ ((c a0 a1 a2 = true → B a0 a1 a2 (fun s' => ∃ m', m' < m ∧ I m' s')) ∧ (c a0 a1 a2 = false → C a0 a1 a2))
theorem det_whl3 {a0 : A0} {a1 : A1} {a2 : A2} {T : A0 → A1 → A2 → Prop} {c : A0 → A1 → A2 → Bool} {B : A0 → A1 → A2 → (A0 × A1 × A2 → Prop) → (τ → Prop) → Prop} {C : A0 → A1 → A2 → (τ → Prop) → Prop} (hb : ∀ (a0 : A0) (a1 : A1) (a2 : A2), Det fun P => B a0 a1 a2 (fun s => P (Sum.inl s)) (fun t => P (Sum.inr t))) (hc : ∀ (a0 : A0) (a1 : A1) (a2 : A2), Det (C a0 a1 a2)) : Det fun P => whl3 a0 a1 a2 T c (fun a0 a1 a2 N => B a0 a1 a2 N P) (fun a0 a1 a2 => C a0 a1 a2 P) := by
  have q := whlS_det (s0 := (a0, a1, a2)) (T := fun (s : A0 × A1 × A2) => T (s.1) (s.2.1) (s.2.2)) (c := fun s => c (s.1) (s.2.1) (s.2.2)) (B := fun (s : A0 × A1 × A2) => B (s.1) (s.2.1) (s.2.2)) (C := fun s => C (s.1) (s.2.1) (s.2.2)) (fun s => hb (s.1) (s.2.1) (s.2.2)) (fun s => hc (s.1) (s.2.1) (s.2.2))
  intro P hw
  have eq : ∀ Q, whl3 a0 a1 a2 T c (fun a0 a1 a2 N => B a0 a1 a2 N Q) (fun a0 a1 a2 => C a0 a1 a2 Q) ↔ whlS (a0, a1, a2) (fun (s : A0 × A1 × A2) => T (s.1) (s.2.1) (s.2.2)) (fun s => c (s.1) (s.2.1) (s.2.2)) (fun (s : A0 × A1 × A2) => B (s.1) (s.2.1) (s.2.2)) (fun s => C (s.1) (s.2.1) (s.2.2)) Q := fun Q => ⟨fun ⟨I, m0, h0, h1⟩ => ⟨I, m0, h0, fun m s hI => h1 m (s.1) (s.2.1) (s.2.2) hI⟩, fun ⟨I, m0, h0, h1⟩ => ⟨I, m0, h0, fun m a0 a1 a2 hI => h1 m (a0, a1, a2) hI⟩⟩
  obtain ⟨t, k1, k2⟩ := q P ((eq P).mp hw)
  exact ⟨t, k1, fun Q => (eq Q).trans (k2 Q)⟩
abbrev jn3 (D : (A0 × A1 × A2 → Prop) → Prop) (C : A0 → A1 → A2 → Prop) : Prop := ∃ K : A0 × A1 × A2 → Prop, (∀ (a0 : A0) (a1 : A1) (a2 : A2), K (a0, a1, a2) → C a0 a1 a2) ∧ D K
theorem det_jn3 {D : (A0 × A1 × A2 → Prop) → (τ → Prop) → Prop} {C : A0 → A1 → A2 → (τ → Prop) → Prop} (hd : Det fun P => D (fun s => P (Sum.inl s)) (fun t => P (Sum.inr t))) (hc : ∀ (a0 : A0) (a1 : A1) (a2 : A2), Det (C a0 a1 a2)) : Det fun P => jn3 (fun K => D K P) (fun a0 a1 a2 => C a0 a1 a2 P) := by
  have q := jnS_det (D := D) (C := fun (s : A0 × A1 × A2) => C (s.1) (s.2.1) (s.2.2)) hd (fun s => hc (s.1) (s.2.1) (s.2.2))
  intro P hw
  have eq : ∀ Q, jn3 (fun K => D K Q) (fun a0 a1 a2 => C a0 a1 a2 Q) ↔ jnS D (fun (s : A0 × A1 × A2) => C (s.1) (s.2.1) (s.2.2)) Q := fun Q => ⟨fun ⟨K, h1, h2⟩ => ⟨K, fun s hs => h1 (s.1) (s.2.1) (s.2.2) hs, h2⟩, fun ⟨K, h1, h2⟩ => ⟨K, fun a0 a1 a2 hs => h1 (a0, a1, a2) hs, h2⟩⟩
  obtain ⟨t, k1, k2⟩ := q P ((eq P).mp hw)
  exact ⟨t, k1, fun Q => (eq Q).trans (k2 Q)⟩
end

section
variable {α τ : Type} {A0 A1 A2 A3 : Type} 
abbrev for4 (xs : List α) (a0 : A0) (a1 : A1) (a2 : A2) (a3 : A3) (B : Nat → α → A0 → A1 → A2 → A3 → (A0 × A1 × A2 × A3 → Prop) → Prop) (C : A0 → A1 → A2 → A3 → Prop) : Prop :=
  ∃ I : Nat → A0 × A1 × A2 × A3 → Prop, I 0 (a0, a1, a2, a3) ∧ (∀ (i : Nat) (x : α) (a0 : A0) (a1 : A1) (a2 : A2) (a3 : A3), xs[i]? = some x → I i (a0, a1, a2, a3) → B i x a0 a1 a2 a3 (I (i + 1))) ∧ (∀ (a0 : A0) (a1 : A1) (a2 : A2) (a3 : A3), I xs.length (a0, a1, a2, a3) → C a0 a1 a2 a3)
theorem det_for4 {xs : List α} {a0 : A0} {a1 : A1} {a2 : A2} {a3 : A3} {B : Nat → α → A0 → A1 → A2 → A3 → (A0 × A1 × A2 × A3 → Prop) → (τ → Prop) → Prop} {C : A0 → A1 → A2 → A3 → (τ → Prop) → Prop} (hb : ∀ (i : Nat) (x : α) (a0 : A0) (a1 : A1) (a2 : A2) (a3 : A3), Det fun P => B i x a0 a1 a2 a3 (fun s => P (Sum.inl s)) (fun t => P (Sum.inr t))) (hc : ∀ (a0 : A0) (a1 : A1) (a2 : A2) (a3 : A3), Det (C a0 a1 a2 a3)) : Det fun P => for4 xs a0 a1 a2 a3 (fun i x a0 a1 a2 a3 N => B i x a0 a1 a2 a3 N P) (fun a0 a1 a2 a3 => C a0 a1 a2 a3 P) := by
  have q := forS_det (xs := xs) (s0 := (a0, a1, a2, a3)) (B := fun i x (s : A0 × A1 × A2 × A3) => B i x (s.1) (s.2.1) (s.2.2.1) (s.2.2.2)) (C := fun s => C (s.1) (s.2.1) (s.2.2.1) (s.2.2.2)) (fun i x s => hb i x (s.1) (s.2.1) (s.2.2.1) (s.2.2.2)) (fun s => hc (s.1) (s.2.1) (s.2.2.1) (s.2.2.2))
  intro P hw
  have eq : ∀ Q, for4 xs a0 a1 a2 a3 (fun i x a0 a1 a2 a3 N => B i x a0 a1 a2 a3 N Q) (fun a0 a1 a2 a3 => C a0 a1 a2 a3 Q) ↔ forS xs (a0, a1, a2, a3) (fun i x (s : A0 × A1 × A2 × A3) => B i x (s.1) (s.2.1) (s.2.2.1) (s.2.2.2)) (fun s => C (s.1) (s.2.1) (s.2.2.1) (s.2.2.2)) Q := fun Q => ⟨fun ⟨I, h0, h1, h2⟩ => ⟨I, h0, fun i x s hx hI => h1 i x (s.1) (s.2.1) (s.2.2.1) (s.2.2.2) hx hI, fun s hI => h2 (s.1) (s.2.1) (s.2.2.1) (s.2.2.2) hI⟩, fun ⟨I, h0, h1, h2⟩ => ⟨I, h0, fun i x a0 a1 a2 a3 hx hI => h1 i x (a0, a1, a2, a3) hx hI, fun a0 a1 a2 a3 hI => h2 (a0, a1, a2, a3) hI⟩⟩
  obtain ⟨t, k1, k2⟩ := q P ((eq P).mp hw)
  exact ⟨t, k1, fun Q => (eq Q).trans (k2 Q)⟩
abbrev whl4 (a0 : A0) (a1 : A1) (a2 : A2) (a3 : A3) (T : A0 → A1 → A2 → A3 → Prop) (c : A0 → A1 → A2 → A3 → Bool) (B : A0 → A1 → A2 → A3 → (A0 × A1 × A2 × A3 → Prop) → Prop) (C : A0 → A1 → A2 → A3 → Prop) : Prop :=
  ∃ (I : Nat → A0 × A1 × A2 × A3 → Prop) (m0 : Nat), I m0 (a0, a1, a2, a3) ∧ ∀ (m : Nat) (a0 : A0) (a1 : A1) (a2 : A2) (a3 : A3), I m (a0, a1, a2, a3) → T a0 a1 a2 a3 ∧ ((c a0 a1 a2 a3 = true → B a0 a1 a2 a3 (fun s' => ∃ m', m' < m ∧ I m' s')) ∧ (c a0 a1 a2 a3 = false → C a0 a1 a2 a3))
theorem det_whl4 {a0 : A0} {a1 : A1} {a2 : A2} {a3 : A3} {T : A0 → A1 → A2 → A3 → Prop} {c : A0 → A1 → A2 → A3 → Bool} {B : A0 → A1 → A2 → A3 → (A0 × A1 × A2 × A3 → Prop) → (τ → Prop) → Prop} {C : A0 → A1 → A2 → A3 → (τ → Prop) → Prop} (hb : ∀ (a0 : A0) (a1 : A1) (a2 : A2) (a3 : A3), Det fun P => B a0 a1 a2 a3 (fun s => P (Sum.inl s)) (fun t => P (Sum.inr t))) (hc : ∀ (a0 : A0) (a1 : A1) (a2 : A2) (a3 : A3), Det (C a0 a1 a2 a3)) : Det fun P => whl4 a0 a1 a2 a3 T c (fun a0 a1 a2 a3 N => B a0 a1 a2 a3 N P) (fun a0 a1 a2 a3 => C a0 a1 a2 a3 P) := by
  have q := whlS_det (s0 := (a0, a1, a2, a3)) (T := fun (s : A0 × A1 × A2 × A3) => T (s.1) (s.2.1) (s.2.2.1) (s.2.2.2)) (c := fun s => c (s.1) (s.2.1) (s.2.2.1) (s.2.2.2)) (B := fun (s : A0 × A1 × A2 × A3) => B (s.1) (s.2.1) (s.2.2.1) (s.2.2.2)) (C := fun s => C (s.1) (s.2.1) (s.2.2.1) (s.2.2.2)) (fun s => hb (s.1) (s.2.1) (s.2.2.1) (s.2.2.2)) (fun s => hc (s.1) (s.2.1) (s.2.2.1) (s.2.2.2))
  intro P hw
  have eq : ∀ Q, whl4 a0 a1 a2 a3 T c (fun a0 a1 a2 a3 N => B a0 a1 a2 a3 N Q) (fun a0 a1 a2 a3 => C a0 a1 a2 a3 Q) ↔ whlS (a0, a1, a2, a3) (fun (s : A0 × A1 × A2 × A3) => T (s.1) (s.2.1) (s.2.2.1) (s.2.2.2)) (fun s => c (s.1) (s.2.1) (s.2.2.1) (s.2.2.2)) (fun (s : A0 × A1 × A2 × A3) => B (s.1) (s.2.1) (s.2.2.1) (s.2.2.2)) (fun s => C (s.1) (s.2.1) (s.2.2.1) (s.2.2.2)) Q := fun Q => ⟨fun ⟨I, m0, h0, h1⟩ => ⟨I, m0, h0, fun m s hI => h1 m (s.1) (s.2.1) (s.2.2.1) (s.2.2.2) hI⟩, fun ⟨I, m0, h0, h1⟩ => ⟨I, m0, h0, fun m a0 a1 a2 a3 hI => h1 m (a0, a1, a2, a3) hI⟩⟩
  obtain ⟨t, k1, k2⟩ := q P ((eq P).mp hw)
  exact ⟨t, k1, fun Q => (eq Q).trans (k2 Q)⟩
abbrev jn4 (D : (A0 × A1 × A2 × A3 → Prop) → Prop) (C : A0 → A1 → A2 → A3 → Prop) : Prop := ∃ K : A0 × A1 × A2 × A3 → Prop, (∀ (a0 : A0) (a1 : A1) (a2 : A2) (a3 : A3), K (a0, a1, a2, a3) → C a0 a1 a2 a3) ∧ D K
theorem det_jn4 {D : (A0 × A1 × A2 × A3 → Prop) → (τ → Prop) → Prop} {C : A0 → A1 → A2 → A3 → (τ → Prop) → Prop} (hd : Det fun P => D (fun s => P (Sum.inl s)) (fun t => P (Sum.inr t))) (hc : ∀ (a0 : A0) (a1 : A1) (a2 : A2) (a3 : A3), Det (C a0 a1 a2 a3)) : Det fun P => jn4 (fun K => D K P) (fun a0 a1 a2 a3 => C a0 a1 a2 a3 P) := by
  have q := jnS_det (D := D) (C := fun (s : A0 × A1 × A2 × A3) => C (s.1) (s.2.1) (s.2.2.1) (s.2.2.2)) hd (fun s => hc (s.1) (s.2.1) (s.2.2.1) (s.2.2.2))
  intro P hw
  have eq : ∀ Q, jn4 (fun K => D K Q) (fun a0 a1 a2 a3 => C a0 a1 a2 a3 Q) ↔ jnS D (fun (s : A0 × A1 × A2 × A3) => C (s.1) (s.2.1) (s.2.2.1) (s.2.2.2)) Q := fun Q => ⟨fun ⟨K, h1, h2⟩ => ⟨K, fun s hs => h1 (s.1) (s.2.1) (s.2.2.1) (s.2.2.2) hs, h2⟩, fun ⟨K, h1, h2⟩ => ⟨K, fun a0 a1 a2 a3 hs => h1 (a0, a1, a2, a3) hs, h2⟩⟩
  obtain ⟨t, k1, k2⟩ := q P ((eq P).mp hw)
  exact ⟨t, k1, fun Q => (eq Q).trans (k2 Q)⟩
end

section
variable {α τ : Type} {A0 A1 A2 A3 A4 : Type} 
abbrev for5 (xs : List α) (a0 : A0) (a1 : A1) (a2 : A2) (a3 : A3) (a4 : A4) (B : Nat → α → A0 → A1 → A2 → A3 → A4 → (A0 × A1 × A2 × A3 × A4 → Prop) → Prop) (C : A0 → A1 → A2 → A3 → A4 → Prop) : Prop :=
  ∃ I : Nat → A0 × A1 × A2 × A3 × A4 → Prop, I 0 (a0, a1, a2, a3, a4) ∧ (∀ (i : Nat) (x : α) (a0 : A0) (a1 : A1) (a2 : A2) (a3 : A3) (a4 : A4), xs[i]? = some x → I i (a0, a1, a2, a3, a4) → B i x a0 a1 a2 a3 a4 (I (i + 1))) ∧ (∀ (a0 : A0) (a1 : A1) (a2 : A2) (a3 : A3) (a4 : A4), I xs.length (a0, a1, a2, a3, a4) → C a0 a1 a2 a3 a4)
theorem det_for5 {xs : List α} {a0 : A0} {a1 : A1} {a2 : A2} {a3 : A3} {a4 : A4} {B : Nat → α → A0 → A1 → A2 → A3 → A4 → (A0 × A1 × A2 × A3 × A4 → Prop) → (τ → Prop) → Prop} {C : A0 → A1 → A2 → A3 → A4 → (τ → Prop) → Prop} (hb : ∀ (i : Nat) (x : α) (a0 : A0) (a1 : A1) (a2 : A2) (a3 : A3) (a4 : A4), Det fun P => B i x a0 a1 a2 a3 a4 (fun s => P (Sum.inl s)) (fun t => P (Sum.inr t))) (hc : ∀ (a0 : A0) (a1 : A1) (a2 : A2) (a3 : A3) (a4 : A4), Det (C a0 a1 a2 a3 a4)) : Det fun P => for5 xs a0 a1 a2 a3 a4 (fun i x a0 a1 a2 a3 a4 N => B i x a0 a1 a2 a3 a4 N P) (fun a0 a1 a2 a3 a4 => C a0 a1 a2 a3 a4 P) := by
  have q := forS_det (xs := xs) (s0 := (a0, a1, a2, a3, a4)) (B := fun i x (s : A0 × A1 × A2 × A3 × A4) => B i x (s.1) (s.2.1) (s.2.2.1) (s.2.2.2.1) (s.2.2.2.2)) (C := fun s => C (s.1) (s.2.1) (s.2.2.1) (s.2.2.2.1) (s.2.2.2.2)) (fun i x s => hb i x (s.1) (s.2.1) (s.2.2.1) (s.2.2.2.1) (s.2.2.2.2)) (fun s => hc (s.1) (s.2.1) (s.2.2.1) (s.2.2.2.1) (s.2.2.2.2))
  intro P hw
  have eq : ∀ Q, for5 xs a0 a1 a2 a3 a4 (fun i x a0 a1 a2 a3 a4 N => B i x a0 a1 a2 a3 a4 N Q) (fun a0 a1 a2 a3 a4 => C a0 a1 a2 a3 a4 Q) ↔ forS xs (a0, a1, a2, a3, a4) (fun i x (s : A0 × A1 × A2 × A3 × A4) => B i x (s.1) (s.2.1) (s.2.2.1) (s.2.2.2.1) (s.2.2.2.2)) (fun s => C (s.1) (s.2.1) (s.2.2.1) (s.2.2.2.1) (s.2.2.2.2)) Q := fun Q => ⟨fun ⟨I, h0, h1, h2⟩ => ⟨I, h0, fun i x s hx hI => h1 i x (s.1) (s.2.1) (s.2.2.1) (s.2.2.2.1) (s.2.2.2.2) hx hI, fun s hI => h2 (s.1) (s.2.1) (s.2.2.1) (s.2.2.2.1) (s.2.2.2.2) hI⟩, fun ⟨I, h0, h1, h2⟩ => ⟨I, h0, fun i x a0 a1 a2 a3 a4 hx hI => h1 i x (a0, a1, a2, a3, a4) hx hI, fun a0 a1 a2 a3 a4 hI => h2 (a0, a1, a2, a3, a4) hI⟩⟩
  obtain ⟨t, k1, k2⟩ := q P ((eq P).mp hw)
  exact ⟨t, k1, fun Q => (eq Q).trans (k2 Q)⟩
abbrev whl5 (a0 : A0) (a1 : A1) (a2 : A2) (a3 : A3) (a4 : A4) (T : A0 → A1 → A2 → A3 → A4 → Prop) (c : A0 → A1 → A2 → A3 → A4 → Bool) (B : A0 → A1 → A2 → A3 → A4 → (A0 × A1 × A2 × A3 × A4 → Prop) → Prop) (C : A0 → A1 → A2 → A3 → A4 → Prop) : Prop :=
  ∃ (I : Nat → A0 × A1 × A2 × A3 × A4 → Prop) (m0 : Nat), I m0 (a0, a1, a2, a3, a4) ∧ ∀ (m : Nat) (a0 : A0) (a1 : A1) (a2 : A2) (a3 : A3) (a4 : A4), I m (a0, a1, a2, a3, a4) → T a0 a1 a2 a3 a4 ∧ ((c a0 a1 a2 a3 a4 = true → B a0 a1 a2 a3 a4 (fun s' => ∃ m', m' < m ∧ I m' s')) ∧ (c a0 a1 a2 a3 a4 = false → C a0 a1 a2 a3 a4))
theorem det_whl5 {a0 : A0} {a1 : A1} {a2 : A2} {a3 : A3} {a4 : A4} {T : A0 → A1 → A2 → A3 → A4 → Prop} {c : A0 → A1 → A2 → A3 → A4 → Bool} {B : A0 → A1 → A2 → A3 → A4 → (A0 × A1 × A2 × A3 × A4 → Prop) → (τ → Prop) → Prop} {C : A0 → A1 → A2 → A3 → A4 → (τ → Prop) → Prop} (hb : ∀ (a0 : A0) (a1 : A1) (a2 : A2) (a3 : A3) (a4 : A4), Det fun P => B a0 a1 a2 a3 a4 (fun s => P (Sum.inl s)) (fun t => P (Sum.inr t))) (hc : ∀ (a0 : A0) (a1 : A1) (a2 : A2) (a3 : A3) (a4 : A4), Det (C a0 a1 a2 a3 a4)) : Det fun P => whl5 a0 a1 a2 a3 a4 T c (fun a0 a1 a2 a3 a4 N => B a0 a1 a2 a3 a4 N P) (fun a0 a1 a2 a3 a4 => C a0 a1 a2 a3 a4 P) := by
  have q := whlS_det (s0 := (a0, a1, a2, a3, a4)) (T := fun (s : A0 × A1 × A2 × A3 × A4) => T (s.1) (s.2.1) (s.2.2.1) (s.2.2.2.1) (s.2.2.2.2)) (c := fun s => c (s.1) (s.2.1) (s.2.2.1) (s.2.2.2.1) (s.2.2.2.2)) (B := fun (s : A0 × A1 × A2 × A3 × A4) => B (s.1) (s.2.1) (s.2.2.1) (s.2.2.2.1) (s.2.2.2.2)) (C := fun s => C (s.1) (s.2.1) (s.2.2.1) (s.2.2.2.1) (s.2.2.2.2)) (fun s => hb (s.1) (s.2.1) (s.2.2.1) (s.2.2.2.1) (s.2.2.2.2)) (fun s => hc (s.1) (s.2.1) (s.2.2.1) (s.2.2.2.1) (s.2.2.2.2))
  intro P hw
  have eq : ∀ Q, whl5 a0 a1 a2 a3 a4 T c (fun a0 a1 a2 a3 a4 N => B a0 a1 a2 a3 a4 N Q) (fun a0 a1 a2 a3 a4 => C a0 a1 a2 a3 a4 Q) ↔ whlS (a0, a1, a2, a3, a4) (fun (s : A0 × A1 × A2 × A3 × A4) => T (s.1) (s.2.1) (s.2.2.1) (s.2.2.2.1) (s.2.2.2.2)) (fun s => c (s.1) (s.2.1) (s.2.2.1) (s.2.2.2.1) (s.2.2.2.2)) (fun (s : A0 × A1 × A2 × A3 × A4) => B (s.1) (s.2.1) (s.2.2.1) (s.2.2.2.1) (s.2.2.2.2)) (fun s => C (s.1) (s.2.1) (s.2.2.1) (s.2.2.2.1) (s.2.2.2.2)) Q := fun Q => ⟨fun ⟨I, m0, h0, h1⟩ => ⟨I, m0, h0, fun m s hI => h1 m (s.1) (s.2.1) (s.2.2.1) (s.2.2.2.1) (s.2.2.2.2) hI⟩, fun ⟨I, m0, h0, h1⟩ => ⟨I, m0, h0, fun m a0 a1 a2 a3 a4 hI => h1 m (a0, a1, a2, a3, a4) hI⟩⟩
  obtain ⟨t, k1, k2⟩ := q P ((eq P).mp hw)
  exact ⟨t, k1, fun Q => (eq Q).trans (k2 Q)⟩
abbrev jn5 (D : (A0 × A1 × A2 × A3 × A4 → Prop) → Prop) (C : A0 → A1 → A2 → A3 → A4 → Prop) : Prop := ∃ K : A0 × A1 × A2 × A3 × A4 → Prop, (∀ (a0 : A0) (a1 : A1) (a2 : A2) (a3 : A3) (a4 : A4), K (a0, a1, a2, a3, a4) → C a0 a1 a2 a3 a4) ∧ D K
theorem det_jn5 {D : (A0 × A1 × A2 × A3 × A4 → Prop) → (τ → Prop) → Prop} {C : A0 → A1 → A2 → A3 → A4 → (τ → Prop) → Prop} (hd : Det fun P => D (fun s => P (Sum.inl s)) (fun t => P (Sum.inr t))) (hc : ∀ (a0 : A0) (a1 : A1) (a2 : A2) (a3 : A3) (a4 : A4), Det (C a0 a1 a2 a3 a4)) : Det fun P => jn5 (fun K => D K P) (fun a0 a1 a2 a3 a4 => C a0 a1 a2 a3 a4 P) := by
  have q := jnS_det (D := D) (C := fun (s : A0 × A1 × A2 × A3 × A4) => C (s.1) (s.2.1) (s.2.2.1) (s.2.2.2.1) (s.2.2.2.2)) hd (fun s => hc (s.1) (s.2.1) (s.2.2.1) (s.2.2.2.1) (s.2.2.2.2))
  intro P hw
  have eq : ∀ Q, jn5 (fun K => D K Q) (fun a0 a1 a2 a3 a4 => C a0 a1 a2 a3 a4 Q) ↔ jnS D (fun (s : A0 × A1 × A2 × A3 × A4) => C (s.1) (s.2.1) (s.2.2.1) (s.2.2.2.1) (s.2.2.2.2)) Q := fun Q => ⟨fun ⟨K, h1, h2⟩ => ⟨K, fun s hs => h1 (s.1) (s.2.1) (s.2.2.1) (s.2.2.2.1) (s.2.2.2.2) hs, h2⟩, fun ⟨K, h1, h2⟩ => ⟨K, fun a0 a1 a2 a3 a4 hs => h1 (a0, a1, a2, a3, a4) hs, h2⟩⟩
  obtain ⟨t, k1, k2⟩ := q P ((eq P).mp hw)
  exact ⟨t, k1, fun Q => (eq Q).trans (k2 Q)⟩
end

section
variable {α τ : Type} {A0 A1 A2 A3 A4 A5 : Type} 
abbrev for6 (xs : List α) (a0 : A0) (a1 : A1) (a2 : A2) (a3 : A3) (a4 : A4) (a5 : A5) (B : Nat → α → A0 → A1 → A2 → A3 → A4 → A5 → (A0 × A1 × A2 × A3 × A4 × A5 → Prop) → Prop) (C : A0 → A1 → A2 → A3 → A4 → A5 → Prop) : Prop :=
  ∃ I : Nat → A0 × A1 × A2 × A3 × A4 × A5 → Prop, I 0 (a0, a1, a2, a3, a4, a5) ∧ (∀ (i : Nat) (x : α) (a0 : A0) (a1 : A1) (a2 : A2) (a3 : A3) (a4 : A4) (a5 : A5), xs[i]? = some x → I i (a0, a1, a2, a3, a4, a5) → B i x a0 a1 a2 a3 a4 a5 (I (i + 1))) ∧ (∀ (a0 : A0) (a1 : A1) (a2 : A2) (a3 : A3) (a4 : A4) (a5 : A5), I xs.length (a0, a1, a2, a3, a4, a5) → C a0 a1 a2 a3 a4 a5)
theorem det_for6 {xs : List α} {a0 : A0} {a1 : A1} {a2 : A2} {a3 : A3} {a4 : A4} {a5 : A5} {B : Nat → α → A0 → A1 → A2 → A3 → A4 → A5 → (A0 × A1 × A2 × A3 × A4 × A5 → Prop) → (τ → Prop) → Prop} {C : A0 → A1 → A2 → A3 → A4 → A5 → (τ → Prop) → Prop} (hb : ∀ (i : Nat) (x : α) (a0 : A0) (a1 : A1) (a2 : A2) (a3 : A3) (a4 : A4) (a5 : A5), Det fun P => B i x a0 a1 a2 a3 a4 a5 (fun s => P (Sum.inl s)) (fun t => P (Sum.inr t))) (hc : ∀ (a0 : A0) (a1 : A1) (a2 : A2) (a3 : A3) (a4 : A4) (a5 : A5), Det (C a0 a1 a2 a3 a4 a5)) : Det fun P => for6 xs a0 a1 a2 a3 a4 a5 (fun i x a0 a1 a2 a3 a4 a5 N => B i x a0 a1 a2 a3 a4 a5 N P) (fun a0 a1 a2 a3 a4 a5 => C a0 a1 a2 a3 a4 a5 P) := by
  have q := forS_det (xs := xs) (s0 := (a0, a1, a2, a3, a4, a5)) (B := fun i x (s : A0 × A1 × A2 × A3 × A4 × A5) => B i x (s.1) (s.2.1) (s.2.2.1) (s.2.2.2.1) (s.2.2.2.2.1) (s.2.2.2.2.2)) (C := fun s => C (s.1) (s.2.1) (s.2.2.1) (s.2.2.2.1) (s.2.2.2.2.1) (s.2.2.2.2.2)) (fun i x s => hb i x (s.1) (s.2.1) (s.2.2.1) (s.2.2.2.1) (s.2.2.2.2.1) (s.2.2.2.2.2)) (fun s => hc (s.1) (s.2.1) (s.2.2.1) (s.2.2.2.1) (s.2.2.2.2.1) (s.2.2.2.2.2))
  intro P hw
  have eq : ∀ Q, for6 xs a0 a1 a2 a3 a4 a5 (fun i x a0 a1 a2 a3 a4 a5 N => B i x a0 a1 a2 a3 a4 a5 N Q) (fun a0 a1 a2 a3 a4 a5 => C a0 a1 a2 a3 a4 a5 Q) ↔ forS xs (a0, a1, a2, a3, a4, a5) (fun i x (s : A0 × A1 × A2 × A3 × A4 × A5) => B i x (s.1) (s.2.1) (s.2.2.1) (s.2.2.2.1) (s.2.2.2.2.1) (s.2.2.2.2.2)) (fun s => C (s.1) (s.2.1) (s.2.2.1) (s.2.2.2.1) (s.2.2.2.2.1) (s.2.2.2.2.2)) Q := fun Q => ⟨fun ⟨I, h0, h1, h2⟩ => ⟨I, h0, fun i x s hx hI => h1 i x (s.1) (s.2.1) (s.2.2.1) (s.2.2.2.1) (s.2.2.2.2.1) (s.2.2.2.2.2) hx hI, fun s hI => h2 (s.1) (s.2.1) (s.2.2.1) (s.2.2.2.1) (s.2.2.2.2.1) (s.2.2.2.2.2) hI⟩, fun ⟨I, h0, h1, h2⟩ => ⟨I, h0, fun i x a0 a1 a2 a3 a4 a5 hx hI => h1 i x (a0, a1, a2, a3, a4, a5) hx hI, fun a0 a1 a2 a3 a4 a5 hI => h2 (a0, a1, a2, a3, a4, a5) hI⟩⟩
  obtain ⟨t, k1, k2⟩ := q P ((eq P).mp hw)
  exact ⟨t, k1, fun Q => (eq Q).trans (k2 Q)⟩
abbrev whl6 (a0 : A0) (a1 : A1) (a2 : A2) (a3 : A3) (a4 : A4) (a5 : A5) (T : A0 → A1 → A2 → A3 → A4 → A5 → Prop) (c : A0 → A1 → A2 → A3 → A4 → A5 → Bool) (B : A0 → A1 → A2 → A3 → A4 → A5 → (A0 × A1 × A2 × A3 × A4 × A5 → Prop) → Prop) (C : A0 → A1 → A2 → A3 → A4 → A5 → Prop) : Prop :=
  ∃ (I : Nat → A0 × A1 × A2 × A3 × A4 × A5 → Prop) (m0 : Nat), I m0 (a0, a1, a2, a3, a4, a5) ∧ ∀ (m : Nat) (a0 : A0) (a1 : A1) (a2 : A2) (a3 : A3) (a4 : A4) (a5 : A5), I m (a0, a1, a2, a3, a4, a5) → T a0 a1 a2 a3 a4 a5 ∧ ((c a0 a1 a2 a3 a4 a5 = true → B a0 a1 a2 a3 a4 a5 (fun s' => ∃ m', m' < m ∧ I m' s')) ∧ (c a0 a1 a2 a3 a4 a5 = false → C a0 a1 a2 a3 a4 a5))
theorem det_whl6 {a0 : A0} {a1 : A1} {a2 : A2} {a3 : A3} {a4 : A4} {a5 : A5} {T : A0 → A1 → A2 → A3 → A4 → A5 → Prop} {c : A0 → A1 → A2 → A3 → A4 → A5 → Bool} {B : A0 → A1 → A2 → A3 → A4 → A5 → (A0 × A1 × A2 × A3 × A4 × A5 → Prop) → (τ → Prop) → Prop} {C : A0 → A1 → A2 → A3 → A4 → A5 → (τ → Prop) → Prop} (hb : ∀ (a0 : A0) (a1 : A1) (a2 : A2) (a3 : A3) (a4 : A4) (a5 : A5), Det fun P => B a0 a1 a2 a3 a4 a5 (fun s => P (Sum.inl s)) (fun t => P (Sum.inr t))) (hc : ∀ (a0 : A0) (a1 : A1) (a2 : A2) (a3 : A3) (a4 : A4) (a5 : A5), Det (C a0 a1 a2 a3 a4 a5)) : Det fun P => whl6 a0 a1 a2 a3 a4 a5 T c (fun a0 a1 a2 a3 a4 a5 N => B a0 a1 a2 a3 a4 a5 N P) (fun a0 a1 a2 a3 a4 a5 => C a0 a1 a2 a3 a4 a5 P) := by
  have q := whlS_det (s0 := (a0, a1, a2, a3, a4, a5)) (T := fun (s : A0 × A1 × A2 × A3 × A4 × A5) => T (s.1) (s.2.1) (s.2.2.1) (s.2.2.2.1) (s.2.2.2.2.1) (s.2.2.2.2.2)) (c := fun s => c (s.1) (s.2.1) (s.2.2.1) (s.2.2.2.1) (s.2.2.2.2.1) (s.2.2.2.2.2)) (B := fun (s : A0 × A1 × A2 × A3 × A4 × A5) => B (s.1) (s.2.1) (s.2.2.1) (s.2.2.2.1) (s.2.2.2.2.1) (s.2.2.2.2.2)) (C := fun s => C (s.1) (s.2.1) (s.2.2.1) (s.2.2.2.1) (s.2.2.2.2.1) (s.2.2.2.2.2)) (fun s => hb (s.1) (s.2.1) (s.2.2.1) (s.2.2.2.1) (s.2.2.2.2.1) (s.2.2.2.2.2)) (fun s => hc (s.1) (s.2.1) (s.2.2.1) (s.2.2.2.1) (s.2.2.2.2.1) (s.2.2.2.2.2))
  intro P hw
  have eq : ∀ Q, whl6 a0 a1 a2 a3 a4 a5 T c (fun a0 a1 a2 a3 a4 a5 N => B a0 a1 a2 a3 a4 a5 N Q) (fun a0 a1 a2 a3 a4 a5 => C a0 a1 a2 a3 a4 a5 Q) ↔ whlS (a0, a1, a2, a3, a4, a5) (fun (s : A0 × A1 × A2 × A3 × A4 × A5) => T (s.1) (s.2.1) (s.2.2.1) (s.2.2.2.1) (s.2.2.2.2.1) (s.2.2.2.2.2)) (fun s => c (s.1) (s.2.1) (s.2.2.1) (s.2.2.2.1) (s.2.2.2.2.1) (s.2.2.2.2.2)) (fun (s : A0 × A1 × A2 × A3 × A4 × A5) => B (s.1) (s.2.1) (s.2.2.1) (s.2.2.2.1) (s.2.2.2.2.1) (s.2.2.2.2.2)) (fun s => C (s.1) (s.2.1) (s.2.2.1) (s.2.2.2.1) (s.2.2.2.2.1) (s.2.2.2.2.2)) Q := fun Q => ⟨fun ⟨I, m0, h0, h1⟩ => ⟨I, m0, h0, fun m s hI => h1 m (s.1) (s.2.1) (s.2.2.1) (s.2.2.2.1) (s.2.2.2.2.1) (s.2.2.2.2.2) hI⟩, fun ⟨I, m0, h0, h1⟩ => ⟨I, m0, h0, fun m a0 a1 a2 a3 a4 a5 hI => h1 m (a0, a1, a2, a3, a4, a5) hI⟩⟩
  obtain ⟨t, k1, k2⟩ := q P ((eq P).mp hw)
  exact ⟨t, k1, fun Q => (eq Q).trans (k2 Q)⟩
abbrev jn6 (D : (A0 × A1 × A2 × A3 × A4 × A5 → Prop) → Prop) (C : A0 → A1 → A2 → A3 → A4 → A5 → Prop) : Prop := ∃ K : A0 × A1 × A2 × A3 × A4 × A5 → Prop, (∀ (a0 : A0) (a1 : A1) (a2 : A2) (a3 : A3) (a4 : A4) (a5 : A5), K (a0, a1, a2, a3, a4, a5) → C a0 a1 a2 a3 a4 a5) ∧ D K
theorem det_jn6 {D : (A0 × A1 × A2 × A3 × A4 × A5 → Prop) → (τ → Prop) → Prop} {C : A0 → A1 → A2 → A3 → A4 → A5 → (τ → Prop) → Prop} (hd : Det fun P => D (fun s => P (Sum.inl s)) (fun t => P (Sum.inr t))) (hc : ∀ (a0 : A0) (a1 : A1) (a2 : A2) (a3 : A3) (a4 : A4) (a5 : A5), Det (C a0 a1 a2 a3 a4 a5)) : Det fun P => jn6 (fun K => D K P) (fun a0 a1 a2 a3 a4 a5 => C a0 a1 a2 a3 a4 a5 P) := by
  have q := jnS_det (D := D) (C := fun (s : A0 × A1 × A2 × A3 × A4 × A5) => C (s.1) (s.2.1) (s.2.2.1) (s.2.2.2.1) (s.2.2.2.2.1) (s.2.2.2.2.2)) hd (fun s => hc (s.1) (s.2.1) (s.2.2.1) (s.2.2.2.1) (s.2.2.2.2.1) (s.2.2.2.2.2))
  intro P hw
  have eq : ∀ Q, jn6 (fun K => D K Q) (fun a0 a1 a2 a3 a4 a5 => C a0 a1 a2 a3 a4 a5 Q) ↔ jnS D (fun (s : A0 × A1 × A2 × A3 × A4 × A5) => C (s.1) (s.2.1) (s.2.2.1) (s.2.2.2.1) (s.2.2.2.2.1) (s.2.2.2.2.2)) Q := fun Q => ⟨fun ⟨K, h1, h2⟩ => ⟨K, fun s hs => h1 (s.1) (s.2.1) (s.2.2.1) (s.2.2.2.1) (s.2.2.2.2.1) (s.2.2.2.2.2) hs, h2⟩, fun ⟨K, h1, h2⟩ => ⟨K, fun a0 a1 a2 a3 a4 a5 hs => h1 (a0, a1, a2, a3, a4, a5) hs, h2⟩⟩
  obtain ⟨t, k1, k2⟩ := q P ((eq P).mp hw)
  exact ⟨t, k1, fun Q => (eq Q).trans (k2 Q)⟩
end
end Fw
end

section
set_option Elab.async false
set_option linter.all false
set_option maxRecDepth 100000
set_option maxHeartbeats 4000000
namespace Fw
open PySem PySem.Spec PyProof.Rows L2
def tp (i : Nat) : Stmt := (PySem.Challenge.pw_fewestpowers_k49_whole_signs_of_tables_b).main.body.getD i (.Pass ⟨0, 0, 0, 0⟩)
def mt (i k : Nat) : Stmt := match tp i with
  | .ClassDef (body := b) .. => b.getD k (.Pass ⟨0, 0, 0, 0⟩)
  | _ => .Pass ⟨0, 0, 0, 0⟩
def dfT (x : Str) (i : Nat) : He.DefD := ⟨(x, none), x, x, defArgs (tp i), defBody (tp i), defScope (tp i), [], []⟩
def dfM (c x q : Str) (i k : Nat) (dfl : List He.Dv) : He.DefD := ⟨(c, some x), x, q, defArgs (mt i k), defBody (mt i k), defScope (mt i k), dfl, []⟩
def fnL : List He.DefD := [dfT "is_integer" 6,
  dfT "common" 7,
  dfT "check_ratio" 10,
  dfT "as_ratio" 11,
  dfT "are_ratios" 12,
  dfT "ratio_sum" 13,
  dfT "ratio_dot" 14,
  dfT "is_table" 17,
  dfT "check_table" 18,
  dfT "wide_of" 19,
  dfT "unit_table" 20,
  dfT "turned" 21,
  dfT "table_times" 22,
  dfT "table_plus" 23,
  dfT "echelon" 24,
  dfT "less_row" 25,
  dfT "table_rank" 26,
  dfT "check_square" 27,
  dfT "inverse" 28,
  dfT "determinant" 29,
  dfT "trace" 30,
  dfT "check_symmetric" 32,
  dfT "squares_of" 33,
  dfT "first_pair" 34,
  dfT "less_square" 35,
  dfT "inertia" 36,
  dfT "square_rank" 37,
  dfT "is_above" 38,
  dfT "_law_state" 40,
  dfT "_law_take" 41,
  dfT "_law_total" 42,
  dfT "_law_rank" 43,
  dfT "_law_table" 44,
  dfT "_law_part" 45,
  dfT "_law_plus" 46,
  dfT "_law_parts_hold" 47,
  dfT "_law_minors_hold" 48,
  dfT "_law_fewer_hold" 49,
  dfT "_law_sums_hold" 50,
  dfT "_law_squares_hold" 51,
  dfT "law" 52,
  dfM "Ratio" "__init__" "Ratio.__init__" 9 0 [.int 1],
  dfM "Ratio" "__add__" "Ratio.__add__" 9 1 [],
  dfM "Ratio" "__sub__" "Ratio.__sub__" 9 2 [],
  dfM "Ratio" "__mul__" "Ratio.__mul__" 9 3 [],
  dfM "Ratio" "__neg__" "Ratio.__neg__" 9 4 [],
  dfM "Ratio" "__eq__" "Ratio.__eq__" 9 5 [],
  dfM "Ratio" "over" "Ratio.over" 9 6 [],
  dfM "Ratio" "less" "Ratio.less" 9 7 [],
  dfM "Ratio" "sign" "Ratio.sign" 9 8 []]
def faL : List He.Fa := [.free "len", .free "range", .free "zip", .free "enumerate", .free "tuple", .free "list", .free "int", .free "bool", .free "abs", .free "isinstance", .free "any", .free "all", .free "max", .free "min", .glo "is_integer", .glo "common", .glo "check_ratio", .glo "as_ratio", .glo "are_ratios", .glo "ratio_sum", .glo "ratio_dot", .glo "is_table", .glo "check_table", .glo "wide_of", .glo "unit_table", .glo "turned", .glo "table_times", .glo "table_plus", .glo "echelon", .glo "less_row", .glo "table_rank", .glo "check_square", .glo "inverse", .glo "determinant", .glo "trace", .glo "check_symmetric", .glo "squares_of", .glo "first_pair", .glo "less_square", .glo "inertia", .glo "square_rank", .glo "is_above", .glo "_law_state", .glo "_law_take", .glo "_law_total", .glo "_law_rank", .glo "_law_table", .glo "_law_part", .glo "_law_plus", .glo "_law_parts_hold", .glo "_law_minors_hold", .glo "_law_fewer_hold", .glo "_law_sums_hold", .glo "_law_squares_hold", .glo "law", .meth "Ratio" "__add__", .meth "Ratio" "__sub__", .meth "Ratio" "__mul__", .meth "Ratio" "__neg__", .meth "Ratio" "__eq__", .meth "Ratio" "over", .meth "Ratio" "less", .meth "Ratio" "sign", .glo "Ratio", .cls "Ratio", .noat "Ratio" "n", .noat "Ratio" "d", .mkr "Ratio", .int "MOST_SIDE" 400]
def eqB (a b : Option Bool) : Bool := decide (a = b)
def eqV (a b : Option (Option Value)) : Bool := decide (a = b)
/-- what the written part shows besides -/
def ckL (K : Frag) : Bool :=
  seerB K && (PySem.W.selfFirst K (He.ga K "Ratio") && (eqV (PySem.W.findIn K (.ref (He.ga K "Ratio")) "__class__") (some (some (.builtin "object.__class__"))) && (eqV (PySem.W.specialIn K (.builtin "object.__class__") "__get__") (some (some (.builtin "getset_descriptor.__get__"))) && (eqB (PySem.W.takesIn K (.builtin "object.__class__")) (some true) &&
  (eqB (PySem.W.mroIn K (He.ga K "Ratio") (.type "object")) (some true) && (eqV (PySem.W.findIn K (.ref (He.ga K "Ratio")) "__ne__") (some (some (.builtin "object.__ne__"))) && (eqB (PySem.W.kitOne K (.ref (He.ga K "Ratio")) (.type "int")) (some false) && eqB (PySem.W.kitOne K (.type "int") (.ref (He.ga K "Ratio"))) (some false))))))))
abbrev HKL (g : Gx) : Prop := HK faL fnL ckL g
structure CkL (K : Frag) : Prop where
  seer : seerB K = true
  sf : PySem.W.selfFirst K (He.ga K "Ratio") = true
  ha : PySem.W.findIn K (.ref (He.ga K "Ratio")) "__class__" = some (some (.builtin "object.__class__"))
  hn : PySem.W.specialIn K (.builtin "object.__class__") "__get__" = some (some (.builtin "getset_descriptor.__get__"))
  htk : PySem.W.takesIn K (.builtin "object.__class__") = some true
  hm : PySem.W.mroIn K (He.ga K "Ratio") (.type "object") = some true
  ne : PySem.W.findIn K (.ref (He.ga K "Ratio")) "__ne__" = some (some (.builtin "object.__ne__"))
  qi : PySem.W.kitOne K (.ref (He.ga K "Ratio")) (.type "int") = some false
  iq : PySem.W.kitOne K (.type "int") (.ref (He.ga K "Ratio")) = some false
theorem ckL_ok {K : Frag} (h : ckL K = true) : CkL K := by
  simp only [ckL, Bool.and_eq_true, eqB, eqV, decide_eq_true_eq] at h
  obtain ⟨h1, h2, h3, h4, h5, h6, h7, h8, h9⟩ := h
  exact ⟨h1, h2, h3, h4, h5, h6, h7, h8, h9⟩
section
variable {g : Gx} (h : HKL g)
include h
theorem HK.bi : Bi g.mg := ⟨h.free 0 rfl, h.free 1 rfl, h.free 2 rfl, h.free 3 rfl, h.free 4 rfl, h.free 5 rfl, h.free 6 rfl, h.free 7 rfl, h.free 8 rfl, h.free 9 rfl, h.free 10 rfl, h.free 11 rfl, h.free 12 rfl, h.free 13 rfl⟩
theorem HK.c : CkL g.K := ckL_ok h.ck
theorem HK.int {i : Int} {x : Str} (m : Nat) (hm : faL[m]? = some (.int x i)) : ∃ t, g.mg x = some (.int i t) := He.int_ok h.kin h.ns (h.says.fact m hm)
theorem HK.kit_int : PySem.W.kitOne g.K (.type "int") (.ref (Cq g)) = some false := (HK.c h).iq
theorem HK.kitr_int : PySem.W.kitOne g.K (.ref (Cq g)) (.type "int") = some false := (HK.c h).qi
theorem HK.ic : Icl g.K (Cq g) := ⟨He.cls_ok (h.says.fact 64 rfl), (HK.c h).ha, (HK.c h).hn, (HK.c h).htk, (HK.c h).hm⟩
end
end Fw
end

section
namespace Fw
def cmn (a b : Int) : Int := (Int.gcd a b : Int)
end Fw
end

section
set_option Elab.async false
set_option linter.all false
set_option maxRecDepth 100000
set_option maxHeartbeats 4000000
namespace Fw
open PySem PySem.Spec PyProof.Rows L2
local macro_rules | `(tactic| walk_at "vis") => `(tactic| first | exact Or.inl rfl | exact Or.inr (Or.inl rfl) | exact Or.inr (Or.inr rfl))
local macro_rules | `(tactic| walk_at "loc") => `(tactic| first | exact Or.inl rfl | exact Or.inr rfl)
local macro_rules | `(tactic| walk_at "or0") => `(tactic| exact Or.inl ⟨rfl, rfl⟩)
local macro_rules | `(tactic| walk_at "or1") => `(tactic| exact Or.inr ⟨rfl, rfl⟩)
local macro_rules | `(tactic| walk_at "or30") => `(tactic| exact Or.inl ⟨rfl, rfl, rfl⟩)
local macro_rules | `(tactic| walk_at "det") => `(tactic| repeat' (first
  | exact det_leaf _ | exact det_false | refine det_if ?_ ?_ | refine det_val fun _ => ?_ | refine det_ok ?_
  | refine det_for0 (fun _ _ => ?_) ?_ | refine det_for1 (fun _ _ _ => ?_) (fun _ => ?_) | refine det_for2 (fun _ _ _ _ => ?_) (fun _ _ => ?_) | refine det_for3 (fun _ _ _ _ _ => ?_) (fun _ _ _ => ?_) | refine det_for4 (fun _ _ _ _ _ _ => ?_) (fun _ _ _ _ => ?_)
  | refine det_whl1 (fun _ => ?_) (fun _ => ?_) | refine det_whl2 (fun _ _ => ?_) (fun _ _ => ?_) | refine det_whl3 (fun _ _ _ => ?_) (fun _ _ _ => ?_) | refine det_whl4 (fun _ _ _ _ => ?_) (fun _ _ _ _ => ?_)
  | refine det_jn0 ?_ ?_ | refine det_jn1 ?_ (fun _ => ?_) | refine det_jn2 ?_ (fun _ _ => ?_) | refine det_jn3 ?_ (fun _ _ _ => ?_) | refine det_jn4 ?_ (fun _ _ _ _ => ?_)))
local macro_rules | `(tactic| walk_at "or31") => `(tactic| exact Or.inr ⟨rfl, rfl, rfl⟩)
abbrev sp_is_integer__v_int (g : Gx) : DS := spG (fun (p : Int) => [eI p]) (fun p => True) (fun p => true) eB
def W_is_integer__v_int (value_1 : Int) (R : Bool → Prop) : Prop :=
  R true
abbrev Hw_is_integer__v_int : Prop := ∀ (value_1 : Int), W_is_integer__v_int value_1 (fun r => r = true)
theorem w_is_integer__v_int {g : Gx} (h : HKL g)  (hW : Hw_is_integer__v_int) : Fd g "is_integer" 1 (sp_is_integer__v_int g) := by
  refine h.fd 0 14 rfl rfl rfl rfl (N := ["value"]) (ps := ["value"]) ⟨rfl, rfl, rfl, by decide +kernel, rfl, by decide +kernel, by decide +kernel⟩ (fun _ _ _ _ _ _ us hl => match us, hl with | [_], _ => rfl) (fun ds w Q hS => ?_) (fun X fr hK hfn hst ds w Q hS => ?_)
  · obtain ⟨p, rfl, _⟩ := hS; rfl
  · obtain ⟨value_1, rfl, hp, hQ⟩ := hS
    have hR : ∀ r, r = true → Q (eB r) w := fun r e => by rw [e]; exact hQ
    replace hW := hW value_1
    unfold W_is_integer__v_int at hW
    have bi := h.bi
    exact css_ret (d := eB true) (ce_andT (ce_isiB (T := "int") (b := true) bi fr rfl rfl bi.int (by decide +kernel) (ce_var fr 0 rfl (by walk_at "vis") rfl) tyI (by rfl)) (ce_one (ce_not (ce_isiB (T := "bool") (b := false) bi fr rfl rfl bi.bool (by decide +kernel) (ce_var fr 0 rfl (by walk_at "vis") rfl) tyI (by rfl))))) (hR (true) hW)
abbrev sp_common (g : Gx) : DS := spG (fun (p : Int × Int) => [eI p.1, eI p.2]) (fun p => True) (fun p => cmn p.1 p.2) eI
def W_common (a_1 : Int) (b_2 : Int) (R : Int → Prop) : Prop :=
  ∀ a_3, a_3 = (a_1.natAbs : Int) → ∀ b_5, b_5 = (b_2.natAbs : Int) → whl2 a_3 b_5 (fun (a_7 : Int) (b_8 : Int) => True) (fun (a_7 : Int) (b_8 : Int) => (decide ((0 : Int) < b_8))) (fun (a_7 : Int) (b_8 : Int) N_12 => 0 < b_8 ∧ ∀ a_14, a_14 = b_8 → ∀ b_16, b_16 = (a_7 % b_8) → N_12 (a_14, b_16)) (fun (a_7 : Int) (b_8 : Int) => R a_7)
abbrev Hw_common : Prop := ∀ (a_1 : Int) (b_2 : Int), W_common a_1 b_2 (fun r => r = cmn a_1 b_2)
theorem w_common {g : Gx} (h : HKL g)  (hW : Hw_common) : Fd g "common" 3 (sp_common g) := by
  refine h.fd 1 15 rfl rfl rfl rfl (N := ["a", "b"]) (ps := ["a", "b"]) ⟨rfl, rfl, rfl, by decide +kernel, rfl, by decide +kernel, by decide +kernel⟩ (fun _ _ _ _ _ _ us hl => match us, hl with | [_, _], _ => rfl) (fun ds w Q hS => ?_) (fun X fr hK hfn hst ds w Q hS => ?_)
  · obtain ⟨p, rfl, _⟩ := hS; rfl
  · obtain ⟨⟨a_1, b_2⟩, rfl, hp, hQ⟩ := hS
    have hR : ∀ r, r = cmn a_1 b_2 → Q (eI r) w := fun r e => by rw [e]; exact hQ
    replace hW := hW a_1 b_2
    unfold W_common at hW
    have bi := h.bi
    obtain ⟨a_3, e_4⟩ : ∃ z, z = (a_1.natAbs : Int) := ⟨_, rfl⟩
    replace hW := hW a_3 e_4
    obtain ⟨b_5, e_6⟩ : ∃ z, z = (b_2.natAbs : Int) := ⟨_, rfl⟩
    replace hW := hW b_5 e_6
    refine css_par2 (m1 := (.fz (eI ((a_1.natAbs : Int))))) (n1 := (.fz (eI a_3))) (m2 := (.fz (eI ((b_2.natAbs : Int))))) (n2 := (.fz (eI b_5))) fr 0 1 rfl rfl (by decide) (by walk_at "loc") (by walk_at "loc") hfn (by rw [e_4]) (by rw [e_6]) (t_abs bi fr rfl (ce_var fr 0 rfl (by walk_at "vis") rfl)) (t_abs bi fr rfl (ce_var fr 1 rfl (by walk_at "vis") rfl)) rfl ?_ (by first | exact .inl ⟨rfl, rfl, Cf.sw fr rfl⟩ | exact .inr (Cf.sw fr rfl))
    obtain ⟨I_9, m_100, w_18, w_19⟩ := hW
    refine css_while fr [] (fun (z : Int × Int) => [.fz (eI z.1), .fz (eI z.2)]) (fun (z : Int × Int) => w) I_9 m_100 (a_3, b_5) rfl rfl w_18 ?_
    rintro m_10 ⟨a_7, b_8⟩ hI_20
    have hW := w_19 m_10 a_7 b_8 hI_20
    obtain ⟨_, w_21, w_22⟩ := hW
    refine ⟨_, (ct_cmp (ce_var fr 1 rfl (by walk_at "vis") rfl) ce_int b2_gt rfl), fun hc => ?_, fun hc => ?_⟩
    · have hW := w_21 hc
      obtain ⟨k_13, hW⟩ := hW
      obtain ⟨a_14, e_15⟩ : ∃ z, z = b_8 := ⟨_, rfl⟩
      replace hW := hW a_14 e_15
      obtain ⟨b_16, e_17⟩ : ∃ z, z = (a_7 % b_8) := ⟨_, rfl⟩
      replace hW := hW b_16 e_17
      refine css_par2 (m1 := (.fz (eI b_8))) (n1 := (.fz (eI a_14))) (m2 := (.fz (eI ((a_7 % b_8))))) (n2 := (.fz (eI b_16))) fr 0 1 rfl rfl (by decide) (by walk_at "loc") (by walk_at "loc") hfn (by rw [e_15]) (by rw [e_17]) (ce_var fr 1 rfl (by walk_at "vis") rfl) (ce_bin (ce_var fr 0 rfl (by walk_at "vis") rfl) (ce_var fr 1 rfl (by walk_at "vis") rfl) (b2_mod k_13)) rfl ?_ (by first | exact .inl ⟨rfl, rfl, Cf.sw fr rfl⟩ | exact .inr (Cf.sw fr rfl))
      refine css_nil ?_
      exact ⟨(a_14, b_16), rfl, rfl, hW⟩
    · have hW := w_22 hc
      exact css_ret (d := eI a_7) (ce_var fr 0 rfl (by walk_at "vis") rfl) (hR (a_7) hW)
abbrev sp_check_ratio__v_rat (g : Gx) : DS := spG (fun (p : Rat) => [(eQ (Cq g)) p]) (fun p => True) (fun p => ()) eN
def W_check_ratio__v_rat (value_1 : Rat) (R : Unit → Prop) : Prop :=
  R ()
abbrev Hw_check_ratio__v_rat : Prop := ∀ (value_1 : Rat), W_check_ratio__v_rat value_1 (fun r => r = ())
theorem w_check_ratio__v_rat {g : Gx} (h : HKL g)  (hW : Hw_check_ratio__v_rat) : Fd g "check_ratio" 1 (sp_check_ratio__v_rat g) := by
  refine h.fd 2 16 rfl rfl rfl rfl (N := ["value"]) (ps := ["value"]) ⟨rfl, rfl, rfl, by decide +kernel, rfl, by decide +kernel, by decide +kernel⟩ (fun _ _ _ _ _ _ us hl => match us, hl with | [_], _ => rfl) (fun ds w Q hS => ?_) (fun X fr hK hfn hst ds w Q hS => ?_)
  · obtain ⟨p, rfl, _⟩ := hS; rfl
  · obtain ⟨value_1, rfl, hp, hQ⟩ := hS
    have hR : ∀ r, r = () → Q (eN r) w := fun r e => by rw [e]; exact hQ
    replace hW := hW value_1
    unfold W_check_ratio__v_rat at hW
    have bi := h.bi
    refine css_if (ct_not (ct_val (ce_isiC (b := true) bi fr rfl rfl (h.glo 63 rfl) (ce_var fr 0 rfl (by walk_at "vis") rfl) (.obj h.ic) (kit_same _)))) (fun hc => by cases hc) (fun _ => ?_)
    refine css_nil ?_
    refine css_nil ?_
    exact hR _ hW
end Fw
end

section
set_option Elab.async false
set_option linter.all false
set_option maxRecDepth 100000
set_option maxHeartbeats 4000000
namespace Fw
open PySem PySem.Spec PyProof.Rows L2
local macro_rules | `(tactic| walk_at "vis") => `(tactic| first | exact Or.inl rfl | exact Or.inr (Or.inl rfl) | exact Or.inr (Or.inr rfl))
local macro_rules | `(tactic| walk_at "loc") => `(tactic| first | exact Or.inl rfl | exact Or.inr rfl)
local macro_rules | `(tactic| walk_at "or0") => `(tactic| exact Or.inl ⟨rfl, rfl⟩)
local macro_rules | `(tactic| walk_at "or1") => `(tactic| exact Or.inr ⟨rfl, rfl⟩)
local macro_rules | `(tactic| walk_at "or30") => `(tactic| exact Or.inl ⟨rfl, rfl, rfl⟩)
local macro_rules | `(tactic| walk_at "det") => `(tactic| repeat' (first
  | exact det_leaf _ | exact det_false | refine det_if ?_ ?_ | refine det_val fun _ => ?_ | refine det_ok ?_
  | refine det_for0 (fun _ _ => ?_) ?_ | refine det_for1 (fun _ _ _ => ?_) (fun _ => ?_) | refine det_for2 (fun _ _ _ _ => ?_) (fun _ _ => ?_) | refine det_for3 (fun _ _ _ _ _ => ?_) (fun _ _ _ => ?_) | refine det_for4 (fun _ _ _ _ _ _ => ?_) (fun _ _ _ _ => ?_)
  | refine det_whl1 (fun _ => ?_) (fun _ => ?_) | refine det_whl2 (fun _ _ => ?_) (fun _ _ => ?_) | refine det_whl3 (fun _ _ _ => ?_) (fun _ _ _ => ?_) | refine det_whl4 (fun _ _ _ _ => ?_) (fun _ _ _ _ => ?_)
  | refine det_jn0 ?_ ?_ | refine det_jn1 ?_ (fun _ => ?_) | refine det_jn2 ?_ (fun _ _ => ?_) | refine det_jn3 ?_ (fun _ _ _ => ?_) | refine det_jn4 ?_ (fun _ _ _ _ => ?_)))
local macro_rules | `(tactic| walk_at "or31") => `(tactic| exact Or.inr ⟨rfl, rfl, rfl⟩)

theorem cls_q {g : Gx} (h : HKL g) : Cls g.K (Cq g) := He.cls_ok (h.says.fact 64 rfl)
theorem noN {g : Gx} (h : HKL g) : NoAttr g.K (Cq g) "n" := He.noat_ok (h.says.fact 65 rfl)
theorem noD {g : Gx} (h : HKL g) : NoAttr g.K (Cq g) "d" := He.noat_ok (h.says.fact 66 rfl)
theorem q_n (n d : Int) (hd : d ≠ 0) : (Rat.divInt n d).num = n.fdiv (if 0 < d then (Int.gcd n d : Int) else -(Int.gcd n d : Int)) := by
  have hg : (Int.gcd n d : Int) ≠ 0 := by
    intro e
    have := Int.gcd_eq_zero_iff.mp (by omega : Int.gcd n d = 0)
    exact hd this.2
  rw [Rat.num_divInt, Int.gcd_comm d n]
  have h1 : ((Int.gcd n d : Int)) ∣ n := Int.gcd_dvd_left ..
  by_cases h : 0 < d
  · rw [if_pos h, Int.sign_eq_one_of_pos h, Int.one_mul, Int.fdiv_eq_ediv_of_dvd h1]
  · rw [if_neg h, Int.sign_eq_neg_one_of_neg (by omega), Int.fdiv_eq_ediv_of_dvd (Int.neg_dvd.mpr h1), Int.ediv_neg, Int.neg_one_mul, Int.neg_ediv_of_dvd h1]
theorem q_d (n d : Int) (hd : d ≠ 0) : ((Rat.divInt n d).den : Int) = d.fdiv (if 0 < d then (Int.gcd n d : Int) else -(Int.gcd n d : Int)) := by
  have h1 : ((Int.gcd n d : Int)) ∣ d := Int.gcd_dvd_right ..
  rw [Rat.den_divInt, if_neg hd]
  rw [Int.natCast_ediv, Int.gcd_comm d n]
  by_cases h : 0 < d
  · rw [if_pos h, Int.fdiv_eq_ediv_of_dvd h1, show (d.natAbs : Int) = d by omega]
  · rw [if_neg h, Int.fdiv_eq_ediv_of_dvd (Int.neg_dvd.mpr h1), Int.ediv_neg, show (d.natAbs : Int) = -d by omega, Int.neg_ediv_of_dvd h1]
theorem fs_of (n d : Int) (hd : d ≠ 0) : [(("n" : Str), Dat.int (n.fdiv (if decide (0 < d) = true then cmn n d else -cmn n d))), ("d", .int (d.fdiv (if decide (0 < d) = true then cmn n d else -cmn n d)))] = fsQ (Rat.divInt n d) := by
  have e : (if decide (0 < d) = true then cmn n d else -cmn n d) = if 0 < d then (Int.gcd n d : Int) else -(Int.gcd n d : Int) := by
    by_cases h : 0 < d
    · rw [if_pos (decide_eq_true h), if_pos h]; rfl
    · rw [if_neg (by simpa using h), if_neg h]; rfl
  unfold fsQ
  rw [e, q_n n d hd, q_d n d hd]
theorem init_ok {g : Gx} (h : HKL g) (c_i : Fd g "is_integer" 1 (sp_is_integer__v_int g)) (c_c : Fd g "common" 3 (sp_common g)) : ∃ fd, FnOk g.P g.w g.K g.mg g.base CX0 50 (He.fAd g.K ("Ratio", some "__init__")) fd ["self", "n", "d"] (spI g.K (Cq g) sQi) ∧ FunD g.K "__init__" "Ratio.__init__" (defArgs (mt 9 0)) (defBody (mt 9 0)) (defScope (mt 9 0)) [.int 1] [] (He.fAd g.K ("Ratio", some "__init__")) fd := by
  obtain ⟨fd, F⟩ := h.says.def_ 41 rfl
  refine ⟨fd, init_data (N := ["self", "n", "d", "g"]) (wd := g.w) F ⟨rfl, rfl, rfl, by decide +kernel, rfl, by decide +kernel, by decide +kernel⟩ (fun ds w Q hS => ?_) (fun X fr hK hfn hst y ds w Q hS => ?_), F⟩
  · obtain ⟨n, d, rfl, _⟩ := hS; rfl
  · obtain ⟨n, d, rfl, hd, hQ⟩ := hS
    have bi := h.bi
    have dv : Dv X := ⟨by rw [hK]; exact h.c.seer, (congrArg (fun z : Gx => z.P.given.tree) fr.hg).symm.trans h.tree, hst, by rw [fr.hsc]; rfl, by rw [fr.hsc]; rfl⟩
    refine css_if (v := false) (CW.t (cw_orF (ct_not (c := true) (ct_val (ce_call fr c_i (by decide) spG_mon rfl (ca_cons (ce_var fr 1 rfl (by walk_at "vis") rfl) ca_nil) ⟨n, rfl, trivial, rfl, rfl⟩))) (cw_or1 (ct_not (c := true) (ct_val (ce_call fr c_i (by decide) spG_mon rfl (ca_cons (ce_var fr 2 rfl (by walk_at "vis") rfl) ca_nil) ⟨d, rfl, trivial, rfl, rfl⟩)))))) (fun hc => by cases hc) (fun _ => ?_)
    refine css_nil ?_
    refine css_if (ct_cmp (ce_var fr 2 rfl (by walk_at "vis") rfl) ce_int t_eqI rfl) (fun hc => absurd (of_decide_eq_true hc) hd) (fun _ => ?_)
    refine css_nil ?_
    refine css_asg (f := eI) (u := (if decide (0 < d) = true then cmn n d else -cmn n d)) fr 3 rfl (.inl rfl) hfn rfl (t_if (f := eI) (ct_cmp (ce_var fr 2 rfl (by walk_at "vis") rfl) ce_int b2_gt rfl) (fun _ => ce_call fr c_c (by decide) spG_mon rfl (ca_cons (ce_var fr 1 rfl (by walk_at "vis") rfl) (ca_cons (ce_var fr 2 rfl (by walk_at "vis") rfl) ca_nil)) ⟨(n, d), rfl, trivial, rfl, rfl⟩) (fun _ => ce_un (ce_call fr c_c (by decide) spG_mon rfl (ca_cons (ce_var fr 1 rfl (by walk_at "vis") rfl) (ca_cons (ce_var fr 2 rfl (by walk_at "vis") rfl) ca_nil)) ⟨(n, d), rfl, trivial, rfl, rfl⟩) u1_neg)) rfl ?_
    have hg : (if decide (0 < d) = true then cmn n d else -cmn n d) ≠ 0 := by
      have hg : (Int.gcd n d : Int) ≠ 0 := fun e => hd (Int.gcd_eq_zero_iff.mp (by omega : Int.gcd n d = 0)).2
      unfold cmn
      split
      · exact hg
      · omega
    refine css_cons (cs_fld fr (cls_q h) (noN h) 0 rfl (by walk_at "vis") rfl (ce_bin (ce_var fr 1 rfl (by walk_at "vis") rfl) (ce_var fr 3 rfl (by walk_at "vis") rfl) (b2_fdivG fr dv (by decide) hg)) (by decide) ?_)
    refine css_one (cs_fld fr (cls_q h) (noD h) 0 rfl (by walk_at "vis") rfl (ce_bin (ce_var fr 2 rfl (by walk_at "vis") rfl) (ce_var fr 3 rfl (by walk_at "vis") rfl) (b2_fdivG fr dv (by decide) hg)) (Nat.le_of_ble_eq_true rfl) ?_)
    refine ⟨_, rfl, ?_⟩
    have e := fs_of n d hd
    show Q [(("n" : Str), Dat.int (n.fdiv (if decide (0 < d) = true then cmn n d else -cmn n d))), ("d", .int (d.fdiv (if decide (0 < d) = true then cmn n d else -cmn n d)))] w
    rw [e]
    exact hQ
theorem mk_ok {g : Gx} (h : HKL g) (c_i : Fd g "is_integer" 1 (sp_is_integer__v_int g)) (c_c : Fd g "common" 3 (sp_common g)) : Kd g "Ratio" (Cq g) 50 [.int 1] sQi ∧ Kd g "Ratio" (Cq g) 50 [] sQi := by
  obtain ⟨fd, F1, F⟩ := init_ok h c_i c_c
  have M := He.mkr_ok (h.says.fact 67 rfl)
  have gl := h.glo 63 rfl
  obtain ⟨ds, v1, b1⟩ := F.binds1 (ps := ["self", "n", "d"]) 2 0 (by simp) rfl (fun _ _ _ _ _ _ _ us its hu hi => match us, its, hu, hi with | [_, _], [_], _, _ => ⟨_, rfl, rfl⟩)
  obtain ⟨ds2, v2, b2⟩ := F.binds1 (ps := ["self", "n", "d"]) 3 1 (by simp) rfl (fun _ _ _ _ _ _ _ us its hu hi => match us, its, hu, hi with | [_, _, _], [_], _, _ => ⟨_, rfl, rfl⟩)
  exact ⟨⟨_, fd, _, _, ds, M, F1, gl, fun H => .cons (.int 1) .nil, v1, b1⟩, ⟨_, fd, _, _, ds2, M, F1, gl, fun H => .nil, v2, b2⟩⟩
theorem Qz.mm {x y : Rat} (hx : Qz x) (hy : Qz y) : MulOk x.num y.den ∧ MulOk x.num y.num ∧ MulOk (x.den : Int) (y.den : Int) ∧ MulOk (x.den : Int) y.num :=
  ⟨mulOk_of hx.1 (by simpa using hy.2), mulOk_of hx.1 hy.1, mulOk_of (by simpa using hx.2) (by simpa using hy.2), mulOk_of (by simpa using hx.2) hy.1⟩
theorem den_ne (x : Rat) : (x.den : Int) ≠ 0 := by have := x.den_nz; omega
theorem q_add (x y : Rat) : Rat.divInt (x.num * y.den + y.num * x.den) (x.den * y.den) = x + y := by
  rw [Rat.add_def', ← Rat.divInt_ofNat]; rfl
theorem q_sub (x y : Rat) : Rat.divInt (x.num * y.den - y.num * x.den) (x.den * y.den) = x - y := by
  rw [Rat.sub_def', ← Rat.divInt_ofNat]; rfl
theorem q_mul (x y : Rat) : Rat.divInt (x.num * y.num) (x.den * y.den) = x * y := by
  rw [Rat.mul_def', ← Rat.divInt_ofNat]; rfl
theorem q_neg (x : Rat) : Rat.divInt (-x.num) x.den = -x := by
  have e := Rat.num_divInt_den (-x)
  rw [Rat.neg_num, Rat.neg_den] at e
  exact e
theorem q_over (x y : Rat) : Rat.divInt (x.num * y.den) (x.den * y.num) = x / y := by
  rw [← Rat.divInt_mul_divInt, Rat.num_divInt_den, Rat.div_def, ← Rat.inv_divInt, Rat.num_divInt_den]
theorem q_sgn (x : Rat) : b2i (decide (0 < x.num)) - b2i (decide (x.num < 0)) = qsgn x := by
  unfold qsgn
  by_cases h : 0 < x.num
  · rw [Int.sign_eq_one_of_pos h, decide_eq_true h, decide_eq_false (by omega)]; rfl
  · by_cases h2 : x.num < 0
    · rw [Int.sign_eq_neg_one_of_neg h2, decide_eq_false h, decide_eq_true h2]; rfl
    · rw [show x.num = 0 by omega]; rfl
section
variable {g : Gx} (h : HKL g) (c_ck : Fd g "check_ratio" 1 (sp_check_ratio__v_rat g)) (mk : Kd g "Ratio" (Cq g) 50 [] sQi)
include h
include c_ck mk in
theorem m_add : Md g (Cq g) "__add__" 60 (sQ2 g (fun _ _ => True) fun x y => x + y) ∧ Od g (Cq g) "__add__" 60 (sQ2 g (fun _ _ => True) fun x y => x + y) := by
  refine h.meth 42 55 rfl rfl rfl rfl (N := ["self", "other"]) (ps := ["self", "other"]) ⟨rfl, rfl, rfl, by decide +kernel, rfl, by decide +kernel, by decide +kernel⟩ (fun _ _ _ _ _ _ us hl => match us, hl with | [_, _], _ => rfl) (fun ds w Q hS => ?_) (fun X fr hK hfn hst ds w Q hS => ?_)
  · obtain ⟨p, rfl, _⟩ := hS; rfl
  · obtain ⟨⟨x, y⟩, rfl, ⟨⟨hx, hy⟩, hp⟩, hQ⟩ := hS
    obtain ⟨k1, k2, k3, k4⟩ := Qz.mm hx hy
    obtain ⟨j1, j2, j3, j4⟩ := Qz.mm hy hx
    refine css_drop (ce_call fr c_ck (by decide) spG_mon rfl (ca_cons (ce_var (d := eQ (Cq g) y) fr 1 rfl (by walk_at "vis") rfl) ca_nil) ⟨y, rfl, trivial, rfl, rfl⟩) ?_
    have e := q_add x y
    refine css_ret (d := eQ (Cq g) (Rat.divInt (x.num * y.den + y.num * x.den) (x.den * y.den))) (ce_make fr mk (by decide) sQi_mon rfl (ca_cons (ce_bin (ce_bin (ce_fld fr (cls_q h) (noN h) (ce_var fr 0 rfl (by walk_at "vis") rfl) rfl) (ce_fld fr (cls_q h) (noD h) (ce_var fr 1 rfl (by walk_at "vis") rfl) rfl) (b2_mul k1)) (ce_bin (ce_fld fr (cls_q h) (noN h) (ce_var fr 1 rfl (by walk_at "vis") rfl) rfl) (ce_fld fr (cls_q h) (noD h) (ce_var fr 0 rfl (by walk_at "vis") rfl) rfl) (b2_mul j1)) b2_add) (ca_cons (ce_bin (ce_fld fr (cls_q h) (noD h) (ce_var fr 0 rfl (by walk_at "vis") rfl) rfl) (ce_fld fr (cls_q h) (noD h) (ce_var fr 1 rfl (by walk_at "vis") rfl) rfl) (b2_mul k3)) ca_nil)) ⟨_, _, rfl, Int.mul_ne_zero (den_ne x) (den_ne y), rfl, rfl⟩) ?_
    rw [e]
    exact hQ
include c_ck mk in
theorem m_sub : Md g (Cq g) "__sub__" 60 (sQ2 g (fun _ _ => True) fun x y => x - y) ∧ Od g (Cq g) "__sub__" 60 (sQ2 g (fun _ _ => True) fun x y => x - y) := by
  refine h.meth 43 56 rfl rfl rfl rfl (N := ["self", "other"]) (ps := ["self", "other"]) ⟨rfl, rfl, rfl, by decide +kernel, rfl, by decide +kernel, by decide +kernel⟩ (fun _ _ _ _ _ _ us hl => match us, hl with | [_, _], _ => rfl) (fun ds w Q hS => ?_) (fun X fr hK hfn hst ds w Q hS => ?_)
  · obtain ⟨p, rfl, _⟩ := hS; rfl
  · obtain ⟨⟨x, y⟩, rfl, ⟨⟨hx, hy⟩, hp⟩, hQ⟩ := hS
    obtain ⟨k1, k2, k3, k4⟩ := Qz.mm hx hy
    obtain ⟨j1, j2, j3, j4⟩ := Qz.mm hy hx
    refine css_drop (ce_call fr c_ck (by decide) spG_mon rfl (ca_cons (ce_var (d := eQ (Cq g) y) fr 1 rfl (by walk_at "vis") rfl) ca_nil) ⟨y, rfl, trivial, rfl, rfl⟩) ?_
    have e := q_sub x y
    refine css_ret (d := eQ (Cq g) (Rat.divInt (x.num * y.den - y.num * x.den) (x.den * y.den))) (ce_make fr mk (by decide) sQi_mon rfl (ca_cons (ce_bin (ce_bin (ce_fld fr (cls_q h) (noN h) (ce_var fr 0 rfl (by walk_at "vis") rfl) rfl) (ce_fld fr (cls_q h) (noD h) (ce_var fr 1 rfl (by walk_at "vis") rfl) rfl) (b2_mul k1)) (ce_bin (ce_fld fr (cls_q h) (noN h) (ce_var fr 1 rfl (by walk_at "vis") rfl) rfl) (ce_fld fr (cls_q h) (noD h) (ce_var fr 0 rfl (by walk_at "vis") rfl) rfl) (b2_mul j1)) b2_sub) (ca_cons (ce_bin (ce_fld fr (cls_q h) (noD h) (ce_var fr 0 rfl (by walk_at "vis") rfl) rfl) (ce_fld fr (cls_q h) (noD h) (ce_var fr 1 rfl (by walk_at "vis") rfl) rfl) (b2_mul k3)) ca_nil)) ⟨_, _, rfl, Int.mul_ne_zero (den_ne x) (den_ne y), rfl, rfl⟩) ?_
    rw [e]
    exact hQ
include c_ck mk in
theorem m_mul : Md g (Cq g) "__mul__" 60 (sQ2 g (fun _ _ => True) fun x y => x * y) ∧ Od g (Cq g) "__mul__" 60 (sQ2 g (fun _ _ => True) fun x y => x * y) := by
  refine h.meth 44 57 rfl rfl rfl rfl (N := ["self", "other"]) (ps := ["self", "other"]) ⟨rfl, rfl, rfl, by decide +kernel, rfl, by decide +kernel, by decide +kernel⟩ (fun _ _ _ _ _ _ us hl => match us, hl with | [_, _], _ => rfl) (fun ds w Q hS => ?_) (fun X fr hK hfn hst ds w Q hS => ?_)
  · obtain ⟨p, rfl, _⟩ := hS; rfl
  · obtain ⟨⟨x, y⟩, rfl, ⟨⟨hx, hy⟩, hp⟩, hQ⟩ := hS
    obtain ⟨k1, k2, k3, k4⟩ := Qz.mm hx hy
    obtain ⟨j1, j2, j3, j4⟩ := Qz.mm hy hx
    refine css_drop (ce_call fr c_ck (by decide) spG_mon rfl (ca_cons (ce_var (d := eQ (Cq g) y) fr 1 rfl (by walk_at "vis") rfl) ca_nil) ⟨y, rfl, trivial, rfl, rfl⟩) ?_
    have e := q_mul x y
    refine css_ret (d := eQ (Cq g) (Rat.divInt (x.num * y.num) (x.den * y.den))) (ce_make fr mk (by decide) sQi_mon rfl (ca_cons (ce_bin (ce_fld fr (cls_q h) (noN h) (ce_var fr 0 rfl (by walk_at "vis") rfl) rfl) (ce_fld fr (cls_q h) (noN h) (ce_var fr 1 rfl (by walk_at "vis") rfl) rfl) (b2_mul k2)) (ca_cons (ce_bin (ce_fld fr (cls_q h) (noD h) (ce_var fr 0 rfl (by walk_at "vis") rfl) rfl) (ce_fld fr (cls_q h) (noD h) (ce_var fr 1 rfl (by walk_at "vis") rfl) rfl) (b2_mul k3)) ca_nil)) ⟨_, _, rfl, Int.mul_ne_zero (den_ne x) (den_ne y), rfl, rfl⟩) ?_
    rw [e]
    exact hQ
include c_ck mk in
theorem m_over : Md g (Cq g) "over" 60 (sQ2 g (fun _ y => y ≠ 0) fun x y => x / y) ∧ Od g (Cq g) "over" 60 (sQ2 g (fun _ y => y ≠ 0) fun x y => x / y) := by
  refine h.meth 47 60 rfl rfl rfl rfl (N := ["self", "other"]) (ps := ["self", "other"]) ⟨rfl, rfl, rfl, by decide +kernel, rfl, by decide +kernel, by decide +kernel⟩ (fun _ _ _ _ _ _ us hl => match us, hl with | [_, _], _ => rfl) (fun ds w Q hS => ?_) (fun X fr hK hfn hst ds w Q hS => ?_)
  · obtain ⟨p, rfl, _⟩ := hS; rfl
  · obtain ⟨⟨x, y⟩, rfl, ⟨⟨hx, hy⟩, hp⟩, hQ⟩ := hS
    obtain ⟨k1, k2, k3, k4⟩ := Qz.mm hx hy
    obtain ⟨j1, j2, j3, j4⟩ := Qz.mm hy hx
    refine css_drop (ce_call fr c_ck (by decide) spG_mon rfl (ca_cons (ce_var (d := eQ (Cq g) y) fr 1 rfl (by walk_at "vis") rfl) ca_nil) ⟨y, rfl, trivial, rfl, rfl⟩) ?_
    have e := q_over x y
    refine css_ret (d := eQ (Cq g) (Rat.divInt (x.num * y.den) (x.den * y.num))) (ce_make fr mk (by decide) sQi_mon rfl (ca_cons (ce_bin (ce_fld fr (cls_q h) (noN h) (ce_var fr 0 rfl (by walk_at "vis") rfl) rfl) (ce_fld fr (cls_q h) (noD h) (ce_var fr 1 rfl (by walk_at "vis") rfl) rfl) (b2_mul k1)) (ca_cons (ce_bin (ce_fld fr (cls_q h) (noD h) (ce_var fr 0 rfl (by walk_at "vis") rfl) rfl) (ce_fld fr (cls_q h) (noN h) (ce_var fr 1 rfl (by walk_at "vis") rfl) rfl) (b2_mul k4)) ca_nil)) ⟨_, _, rfl, Int.mul_ne_zero (den_ne x) (fun e => hp (Rat.num_eq_zero.mp e)), rfl, rfl⟩) ?_
    rw [e]
    exact hQ
include mk in
theorem m_neg : Md g (Cq g) "__neg__" 60 (sQ1 g fun x => -x) ∧ Od g (Cq g) "__neg__" 60 (sQ1 g fun x => -x) := by
  refine h.meth 45 58 rfl rfl rfl rfl (N := ["self"]) (ps := ["self"]) ⟨rfl, rfl, rfl, by decide +kernel, rfl, by decide +kernel, by decide +kernel⟩ (fun _ _ _ _ _ _ us hl => match us, hl with | [_], _ => rfl) (fun ds w Q hS => ?_) (fun X fr hK hfn hst ds w Q hS => ?_)
  · obtain ⟨p, rfl, _⟩ := hS; rfl
  · obtain ⟨x, rfl, hx, hQ⟩ := hS
    refine css_ret (d := eQ (Cq g) (Rat.divInt (-x.num) x.den)) (ce_make fr mk (by decide) sQi_mon rfl (ca_cons (ce_un (ce_fld fr (cls_q h) (noN h) (ce_var fr 0 rfl (by walk_at "vis") rfl) rfl) u1_neg) (ca_cons (ce_fld fr (cls_q h) (noD h) (ce_var fr 0 rfl (by walk_at "vis") rfl) rfl) ca_nil)) ⟨_, _, rfl, den_ne x, rfl, rfl⟩) ?_
    rw [q_neg]
    exact hQ
theorem m_sign : Md g (Cq g) "sign" 60 (sQs g) ∧ Od g (Cq g) "sign" 60 (sQs g) := by
  refine h.meth 49 62 rfl rfl rfl rfl (N := ["self"]) (ps := ["self"]) ⟨rfl, rfl, rfl, by decide +kernel, rfl, by decide +kernel, by decide +kernel⟩ (fun _ _ _ _ _ _ us hl => match us, hl with | [_], _ => rfl) (fun ds w Q hS => ?_) (fun X fr hK hfn hst ds w Q hS => ?_)
  · obtain ⟨p, rfl, _⟩ := hS; rfl
  · obtain ⟨x, rfl, hx, hQ⟩ := hS
    refine css_ret (ce_bin (ce_cmp (ce_fld fr (cls_q h) (noN h) (ce_var fr 0 rfl (by walk_at "vis") rfl) rfl) ce_int b2_gt rfl) (ce_cmp (ce_fld fr (cls_q h) (noN h) (ce_var fr 0 rfl (by walk_at "vis") rfl) rfl) ce_int b2_lt rfl) b2_subB) ?_
    rw [q_sgn]
    exact hQ
include c_ck in
theorem m_less : Md g (Cq g) "less" 60 (sQl g) := by
  refine (h.meth 48 61 rfl rfl rfl rfl (N := ["self", "other"]) (ps := ["self", "other"]) ⟨rfl, rfl, rfl, by decide +kernel, rfl, by decide +kernel, by decide +kernel⟩ (fun _ _ _ _ _ _ us hl => match us, hl with | [_, _], _ => rfl) (fun ds w Q hS => ?_) (fun X fr hK hfn hst ds w Q hS => ?_)).1
  · obtain ⟨p, rfl, _⟩ := hS; rfl
  · obtain ⟨⟨x, y⟩, rfl, ⟨hx, hy⟩, hQ⟩ := hS
    obtain ⟨k1, k2, k3, k4⟩ := Qz.mm hx hy
    obtain ⟨j1, j2, j3, j4⟩ := Qz.mm hy hx
    refine css_drop (ce_call fr c_ck (by decide) spG_mon rfl (ca_cons (ce_var (d := eQ (Cq g) y) fr 1 rfl (by walk_at "vis") rfl) ca_nil) ⟨y, rfl, trivial, rfl, rfl⟩) ?_
    refine css_ret (d := eB (decide (x.num * y.den < y.num * x.den))) (ce_cmp (ce_bin (ce_fld fr (cls_q h) (noN h) (ce_var fr 0 rfl (by walk_at "vis") rfl) rfl) (ce_fld fr (cls_q h) (noD h) (ce_var fr 1 rfl (by walk_at "vis") rfl) rfl) (b2_mul k1)) (ce_bin (ce_fld fr (cls_q h) (noN h) (ce_var fr 1 rfl (by walk_at "vis") rfl) rfl) (ce_fld fr (cls_q h) (noD h) (ce_var fr 0 rfl (by walk_at "vis") rfl) rfl) (b2_mul j1)) b2_lt rfl) ?_
    have e : decide (x.num * y.den < y.num * x.den) = decide (x < y) := by rw [Bool.eq_iff_iff, decide_eq_true_eq, decide_eq_true_eq, Rat.lt_iff]
    rw [e]
    exact hQ
theorem m_eq : Od g (Cq g) "__eq__" 60 (sQe g) := by
  refine (h.meth 46 59 rfl rfl rfl rfl (N := ["self", "other"]) (ps := ["self", "other"]) ⟨rfl, rfl, rfl, by decide +kernel, rfl, by decide +kernel, by decide +kernel⟩ (fun _ _ _ _ _ _ us hl => match us, hl with | [_, _], _ => rfl) (fun ds w Q hS => ?_) (fun X fr hK hfn hst ds w Q hS => ?_)).2
  · obtain ⟨p, rfl, _⟩ := hS; rfl
  · obtain ⟨⟨x, y⟩, rfl, _, hQ⟩ := hS
    have bi := h.bi
    refine css_ret (d := eB (decide ((x.num, (x.den : Int)) = (y.num, (y.den : Int))))) (ce_andT (ce_isiC (b := true) bi fr rfl rfl (h.glo 63 rfl) (ce_var (d := eQ (Cq g) y) fr 1 rfl (by walk_at "vis") rfl) (.obj h.ic) (kit_same _)) (ce_one (ce_cmp (t_pair (f := eI) (h := eI) (ce_fld fr (cls_q h) (noN h) (ce_var fr 0 rfl (by walk_at "vis") rfl) rfl) (ce_fld fr (cls_q h) (noD h) (ce_var fr 0 rfl (by walk_at "vis") rfl) rfl)) (t_pair (f := eI) (h := eI) (ce_fld fr (cls_q h) (noN h) (ce_var fr 1 rfl (by walk_at "vis") rfl) rfl) (ce_fld fr (cls_q h) (noD h) (ce_var fr 1 rfl (by walk_at "vis") rfl) rfl)) (t_eqP fr (by decide)) rfl))) ?_
    have e : decide ((x.num, (x.den : Int)) = (y.num, (y.den : Int))) = decide (x = y) := by
      rw [Bool.eq_iff_iff, decide_eq_true_eq, decide_eq_true_eq, Prod.mk.injEq]
      exact ⟨fun ⟨a, b⟩ => Rat.ext a (by omega), fun e => by rw [e]; exact ⟨rfl, rfl⟩⟩
    rw [e]
    exact hQ
end
theorem qk {g : Gx} (h : HKL g) (c_i : Fd g "is_integer" 1 (sp_is_integer__v_int g)) (c_c : Fd g "common" 3 (sp_common g)) (c_ck : Fd g "check_ratio" 1 (sp_check_ratio__v_rat g)) : QK g where
  bi := h.bi
  cl := cls_q h
  sf := h.c.sf
  ic := h.ic
  gl := h.glo 63 rfl
  nN := noN h
  nD := noD h
  mk1 := (mk_ok h c_i c_c).1
  mk2 := (mk_ok h c_i c_c).2
  add := (m_add h c_ck (mk_ok h c_i c_c).2).2
  sub := (m_sub h c_ck (mk_ok h c_i c_c).2).2
  mul := (m_mul h c_ck (mk_ok h c_i c_c).2).2
  neg := (m_neg h (mk_ok h c_i c_c).2).2
  eq := ⟨_, ⟨m_eq h, h.c.ne, h.c.hm⟩, spG_mon, fun fs gs ⟨x, hx⟩ ⟨y, hy⟩ w => by
    subst hx
    subst hy
    exact ⟨(x, y), rfl, trivial, congrArg Dat.bl (eqc_of (by rw [decide_eq_true_eq]; exact eQ_inj.symm)), rfl⟩⟩
  over := (m_over h c_ck (mk_ok h c_i c_c).2).1
  less := m_less h c_ck
  sign := (m_sign h).1
end Fw
end

section
namespace Fw
def ofI (k : Int) : Rat := (k : Rat)
def wide (T : List (List Rat)) : Int := if 0 < T.length then ((ix T 0).length : Int) else 0
end Fw
end

section
set_option Elab.async false
set_option linter.all false
set_option maxRecDepth 100000
set_option maxHeartbeats 4000000
namespace Fw
open PySem PySem.Spec PyProof.Rows L2
local macro_rules | `(tactic| walk_at "vis") => `(tactic| first | exact Or.inl rfl | exact Or.inr (Or.inl rfl) | exact Or.inr (Or.inr rfl))
local macro_rules | `(tactic| walk_at "loc") => `(tactic| first | exact Or.inl rfl | exact Or.inr rfl)
local macro_rules | `(tactic| walk_at "or0") => `(tactic| exact Or.inl ⟨rfl, rfl⟩)
local macro_rules | `(tactic| walk_at "or1") => `(tactic| exact Or.inr ⟨rfl, rfl⟩)
local macro_rules | `(tactic| walk_at "or30") => `(tactic| exact Or.inl ⟨rfl, rfl, rfl⟩)
local macro_rules | `(tactic| walk_at "det") => `(tactic| repeat' (first
  | exact det_leaf _ | exact det_false | refine det_if ?_ ?_ | refine det_val fun _ => ?_ | refine det_ok ?_
  | refine det_for0 (fun _ _ => ?_) ?_ | refine det_for1 (fun _ _ _ => ?_) (fun _ => ?_) | refine det_for2 (fun _ _ _ _ => ?_) (fun _ _ => ?_) | refine det_for3 (fun _ _ _ _ _ => ?_) (fun _ _ _ => ?_) | refine det_for4 (fun _ _ _ _ _ _ => ?_) (fun _ _ _ _ => ?_)
  | refine det_whl1 (fun _ => ?_) (fun _ => ?_) | refine det_whl2 (fun _ _ => ?_) (fun _ _ => ?_) | refine det_whl3 (fun _ _ _ => ?_) (fun _ _ _ => ?_) | refine det_whl4 (fun _ _ _ _ => ?_) (fun _ _ _ _ => ?_)
  | refine det_jn0 ?_ ?_ | refine det_jn1 ?_ (fun _ => ?_) | refine det_jn2 ?_ (fun _ _ => ?_) | refine det_jn3 ?_ (fun _ _ _ => ?_) | refine det_jn4 ?_ (fun _ _ _ _ => ?_)))
local macro_rules | `(tactic| walk_at "or31") => `(tactic| exact Or.inr ⟨rfl, rfl, rfl⟩)
abbrev sp_as_ratio__v_int (g : Gx) : DS := spG (fun (p : Int) => [eI p]) (fun p => True) (fun p => ofI p) (eQ (Cq g))
def W_as_ratio__v_int (value_1 : Int) (R : Rat → Prop) : Prop :=
  R ((((value_1 : Int) : Rat) : Rat))
abbrev Hw_as_ratio__v_int : Prop := ∀ (value_1 : Int), W_as_ratio__v_int value_1 (fun r => r = ofI value_1)
def W_are_ratios (value_1 : (List Rat)) (R : Bool → Prop) : Prop :=
  LmOk value_1.length ∧ R ((((value_1.map fun own_2 => true)).all id))
theorem det_are_ratios (value_1 : (List Rat)) : Det fun R => W_are_ratios value_1 R := by unfold W_are_ratios; walk_at "det"
def p_are_ratios_pre (value_1 : (List Rat)) : Prop := W_are_ratios value_1 fun r => r = true
abbrev sp_are_ratios (g : Gx) : DS := spG (fun (p : (List Rat)) => [(eT (eQ (Cq g))) p]) (fun p => p_are_ratios_pre p) (fun p => true) eB
abbrev Hw_are_ratios : Prop := ∀ (value_1 : (List Rat)), p_are_ratios_pre value_1 → W_are_ratios value_1 (fun r => r = true)
theorem ok_are_ratios : Hw_are_ratios := fun value_1 h => h
def W_ratio_sum (values_1 : (List Rat)) (R : Rat → Prop) : Prop :=
  ∀ found_2, found_2 = ((((0 : Int) : Int) : Rat) : Rat) → for1 values_1 found_2 (fun (i_7 : Nat) (own_6 : Rat) (found_4 : Rat) N_8 => (Qz found_4 ∧ Qz own_6) ∧ ∀ found_10, found_10 = (found_4 + own_6) → N_8 found_10) (fun (found_4 : Rat) => R found_4)
theorem det_ratio_sum (values_1 : (List Rat)) : Det fun R => W_ratio_sum values_1 R := by unfold W_ratio_sum; walk_at "det"
noncomputable def p_ratio_sum (values_1 : (List Rat)) : Rat := run fun R => W_ratio_sum values_1 R
def p_ratio_sum_pre (values_1 : (List Rat)) : Prop := W_ratio_sum values_1 fun _ => True
theorem of_ratio_sum {R : Rat → Prop} (values_1 : (List Rat)) (h : W_ratio_sum values_1 R) : p_ratio_sum_pre values_1 ∧ R (p_ratio_sum values_1) := ⟨((run_of (det_ratio_sum values_1) h).2 _).mpr trivial, (run_of (det_ratio_sum values_1) h).1⟩
abbrev sp_ratio_sum (g : Gx) : DS := spG (fun (p : (List Rat)) => [(eL (eQ (Cq g))) p]) (fun p => p_ratio_sum_pre p) (fun p => p_ratio_sum p) (eQ (Cq g))
abbrev Hw_ratio_sum : Prop := ∀ (values_1 : (List Rat)), p_ratio_sum_pre values_1 → W_ratio_sum values_1 (fun r => r = p_ratio_sum values_1)
theorem ok_ratio_sum : Hw_ratio_sum := fun values_1 h => ((run_of (det_ratio_sum values_1) h).2 _).mpr rfl
def W_ratio_dot (one_1 : (List Rat)) (two_2 : (List Rat)) (R : Rat → Prop) : Prop :=
  LmOk ((one_1.zip two_2)).length ∧ (∀ p_3 ∈ (one_1.zip two_2), (Qz p_3.1 ∧ Qz p_3.2)) ∧ p_ratio_sum_pre ((((one_1.zip two_2)).map fun p_3 => (p_3.1 * p_3.2))) ∧ R ((p_ratio_sum ((((one_1.zip two_2)).map fun p_3 => (p_3.1 * p_3.2)))))
theorem det_ratio_dot (one_1 : (List Rat)) (two_2 : (List Rat)) : Det fun R => W_ratio_dot one_1 two_2 R := by unfold W_ratio_dot; walk_at "det"
noncomputable def p_ratio_dot (one_1 : (List Rat)) (two_2 : (List Rat)) : Rat := run fun R => W_ratio_dot one_1 two_2 R
def p_ratio_dot_pre (one_1 : (List Rat)) (two_2 : (List Rat)) : Prop := W_ratio_dot one_1 two_2 fun _ => True
theorem of_ratio_dot {R : Rat → Prop} (one_1 : (List Rat)) (two_2 : (List Rat)) (h : W_ratio_dot one_1 two_2 R) : p_ratio_dot_pre one_1 two_2 ∧ R (p_ratio_dot one_1 two_2) := ⟨((run_of (det_ratio_dot one_1 two_2) h).2 _).mpr trivial, (run_of (det_ratio_dot one_1 two_2) h).1⟩
abbrev sp_ratio_dot (g : Gx) : DS := spG (fun (p : (List Rat) × (List Rat)) => [(eT (eQ (Cq g))) p.1, (eT (eQ (Cq g))) p.2]) (fun p => p_ratio_dot_pre p.1 p.2) (fun p => p_ratio_dot p.1 p.2) (eQ (Cq g))
abbrev Hw_ratio_dot : Prop := ∀ (one_1 : (List Rat)) (two_2 : (List Rat)), p_ratio_dot_pre one_1 two_2 → W_ratio_dot one_1 two_2 (fun r => r = p_ratio_dot one_1 two_2)
theorem ok_ratio_dot : Hw_ratio_dot := fun one_1 two_2 h => ((run_of (det_ratio_dot one_1 two_2) h).2 _).mpr rfl
def W_is_table (value_1 : (List (List Rat))) (R : Bool → Prop) : Prop :=
  ((decide ((400 : Int) < (value_1.length : Int))) = false → LmOk value_1.length ∧ (∀ row_2 ∈ value_1, p_are_ratios_pre row_2)) ∧ (((decide ((400 : Int) < (value_1.length : Int))) || (!(((value_1.map fun row_2 => true)).all id))) = true → R false) ∧ (((decide ((400 : Int) < (value_1.length : Int))) || (!(((value_1.map fun row_2 => true)).all id))) = false → LmOk value_1.length ∧ (∀ row_5 ∈ value_1, IxOk value_1 ((0 : Int))) ∧ R ((((value_1.map fun row_5 => ((decide ((row_5.length : Int) = (((ix value_1 ((0 : Int)))).length : Int))) && (decide ((row_5.length : Int) ≤ (400 : Int)))))).all id)))
theorem det_is_table (value_1 : (List (List Rat))) : Det fun R => W_is_table value_1 R := by unfold W_is_table; walk_at "det"
def p_is_table_pre (value_1 : (List (List Rat))) : Prop := W_is_table value_1 fun r => r = true
abbrev sp_is_table (g : Gx) : DS := spG (fun (p : (List (List Rat))) => [(eT (eT (eQ (Cq g)))) p]) (fun p => p_is_table_pre p) (fun p => true) eB
abbrev Hw_is_table : Prop := ∀ (value_1 : (List (List Rat))), p_is_table_pre value_1 → W_is_table value_1 (fun r => r = true)
theorem ok_is_table : Hw_is_table := fun value_1 h => h
def W_check_table (value_1 : (List (List Rat))) (R : Unit → Prop) : Prop :=
  p_is_table_pre value_1 ∧ R ()
theorem det_check_table (value_1 : (List (List Rat))) : Det fun R => W_check_table value_1 R := by unfold W_check_table; walk_at "det"
def p_check_table_pre (value_1 : (List (List Rat))) : Prop := W_check_table value_1 fun r => r = ()
abbrev sp_check_table (g : Gx) : DS := spG (fun (p : (List (List Rat))) => [(eT (eT (eQ (Cq g)))) p]) (fun p => p_check_table_pre p) (fun p => ()) eN
abbrev Hw_check_table : Prop := ∀ (value_1 : (List (List Rat))), p_check_table_pre value_1 → W_check_table value_1 (fun r => r = ())
theorem ok_check_table : Hw_check_table := fun value_1 h => h
abbrev sp_wide_of (g : Gx) : DS := spG (fun (p : (List (List Rat))) => [(eT (eT (eQ (Cq g)))) p]) (fun p => True) (fun p => wide p) eI
def W_wide_of (table_1 : (List (List Rat))) (R : Int → Prop) : Prop :=
  ((decide ((0 : Int) < (table_1.length : Int))) = true → IxOk table_1 ((0 : Int))) ∧ R ((if (decide ((0 : Int) < (table_1.length : Int))) = true then (((ix table_1 ((0 : Int)))).length : Int) else (0 : Int)))
abbrev Hw_wide_of : Prop := ∀ (table_1 : (List (List Rat))), W_wide_of table_1 (fun r => r = wide table_1)
def W_unit_table (n_1 : Int) (R : (List (List Rat)) → Prop) : Prop :=
  RgOk n_1 ∧ LmOk ((irng 0 n_1)).length ∧ (∀ i_2 ∈ (irng 0 n_1), RgOk n_1 ∧ LmOk ((irng 0 n_1)).length) ∧ R ((((irng 0 n_1)).map fun i_2 => (((irng 0 n_1)).map fun j_4 => ((((if (decide (i_2 = j_4)) = true then (1 : Int) else 0) : Int) : Rat) : Rat))))
theorem det_unit_table (n_1 : Int) : Det fun R => W_unit_table n_1 R := by unfold W_unit_table; walk_at "det"
noncomputable def p_unit_table (n_1 : Int) : (List (List Rat)) := run fun R => W_unit_table n_1 R
def p_unit_table_pre (n_1 : Int) : Prop := W_unit_table n_1 fun _ => True
theorem of_unit_table {R : (List (List Rat)) → Prop} (n_1 : Int) (h : W_unit_table n_1 R) : p_unit_table_pre n_1 ∧ R (p_unit_table n_1) := ⟨((run_of (det_unit_table n_1) h).2 _).mpr trivial, (run_of (det_unit_table n_1) h).1⟩
abbrev sp_unit_table (g : Gx) : DS := spG (fun (p : Int) => [eI p]) (fun p => p_unit_table_pre p) (fun p => p_unit_table p) (eT (eT (eQ (Cq g))))
abbrev Hw_unit_table : Prop := ∀ (n_1 : Int), p_unit_table_pre n_1 → W_unit_table n_1 (fun r => r = p_unit_table n_1)
theorem ok_unit_table : Hw_unit_table := fun n_1 h => ((run_of (det_unit_table n_1) h).2 _).mpr rfl
def W_turned (table_1 : (List (List Rat))) (R : (List (List Rat)) → Prop) : Prop :=
  p_check_table_pre table_1 ∧ RgOk ((wide table_1)) ∧ LmOk ((irng 0 ((wide table_1)))).length ∧ (∀ k_3 ∈ (irng 0 ((wide table_1))), LmOk table_1.length ∧ (∀ row_5 ∈ table_1, IxOk row_5 k_3)) ∧ R ((((irng 0 ((wide table_1)))).map fun k_3 => (table_1.map fun row_5 => (ix row_5 k_3))))
theorem det_turned (table_1 : (List (List Rat))) : Det fun R => W_turned table_1 R := by unfold W_turned; walk_at "det"
noncomputable def p_turned (table_1 : (List (List Rat))) : (List (List Rat)) := run fun R => W_turned table_1 R
def p_turned_pre (table_1 : (List (List Rat))) : Prop := W_turned table_1 fun _ => True
theorem of_turned {R : (List (List Rat)) → Prop} (table_1 : (List (List Rat))) (h : W_turned table_1 R) : p_turned_pre table_1 ∧ R (p_turned table_1) := ⟨((run_of (det_turned table_1) h).2 _).mpr trivial, (run_of (det_turned table_1) h).1⟩
abbrev sp_turned (g : Gx) : DS := spG (fun (p : (List (List Rat))) => [(eT (eT (eQ (Cq g)))) p]) (fun p => p_turned_pre p) (fun p => p_turned p) (eT (eT (eQ (Cq g))))
abbrev Hw_turned : Prop := ∀ (table_1 : (List (List Rat))), p_turned_pre table_1 → W_turned table_1 (fun r => r = p_turned table_1)
theorem ok_turned : Hw_turned := fun table_1 h => ((run_of (det_turned table_1) h).2 _).mpr rfl
def W_table_times (one_1 : (List (List Rat))) (two_2 : (List (List Rat))) (R : (List (List Rat)) → Prop) : Prop :=
  p_check_table_pre one_1 ∧ p_check_table_pre two_2 ∧ ((decide ((wide one_1) ≠ (two_2.length : Int))) = true → False) ∧ ((decide ((wide one_1) ≠ (two_2.length : Int))) = false → p_turned_pre two_2 ∧ ∀ columns_6, columns_6 = (p_turned two_2) → LmOk one_1.length ∧ (∀ row_8 ∈ one_1, LmOk columns_6.length ∧ (∀ column_10 ∈ columns_6, p_ratio_dot_pre row_8 column_10)) ∧ R ((one_1.map fun row_8 => (columns_6.map fun column_10 => (p_ratio_dot row_8 column_10)))))
theorem det_table_times (one_1 : (List (List Rat))) (two_2 : (List (List Rat))) : Det fun R => W_table_times one_1 two_2 R := by unfold W_table_times; walk_at "det"
noncomputable def p_table_times (one_1 : (List (List Rat))) (two_2 : (List (List Rat))) : (List (List Rat)) := run fun R => W_table_times one_1 two_2 R
def p_table_times_pre (one_1 : (List (List Rat))) (two_2 : (List (List Rat))) : Prop := W_table_times one_1 two_2 fun _ => True
theorem of_table_times {R : (List (List Rat)) → Prop} (one_1 : (List (List Rat))) (two_2 : (List (List Rat))) (h : W_table_times one_1 two_2 R) : p_table_times_pre one_1 two_2 ∧ R (p_table_times one_1 two_2) := ⟨((run_of (det_table_times one_1 two_2) h).2 _).mpr trivial, (run_of (det_table_times one_1 two_2) h).1⟩
abbrev sp_table_times (g : Gx) : DS := spG (fun (p : (List (List Rat)) × (List (List Rat))) => [(eT (eT (eQ (Cq g)))) p.1, (eT (eT (eQ (Cq g)))) p.2]) (fun p => p_table_times_pre p.1 p.2) (fun p => p_table_times p.1 p.2) (eT (eT (eQ (Cq g))))
abbrev Hw_table_times : Prop := ∀ (one_1 : (List (List Rat))) (two_2 : (List (List Rat))), p_table_times_pre one_1 two_2 → W_table_times one_1 two_2 (fun r => r = p_table_times one_1 two_2)
theorem ok_table_times : Hw_table_times := fun one_1 two_2 h => ((run_of (det_table_times one_1 two_2) h).2 _).mpr rfl
def W_table_plus (one_1 : (List (List Rat))) (two_2 : (List (List Rat))) (k_3 : Int) (R : (List (List Rat)) → Prop) : Prop :=
  p_check_table_pre one_1 ∧ p_check_table_pre two_2 ∧ (((decide ((one_1.length : Int) ≠ (two_2.length : Int))) || (decide ((wide one_1) ≠ (wide two_2)))) = true → False) ∧ (((decide ((one_1.length : Int) ≠ (two_2.length : Int))) || (decide ((wide one_1) ≠ (wide two_2)))) = false → ∀ many_6, many_6 = (ofI k_3) → LmOk ((one_1.zip two_2)).length ∧ (∀ p_8 ∈ (one_1.zip two_2), LmOk ((p_8.1.zip p_8.2)).length ∧ (∀ p_10 ∈ (p_8.1.zip p_8.2), (Qz many_6 ∧ Qz p_10.2) ∧ (Qz p_10.1 ∧ Qz ((many_6 * p_10.2))))) ∧ R ((((one_1.zip two_2)).map fun p_8 => (((p_8.1.zip p_8.2)).map fun p_10 => (p_10.1 + (many_6 * p_10.2))))))
theorem det_table_plus (one_1 : (List (List Rat))) (two_2 : (List (List Rat))) (k_3 : Int) : Det fun R => W_table_plus one_1 two_2 k_3 R := by unfold W_table_plus; walk_at "det"
noncomputable def p_table_plus (one_1 : (List (List Rat))) (two_2 : (List (List Rat))) (k_3 : Int) : (List (List Rat)) := run fun R => W_table_plus one_1 two_2 k_3 R
def p_table_plus_pre (one_1 : (List (List Rat))) (two_2 : (List (List Rat))) (k_3 : Int) : Prop := W_table_plus one_1 two_2 k_3 fun _ => True
theorem of_table_plus {R : (List (List Rat)) → Prop} (one_1 : (List (List Rat))) (two_2 : (List (List Rat))) (k_3 : Int) (h : W_table_plus one_1 two_2 k_3 R) : p_table_plus_pre one_1 two_2 k_3 ∧ R (p_table_plus one_1 two_2 k_3) := ⟨((run_of (det_table_plus one_1 two_2 k_3) h).2 _).mpr trivial, (run_of (det_table_plus one_1 two_2 k_3) h).1⟩
abbrev sp_table_plus (g : Gx) : DS := spG (fun (p : (List (List Rat)) × (List (List Rat)) × Int) => [(eT (eT (eQ (Cq g)))) p.1, (eT (eT (eQ (Cq g)))) p.2.1, eI p.2.2]) (fun p => p_table_plus_pre p.1 p.2.1 p.2.2) (fun p => p_table_plus p.1 p.2.1 p.2.2) (eT (eT (eQ (Cq g))))
abbrev Hw_table_plus : Prop := ∀ (one_1 : (List (List Rat))) (two_2 : (List (List Rat))) (k_3 : Int), p_table_plus_pre one_1 two_2 k_3 → W_table_plus one_1 two_2 k_3 (fun r => r = p_table_plus one_1 two_2 k_3)
theorem ok_table_plus : Hw_table_plus := fun one_1 two_2 k_3 h => ((run_of (det_table_plus one_1 two_2 k_3) h).2 _).mpr rfl
def W_less_row (row_1 : (List Rat)) (lead_2 : (List Rat)) (many_3 : Rat) (R : (List Rat) → Prop) : Prop :=
  LmOk ((row_1.zip lead_2)).length ∧ (∀ p_4 ∈ (row_1.zip lead_2), ((decide ((qsgn p_4.2) ≠ (0 : Int))) = true → (Qz many_3 ∧ Qz p_4.2) ∧ (Qz p_4.1 ∧ Qz ((many_3 * p_4.2))))) ∧ R ((((row_1.zip lead_2)).map fun p_4 => (if (decide ((qsgn p_4.2) ≠ (0 : Int))) = true then (p_4.1 - (many_3 * p_4.2)) else p_4.1)))
theorem det_less_row (row_1 : (List Rat)) (lead_2 : (List Rat)) (many_3 : Rat) : Det fun R => W_less_row row_1 lead_2 many_3 R := by unfold W_less_row; walk_at "det"
noncomputable def p_less_row (row_1 : (List Rat)) (lead_2 : (List Rat)) (many_3 : Rat) : (List Rat) := run fun R => W_less_row row_1 lead_2 many_3 R
def p_less_row_pre (row_1 : (List Rat)) (lead_2 : (List Rat)) (many_3 : Rat) : Prop := W_less_row row_1 lead_2 many_3 fun _ => True
theorem of_less_row {R : (List Rat) → Prop} (row_1 : (List Rat)) (lead_2 : (List Rat)) (many_3 : Rat) (h : W_less_row row_1 lead_2 many_3 R) : p_less_row_pre row_1 lead_2 many_3 ∧ R (p_less_row row_1 lead_2 many_3) := ⟨((run_of (det_less_row row_1 lead_2 many_3) h).2 _).mpr trivial, (run_of (det_less_row row_1 lead_2 many_3) h).1⟩
abbrev sp_less_row (g : Gx) : DS := spG (fun (p : (List Rat) × (List Rat) × Rat) => [(eL (eQ (Cq g))) p.1, (eL (eQ (Cq g))) p.2.1, (eQ (Cq g)) p.2.2]) (fun p => p_less_row_pre p.1 p.2.1 p.2.2) (fun p => p_less_row p.1 p.2.1 p.2.2) (eL (eQ (Cq g)))
abbrev Hw_less_row : Prop := ∀ (row_1 : (List Rat)) (lead_2 : (List Rat)) (many_3 : Rat), p_less_row_pre row_1 lead_2 many_3 → W_less_row row_1 lead_2 many_3 (fun r => r = p_less_row row_1 lead_2 many_3)
theorem ok_less_row : Hw_less_row := fun row_1 lead_2 many_3 h => ((run_of (det_less_row row_1 lead_2 many_3) h).2 _).mpr rfl
def W_echelon (table_1 : (List (List Rat))) (R : ((List (List Rat)) × (List Int)) → Prop) : Prop :=
  p_check_table_pre table_1 ∧ LmOk table_1.length ∧ ∀ rows_6, rows_6 = (table_1.map fun row_3 => row_3) → ∀ places_8, places_8 = ([] : (List Int)) → RgOk ((wide table_1)) ∧ for2 ((irng 0 ((wide table_1)))) rows_6 places_8 (fun (i_17 : Nat) (k_16 : Int) (rows_13 : (List (List Rat))) (places_14 : (List Int)) N_18 => RgOk2 ((places_14.length : Int)) ((rows_13.length : Int)) ∧ LmOk ((irng ((places_14.length : Int)) ((rows_13.length : Int)))).length ∧ (∀ i_19 ∈ (irng ((places_14.length : Int)) ((rows_13.length : Int))), IxOk rows_13 i_19 ∧ IxOk ((ix rows_13 i_19)) k_16) ∧ ∀ at_24, at_24 = ((((irng ((places_14.length : Int)) ((rows_13.length : Int)))).filter fun i_19 => (decide ((qsgn ((ix ((ix rows_13 i_19)) k_16))) ≠ (0 : Int)))).map fun i_19 => i_19) → ((decide ((0 : Int) < (at_24.length : Int))) = true → ∀ top_30, top_30 = (places_14.length : Int) → IxOk at_24 ((0 : Int)) ∧ IxOk rows_13 ((ix at_24 ((0 : Int)))) ∧ IxOk rows_13 top_30 ∧ IxOk at_24 ((0 : Int)) ∧ IxOk rows_13 top_30 ∧ IxOk rows_13 ((ix at_24 ((0 : Int)))) ∧ ∀ rows_38, rows_38 = (setI (setI rows_13 top_30 ((ix rows_13 ((ix at_24 ((0 : Int))))))) ((ix at_24 ((0 : Int)))) ((ix rows_13 top_30))) → IxOk rows_38 top_30 ∧ IxOk ((ix rows_38 top_30)) k_16 ∧ ∀ lead_42, lead_42 = (ix ((ix rows_38 top_30)) k_16) → IxOk rows_38 top_30 ∧ LmOk ((ix rows_38 top_30)).length ∧ (∀ x_44 ∈ (ix rows_38 top_30), ((Qz x_44 ∧ Qz lead_42) ∧ lead_42 ≠ 0)) ∧ IxOk rows_38 top_30 ∧ ∀ rows_50, rows_50 = (setI rows_38 top_30 ((((ix rows_38 top_30)).map fun x_44 => (x_44 / lead_42)))) → RgOk ((rows_50.length : Int)) ∧ for1 ((irng 0 ((rows_50.length : Int)))) rows_50 (fun (i_59 : Nat) (i_58 : Int) (rows_56 : (List (List Rat))) N_60 => ((decide (i_58 ≠ top_30)) = true → IxOk rows_56 i_58 ∧ IxOk ((ix rows_56 i_58)) k_16) ∧ (((decide (i_58 ≠ top_30)) && (decide ((qsgn ((ix ((ix rows_56 i_58)) k_16))) ≠ (0 : Int)))) = true → IxOk rows_56 i_58 ∧ IxOk rows_56 top_30 ∧ IxOk rows_56 i_58 ∧ IxOk ((ix rows_56 i_58)) k_16 ∧ p_less_row_pre ((ix rows_56 i_58)) ((ix rows_56 top_30)) ((ix ((ix rows_56 i_58)) k_16)) ∧ IxOk rows_56 i_58 ∧ ∀ rows_68, rows_68 = (setI rows_56 i_58 ((p_less_row ((ix rows_56 i_58)) ((ix rows_56 top_30)) ((ix ((ix rows_56 i_58)) k_16))))) → N_60 rows_68) ∧ (((decide (i_58 ≠ top_30)) && (decide ((qsgn ((ix ((ix rows_56 i_58)) k_16))) ≠ (0 : Int)))) = false → N_60 rows_56)) (fun (rows_56 : (List (List Rat))) => places_14.length < LM ∧ ∀ places_75, places_75 = (places_14 ++ [k_16]) → N_18 (rows_56, places_75))) ∧ ((decide ((0 : Int) < (at_24.length : Int))) = false → N_18 (rows_13, places_14))) (fun (rows_13 : (List (List Rat))) (places_14 : (List Int)) => LmOk ((cutL rows_13 none (some (places_14.length : Int)))).length ∧ R (((((cutL rows_13 none (some (places_14.length : Int)))).map fun row_84 => row_84), places_14)))
theorem det_echelon (table_1 : (List (List Rat))) : Det fun R => W_echelon table_1 R := by unfold W_echelon; walk_at "det"
noncomputable def p_echelon (table_1 : (List (List Rat))) : ((List (List Rat)) × (List Int)) := run fun R => W_echelon table_1 R
def p_echelon_pre (table_1 : (List (List Rat))) : Prop := W_echelon table_1 fun _ => True
theorem of_echelon {R : ((List (List Rat)) × (List Int)) → Prop} (table_1 : (List (List Rat))) (h : W_echelon table_1 R) : p_echelon_pre table_1 ∧ R (p_echelon table_1) := ⟨((run_of (det_echelon table_1) h).2 _).mpr trivial, (run_of (det_echelon table_1) h).1⟩
abbrev sp_echelon (g : Gx) : DS := spG (fun (p : (List (List Rat))) => [(eT (eT (eQ (Cq g)))) p]) (fun p => p_echelon_pre p) (fun p => p_echelon p) (eP (eT (eT (eQ (Cq g)))) (eT eI))
abbrev Hw_echelon : Prop := ∀ (table_1 : (List (List Rat))), p_echelon_pre table_1 → W_echelon table_1 (fun r => r = p_echelon table_1)
theorem ok_echelon : Hw_echelon := fun table_1 h => ((run_of (det_echelon table_1) h).2 _).mpr rfl
def W_table_rank (table_1 : (List (List Rat))) (R : Int → Prop) : Prop :=
  p_echelon_pre table_1 ∧ R (((((p_echelon table_1)).2).length : Int))
theorem det_table_rank (table_1 : (List (List Rat))) : Det fun R => W_table_rank table_1 R := by unfold W_table_rank; walk_at "det"
noncomputable def p_table_rank (table_1 : (List (List Rat))) : Int := run fun R => W_table_rank table_1 R
def p_table_rank_pre (table_1 : (List (List Rat))) : Prop := W_table_rank table_1 fun _ => True
theorem of_table_rank {R : Int → Prop} (table_1 : (List (List Rat))) (h : W_table_rank table_1 R) : p_table_rank_pre table_1 ∧ R (p_table_rank table_1) := ⟨((run_of (det_table_rank table_1) h).2 _).mpr trivial, (run_of (det_table_rank table_1) h).1⟩
abbrev sp_table_rank (g : Gx) : DS := spG (fun (p : (List (List Rat))) => [(eT (eT (eQ (Cq g)))) p]) (fun p => p_table_rank_pre p) (fun p => p_table_rank p) eI
abbrev Hw_table_rank : Prop := ∀ (table_1 : (List (List Rat))), p_table_rank_pre table_1 → W_table_rank table_1 (fun r => r = p_table_rank table_1)
theorem ok_table_rank : Hw_table_rank := fun table_1 h => ((run_of (det_table_rank table_1) h).2 _).mpr rfl
def W_check_square (table_1 : (List (List Rat))) (R : Unit → Prop) : Prop :=
  p_check_table_pre table_1 ∧ ((decide ((table_1.length : Int) ≠ (wide table_1))) = true → False) ∧ ((decide ((table_1.length : Int) ≠ (wide table_1))) = false → R ())
theorem det_check_square (table_1 : (List (List Rat))) : Det fun R => W_check_square table_1 R := by unfold W_check_square; walk_at "det"
def p_check_square_pre (table_1 : (List (List Rat))) : Prop := W_check_square table_1 fun r => r = ()
abbrev sp_check_square (g : Gx) : DS := spG (fun (p : (List (List Rat))) => [(eT (eT (eQ (Cq g)))) p]) (fun p => p_check_square_pre p) (fun p => ()) eN
abbrev Hw_check_square : Prop := ∀ (table_1 : (List (List Rat))), p_check_square_pre table_1 → W_check_square table_1 (fun r => r = ())
theorem ok_check_square : Hw_check_square := fun table_1 h => h
def W_inverse (table_1 : (List (List Rat))) (R : (List (List Rat)) → Prop) : Prop :=
  p_check_square_pre table_1 ∧ ∀ n_3, n_3 = (table_1.length : Int) → p_unit_table_pre n_3 ∧ LmOk ((table_1.zip ((p_unit_table n_3)))).length ∧ (∀ p_5 ∈ (table_1.zip ((p_unit_table n_3))), p_5.1.length + p_5.2.length ≤ LM) ∧ p_echelon_pre ((((table_1.zip ((p_unit_table n_3)))).map fun p_5 => (p_5.1 ++ p_5.2))) ∧ ∀ rows_11, rows_11 = ((p_echelon ((((table_1.zip ((p_unit_table n_3)))).map fun p_5 => (p_5.1 ++ p_5.2))))).1 → ∀ places_13, places_13 = ((p_echelon ((((table_1.zip ((p_unit_table n_3)))).map fun p_5 => (p_5.1 ++ p_5.2))))).2 → RgOk n_3 ∧ ((decide (places_13 ≠ (irng 0 n_3))) = true → False) ∧ ((decide (places_13 ≠ (irng 0 n_3))) = false → LmOk rows_11.length ∧ R ((rows_11.map fun row_19 => (cutL row_19 (some n_3) none))))
theorem det_inverse (table_1 : (List (List Rat))) : Det fun R => W_inverse table_1 R := by unfold W_inverse; walk_at "det"
noncomputable def p_inverse (table_1 : (List (List Rat))) : (List (List Rat)) := run fun R => W_inverse table_1 R
def p_inverse_pre (table_1 : (List (List Rat))) : Prop := W_inverse table_1 fun _ => True
theorem of_inverse {R : (List (List Rat)) → Prop} (table_1 : (List (List Rat))) (h : W_inverse table_1 R) : p_inverse_pre table_1 ∧ R (p_inverse table_1) := ⟨((run_of (det_inverse table_1) h).2 _).mpr trivial, (run_of (det_inverse table_1) h).1⟩
abbrev sp_inverse (g : Gx) : DS := spG (fun (p : (List (List Rat))) => [(eT (eT (eQ (Cq g)))) p]) (fun p => p_inverse_pre p) (fun p => p_inverse p) (eT (eT (eQ (Cq g))))
abbrev Hw_inverse : Prop := ∀ (table_1 : (List (List Rat))), p_inverse_pre table_1 → W_inverse table_1 (fun r => r = p_inverse table_1)
theorem ok_inverse : Hw_inverse := fun table_1 h => ((run_of (det_inverse table_1) h).2 _).mpr rfl
def W_determinant (table_1 : (List (List Rat))) (R : Rat → Prop) : Prop :=
  p_check_square_pre table_1 ∧ LmOk table_1.length ∧ ∀ rows_6, rows_6 = (table_1.map fun row_3 => row_3) → ∀ found_8, found_8 = ((((1 : Int) : Int) : Rat) : Rat) → RgOk ((rows_6.length : Int)) ∧ for2 ((irng 0 ((rows_6.length : Int)))) rows_6 found_8 (fun (i_17 : Nat) (k_16 : Int) (rows_13 : (List (List Rat))) (found_14 : Rat) N_18 => RgOk2 k_16 ((rows_13.length : Int)) ∧ LmOk ((irng k_16 ((rows_13.length : Int)))).length ∧ (∀ i_19 ∈ (irng k_16 ((rows_13.length : Int))), IxOk rows_13 i_19 ∧ IxOk ((ix rows_13 i_19)) k_16) ∧ ∀ at_24, at_24 = ((((irng k_16 ((rows_13.length : Int)))).filter fun i_19 => (decide ((qsgn ((ix ((ix rows_13 i_19)) k_16))) ≠ (0 : Int)))).map fun i_19 => i_19) → ((decide ((at_24.length : Int) = (0 : Int))) = true → R (((((0 : Int) : Int) : Rat) : Rat))) ∧ ((decide ((at_24.length : Int) = (0 : Int))) = false → IxOk at_24 ((0 : Int)) ∧ jn2 (fun K_60 => ((decide ((ix at_24 ((0 : Int))) ≠ k_16)) = true → IxOk at_24 ((0 : Int)) ∧ IxOk rows_13 ((ix at_24 ((0 : Int)))) ∧ IxOk rows_13 k_16 ∧ Qz found_14 ∧ IxOk at_24 ((0 : Int)) ∧ IxOk rows_13 k_16 ∧ IxOk rows_13 ((ix at_24 ((0 : Int)))) ∧ ∀ rows_71, rows_71 = (setI (setI rows_13 k_16 ((ix rows_13 ((ix at_24 ((0 : Int))))))) ((ix at_24 ((0 : Int)))) ((ix rows_13 k_16))) → ∀ found_73, found_73 = (-found_14) → K_60 (rows_71, found_73)) ∧ ((decide ((ix at_24 ((0 : Int))) ≠ k_16)) = false → K_60 (rows_13, found_14))) (fun (rows_31 : (List (List Rat))) (found_32 : Rat) => IxOk rows_31 k_16 ∧ IxOk ((ix rows_31 k_16)) k_16 ∧ (Qz found_32 ∧ Qz ((ix ((ix rows_31 k_16)) k_16))) ∧ ∀ found_36, found_36 = (found_32 * (ix ((ix rows_31 k_16)) k_16)) → RgOk2 ((k_16 + (1 : Int))) ((rows_31.length : Int)) ∧ for1 ((irng ((k_16 + (1 : Int))) ((rows_31.length : Int)))) rows_31 (fun (i_42 : Nat) (i_41 : Int) (rows_39 : (List (List Rat))) N_43 => IxOk rows_39 i_41 ∧ IxOk rows_39 k_16 ∧ IxOk rows_39 i_41 ∧ IxOk ((ix rows_39 i_41)) k_16 ∧ IxOk rows_39 k_16 ∧ IxOk ((ix rows_39 k_16)) k_16 ∧ ((Qz ((ix ((ix rows_39 i_41)) k_16)) ∧ Qz ((ix ((ix rows_39 k_16)) k_16))) ∧ (ix ((ix rows_39 k_16)) k_16) ≠ 0) ∧ p_less_row_pre ((ix rows_39 i_41)) ((ix rows_39 k_16)) (((ix ((ix rows_39 i_41)) k_16) / (ix ((ix rows_39 k_16)) k_16))) ∧ IxOk rows_39 i_41 ∧ ∀ rows_53, rows_53 = (setI rows_39 i_41 ((p_less_row ((ix rows_39 i_41)) ((ix rows_39 k_16)) (((ix ((ix rows_39 i_41)) k_16) / (ix ((ix rows_39 k_16)) k_16)))))) → N_43 rows_53) (fun (rows_39 : (List (List Rat))) => N_18 (rows_39, found_36))))) (fun (rows_13 : (List (List Rat))) (found_14 : Rat) => R found_14)
theorem det_determinant (table_1 : (List (List Rat))) : Det fun R => W_determinant table_1 R := by unfold W_determinant; walk_at "det"
noncomputable def p_determinant (table_1 : (List (List Rat))) : Rat := run fun R => W_determinant table_1 R
def p_determinant_pre (table_1 : (List (List Rat))) : Prop := W_determinant table_1 fun _ => True
theorem of_determinant {R : Rat → Prop} (table_1 : (List (List Rat))) (h : W_determinant table_1 R) : p_determinant_pre table_1 ∧ R (p_determinant table_1) := ⟨((run_of (det_determinant table_1) h).2 _).mpr trivial, (run_of (det_determinant table_1) h).1⟩
abbrev sp_determinant (g : Gx) : DS := spG (fun (p : (List (List Rat))) => [(eT (eT (eQ (Cq g)))) p]) (fun p => p_determinant_pre p) (fun p => p_determinant p) (eQ (Cq g))
abbrev Hw_determinant : Prop := ∀ (table_1 : (List (List Rat))), p_determinant_pre table_1 → W_determinant table_1 (fun r => r = p_determinant table_1)
theorem ok_determinant : Hw_determinant := fun table_1 h => ((run_of (det_determinant table_1) h).2 _).mpr rfl
def W_trace (table_1 : (List (List Rat))) (R : Rat → Prop) : Prop :=
  p_check_square_pre table_1 ∧ ∀ found_3, found_3 = ((((0 : Int) : Int) : Rat) : Rat) → RgOk ((table_1.length : Int)) ∧ for1 ((irng 0 ((table_1.length : Int)))) found_3 (fun (i_9 : Nat) (k_8 : Int) (found_6 : Rat) N_10 => IxOk table_1 k_8 ∧ IxOk ((ix table_1 k_8)) k_8 ∧ (Qz found_6 ∧ Qz ((ix ((ix table_1 k_8)) k_8))) ∧ ∀ found_14, found_14 = (found_6 + (ix ((ix table_1 k_8)) k_8)) → N_10 found_14) (fun (found_6 : Rat) => R found_6)
theorem det_trace (table_1 : (List (List Rat))) : Det fun R => W_trace table_1 R := by unfold W_trace; walk_at "det"
noncomputable def p_trace (table_1 : (List (List Rat))) : Rat := run fun R => W_trace table_1 R
def p_trace_pre (table_1 : (List (List Rat))) : Prop := W_trace table_1 fun _ => True
theorem of_trace {R : Rat → Prop} (table_1 : (List (List Rat))) (h : W_trace table_1 R) : p_trace_pre table_1 ∧ R (p_trace table_1) := ⟨((run_of (det_trace table_1) h).2 _).mpr trivial, (run_of (det_trace table_1) h).1⟩
abbrev sp_trace (g : Gx) : DS := spG (fun (p : (List (List Rat))) => [(eT (eT (eQ (Cq g)))) p]) (fun p => p_trace_pre p) (fun p => p_trace p) (eQ (Cq g))
abbrev Hw_trace : Prop := ∀ (table_1 : (List (List Rat))), p_trace_pre table_1 → W_trace table_1 (fun r => r = p_trace table_1)
theorem ok_trace : Hw_trace := fun table_1 h => ((run_of (det_trace table_1) h).2 _).mpr rfl
def W_check_symmetric (table_1 : (List (List Rat))) (R : Unit → Prop) : Prop :=
  p_check_square_pre table_1 ∧ p_turned_pre table_1 ∧ ((decide (table_1 ≠ (p_turned table_1))) = true → False) ∧ ((decide (table_1 ≠ (p_turned table_1))) = false → R ())
theorem det_check_symmetric (table_1 : (List (List Rat))) : Det fun R => W_check_symmetric table_1 R := by unfold W_check_symmetric; walk_at "det"
def p_check_symmetric_pre (table_1 : (List (List Rat))) : Prop := W_check_symmetric table_1 fun r => r = ()
abbrev sp_check_symmetric (g : Gx) : DS := spG (fun (p : (List (List Rat))) => [(eT (eT (eQ (Cq g)))) p]) (fun p => p_check_symmetric_pre p) (fun p => ()) eN
abbrev Hw_check_symmetric : Prop := ∀ (table_1 : (List (List Rat))), p_check_symmetric_pre table_1 → W_check_symmetric table_1 (fun r => r = ())
theorem ok_check_symmetric : Hw_check_symmetric := fun table_1 h => h
def W_first_pair (rows_1 : (List (List Rat))) (R : (Int × Int) → Prop) : Prop :=
  for0 ((enm rows_1))  (fun (i_4 : Nat) (p_3 : (Int × (List Rat))) N_5 => for0 ((enm p_3.2))  (fun (i_8 : Nat) (p_7 : (Int × Rat)) N_9 => ((decide ((qsgn p_7.2) ≠ (0 : Int))) = true → R ((p_3.1, p_7.1))) ∧ ((decide ((qsgn p_7.2) ≠ (0 : Int))) = false → N_9 ())) (N_5 ())) (False)
theorem det_first_pair (rows_1 : (List (List Rat))) : Det fun R => W_first_pair rows_1 R := by unfold W_first_pair; walk_at "det"
noncomputable def p_first_pair (rows_1 : (List (List Rat))) : (Int × Int) := run fun R => W_first_pair rows_1 R
def p_first_pair_pre (rows_1 : (List (List Rat))) : Prop := W_first_pair rows_1 fun _ => True
theorem of_first_pair {R : (Int × Int) → Prop} (rows_1 : (List (List Rat))) (h : W_first_pair rows_1 R) : p_first_pair_pre rows_1 ∧ R (p_first_pair rows_1) := ⟨((run_of (det_first_pair rows_1) h).2 _).mpr trivial, (run_of (det_first_pair rows_1) h).1⟩
abbrev sp_first_pair (g : Gx) : DS := spG (fun (p : (List (List Rat))) => [(eL (eL (eQ (Cq g)))) p]) (fun p => p_first_pair_pre p) (fun p => p_first_pair p) (eP eI eI)
abbrev Hw_first_pair : Prop := ∀ (rows_1 : (List (List Rat))), p_first_pair_pre rows_1 → W_first_pair rows_1 (fun r => r = p_first_pair rows_1)
theorem ok_first_pair : Hw_first_pair := fun rows_1 h => ((run_of (det_first_pair rows_1) h).2 _).mpr rfl
def W_less_square__v_l (rows_1 : (List (List Rat))) (c_2 : Rat) (line_3 : (List Rat)) (R : (List (List Rat)) → Prop) : Prop :=
  LmOk ((rows_1.zip line_3)).length ∧ (∀ p_4 ∈ (rows_1.zip line_3), LmOk ((p_4.1.zip line_3)).length ∧ (∀ p_6 ∈ (p_4.1.zip line_3), (Qz c_2 ∧ Qz p_4.2) ∧ (Qz ((c_2 * p_4.2)) ∧ Qz p_6.2) ∧ (Qz p_6.1 ∧ Qz (((c_2 * p_4.2) * p_6.2))))) ∧ R ((((rows_1.zip line_3)).map fun p_4 => (((p_4.1.zip line_3)).map fun p_6 => (p_6.1 - ((c_2 * p_4.2) * p_6.2)))))
theorem det_less_square__v_l (rows_1 : (List (List Rat))) (c_2 : Rat) (line_3 : (List Rat)) : Det fun R => W_less_square__v_l rows_1 c_2 line_3 R := by unfold W_less_square__v_l; walk_at "det"
noncomputable def p_less_square__v_l (rows_1 : (List (List Rat))) (c_2 : Rat) (line_3 : (List Rat)) : (List (List Rat)) := run fun R => W_less_square__v_l rows_1 c_2 line_3 R
def p_less_square__v_l_pre (rows_1 : (List (List Rat))) (c_2 : Rat) (line_3 : (List Rat)) : Prop := W_less_square__v_l rows_1 c_2 line_3 fun _ => True
theorem of_less_square__v_l {R : (List (List Rat)) → Prop} (rows_1 : (List (List Rat))) (c_2 : Rat) (line_3 : (List Rat)) (h : W_less_square__v_l rows_1 c_2 line_3 R) : p_less_square__v_l_pre rows_1 c_2 line_3 ∧ R (p_less_square__v_l rows_1 c_2 line_3) := ⟨((run_of (det_less_square__v_l rows_1 c_2 line_3) h).2 _).mpr trivial, (run_of (det_less_square__v_l rows_1 c_2 line_3) h).1⟩
abbrev sp_less_square__v_l (g : Gx) : DS := spG (fun (p : (List (List Rat)) × Rat × (List Rat)) => [(eL (eL (eQ (Cq g)))) p.1, (eQ (Cq g)) p.2.1, (eL (eQ (Cq g))) p.2.2]) (fun p => p_less_square__v_l_pre p.1 p.2.1 p.2.2) (fun p => p_less_square__v_l p.1 p.2.1 p.2.2) (eL (eL (eQ (Cq g))))
abbrev Hw_less_square__v_l : Prop := ∀ (rows_1 : (List (List Rat))) (c_2 : Rat) (line_3 : (List Rat)), p_less_square__v_l_pre rows_1 c_2 line_3 → W_less_square__v_l rows_1 c_2 line_3 (fun r => r = p_less_square__v_l rows_1 c_2 line_3)
theorem ok_less_square__v_l : Hw_less_square__v_l := fun rows_1 c_2 line_3 h => ((run_of (det_less_square__v_l rows_1 c_2 line_3) h).2 _).mpr rfl
def W_less_square__v_t (rows_1 : (List (List Rat))) (c_2 : Rat) (line_3 : (List Rat)) (R : (List (List Rat)) → Prop) : Prop :=
  LmOk ((rows_1.zip line_3)).length ∧ (∀ p_4 ∈ (rows_1.zip line_3), LmOk ((p_4.1.zip line_3)).length ∧ (∀ p_6 ∈ (p_4.1.zip line_3), (Qz c_2 ∧ Qz p_4.2) ∧ (Qz ((c_2 * p_4.2)) ∧ Qz p_6.2) ∧ (Qz p_6.1 ∧ Qz (((c_2 * p_4.2) * p_6.2))))) ∧ R ((((rows_1.zip line_3)).map fun p_4 => (((p_4.1.zip line_3)).map fun p_6 => (p_6.1 - ((c_2 * p_4.2) * p_6.2)))))
theorem det_less_square__v_t (rows_1 : (List (List Rat))) (c_2 : Rat) (line_3 : (List Rat)) : Det fun R => W_less_square__v_t rows_1 c_2 line_3 R := by unfold W_less_square__v_t; walk_at "det"
noncomputable def p_less_square__v_t (rows_1 : (List (List Rat))) (c_2 : Rat) (line_3 : (List Rat)) : (List (List Rat)) := run fun R => W_less_square__v_t rows_1 c_2 line_3 R
def p_less_square__v_t_pre (rows_1 : (List (List Rat))) (c_2 : Rat) (line_3 : (List Rat)) : Prop := W_less_square__v_t rows_1 c_2 line_3 fun _ => True
theorem of_less_square__v_t {R : (List (List Rat)) → Prop} (rows_1 : (List (List Rat))) (c_2 : Rat) (line_3 : (List Rat)) (h : W_less_square__v_t rows_1 c_2 line_3 R) : p_less_square__v_t_pre rows_1 c_2 line_3 ∧ R (p_less_square__v_t rows_1 c_2 line_3) := ⟨((run_of (det_less_square__v_t rows_1 c_2 line_3) h).2 _).mpr trivial, (run_of (det_less_square__v_t rows_1 c_2 line_3) h).1⟩
abbrev sp_less_square__v_t (g : Gx) : DS := spG (fun (p : (List (List Rat)) × Rat × (List Rat)) => [(eL (eL (eQ (Cq g)))) p.1, (eQ (Cq g)) p.2.1, (eT (eQ (Cq g))) p.2.2]) (fun p => p_less_square__v_t_pre p.1 p.2.1 p.2.2) (fun p => p_less_square__v_t p.1 p.2.1 p.2.2) (eL (eL (eQ (Cq g))))
abbrev Hw_less_square__v_t : Prop := ∀ (rows_1 : (List (List Rat))) (c_2 : Rat) (line_3 : (List Rat)), p_less_square__v_t_pre rows_1 c_2 line_3 → W_less_square__v_t rows_1 c_2 line_3 (fun r => r = p_less_square__v_t rows_1 c_2 line_3)
theorem ok_less_square__v_t : Hw_less_square__v_t := fun rows_1 c_2 line_3 h => ((run_of (det_less_square__v_t rows_1 c_2 line_3) h).2 _).mpr rfl
def W_squares_of (table_1 : (List (List Rat))) (R : (List (Rat × (List Rat))) → Prop) : Prop :=
  p_check_symmetric_pre table_1 ∧ LmOk table_1.length ∧ ∀ rows_6, rows_6 = (table_1.map fun row_3 => row_3) → ∀ found_8, found_8 = ([] : (List (Rat × (List Rat)))) → ∀ n_12, n_12 = (rows_6.length : Int) → whl2 found_8 rows_6 (fun (found_14 : (List (Rat × (List Rat)))) (rows_15 : (List (List Rat))) => LmOk rows_15.length ∧ (∀ row_20 ∈ rows_15, LmOk row_20.length)) (fun (found_14 : (List (Rat × (List Rat)))) (rows_15 : (List (List Rat))) => (((rows_15.map fun row_20 => (((row_20.map fun x_22 => (decide ((qsgn x_22) ≠ (0 : Int))))).any id))).any id)) (fun (found_14 : (List (Rat × (List Rat)))) (rows_15 : (List (List Rat))) N_19 => RgOk n_12 ∧ LmOk ((irng 0 n_12)).length ∧ (∀ k_24 ∈ (irng 0 n_12), IxOk rows_15 k_24 ∧ IxOk ((ix rows_15 k_24)) k_24) ∧ ∀ at_29, at_29 = ((((irng 0 n_12)).filter fun k_24 => (decide ((qsgn ((ix ((ix rows_15 k_24)) k_24))) ≠ (0 : Int)))).map fun k_24 => k_24) → ((decide ((0 : Int) < (at_29.length : Int))) = true → IxOk at_29 ((0 : Int)) ∧ IxOk rows_15 ((ix at_29 ((0 : Int)))) ∧ IxOk at_29 ((0 : Int)) ∧ IxOk ((ix rows_15 ((ix at_29 ((0 : Int)))))) ((ix at_29 ((0 : Int)))) ∧ ∀ lead_39, lead_39 = (ix ((ix rows_15 ((ix at_29 ((0 : Int)))))) ((ix at_29 ((0 : Int))))) → IxOk at_29 ((0 : Int)) ∧ IxOk rows_15 ((ix at_29 ((0 : Int)))) ∧ LmOk ((ix rows_15 ((ix at_29 ((0 : Int)))))).length ∧ (∀ x_41 ∈ (ix rows_15 ((ix at_29 ((0 : Int))))), ((Qz x_41 ∧ Qz lead_39) ∧ lead_39 ≠ 0)) ∧ ∀ line_47, line_47 = (((ix rows_15 ((ix at_29 ((0 : Int)))))).map fun x_41 => (x_41 / lead_39)) → found_14.length < LM ∧ ∀ found_53, found_53 = (found_14 ++ [(lead_39, line_47)]) → p_less_square__v_l_pre rows_15 lead_39 line_47 ∧ ∀ rows_56, rows_56 = (p_less_square__v_l rows_15 lead_39 line_47) → N_19 (found_53, rows_56)) ∧ ((decide ((0 : Int) < (at_29.length : Int))) = false → p_first_pair_pre rows_15 ∧ ∀ i_59, i_59 = ((p_first_pair rows_15)).1 → ∀ j_61, j_61 = ((p_first_pair rows_15)).2 → IxOk rows_15 i_59 ∧ IxOk ((ix rows_15 i_59)) j_61 ∧ (2 : Int) ≠ 0 ∧ (Qz ((ix ((ix rows_15 i_59)) j_61)) ∧ Qz ((Rat.divInt ((1 : Int)) ((2 : Int))))) ∧ ∀ half_67, half_67 = ((ix ((ix rows_15 i_59)) j_61) * (Rat.divInt ((1 : Int)) ((2 : Int)))) → for1 ([(1 : Int), (-(1 : Int))]) found_14 (fun (i_72 : Nat) (sign_71 : Int) (found_69 : (List (Rat × (List Rat)))) N_73 => RgOk n_12 ∧ LmOk ((irng 0 n_12)).length ∧ (∀ k_74 ∈ (irng 0 n_12), IxOk rows_15 i_59 ∧ IxOk ((ix rows_15 i_59)) k_74 ∧ IxOk rows_15 j_61 ∧ IxOk ((ix rows_15 j_61)) k_74 ∧ (Qz ((ix ((ix rows_15 j_61)) k_74)) ∧ Qz ((((sign_71 : Int) : Rat) : Rat))) ∧ (Qz ((ix ((ix rows_15 i_59)) k_74)) ∧ Qz (((ix ((ix rows_15 j_61)) k_74) * (((sign_71 : Int) : Rat) : Rat)))) ∧ IxOk rows_15 i_59 ∧ IxOk ((ix rows_15 i_59)) j_61 ∧ ((Qz (((ix ((ix rows_15 i_59)) k_74) + ((ix ((ix rows_15 j_61)) k_74) * (((sign_71 : Int) : Rat) : Rat)))) ∧ Qz ((ix ((ix rows_15 i_59)) j_61))) ∧ (ix ((ix rows_15 i_59)) j_61) ≠ 0)) ∧ ∀ line_79, line_79 = (((irng 0 n_12)).map fun k_74 => (((ix ((ix rows_15 i_59)) k_74) + ((ix ((ix rows_15 j_61)) k_74) * (((sign_71 : Int) : Rat) : Rat))) / (ix ((ix rows_15 i_59)) j_61))) → (Qz half_67 ∧ Qz ((((sign_71 : Int) : Rat) : Rat))) ∧ found_69.length < LM ∧ ∀ found_94, found_94 = (found_69 ++ [((half_67 * (((sign_71 : Int) : Rat) : Rat)), line_79)]) → N_73 found_94) (fun (found_69 : (List (Rat × (List Rat)))) => IxOk found_69 ((-(2 : Int))) ∧ IxOk found_69 ((-(2 : Int))) ∧ p_less_square__v_t_pre rows_15 (((ix found_69 ((-(2 : Int))))).1) (((ix found_69 ((-(2 : Int))))).2) ∧ IxOk found_69 ((-(1 : Int))) ∧ IxOk found_69 ((-(1 : Int))) ∧ p_less_square__v_t_pre ((p_less_square__v_t rows_15 (((ix found_69 ((-(2 : Int))))).1) (((ix found_69 ((-(2 : Int))))).2))) (((ix found_69 ((-(1 : Int))))).1) (((ix found_69 ((-(1 : Int))))).2) ∧ ∀ rows_102, rows_102 = (p_less_square__v_t ((p_less_square__v_t rows_15 (((ix found_69 ((-(2 : Int))))).1) (((ix found_69 ((-(2 : Int))))).2))) (((ix found_69 ((-(1 : Int))))).1) (((ix found_69 ((-(1 : Int))))).2)) → N_19 (found_69, rows_102)))) (fun (found_14 : (List (Rat × (List Rat)))) (rows_15 : (List (List Rat))) => R found_14)
theorem det_squares_of (table_1 : (List (List Rat))) : Det fun R => W_squares_of table_1 R := by unfold W_squares_of; walk_at "det"
noncomputable def p_squares_of (table_1 : (List (List Rat))) : (List (Rat × (List Rat))) := run fun R => W_squares_of table_1 R
def p_squares_of_pre (table_1 : (List (List Rat))) : Prop := W_squares_of table_1 fun _ => True
theorem of_squares_of {R : (List (Rat × (List Rat))) → Prop} (table_1 : (List (List Rat))) (h : W_squares_of table_1 R) : p_squares_of_pre table_1 ∧ R (p_squares_of table_1) := ⟨((run_of (det_squares_of table_1) h).2 _).mpr trivial, (run_of (det_squares_of table_1) h).1⟩
abbrev sp_squares_of (g : Gx) : DS := spG (fun (p : (List (List Rat))) => [(eT (eT (eQ (Cq g)))) p]) (fun p => p_squares_of_pre p) (fun p => p_squares_of p) (eT (eP (eQ (Cq g)) (eT (eQ (Cq g)))))
abbrev Hw_squares_of : Prop := ∀ (table_1 : (List (List Rat))), p_squares_of_pre table_1 → W_squares_of table_1 (fun r => r = p_squares_of table_1)
theorem ok_squares_of : Hw_squares_of := fun table_1 h => ((run_of (det_squares_of table_1) h).2 _).mpr rfl
def W_inertia (table_1 : (List (List Rat))) (R : (Int × Int) → Prop) : Prop :=
  p_squares_of_pre table_1 ∧ ∀ pairs_3, pairs_3 = (p_squares_of table_1) → LmOk pairs_3.length ∧ LmOk pairs_3.length ∧ R ((((((pairs_3.filter fun p_5 => (decide ((0 : Int) < (qsgn p_5.1)))).map fun p_5 => (1 : Int))).length : Int), ((((pairs_3.filter fun p_7 => (decide ((qsgn p_7.1) < (0 : Int)))).map fun p_7 => (1 : Int))).length : Int)))
theorem det_inertia (table_1 : (List (List Rat))) : Det fun R => W_inertia table_1 R := by unfold W_inertia; walk_at "det"
noncomputable def p_inertia (table_1 : (List (List Rat))) : (Int × Int) := run fun R => W_inertia table_1 R
def p_inertia_pre (table_1 : (List (List Rat))) : Prop := W_inertia table_1 fun _ => True
theorem of_inertia {R : (Int × Int) → Prop} (table_1 : (List (List Rat))) (h : W_inertia table_1 R) : p_inertia_pre table_1 ∧ R (p_inertia table_1) := ⟨((run_of (det_inertia table_1) h).2 _).mpr trivial, (run_of (det_inertia table_1) h).1⟩
abbrev sp_inertia (g : Gx) : DS := spG (fun (p : (List (List Rat))) => [(eT (eT (eQ (Cq g)))) p]) (fun p => p_inertia_pre p) (fun p => p_inertia p) (eP eI eI)
abbrev Hw_inertia : Prop := ∀ (table_1 : (List (List Rat))), p_inertia_pre table_1 → W_inertia table_1 (fun r => r = p_inertia table_1)
theorem ok_inertia : Hw_inertia := fun table_1 h => ((run_of (det_inertia table_1) h).2 _).mpr rfl
def W_square_rank (table_1 : (List (List Rat))) (R : Int → Prop) : Prop :=
  p_check_symmetric_pre table_1 ∧ p_table_rank_pre table_1 ∧ R ((p_table_rank table_1))
theorem det_square_rank (table_1 : (List (List Rat))) : Det fun R => W_square_rank table_1 R := by unfold W_square_rank; walk_at "det"
noncomputable def p_square_rank (table_1 : (List (List Rat))) : Int := run fun R => W_square_rank table_1 R
def p_square_rank_pre (table_1 : (List (List Rat))) : Prop := W_square_rank table_1 fun _ => True
theorem of_square_rank {R : Int → Prop} (table_1 : (List (List Rat))) (h : W_square_rank table_1 R) : p_square_rank_pre table_1 ∧ R (p_square_rank table_1) := ⟨((run_of (det_square_rank table_1) h).2 _).mpr trivial, (run_of (det_square_rank table_1) h).1⟩
abbrev sp_square_rank (g : Gx) : DS := spG (fun (p : (List (List Rat))) => [(eT (eT (eQ (Cq g)))) p]) (fun p => p_square_rank_pre p) (fun p => p_square_rank p) eI
abbrev Hw_square_rank : Prop := ∀ (table_1 : (List (List Rat))), p_square_rank_pre table_1 → W_square_rank table_1 (fun r => r = p_square_rank table_1)
theorem ok_square_rank : Hw_square_rank := fun table_1 h => ((run_of (det_square_rank table_1) h).2 _).mpr rfl
def W_is_above (table_1 : (List (List Rat))) (R : Bool → Prop) : Prop :=
  p_check_symmetric_pre table_1 ∧ RgOk2 ((1 : Int)) (((table_1.length : Int) + (1 : Int))) ∧ for0 ((irng ((1 : Int)) (((table_1.length : Int) + (1 : Int)))))  (fun (i_6 : Nat) (k_5 : Int) N_7 => LmOk ((cutL table_1 none (some k_5))).length ∧ p_determinant_pre ((((cutL table_1 none (some k_5))).map fun row_8 => (cutL row_8 none (some k_5)))) ∧ ((decide ((qsgn ((p_determinant ((((cutL table_1 none (some k_5))).map fun row_8 => (cutL row_8 none (some k_5))))))) ≤ (0 : Int))) = true → R false) ∧ ((decide ((qsgn ((p_determinant ((((cutL table_1 none (some k_5))).map fun row_8 => (cutL row_8 none (some k_5))))))) ≤ (0 : Int))) = false → N_7 ())) (R true)
theorem det_is_above (table_1 : (List (List Rat))) : Det fun R => W_is_above table_1 R := by unfold W_is_above; walk_at "det"
noncomputable def p_is_above (table_1 : (List (List Rat))) : Bool := run fun R => W_is_above table_1 R
def p_is_above_pre (table_1 : (List (List Rat))) : Prop := W_is_above table_1 fun _ => True
theorem of_is_above {R : Bool → Prop} (table_1 : (List (List Rat))) (h : W_is_above table_1 R) : p_is_above_pre table_1 ∧ R (p_is_above table_1) := ⟨((run_of (det_is_above table_1) h).2 _).mpr trivial, (run_of (det_is_above table_1) h).1⟩
abbrev sp_is_above (g : Gx) : DS := spG (fun (p : (List (List Rat))) => [(eT (eT (eQ (Cq g)))) p]) (fun p => p_is_above_pre p) (fun p => p_is_above p) eB
abbrev Hw_is_above : Prop := ∀ (table_1 : (List (List Rat))), p_is_above_pre table_1 → W_is_above table_1 (fun r => r = p_is_above table_1)
theorem ok_is_above : Hw_is_above := fun table_1 h => ((run_of (det_is_above table_1) h).2 _).mpr rfl
def W__law_take (m_1 : Int) (st : St2) (R : (Int × St2) → Prop) : Prop :=
  ((decide ((0 : Int) < st.1)) = true → 0 < m_1 ∧ ∀ value_3, value_3 = (st.1 % m_1) → (0 < m_1 ∧ m_1 < 1073741824) ∧ R (value_3, ((st.1 / m_1), st.2))) ∧ ((decide ((0 : Int) < st.1)) = false → MulOk st.2 ((48271 : Int)) ∧ 0 < (2147483647 : Int) ∧ (0 < (7 : Int) ∧ (7 : Int) < 1073741824) ∧ 0 < m_1 ∧ R (((((st.1, (((st.2 * (48271 : Int)) + (11 : Int)) % (2147483647 : Int)))).2 / (7 : Int)) % m_1), (st.1, (((st.2 * (48271 : Int)) + (11 : Int)) % (2147483647 : Int)))))
theorem det__law_take (m_1 : Int) (st : St2) : Det fun R => W__law_take m_1 st R := by unfold W__law_take; walk_at "det"
noncomputable def p__law_take (m_1 : Int) (st : St2) : (Int × St2) := run fun R => W__law_take m_1 st R
def p__law_take_pre (m_1 : Int) (st : St2) : Prop := W__law_take m_1 st fun _ => True
theorem of__law_take {R : (Int × St2) → Prop} (m_1 : Int) (st : St2) (h : W__law_take m_1 st R) : p__law_take_pre m_1 st ∧ R (p__law_take m_1 st) := ⟨((run_of (det__law_take m_1 st) h).2 _).mpr trivial, (run_of (det__law_take m_1 st) h).1⟩
abbrev sp__law_take (g : Gx) : DS := spW (fun (p : Int) => [eI p]) (fun p st => p__law_take_pre p st) (fun p st => p__law_take p st) eI
abbrev Hw__law_take : Prop := ∀ (m_1 : Int) (st : St2), p__law_take_pre m_1 st → W__law_take m_1 st (fun r => r = p__law_take m_1 st)
theorem ok__law_take : Hw__law_take := fun m_1 st h => ((run_of (det__law_take m_1 st) h).2 _).mpr rfl
def W__law_total (lots_1 : (List Rat)) (R : Rat → Prop) : Prop :=
  ∀ total_2, total_2 = ((((0 : Int) : Int) : Rat) : Rat) → for1 lots_1 total_2 (fun (i_7 : Nat) (x_6 : Rat) (total_4 : Rat) N_8 => (Qz total_4 ∧ Qz x_6) ∧ ∀ total_10, total_10 = (total_4 + x_6) → N_8 total_10) (fun (total_4 : Rat) => R total_4)
theorem det__law_total (lots_1 : (List Rat)) : Det fun R => W__law_total lots_1 R := by unfold W__law_total; walk_at "det"
noncomputable def p__law_total (lots_1 : (List Rat)) : Rat := run fun R => W__law_total lots_1 R
def p__law_total_pre (lots_1 : (List Rat)) : Prop := W__law_total lots_1 fun _ => True
theorem of__law_total {R : Rat → Prop} (lots_1 : (List Rat)) (h : W__law_total lots_1 R) : p__law_total_pre lots_1 ∧ R (p__law_total lots_1) := ⟨((run_of (det__law_total lots_1) h).2 _).mpr trivial, (run_of (det__law_total lots_1) h).1⟩
abbrev sp__law_total (g : Gx) : DS := spG (fun (p : (List Rat)) => [(eL (eQ (Cq g))) p]) (fun p => p__law_total_pre p) (fun p => p__law_total p) (eQ (Cq g))
abbrev Hw__law_total : Prop := ∀ (lots_1 : (List Rat)), p__law_total_pre lots_1 → W__law_total lots_1 (fun r => r = p__law_total lots_1)
theorem ok__law_total : Hw__law_total := fun lots_1 h => ((run_of (det__law_total lots_1) h).2 _).mpr rfl
def W__law_rank (rows_1 : (List (List Rat))) (R : Int → Prop) : Prop :=
  LmOk rows_1.length ∧ ∀ rows_5, rows_5 = (rows_1.map fun row_2 => row_2) → ∀ found_7, found_7 = (0 : Int) → ((decide ((0 : Int) < (rows_5.length : Int))) = true → IxOk rows_5 ((0 : Int))) ∧ RgOk ((if (decide ((0 : Int) < (rows_5.length : Int))) = true then (((ix rows_5 ((0 : Int)))).length : Int) else (0 : Int))) ∧ for2 ((irng 0 ((if (decide ((0 : Int) < (rows_5.length : Int))) = true then (((ix rows_5 ((0 : Int)))).length : Int) else (0 : Int))))) rows_5 found_7 (fun (i_17 : Nat) (k_16 : Int) (rows_13 : (List (List Rat))) (found_14 : Int) N_18 => LmOk ((enm rows_13)).length ∧ (∀ p_19 ∈ (enm rows_13), IxOk p_19.2 k_16) ∧ ∀ at_23, at_23 = ((((enm rows_13)).filter fun p_19 => (decide ((qsgn ((ix p_19.2 k_16))) ≠ (0 : Int)))).map fun p_19 => p_19.1) → ((decide ((0 : Int) < (at_23.length : Int))) = true → IxOk at_23 ((0 : Int)) ∧ IxOk rows_13 ((ix at_23 ((0 : Int)))) ∧ ∀ lead_30, lead_30 = (ix rows_13 ((ix at_23 ((0 : Int))))) → ∀ found_32, found_32 = (found_14 + (1 : Int)) → LmOk ((enm rows_13)).length ∧ (∀ p_34 ∈ (enm rows_13), IxOk at_23 ((0 : Int)) ∧ ((decide (p_34.1 ≠ (ix at_23 ((0 : Int))))) = true → LmOk ((p_34.2.zip lead_30)).length ∧ (∀ p_36 ∈ (p_34.2.zip lead_30), IxOk p_34.2 k_16 ∧ IxOk lead_30 k_16 ∧ ((Qz ((ix p_34.2 k_16)) ∧ Qz ((ix lead_30 k_16))) ∧ (ix lead_30 k_16) ≠ 0) ∧ (Qz (((ix p_34.2 k_16) / (ix lead_30 k_16))) ∧ Qz p_36.2) ∧ (Qz p_36.1 ∧ Qz ((((ix p_34.2 k_16) / (ix lead_30 k_16)) * p_36.2)))))) ∧ ∀ rows_40, rows_40 = ((((enm rows_13)).filter fun p_34 => (decide (p_34.1 ≠ (ix at_23 ((0 : Int)))))).map fun p_34 => (((p_34.2.zip lead_30)).map fun p_36 => (p_36.1 - (((ix p_34.2 k_16) / (ix lead_30 k_16)) * p_36.2)))) → N_18 (rows_40, found_32)) ∧ ((decide ((0 : Int) < (at_23.length : Int))) = false → N_18 (rows_13, found_14))) (fun (rows_13 : (List (List Rat))) (found_14 : Int) => R found_14)
theorem det__law_rank (rows_1 : (List (List Rat))) : Det fun R => W__law_rank rows_1 R := by unfold W__law_rank; walk_at "det"
noncomputable def p__law_rank (rows_1 : (List (List Rat))) : Int := run fun R => W__law_rank rows_1 R
def p__law_rank_pre (rows_1 : (List (List Rat))) : Prop := W__law_rank rows_1 fun _ => True
theorem of__law_rank {R : Int → Prop} (rows_1 : (List (List Rat))) (h : W__law_rank rows_1 R) : p__law_rank_pre rows_1 ∧ R (p__law_rank rows_1) := ⟨((run_of (det__law_rank rows_1) h).2 _).mpr trivial, (run_of (det__law_rank rows_1) h).1⟩
abbrev sp__law_rank (g : Gx) : DS := spG (fun (p : (List (List Rat))) => [(eL (eT (eQ (Cq g)))) p]) (fun p => p__law_rank_pre p) (fun p => p__law_rank p) eI
abbrev Hw__law_rank : Prop := ∀ (rows_1 : (List (List Rat))), p__law_rank_pre rows_1 → W__law_rank rows_1 (fun r => r = p__law_rank rows_1)
theorem ok__law_rank : Hw__law_rank := fun rows_1 h => ((run_of (det__law_rank rows_1) h).2 _).mpr rfl
def W__law_table (n_1 : Int) (st : St2) (R : ((List (List Rat)) × St2) → Prop) : Prop :=
  RgOk n_1 ∧ LmOk ((irng 0 n_1)).length ∧ (∀ r_2 ∈ (irng 0 n_1), (0 ≤ n_1 ∧ n_1 ≤ LM)) ∧ ∀ rows_7, rows_7 = (((irng 0 n_1)).map fun r_2 => (rpt n_1 (((((0 : Int) : Int) : Rat) : Rat)))) → p__law_take_pre ((2 : Int)) st ∧ ((decide ((p__law_take ((2 : Int)) st).1 = (0 : Int))) = true → RgOk n_1 ∧ for2 ((irng 0 n_1)) rows_7 ((p__law_take ((2 : Int)) st).2) (fun (i_18 : Nat) (i_17 : Int) (rows_14 : (List (List Rat))) (st_15 : St2) N_19 => RgOk ((i_17 + (1 : Int))) ∧ for2 ((irng 0 ((i_17 + (1 : Int))))) rows_14 st_15 (fun (i_25 : Nat) (j_24 : Int) (rows_21 : (List (List Rat))) (st_22 : St2) N_26 => p__law_take_pre ((7 : Int)) st_22 ∧ ∀ x_28, x_28 = (((((p__law_take ((7 : Int)) st_22).1 - (3 : Int)) : Int) : Rat) : Rat) → ∀ st_30, st_30 = (p__law_take ((7 : Int)) st_22).2 → IxOk rows_21 i_17 ∧ IxOk (ix rows_21 i_17) j_24 ∧ ∀ rows_34, rows_34 = (setI rows_21 i_17 (setI (ix rows_21 i_17) j_24 x_28)) → IxOk rows_34 j_24 ∧ IxOk (ix rows_34 j_24) i_17 ∧ ∀ rows_38, rows_38 = (setI rows_34 j_24 (setI (ix rows_34 j_24) i_17 x_28)) → N_26 (rows_38, st_30)) (fun (rows_21 : (List (List Rat))) (st_22 : St2) => N_19 (rows_21, st_22))) (fun (rows_14 : (List (List Rat))) (st_15 : St2) => LmOk rows_14.length ∧ R ((rows_14.map fun row_45 => row_45), st_15))) ∧ ((decide ((p__law_take ((2 : Int)) st).1 = (0 : Int))) = false → p__law_take_pre n_1 ((p__law_take ((2 : Int)) st).2) ∧ RgOk (((1 : Int) + (p__law_take n_1 ((p__law_take ((2 : Int)) st).2)).1)) ∧ for2 ((irng 0 (((1 : Int) + (p__law_take n_1 ((p__law_take ((2 : Int)) st).2)).1)))) rows_7 ((p__law_take n_1 ((p__law_take ((2 : Int)) st).2)).2) (fun (i_62 : Nat) (t_61 : Int) (rows_58 : (List (List Rat))) (st_59 : St2) N_63 => p__law_take_pre ((3 : Int)) st_59 ∧ RgOk n_1 ∧ LmOk ((irng 0 n_1)).length ∧ (∀ i_64 ∈ (irng 0 n_1), ∀ st_66 : St2, p__law_take_pre ((5 : Int)) st_66) ∧ ∀ c_71, c_71 = (((((p__law_take ((3 : Int)) st_59).1 - (1 : Int)) : Int) : Rat) : Rat) → ∀ line_73, line_73 = (mapS (fun i_64 st_66 => ((((((p__law_take ((5 : Int)) st_66).1 - (2 : Int)) : Int) : Rat) : Rat), (p__law_take ((5 : Int)) st_66).2)) ((irng 0 n_1)) ((p__law_take ((3 : Int)) st_59).2)).1 → ∀ st_75, st_75 = (mapS (fun i_64 st_66 => ((((((p__law_take ((5 : Int)) st_66).1 - (2 : Int)) : Int) : Rat) : Rat), (p__law_take ((5 : Int)) st_66).2)) ((irng 0 n_1)) ((p__law_take ((3 : Int)) st_59).2)).2 → LmOk ((rows_58.zip line_73)).length ∧ (∀ p_80 ∈ (rows_58.zip line_73), LmOk ((p_80.1.zip line_73)).length ∧ (∀ p_83 ∈ (p_80.1.zip line_73), (Qz c_71 ∧ Qz p_80.2) ∧ (Qz ((c_71 * p_80.2)) ∧ Qz p_83.2) ∧ (Qz p_83.1 ∧ Qz (((c_71 * p_80.2) * p_83.2))))) ∧ ∀ rows_88, rows_88 = (((rows_58.zip line_73)).map fun p_80 => (((p_80.1.zip line_73)).map fun p_83 => (p_83.1 + ((c_71 * p_80.2) * p_83.2)))) → N_63 (rows_88, st_75)) (fun (rows_58 : (List (List Rat))) (st_59 : St2) => LmOk rows_58.length ∧ R ((rows_58.map fun row_99 => row_99), st_59)))
theorem det__law_table (n_1 : Int) (st : St2) : Det fun R => W__law_table n_1 st R := by unfold W__law_table; walk_at "det"
noncomputable def p__law_table (n_1 : Int) (st : St2) : ((List (List Rat)) × St2) := run fun R => W__law_table n_1 st R
def p__law_table_pre (n_1 : Int) (st : St2) : Prop := W__law_table n_1 st fun _ => True
theorem of__law_table {R : ((List (List Rat)) × St2) → Prop} (n_1 : Int) (st : St2) (h : W__law_table n_1 st R) : p__law_table_pre n_1 st ∧ R (p__law_table n_1 st) := ⟨((run_of (det__law_table n_1 st) h).2 _).mpr trivial, (run_of (det__law_table n_1 st) h).1⟩
abbrev sp__law_table (g : Gx) : DS := spW (fun (p : Int) => [eI p]) (fun p st => p__law_table_pre p st) (fun p st => p__law_table p st) (eT (eT (eQ (Cq g))))
abbrev Hw__law_table : Prop := ∀ (n_1 : Int) (st : St2), p__law_table_pre n_1 st → W__law_table n_1 st (fun r => r = p__law_table n_1 st)
theorem ok__law_table : Hw__law_table := fun n_1 st h => ((run_of (det__law_table n_1 st) h).2 _).mpr rfl
def W__law_part (table_1 : (List (List Rat))) (rows_2 : (List Int)) (columns_3 : (List Int)) (R : (List (List Rat)) → Prop) : Prop :=
  LmOk rows_2.length ∧ (∀ i_4 ∈ rows_2, LmOk columns_3.length ∧ (∀ j_6 ∈ columns_3, IxOk table_1 i_4 ∧ IxOk ((ix table_1 i_4)) j_6)) ∧ R ((rows_2.map fun i_4 => (columns_3.map fun j_6 => (ix ((ix table_1 i_4)) j_6))))
theorem det__law_part (table_1 : (List (List Rat))) (rows_2 : (List Int)) (columns_3 : (List Int)) : Det fun R => W__law_part table_1 rows_2 columns_3 R := by unfold W__law_part; walk_at "det"
noncomputable def p__law_part (table_1 : (List (List Rat))) (rows_2 : (List Int)) (columns_3 : (List Int)) : (List (List Rat)) := run fun R => W__law_part table_1 rows_2 columns_3 R
def p__law_part_pre (table_1 : (List (List Rat))) (rows_2 : (List Int)) (columns_3 : (List Int)) : Prop := W__law_part table_1 rows_2 columns_3 fun _ => True
theorem of__law_part {R : (List (List Rat)) → Prop} (table_1 : (List (List Rat))) (rows_2 : (List Int)) (columns_3 : (List Int)) (h : W__law_part table_1 rows_2 columns_3 R) : p__law_part_pre table_1 rows_2 columns_3 ∧ R (p__law_part table_1 rows_2 columns_3) := ⟨((run_of (det__law_part table_1 rows_2 columns_3) h).2 _).mpr trivial, (run_of (det__law_part table_1 rows_2 columns_3) h).1⟩
abbrev sp__law_part (g : Gx) : DS := spG (fun (p : (List (List Rat)) × (List Int) × (List Int)) => [(eT (eT (eQ (Cq g)))) p.1, (eL eI) p.2.1, (eL eI) p.2.2]) (fun p => p__law_part_pre p.1 p.2.1 p.2.2) (fun p => p__law_part p.1 p.2.1 p.2.2) (eT (eT (eQ (Cq g))))
abbrev Hw__law_part : Prop := ∀ (table_1 : (List (List Rat))) (rows_2 : (List Int)) (columns_3 : (List Int)), p__law_part_pre table_1 rows_2 columns_3 → W__law_part table_1 rows_2 columns_3 (fun r => r = p__law_part table_1 rows_2 columns_3)
theorem ok__law_part : Hw__law_part := fun table_1 rows_2 columns_3 h => ((run_of (det__law_part table_1 rows_2 columns_3) h).2 _).mpr rfl
def W__law_plus (one_1 : (Int × Int)) (two_2 : (Int × Int)) (R : (Int × Int) → Prop) : Prop :=
  R (((one_1.1 + two_2.1), (one_1.2 + two_2.2)))
theorem det__law_plus (one_1 : (Int × Int)) (two_2 : (Int × Int)) : Det fun R => W__law_plus one_1 two_2 R := by unfold W__law_plus; walk_at "det"
noncomputable def p__law_plus (one_1 : (Int × Int)) (two_2 : (Int × Int)) : (Int × Int) := run fun R => W__law_plus one_1 two_2 R
def p__law_plus_pre (one_1 : (Int × Int)) (two_2 : (Int × Int)) : Prop := W__law_plus one_1 two_2 fun _ => True
theorem of__law_plus {R : (Int × Int) → Prop} (one_1 : (Int × Int)) (two_2 : (Int × Int)) (h : W__law_plus one_1 two_2 R) : p__law_plus_pre one_1 two_2 ∧ R (p__law_plus one_1 two_2) := ⟨((run_of (det__law_plus one_1 two_2) h).2 _).mpr trivial, (run_of (det__law_plus one_1 two_2) h).1⟩
abbrev sp__law_plus (g : Gx) : DS := spG (fun (p : (Int × Int) × (Int × Int)) => [(eP eI eI) p.1, (eP eI eI) p.2]) (fun p => p__law_plus_pre p.1 p.2) (fun p => p__law_plus p.1 p.2) (eP eI eI)
abbrev Hw__law_plus : Prop := ∀ (one_1 : (Int × Int)) (two_2 : (Int × Int)), p__law_plus_pre one_1 two_2 → W__law_plus one_1 two_2 (fun r => r = p__law_plus one_1 two_2)
theorem ok__law_plus : Hw__law_plus := fun one_1 two_2 h => ((run_of (det__law_plus one_1 two_2) h).2 _).mpr rfl
def W__law_parts_hold (table_1 : (List (List Rat))) (n_2 : Int) (st : St2) (R : (Bool × St2) → Prop) : Prop :=
  p__law_take_pre ((n_2 - (1 : Int))) st ∧ ∀ j_4, j_4 = ((1 : Int) + (p__law_take ((n_2 - (1 : Int))) st).1) → ∀ st_6, st_6 = (p__law_take ((n_2 - (1 : Int))) st).2 → RgOk j_4 ∧ RgOk2 j_4 n_2 ∧ ∀ first_10, first_10 = (irng 0 j_4) → ∀ rest_12, rest_12 = (irng j_4 n_2) → p__law_part_pre table_1 first_10 first_10 ∧ p__law_part_pre table_1 first_10 rest_12 ∧ ∀ corner_16, corner_16 = (p__law_part table_1 first_10 first_10) → ∀ side_18, side_18 = (p__law_part table_1 first_10 rest_12) → p_determinant_pre corner_16 ∧ ((decide ((qsgn ((p_determinant corner_16))) = (0 : Int))) = true → p_table_rank_pre corner_16 ∧ ((decide ((p_table_rank corner_16) < j_4)) = true → p_square_rank_pre corner_16 ∧ p_table_rank_pre corner_16) ∧ R (((decide ((p_table_rank corner_16) < j_4)) && (decide ((p_square_rank corner_16) = (p_table_rank corner_16)))), st_6)) ∧ ((decide ((qsgn ((p_determinant corner_16))) = (0 : Int))) = false → p__law_part_pre table_1 rest_12 rest_12 ∧ p_turned_pre side_18 ∧ p_inverse_pre corner_16 ∧ p_table_times_pre ((p_inverse corner_16)) side_18 ∧ p_table_times_pre ((p_turned side_18)) ((p_table_times ((p_inverse corner_16)) side_18)) ∧ p_table_plus_pre ((p__law_part table_1 rest_12 rest_12)) ((p_table_times ((p_turned side_18)) ((p_table_times ((p_inverse corner_16)) side_18)))) ((-(1 : Int))) ∧ ∀ left_31, left_31 = (p_table_plus ((p__law_part table_1 rest_12 rest_12)) ((p_table_times ((p_turned side_18)) ((p_table_times ((p_inverse corner_16)) side_18)))) ((-(1 : Int)))) → p_inertia_pre table_1 ∧ p_inertia_pre corner_16 ∧ p_inertia_pre left_31 ∧ p__law_plus_pre ((p_inertia corner_16)) ((p_inertia left_31)) ∧ ((decide ((p_inertia table_1) ≠ (p__law_plus ((p_inertia corner_16)) ((p_inertia left_31))))) = false → p_square_rank_pre table_1 ∧ p_square_rank_pre left_31) ∧ (((decide ((p_inertia table_1) ≠ (p__law_plus ((p_inertia corner_16)) ((p_inertia left_31))))) || (decide ((p_square_rank table_1) ≠ (j_4 + (p_square_rank left_31))))) = true → R (false, st_6)) ∧ (((decide ((p_inertia table_1) ≠ (p__law_plus ((p_inertia corner_16)) ((p_inertia left_31))))) || (decide ((p_square_rank table_1) ≠ (j_4 + (p_square_rank left_31))))) = false → p_determinant_pre table_1 ∧ p_determinant_pre corner_16 ∧ p_determinant_pre left_31 ∧ (Qz ((p_determinant corner_16)) ∧ Qz ((p_determinant left_31))) ∧ R ((decide ((p_determinant table_1) = ((p_determinant corner_16) * (p_determinant left_31)))), st_6)))
theorem det__law_parts_hold (table_1 : (List (List Rat))) (n_2 : Int) (st : St2) : Det fun R => W__law_parts_hold table_1 n_2 st R := by unfold W__law_parts_hold; walk_at "det"
noncomputable def p__law_parts_hold (table_1 : (List (List Rat))) (n_2 : Int) (st : St2) : St2 := (run fun R => W__law_parts_hold table_1 n_2 st R).2
def p__law_parts_hold_pre (table_1 : (List (List Rat))) (n_2 : Int) (st : St2) : Prop := W__law_parts_hold table_1 n_2 st fun r => r.1 = true
abbrev sp__law_parts_hold (g : Gx) : DS := spW (fun (p : (List (List Rat)) × Int) => [(eT (eT (eQ (Cq g)))) p.1, eI p.2]) (fun p st => p__law_parts_hold_pre p.1 p.2 st) (fun p st => (true, p__law_parts_hold p.1 p.2 st)) eB
abbrev Hw__law_parts_hold : Prop := ∀ (table_1 : (List (List Rat))) (n_2 : Int) (st : St2), p__law_parts_hold_pre table_1 n_2 st → W__law_parts_hold table_1 n_2 st (fun r => r = (true, p__law_parts_hold table_1 n_2 st))
theorem ok__law_parts_hold : Hw__law_parts_hold := fun table_1 n_2 st h => ((run_of (det__law_parts_hold table_1 n_2 st) h).2 _).mpr (Prod.ext (run_of (det__law_parts_hold table_1 n_2 st) h).1 rfl)
def W__law_minors_hold (table_1 : (List (List Rat))) (n_2 : Int) (R : Bool → Prop) : Prop :=
  RgOk2 ((1 : Int)) ((n_2 + (1 : Int))) ∧ LmOk ((irng ((1 : Int)) ((n_2 + (1 : Int))))).length ∧ (∀ k_3 ∈ (irng ((1 : Int)) ((n_2 + (1 : Int)))), RgOk k_3 ∧ RgOk k_3 ∧ p__law_part_pre table_1 ((irng 0 k_3)) ((irng 0 k_3)) ∧ p_determinant_pre ((p__law_part table_1 ((irng 0 k_3)) ((irng 0 k_3))))) ∧ ([((((1 : Int) : Int) : Rat) : Rat)]).length + ((((irng ((1 : Int)) ((n_2 + (1 : Int))))).map fun k_3 => (p_determinant ((p__law_part table_1 ((irng 0 k_3)) ((irng 0 k_3))))))).length ≤ LM ∧ ∀ minors_9, minors_9 = ([((((1 : Int) : Int) : Rat) : Rat)] ++ (((irng ((1 : Int)) ((n_2 + (1 : Int))))).map fun k_3 => (p_determinant ((p__law_part table_1 ((irng 0 k_3)) ((irng 0 k_3))))))) → p_inertia_pre table_1 ∧ ∀ p_18, p_18 = ((p_inertia table_1)).1 → ∀ q_20, q_20 = ((p_inertia table_1)).2 → p_is_above_pre table_1 ∧ LmOk minors_9.length ∧ ((decide ((p_is_above table_1) ≠ (((minors_9.map fun x_22 => (decide ((0 : Int) < (qsgn x_22))))).all id))) = false → p_is_above_pre table_1) ∧ (((decide ((p_is_above table_1) ≠ (((minors_9.map fun x_22 => (decide ((0 : Int) < (qsgn x_22))))).all id))) || (decide ((p_is_above table_1) ≠ (decide ((p_18, q_20) = (n_2, (0 : Int))))))) = true → R false) ∧ (((decide ((p_is_above table_1) ≠ (((minors_9.map fun x_22 => (decide ((0 : Int) < (qsgn x_22))))).all id))) || (decide ((p_is_above table_1) ≠ (decide ((p_18, q_20) = (n_2, (0 : Int))))))) = false → IxOk minors_9 ((-(1 : Int))) ∧ ((decide ((qsgn ((ix minors_9 ((-(1 : Int)))))) ≠ (0 : Int))) = true → IxOk minors_9 ((-(1 : Int))) ∧ 0 < (2 : Int)) ∧ (((decide ((qsgn ((ix minors_9 ((-(1 : Int)))))) ≠ (0 : Int))) && (decide ((qsgn ((ix minors_9 ((-(1 : Int)))))) ≠ (if (decide ((q_20 % (2 : Int)) = (0 : Int))) = true then (1 : Int) else (-(1 : Int)))))) = true → R false) ∧ (((decide ((qsgn ((ix minors_9 ((-(1 : Int)))))) ≠ (0 : Int))) && (decide ((qsgn ((ix minors_9 ((-(1 : Int)))))) ≠ (if (decide ((q_20 % (2 : Int)) = (0 : Int))) = true then (1 : Int) else (-(1 : Int)))))) = false → LmOk minors_9.length ∧ ((((minors_9.map fun x_29 => (decide ((qsgn x_29) = (0 : Int))))).any id) = true → p_table_rank_pre table_1 ∧ R ((decide ((p_18 + q_20) = (p_table_rank table_1))))) ∧ ((((minors_9.map fun x_29 => (decide ((qsgn x_29) = (0 : Int))))).any id) = false → LmOk ((minors_9.zip ((cutL minors_9 (some (1 : Int)) none)))).length ∧ R (((decide (q_20 = ((((((minors_9.zip ((cutL minors_9 (some (1 : Int)) none)))).filter fun p_33 => (decide ((qsgn p_33.1) ≠ (qsgn p_33.2)))).map fun p_33 => (1 : Int))).length : Int))) && (decide ((p_18 + q_20) = n_2)))))))
theorem det__law_minors_hold (table_1 : (List (List Rat))) (n_2 : Int) : Det fun R => W__law_minors_hold table_1 n_2 R := by unfold W__law_minors_hold; walk_at "det"
def p__law_minors_hold_pre (table_1 : (List (List Rat))) (n_2 : Int) : Prop := W__law_minors_hold table_1 n_2 fun r => r = true
abbrev sp__law_minors_hold (g : Gx) : DS := spG (fun (p : (List (List Rat)) × Int) => [(eT (eT (eQ (Cq g)))) p.1, eI p.2]) (fun p => p__law_minors_hold_pre p.1 p.2) (fun p => true) eB
abbrev Hw__law_minors_hold : Prop := ∀ (table_1 : (List (List Rat))) (n_2 : Int), p__law_minors_hold_pre table_1 n_2 → W__law_minors_hold table_1 n_2 (fun r => r = true)
theorem ok__law_minors_hold : Hw__law_minors_hold := fun table_1 n_2 h => h
def W__law_fewer_hold (table_1 : (List (List Rat))) (n_2 : Int) (st : St2) (R : (Bool × St2) → Prop) : Prop :=
  p__law_take_pre n_2 st ∧ ∀ gone_4, gone_4 = (p__law_take n_2 st).1 → ∀ st_6, st_6 = (p__law_take n_2 st).2 → RgOk n_2 ∧ LmOk ((irng 0 n_2)).length ∧ ∀ held_13, held_13 = ((((irng 0 n_2)).filter fun i_8 => (decide (i_8 ≠ gone_4))).map fun i_8 => i_8) → p_inertia_pre table_1 ∧ ∀ p_18, p_18 = ((p_inertia table_1)).1 → ∀ q_20, q_20 = ((p_inertia table_1)).2 → p__law_part_pre table_1 held_13 held_13 ∧ p_inertia_pre ((p__law_part table_1 held_13 held_13)) ∧ ∀ a_24, a_24 = ((p_inertia ((p__law_part table_1 held_13 held_13)))).1 → ∀ b_26, b_26 = ((p_inertia ((p__law_part table_1 held_13 held_13)))).2 → R ((((decide (a_24 ≤ p_18)) && (decide (p_18 ≤ (a_24 + (1 : Int))))) && ((decide (b_26 ≤ q_20)) && (decide (q_20 ≤ (b_26 + (1 : Int)))))), st_6)
theorem det__law_fewer_hold (table_1 : (List (List Rat))) (n_2 : Int) (st : St2) : Det fun R => W__law_fewer_hold table_1 n_2 st R := by unfold W__law_fewer_hold; walk_at "det"
noncomputable def p__law_fewer_hold (table_1 : (List (List Rat))) (n_2 : Int) (st : St2) : St2 := (run fun R => W__law_fewer_hold table_1 n_2 st R).2
def p__law_fewer_hold_pre (table_1 : (List (List Rat))) (n_2 : Int) (st : St2) : Prop := W__law_fewer_hold table_1 n_2 st fun r => r.1 = true
abbrev sp__law_fewer_hold (g : Gx) : DS := spW (fun (p : (List (List Rat)) × Int) => [(eT (eT (eQ (Cq g)))) p.1, eI p.2]) (fun p st => p__law_fewer_hold_pre p.1 p.2 st) (fun p st => (true, p__law_fewer_hold p.1 p.2 st)) eB
abbrev Hw__law_fewer_hold : Prop := ∀ (table_1 : (List (List Rat))) (n_2 : Int) (st : St2), p__law_fewer_hold_pre table_1 n_2 st → W__law_fewer_hold table_1 n_2 st (fun r => r = (true, p__law_fewer_hold table_1 n_2 st))
theorem ok__law_fewer_hold : Hw__law_fewer_hold := fun table_1 n_2 st h => ((run_of (det__law_fewer_hold table_1 n_2 st) h).2 _).mpr (Prod.ext (run_of (det__law_fewer_hold table_1 n_2 st) h).1 rfl)
def W__law_sums_hold (one_1 : (List (List Rat))) (two_2 : (List (List Rat))) (n_3 : Int) (st : St2) (R : (Bool × St2) → Prop) : Prop :=
  p_inertia_pre one_1 ∧ p_inertia_pre two_2 ∧ ∀ p_6, p_6 = ((p_inertia one_1)).1 → ∀ q_8, q_8 = ((p_inertia one_1)).2 → ∀ a_10, a_10 = ((p_inertia two_2)).1 → ∀ b_12, b_12 = ((p_inertia two_2)).2 → p_table_plus_pre one_1 two_2 ((1 : Int)) ∧ p_inertia_pre ((p_table_plus one_1 two_2 ((1 : Int)))) ∧ ∀ c_16, c_16 = ((p_inertia ((p_table_plus one_1 two_2 ((1 : Int)))))).1 → ∀ d_18, d_18 = ((p_inertia ((p_table_plus one_1 two_2 ((1 : Int)))))).2 → (((!((decide ((max (max (p_6 - b_12) (a_10 - q_8)) (0 : Int)) ≤ c_16)) && (decide (c_16 ≤ (p_6 + a_10))))) || (!((decide ((max (max (q_8 - a_10) (b_12 - p_6)) (0 : Int)) ≤ d_18)) && (decide (d_18 ≤ (q_8 + b_12)))))) = true → R (false, st)) ∧ (((!((decide ((max (max (p_6 - b_12) (a_10 - q_8)) (0 : Int)) ≤ c_16)) && (decide (c_16 ≤ (p_6 + a_10))))) || (!((decide ((max (max (q_8 - a_10) (b_12 - p_6)) (0 : Int)) ≤ d_18)) && (decide (d_18 ≤ (q_8 + b_12)))))) = false → p_table_plus_pre one_1 one_1 ((-(2 : Int))) ∧ p_inertia_pre ((p_table_plus one_1 one_1 ((-(2 : Int))))) ∧ ((decide ((p_inertia ((p_table_plus one_1 one_1 ((-(2 : Int)))))) ≠ (q_8, p_6))) = false → p_table_plus_pre one_1 two_2 ((0 : Int)) ∧ p_inertia_pre ((p_table_plus one_1 two_2 ((0 : Int))))) ∧ (((decide ((p_inertia ((p_table_plus one_1 one_1 ((-(2 : Int)))))) ≠ (q_8, p_6))) || (decide ((p_inertia ((p_table_plus one_1 two_2 ((0 : Int))))) ≠ (p_6, q_8)))) = true → R (false, st)) ∧ (((decide ((p_inertia ((p_table_plus one_1 one_1 ((-(2 : Int)))))) ≠ (q_8, p_6))) || (decide ((p_inertia ((p_table_plus one_1 two_2 ((0 : Int))))) ≠ (p_6, q_8)))) = false → p__law_take_pre ((2 : Int)) st ∧ ∀ m_24, m_24 = ((1 : Int) + (p__law_take ((2 : Int)) st).1) → ∀ st_26, st_26 = (p__law_take ((2 : Int)) st).2 → p__law_table_pre m_24 st_26 ∧ ∀ small_29, small_29 = (p__law_table m_24 st_26).1 → ∀ st_31, st_31 = (p__law_table m_24 st_26).2 → p_inertia_pre small_29 ∧ ∀ r_34, r_34 = ((p_inertia small_29)).1 → ∀ s_36, s_36 = ((p_inertia small_29)).2 → LmOk one_1.length ∧ (∀ row_38 ∈ one_1, (1 ≤ m_24 ∧ m_24 ≤ 1000) ∧ row_38.length + ((rpt m_24 (((((0 : Int) : Int) : Rat) : Rat)))).length ≤ LM) ∧ LmOk small_29.length ∧ (∀ row_41 ∈ small_29, (1 ≤ n_3 ∧ n_3 ≤ 1000) ∧ ((rpt n_3 (((((0 : Int) : Int) : Rat) : Rat)))).length + row_41.length ≤ LM) ∧ ((one_1.map fun row_38 => (row_38 ++ (rpt m_24 (((((0 : Int) : Int) : Rat) : Rat)))))).length + ((small_29.map fun row_41 => ((rpt n_3 (((((0 : Int) : Int) : Rat) : Rat))) ++ row_41))).length ≤ LM ∧ ∀ larger_49, larger_49 = ((one_1.map fun row_38 => (row_38 ++ (rpt m_24 (((((0 : Int) : Int) : Rat) : Rat))))) ++ (small_29.map fun row_41 => ((rpt n_3 (((((0 : Int) : Int) : Rat) : Rat))) ++ row_41))) → p_inertia_pre larger_49 ∧ ((decide ((p_inertia larger_49) ≠ ((p_6 + r_34), (q_8 + s_36)))) = false → p_determinant_pre larger_49 ∧ p_determinant_pre one_1 ∧ p_determinant_pre small_29 ∧ (Qz ((p_determinant one_1)) ∧ Qz ((p_determinant small_29)))) ∧ (((decide ((p_inertia larger_49) ≠ ((p_6 + r_34), (q_8 + s_36)))) || (decide ((p_determinant larger_49) ≠ ((p_determinant one_1) * (p_determinant small_29))))) = true → R (false, st_31)) ∧ (((decide ((p_inertia larger_49) ≠ ((p_6 + r_34), (q_8 + s_36)))) || (decide ((p_determinant larger_49) ≠ ((p_determinant one_1) * (p_determinant small_29))))) = false → ∀ both_61, both_61 = ([] : (List (List Rat))) → RgOk n_3 ∧ for1 ((irng 0 n_3)) both_61 (fun (i_67 : Nat) (i_66 : Int) (both_64 : (List (List Rat))) N_68 => RgOk m_24 ∧ for1 ((irng 0 m_24)) both_64 (fun (i_73 : Nat) (k_72 : Int) (both_70 : (List (List Rat))) N_74 => ∀ row_75, row_75 = ([] : (List Rat)) → RgOk n_3 ∧ for1 ((irng 0 n_3)) row_75 (fun (i_81 : Nat) (j_80 : Int) (row_78 : (List Rat)) N_82 => IxOk small_29 k_72 ∧ LmOk ((ix small_29 k_72)).length ∧ (∀ x_83 ∈ (ix small_29 k_72), IxOk one_1 i_66 ∧ IxOk ((ix one_1 i_66)) j_80 ∧ (Qz ((ix ((ix one_1 i_66)) j_80)) ∧ Qz x_83)) ∧ row_78.length + ((((ix small_29 k_72)).map fun x_83 => ((ix ((ix one_1 i_66)) j_80) * x_83))).length ≤ LM ∧ ∀ row_90, row_90 = (row_78 ++ (((ix small_29 k_72)).map fun x_83 => ((ix ((ix one_1 i_66)) j_80) * x_83))) → N_82 row_90) (fun (row_78 : (List Rat)) => both_70.length < LM ∧ ∀ both_98, both_98 = (both_70 ++ [row_78]) → N_74 both_98)) (fun (both_70 : (List (List Rat))) => N_68 both_70)) (fun (both_64 : (List (List Rat))) => MulOk n_3 m_24 ∧ ((decide ((n_3 * m_24) ≤ (6 : Int))) = true → p_inertia_pre both_64 ∧ MulOk p_6 r_34 ∧ MulOk q_8 s_36 ∧ MulOk p_6 s_36 ∧ MulOk q_8 r_34) ∧ (((decide ((n_3 * m_24) ≤ (6 : Int))) && (decide ((p_inertia both_64) ≠ (((p_6 * r_34) + (q_8 * s_36)), ((p_6 * s_36) + (q_8 * r_34)))))) = true → R (false, st_31)) ∧ (((decide ((n_3 * m_24) ≤ (6 : Int))) && (decide ((p_inertia both_64) ≠ (((p_6 * r_34) + (q_8 * s_36)), ((p_6 * s_36) + (q_8 * r_34)))))) = false → p_turned_pre one_1 ∧ p_table_times_pre one_1 ((p_turned one_1)) ∧ ∀ gram_114, gram_114 = (p_table_times one_1 ((p_turned one_1))) → p_inertia_pre gram_114 ∧ p_table_rank_pre one_1 ∧ ((decide ((p_inertia gram_114) = ((p_table_rank one_1), (0 : Int)))) = true → p_trace_pre gram_114 ∧ LmOk one_1.length ∧ (∀ row_116 ∈ one_1, LmOk row_116.length ∧ (∀ x_119 ∈ row_116, (Qz x_119 ∧ Qz x_119)) ∧ p__law_total_pre ((row_116.map fun x_119 => (x_119 * x_119)))) ∧ p__law_total_pre ((one_1.map fun row_116 => (p__law_total ((row_116.map fun x_119 => (x_119 * x_119))))))) ∧ R (((decide ((p_inertia gram_114) = ((p_table_rank one_1), (0 : Int)))) && (decide ((p_trace gram_114) = (p__law_total ((one_1.map fun row_116 => (p__law_total ((row_116.map fun x_119 => (x_119 * x_119)))))))))), st_31))))))
theorem det__law_sums_hold (one_1 : (List (List Rat))) (two_2 : (List (List Rat))) (n_3 : Int) (st : St2) : Det fun R => W__law_sums_hold one_1 two_2 n_3 st R := by unfold W__law_sums_hold; walk_at "det"
noncomputable def p__law_sums_hold (one_1 : (List (List Rat))) (two_2 : (List (List Rat))) (n_3 : Int) (st : St2) : St2 := (run fun R => W__law_sums_hold one_1 two_2 n_3 st R).2
def p__law_sums_hold_pre (one_1 : (List (List Rat))) (two_2 : (List (List Rat))) (n_3 : Int) (st : St2) : Prop := W__law_sums_hold one_1 two_2 n_3 st fun r => r.1 = true
abbrev sp__law_sums_hold (g : Gx) : DS := spW (fun (p : (List (List Rat)) × (List (List Rat)) × Int) => [(eT (eT (eQ (Cq g)))) p.1, (eT (eT (eQ (Cq g)))) p.2.1, eI p.2.2]) (fun p st => p__law_sums_hold_pre p.1 p.2.1 p.2.2 st) (fun p st => (true, p__law_sums_hold p.1 p.2.1 p.2.2 st)) eB
abbrev Hw__law_sums_hold : Prop := ∀ (one_1 : (List (List Rat))) (two_2 : (List (List Rat))) (n_3 : Int) (st : St2), p__law_sums_hold_pre one_1 two_2 n_3 st → W__law_sums_hold one_1 two_2 n_3 st (fun r => r = (true, p__law_sums_hold one_1 two_2 n_3 st))
theorem ok__law_sums_hold : Hw__law_sums_hold := fun one_1 two_2 n_3 st h => ((run_of (det__law_sums_hold one_1 two_2 n_3 st) h).2 _).mpr (Prod.ext (run_of (det__law_sums_hold one_1 two_2 n_3 st) h).1 rfl)
def W__law_squares_hold (table_1 : (List (List Rat))) (n_2 : Int) (R : Bool → Prop) : Prop :=
  p_squares_of_pre table_1 ∧ p_inertia_pre table_1 ∧ p_inertia_pre table_1 ∧ ∀ pairs_6, pairs_6 = (p_squares_of table_1) → ∀ p_8, p_8 = ((p_inertia table_1)).1 → ∀ q_10, q_10 = ((p_inertia table_1)).2 → LmOk pairs_6.length ∧ ((decide (((((pairs_6.filter fun p_12 => (decide ((0 : Int) < (qsgn p_12.1)))).map fun p_12 => (1 : Int))).length : Int) ≠ p_8)) = false → LmOk pairs_6.length) ∧ (((decide (((((pairs_6.filter fun p_12 => (decide ((0 : Int) < (qsgn p_12.1)))).map fun p_12 => (1 : Int))).length : Int) ≠ p_8)) || (decide (((((pairs_6.filter fun p_14 => (decide ((qsgn p_14.1) < (0 : Int)))).map fun p_14 => (1 : Int))).length : Int) ≠ q_10))) = true → R false) ∧ (((decide (((((pairs_6.filter fun p_12 => (decide ((0 : Int) < (qsgn p_12.1)))).map fun p_12 => (1 : Int))).length : Int) ≠ p_8)) || (decide (((((pairs_6.filter fun p_14 => (decide ((qsgn p_14.1) < (0 : Int)))).map fun p_14 => (1 : Int))).length : Int) ≠ q_10))) = false → RgOk n_2 ∧ for0 ((irng 0 n_2))  (fun (i_21 : Nat) (i_20 : Int) N_22 => RgOk n_2 ∧ for0 ((irng 0 n_2))  (fun (i_26 : Nat) (j_25 : Int) N_27 => LmOk pairs_6.length ∧ (∀ p_28 ∈ pairs_6, IxOk p_28.2 i_20 ∧ (Qz p_28.1 ∧ Qz ((ix p_28.2 i_20))) ∧ IxOk p_28.2 j_25 ∧ (Qz ((p_28.1 * (ix p_28.2 i_20))) ∧ Qz ((ix p_28.2 j_25)))) ∧ p__law_total_pre ((pairs_6.map fun p_28 => ((p_28.1 * (ix p_28.2 i_20)) * (ix p_28.2 j_25)))) ∧ IxOk table_1 i_20 ∧ IxOk ((ix table_1 i_20)) j_25 ∧ ((decide ((p__law_total ((pairs_6.map fun p_28 => ((p_28.1 * (ix p_28.2 i_20)) * (ix p_28.2 j_25))))) ≠ (ix ((ix table_1 i_20)) j_25))) = true → R false) ∧ ((decide ((p__law_total ((pairs_6.map fun p_28 => ((p_28.1 * (ix p_28.2 i_20)) * (ix p_28.2 j_25))))) ≠ (ix ((ix table_1 i_20)) j_25))) = false → N_27 ())) (N_22 ())) (LmOk pairs_6.length ∧ p__law_rank_pre ((pairs_6.map fun p_48 => p_48.2)) ∧ R ((decide ((p__law_rank ((pairs_6.map fun p_48 => p_48.2))) = (p_8 + q_10))))))
theorem det__law_squares_hold (table_1 : (List (List Rat))) (n_2 : Int) : Det fun R => W__law_squares_hold table_1 n_2 R := by unfold W__law_squares_hold; walk_at "det"
def p__law_squares_hold_pre (table_1 : (List (List Rat))) (n_2 : Int) : Prop := W__law_squares_hold table_1 n_2 fun r => r = true
abbrev sp__law_squares_hold (g : Gx) : DS := spG (fun (p : (List (List Rat)) × Int) => [(eT (eT (eQ (Cq g)))) p.1, eI p.2]) (fun p => p__law_squares_hold_pre p.1 p.2) (fun p => true) eB
abbrev Hw__law_squares_hold : Prop := ∀ (table_1 : (List (List Rat))) (n_2 : Int), p__law_squares_hold_pre table_1 n_2 → W__law_squares_hold table_1 n_2 (fun r => r = true)
theorem ok__law_squares_hold : Hw__law_squares_hold := fun table_1 n_2 h => h
end Fw
end

section
set_option Elab.async false
set_option linter.all false
set_option maxRecDepth 100000
set_option maxHeartbeats 4000000
namespace Fw
open PySem PySem.Spec PyProof.Rows L2
local macro_rules | `(tactic| walk_at "vis") => `(tactic| first | exact Or.inl rfl | exact Or.inr (Or.inl rfl) | exact Or.inr (Or.inr rfl))
local macro_rules | `(tactic| walk_at "loc") => `(tactic| first | exact Or.inl rfl | exact Or.inr rfl)
local macro_rules | `(tactic| walk_at "or0") => `(tactic| exact Or.inl ⟨rfl, rfl⟩)
local macro_rules | `(tactic| walk_at "or1") => `(tactic| exact Or.inr ⟨rfl, rfl⟩)
local macro_rules | `(tactic| walk_at "or30") => `(tactic| exact Or.inl ⟨rfl, rfl, rfl⟩)
local macro_rules | `(tactic| walk_at "det") => `(tactic| repeat' (first
  | exact det_leaf _ | exact det_false | refine det_if ?_ ?_ | refine det_val fun _ => ?_ | refine det_ok ?_
  | refine det_for0 (fun _ _ => ?_) ?_ | refine det_for1 (fun _ _ _ => ?_) (fun _ => ?_) | refine det_for2 (fun _ _ _ _ => ?_) (fun _ _ => ?_) | refine det_for3 (fun _ _ _ _ _ => ?_) (fun _ _ _ => ?_) | refine det_for4 (fun _ _ _ _ _ _ => ?_) (fun _ _ _ _ => ?_)
  | refine det_whl1 (fun _ => ?_) (fun _ => ?_) | refine det_whl2 (fun _ _ => ?_) (fun _ _ => ?_) | refine det_whl3 (fun _ _ _ => ?_) (fun _ _ _ => ?_) | refine det_whl4 (fun _ _ _ _ => ?_) (fun _ _ _ _ => ?_)
  | refine det_jn0 ?_ ?_ | refine det_jn1 ?_ (fun _ => ?_) | refine det_jn2 ?_ (fun _ _ => ?_) | refine det_jn3 ?_ (fun _ _ _ => ?_) | refine det_jn4 ?_ (fun _ _ _ _ => ?_)))
local macro_rules | `(tactic| walk_at "or31") => `(tactic| exact Or.inr ⟨rfl, rfl, rfl⟩)
def lstep (p : St2) (c : Int) : St2 := (p.1 * 1000003 + (c.natAbs : Int), (p.2 * 48271 + c) % 2147483647)
def lstate (ns : List Int) : St2 := ((ns.foldl lstep (0, 1)).1, if (ns.foldl lstep (0, 1)).2 ≠ 1973665155 then (ns.foldl lstep (0, 1)).2 else 7)
def sStF : DSF := fun ds w Q => ∃ ns : List Int, ns.length ≤ 63 ∧ ds = [.rd (ns.map .int)] ∧ Q [.int (lstate ns).1, .int (lstate ns).2] w
theorem sStF_mon : MonF sStF := fun ds w P P' h ⟨n, e, k, q⟩ => ⟨n, e, k, h _ _ q⟩
theorem cut63 {ns : List Int} (h : ns.length ≤ 63) : cutL (ns.map Dat.int) none (some 63) = ns.map eI := by
  unfold cutL
  have e1 : HT.sIx (ns.map Dat.int).length 0 none = 0 := rfl
  have e2 : HT.sIx (ns.map Dat.int).length (ns.map Dat.int).length (some 63) = ns.length := by
    rw [List.length_map]
    unfold HT.sIx
    simp
    omega
  rw [e1, e2, List.drop_zero, Nat.sub_zero, List.take_of_length_le (by rw [List.length_map]; exact Nat.le_refl _)]
theorem w_state {g : Gx} (h : HKL g) : FdF g "_law_state" 3 sStF := by
  refine h.fdF 28 42 rfl rfl rfl rfl (N := ["script", "seed", "total", "cell"]) (ps := ["script"]) ⟨rfl, rfl, rfl, by decide +kernel, rfl, by decide +kernel, by decide +kernel⟩ (fun _ _ _ _ _ _ us hl => match us, hl with | [_], _ => rfl) (fun ds w Q hS => ?_) (fun X fr hK hfn hst ds w Q hS => ?_)
  · obtain ⟨ns, _, rfl, _⟩ := hS; rfl
  · obtain ⟨ns, hl, rfl, hQ⟩ := hS
    have bi := h.bi
    refine css_asg (f := eI) (u := (0 : Int)) fr 1 rfl (.inl rfl) hfn rfl ce_int rfl ?_
    refine css_asg (f := eI) (u := (1 : Int)) fr 2 rfl (.inl rfl) hfn rfl ce_int rfl ?_
    refine css_for (xs := ns) (enc := eI) fr (ci_list ?c) [3] (fun (z : St2) => [.fz (.rd (ns.map .int)), .fz (eI z.1), .fz (eI z.2), .un]) (fun _ => w) (fun i z => z = (ns.take i).foldl lstep (0, 1)) (0, 1) rfl rfl rfl ?_ ?_
    · exact Eq.mp (congrArg (fun z => CE X _ _ _ (.lst z) _) (cut63 hl)) (cf_slR (ce_var fr 0 rfl (.inl rfl) rfl) co_none (co_some ce_int)).ce
    · rintro i x ⟨s0, s1⟩ hx hI
      refine ⟨_, _, ctg_name fr 3 rfl (.inl rfl) (.inl (hfn _)), ?_⟩
      refine css_asg (f := eI) (u := s0 * 1000003 + (x.natAbs : Int)) fr 1 rfl (.inl rfl) hfn rfl (ce_bin (ce_bin (ce_var fr 1 rfl (.inl rfl) rfl) ce_int (b2_mul (mulOk_r (by decide)))) (t_abs bi fr rfl (ce_var fr 3 rfl (.inl rfl) rfl)) b2_add) rfl ?_
      refine css_asg (f := eI) (u := (s1 * 48271 + x) % 2147483647) fr 2 rfl (.inl rfl) hfn rfl (ce_bin (t_intI bi fr rfl (ce_bin (ce_bin (ce_var fr 2 rfl (.inl rfl) rfl) ce_int (b2_mul (mulOk_r (by decide)))) (ce_var fr 3 rfl (.inl rfl) rfl) b2_add)) ce_int (b2_mod (by decide))) rfl ?_
      refine css_nil ⟨(_, _), rfl, rfl, ?_⟩
      rw [List.take_succ, hx, List.foldl_append]
      rw [← hI]
      rfl
    · rintro ⟨s0, s1⟩ hI
      rw [List.take_length] at hI
      refine css_one (cs_retF (cf_lst (ca_cons (ce_var (d := .int s0) fr 1 rfl (.inl rfl) rfl) (ca_cons (t_if (f := eI) (ct_cmp (ce_var fr 2 rfl (.inl rfl) rfl) ce_int t_neI rfl) (fun _ => ce_var (d := eI s1) fr 2 rfl (.inl rfl) rfl) (fun _ => ce_int)) ca_nil)) (Nat.le_of_ble_eq_true rfl)) ?_)
      have e0 : (lstate ns).1 = s0 := by unfold lstate; rw [← hI]
      have e1 : (lstate ns).2 = if decide (s1 ≠ 1973665155) = true then s1 else 7 := by unfold lstate; rw [← hI]; simp
      rw [e0, e1] at hQ
      exact hQ
def W_law (st : St2) (R : Bool × St2 → Prop) : Prop :=
  RgOk ((3 : Int)) ∧ for1 ((irng 0 ((3 : Int)))) st (fun (i_5 : Nat) (t_4 : Int) (st_2 : St2) N_6 => p__law_take_pre ((4 : Int)) st_2 ∧ ∀ n_8, n_8 = ((2 : Int) + (p__law_take ((4 : Int)) st_2).1) → ∀ st_10, st_10 = (p__law_take ((4 : Int)) st_2).2 → p__law_table_pre n_8 st_10 ∧ p__law_table_pre n_8 ((p__law_table n_8 st_10).2) ∧ ∀ one_14, one_14 = (p__law_table n_8 st_10).1 → ∀ two_16, two_16 = (p__law_table n_8 ((p__law_table n_8 st_10).2)).1 → ∀ st_18, st_18 = (p__law_table n_8 ((p__law_table n_8 st_10).2)).2 → p__law_parts_hold_pre one_14 n_8 st_18 ∧ p__law_minors_hold_pre one_14 n_8 ∧ p__law_fewer_hold_pre two_16 n_8 ((p__law_parts_hold one_14 n_8 st_18)) ∧ p__law_sums_hold_pre one_14 two_16 n_8 ((p__law_fewer_hold two_16 n_8 ((p__law_parts_hold one_14 n_8 st_18)))) ∧ p__law_squares_hold_pre two_16 n_8 ∧ N_6 ((p__law_sums_hold one_14 two_16 n_8 ((p__law_fewer_hold two_16 n_8 ((p__law_parts_hold one_14 n_8 st_18))))))) (fun (st_2 : St2) => R (true, st_2))
abbrev Hw_law : Prop := ∀ st : St2, W_law st (fun r => r.1 = true)
theorem w_law {g : Gx} (h : HKL g) (q : QK g) (c_st : FdF g "_law_state" 3 sStF) (c__law_fewer_hold : Fd g "_law_fewer_hold" 78 (sp__law_fewer_hold g)) (c__law_minors_hold : Fd g "_law_minors_hold" 78 (sp__law_minors_hold g)) (c__law_parts_hold : Fd g "_law_parts_hold" 78 (sp__law_parts_hold g)) (c__law_squares_hold : Fd g "_law_squares_hold" 78 (sp__law_squares_hold g)) (c__law_sums_hold : Fd g "_law_sums_hold" 78 (sp__law_sums_hold g)) (c__law_table : Fd g "_law_table" 71 (sp__law_table g)) (c__law_take : Fd g "_law_take" 2 (sp__law_take g)) (hW : Hw_law) {fd : FuncData} (F : FunD g.K "law" "law" (defArgs (tp 52)) (defBody (tp 52)) (defScope (tp 52)) [] [] (He.fAd g.K ("law", none)) fd) : FnOk g.P g.w g.K g.mg g.base CX0 79 (He.fAd g.K ("law", none)) fd ["script"] (spD g.K (sLaw 63)) := by
  refine fn_data (N := ["script", "state", "t", "n", "one", "two"]) (ps := ["script"]) (S := sLaw 63) (wd := g.w) F ⟨rfl, rfl, rfl, by decide +kernel, rfl, by decide +kernel, by decide +kernel⟩ (fun ds w Q hS => ?_) (fun X fr hK hfn hst ds w Q hS => ?_)
  · obtain ⟨ns, _, rfl, _⟩ := hS; rfl
  · obtain ⟨ns, hl, rfl, rfl, hQ⟩ := hS
    have bi := h.bi
    refine CSS.imp (E' := { nx := fun _ _ => False, rt := fun d _ => d = .bl true }) ?_ (fun _ _ z => z.elim) (fun d w e => by rw [show d = .bl true from e]; exact hQ w) (fun _ _ z => z.elim) (fun _ _ z => z.elim) (fun _ _ z => z.elim)
    refine css_world fr 1 rfl (.inl rfl) (cf_call fr c_st (by decide) sStF_mon rfl (ca_cons (ce_var fr 0 rfl (.inl rfl) rfl) ca_nil) ⟨ns, hl, rfl, rfl, rfl⟩) (fun _ _ _ z => z) (fun _ _ z => z) (fun _ _ z => z) (fun _ _ z => z) (fun _ _ z => z) (fun sa => ?_) rfl (.inl (hfn _))
    have hR : ∀ r : Bool × St2, r.1 = true → eB r.1 = .bl true := fun r e => by rw [e]
    obtain ⟨st, hst⟩ : ∃ z, z = lstate ns := ⟨_, rfl⟩
    rw [show (some (sa, (lstate ns).1, (lstate ns).2) : Wd) = wS sa st by rw [hst]]
    have hW := hW st
    unfold W_law at hW
    obtain ⟨k_1, hW⟩ := hW
    obtain ⟨I_3, w_27, w_28, w_29⟩ := hW
    refine css_for (enc := eI) fr (t_ciR bi fr rfl ce_int k_1) [2, 3, 4, 5] (fun (st_2 : St2) => [.fz (.rd (ns.map .int)), .fz (.adr sa), .un, .un, .un, .un]) (fun (st_2 : St2) => (wS sa st_2)) I_3 st rfl rfl w_27 ?_ ?_
    · rintro i_5 t_4 st_2 hx_30 hI_31
      have hW := w_28 i_5 t_4 st_2 hx_30 hI_31
      refine ⟨_, _, (ctg_name fr 2 rfl (by walk_at "loc") (.inl (hfn _))), ?_⟩
      obtain ⟨k_7, hW⟩ := hW
      obtain ⟨n_8, e_9⟩ : ∃ z, z = ((2 : Int) + (p__law_take ((4 : Int)) st_2).1) := ⟨_, rfl⟩
      replace hW := hW n_8 e_9
      obtain ⟨st_10, e_11⟩ : ∃ z, z = (p__law_take ((4 : Int)) st_2).2 := ⟨_, rfl⟩
      replace hW := hW st_10 e_11
      refine css_asg (f := eI) fr 3 rfl (by walk_at "loc") hfn e_9 (ce_bin ce_int (ce_call fr c__law_take (by decide) spW_mon rfl (ca_cons (ce_var fr 1 rfl (by walk_at "vis") rfl) (ca_cons ce_int ca_nil)) ⟨(4 : Int), sa, st_2, rfl, rfl, k_7, rfl, rfl⟩) b2_add) (congrArg (wS sa) e_11) ?_
      obtain ⟨k_12, k_13, hW⟩ := hW
      obtain ⟨one_14, e_15⟩ : ∃ z, z = (p__law_table n_8 st_10).1 := ⟨_, rfl⟩
      replace hW := hW one_14 e_15
      obtain ⟨two_16, e_17⟩ : ∃ z, z = (p__law_table n_8 ((p__law_table n_8 st_10).2)).1 := ⟨_, rfl⟩
      replace hW := hW two_16 e_17
      obtain ⟨st_18, e_19⟩ : ∃ z, z = (p__law_table n_8 ((p__law_table n_8 st_10).2)).2 := ⟨_, rfl⟩
      replace hW := hW st_18 e_19
      refine css_par2 (m1 := (.fz ((eT (eT (eQ (Cq g)))) ((p__law_table n_8 st_10).1)))) (n1 := (.fz ((eT (eT (eQ (Cq g)))) one_14))) (m2 := (.fz ((eT (eT (eQ (Cq g)))) ((p__law_table n_8 ((p__law_table n_8 st_10).2)).1)))) (n2 := (.fz ((eT (eT (eQ (Cq g)))) two_16))) fr 4 5 rfl rfl (by decide) (by walk_at "loc") (by walk_at "loc") hfn (by rw [e_15]) (by rw [e_17]) (ce_call fr c__law_table (by decide) spW_mon rfl (ca_cons (ce_var fr 1 rfl (by walk_at "vis") rfl) (ca_cons (ce_var fr 3 rfl (by walk_at "vis") rfl) ca_nil)) ⟨n_8, sa, st_10, rfl, rfl, k_12, rfl, rfl⟩) (ce_call fr c__law_table (by decide) spW_mon rfl (ca_cons (ce_var fr 1 rfl (by walk_at "vis") rfl) (ca_cons (ce_var fr 3 rfl (by walk_at "vis") rfl) ca_nil)) ⟨n_8, sa, (p__law_table n_8 st_10).2, rfl, rfl, k_13, rfl, rfl⟩) (congrArg (wS sa) e_19) ?_ (by first | exact .inl ⟨rfl, rfl, Cf.sw fr rfl⟩ | exact .inr (Cf.sw fr rfl))
      obtain ⟨k_20, k_21, k_22, hW⟩ := hW
      refine css_if (CW.t (cw_orF (ct_not (ct_val (ce_call fr c__law_parts_hold (by decide) spW_mon rfl (ca_cons (ce_var fr 1 rfl (by walk_at "vis") rfl) (ca_cons (ce_var fr 4 rfl (by walk_at "vis") rfl) (ca_cons (ce_var fr 3 rfl (by walk_at "vis") rfl) ca_nil))) ⟨(one_14, n_8), sa, st_18, rfl, rfl, k_20, rfl, rfl⟩))) (cw_orF (ct_not (ct_val (ce_call fr c__law_minors_hold (by decide) spG_mon rfl (ca_cons (ce_var fr 4 rfl (by walk_at "vis") rfl) (ca_cons (ce_var fr 3 rfl (by walk_at "vis") rfl) ca_nil)) ⟨(one_14, n_8), rfl, k_21, rfl, rfl⟩))) (cw_or1 (ct_not (ct_val (ce_call fr c__law_fewer_hold (by decide) spW_mon rfl (ca_cons (ce_var fr 1 rfl (by walk_at "vis") rfl) (ca_cons (ce_var fr 5 rfl (by walk_at "vis") rfl) (ca_cons (ce_var fr 3 rfl (by walk_at "vis") rfl) ca_nil))) ⟨(two_16, n_8), sa, (p__law_parts_hold one_14 n_8 st_18), rfl, rfl, k_22, rfl, rfl⟩))))))) (fun hc => by cases hc) (fun _ => ?_)
      refine css_nil ?_
      obtain ⟨k_25, k_26, hW⟩ := hW
      refine css_if (CW.t (cw_orF (ct_not (ct_val (ce_call fr c__law_sums_hold (by decide) spW_mon rfl (ca_cons (ce_var fr 1 rfl (by walk_at "vis") rfl) (ca_cons (ce_var fr 4 rfl (by walk_at "vis") rfl) (ca_cons (ce_var fr 5 rfl (by walk_at "vis") rfl) (ca_cons (ce_var fr 3 rfl (by walk_at "vis") rfl) ca_nil)))) ⟨(one_14, two_16, n_8), sa, (p__law_fewer_hold two_16 n_8 ((p__law_parts_hold one_14 n_8 st_18))), rfl, rfl, k_25, rfl, rfl⟩))) (cw_or1 (ct_not (ct_val (ce_call fr c__law_squares_hold (by decide) spG_mon rfl (ca_cons (ce_var fr 5 rfl (by walk_at "vis") rfl) (ca_cons (ce_var fr 3 rfl (by walk_at "vis") rfl) ca_nil)) ⟨(two_16, n_8), rfl, k_26, rfl, rfl⟩)))))) (fun hc => by cases hc) (fun _ => ?_)
      refine css_nil ?_
      refine css_nil ?_
      exact ⟨((p__law_sums_hold one_14 two_16 n_8 ((p__law_fewer_hold two_16 n_8 ((p__law_parts_hold one_14 n_8 st_18)))))), rfl, rfl, hW⟩
    · rintro st_2 hI_31
      have hW := w_29 st_2 hI_31
      exact css_ret (d := eB true) ce_bl (hR (true, st_2) hW)
end Fw
end

section
set_option Elab.async false
set_option linter.all false
set_option maxRecDepth 100000
set_option maxHeartbeats 4000000
namespace Fw
open PySem PySem.Spec PyProof.Rows L2
local macro_rules | `(tactic| walk_at "vis") => `(tactic| first | exact Or.inl rfl | exact Or.inr (Or.inl rfl) | exact Or.inr (Or.inr rfl))
local macro_rules | `(tactic| walk_at "loc") => `(tactic| first | exact Or.inl rfl | exact Or.inr rfl)
local macro_rules | `(tactic| walk_at "or0") => `(tactic| exact Or.inl ⟨rfl, rfl⟩)
local macro_rules | `(tactic| walk_at "or1") => `(tactic| exact Or.inr ⟨rfl, rfl⟩)
local macro_rules | `(tactic| walk_at "or30") => `(tactic| exact Or.inl ⟨rfl, rfl, rfl⟩)
local macro_rules | `(tactic| walk_at "det") => `(tactic| repeat' (first
  | exact det_leaf _ | exact det_false | refine det_if ?_ ?_ | refine det_val fun _ => ?_ | refine det_ok ?_
  | refine det_for0 (fun _ _ => ?_) ?_ | refine det_for1 (fun _ _ _ => ?_) (fun _ => ?_) | refine det_for2 (fun _ _ _ _ => ?_) (fun _ _ => ?_) | refine det_for3 (fun _ _ _ _ _ => ?_) (fun _ _ _ => ?_) | refine det_for4 (fun _ _ _ _ _ _ => ?_) (fun _ _ _ _ => ?_)
  | refine det_whl1 (fun _ => ?_) (fun _ => ?_) | refine det_whl2 (fun _ _ => ?_) (fun _ _ => ?_) | refine det_whl3 (fun _ _ _ => ?_) (fun _ _ _ => ?_) | refine det_whl4 (fun _ _ _ _ => ?_) (fun _ _ _ _ => ?_)
  | refine det_jn0 ?_ ?_ | refine det_jn1 ?_ (fun _ => ?_) | refine det_jn2 ?_ (fun _ _ => ?_) | refine det_jn3 ?_ (fun _ _ _ => ?_) | refine det_jn4 ?_ (fun _ _ _ _ => ?_)))
local macro_rules | `(tactic| walk_at "or31") => `(tactic| exact Or.inr ⟨rfl, rfl, rfl⟩)
theorem w_as_ratio__v_int {g : Gx} (h : HKL g) (q : QK g) (c_is_integer__v_int : Fd g "is_integer" 1 (sp_is_integer__v_int g)) (hW : Hw_as_ratio__v_int) : Fd g "as_ratio" 71 (sp_as_ratio__v_int g) := by
  refine h.fd 3 17 rfl rfl rfl rfl (N := ["value"]) (ps := ["value"]) ⟨rfl, rfl, rfl, by decide +kernel, rfl, by decide +kernel, by decide +kernel⟩ (fun _ _ _ _ _ _ us hl => match us, hl with | [_], _ => rfl) (fun ds w Q hS => ?_) (fun X fr hK hfn hst ds w Q hS => ?_)
  · obtain ⟨p, rfl, _⟩ := hS; rfl
  · obtain ⟨value_1, rfl, hp, hQ⟩ := hS
    have hR : ∀ r, r = ofI value_1 → Q ((eQ (Cq g)) r) w := fun r e => by rw [e]; exact hQ
    replace hW := hW value_1
    unfold W_as_ratio__v_int at hW
    have bi := h.bi
    refine css_if (ct_val (ce_call fr c_is_integer__v_int (by decide) spG_mon rfl (ca_cons (ce_var fr 0 rfl (by walk_at "vis") rfl) ca_nil) ⟨value_1, rfl, trivial, rfl, rfl⟩)) (fun _ => ?_) (fun hc => by cases hc)
    exact css_ret (d := (eQ (Cq g)) ((((value_1 : Int) : Rat) : Rat))) (t_mk1 q fr (by decide) rfl (ce_var fr 0 rfl (by walk_at "vis") rfl)) (hR ((((value_1 : Int) : Rat) : Rat)) hW)
theorem w_are_ratios {g : Gx} (h : HKL g) (q : QK g)  (hW : Hw_are_ratios) : Fd g "are_ratios" 71 (sp_are_ratios g) := by
  refine h.fd 4 18 rfl rfl rfl rfl (N := ["value", "own"]) (ps := ["value"]) ⟨rfl, rfl, rfl, by decide +kernel, rfl, by decide +kernel, by decide +kernel⟩ (fun _ _ _ _ _ _ us hl => match us, hl with | [_], _ => rfl) (fun ds w Q hS => ?_) (fun X fr hK hfn hst ds w Q hS => ?_)
  · obtain ⟨p, rfl, _⟩ := hS; rfl
  · obtain ⟨value_1, rfl, hp, hQ⟩ := hS
    have hR : ∀ r, r = true → Q (eB r) w := fun r e => by rw [e]; exact hQ
    replace hW := hW value_1 hp
    unfold W_are_ratios at hW
    have bi := h.bi
    obtain ⟨k_4, hW⟩ := hW
    exact css_ret (d := eB ((((value_1.map fun own_2 => true)).all id))) (ce_andT (ce_isiB (T := "tuple") (b := true) bi fr rfl rfl bi.tuple (by decide +kernel) (ce_var fr 0 rfl (by walk_at "vis") rfl) tyT (by rfl)) (ce_one (t_all bi fr rfl (t_fz (LcD.cf fr (t_lc (f := eB) (own := [("own", 1)]) (val := fun own_2 => true) (t_ciT (f := (eQ (Cq g))) (ce_var fr 0 rfl (by walk_at "vis") rfl)) k_4 ⟨rfl, by decide +kernel, by decide +kernel, by decide +kernel, by decide +kernel⟩ (fun own_2 hx_5 => by exact ⟨_, _, by decide, fun X_6 B_3 => ⟨(ctg_name B_3.cf 1 rfl (by walk_at "loc") (by first | exact .inr rfl | exact .inl ((B_3.fn _).mpr rfl))), (ce_isiC (b := true) bi B_3.cf rfl rfl (h.glo 63 rfl) (ce_var B_3.cf 1 rfl (by walk_at "vis") rfl) (.obj h.ic) (kit_same _))⟩⟩))))))) (hR ((((value_1.map fun own_2 => true)).all id)) hW)
theorem w_ratio_sum {g : Gx} (h : HKL g) (q : QK g)  (hW : Hw_ratio_sum) : Fd g "ratio_sum" 71 (sp_ratio_sum g) := by
  refine h.fd 5 19 rfl rfl rfl rfl (N := ["values", "found", "own"]) (ps := ["values"]) ⟨rfl, rfl, rfl, by decide +kernel, rfl, by decide +kernel, by decide +kernel⟩ (fun _ _ _ _ _ _ us hl => match us, hl with | [_], _ => rfl) (fun ds w Q hS => ?_) (fun X fr hK hfn hst ds w Q hS => ?_)
  · obtain ⟨p, rfl, _⟩ := hS; rfl
  · obtain ⟨values_1, rfl, hp, hQ⟩ := hS
    have hR : ∀ r, r = p_ratio_sum values_1 → Q ((eQ (Cq g)) r) w := fun r e => by rw [e]; exact hQ
    replace hW := hW values_1 hp
    unfold W_ratio_sum at hW
    have bi := h.bi
    obtain ⟨found_2, e_3⟩ : ∃ z, z = ((((0 : Int) : Int) : Rat) : Rat) := ⟨_, rfl⟩
    replace hW := hW found_2 e_3
    refine css_asg (f := (eQ (Cq g))) fr 1 rfl (by walk_at "loc") hfn e_3 (t_mk1 q fr (by decide) rfl ce_int) rfl ?_
    obtain ⟨I_5, w_12, w_13, w_14⟩ := hW
    refine css_for (enc := (eQ (Cq g))) fr (t_ciL (f := (eQ (Cq g))) (ce_var fr 0 rfl (by walk_at "vis") rfl)) [2] (fun (found_4 : Rat) => [.fz ((eL (eQ (Cq g))) values_1), .fz ((eQ (Cq g)) found_4), .un]) (fun (found_4 : Rat) => w) I_5 found_2 rfl rfl w_12 ?_ ?_
    · rintro i_7 own_6 found_4 hx_15 hI_16
      have hW := w_13 i_7 own_6 found_4 hx_15 hI_16
      refine ⟨_, _, (ctg_name fr 2 rfl (by walk_at "loc") (.inl (hfn _))), ?_⟩
      obtain ⟨k_9, hW⟩ := hW
      obtain ⟨found_10, e_11⟩ : ∃ z, z = (found_4 + own_6) := ⟨_, rfl⟩
      replace hW := hW found_10 e_11
      refine css_asg (f := (eQ (Cq g))) fr 1 rfl (by walk_at "loc") hfn e_11 (t_add q fr (by decide) (ce_var fr 1 rfl (by walk_at "vis") rfl) (ce_var fr 2 rfl (by walk_at "vis") rfl) k_9) rfl ?_
      refine css_nil ?_
      exact ⟨found_10, rfl, rfl, hW⟩
    · rintro found_4 hI_16
      have hW := w_14 found_4 hI_16
      exact css_ret (d := (eQ (Cq g)) found_4) (ce_var fr 1 rfl (by walk_at "vis") rfl) (hR (found_4) hW)
theorem w_ratio_dot {g : Gx} (h : HKL g) (q : QK g) (c_ratio_sum : Fd g "ratio_sum" 71 (sp_ratio_sum g)) (hW : Hw_ratio_dot) : Fd g "ratio_dot" 72 (sp_ratio_dot g) := by
  refine h.fd 6 20 rfl rfl rfl rfl (N := ["one", "two", "a", "b"]) (ps := ["one", "two"]) ⟨rfl, rfl, rfl, by decide +kernel, rfl, by decide +kernel, by decide +kernel⟩ (fun _ _ _ _ _ _ us hl => match us, hl with | [_, _], _ => rfl) (fun ds w Q hS => ?_) (fun X fr hK hfn hst ds w Q hS => ?_)
  · obtain ⟨p, rfl, _⟩ := hS; rfl
  · obtain ⟨⟨one_1, two_2⟩, rfl, hp, hQ⟩ := hS
    have hR : ∀ r, r = p_ratio_dot one_1 two_2 → Q ((eQ (Cq g)) r) w := fun r e => by rw [e]; exact hQ
    replace hW := hW one_1 two_2 hp
    unfold W_ratio_dot at hW
    have bi := h.bi
    obtain ⟨k_5, k_6, k_7, hW⟩ := hW
    exact css_ret (d := (eQ (Cq g)) ((p_ratio_sum ((((one_1.zip two_2)).map fun p_3 => (p_3.1 * p_3.2)))))) (ce_call fr c_ratio_sum (by decide) spG_mon rfl (ca_cons (t_fz (LcD.cf fr (t_lc (f := (eQ (Cq g))) (own := [("a", 2), ("b", 3)]) (val := fun p_3 => (p_3.1 * p_3.2)) (t_ciZT (f := (eQ (Cq g))) (h := (eQ (Cq g))) bi fr rfl (ce_var fr 0 rfl (by walk_at "vis") rfl) (ce_var fr 1 rfl (by walk_at "vis") rfl)) k_5 ⟨rfl, by decide +kernel, by decide +kernel, by decide +kernel, by decide +kernel⟩ (fun p_3 hx_8 => by obtain k_9 := k_6 p_3 hx_8; exact ⟨_, _, by decide, fun X_10 B_4 => ⟨(ctg_tup B_4.cf (ctgs_cons (ctg_name B_4.cf 2 rfl (by walk_at "loc") (by first | exact .inr rfl | exact .inl ((B_4.fn _).mpr rfl))) (ctgs_cons (ctg_name B_4.cf 3 rfl (by walk_at "loc") (by first | exact .inr rfl | exact .inl ((B_4.fn _).mpr rfl))) ctgs_nil))), (t_mul q B_4.cf (by decide) (ce_var B_4.cf 2 rfl (by walk_at "vis") rfl) (ce_var B_4.cf 3 rfl (by walk_at "vis") rfl) k_9)⟩⟩)))) ca_nil) ⟨(((one_1.zip two_2)).map fun p_3 => (p_3.1 * p_3.2)), rfl, k_7, rfl, rfl⟩) (hR ((p_ratio_sum ((((one_1.zip two_2)).map fun p_3 => (p_3.1 * p_3.2))))) hW)
theorem w_is_table {g : Gx} (h : HKL g) (q : QK g) (c_are_ratios : Fd g "are_ratios" 71 (sp_are_ratios g)) (hW : Hw_is_table) : Fd g "is_table" 72 (sp_is_table g) := by
  refine h.fd 7 21 rfl rfl rfl rfl (N := ["value", "row"]) (ps := ["value"]) ⟨rfl, rfl, rfl, by decide +kernel, rfl, by decide +kernel, by decide +kernel⟩ (fun _ _ _ _ _ _ us hl => match us, hl with | [_], _ => rfl) (fun ds w Q hS => ?_) (fun X fr hK hfn hst ds w Q hS => ?_)
  · obtain ⟨p, rfl, _⟩ := hS; rfl
  · obtain ⟨value_1, rfl, hp, hQ⟩ := hS
    have hR : ∀ r, r = true → Q (eB r) w := fun r e => by rw [e]; exact hQ
    replace hW := hW value_1 hp
    unfold W_is_table at hW
    have bi := h.bi
    obtain ⟨k_4, hW⟩ := hW
    obtain ⟨w_12, w_13⟩ := hW
    refine css_if (CW.t (cw_orF (ct_not (ct_val (ce_isiB (T := "tuple") (b := true) bi fr rfl rfl bi.tuple (by decide +kernel) (ce_var fr 0 rfl (by walk_at "vis") rfl) tyT (by rfl)))) (cw_or (ct_cmp (t_lenT bi fr rfl (ce_var fr 0 rfl (by walk_at "vis") rfl)) (ce_globI fr rfl (h.int 68 rfl)) b2_gt rfl) (fun hc => by obtain ⟨k_14, k_15⟩ := k_4 hc; exact (cw_or1 (ct_not (ct_val (t_all bi fr rfl (t_fz (LcD.cf fr (t_lc (f := eB) (own := [("row", 1)]) (val := fun row_2 => true) (t_ciT (f := (eT (eQ (Cq g)))) (ce_var fr 0 rfl (by walk_at "vis") rfl)) k_14 ⟨rfl, by decide +kernel, by decide +kernel, by decide +kernel, by decide +kernel⟩ (fun row_2 hx_16 => by obtain k_17 := k_15 row_2 hx_16; exact ⟨_, _, by decide, fun X_18 B_3 => ⟨(ctg_name B_3.cf 1 rfl (by walk_at "loc") (by first | exact .inr rfl | exact .inl ((B_3.fn _).mpr rfl))), (ce_call B_3.cf c_are_ratios (by decide) spG_mon rfl (ca_cons (ce_var B_3.cf 1 rfl (by walk_at "vis") rfl) ca_nil) ⟨row_2, rfl, k_17, rfl, rfl⟩)⟩⟩)))))))))))) (fun hc => ?_) (fun hc => ?_)
    · have hW := w_12 hc
      exact css_ret (d := eB false) ce_bl (hR (false) hW)
    · have hW := w_13 hc
      refine css_nil ?_
      obtain ⟨k_7, k_8, hW⟩ := hW
      exact css_ret (d := eB ((((value_1.map fun row_5 => ((decide ((row_5.length : Int) = (((ix value_1 ((0 : Int)))).length : Int))) && (decide ((row_5.length : Int) ≤ (400 : Int)))))).all id))) (t_all bi fr rfl (t_fz (LcD.cf fr (t_lc (f := eB) (own := [("row", 1)]) (val := fun row_5 => ((decide ((row_5.length : Int) = (((ix value_1 ((0 : Int)))).length : Int))) && (decide ((row_5.length : Int) ≤ (400 : Int))))) (t_ciT (f := (eT (eQ (Cq g)))) (ce_var fr 0 rfl (by walk_at "vis") rfl)) k_7 ⟨rfl, by decide +kernel, by decide +kernel, by decide +kernel, by decide +kernel⟩ (fun row_5 hx_9 => by obtain k_10 := k_8 row_5 hx_9; exact ⟨_, _, by decide, fun X_11 B_6 => ⟨(ctg_name B_6.cf 1 rfl (by walk_at "loc") (by first | exact .inr rfl | exact .inl ((B_6.fn _).mpr rfl))), (ce_and (ce_cmp (t_lenT bi B_6.cf rfl (ce_var B_6.cf 1 rfl (by walk_at "vis") rfl)) (t_lenT bi B_6.cf rfl (t_ixT (f := (eT (eQ (Cq g)))) (ce_var B_6.cf 0 rfl (by walk_at "vis") rfl) ce_int k_10)) t_eqI rfl) (fun _ => (ce_one (ce_cmp (t_lenT bi B_6.cf rfl (ce_var B_6.cf 1 rfl (by walk_at "vis") rfl)) (ce_globI B_6.cf rfl (h.int 68 rfl)) b2_le rfl))))⟩⟩))))) (hR ((((value_1.map fun row_5 => ((decide ((row_5.length : Int) = (((ix value_1 ((0 : Int)))).length : Int))) && (decide ((row_5.length : Int) ≤ (400 : Int)))))).all id)) hW)
theorem w_check_table {g : Gx} (h : HKL g) (q : QK g) (c_is_table : Fd g "is_table" 72 (sp_is_table g)) (hW : Hw_check_table) : Fd g "check_table" 73 (sp_check_table g) := by
  refine h.fd 8 22 rfl rfl rfl rfl (N := ["value"]) (ps := ["value"]) ⟨rfl, rfl, rfl, by decide +kernel, rfl, by decide +kernel, by decide +kernel⟩ (fun _ _ _ _ _ _ us hl => match us, hl with | [_], _ => rfl) (fun ds w Q hS => ?_) (fun X fr hK hfn hst ds w Q hS => ?_)
  · obtain ⟨p, rfl, _⟩ := hS; rfl
  · obtain ⟨value_1, rfl, hp, hQ⟩ := hS
    have hR : ∀ r, r = () → Q (eN r) w := fun r e => by rw [e]; exact hQ
    replace hW := hW value_1 hp
    unfold W_check_table at hW
    have bi := h.bi
    obtain ⟨k_2, hW⟩ := hW
    refine css_if (ct_not (ct_val (ce_call fr c_is_table (by decide) spG_mon rfl (ca_cons (ce_var fr 0 rfl (by walk_at "vis") rfl) ca_nil) ⟨value_1, rfl, k_2, rfl, rfl⟩))) (fun hc => by cases hc) (fun _ => ?_)
    refine css_nil ?_
    refine css_nil ?_
    exact hR _ hW
theorem w_wide_of {g : Gx} (h : HKL g) (q : QK g)  (hW : Hw_wide_of) : Fd g "wide_of" 71 (sp_wide_of g) := by
  refine h.fd 9 23 rfl rfl rfl rfl (N := ["table"]) (ps := ["table"]) ⟨rfl, rfl, rfl, by decide +kernel, rfl, by decide +kernel, by decide +kernel⟩ (fun _ _ _ _ _ _ us hl => match us, hl with | [_], _ => rfl) (fun ds w Q hS => ?_) (fun X fr hK hfn hst ds w Q hS => ?_)
  · obtain ⟨p, rfl, _⟩ := hS; rfl
  · obtain ⟨table_1, rfl, hp, hQ⟩ := hS
    have hR : ∀ r, r = wide table_1 → Q (eI r) w := fun r e => by rw [e]; exact hQ
    replace hW := hW table_1
    unfold W_wide_of at hW
    have bi := h.bi
    obtain ⟨k_2, hW⟩ := hW
    exact css_ret (d := eI ((if (decide ((0 : Int) < (table_1.length : Int))) = true then (((ix table_1 ((0 : Int)))).length : Int) else (0 : Int)))) (t_if (f := eI) (ct_cmp (t_lenT bi fr rfl (ce_var fr 0 rfl (by walk_at "vis") rfl)) ce_int b2_gt rfl) (fun hc => by obtain k_3 := k_2 hc; exact (t_lenT bi fr rfl (t_ixT (f := (eT (eQ (Cq g)))) (ce_var fr 0 rfl (by walk_at "vis") rfl) ce_int k_3))) (fun _ => ce_int)) (hR ((if (decide ((0 : Int) < (table_1.length : Int))) = true then (((ix table_1 ((0 : Int)))).length : Int) else (0 : Int))) hW)
theorem w_unit_table {g : Gx} (h : HKL g) (q : QK g)  (hW : Hw_unit_table) : Fd g "unit_table" 71 (sp_unit_table g) := by
  refine h.fd 10 24 rfl rfl rfl rfl (N := ["n", "i", "j"]) (ps := ["n"]) ⟨rfl, rfl, rfl, by decide +kernel, rfl, by decide +kernel, by decide +kernel⟩ (fun _ _ _ _ _ _ us hl => match us, hl with | [_], _ => rfl) (fun ds w Q hS => ?_) (fun X fr hK hfn hst ds w Q hS => ?_)
  · obtain ⟨p, rfl, _⟩ := hS; rfl
  · obtain ⟨n_1, rfl, hp, hQ⟩ := hS
    have hR : ∀ r, r = p_unit_table n_1 → Q ((eT (eT (eQ (Cq g)))) r) w := fun r e => by rw [e]; exact hQ
    replace hW := hW n_1 hp
    unfold W_unit_table at hW
    have bi := h.bi
    obtain ⟨k_6, k_7, k_8, hW⟩ := hW
    exact css_ret (d := (eT (eT (eQ (Cq g)))) ((((irng 0 n_1)).map fun i_2 => (((irng 0 n_1)).map fun j_4 => ((((if (decide (i_2 = j_4)) = true then (1 : Int) else 0) : Int) : Rat) : Rat))))) (t_tupL (f := (eT (eQ (Cq g)))) bi fr rfl (t_fz (LcD.cf fr (t_lc (f := (eT (eQ (Cq g)))) (own := [("i", 1)]) (val := fun i_2 => (((irng 0 n_1)).map fun j_4 => ((((if (decide (i_2 = j_4)) = true then (1 : Int) else 0) : Int) : Rat) : Rat))) (t_ciR bi fr rfl (ce_var fr 0 rfl (by walk_at "vis") rfl) k_6) k_7 ⟨rfl, by decide +kernel, by decide +kernel, by decide +kernel, by decide +kernel⟩ (fun i_2 hx_9 => by obtain ⟨k_10, k_11⟩ := k_8 i_2 hx_9; exact ⟨_, _, by decide, fun X_14 B_3 => ⟨(ctg_name B_3.cf 1 rfl (by walk_at "loc") (by first | exact .inr rfl | exact .inl ((B_3.fn _).mpr rfl))), (t_tupL (f := (eQ (Cq g))) bi B_3.cf rfl (t_fz (LcD.cf B_3.cf (t_lc (f := (eQ (Cq g))) (own := [("j", 2)]) (val := fun j_4 => ((((if (decide (i_2 = j_4)) = true then (1 : Int) else 0) : Int) : Rat) : Rat)) (t_ciR bi B_3.cf rfl (ce_var B_3.cf 0 rfl (by walk_at "vis") rfl) k_10) k_11 ⟨rfl, by decide +kernel, by decide +kernel, by decide +kernel, by decide +kernel⟩ (fun j_4 hx_12 => by exact ⟨_, _, by decide, fun X_13 B_5 => ⟨(ctg_name B_5.cf 2 rfl (by walk_at "loc") (by first | exact .inr rfl | exact .inl ((B_5.fn _).mpr rfl))), (t_mk1 q B_5.cf (by decide) rfl (t_boolI bi B_5.cf rfl (ce_cmp (ce_var B_5.cf 1 rfl (by walk_at "vis") rfl) (ce_var B_5.cf 2 rfl (by walk_at "vis") rfl) t_eqI rfl)))⟩⟩)))))⟩⟩))))) (hR ((((irng 0 n_1)).map fun i_2 => (((irng 0 n_1)).map fun j_4 => ((((if (decide (i_2 = j_4)) = true then (1 : Int) else 0) : Int) : Rat) : Rat)))) hW)
theorem w_turned {g : Gx} (h : HKL g) (q : QK g) (c_check_table : Fd g "check_table" 73 (sp_check_table g)) (c_wide_of : Fd g "wide_of" 71 (sp_wide_of g)) (hW : Hw_turned) : Fd g "turned" 74 (sp_turned g) := by
  refine h.fd 11 25 rfl rfl rfl rfl (N := ["table", "k", "row"]) (ps := ["table"]) ⟨rfl, rfl, rfl, by decide +kernel, rfl, by decide +kernel, by decide +kernel⟩ (fun _ _ _ _ _ _ us hl => match us, hl with | [_], _ => rfl) (fun ds w Q hS => ?_) (fun X fr hK hfn hst ds w Q hS => ?_)
  · obtain ⟨p, rfl, _⟩ := hS; rfl
  · obtain ⟨table_1, rfl, hp, hQ⟩ := hS
    have hR : ∀ r, r = p_turned table_1 → Q ((eT (eT (eQ (Cq g)))) r) w := fun r e => by rw [e]; exact hQ
    replace hW := hW table_1 hp
    unfold W_turned at hW
    have bi := h.bi
    obtain ⟨k_2, hW⟩ := hW
    refine css_drop (ce_call fr c_check_table (by decide) spG_mon rfl (ca_cons (ce_var fr 0 rfl (by walk_at "vis") rfl) ca_nil) ⟨table_1, rfl, k_2, rfl, rfl⟩) ?_
    obtain ⟨k_7, k_8, k_9, hW⟩ := hW
    exact css_ret (d := (eT (eT (eQ (Cq g)))) ((((irng 0 ((wide table_1)))).map fun k_3 => (table_1.map fun row_5 => (ix row_5 k_3))))) (t_tupL (f := (eT (eQ (Cq g)))) bi fr rfl (t_fz (LcD.cf fr (t_lc (f := (eT (eQ (Cq g)))) (own := [("k", 1)]) (val := fun k_3 => (table_1.map fun row_5 => (ix row_5 k_3))) (t_ciR bi fr rfl (ce_call fr c_wide_of (by decide) spG_mon rfl (ca_cons (ce_var fr 0 rfl (by walk_at "vis") rfl) ca_nil) ⟨table_1, rfl, trivial, rfl, rfl⟩) k_7) k_8 ⟨rfl, by decide +kernel, by decide +kernel, by decide +kernel, by decide +kernel⟩ (fun k_3 hx_10 => by obtain ⟨k_11, k_12⟩ := k_9 k_3 hx_10; exact ⟨_, _, by decide, fun X_16 B_4 => ⟨(ctg_name B_4.cf 1 rfl (by walk_at "loc") (by first | exact .inr rfl | exact .inl ((B_4.fn _).mpr rfl))), (t_tupL (f := (eQ (Cq g))) bi B_4.cf rfl (t_fz (LcD.cf B_4.cf (t_lc (f := (eQ (Cq g))) (own := [("row", 2)]) (val := fun row_5 => (ix row_5 k_3)) (t_ciT (f := (eT (eQ (Cq g)))) (ce_var B_4.cf 0 rfl (by walk_at "vis") rfl)) k_11 ⟨rfl, by decide +kernel, by decide +kernel, by decide +kernel, by decide +kernel⟩ (fun row_5 hx_13 => by obtain k_14 := k_12 row_5 hx_13; exact ⟨_, _, by decide, fun X_15 B_6 => ⟨(ctg_name B_6.cf 2 rfl (by walk_at "loc") (by first | exact .inr rfl | exact .inl ((B_6.fn _).mpr rfl))), (t_ixT (f := (eQ (Cq g))) (ce_var B_6.cf 2 rfl (by walk_at "vis") rfl) (ce_var B_6.cf 1 rfl (by walk_at "vis") rfl) k_14)⟩⟩)))))⟩⟩))))) (hR ((((irng 0 ((wide table_1)))).map fun k_3 => (table_1.map fun row_5 => (ix row_5 k_3)))) hW)
theorem w_table_times {g : Gx} (h : HKL g) (q : QK g) (c_check_table : Fd g "check_table" 73 (sp_check_table g)) (c_ratio_dot : Fd g "ratio_dot" 72 (sp_ratio_dot g)) (c_turned : Fd g "turned" 74 (sp_turned g)) (c_wide_of : Fd g "wide_of" 71 (sp_wide_of g)) (hW : Hw_table_times) : Fd g "table_times" 75 (sp_table_times g) := by
  refine h.fd 12 26 rfl rfl rfl rfl (N := ["one", "two", "columns", "row", "column"]) (ps := ["one", "two"]) ⟨rfl, rfl, rfl, by decide +kernel, rfl, by decide +kernel, by decide +kernel⟩ (fun _ _ _ _ _ _ us hl => match us, hl with | [_, _], _ => rfl) (fun ds w Q hS => ?_) (fun X fr hK hfn hst ds w Q hS => ?_)
  · obtain ⟨p, rfl, _⟩ := hS; rfl
  · obtain ⟨⟨one_1, two_2⟩, rfl, hp, hQ⟩ := hS
    have hR : ∀ r, r = p_table_times one_1 two_2 → Q ((eT (eT (eQ (Cq g)))) r) w := fun r e => by rw [e]; exact hQ
    replace hW := hW one_1 two_2 hp
    unfold W_table_times at hW
    have bi := h.bi
    obtain ⟨k_3, hW⟩ := hW
    refine css_drop (ce_call fr c_check_table (by decide) spG_mon rfl (ca_cons (ce_var fr 0 rfl (by walk_at "vis") rfl) ca_nil) ⟨one_1, rfl, k_3, rfl, rfl⟩) ?_
    obtain ⟨k_4, hW⟩ := hW
    refine css_drop (ce_call fr c_check_table (by decide) spG_mon rfl (ca_cons (ce_var fr 1 rfl (by walk_at "vis") rfl) ca_nil) ⟨two_2, rfl, k_4, rfl, rfl⟩) ?_
    obtain ⟨w_21, w_22⟩ := hW
    refine css_if (ct_cmp (ce_call fr c_wide_of (by decide) spG_mon rfl (ca_cons (ce_var fr 0 rfl (by walk_at "vis") rfl) ca_nil) ⟨one_1, rfl, trivial, rfl, rfl⟩) (t_lenT bi fr rfl (ce_var fr 1 rfl (by walk_at "vis") rfl)) t_neI rfl) (fun hc => ?_) (fun hc => ?_)
    · have hW := w_21 hc
      exact hW.elim
    · have hW := w_22 hc
      refine css_nil ?_
      obtain ⟨k_5, hW⟩ := hW
      obtain ⟨columns_6, e_7⟩ : ∃ z, z = (p_turned two_2) := ⟨_, rfl⟩
      replace hW := hW columns_6 e_7
      refine css_asg (f := (eT (eT (eQ (Cq g))))) fr 2 rfl (by walk_at "loc") hfn e_7 (ce_call fr c_turned (by decide) spG_mon rfl (ca_cons (ce_var fr 1 rfl (by walk_at "vis") rfl) ca_nil) ⟨two_2, rfl, k_5, rfl, rfl⟩) rfl ?_
      obtain ⟨k_12, k_13, hW⟩ := hW
      exact css_ret (d := (eT (eT (eQ (Cq g)))) ((one_1.map fun row_8 => (columns_6.map fun column_10 => (p_ratio_dot row_8 column_10))))) (t_tupL (f := (eT (eQ (Cq g)))) bi fr rfl (t_fz (LcD.cf fr (t_lc (f := (eT (eQ (Cq g)))) (own := [("row", 3)]) (val := fun row_8 => (columns_6.map fun column_10 => (p_ratio_dot row_8 column_10))) (t_ciT (f := (eT (eQ (Cq g)))) (ce_var fr 0 rfl (by walk_at "vis") rfl)) k_12 ⟨rfl, by decide +kernel, by decide +kernel, by decide +kernel, by decide +kernel⟩ (fun row_8 hx_14 => by obtain ⟨k_15, k_16⟩ := k_13 row_8 hx_14; exact ⟨_, _, by decide, fun X_20 B_9 => ⟨(ctg_name B_9.cf 3 rfl (by walk_at "loc") (by first | exact .inr rfl | exact .inl ((B_9.fn _).mpr rfl))), (t_tupL (f := (eQ (Cq g))) bi B_9.cf rfl (t_fz (LcD.cf B_9.cf (t_lc (f := (eQ (Cq g))) (own := [("column", 4)]) (val := fun column_10 => (p_ratio_dot row_8 column_10)) (t_ciT (f := (eT (eQ (Cq g)))) (ce_var B_9.cf 2 rfl (by walk_at "vis") rfl)) k_15 ⟨rfl, by decide +kernel, by decide +kernel, by decide +kernel, by decide +kernel⟩ (fun column_10 hx_17 => by obtain k_18 := k_16 column_10 hx_17; exact ⟨_, _, by decide, fun X_19 B_11 => ⟨(ctg_name B_11.cf 4 rfl (by walk_at "loc") (by first | exact .inr rfl | exact .inl ((B_11.fn _).mpr rfl))), (ce_call B_11.cf c_ratio_dot (by decide) spG_mon rfl (ca_cons (ce_var B_11.cf 3 rfl (by walk_at "vis") rfl) (ca_cons (ce_var B_11.cf 4 rfl (by walk_at "vis") rfl) ca_nil)) ⟨(row_8, column_10), rfl, k_18, rfl, rfl⟩)⟩⟩)))))⟩⟩))))) (hR ((one_1.map fun row_8 => (columns_6.map fun column_10 => (p_ratio_dot row_8 column_10)))) hW)
theorem w_table_plus {g : Gx} (h : HKL g) (q : QK g) (c_as_ratio__v_int : Fd g "as_ratio" 71 (sp_as_ratio__v_int g)) (c_check_table : Fd g "check_table" 73 (sp_check_table g)) (c_wide_of : Fd g "wide_of" 71 (sp_wide_of g)) (hW : Hw_table_plus) : Fd g "table_plus" 74 (sp_table_plus g) := by
  refine h.fd 13 27 rfl rfl rfl rfl (N := ["one", "two", "k", "many", "row", "line", "a", "b"]) (ps := ["one", "two", "k"]) ⟨rfl, rfl, rfl, by decide +kernel, rfl, by decide +kernel, by decide +kernel⟩ (fun _ _ _ _ _ _ us hl => match us, hl with | [_, _, _], _ => rfl) (fun ds w Q hS => ?_) (fun X fr hK hfn hst ds w Q hS => ?_)
  · obtain ⟨p, rfl, _⟩ := hS; rfl
  · obtain ⟨⟨one_1, two_2, k_3⟩, rfl, hp, hQ⟩ := hS
    have hR : ∀ r, r = p_table_plus one_1 two_2 k_3 → Q ((eT (eT (eQ (Cq g)))) r) w := fun r e => by rw [e]; exact hQ
    replace hW := hW one_1 two_2 k_3 hp
    unfold W_table_plus at hW
    have bi := h.bi
    obtain ⟨k_4, hW⟩ := hW
    refine css_drop (ce_call fr c_check_table (by decide) spG_mon rfl (ca_cons (ce_var fr 0 rfl (by walk_at "vis") rfl) ca_nil) ⟨one_1, rfl, k_4, rfl, rfl⟩) ?_
    obtain ⟨k_5, hW⟩ := hW
    refine css_drop (ce_call fr c_check_table (by decide) spG_mon rfl (ca_cons (ce_var fr 1 rfl (by walk_at "vis") rfl) ca_nil) ⟨two_2, rfl, k_5, rfl, rfl⟩) ?_
    obtain ⟨w_22, w_23⟩ := hW
    refine css_if (CW.t (cw_or (ct_cmp (t_lenT bi fr rfl (ce_var fr 0 rfl (by walk_at "vis") rfl)) (t_lenT bi fr rfl (ce_var fr 1 rfl (by walk_at "vis") rfl)) t_neI rfl) (fun _ => (cw_or1 (ct_cmp (ce_call fr c_wide_of (by decide) spG_mon rfl (ca_cons (ce_var fr 0 rfl (by walk_at "vis") rfl) ca_nil) ⟨one_1, rfl, trivial, rfl, rfl⟩) (ce_call fr c_wide_of (by decide) spG_mon rfl (ca_cons (ce_var fr 1 rfl (by walk_at "vis") rfl) ca_nil) ⟨two_2, rfl, trivial, rfl, rfl⟩) t_neI rfl))))) (fun hc => ?_) (fun hc => ?_)
    · have hW := w_22 hc
      exact hW.elim
    · have hW := w_23 hc
      refine css_nil ?_
      obtain ⟨many_6, e_7⟩ : ∃ z, z = (ofI k_3) := ⟨_, rfl⟩
      replace hW := hW many_6 e_7
      refine css_asg (f := (eQ (Cq g))) fr 3 rfl (by walk_at "loc") hfn e_7 (ce_call fr c_as_ratio__v_int (by decide) spG_mon rfl (ca_cons (ce_var fr 2 rfl (by walk_at "vis") rfl) ca_nil) ⟨k_3, rfl, trivial, rfl, rfl⟩) rfl ?_
      obtain ⟨k_12, k_13, hW⟩ := hW
      exact css_ret (d := (eT (eT (eQ (Cq g)))) ((((one_1.zip two_2)).map fun p_8 => (((p_8.1.zip p_8.2)).map fun p_10 => (p_10.1 + (many_6 * p_10.2)))))) (t_tupL (f := (eT (eQ (Cq g)))) bi fr rfl (t_fz (LcD.cf fr (t_lc (f := (eT (eQ (Cq g)))) (own := [("row", 4), ("line", 5)]) (val := fun p_8 => (((p_8.1.zip p_8.2)).map fun p_10 => (p_10.1 + (many_6 * p_10.2)))) (t_ciZT (f := (eT (eQ (Cq g)))) (h := (eT (eQ (Cq g)))) bi fr rfl (ce_var fr 0 rfl (by walk_at "vis") rfl) (ce_var fr 1 rfl (by walk_at "vis") rfl)) k_12 ⟨rfl, by decide +kernel, by decide +kernel, by decide +kernel, by decide +kernel⟩ (fun p_8 hx_14 => by obtain ⟨k_15, k_16⟩ := k_13 p_8 hx_14; exact ⟨_, _, by decide, fun X_21 B_9 => ⟨(ctg_tup B_9.cf (ctgs_cons (ctg_name B_9.cf 4 rfl (by walk_at "loc") (by first | exact .inr rfl | exact .inl ((B_9.fn _).mpr rfl))) (ctgs_cons (ctg_name B_9.cf 5 rfl (by walk_at "loc") (by first | exact .inr rfl | exact .inl ((B_9.fn _).mpr rfl))) ctgs_nil))), (t_tupL (f := (eQ (Cq g))) bi B_9.cf rfl (t_fz (LcD.cf B_9.cf (t_lc (f := (eQ (Cq g))) (own := [("a", 6), ("b", 7)]) (val := fun p_10 => (p_10.1 + (many_6 * p_10.2))) (t_ciZT (f := (eQ (Cq g))) (h := (eQ (Cq g))) bi B_9.cf rfl (ce_var B_9.cf 4 rfl (by walk_at "vis") rfl) (ce_var B_9.cf 5 rfl (by walk_at "vis") rfl)) k_15 ⟨rfl, by decide +kernel, by decide +kernel, by decide +kernel, by decide +kernel⟩ (fun p_10 hx_17 => by obtain ⟨k_18, k_19⟩ := k_16 p_10 hx_17; exact ⟨_, _, by decide, fun X_20 B_11 => ⟨(ctg_tup B_11.cf (ctgs_cons (ctg_name B_11.cf 6 rfl (by walk_at "loc") (by first | exact .inr rfl | exact .inl ((B_11.fn _).mpr rfl))) (ctgs_cons (ctg_name B_11.cf 7 rfl (by walk_at "loc") (by first | exact .inr rfl | exact .inl ((B_11.fn _).mpr rfl))) ctgs_nil))), (t_add q B_11.cf (by decide) (ce_var B_11.cf 6 rfl (by walk_at "vis") rfl) (t_mul q B_11.cf (by decide) (ce_var B_11.cf 3 rfl (by walk_at "vis") rfl) (ce_var B_11.cf 7 rfl (by walk_at "vis") rfl) k_18) k_19)⟩⟩)))))⟩⟩))))) (hR ((((one_1.zip two_2)).map fun p_8 => (((p_8.1.zip p_8.2)).map fun p_10 => (p_10.1 + (many_6 * p_10.2))))) hW)
theorem w_less_row {g : Gx} (h : HKL g) (q : QK g)  (hW : Hw_less_row) : Fd g "less_row" 71 (sp_less_row g) := by
  refine h.fd 15 29 rfl rfl rfl rfl (N := ["row", "lead", "many", "x", "y"]) (ps := ["row", "lead", "many"]) ⟨rfl, rfl, rfl, by decide +kernel, rfl, by decide +kernel, by decide +kernel⟩ (fun _ _ _ _ _ _ us hl => match us, hl with | [_, _, _], _ => rfl) (fun ds w Q hS => ?_) (fun X fr hK hfn hst ds w Q hS => ?_)
  · obtain ⟨p, rfl, _⟩ := hS; rfl
  · obtain ⟨⟨row_1, lead_2, many_3⟩, rfl, hp, hQ⟩ := hS
    have hR : ∀ r, r = p_less_row row_1 lead_2 many_3 → Q ((eL (eQ (Cq g))) r) w := fun r e => by rw [e]; exact hQ
    replace hW := hW row_1 lead_2 many_3 hp
    unfold W_less_row at hW
    have bi := h.bi
    obtain ⟨k_6, k_7, hW⟩ := hW
    exact css_ret (d := (eL (eQ (Cq g))) ((((row_1.zip lead_2)).map fun p_4 => (if (decide ((qsgn p_4.2) ≠ (0 : Int))) = true then (p_4.1 - (many_3 * p_4.2)) else p_4.1)))) (t_fz (LcD.cf fr (t_lc (f := (eQ (Cq g))) (own := [("x", 3), ("y", 4)]) (val := fun p_4 => (if (decide ((qsgn p_4.2) ≠ (0 : Int))) = true then (p_4.1 - (many_3 * p_4.2)) else p_4.1)) (t_ciZL (f := (eQ (Cq g))) (h := (eQ (Cq g))) bi fr rfl (ce_var fr 0 rfl (by walk_at "vis") rfl) (ce_var fr 1 rfl (by walk_at "vis") rfl)) k_6 ⟨rfl, by decide +kernel, by decide +kernel, by decide +kernel, by decide +kernel⟩ (fun p_4 hx_8 => by obtain k_9 := k_7 p_4 hx_8; exact ⟨_, _, by decide, fun X_12 B_5 => ⟨(ctg_tup B_5.cf (ctgs_cons (ctg_name B_5.cf 3 rfl (by walk_at "loc") (by first | exact .inr rfl | exact .inl ((B_5.fn _).mpr rfl))) (ctgs_cons (ctg_name B_5.cf 4 rfl (by walk_at "loc") (by first | exact .inr rfl | exact .inl ((B_5.fn _).mpr rfl))) ctgs_nil))), (t_if (f := (eQ (Cq g))) (ct_cmp (t_sign q B_5.cf (by decide) (ce_var B_5.cf 4 rfl (by walk_at "vis") rfl)) ce_int t_neI rfl) (fun hc => by obtain ⟨k_10, k_11⟩ := k_9 hc; exact (t_sub q B_5.cf (by decide) (ce_var B_5.cf 3 rfl (by walk_at "vis") rfl) (t_mul q B_5.cf (by decide) (ce_var B_5.cf 2 rfl (by walk_at "vis") rfl) (ce_var B_5.cf 4 rfl (by walk_at "vis") rfl) k_10) k_11)) (fun _ => (ce_var B_5.cf 3 rfl (by walk_at "vis") rfl)))⟩⟩)))) (hR ((((row_1.zip lead_2)).map fun p_4 => (if (decide ((qsgn p_4.2) ≠ (0 : Int))) = true then (p_4.1 - (many_3 * p_4.2)) else p_4.1))) hW)
theorem w_echelon {g : Gx} (h : HKL g) (q : QK g) (c_check_table : Fd g "check_table" 73 (sp_check_table g)) (c_less_row : Fd g "less_row" 71 (sp_less_row g)) (c_wide_of : Fd g "wide_of" 71 (sp_wide_of g)) (hW : Hw_echelon) : Fd g "echelon" 74 (sp_echelon g) := by
  refine h.fd 14 28 rfl rfl rfl rfl (N := ["table", "k", "rows", "places", "at", "top", "lead", "i", "row", "x"]) (ps := ["table"]) ⟨rfl, rfl, rfl, by decide +kernel, rfl, by decide +kernel, by decide +kernel⟩ (fun _ _ _ _ _ _ us hl => match us, hl with | [_], _ => rfl) (fun ds w Q hS => ?_) (fun X fr hK hfn hst ds w Q hS => ?_)
  · obtain ⟨p, rfl, _⟩ := hS; rfl
  · obtain ⟨table_1, rfl, hp, hQ⟩ := hS
    have hR : ∀ r, r = p_echelon table_1 → Q ((eP (eT (eT (eQ (Cq g)))) (eT eI)) r) w := fun r e => by rw [e]; exact hQ
    replace hW := hW table_1 hp
    unfold W_echelon at hW
    have bi := h.bi
    obtain ⟨k_2, hW⟩ := hW
    refine css_drop (ce_call fr c_check_table (by decide) spG_mon rfl (ca_cons (ce_var fr 0 rfl (by walk_at "vis") rfl) ca_nil) ⟨table_1, rfl, k_2, rfl, rfl⟩) ?_
    obtain ⟨k_5, hW⟩ := hW
    obtain ⟨rows_6, e_7⟩ : ∃ z, z = (table_1.map fun row_3 => row_3) := ⟨_, rfl⟩
    replace hW := hW rows_6 e_7
    obtain ⟨places_8, e_9⟩ : ∃ z, z = ([] : (List Int)) := ⟨_, rfl⟩
    replace hW := hW places_8 e_9
    refine css_par2 (m1 := (.nw (((table_1.map fun row_3 => row_3)).map (eL (eQ (Cq g)))))) (n1 := (.nw (rows_6.map (eL (eQ (Cq g)))))) (m2 := (.nw ((([] : (List Int))).map eI))) (n2 := (.nw (places_8.map eI))) fr 2 3 rfl rfl (by decide) (by walk_at "loc") (by walk_at "loc") hfn (by rw [e_7]) (by rw [e_9]) (LcD.cf fr (t_lc (f := (eL (eQ (Cq g)))) (own := [("row", 8)]) (val := fun row_3 => row_3) (t_ciT (f := (eT (eQ (Cq g)))) (ce_var fr 0 rfl (by walk_at "vis") rfl)) k_5 ⟨rfl, by decide +kernel, by decide +kernel, by decide +kernel, by decide +kernel⟩ (fun row_3 hx_10 => by exact ⟨_, _, by decide, fun X_11 B_4 => ⟨(ctg_name B_4.cf 8 rfl (by walk_at "loc") (by first | exact .inr rfl | exact .inl ((B_4.fn _).mpr rfl))), (t_fz (t_lstT bi B_4.cf rfl (ce_var B_4.cf 8 rfl (by walk_at "vis") rfl)))⟩⟩))) (t_lst0 (f := eI)) rfl ?_ (by first | exact .inl ⟨rfl, rfl, Cf.sw fr rfl⟩ | exact .inr (Cf.sw fr rfl))
    obtain ⟨k_12, hW⟩ := hW
    obtain ⟨I_15, w_89, w_90, w_91⟩ := hW
    refine css_for (enc := eI) fr (t_ciR bi fr rfl (ce_call fr c_wide_of (by decide) spG_mon rfl (ca_cons (ce_var fr 0 rfl (by walk_at "vis") rfl) ca_nil) ⟨table_1, rfl, trivial, rfl, rfl⟩) k_12) [1, 4, 5, 6, 7] (fun (z : (List (List Rat)) × (List Int)) => [.fz ((eT (eT (eQ (Cq g)))) table_1), .un, .ow (z.1.map (eL (eQ (Cq g)))), .ow (z.2.map eI), .un, .un, .un, .un, .un, .un]) (fun (z : (List (List Rat)) × (List Int)) => w) I_15 (rows_6, places_8) rfl rfl w_89 ?_ ?_
    · rintro i_17 k_16 ⟨rows_13, places_14⟩ hx_92 hI_93
      have hW := w_90 i_17 k_16 rows_13 places_14 hx_92 hI_93
      refine ⟨_, _, (ctg_name fr 1 rfl (by walk_at "loc") (.inl (hfn _))), ?_⟩
      obtain ⟨k_21, k_22, k_23, hW⟩ := hW
      obtain ⟨at_24, e_25⟩ : ∃ z, z = ((((irng ((places_14.length : Int)) ((rows_13.length : Int)))).filter fun i_19 => (decide ((qsgn ((ix ((ix rows_13 i_19)) k_16))) ≠ (0 : Int)))).map fun i_19 => i_19) := ⟨_, rfl⟩
      replace hW := hW at_24 e_25
      refine css_lc (f := eI) fr 4 rfl rfl rfl e_25 (t_lcF (f := eI) (own := [("i", 7)]) (val := fun i_19 => i_19) (pr := fun i_19 => (decide ((qsgn ((ix ((ix rows_13 i_19)) k_16))) ≠ (0 : Int)))) (t_ciR2 bi fr rfl (t_lenO bi fr rfl 3 rfl (by walk_at "vis") rfl) (t_lenO bi fr rfl 2 rfl (by walk_at "vis") rfl) k_21) k_22 ⟨rfl, by decide +kernel, by decide +kernel, by decide +kernel, by decide +kernel⟩ (fun i_19 hx_26 => by obtain ⟨k_27, k_28⟩ := k_23 i_19 hx_26; exact ⟨_, _, by decide, fun X_29 B_20 => ⟨(ctg_name B_20.cf 7 rfl (by walk_at "loc") (by first | exact .inr rfl | exact .inl ((B_20.fn _).mpr rfl))), (ct_cmp (t_sign q B_20.cf (by decide) (t_ixL (f := (eQ (Cq g))) (t_ixO (f := (eL (eQ (Cq g)))) B_20.cf 2 rfl (by walk_at "vis") rfl (ce_var B_20.cf 7 rfl (by walk_at "vis") rfl) k_27) (ce_var B_20.cf 1 rfl (by walk_at "vis") rfl) k_28)) ce_int t_neI rfl), (fun _ => (ce_var B_20.cf 7 rfl (by walk_at "vis") rfl))⟩⟩)) rfl ?_
      obtain ⟨w_82, w_83⟩ := hW
      refine css_if (ct_cmp (t_lenL bi fr rfl (ce_var fr 4 rfl (by walk_at "vis") rfl)) ce_int b2_gt rfl) (fun hc => ?_) (fun hc => ?_)
      · have hW := w_82 hc
        obtain ⟨top_30, e_31⟩ : ∃ z, z = (places_14.length : Int) := ⟨_, rfl⟩
        replace hW := hW top_30 e_31
        refine css_asg (f := eI) fr 5 rfl (by walk_at "loc") hfn e_31 (t_lenO bi fr rfl 3 rfl (by walk_at "vis") rfl) rfl ?_
        obtain ⟨k_32, k_33, k_34, k_35, k_36, k_37, hW⟩ := hW
        obtain ⟨rows_38, e_39⟩ : ∃ z, z = (setI (setI rows_13 top_30 ((ix rows_13 ((ix at_24 ((0 : Int))))))) ((ix at_24 ((0 : Int)))) ((ix rows_13 top_30))) := ⟨_, rfl⟩
        replace hW := hW rows_38 e_39
        refine css_swap (hsw := Cf.sw fr rfl) (f := (eL (eQ (Cq g)))) (v1 := (ix rows_13 ((ix at_24 ((0 : Int)))))) (v2 := (ix rows_13 top_30)) fr 2 rfl (by walk_at "vis") rfl (t_ixO (f := (eL (eQ (Cq g)))) fr 2 rfl (by walk_at "vis") rfl (t_ixL (f := eI) (ce_var fr 4 rfl (by walk_at "vis") rfl) ce_int k_32) k_33) (t_ixO (f := (eL (eQ (Cq g)))) fr 2 rfl (by walk_at "vis") rfl (ce_var fr 5 rfl (by walk_at "vis") rfl) k_34) (ce_var fr 5 rfl (by walk_at "vis") rfl) (t_ixL (f := eI) (ce_var fr 4 rfl (by walk_at "vis") rfl) ce_int k_35) k_36 k_37 e_39 ?_
        obtain ⟨k_40, k_41, hW⟩ := hW
        obtain ⟨lead_42, e_43⟩ : ∃ z, z = (ix ((ix rows_38 top_30)) k_16) := ⟨_, rfl⟩
        replace hW := hW lead_42 e_43
        refine css_asg (f := (eQ (Cq g))) fr 6 rfl (by walk_at "loc") hfn e_43 (t_ixL (f := (eQ (Cq g))) (t_ixO (f := (eL (eQ (Cq g)))) fr 2 rfl (by walk_at "vis") rfl (ce_var fr 5 rfl (by walk_at "vis") rfl) k_40) (ce_var fr 1 rfl (by walk_at "vis") rfl) k_41) rfl ?_
        obtain ⟨k_46, k_47, k_48, k_49, hW⟩ := hW
        obtain ⟨rows_50, e_51⟩ : ∃ z, z = (setI rows_38 top_30 ((((ix rows_38 top_30)).map fun x_44 => (x_44 / lead_42)))) := ⟨_, rfl⟩
        replace hW := hW rows_50 e_51
        refine css_sub (f := (eL (eQ (Cq g)))) fr 2 rfl (by walk_at "vis") rfl (t_fz (LcD.cf fr (t_lc (f := (eQ (Cq g))) (own := [("x", 9)]) (val := fun x_44 => (x_44 / lead_42)) (t_ciL (f := (eQ (Cq g))) (t_ixO (f := (eL (eQ (Cq g)))) fr 2 rfl (by walk_at "vis") rfl (ce_var fr 5 rfl (by walk_at "vis") rfl) k_46)) k_47 ⟨rfl, by decide +kernel, by decide +kernel, by decide +kernel, by decide +kernel⟩ (fun x_44 hx_52 => by obtain k_53 := k_48 x_44 hx_52; exact ⟨_, _, by decide, fun X_54 B_45 => ⟨(ctg_name B_45.cf 9 rfl (by walk_at "loc") (by first | exact .inr rfl | exact .inl ((B_45.fn _).mpr rfl))), (t_over q B_45.cf (by decide) (ce_var B_45.cf 9 rfl (by walk_at "vis") rfl) (ce_var B_45.cf 6 rfl (by walk_at "vis") rfl) k_53)⟩⟩)))) (ce_var fr 5 rfl (by walk_at "vis") rfl) k_49 e_51 ?_
        obtain ⟨k_55, hW⟩ := hW
        obtain ⟨I_57, w_77, w_78, w_79⟩ := hW
        refine css_for (enc := eI) fr (t_ciR bi fr rfl (t_lenO bi fr rfl 2 rfl (by walk_at "vis") rfl) k_55) [7] (fun (rows_56 : (List (List Rat))) => [.fz ((eT (eT (eQ (Cq g)))) table_1), .fz (eI k_16), .ow (rows_56.map (eL (eQ (Cq g)))), .ow (places_14.map eI), .fz ((eL eI) at_24), .fz (eI top_30), .fz ((eQ (Cq g)) lead_42), .un, .un, .un]) (fun (rows_56 : (List (List Rat))) => w) I_57 rows_50 rfl rfl w_77 ?_ ?_
        · rintro i_59 i_58 rows_56 hx_80 hI_81
          have hW := w_78 i_59 i_58 rows_56 hx_80 hI_81
          refine ⟨_, _, (ctg_name fr 7 rfl (by walk_at "loc") (.inl (hfn _))), ?_⟩
          obtain ⟨k_61, hW⟩ := hW
          obtain ⟨w_70, w_71⟩ := hW
          refine css_if (CW.t (cw_and (ct_cmp (ce_var fr 7 rfl (by walk_at "vis") rfl) (ce_var fr 5 rfl (by walk_at "vis") rfl) t_neI rfl) (fun hc => by obtain ⟨k_72, k_73⟩ := k_61 hc; exact (cw_and1 (ct_cmp (t_sign q fr (by decide) (t_ixL (f := (eQ (Cq g))) (t_ixO (f := (eL (eQ (Cq g)))) fr 2 rfl (by walk_at "vis") rfl (ce_var fr 7 rfl (by walk_at "vis") rfl) k_72) (ce_var fr 1 rfl (by walk_at "vis") rfl) k_73)) ce_int t_neI rfl))))) (fun hc => ?_) (fun hc => ?_)
          · have hW := w_70 hc
            obtain ⟨k_62, k_63, k_64, k_65, k_66, k_67, hW⟩ := hW
            obtain ⟨rows_68, e_69⟩ : ∃ z, z = (setI rows_56 i_58 ((p_less_row ((ix rows_56 i_58)) ((ix rows_56 top_30)) ((ix ((ix rows_56 i_58)) k_16))))) := ⟨_, rfl⟩
            replace hW := hW rows_68 e_69
            refine css_sub (f := (eL (eQ (Cq g)))) fr 2 rfl (by walk_at "vis") rfl (ce_call fr c_less_row (by decide) spG_mon rfl (ca_cons (t_ixO (f := (eL (eQ (Cq g)))) fr 2 rfl (by walk_at "vis") rfl (ce_var fr 7 rfl (by walk_at "vis") rfl) k_62) (ca_cons (t_ixO (f := (eL (eQ (Cq g)))) fr 2 rfl (by walk_at "vis") rfl (ce_var fr 5 rfl (by walk_at "vis") rfl) k_63) (ca_cons (t_ixL (f := (eQ (Cq g))) (t_ixO (f := (eL (eQ (Cq g)))) fr 2 rfl (by walk_at "vis") rfl (ce_var fr 7 rfl (by walk_at "vis") rfl) k_64) (ce_var fr 1 rfl (by walk_at "vis") rfl) k_65) ca_nil))) ⟨((ix rows_56 i_58), (ix rows_56 top_30), (ix ((ix rows_56 i_58)) k_16)), rfl, k_66, rfl, rfl⟩) (ce_var fr 7 rfl (by walk_at "vis") rfl) k_67 e_69 ?_
            refine css_nil ?_
            refine css_nil ?_
            exact ⟨rows_68, rfl, rfl, hW⟩
          · have hW := w_71 hc
            refine css_nil ?_
            refine css_nil ?_
            exact ⟨rows_56, rfl, rfl, hW⟩
        · rintro rows_56 hI_81
          have hW := w_79 rows_56 hI_81
          obtain ⟨k_74, hW⟩ := hW
          obtain ⟨places_75, e_76⟩ : ∃ z, z = (places_14 ++ [k_16]) := ⟨_, rfl⟩
          replace hW := hW places_75 e_76
          refine css_append (f := eI) fr 3 rfl (by walk_at "vis") rfl (ce_var fr 1 rfl (by walk_at "vis") rfl) k_74 e_76 ?_
          refine css_nil ?_
          refine css_nil ?_
          exact ⟨(rows_56, places_75), rfl, rfl, hW⟩
      · have hW := w_83 hc
        refine css_nil ?_
        refine css_nil ?_
        exact ⟨(rows_13, places_14), rfl, rfl, hW⟩
    · rintro ⟨rows_13, places_14⟩ hI_93
      have hW := w_91 rows_13 places_14 hI_93
      obtain ⟨k_86, hW⟩ := hW
      exact css_ret (d := (eP (eT (eT (eQ (Cq g)))) (eT eI)) (((((cutL rows_13 none (some (places_14.length : Int)))).map fun row_84 => row_84), places_14))) (t_pair (f := (eT (eT (eQ (Cq g))))) (h := (eT eI)) (t_tupL (f := (eT (eQ (Cq g)))) bi fr rfl (t_fz (LcD.cf fr (t_lc (f := (eT (eQ (Cq g)))) (own := [("row", 8)]) (val := fun row_84 => row_84) (t_ciL (f := (eL (eQ (Cq g)))) (t_fz (t_slO (f := (eL (eQ (Cq g)))) fr 2 rfl (by walk_at "vis") rfl co_none (co_some (t_lenO bi fr rfl 3 rfl (by walk_at "vis") rfl))))) k_86 ⟨rfl, by decide +kernel, by decide +kernel, by decide +kernel, by decide +kernel⟩ (fun row_84 hx_87 => by exact ⟨_, _, by decide, fun X_88 B_85 => ⟨(ctg_name B_85.cf 8 rfl (by walk_at "loc") (by first | exact .inr rfl | exact .inl ((B_85.fn _).mpr rfl))), (t_tupL (f := (eQ (Cq g))) bi B_85.cf rfl (ce_var B_85.cf 8 rfl (by walk_at "vis") rfl))⟩⟩))))) (t_tupO (f := eI) bi fr rfl 3 rfl (by walk_at "vis") rfl)) (hR (((((cutL rows_13 none (some (places_14.length : Int)))).map fun row_84 => row_84), places_14)) hW)
theorem w_table_rank {g : Gx} (h : HKL g) (q : QK g) (c_echelon : Fd g "echelon" 74 (sp_echelon g)) (hW : Hw_table_rank) : Fd g "table_rank" 75 (sp_table_rank g) := by
  refine h.fd 16 30 rfl rfl rfl rfl (N := ["table"]) (ps := ["table"]) ⟨rfl, rfl, rfl, by decide +kernel, rfl, by decide +kernel, by decide +kernel⟩ (fun _ _ _ _ _ _ us hl => match us, hl with | [_], _ => rfl) (fun ds w Q hS => ?_) (fun X fr hK hfn hst ds w Q hS => ?_)
  · obtain ⟨p, rfl, _⟩ := hS; rfl
  · obtain ⟨table_1, rfl, hp, hQ⟩ := hS
    have hR : ∀ r, r = p_table_rank table_1 → Q (eI r) w := fun r e => by rw [e]; exact hQ
    replace hW := hW table_1 hp
    unfold W_table_rank at hW
    have bi := h.bi
    obtain ⟨k_2, hW⟩ := hW
    exact css_ret (d := eI (((((p_echelon table_1)).2).length : Int))) (t_lenT bi fr rfl (t_snd (ce_call fr c_echelon (by decide) spG_mon rfl (ca_cons (ce_var fr 0 rfl (by walk_at "vis") rfl) ca_nil) ⟨table_1, rfl, k_2, rfl, rfl⟩))) (hR (((((p_echelon table_1)).2).length : Int)) hW)
theorem w_check_square {g : Gx} (h : HKL g) (q : QK g) (c_check_table : Fd g "check_table" 73 (sp_check_table g)) (c_wide_of : Fd g "wide_of" 71 (sp_wide_of g)) (hW : Hw_check_square) : Fd g "check_square" 74 (sp_check_square g) := by
  refine h.fd 17 31 rfl rfl rfl rfl (N := ["table"]) (ps := ["table"]) ⟨rfl, rfl, rfl, by decide +kernel, rfl, by decide +kernel, by decide +kernel⟩ (fun _ _ _ _ _ _ us hl => match us, hl with | [_], _ => rfl) (fun ds w Q hS => ?_) (fun X fr hK hfn hst ds w Q hS => ?_)
  · obtain ⟨p, rfl, _⟩ := hS; rfl
  · obtain ⟨table_1, rfl, hp, hQ⟩ := hS
    have hR : ∀ r, r = () → Q (eN r) w := fun r e => by rw [e]; exact hQ
    replace hW := hW table_1 hp
    unfold W_check_square at hW
    have bi := h.bi
    obtain ⟨k_2, hW⟩ := hW
    refine css_drop (ce_call fr c_check_table (by decide) spG_mon rfl (ca_cons (ce_var fr 0 rfl (by walk_at "vis") rfl) ca_nil) ⟨table_1, rfl, k_2, rfl, rfl⟩) ?_
    obtain ⟨w_3, w_4⟩ := hW
    refine css_if (ct_cmp (t_lenT bi fr rfl (ce_var fr 0 rfl (by walk_at "vis") rfl)) (ce_call fr c_wide_of (by decide) spG_mon rfl (ca_cons (ce_var fr 0 rfl (by walk_at "vis") rfl) ca_nil) ⟨table_1, rfl, trivial, rfl, rfl⟩) t_neI rfl) (fun hc => ?_) (fun hc => ?_)
    · have hW := w_3 hc
      exact hW.elim
    · have hW := w_4 hc
      refine css_nil ?_
      refine css_nil ?_
      exact hR _ hW
theorem w_inverse {g : Gx} (h : HKL g) (q : QK g) (c_check_square : Fd g "check_square" 74 (sp_check_square g)) (c_echelon : Fd g "echelon" 74 (sp_echelon g)) (c_unit_table : Fd g "unit_table" 71 (sp_unit_table g)) (hW : Hw_inverse) : Fd g "inverse" 75 (sp_inverse g) := by
  refine h.fd 18 32 rfl rfl rfl rfl (N := ["table", "n", "rows", "places", "row", "unit"]) (ps := ["table"]) ⟨rfl, rfl, rfl, by decide +kernel, rfl, by decide +kernel, by decide +kernel⟩ (fun _ _ _ _ _ _ us hl => match us, hl with | [_], _ => rfl) (fun ds w Q hS => ?_) (fun X fr hK hfn hst ds w Q hS => ?_)
  · obtain ⟨p, rfl, _⟩ := hS; rfl
  · obtain ⟨table_1, rfl, hp, hQ⟩ := hS
    have hR : ∀ r, r = p_inverse table_1 → Q ((eT (eT (eQ (Cq g)))) r) w := fun r e => by rw [e]; exact hQ
    replace hW := hW table_1 hp
    unfold W_inverse at hW
    have bi := h.bi
    obtain ⟨k_2, hW⟩ := hW
    refine css_drop (ce_call fr c_check_square (by decide) spG_mon rfl (ca_cons (ce_var fr 0 rfl (by walk_at "vis") rfl) ca_nil) ⟨table_1, rfl, k_2, rfl, rfl⟩) ?_
    obtain ⟨n_3, e_4⟩ : ∃ z, z = (table_1.length : Int) := ⟨_, rfl⟩
    replace hW := hW n_3 e_4
    refine css_asg (f := eI) fr 1 rfl (by walk_at "loc") hfn e_4 (t_lenT bi fr rfl (ce_var fr 0 rfl (by walk_at "vis") rfl)) rfl ?_
    obtain ⟨k_7, k_8, k_9, k_10, hW⟩ := hW
    obtain ⟨rows_11, e_12⟩ : ∃ z, z = ((p_echelon ((((table_1.zip ((p_unit_table n_3)))).map fun p_5 => (p_5.1 ++ p_5.2))))).1 := ⟨_, rfl⟩
    replace hW := hW rows_11 e_12
    obtain ⟨places_13, e_14⟩ : ∃ z, z = ((p_echelon ((((table_1.zip ((p_unit_table n_3)))).map fun p_5 => (p_5.1 ++ p_5.2))))).2 := ⟨_, rfl⟩
    replace hW := hW places_13 e_14
    refine css_asgP (v := (p_echelon ((((table_1.zip ((p_unit_table n_3)))).map fun p_5 => (p_5.1 ++ p_5.2))))) (f := (eT (eT (eQ (Cq g))))) (h := (eT eI)) fr 2 3 rfl rfl (by walk_at "loc") (by walk_at "loc") hfn e_12 e_14 (ce_call fr c_echelon (by decide) spG_mon rfl (ca_cons (t_tupL (f := (eT (eQ (Cq g)))) bi fr rfl (t_fz (LcD.cf fr (t_lc (f := (eT (eQ (Cq g)))) (own := [("row", 4), ("unit", 5)]) (val := fun p_5 => (p_5.1 ++ p_5.2)) (t_ciZT (f := (eT (eQ (Cq g)))) (h := (eT (eQ (Cq g)))) bi fr rfl (ce_var fr 0 rfl (by walk_at "vis") rfl) (ce_call fr c_unit_table (by decide) spG_mon rfl (ca_cons (ce_var fr 1 rfl (by walk_at "vis") rfl) ca_nil) ⟨n_3, rfl, k_7, rfl, rfl⟩)) k_8 ⟨rfl, by decide +kernel, by decide +kernel, by decide +kernel, by decide +kernel⟩ (fun p_5 hx_15 => by obtain k_16 := k_9 p_5 hx_15; exact ⟨_, _, by decide, fun X_17 B_6 => ⟨(ctg_tup B_6.cf (ctgs_cons (ctg_name B_6.cf 4 rfl (by walk_at "loc") (by first | exact .inr rfl | exact .inl ((B_6.fn _).mpr rfl))) (ctgs_cons (ctg_name B_6.cf 5 rfl (by walk_at "loc") (by first | exact .inr rfl | exact .inl ((B_6.fn _).mpr rfl))) ctgs_nil))), (t_catT (ce_var B_6.cf 4 rfl (by walk_at "vis") rfl) (ce_var B_6.cf 5 rfl (by walk_at "vis") rfl) k_16)⟩⟩))))) ca_nil) ⟨(((table_1.zip ((p_unit_table n_3)))).map fun p_5 => (p_5.1 ++ p_5.2)), rfl, k_10, rfl, rfl⟩) rfl ?_
    obtain ⟨k_18, hW⟩ := hW
    obtain ⟨w_24, w_25⟩ := hW
    refine css_if (ct_cmp (ce_var fr 3 rfl (by walk_at "vis") rfl) (t_tupRg bi fr rfl rfl (ce_var fr 1 rfl (by walk_at "vis") rfl) k_18) (t_neTI fr (by decide)) rfl) (fun hc => ?_) (fun hc => ?_)
    · have hW := w_24 hc
      exact hW.elim
    · have hW := w_25 hc
      refine css_nil ?_
      obtain ⟨k_21, hW⟩ := hW
      exact css_ret (d := (eT (eT (eQ (Cq g)))) ((rows_11.map fun row_19 => (cutL row_19 (some n_3) none)))) (t_tupL (f := (eT (eQ (Cq g)))) bi fr rfl (t_fz (LcD.cf fr (t_lc (f := (eT (eQ (Cq g)))) (own := [("row", 4)]) (val := fun row_19 => (cutL row_19 (some n_3) none)) (t_ciT (f := (eT (eQ (Cq g)))) (ce_var fr 2 rfl (by walk_at "vis") rfl)) k_21 ⟨rfl, by decide +kernel, by decide +kernel, by decide +kernel, by decide +kernel⟩ (fun row_19 hx_22 => by exact ⟨_, _, by decide, fun X_23 B_20 => ⟨(ctg_name B_20.cf 4 rfl (by walk_at "loc") (by first | exact .inr rfl | exact .inl ((B_20.fn _).mpr rfl))), (t_slT (ce_var B_20.cf 4 rfl (by walk_at "vis") rfl) (co_some (ce_var B_20.cf 1 rfl (by walk_at "vis") rfl)) co_none)⟩⟩))))) (hR ((rows_11.map fun row_19 => (cutL row_19 (some n_3) none))) hW)
theorem w_determinant {g : Gx} (h : HKL g) (q : QK g) (c_check_square : Fd g "check_square" 74 (sp_check_square g)) (c_less_row : Fd g "less_row" 71 (sp_less_row g)) (hW : Hw_determinant) : Fd g "determinant" 75 (sp_determinant g) := by
  refine h.fd 19 33 rfl rfl rfl rfl (N := ["table", "k", "rows", "found", "at", "i", "row"]) (ps := ["table"]) ⟨rfl, rfl, rfl, by decide +kernel, rfl, by decide +kernel, by decide +kernel⟩ (fun _ _ _ _ _ _ us hl => match us, hl with | [_], _ => rfl) (fun ds w Q hS => ?_) (fun X fr hK hfn hst ds w Q hS => ?_)
  · obtain ⟨p, rfl, _⟩ := hS; rfl
  · obtain ⟨table_1, rfl, hp, hQ⟩ := hS
    have hR : ∀ r, r = p_determinant table_1 → Q ((eQ (Cq g)) r) w := fun r e => by rw [e]; exact hQ
    replace hW := hW table_1 hp
    unfold W_determinant at hW
    have bi := h.bi
    obtain ⟨k_2, hW⟩ := hW
    refine css_drop (ce_call fr c_check_square (by decide) spG_mon rfl (ca_cons (ce_var fr 0 rfl (by walk_at "vis") rfl) ca_nil) ⟨table_1, rfl, k_2, rfl, rfl⟩) ?_
    obtain ⟨k_5, hW⟩ := hW
    obtain ⟨rows_6, e_7⟩ : ∃ z, z = (table_1.map fun row_3 => row_3) := ⟨_, rfl⟩
    replace hW := hW rows_6 e_7
    obtain ⟨found_8, e_9⟩ : ∃ z, z = ((((1 : Int) : Int) : Rat) : Rat) := ⟨_, rfl⟩
    replace hW := hW found_8 e_9
    refine css_par2 (m1 := (.nw (((table_1.map fun row_3 => row_3)).map (eL (eQ (Cq g)))))) (n1 := (.nw (rows_6.map (eL (eQ (Cq g)))))) (m2 := (.fz ((eQ (Cq g)) (((((1 : Int) : Int) : Rat) : Rat))))) (n2 := (.fz ((eQ (Cq g)) found_8))) fr 2 3 rfl rfl (by decide) (by walk_at "loc") (by walk_at "loc") hfn (by rw [e_7]) (by rw [e_9]) (LcD.cf fr (t_lc (f := (eL (eQ (Cq g)))) (own := [("row", 6)]) (val := fun row_3 => row_3) (t_ciT (f := (eT (eQ (Cq g)))) (ce_var fr 0 rfl (by walk_at "vis") rfl)) k_5 ⟨rfl, by decide +kernel, by decide +kernel, by decide +kernel, by decide +kernel⟩ (fun row_3 hx_10 => by exact ⟨_, _, by decide, fun X_11 B_4 => ⟨(ctg_name B_4.cf 6 rfl (by walk_at "loc") (by first | exact .inr rfl | exact .inl ((B_4.fn _).mpr rfl))), (t_fz (t_lstT bi B_4.cf rfl (ce_var B_4.cf 6 rfl (by walk_at "vis") rfl)))⟩⟩))) (t_mk1 q fr (by decide) rfl ce_int) rfl ?_ (by first | exact .inl ⟨rfl, rfl, Cf.sw fr rfl⟩ | exact .inr (Cf.sw fr rfl))
    obtain ⟨k_12, hW⟩ := hW
    obtain ⟨I_15, w_77, w_78, w_79⟩ := hW
    refine css_for (enc := eI) fr (t_ciR bi fr rfl (t_lenO bi fr rfl 2 rfl (by walk_at "vis") rfl) k_12) [1, 4, 5] (fun (z : (List (List Rat)) × Rat) => [.fz ((eT (eT (eQ (Cq g)))) table_1), .un, .ow (z.1.map (eL (eQ (Cq g)))), .fz ((eQ (Cq g)) z.2), .un, .un, .un]) (fun (z : (List (List Rat)) × Rat) => w) I_15 (rows_6, found_8) rfl rfl w_77 ?_ ?_
    · rintro i_17 k_16 ⟨rows_13, found_14⟩ hx_80 hI_81
      have hW := w_78 i_17 k_16 rows_13 found_14 hx_80 hI_81
      refine ⟨_, _, (ctg_name fr 1 rfl (by walk_at "loc") (.inl (hfn _))), ?_⟩
      obtain ⟨k_21, k_22, k_23, hW⟩ := hW
      obtain ⟨at_24, e_25⟩ : ∃ z, z = ((((irng k_16 ((rows_13.length : Int)))).filter fun i_19 => (decide ((qsgn ((ix ((ix rows_13 i_19)) k_16))) ≠ (0 : Int)))).map fun i_19 => i_19) := ⟨_, rfl⟩
      replace hW := hW at_24 e_25
      refine css_lc (f := eI) fr 4 rfl rfl rfl e_25 (t_lcF (f := eI) (own := [("i", 5)]) (val := fun i_19 => i_19) (pr := fun i_19 => (decide ((qsgn ((ix ((ix rows_13 i_19)) k_16))) ≠ (0 : Int)))) (t_ciR2 bi fr rfl (ce_var fr 1 rfl (by walk_at "vis") rfl) (t_lenO bi fr rfl 2 rfl (by walk_at "vis") rfl) k_21) k_22 ⟨rfl, by decide +kernel, by decide +kernel, by decide +kernel, by decide +kernel⟩ (fun i_19 hx_26 => by obtain ⟨k_27, k_28⟩ := k_23 i_19 hx_26; exact ⟨_, _, by decide, fun X_29 B_20 => ⟨(ctg_name B_20.cf 5 rfl (by walk_at "loc") (by first | exact .inr rfl | exact .inl ((B_20.fn _).mpr rfl))), (ct_cmp (t_sign q B_20.cf (by decide) (t_ixL (f := (eQ (Cq g))) (t_ixO (f := (eL (eQ (Cq g)))) B_20.cf 2 rfl (by walk_at "vis") rfl (ce_var B_20.cf 5 rfl (by walk_at "vis") rfl) k_27) (ce_var B_20.cf 1 rfl (by walk_at "vis") rfl) k_28)) ce_int t_neI rfl), (fun _ => (ce_var B_20.cf 5 rfl (by walk_at "vis") rfl))⟩⟩)) rfl ?_
      obtain ⟨w_75, w_76⟩ := hW
      refine css_if (ct_cmp (t_lenL bi fr rfl (ce_var fr 4 rfl (by walk_at "vis") rfl)) ce_int t_eqI rfl) (fun hc => ?_) (fun hc => ?_)
      · have hW := w_75 hc
        exact css_ret (d := (eQ (Cq g)) (((((0 : Int) : Int) : Rat) : Rat))) (t_mk1 q fr (by decide) rfl ce_int) (hR (((((0 : Int) : Int) : Rat) : Rat)) hW)
      · have hW := w_76 hc
        refine css_nil ?_
        obtain ⟨k_30, hW⟩ := hW
        obtain ⟨K_60, hrest_61, hW⟩ := hW
        obtain ⟨w_62, w_63⟩ := hW
        refine css_ifJ (fun (Γj : List Slot) (wj : Wd) => ∃ (rows_31 : (List (List Rat))) (found_32 : Rat), Γj = [.fz ((eT (eT (eQ (Cq g)))) table_1), .fz (eI k_16), .ow (rows_31.map (eL (eQ (Cq g)))), .fz ((eQ (Cq g)) found_32), .fz ((eL eI) at_24), .un, .un] ∧ w = wj ∧ K_60 (rows_31, found_32)) (ct_cmp (t_ixL (f := eI) (ce_var fr 4 rfl (by walk_at "vis") rfl) ce_int k_30) (ce_var fr 1 rfl (by walk_at "vis") rfl) t_neI rfl) ?_ (fun hc => ?_) (fun hc => ?_)
        · rintro Γj wj ⟨rows_31, found_32, rfl, rfl, hW⟩
          replace hW := hrest_61 rows_31 found_32 hW
          obtain ⟨k_33, k_34, k_35, hW⟩ := hW
          obtain ⟨found_36, e_37⟩ : ∃ z, z = (found_32 * (ix ((ix rows_31 k_16)) k_16)) := ⟨_, rfl⟩
          replace hW := hW found_36 e_37
          refine css_asg (f := (eQ (Cq g))) fr 3 rfl (by walk_at "loc") hfn e_37 (t_mul q fr (by decide) (ce_var fr 3 rfl (by walk_at "vis") rfl) (t_ixL (f := (eQ (Cq g))) (t_ixO (f := (eL (eQ (Cq g)))) fr 2 rfl (by walk_at "vis") rfl (ce_var fr 1 rfl (by walk_at "vis") rfl) k_33) (ce_var fr 1 rfl (by walk_at "vis") rfl) k_34) k_35) rfl ?_
          obtain ⟨k_38, hW⟩ := hW
          obtain ⟨I_40, w_55, w_56, w_57⟩ := hW
          refine css_for (enc := eI) fr (t_ciR2 bi fr rfl (ce_bin (ce_var fr 1 rfl (by walk_at "vis") rfl) ce_int b2_add) (t_lenO bi fr rfl 2 rfl (by walk_at "vis") rfl) k_38) [5] (fun (rows_39 : (List (List Rat))) => [.fz ((eT (eT (eQ (Cq g)))) table_1), .fz (eI k_16), .ow (rows_39.map (eL (eQ (Cq g)))), .fz ((eQ (Cq g)) found_36), .fz ((eL eI) at_24), .un, .un]) (fun (rows_39 : (List (List Rat))) => w) I_40 rows_31 rfl rfl w_55 ?_ ?_
          · rintro i_42 i_41 rows_39 hx_58 hI_59
            have hW := w_56 i_42 i_41 rows_39 hx_58 hI_59
            refine ⟨_, _, (ctg_name fr 5 rfl (by walk_at "loc") (.inl (hfn _))), ?_⟩
            obtain ⟨k_44, k_45, k_46, k_47, k_48, k_49, k_50, k_51, k_52, hW⟩ := hW
            obtain ⟨rows_53, e_54⟩ : ∃ z, z = (setI rows_39 i_41 ((p_less_row ((ix rows_39 i_41)) ((ix rows_39 k_16)) (((ix ((ix rows_39 i_41)) k_16) / (ix ((ix rows_39 k_16)) k_16)))))) := ⟨_, rfl⟩
            replace hW := hW rows_53 e_54
            refine css_sub (f := (eL (eQ (Cq g)))) fr 2 rfl (by walk_at "vis") rfl (ce_call fr c_less_row (by decide) spG_mon rfl (ca_cons (t_ixO (f := (eL (eQ (Cq g)))) fr 2 rfl (by walk_at "vis") rfl (ce_var fr 5 rfl (by walk_at "vis") rfl) k_44) (ca_cons (t_ixO (f := (eL (eQ (Cq g)))) fr 2 rfl (by walk_at "vis") rfl (ce_var fr 1 rfl (by walk_at "vis") rfl) k_45) (ca_cons (t_over q fr (by decide) (t_ixL (f := (eQ (Cq g))) (t_ixO (f := (eL (eQ (Cq g)))) fr 2 rfl (by walk_at "vis") rfl (ce_var fr 5 rfl (by walk_at "vis") rfl) k_46) (ce_var fr 1 rfl (by walk_at "vis") rfl) k_47) (t_ixL (f := (eQ (Cq g))) (t_ixO (f := (eL (eQ (Cq g)))) fr 2 rfl (by walk_at "vis") rfl (ce_var fr 1 rfl (by walk_at "vis") rfl) k_48) (ce_var fr 1 rfl (by walk_at "vis") rfl) k_49) k_50) ca_nil))) ⟨((ix rows_39 i_41), (ix rows_39 k_16), ((ix ((ix rows_39 i_41)) k_16) / (ix ((ix rows_39 k_16)) k_16))), rfl, k_51, rfl, rfl⟩) (ce_var fr 5 rfl (by walk_at "vis") rfl) k_52 e_54 ?_
            refine css_nil ?_
            exact ⟨rows_53, rfl, rfl, hW⟩
          · rintro rows_39 hI_59
            have hW := w_57 rows_39 hI_59
            refine css_nil ?_
            exact ⟨(rows_39, found_36), rfl, rfl, hW⟩
        · have hW := w_62 hc
          obtain ⟨k_64, k_65, k_66, k_67, k_68, k_69, k_70, hW⟩ := hW
          obtain ⟨rows_71, e_72⟩ : ∃ z, z = (setI (setI rows_13 k_16 ((ix rows_13 ((ix at_24 ((0 : Int))))))) ((ix at_24 ((0 : Int)))) ((ix rows_13 k_16))) := ⟨_, rfl⟩
          replace hW := hW rows_71 e_72
          obtain ⟨found_73, e_74⟩ : ∃ z, z = (-found_14) := ⟨_, rfl⟩
          replace hW := hW found_73 e_74
          refine css_swap3 (hsw := Cf.sw fr rfl) (f := (eL (eQ (Cq g)))) (fy := (eQ (Cq g))) (v1 := (ix rows_13 ((ix at_24 ((0 : Int)))))) (v2 := (ix rows_13 k_16)) fr 2 3 rfl rfl (by decide) (by walk_at "vis") (by walk_at "loc") hfn rfl (t_ixO (f := (eL (eQ (Cq g)))) fr 2 rfl (by walk_at "vis") rfl (t_ixL (f := eI) (ce_var fr 4 rfl (by walk_at "vis") rfl) ce_int k_64) k_65) (t_ixO (f := (eL (eQ (Cq g)))) fr 2 rfl (by walk_at "vis") rfl (ce_var fr 1 rfl (by walk_at "vis") rfl) k_66) (t_neg q fr (by decide) (ce_var fr 3 rfl (by walk_at "vis") rfl) k_67) (ce_var fr 1 rfl (by walk_at "vis") rfl) (t_ixL (f := eI) (ce_var fr 4 rfl (by walk_at "vis") rfl) ce_int k_68) k_69 k_70 e_72 e_74 ?_
          refine css_nil ?_
          exact ⟨[], _, _, rfl, rfl, rows_71, found_73, rfl, rfl, hW⟩
        · have hW := w_63 hc
          refine css_nil ?_
          exact ⟨[], _, _, rfl, rfl, rows_13, found_14, rfl, rfl, hW⟩
    · rintro ⟨rows_13, found_14⟩ hI_81
      have hW := w_79 rows_13 found_14 hI_81
      exact css_ret (d := (eQ (Cq g)) found_14) (ce_var fr 3 rfl (by walk_at "vis") rfl) (hR (found_14) hW)
theorem w_trace {g : Gx} (h : HKL g) (q : QK g) (c_check_square : Fd g "check_square" 74 (sp_check_square g)) (hW : Hw_trace) : Fd g "trace" 75 (sp_trace g) := by
  refine h.fd 20 34 rfl rfl rfl rfl (N := ["table", "found", "k"]) (ps := ["table"]) ⟨rfl, rfl, rfl, by decide +kernel, rfl, by decide +kernel, by decide +kernel⟩ (fun _ _ _ _ _ _ us hl => match us, hl with | [_], _ => rfl) (fun ds w Q hS => ?_) (fun X fr hK hfn hst ds w Q hS => ?_)
  · obtain ⟨p, rfl, _⟩ := hS; rfl
  · obtain ⟨table_1, rfl, hp, hQ⟩ := hS
    have hR : ∀ r, r = p_trace table_1 → Q ((eQ (Cq g)) r) w := fun r e => by rw [e]; exact hQ
    replace hW := hW table_1 hp
    unfold W_trace at hW
    have bi := h.bi
    obtain ⟨k_2, hW⟩ := hW
    refine css_drop (ce_call fr c_check_square (by decide) spG_mon rfl (ca_cons (ce_var fr 0 rfl (by walk_at "vis") rfl) ca_nil) ⟨table_1, rfl, k_2, rfl, rfl⟩) ?_
    obtain ⟨found_3, e_4⟩ : ∃ z, z = ((((0 : Int) : Int) : Rat) : Rat) := ⟨_, rfl⟩
    replace hW := hW found_3 e_4
    refine css_asg (f := (eQ (Cq g))) fr 1 rfl (by walk_at "loc") hfn e_4 (t_mk1 q fr (by decide) rfl ce_int) rfl ?_
    obtain ⟨k_5, hW⟩ := hW
    obtain ⟨I_7, w_16, w_17, w_18⟩ := hW
    refine css_for (enc := eI) fr (t_ciR bi fr rfl (t_lenT bi fr rfl (ce_var fr 0 rfl (by walk_at "vis") rfl)) k_5) [2] (fun (found_6 : Rat) => [.fz ((eT (eT (eQ (Cq g)))) table_1), .fz ((eQ (Cq g)) found_6), .un]) (fun (found_6 : Rat) => w) I_7 found_3 rfl rfl w_16 ?_ ?_
    · rintro i_9 k_8 found_6 hx_19 hI_20
      have hW := w_17 i_9 k_8 found_6 hx_19 hI_20
      refine ⟨_, _, (ctg_name fr 2 rfl (by walk_at "loc") (.inl (hfn _))), ?_⟩
      obtain ⟨k_11, k_12, k_13, hW⟩ := hW
      obtain ⟨found_14, e_15⟩ : ∃ z, z = (found_6 + (ix ((ix table_1 k_8)) k_8)) := ⟨_, rfl⟩
      replace hW := hW found_14 e_15
      refine css_asg (f := (eQ (Cq g))) fr 1 rfl (by walk_at "loc") hfn e_15 (t_add q fr (by decide) (ce_var fr 1 rfl (by walk_at "vis") rfl) (t_ixT (f := (eQ (Cq g))) (t_ixT (f := (eT (eQ (Cq g)))) (ce_var fr 0 rfl (by walk_at "vis") rfl) (ce_var fr 2 rfl (by walk_at "vis") rfl) k_11) (ce_var fr 2 rfl (by walk_at "vis") rfl) k_12) k_13) rfl ?_
      refine css_nil ?_
      exact ⟨found_14, rfl, rfl, hW⟩
    · rintro found_6 hI_20
      have hW := w_18 found_6 hI_20
      exact css_ret (d := (eQ (Cq g)) found_6) (ce_var fr 1 rfl (by walk_at "vis") rfl) (hR (found_6) hW)
theorem w_check_symmetric {g : Gx} (h : HKL g) (q : QK g) (c_check_square : Fd g "check_square" 74 (sp_check_square g)) (c_turned : Fd g "turned" 74 (sp_turned g)) (hW : Hw_check_symmetric) : Fd g "check_symmetric" 75 (sp_check_symmetric g) := by
  refine h.fd 21 35 rfl rfl rfl rfl (N := ["table"]) (ps := ["table"]) ⟨rfl, rfl, rfl, by decide +kernel, rfl, by decide +kernel, by decide +kernel⟩ (fun _ _ _ _ _ _ us hl => match us, hl with | [_], _ => rfl) (fun ds w Q hS => ?_) (fun X fr hK hfn hst ds w Q hS => ?_)
  · obtain ⟨p, rfl, _⟩ := hS; rfl
  · obtain ⟨table_1, rfl, hp, hQ⟩ := hS
    have hR : ∀ r, r = () → Q (eN r) w := fun r e => by rw [e]; exact hQ
    replace hW := hW table_1 hp
    unfold W_check_symmetric at hW
    have bi := h.bi
    obtain ⟨k_2, hW⟩ := hW
    refine css_drop (ce_call fr c_check_square (by decide) spG_mon rfl (ca_cons (ce_var fr 0 rfl (by walk_at "vis") rfl) ca_nil) ⟨table_1, rfl, k_2, rfl, rfl⟩) ?_
    obtain ⟨k_3, hW⟩ := hW
    obtain ⟨w_4, w_5⟩ := hW
    refine css_if (ct_cmp (ce_var fr 0 rfl (by walk_at "vis") rfl) (ce_call fr c_turned (by decide) spG_mon rfl (ca_cons (ce_var fr 0 rfl (by walk_at "vis") rfl) ca_nil) ⟨table_1, rfl, k_3, rfl, rfl⟩) (t_neTT q fr (by decide)) rfl) (fun hc => ?_) (fun hc => ?_)
    · have hW := w_4 hc
      exact hW.elim
    · have hW := w_5 hc
      refine css_nil ?_
      refine css_nil ?_
      exact hR _ hW
theorem w_first_pair {g : Gx} (h : HKL g) (q : QK g)  (hW : Hw_first_pair) : Fd g "first_pair" 71 (sp_first_pair g) := by
  refine h.fd 23 37 rfl rfl rfl rfl (N := ["rows", "i", "row", "j", "x"]) (ps := ["rows"]) ⟨rfl, rfl, rfl, by decide +kernel, rfl, by decide +kernel, by decide +kernel⟩ (fun _ _ _ _ _ _ us hl => match us, hl with | [_], _ => rfl) (fun ds w Q hS => ?_) (fun X fr hK hfn hst ds w Q hS => ?_)
  · obtain ⟨p, rfl, _⟩ := hS; rfl
  · obtain ⟨rows_1, rfl, hp, hQ⟩ := hS
    have hR : ∀ r, r = p_first_pair rows_1 → Q ((eP eI eI) r) w := fun r e => by rw [e]; exact hQ
    replace hW := hW rows_1 hp
    unfold W_first_pair at hW
    have bi := h.bi
    obtain ⟨I_2, w_17, w_18, w_19⟩ := hW
    refine css_for (enc := (eP eI (eL (eQ (Cq g))))) fr (t_ciE (f := (eL (eQ (Cq g)))) bi fr rfl (ce_var fr 0 rfl (by walk_at "vis") rfl)) [1, 2, 3, 4] (fun (_ : Unit) => [.fz ((eL (eL (eQ (Cq g)))) rows_1), .un, .un, .un, .un]) (fun (_ : Unit) => w) I_2 () rfl rfl w_17 ?_ ?_
    · rintro i_4 p_3 ⟨⟩ hx_20 hI_21
      have hW := w_18 i_4 p_3  hx_20 hI_21
      refine ⟨_, _, (ctg_tup fr (ctgs_cons (ctg_name fr 1 rfl (by walk_at "loc") (.inl (hfn _))) (ctgs_cons (ctg_name fr 2 rfl (by walk_at "loc") (.inl (hfn _))) ctgs_nil))), ?_⟩
      obtain ⟨I_6, w_12, w_13, w_14⟩ := hW
      refine css_for (enc := (eP eI (eQ (Cq g)))) fr (t_ciE (f := (eQ (Cq g))) bi fr rfl (ce_var fr 2 rfl (by walk_at "vis") rfl)) [3, 4] (fun (_ : Unit) => [.fz ((eL (eL (eQ (Cq g)))) rows_1), .fz (eI p_3.1), .fz ((eL (eQ (Cq g))) p_3.2), .un, .un]) (fun (_ : Unit) => w) I_6 () rfl rfl w_12 ?_ ?_
      · rintro i_8 p_7 ⟨⟩ hx_15 hI_16
        have hW := w_13 i_8 p_7  hx_15 hI_16
        refine ⟨_, _, (ctg_tup fr (ctgs_cons (ctg_name fr 3 rfl (by walk_at "loc") (.inl (hfn _))) (ctgs_cons (ctg_name fr 4 rfl (by walk_at "loc") (.inl (hfn _))) ctgs_nil))), ?_⟩
        obtain ⟨w_10, w_11⟩ := hW
        refine css_if (ct_cmp (t_sign q fr (by decide) (ce_var fr 4 rfl (by walk_at "vis") rfl)) ce_int t_neI rfl) (fun hc => ?_) (fun hc => ?_)
        · have hW := w_10 hc
          exact css_ret (d := (eP eI eI) ((p_3.1, p_7.1))) (t_pair (f := eI) (h := eI) (ce_var fr 1 rfl (by walk_at "vis") rfl) (ce_var fr 3 rfl (by walk_at "vis") rfl)) (hR ((p_3.1, p_7.1)) hW)
        · have hW := w_11 hc
          refine css_nil ?_
          refine css_nil ?_
          exact ⟨(), rfl, rfl, hW⟩
      · rintro ⟨⟩ hI_16
        have hW := w_14  hI_16
        refine css_nil ?_
        exact ⟨(), rfl, rfl, hW⟩
    · rintro ⟨⟩ hI_21
      have hW := w_19  hI_21
      exact hW.elim
theorem w_less_square__v_l {g : Gx} (h : HKL g) (q : QK g)  (hW : Hw_less_square__v_l) : Fd g "less_square" 71 (sp_less_square__v_l g) := by
  refine h.fd 24 38 rfl rfl rfl rfl (N := ["rows", "c", "line", "row", "a", "x", "b"]) (ps := ["rows", "c", "line"]) ⟨rfl, rfl, rfl, by decide +kernel, rfl, by decide +kernel, by decide +kernel⟩ (fun _ _ _ _ _ _ us hl => match us, hl with | [_, _, _], _ => rfl) (fun ds w Q hS => ?_) (fun X fr hK hfn hst ds w Q hS => ?_)
  · obtain ⟨p, rfl, _⟩ := hS; rfl
  · obtain ⟨⟨rows_1, c_2, line_3⟩, rfl, hp, hQ⟩ := hS
    have hR : ∀ r, r = p_less_square__v_l rows_1 c_2 line_3 → Q ((eL (eL (eQ (Cq g)))) r) w := fun r e => by rw [e]; exact hQ
    replace hW := hW rows_1 c_2 line_3 hp
    unfold W_less_square__v_l at hW
    have bi := h.bi
    obtain ⟨k_8, k_9, hW⟩ := hW
    exact css_ret (d := (eL (eL (eQ (Cq g)))) ((((rows_1.zip line_3)).map fun p_4 => (((p_4.1.zip line_3)).map fun p_6 => (p_6.1 - ((c_2 * p_4.2) * p_6.2)))))) (t_fz (LcD.cf fr (t_lc (f := (eL (eQ (Cq g)))) (own := [("row", 3), ("a", 4)]) (val := fun p_4 => (((p_4.1.zip line_3)).map fun p_6 => (p_6.1 - ((c_2 * p_4.2) * p_6.2)))) (t_ciZL (f := (eL (eQ (Cq g)))) (h := (eQ (Cq g))) bi fr rfl (ce_var fr 0 rfl (by walk_at "vis") rfl) (ce_var fr 2 rfl (by walk_at "vis") rfl)) k_8 ⟨rfl, by decide +kernel, by decide +kernel, by decide +kernel, by decide +kernel⟩ (fun p_4 hx_10 => by obtain ⟨k_11, k_12⟩ := k_9 p_4 hx_10; exact ⟨_, _, by decide, fun X_18 B_5 => ⟨(ctg_tup B_5.cf (ctgs_cons (ctg_name B_5.cf 3 rfl (by walk_at "loc") (by first | exact .inr rfl | exact .inl ((B_5.fn _).mpr rfl))) (ctgs_cons (ctg_name B_5.cf 4 rfl (by walk_at "loc") (by first | exact .inr rfl | exact .inl ((B_5.fn _).mpr rfl))) ctgs_nil))), (t_fz (LcD.cf B_5.cf (t_lc (f := (eQ (Cq g))) (own := [("x", 5), ("b", 6)]) (val := fun p_6 => (p_6.1 - ((c_2 * p_4.2) * p_6.2))) (t_ciZL (f := (eQ (Cq g))) (h := (eQ (Cq g))) bi B_5.cf rfl (ce_var B_5.cf 3 rfl (by walk_at "vis") rfl) (ce_var B_5.cf 2 rfl (by walk_at "vis") rfl)) k_11 ⟨rfl, by decide +kernel, by decide +kernel, by decide +kernel, by decide +kernel⟩ (fun p_6 hx_13 => by obtain ⟨k_14, k_15, k_16⟩ := k_12 p_6 hx_13; exact ⟨_, _, by decide, fun X_17 B_7 => ⟨(ctg_tup B_7.cf (ctgs_cons (ctg_name B_7.cf 5 rfl (by walk_at "loc") (by first | exact .inr rfl | exact .inl ((B_7.fn _).mpr rfl))) (ctgs_cons (ctg_name B_7.cf 6 rfl (by walk_at "loc") (by first | exact .inr rfl | exact .inl ((B_7.fn _).mpr rfl))) ctgs_nil))), (t_sub q B_7.cf (by decide) (ce_var B_7.cf 5 rfl (by walk_at "vis") rfl) (t_mul q B_7.cf (by decide) (t_mul q B_7.cf (by decide) (ce_var B_7.cf 1 rfl (by walk_at "vis") rfl) (ce_var B_7.cf 4 rfl (by walk_at "vis") rfl) k_14) (ce_var B_7.cf 6 rfl (by walk_at "vis") rfl) k_15) k_16)⟩⟩))))⟩⟩)))) (hR ((((rows_1.zip line_3)).map fun p_4 => (((p_4.1.zip line_3)).map fun p_6 => (p_6.1 - ((c_2 * p_4.2) * p_6.2))))) hW)
theorem w_less_square__v_t {g : Gx} (h : HKL g) (q : QK g)  (hW : Hw_less_square__v_t) : Fd g "less_square" 71 (sp_less_square__v_t g) := by
  refine h.fd 24 38 rfl rfl rfl rfl (N := ["rows", "c", "line", "row", "a", "x", "b"]) (ps := ["rows", "c", "line"]) ⟨rfl, rfl, rfl, by decide +kernel, rfl, by decide +kernel, by decide +kernel⟩ (fun _ _ _ _ _ _ us hl => match us, hl with | [_, _, _], _ => rfl) (fun ds w Q hS => ?_) (fun X fr hK hfn hst ds w Q hS => ?_)
  · obtain ⟨p, rfl, _⟩ := hS; rfl
  · obtain ⟨⟨rows_1, c_2, line_3⟩, rfl, hp, hQ⟩ := hS
    have hR : ∀ r, r = p_less_square__v_t rows_1 c_2 line_3 → Q ((eL (eL (eQ (Cq g)))) r) w := fun r e => by rw [e]; exact hQ
    replace hW := hW rows_1 c_2 line_3 hp
    unfold W_less_square__v_t at hW
    have bi := h.bi
    obtain ⟨k_8, k_9, hW⟩ := hW
    exact css_ret (d := (eL (eL (eQ (Cq g)))) ((((rows_1.zip line_3)).map fun p_4 => (((p_4.1.zip line_3)).map fun p_6 => (p_6.1 - ((c_2 * p_4.2) * p_6.2)))))) (t_fz (LcD.cf fr (t_lc (f := (eL (eQ (Cq g)))) (own := [("row", 3), ("a", 4)]) (val := fun p_4 => (((p_4.1.zip line_3)).map fun p_6 => (p_6.1 - ((c_2 * p_4.2) * p_6.2)))) (t_ciZM (f := (eL (eQ (Cq g)))) (h := (eQ (Cq g))) bi fr rfl (ce_var fr 0 rfl (by walk_at "vis") rfl) (ce_var fr 2 rfl (by walk_at "vis") rfl)) k_8 ⟨rfl, by decide +kernel, by decide +kernel, by decide +kernel, by decide +kernel⟩ (fun p_4 hx_10 => by obtain ⟨k_11, k_12⟩ := k_9 p_4 hx_10; exact ⟨_, _, by decide, fun X_18 B_5 => ⟨(ctg_tup B_5.cf (ctgs_cons (ctg_name B_5.cf 3 rfl (by walk_at "loc") (by first | exact .inr rfl | exact .inl ((B_5.fn _).mpr rfl))) (ctgs_cons (ctg_name B_5.cf 4 rfl (by walk_at "loc") (by first | exact .inr rfl | exact .inl ((B_5.fn _).mpr rfl))) ctgs_nil))), (t_fz (LcD.cf B_5.cf (t_lc (f := (eQ (Cq g))) (own := [("x", 5), ("b", 6)]) (val := fun p_6 => (p_6.1 - ((c_2 * p_4.2) * p_6.2))) (t_ciZM (f := (eQ (Cq g))) (h := (eQ (Cq g))) bi B_5.cf rfl (ce_var B_5.cf 3 rfl (by walk_at "vis") rfl) (ce_var B_5.cf 2 rfl (by walk_at "vis") rfl)) k_11 ⟨rfl, by decide +kernel, by decide +kernel, by decide +kernel, by decide +kernel⟩ (fun p_6 hx_13 => by obtain ⟨k_14, k_15, k_16⟩ := k_12 p_6 hx_13; exact ⟨_, _, by decide, fun X_17 B_7 => ⟨(ctg_tup B_7.cf (ctgs_cons (ctg_name B_7.cf 5 rfl (by walk_at "loc") (by first | exact .inr rfl | exact .inl ((B_7.fn _).mpr rfl))) (ctgs_cons (ctg_name B_7.cf 6 rfl (by walk_at "loc") (by first | exact .inr rfl | exact .inl ((B_7.fn _).mpr rfl))) ctgs_nil))), (t_sub q B_7.cf (by decide) (ce_var B_7.cf 5 rfl (by walk_at "vis") rfl) (t_mul q B_7.cf (by decide) (t_mul q B_7.cf (by decide) (ce_var B_7.cf 1 rfl (by walk_at "vis") rfl) (ce_var B_7.cf 4 rfl (by walk_at "vis") rfl) k_14) (ce_var B_7.cf 6 rfl (by walk_at "vis") rfl) k_15) k_16)⟩⟩))))⟩⟩)))) (hR ((((rows_1.zip line_3)).map fun p_4 => (((p_4.1.zip line_3)).map fun p_6 => (p_6.1 - ((c_2 * p_4.2) * p_6.2))))) hW)
theorem w_squares_of {g : Gx} (h : HKL g) (q : QK g) (c_check_symmetric : Fd g "check_symmetric" 75 (sp_check_symmetric g)) (c_first_pair : Fd g "first_pair" 71 (sp_first_pair g)) (c_less_square__v_l : Fd g "less_square" 71 (sp_less_square__v_l g)) (c_less_square__v_t : Fd g "less_square" 71 (sp_less_square__v_t g)) (hW : Hw_squares_of) : Fd g "squares_of" 76 (sp_squares_of g) := by
  refine h.fd 22 36 rfl rfl rfl rfl (N := ["table", "n", "rows", "found", "at", "lead", "line", "half", "sign", "row", "k", "i", "j", "x"]) (ps := ["table"]) ⟨rfl, rfl, rfl, by decide +kernel, rfl, by decide +kernel, by decide +kernel⟩ (fun _ _ _ _ _ _ us hl => match us, hl with | [_], _ => rfl) (fun ds w Q hS => ?_) (fun X fr hK hfn hst ds w Q hS => ?_)
  · obtain ⟨p, rfl, _⟩ := hS; rfl
  · obtain ⟨table_1, rfl, hp, hQ⟩ := hS
    have hR : ∀ r, r = p_squares_of table_1 → Q ((eT (eP (eQ (Cq g)) (eT (eQ (Cq g))))) r) w := fun r e => by rw [e]; exact hQ
    replace hW := hW table_1 hp
    unfold W_squares_of at hW
    have bi := h.bi
    obtain ⟨k_2, hW⟩ := hW
    refine css_drop (ce_call fr c_check_symmetric (by decide) spG_mon rfl (ca_cons (ce_var fr 0 rfl (by walk_at "vis") rfl) ca_nil) ⟨table_1, rfl, k_2, rfl, rfl⟩) ?_
    obtain ⟨k_5, hW⟩ := hW
    obtain ⟨rows_6, e_7⟩ : ∃ z, z = (table_1.map fun row_3 => row_3) := ⟨_, rfl⟩
    replace hW := hW rows_6 e_7
    obtain ⟨found_8, e_9⟩ : ∃ z, z = ([] : (List (Rat × (List Rat)))) := ⟨_, rfl⟩
    replace hW := hW found_8 e_9
    refine css_par2 (m1 := (.fz ((eL (eL (eQ (Cq g)))) ((table_1.map fun row_3 => row_3))))) (n1 := (.fz ((eL (eL (eQ (Cq g)))) rows_6))) (m2 := (.nw ((([] : (List (Rat × (List Rat))))).map (eP (eQ (Cq g)) (eT (eQ (Cq g))))))) (n2 := (.nw (found_8.map (eP (eQ (Cq g)) (eT (eQ (Cq g))))))) fr 2 3 rfl rfl (by decide) (by walk_at "loc") (by walk_at "loc") hfn (by rw [e_7]) (by rw [e_9]) (t_fz (LcD.cf fr (t_lc (f := (eL (eQ (Cq g)))) (own := [("row", 9)]) (val := fun row_3 => row_3) (t_ciT (f := (eT (eQ (Cq g)))) (ce_var fr 0 rfl (by walk_at "vis") rfl)) k_5 ⟨rfl, by decide +kernel, by decide +kernel, by decide +kernel, by decide +kernel⟩ (fun row_3 hx_10 => by exact ⟨_, _, by decide, fun X_11 B_4 => ⟨(ctg_name B_4.cf 9 rfl (by walk_at "loc") (by first | exact .inr rfl | exact .inl ((B_4.fn _).mpr rfl))), (t_fz (t_lstT bi B_4.cf rfl (ce_var B_4.cf 9 rfl (by walk_at "vis") rfl)))⟩⟩)))) (t_lst0 (f := (eP (eQ (Cq g)) (eT (eQ (Cq g)))))) rfl ?_ (by first | exact .inl ⟨rfl, rfl, Cf.sw fr rfl⟩ | exact .inr (Cf.sw fr rfl))
    obtain ⟨n_12, e_13⟩ : ∃ z, z = (rows_6.length : Int) := ⟨_, rfl⟩
    replace hW := hW n_12 e_13
    refine css_asg (f := eI) fr 1 rfl (by walk_at "loc") hfn e_13 (t_lenL bi fr rfl (ce_var fr 2 rfl (by walk_at "vis") rfl)) rfl ?_
    obtain ⟨I_16, m_170, w_111, w_112⟩ := hW
    refine css_while fr [4, 5, 6, 7, 8, 11, 12] (fun (z : (List (Rat × (List Rat))) × (List (List Rat))) => [.fz ((eT (eT (eQ (Cq g)))) table_1), .fz (eI n_12), .fz ((eL (eL (eQ (Cq g)))) z.2), .ow (z.1.map (eP (eQ (Cq g)) (eT (eQ (Cq g))))), .un, .un, .un, .un, .un, .un, .un, .un, .un, .un]) (fun (z : (List (Rat × (List Rat))) × (List (List Rat))) => w) I_16 m_170 (found_8, rows_6) rfl rfl w_111 ?_
    rintro m_17 ⟨found_14, rows_15⟩ hI_113
    have hW := w_112 m_17 found_14 rows_15 hI_113
    obtain ⟨⟨k_114, k_115⟩, w_116, w_117⟩ := hW
    refine ⟨_, (ct_val (t_any bi fr rfl (t_fz (LcD.cf fr (t_lc (f := eB) (own := [("row", 9)]) (val := fun row_20 => (((row_20.map fun x_22 => (decide ((qsgn x_22) ≠ (0 : Int))))).any id)) (t_ciL (f := (eL (eQ (Cq g)))) (ce_var fr 2 rfl (by walk_at "vis") rfl)) k_114 ⟨rfl, by decide +kernel, by decide +kernel, by decide +kernel, by decide +kernel⟩ (fun row_20 hx_118 => by obtain k_119 := k_115 row_20 hx_118; exact ⟨_, _, by decide, fun X_122 B_21 => ⟨(ctg_name B_21.cf 9 rfl (by walk_at "loc") (by first | exact .inr rfl | exact .inl ((B_21.fn _).mpr rfl))), (t_any bi B_21.cf rfl (t_fz (LcD.cf B_21.cf (t_lc (f := eB) (own := [("x", 13)]) (val := fun x_22 => (decide ((qsgn x_22) ≠ (0 : Int)))) (t_ciL (f := (eQ (Cq g))) (ce_var B_21.cf 9 rfl (by walk_at "vis") rfl)) k_119 ⟨rfl, by decide +kernel, by decide +kernel, by decide +kernel, by decide +kernel⟩ (fun x_22 hx_120 => by exact ⟨_, _, by decide, fun X_121 B_23 => ⟨(ctg_name B_23.cf 13 rfl (by walk_at "loc") (by first | exact .inr rfl | exact .inl ((B_23.fn _).mpr rfl))), (ce_cmp (t_sign q B_23.cf (by decide) (ce_var B_23.cf 13 rfl (by walk_at "vis") rfl)) ce_int t_neI rfl)⟩⟩)))))⟩⟩)))))), fun hc => ?_, fun hc => ?_⟩
    · have hW := w_116 hc
      obtain ⟨k_26, k_27, k_28, hW⟩ := hW
      obtain ⟨at_29, e_30⟩ : ∃ z, z = ((((irng 0 n_12)).filter fun k_24 => (decide ((qsgn ((ix ((ix rows_15 k_24)) k_24))) ≠ (0 : Int)))).map fun k_24 => k_24) := ⟨_, rfl⟩
      replace hW := hW at_29 e_30
      refine css_lc (f := eI) fr 4 rfl rfl rfl e_30 (t_lcF (f := eI) (own := [("k", 10)]) (val := fun k_24 => k_24) (pr := fun k_24 => (decide ((qsgn ((ix ((ix rows_15 k_24)) k_24))) ≠ (0 : Int)))) (t_ciR bi fr rfl (ce_var fr 1 rfl (by walk_at "vis") rfl) k_26) k_27 ⟨rfl, by decide +kernel, by decide +kernel, by decide +kernel, by decide +kernel⟩ (fun k_24 hx_31 => by obtain ⟨k_32, k_33⟩ := k_28 k_24 hx_31; exact ⟨_, _, by decide, fun X_34 B_25 => ⟨(ctg_name B_25.cf 10 rfl (by walk_at "loc") (by first | exact .inr rfl | exact .inl ((B_25.fn _).mpr rfl))), (ct_cmp (t_sign q B_25.cf (by decide) (t_ixL (f := (eQ (Cq g))) (t_ixL (f := (eL (eQ (Cq g)))) (ce_var B_25.cf 2 rfl (by walk_at "vis") rfl) (ce_var B_25.cf 10 rfl (by walk_at "vis") rfl) k_32) (ce_var B_25.cf 10 rfl (by walk_at "vis") rfl) k_33)) ce_int t_neI rfl), (fun _ => (ce_var B_25.cf 10 rfl (by walk_at "vis") rfl))⟩⟩)) rfl ?_
      obtain ⟨w_109, w_110⟩ := hW
      refine css_if (ct_cmp (t_lenL bi fr rfl (ce_var fr 4 rfl (by walk_at "vis") rfl)) ce_int b2_gt rfl) (fun hc => ?_) (fun hc => ?_)
      · have hW := w_109 hc
        obtain ⟨k_35, k_36, k_37, k_38, hW⟩ := hW
        obtain ⟨lead_39, e_40⟩ : ∃ z, z = (ix ((ix rows_15 ((ix at_29 ((0 : Int)))))) ((ix at_29 ((0 : Int))))) := ⟨_, rfl⟩
        replace hW := hW lead_39 e_40
        refine css_asg (f := (eQ (Cq g))) fr 5 rfl (by walk_at "loc") hfn e_40 (t_ixL (f := (eQ (Cq g))) (t_ixL (f := (eL (eQ (Cq g)))) (ce_var fr 2 rfl (by walk_at "vis") rfl) (t_ixL (f := eI) (ce_var fr 4 rfl (by walk_at "vis") rfl) ce_int k_35) k_36) (t_ixL (f := eI) (ce_var fr 4 rfl (by walk_at "vis") rfl) ce_int k_37) k_38) rfl ?_
        obtain ⟨k_43, k_44, k_45, k_46, hW⟩ := hW
        obtain ⟨line_47, e_48⟩ : ∃ z, z = (((ix rows_15 ((ix at_29 ((0 : Int)))))).map fun x_41 => (x_41 / lead_39)) := ⟨_, rfl⟩
        replace hW := hW line_47 e_48
        refine css_lc (f := (eQ (Cq g))) fr 6 rfl rfl rfl e_48 (t_lc (f := (eQ (Cq g))) (own := [("x", 13)]) (val := fun x_41 => (x_41 / lead_39)) (t_ciL (f := (eQ (Cq g))) (t_ixL (f := (eL (eQ (Cq g)))) (ce_var fr 2 rfl (by walk_at "vis") rfl) (t_ixL (f := eI) (ce_var fr 4 rfl (by walk_at "vis") rfl) ce_int k_43) k_44)) k_45 ⟨rfl, by decide +kernel, by decide +kernel, by decide +kernel, by decide +kernel⟩ (fun x_41 hx_49 => by obtain k_50 := k_46 x_41 hx_49; exact ⟨_, _, by decide, fun X_51 B_42 => ⟨(ctg_name B_42.cf 13 rfl (by walk_at "loc") (by first | exact .inr rfl | exact .inl ((B_42.fn _).mpr rfl))), (t_over q B_42.cf (by decide) (ce_var B_42.cf 13 rfl (by walk_at "vis") rfl) (ce_var B_42.cf 5 rfl (by walk_at "vis") rfl) k_50)⟩⟩)) rfl ?_
        obtain ⟨k_52, hW⟩ := hW
        obtain ⟨found_53, e_54⟩ : ∃ z, z = (found_14 ++ [(lead_39, line_47)]) := ⟨_, rfl⟩
        replace hW := hW found_53 e_54
        refine css_append (f := (eP (eQ (Cq g)) (eT (eQ (Cq g))))) fr 3 rfl (by walk_at "vis") rfl (t_pair (f := (eQ (Cq g))) (h := (eT (eQ (Cq g)))) (ce_var fr 5 rfl (by walk_at "vis") rfl) (t_tupL (f := (eQ (Cq g))) bi fr rfl (ce_var fr 6 rfl (by walk_at "vis") rfl))) k_52 e_54 ?_
        obtain ⟨k_55, hW⟩ := hW
        obtain ⟨rows_56, e_57⟩ : ∃ z, z = (p_less_square__v_l rows_15 lead_39 line_47) := ⟨_, rfl⟩
        replace hW := hW rows_56 e_57
        refine css_asg (f := (eL (eL (eQ (Cq g))))) fr 2 rfl (by walk_at "loc") hfn e_57 (ce_call fr c_less_square__v_l (by decide) spG_mon rfl (ca_cons (ce_var fr 2 rfl (by walk_at "vis") rfl) (ca_cons (ce_var fr 5 rfl (by walk_at "vis") rfl) (ca_cons (ce_var fr 6 rfl (by walk_at "vis") rfl) ca_nil))) ⟨(rows_15, lead_39, line_47), rfl, k_55, rfl, rfl⟩) rfl ?_
        refine css_nil ?_
        refine css_nil ?_
        exact ⟨(found_53, rows_56), rfl, rfl, hW⟩
      · have hW := w_110 hc
        obtain ⟨k_58, hW⟩ := hW
        obtain ⟨i_59, e_60⟩ : ∃ z, z = ((p_first_pair rows_15)).1 := ⟨_, rfl⟩
        replace hW := hW i_59 e_60
        obtain ⟨j_61, e_62⟩ : ∃ z, z = ((p_first_pair rows_15)).2 := ⟨_, rfl⟩
        replace hW := hW j_61 e_62
        refine css_asgP (v := (p_first_pair rows_15)) (f := eI) (h := eI) fr 11 12 rfl rfl (by walk_at "loc") (by walk_at "loc") hfn e_60 e_62 (ce_call fr c_first_pair (by decide) spG_mon rfl (ca_cons (ce_var fr 2 rfl (by walk_at "vis") rfl) ca_nil) ⟨rows_15, rfl, k_58, rfl, rfl⟩) rfl ?_
        obtain ⟨k_63, k_64, k_65, k_66, hW⟩ := hW
        obtain ⟨half_67, e_68⟩ : ∃ z, z = ((ix ((ix rows_15 i_59)) j_61) * (Rat.divInt ((1 : Int)) ((2 : Int)))) := ⟨_, rfl⟩
        replace hW := hW half_67 e_68
        refine css_asg (f := (eQ (Cq g))) fr 7 rfl (by walk_at "loc") hfn e_68 (t_mul q fr (by decide) (t_ixL (f := (eQ (Cq g))) (t_ixL (f := (eL (eQ (Cq g)))) (ce_var fr 2 rfl (by walk_at "vis") rfl) (ce_var fr 11 rfl (by walk_at "vis") rfl) k_63) (ce_var fr 12 rfl (by walk_at "vis") rfl) k_64) (t_mk2 q fr (by decide) rfl ce_int ce_int k_65) k_66) rfl ?_
        obtain ⟨I_70, w_104, w_105, w_106⟩ := hW
        refine css_for (enc := eI) fr (t_ciT (f := eI) (t_tup2 (f := eI) ce_int (ce_un ce_int u1_neg))) [6, 8] (fun (found_69 : (List (Rat × (List Rat)))) => [.fz ((eT (eT (eQ (Cq g)))) table_1), .fz (eI n_12), .fz ((eL (eL (eQ (Cq g)))) rows_15), .ow (found_69.map (eP (eQ (Cq g)) (eT (eQ (Cq g))))), .fz ((eL eI) at_29), .un, .un, .fz ((eQ (Cq g)) half_67), .un, .un, .un, .fz (eI i_59), .fz (eI j_61), .un]) (fun (found_69 : (List (Rat × (List Rat)))) => w) I_70 found_14 rfl rfl w_104 ?_ ?_
        · rintro i_72 sign_71 found_69 hx_107 hI_108
          have hW := w_105 i_72 sign_71 found_69 hx_107 hI_108
          refine ⟨_, _, (ctg_name fr 8 rfl (by walk_at "loc") (.inl (hfn _))), ?_⟩
          obtain ⟨k_76, k_77, k_78, hW⟩ := hW
          obtain ⟨line_79, e_80⟩ : ∃ z, z = (((irng 0 n_12)).map fun k_74 => (((ix ((ix rows_15 i_59)) k_74) + ((ix ((ix rows_15 j_61)) k_74) * (((sign_71 : Int) : Rat) : Rat))) / (ix ((ix rows_15 i_59)) j_61))) := ⟨_, rfl⟩
          replace hW := hW line_79 e_80
          refine css_lc (f := (eQ (Cq g))) fr 6 rfl rfl rfl e_80 (t_lc (f := (eQ (Cq g))) (own := [("k", 10)]) (val := fun k_74 => (((ix ((ix rows_15 i_59)) k_74) + ((ix ((ix rows_15 j_61)) k_74) * (((sign_71 : Int) : Rat) : Rat))) / (ix ((ix rows_15 i_59)) j_61))) (t_ciR bi fr rfl (ce_var fr 1 rfl (by walk_at "vis") rfl) k_76) k_77 ⟨rfl, by decide +kernel, by decide +kernel, by decide +kernel, by decide +kernel⟩ (fun k_74 hx_81 => by obtain ⟨k_82, k_83, k_84, k_85, k_86, k_87, k_88, k_89, k_90⟩ := k_78 k_74 hx_81; exact ⟨_, _, by decide, fun X_91 B_75 => ⟨(ctg_name B_75.cf 10 rfl (by walk_at "loc") (by first | exact .inr rfl | exact .inl ((B_75.fn _).mpr rfl))), (t_over q B_75.cf (by decide) (t_add q B_75.cf (by decide) (t_ixL (f := (eQ (Cq g))) (t_ixL (f := (eL (eQ (Cq g)))) (ce_var B_75.cf 2 rfl (by walk_at "vis") rfl) (ce_var B_75.cf 11 rfl (by walk_at "vis") rfl) k_82) (ce_var B_75.cf 10 rfl (by walk_at "vis") rfl) k_83) (t_mul q B_75.cf (by decide) (t_ixL (f := (eQ (Cq g))) (t_ixL (f := (eL (eQ (Cq g)))) (ce_var B_75.cf 2 rfl (by walk_at "vis") rfl) (ce_var B_75.cf 12 rfl (by walk_at "vis") rfl) k_84) (ce_var B_75.cf 10 rfl (by walk_at "vis") rfl) k_85) (t_mk1 q B_75.cf (by decide) rfl (ce_var B_75.cf 8 rfl (by walk_at "vis") rfl)) k_86) k_87) (t_ixL (f := (eQ (Cq g))) (t_ixL (f := (eL (eQ (Cq g)))) (ce_var B_75.cf 2 rfl (by walk_at "vis") rfl) (ce_var B_75.cf 11 rfl (by walk_at "vis") rfl) k_88) (ce_var B_75.cf 12 rfl (by walk_at "vis") rfl) k_89) k_90)⟩⟩)) rfl ?_
          obtain ⟨k_92, k_93, hW⟩ := hW
          obtain ⟨found_94, e_95⟩ : ∃ z, z = (found_69 ++ [((half_67 * (((sign_71 : Int) : Rat) : Rat)), line_79)]) := ⟨_, rfl⟩
          replace hW := hW found_94 e_95
          refine css_append (f := (eP (eQ (Cq g)) (eT (eQ (Cq g))))) fr 3 rfl (by walk_at "vis") rfl (t_pair (f := (eQ (Cq g))) (h := (eT (eQ (Cq g)))) (t_mul q fr (by decide) (ce_var fr 7 rfl (by walk_at "vis") rfl) (t_mk1 q fr (by decide) rfl (ce_var fr 8 rfl (by walk_at "vis") rfl)) k_92) (t_tupL (f := (eQ (Cq g))) bi fr rfl (ce_var fr 6 rfl (by walk_at "vis") rfl))) k_93 e_95 ?_
          refine css_nil ?_
          exact ⟨found_94, rfl, rfl, hW⟩
        · rintro found_69 hI_108
          have hW := w_106 found_69 hI_108
          obtain ⟨k_96, k_97, k_98, k_99, k_100, k_101, hW⟩ := hW
          obtain ⟨rows_102, e_103⟩ : ∃ z, z = (p_less_square__v_t ((p_less_square__v_t rows_15 (((ix found_69 ((-(2 : Int))))).1) (((ix found_69 ((-(2 : Int))))).2))) (((ix found_69 ((-(1 : Int))))).1) (((ix found_69 ((-(1 : Int))))).2)) := ⟨_, rfl⟩
          replace hW := hW rows_102 e_103
          refine css_asg (f := (eL (eL (eQ (Cq g))))) fr 2 rfl (by walk_at "loc") hfn e_103 (ce_call fr c_less_square__v_t (by decide) spG_mon rfl (ca_cons (ce_call fr c_less_square__v_t (by decide) spG_mon rfl (ca_cons (ce_var fr 2 rfl (by walk_at "vis") rfl) (ca_cons (t_fst (t_ixO (f := (eP (eQ (Cq g)) (eT (eQ (Cq g))))) fr 3 rfl (by walk_at "vis") rfl (ce_un ce_int u1_neg) k_96)) (ca_cons (t_snd (t_ixO (f := (eP (eQ (Cq g)) (eT (eQ (Cq g))))) fr 3 rfl (by walk_at "vis") rfl (ce_un ce_int u1_neg) k_97)) ca_nil))) ⟨(rows_15, ((ix found_69 ((-(2 : Int))))).1, ((ix found_69 ((-(2 : Int))))).2), rfl, k_98, rfl, rfl⟩) (ca_cons (t_fst (t_ixO (f := (eP (eQ (Cq g)) (eT (eQ (Cq g))))) fr 3 rfl (by walk_at "vis") rfl (ce_un ce_int u1_neg) k_99)) (ca_cons (t_snd (t_ixO (f := (eP (eQ (Cq g)) (eT (eQ (Cq g))))) fr 3 rfl (by walk_at "vis") rfl (ce_un ce_int u1_neg) k_100)) ca_nil))) ⟨((p_less_square__v_t rows_15 (((ix found_69 ((-(2 : Int))))).1) (((ix found_69 ((-(2 : Int))))).2)), ((ix found_69 ((-(1 : Int))))).1, ((ix found_69 ((-(1 : Int))))).2), rfl, k_101, rfl, rfl⟩) rfl ?_
          refine css_nil ?_
          refine css_nil ?_
          exact ⟨(found_69, rows_102), rfl, rfl, hW⟩
    · have hW := w_117 hc
      exact css_ret (d := (eT (eP (eQ (Cq g)) (eT (eQ (Cq g))))) found_14) (t_tupO (f := (eP (eQ (Cq g)) (eT (eQ (Cq g))))) bi fr rfl 3 rfl (by walk_at "vis") rfl) (hR (found_14) hW)
theorem w_inertia {g : Gx} (h : HKL g) (q : QK g) (c_squares_of : Fd g "squares_of" 76 (sp_squares_of g)) (hW : Hw_inertia) : Fd g "inertia" 77 (sp_inertia g) := by
  refine h.fd 25 39 rfl rfl rfl rfl (N := ["table", "pairs", "c", "_"]) (ps := ["table"]) ⟨rfl, rfl, rfl, by decide +kernel, rfl, by decide +kernel, by decide +kernel⟩ (fun _ _ _ _ _ _ us hl => match us, hl with | [_], _ => rfl) (fun ds w Q hS => ?_) (fun X fr hK hfn hst ds w Q hS => ?_)
  · obtain ⟨p, rfl, _⟩ := hS; rfl
  · obtain ⟨table_1, rfl, hp, hQ⟩ := hS
    have hR : ∀ r, r = p_inertia table_1 → Q ((eP eI eI) r) w := fun r e => by rw [e]; exact hQ
    replace hW := hW table_1 hp
    unfold W_inertia at hW
    have bi := h.bi
    obtain ⟨k_2, hW⟩ := hW
    obtain ⟨pairs_3, e_4⟩ : ∃ z, z = (p_squares_of table_1) := ⟨_, rfl⟩
    replace hW := hW pairs_3 e_4
    refine css_asg (f := (eT (eP (eQ (Cq g)) (eT (eQ (Cq g)))))) fr 1 rfl (by walk_at "loc") hfn e_4 (ce_call fr c_squares_of (by decide) spG_mon rfl (ca_cons (ce_var fr 0 rfl (by walk_at "vis") rfl) ca_nil) ⟨table_1, rfl, k_2, rfl, rfl⟩) rfl ?_
    obtain ⟨k_9, k_10, hW⟩ := hW
    exact css_ret (d := (eP eI eI) ((((((pairs_3.filter fun p_5 => (decide ((0 : Int) < (qsgn p_5.1)))).map fun p_5 => (1 : Int))).length : Int), ((((pairs_3.filter fun p_7 => (decide ((qsgn p_7.1) < (0 : Int)))).map fun p_7 => (1 : Int))).length : Int)))) (t_pair (f := eI) (h := eI) (t_lenL bi fr rfl (t_fz (LcD.cf fr (t_lcF (f := eI) (own := [("c", 2), ("_", 3)]) (val := fun p_5 => (1 : Int)) (pr := fun p_5 => (decide ((0 : Int) < (qsgn p_5.1)))) (t_ciT (f := (eP (eQ (Cq g)) (eT (eQ (Cq g))))) (ce_var fr 1 rfl (by walk_at "vis") rfl)) k_9 ⟨rfl, by decide +kernel, by decide +kernel, by decide +kernel, by decide +kernel⟩ (fun p_5 hx_11 => by exact ⟨_, _, by decide, fun X_12 B_6 => ⟨(ctg_tup B_6.cf (ctgs_cons (ctg_name B_6.cf 2 rfl (by walk_at "loc") (by first | exact .inr rfl | exact .inl ((B_6.fn _).mpr rfl))) (ctgs_cons (ctg_name B_6.cf 3 rfl (by walk_at "loc") (by first | exact .inr rfl | exact .inl ((B_6.fn _).mpr rfl))) ctgs_nil))), (ct_cmp (t_sign q B_6.cf (by decide) (ce_var B_6.cf 2 rfl (by walk_at "vis") rfl)) ce_int b2_gt rfl), (fun _ => ce_int)⟩⟩))))) (t_lenL bi fr rfl (t_fz (LcD.cf fr (t_lcF (f := eI) (own := [("c", 2), ("_", 3)]) (val := fun p_7 => (1 : Int)) (pr := fun p_7 => (decide ((qsgn p_7.1) < (0 : Int)))) (t_ciT (f := (eP (eQ (Cq g)) (eT (eQ (Cq g))))) (ce_var fr 1 rfl (by walk_at "vis") rfl)) k_10 ⟨rfl, by decide +kernel, by decide +kernel, by decide +kernel, by decide +kernel⟩ (fun p_7 hx_13 => by exact ⟨_, _, by decide, fun X_14 B_8 => ⟨(ctg_tup B_8.cf (ctgs_cons (ctg_name B_8.cf 2 rfl (by walk_at "loc") (by first | exact .inr rfl | exact .inl ((B_8.fn _).mpr rfl))) (ctgs_cons (ctg_name B_8.cf 3 rfl (by walk_at "loc") (by first | exact .inr rfl | exact .inl ((B_8.fn _).mpr rfl))) ctgs_nil))), (ct_cmp (t_sign q B_8.cf (by decide) (ce_var B_8.cf 2 rfl (by walk_at "vis") rfl)) ce_int b2_lt rfl), (fun _ => ce_int)⟩⟩)))))) (hR ((((((pairs_3.filter fun p_5 => (decide ((0 : Int) < (qsgn p_5.1)))).map fun p_5 => (1 : Int))).length : Int), ((((pairs_3.filter fun p_7 => (decide ((qsgn p_7.1) < (0 : Int)))).map fun p_7 => (1 : Int))).length : Int))) hW)
theorem w_square_rank {g : Gx} (h : HKL g) (q : QK g) (c_check_symmetric : Fd g "check_symmetric" 75 (sp_check_symmetric g)) (c_table_rank : Fd g "table_rank" 75 (sp_table_rank g)) (hW : Hw_square_rank) : Fd g "square_rank" 76 (sp_square_rank g) := by
  refine h.fd 26 40 rfl rfl rfl rfl (N := ["table"]) (ps := ["table"]) ⟨rfl, rfl, rfl, by decide +kernel, rfl, by decide +kernel, by decide +kernel⟩ (fun _ _ _ _ _ _ us hl => match us, hl with | [_], _ => rfl) (fun ds w Q hS => ?_) (fun X fr hK hfn hst ds w Q hS => ?_)
  · obtain ⟨p, rfl, _⟩ := hS; rfl
  · obtain ⟨table_1, rfl, hp, hQ⟩ := hS
    have hR : ∀ r, r = p_square_rank table_1 → Q (eI r) w := fun r e => by rw [e]; exact hQ
    replace hW := hW table_1 hp
    unfold W_square_rank at hW
    have bi := h.bi
    obtain ⟨k_2, hW⟩ := hW
    refine css_drop (ce_call fr c_check_symmetric (by decide) spG_mon rfl (ca_cons (ce_var fr 0 rfl (by walk_at "vis") rfl) ca_nil) ⟨table_1, rfl, k_2, rfl, rfl⟩) ?_
    obtain ⟨k_3, hW⟩ := hW
    exact css_ret (d := eI ((p_table_rank table_1))) (ce_call fr c_table_rank (by decide) spG_mon rfl (ca_cons (ce_var fr 0 rfl (by walk_at "vis") rfl) ca_nil) ⟨table_1, rfl, k_3, rfl, rfl⟩) (hR ((p_table_rank table_1)) hW)
theorem w_is_above {g : Gx} (h : HKL g) (q : QK g) (c_check_symmetric : Fd g "check_symmetric" 75 (sp_check_symmetric g)) (c_determinant : Fd g "determinant" 75 (sp_determinant g)) (hW : Hw_is_above) : Fd g "is_above" 76 (sp_is_above g) := by
  refine h.fd 27 41 rfl rfl rfl rfl (N := ["table", "k", "row"]) (ps := ["table"]) ⟨rfl, rfl, rfl, by decide +kernel, rfl, by decide +kernel, by decide +kernel⟩ (fun _ _ _ _ _ _ us hl => match us, hl with | [_], _ => rfl) (fun ds w Q hS => ?_) (fun X fr hK hfn hst ds w Q hS => ?_)
  · obtain ⟨p, rfl, _⟩ := hS; rfl
  · obtain ⟨table_1, rfl, hp, hQ⟩ := hS
    have hR : ∀ r, r = p_is_above table_1 → Q (eB r) w := fun r e => by rw [e]; exact hQ
    replace hW := hW table_1 hp
    unfold W_is_above at hW
    have bi := h.bi
    obtain ⟨k_2, hW⟩ := hW
    refine css_drop (ce_call fr c_check_symmetric (by decide) spG_mon rfl (ca_cons (ce_var fr 0 rfl (by walk_at "vis") rfl) ca_nil) ⟨table_1, rfl, k_2, rfl, rfl⟩) ?_
    obtain ⟨k_3, hW⟩ := hW
    obtain ⟨I_4, w_16, w_17, w_18⟩ := hW
    refine css_for (enc := eI) fr (t_ciR2 bi fr rfl ce_int (ce_bin (t_lenT bi fr rfl (ce_var fr 0 rfl (by walk_at "vis") rfl)) ce_int b2_add) k_3) [1] (fun (_ : Unit) => [.fz ((eT (eT (eQ (Cq g)))) table_1), .un, .un]) (fun (_ : Unit) => w) I_4 () rfl rfl w_16 ?_ ?_
    · rintro i_6 k_5 ⟨⟩ hx_19 hI_20
      have hW := w_17 i_6 k_5  hx_19 hI_20
      refine ⟨_, _, (ctg_name fr 1 rfl (by walk_at "loc") (.inl (hfn _))), ?_⟩
      obtain ⟨k_10, k_11, hW⟩ := hW
      obtain ⟨w_12, w_13⟩ := hW
      refine css_if (ct_cmp (t_sign q fr (by decide) (ce_call fr c_determinant (by decide) spG_mon rfl (ca_cons (t_tupL (f := (eT (eQ (Cq g)))) bi fr rfl (t_fz (LcD.cf fr (t_lc (f := (eT (eQ (Cq g)))) (own := [("row", 2)]) (val := fun row_8 => (cutL row_8 none (some k_5))) (t_ciT (f := (eT (eQ (Cq g)))) (t_slT (ce_var fr 0 rfl (by walk_at "vis") rfl) co_none (co_some (ce_var fr 1 rfl (by walk_at "vis") rfl)))) k_10 ⟨rfl, by decide +kernel, by decide +kernel, by decide +kernel, by decide +kernel⟩ (fun row_8 hx_14 => by exact ⟨_, _, by decide, fun X_15 B_9 => ⟨(ctg_name B_9.cf 2 rfl (by walk_at "loc") (by first | exact .inr rfl | exact .inl ((B_9.fn _).mpr rfl))), (t_slT (ce_var B_9.cf 2 rfl (by walk_at "vis") rfl) co_none (co_some (ce_var B_9.cf 1 rfl (by walk_at "vis") rfl)))⟩⟩))))) ca_nil) ⟨(((cutL table_1 none (some k_5))).map fun row_8 => (cutL row_8 none (some k_5))), rfl, k_11, rfl, rfl⟩)) ce_int b2_le rfl) (fun hc => ?_) (fun hc => ?_)
      · have hW := w_12 hc
        exact css_ret (d := eB false) ce_bl (hR (false) hW)
      · have hW := w_13 hc
        refine css_nil ?_
        refine css_nil ?_
        exact ⟨(), rfl, rfl, hW⟩
    · rintro ⟨⟩ hI_20
      have hW := w_18  hI_20
      exact css_ret (d := eB true) ce_bl (hR (true) hW)
theorem w__law_take {g : Gx} (h : HKL g)  (hW : Hw__law_take) : Fd g "_law_take" 2 (sp__law_take g) := by
  refine h.fd 29 43 rfl rfl rfl rfl (N := ["state", "m", "value"]) (ps := ["state", "m"]) ⟨rfl, rfl, rfl, by decide +kernel, rfl, by decide +kernel, by decide +kernel⟩ (fun _ _ _ _ _ _ us hl => match us, hl with | [_, _], _ => rfl) (fun ds w Q hS => ?_) (fun X fr hK hfn hst ds w Q hS => ?_)
  · obtain ⟨p, s, st, rfl, _⟩ := hS; rfl
  · obtain ⟨m_1, sa, st, rfl, rfl, hp, hQ⟩ := hS
    have hR : ∀ r, r = p__law_take m_1 st → Q (eI r.1) (wS sa r.2) := fun r e => by rw [e]; exact hQ
    replace hW := hW m_1 st hp
    unfold W__law_take at hW
    have bi := h.bi
    obtain ⟨w_10, w_11⟩ := hW
    refine css_if (ct_cmp (ce_state fr 0 rfl (by walk_at "vis") rfl ce_int (by walk_at "or0")) ce_int b2_gt rfl) (fun hc => ?_) (fun hc => ?_)
    · have hW := w_10 hc
      obtain ⟨k_2, hW⟩ := hW
      obtain ⟨value_3, e_4⟩ : ∃ z, z = (st.1 % m_1) := ⟨_, rfl⟩
      replace hW := hW value_3 e_4
      refine css_asg (f := eI) fr 2 rfl (by walk_at "loc") hfn e_4 (ce_bin (t_intI bi fr rfl (ce_state fr 0 rfl (by walk_at "vis") rfl ce_int (by walk_at "or0"))) (ce_var fr 1 rfl (by walk_at "vis") rfl) (b2_mod k_2)) rfl ?_
      obtain ⟨k_5, hW⟩ := hW
      refine css_cons (cs_state fr 0 rfl (by walk_at "vis") rfl (ce_bin (ce_state fr 0 rfl (by walk_at "vis") rfl ce_int (by walk_at "or0")) (ce_var fr 1 rfl (by walk_at "vis") rfl) (b2_div k_5)) ce_int (by walk_at "or30") ?_)
      exact css_ret (d := eI value_3) (ce_var fr 2 rfl (by walk_at "vis") rfl) (hR (value_3, ((st.1 / m_1), st.2)) hW)
    · have hW := w_11 hc
      refine css_nil ?_
      obtain ⟨k_6, k_7, hW⟩ := hW
      refine css_cons (cs_state fr 0 rfl (by walk_at "vis") rfl (ce_bin (t_intI bi fr rfl (ce_bin (ce_bin (ce_state fr 0 rfl (by walk_at "vis") rfl ce_int (by walk_at "or1")) ce_int (b2_mul k_6)) ce_int b2_add)) ce_int (b2_mod k_7)) ce_int (by walk_at "or31") ?_)
      obtain ⟨k_8, k_9, hW⟩ := hW
      exact css_ret (d := eI (((((st.1, (((st.2 * (48271 : Int)) + (11 : Int)) % (2147483647 : Int)))).2 / (7 : Int)) % m_1))) (ce_bin (t_intI bi fr rfl (ce_bin (ce_state fr 0 rfl (by walk_at "vis") rfl ce_int (by walk_at "or1")) ce_int (b2_div k_8))) (ce_var fr 1 rfl (by walk_at "vis") rfl) (b2_mod k_9)) (hR (((((st.1, (((st.2 * (48271 : Int)) + (11 : Int)) % (2147483647 : Int)))).2 / (7 : Int)) % m_1), (st.1, (((st.2 * (48271 : Int)) + (11 : Int)) % (2147483647 : Int)))) hW)
theorem w__law_total {g : Gx} (h : HKL g) (q : QK g)  (hW : Hw__law_total) : Fd g "_law_total" 71 (sp__law_total g) := by
  refine h.fd 30 44 rfl rfl rfl rfl (N := ["lots", "total", "x"]) (ps := ["lots"]) ⟨rfl, rfl, rfl, by decide +kernel, rfl, by decide +kernel, by decide +kernel⟩ (fun _ _ _ _ _ _ us hl => match us, hl with | [_], _ => rfl) (fun ds w Q hS => ?_) (fun X fr hK hfn hst ds w Q hS => ?_)
  · obtain ⟨p, rfl, _⟩ := hS; rfl
  · obtain ⟨lots_1, rfl, hp, hQ⟩ := hS
    have hR : ∀ r, r = p__law_total lots_1 → Q ((eQ (Cq g)) r) w := fun r e => by rw [e]; exact hQ
    replace hW := hW lots_1 hp
    unfold W__law_total at hW
    have bi := h.bi
    obtain ⟨total_2, e_3⟩ : ∃ z, z = ((((0 : Int) : Int) : Rat) : Rat) := ⟨_, rfl⟩
    replace hW := hW total_2 e_3
    refine css_asg (f := (eQ (Cq g))) fr 1 rfl (by walk_at "loc") hfn e_3 (t_mk1 q fr (by decide) rfl ce_int) rfl ?_
    obtain ⟨I_5, w_12, w_13, w_14⟩ := hW
    refine css_for (enc := (eQ (Cq g))) fr (t_ciL (f := (eQ (Cq g))) (ce_var fr 0 rfl (by walk_at "vis") rfl)) [2] (fun (total_4 : Rat) => [.fz ((eL (eQ (Cq g))) lots_1), .fz ((eQ (Cq g)) total_4), .un]) (fun (total_4 : Rat) => w) I_5 total_2 rfl rfl w_12 ?_ ?_
    · rintro i_7 x_6 total_4 hx_15 hI_16
      have hW := w_13 i_7 x_6 total_4 hx_15 hI_16
      refine ⟨_, _, (ctg_name fr 2 rfl (by walk_at "loc") (.inl (hfn _))), ?_⟩
      obtain ⟨k_9, hW⟩ := hW
      obtain ⟨total_10, e_11⟩ : ∃ z, z = (total_4 + x_6) := ⟨_, rfl⟩
      replace hW := hW total_10 e_11
      refine css_asg (f := (eQ (Cq g))) fr 1 rfl (by walk_at "loc") hfn e_11 (t_add q fr (by decide) (ce_var fr 1 rfl (by walk_at "vis") rfl) (ce_var fr 2 rfl (by walk_at "vis") rfl) k_9) rfl ?_
      refine css_nil ?_
      exact ⟨total_10, rfl, rfl, hW⟩
    · rintro total_4 hI_16
      have hW := w_14 total_4 hI_16
      exact css_ret (d := (eQ (Cq g)) total_4) (ce_var fr 1 rfl (by walk_at "vis") rfl) (hR (total_4) hW)
theorem w__law_rank {g : Gx} (h : HKL g) (q : QK g)  (hW : Hw__law_rank) : Fd g "_law_rank" 71 (sp__law_rank g) := by
  refine h.fd 31 45 rfl rfl rfl rfl (N := ["rows", "k", "found", "at", "row", "lead", "i", "x", "y"]) (ps := ["rows"]) ⟨rfl, rfl, rfl, by decide +kernel, rfl, by decide +kernel, by decide +kernel⟩ (fun _ _ _ _ _ _ us hl => match us, hl with | [_], _ => rfl) (fun ds w Q hS => ?_) (fun X fr hK hfn hst ds w Q hS => ?_)
  · obtain ⟨p, rfl, _⟩ := hS; rfl
  · obtain ⟨rows_1, rfl, hp, hQ⟩ := hS
    have hR : ∀ r, r = p__law_rank rows_1 → Q (eI r) w := fun r e => by rw [e]; exact hQ
    replace hW := hW rows_1 hp
    unfold W__law_rank at hW
    have bi := h.bi
    obtain ⟨k_4, hW⟩ := hW
    obtain ⟨rows_5, e_6⟩ : ∃ z, z = (rows_1.map fun row_2 => row_2) := ⟨_, rfl⟩
    replace hW := hW rows_5 e_6
    obtain ⟨found_7, e_8⟩ : ∃ z, z = (0 : Int) := ⟨_, rfl⟩
    replace hW := hW found_7 e_8
    refine css_par2 (m1 := (.fz ((eL (eL (eQ (Cq g)))) ((rows_1.map fun row_2 => row_2))))) (n1 := (.fz ((eL (eL (eQ (Cq g)))) rows_5))) (m2 := (.fz (eI ((0 : Int))))) (n2 := (.fz (eI found_7))) fr 0 2 rfl rfl (by decide) (by walk_at "loc") (by walk_at "loc") hfn (by rw [e_6]) (by rw [e_8]) (t_fz (LcD.cf fr (t_lc (f := (eL (eQ (Cq g)))) (own := [("row", 4)]) (val := fun row_2 => row_2) (t_ciL (f := (eT (eQ (Cq g)))) (ce_var fr 0 rfl (by walk_at "vis") rfl)) k_4 ⟨rfl, by decide +kernel, by decide +kernel, by decide +kernel, by decide +kernel⟩ (fun row_2 hx_9 => by exact ⟨_, _, by decide, fun X_10 B_3 => ⟨(ctg_name B_3.cf 4 rfl (by walk_at "loc") (by first | exact .inr rfl | exact .inl ((B_3.fn _).mpr rfl))), (t_fz (t_lstT bi B_3.cf rfl (ce_var B_3.cf 4 rfl (by walk_at "vis") rfl)))⟩⟩)))) ce_int rfl ?_ (by first | exact .inl ⟨rfl, rfl, Cf.sw fr rfl⟩ | exact .inr (Cf.sw fr rfl))
    obtain ⟨k_11, k_12, hW⟩ := hW
    obtain ⟨I_15, w_57, w_58, w_59⟩ := hW
    refine css_for (enc := eI) fr (t_ciR bi fr rfl (t_if (f := eI) (ct_cmp (t_lenL bi fr rfl (ce_var fr 0 rfl (by walk_at "vis") rfl)) ce_int b2_gt rfl) (fun hc => by obtain k_60 := k_11 hc; exact (t_lenL bi fr rfl (t_ixL (f := (eL (eQ (Cq g)))) (ce_var fr 0 rfl (by walk_at "vis") rfl) ce_int k_60))) (fun _ => ce_int)) k_12) [1, 3, 5] (fun (z : (List (List Rat)) × Int) => [.fz ((eL (eL (eQ (Cq g)))) z.1), .un, .fz (eI z.2), .un, .un, .un, .un, .un, .un]) (fun (z : (List (List Rat)) × Int) => w) I_15 (rows_5, found_7) rfl rfl w_57 ?_ ?_
    · rintro i_17 k_16 ⟨rows_13, found_14⟩ hx_61 hI_62
      have hW := w_58 i_17 k_16 rows_13 found_14 hx_61 hI_62
      refine ⟨_, _, (ctg_name fr 1 rfl (by walk_at "loc") (.inl (hfn _))), ?_⟩
      obtain ⟨k_21, k_22, hW⟩ := hW
      obtain ⟨at_23, e_24⟩ : ∃ z, z = ((((enm rows_13)).filter fun p_19 => (decide ((qsgn ((ix p_19.2 k_16))) ≠ (0 : Int)))).map fun p_19 => p_19.1) := ⟨_, rfl⟩
      replace hW := hW at_23 e_24
      refine css_asg (hs := Cf.sww fr rfl) (f := (eL eI)) fr 3 rfl (by walk_at "loc") hfn e_24 (t_fz (LcD.cf fr (t_lcF (f := eI) (own := [("i", 6), ("row", 4)]) (val := fun p_19 => p_19.1) (pr := fun p_19 => (decide ((qsgn ((ix p_19.2 k_16))) ≠ (0 : Int)))) (t_ciE (f := (eL (eQ (Cq g)))) bi fr rfl (ce_var fr 0 rfl (by walk_at "vis") rfl)) k_21 ⟨rfl, by decide +kernel, by decide +kernel, by decide +kernel, by decide +kernel⟩ (fun p_19 hx_25 => by obtain k_26 := k_22 p_19 hx_25; exact ⟨_, _, by decide, fun X_27 B_20 => ⟨(ctg_tup B_20.cf (ctgs_cons (ctg_name B_20.cf 6 rfl (by walk_at "loc") (by first | exact .inr rfl | exact .inl ((B_20.fn _).mpr rfl))) (ctgs_cons (ctg_name B_20.cf 4 rfl (by walk_at "loc") (by first | exact .inr rfl | exact .inl ((B_20.fn _).mpr rfl))) ctgs_nil))), (ct_cmp (t_sign q B_20.cf (by decide) (t_ixL (f := (eQ (Cq g))) (ce_var B_20.cf 4 rfl (by walk_at "vis") rfl) (ce_var B_20.cf 1 rfl (by walk_at "vis") rfl) k_26)) ce_int t_neI rfl), (fun _ => (ce_var B_20.cf 6 rfl (by walk_at "vis") rfl))⟩⟩)))) rfl ?_
      obtain ⟨w_55, w_56⟩ := hW
      refine css_if (ct_cmp (t_lenL bi fr rfl (ce_var fr 3 rfl (by walk_at "vis") rfl)) ce_int b2_gt rfl) (fun hc => ?_) (fun hc => ?_)
      · have hW := w_55 hc
        obtain ⟨k_28, k_29, hW⟩ := hW
        obtain ⟨lead_30, e_31⟩ : ∃ z, z = (ix rows_13 ((ix at_23 ((0 : Int))))) := ⟨_, rfl⟩
        replace hW := hW lead_30 e_31
        obtain ⟨found_32, e_33⟩ : ∃ z, z = (found_14 + (1 : Int)) := ⟨_, rfl⟩
        replace hW := hW found_32 e_33
        refine css_par2 (m1 := (.fz ((eL (eQ (Cq g))) ((ix rows_13 ((ix at_23 ((0 : Int))))))))) (n1 := (.fz ((eL (eQ (Cq g))) lead_30))) (m2 := (.fz (eI ((found_14 + (1 : Int)))))) (n2 := (.fz (eI found_32))) fr 5 2 rfl rfl (by decide) (by walk_at "loc") (by walk_at "loc") hfn (by rw [e_31]) (by rw [e_33]) (t_ixL (f := (eL (eQ (Cq g)))) (ce_var fr 0 rfl (by walk_at "vis") rfl) (t_ixL (f := eI) (ce_var fr 3 rfl (by walk_at "vis") rfl) ce_int k_28) k_29) (ce_bin (ce_var fr 2 rfl (by walk_at "vis") rfl) ce_int b2_add) rfl ?_ (by first | exact .inl ⟨rfl, rfl, Cf.sw fr rfl⟩ | exact .inr (Cf.sw fr rfl))
        obtain ⟨k_38, k_39, hW⟩ := hW
        obtain ⟨rows_40, e_41⟩ : ∃ z, z = ((((enm rows_13)).filter fun p_34 => (decide (p_34.1 ≠ (ix at_23 ((0 : Int)))))).map fun p_34 => (((p_34.2.zip lead_30)).map fun p_36 => (p_36.1 - (((ix p_34.2 k_16) / (ix lead_30 k_16)) * p_36.2)))) := ⟨_, rfl⟩
        replace hW := hW rows_40 e_41
        refine css_lc (f := (eL (eQ (Cq g)))) fr 0 rfl rfl rfl e_41 (t_lcF (f := (eL (eQ (Cq g)))) (own := [("i", 6), ("row", 4)]) (val := fun p_34 => (((p_34.2.zip lead_30)).map fun p_36 => (p_36.1 - (((ix p_34.2 k_16) / (ix lead_30 k_16)) * p_36.2)))) (pr := fun p_34 => (decide (p_34.1 ≠ (ix at_23 ((0 : Int)))))) (t_ciE (f := (eL (eQ (Cq g)))) bi fr rfl (ce_var fr 0 rfl (by walk_at "vis") rfl)) k_38 ⟨rfl, by decide +kernel, by decide +kernel, by decide +kernel, by decide +kernel⟩ (fun p_34 hx_42 => by obtain ⟨k_43, k_44⟩ := k_39 p_34 hx_42; exact ⟨_, _, by decide, fun X_54 B_35 => ⟨(ctg_tup B_35.cf (ctgs_cons (ctg_name B_35.cf 6 rfl (by walk_at "loc") (by first | exact .inr rfl | exact .inl ((B_35.fn _).mpr rfl))) (ctgs_cons (ctg_name B_35.cf 4 rfl (by walk_at "loc") (by first | exact .inr rfl | exact .inl ((B_35.fn _).mpr rfl))) ctgs_nil))), (ct_cmp (ce_var B_35.cf 6 rfl (by walk_at "vis") rfl) (t_ixL (f := eI) (ce_var B_35.cf 3 rfl (by walk_at "vis") rfl) ce_int k_43) t_neI rfl), (fun hc => by obtain ⟨k_45, k_46⟩ := k_44 hc; exact (t_fz (LcD.cf B_35.cf (t_lc (f := (eQ (Cq g))) (own := [("x", 7), ("y", 8)]) (val := fun p_36 => (p_36.1 - (((ix p_34.2 k_16) / (ix lead_30 k_16)) * p_36.2))) (t_ciZL (f := (eQ (Cq g))) (h := (eQ (Cq g))) bi B_35.cf rfl (ce_var B_35.cf 4 rfl (by walk_at "vis") rfl) (ce_var B_35.cf 5 rfl (by walk_at "vis") rfl)) k_45 ⟨rfl, by decide +kernel, by decide +kernel, by decide +kernel, by decide +kernel⟩ (fun p_36 hx_47 => by obtain ⟨k_48, k_49, k_50, k_51, k_52⟩ := k_46 p_36 hx_47; exact ⟨_, _, by decide, fun X_53 B_37 => ⟨(ctg_tup B_37.cf (ctgs_cons (ctg_name B_37.cf 7 rfl (by walk_at "loc") (by first | exact .inr rfl | exact .inl ((B_37.fn _).mpr rfl))) (ctgs_cons (ctg_name B_37.cf 8 rfl (by walk_at "loc") (by first | exact .inr rfl | exact .inl ((B_37.fn _).mpr rfl))) ctgs_nil))), (t_sub q B_37.cf (by decide) (ce_var B_37.cf 7 rfl (by walk_at "vis") rfl) (t_mul q B_37.cf (by decide) (t_over q B_37.cf (by decide) (t_ixL (f := (eQ (Cq g))) (ce_var B_37.cf 4 rfl (by walk_at "vis") rfl) (ce_var B_37.cf 1 rfl (by walk_at "vis") rfl) k_48) (t_ixL (f := (eQ (Cq g))) (ce_var B_37.cf 5 rfl (by walk_at "vis") rfl) (ce_var B_37.cf 1 rfl (by walk_at "vis") rfl) k_49) k_50) (ce_var B_37.cf 8 rfl (by walk_at "vis") rfl) k_51) k_52)⟩⟩)))))⟩⟩)) rfl ?_
        refine css_nil ?_
        refine css_nil ?_
        exact ⟨(rows_40, found_32), rfl, rfl, hW⟩
      · have hW := w_56 hc
        refine css_nil ?_
        refine css_nil ?_
        exact ⟨(rows_13, found_14), rfl, rfl, hW⟩
    · rintro ⟨rows_13, found_14⟩ hI_62
      have hW := w_59 rows_13 found_14 hI_62
      exact css_ret (d := eI found_14) (ce_var fr 2 rfl (by walk_at "vis") rfl) (hR (found_14) hW)
theorem w__law_table {g : Gx} (h : HKL g) (q : QK g) (c__law_take : Fd g "_law_take" 2 (sp__law_take g)) (hW : Hw__law_table) : Fd g "_law_table" 71 (sp__law_table g) := by
  refine h.fd 32 46 rfl rfl rfl rfl (N := ["state", "n", "rows", "t", "i", "j", "c", "line", "x", "row", "a", "b"]) (ps := ["state", "n"]) ⟨rfl, rfl, rfl, by decide +kernel, rfl, by decide +kernel, by decide +kernel⟩ (fun _ _ _ _ _ _ us hl => match us, hl with | [_, _], _ => rfl) (fun ds w Q hS => ?_) (fun X fr hK hfn hst ds w Q hS => ?_)
  · obtain ⟨p, s, st, rfl, _⟩ := hS; rfl
  · obtain ⟨n_1, sa, st, rfl, rfl, hp, hQ⟩ := hS
    have hR : ∀ r, r = p__law_table n_1 st → Q ((eT (eT (eQ (Cq g)))) r.1) (wS sa r.2) := fun r e => by rw [e]; exact hQ
    replace hW := hW n_1 st hp
    unfold W__law_table at hW
    have bi := h.bi
    obtain ⟨k_4, k_5, k_6, hW⟩ := hW
    obtain ⟨rows_7, e_8⟩ : ∃ z, z = (((irng 0 n_1)).map fun r_2 => (rpt n_1 (((((0 : Int) : Int) : Rat) : Rat)))) := ⟨_, rfl⟩
    replace hW := hW rows_7 e_8
    refine css_rows (f := (eQ (Cq g))) (own := [("i", 4)]) fr 2 rfl rfl rfl e_8 (fun r_2 => (rpt n_1 (((((0 : Int) : Int) : Rat) : Rat)))) rfl (t_ciR bi fr rfl (ce_var fr 1 rfl (by walk_at "vis") rfl) k_4) k_5 ⟨rfl, by decide +kernel, by decide +kernel, by decide +kernel, by decide +kernel⟩ (fun r_2 hx_9 => by obtain k_10 := k_6 r_2 hx_9; exact ⟨_, _, by decide, fun X_11 B_3 => ⟨(ctg_name B_3.cf 4 rfl (by walk_at "loc") (by first | exact .inr rfl | exact .inl ((B_3.fn _).mpr rfl))), (t_rep1L (t_fz (t_lst1 (f := (eQ (Cq g))) (t_mk1 q B_3.cf (by decide) rfl ce_int))) (ce_var B_3.cf 1 rfl (by walk_at "vis") rfl) k_10)⟩⟩) rfl ?_
    obtain ⟨k_12, hW⟩ := hW
    obtain ⟨w_110, w_111⟩ := hW
    refine css_if (ct_cmp (ce_call fr c__law_take (by decide) spW_mon rfl (ca_cons (ce_var fr 0 rfl (by walk_at "vis") rfl) (ca_cons ce_int ca_nil)) ⟨(2 : Int), sa, st, rfl, rfl, k_12, rfl, rfl⟩) ce_int t_eqI rfl) (fun hc => ?_) (fun hc => ?_)
    · have hW := w_110 hc
      obtain ⟨k_13, hW⟩ := hW
      obtain ⟨I_16, w_51, w_52, w_53⟩ := hW
      refine css_for (enc := eI) fr (t_ciR bi fr rfl (ce_var fr 1 rfl (by walk_at "vis") rfl) k_13) [4, 5, 8] (fun (z : (List (List Rat)) × St2) => [.fz (.adr sa), .fz (eI n_1), .ow2 (z.1.map (List.map (eQ (Cq g)))), .un, .un, .un, .un, .un, .un, .un, .un, .un]) (fun (z : (List (List Rat)) × St2) => (wS sa z.2)) I_16 (rows_7, (p__law_take ((2 : Int)) st).2) rfl rfl w_51 ?_ ?_
      · rintro i_18 i_17 ⟨rows_14, st_15⟩ hx_54 hI_55
        have hW := w_52 i_18 i_17 rows_14 st_15 hx_54 hI_55
        refine ⟨_, _, (ctg_name fr 4 rfl (by walk_at "loc") (.inl (hfn _))), ?_⟩
        obtain ⟨k_20, hW⟩ := hW
        obtain ⟨I_23, w_40, w_41, w_42⟩ := hW
        refine css_for (enc := eI) fr (t_ciR bi fr rfl (ce_bin (ce_var fr 4 rfl (by walk_at "vis") rfl) ce_int b2_add) k_20) [5, 8] (fun (z : (List (List Rat)) × St2) => [.fz (.adr sa), .fz (eI n_1), .ow2 (z.1.map (List.map (eQ (Cq g)))), .un, .fz (eI i_17), .un, .un, .un, .un, .un, .un, .un]) (fun (z : (List (List Rat)) × St2) => (wS sa z.2)) I_23 (rows_14, st_15) rfl rfl w_40 ?_ ?_
        · rintro i_25 j_24 ⟨rows_21, st_22⟩ hx_43 hI_44
          have hW := w_41 i_25 j_24 rows_21 st_22 hx_43 hI_44
          refine ⟨_, _, (ctg_name fr 5 rfl (by walk_at "loc") (.inl (hfn _))), ?_⟩
          obtain ⟨k_27, hW⟩ := hW
          obtain ⟨x_28, e_29⟩ : ∃ z, z = (((((p__law_take ((7 : Int)) st_22).1 - (3 : Int)) : Int) : Rat) : Rat) := ⟨_, rfl⟩
          replace hW := hW x_28 e_29
          obtain ⟨st_30, e_31⟩ : ∃ z, z = (p__law_take ((7 : Int)) st_22).2 := ⟨_, rfl⟩
          replace hW := hW st_30 e_31
          refine css_asg (f := (eQ (Cq g))) fr 8 rfl (by walk_at "loc") hfn e_29 (t_mk1 q fr (by decide) rfl (ce_bin (ce_call fr c__law_take (by decide) spW_mon rfl (ca_cons (ce_var fr 0 rfl (by walk_at "vis") rfl) (ca_cons ce_int ca_nil)) ⟨(7 : Int), sa, st_22, rfl, rfl, k_27, rfl, rfl⟩) ce_int b2_sub)) (congrArg (wS sa) e_31) ?_
          obtain ⟨k_32, k_33, hW⟩ := hW
          obtain ⟨rows_34, e_35⟩ : ∃ z, z = (setI rows_21 i_17 (setI (ix rows_21 i_17) j_24 x_28)) := ⟨_, rfl⟩
          replace hW := hW rows_34 e_35
          refine css_sub2 (f := (eQ (Cq g))) fr 2 rfl (by walk_at "vis") rfl (ce_var fr 8 rfl (by walk_at "vis") rfl) (ce_var fr 4 rfl (by walk_at "vis") rfl) (ce_var fr 5 rfl (by walk_at "vis") rfl) k_32 k_33 e_35 ?_
          obtain ⟨k_36, k_37, hW⟩ := hW
          obtain ⟨rows_38, e_39⟩ : ∃ z, z = (setI rows_34 j_24 (setI (ix rows_34 j_24) i_17 x_28)) := ⟨_, rfl⟩
          replace hW := hW rows_38 e_39
          refine css_sub2 (f := (eQ (Cq g))) fr 2 rfl (by walk_at "vis") rfl (ce_var fr 8 rfl (by walk_at "vis") rfl) (ce_var fr 5 rfl (by walk_at "vis") rfl) (ce_var fr 4 rfl (by walk_at "vis") rfl) k_36 k_37 e_39 ?_
          refine css_nil ?_
          exact ⟨(rows_38, st_30), rfl, rfl, hW⟩
        · rintro ⟨rows_21, st_22⟩ hI_44
          have hW := w_42 rows_21 st_22 hI_44
          refine css_nil ?_
          exact ⟨(rows_21, st_22), rfl, rfl, hW⟩
      · rintro ⟨rows_14, st_15⟩ hI_55
        have hW := w_53 rows_14 st_15 hI_55
        refine css_frzR 2 rfl ?_
        obtain ⟨k_48, hW⟩ := hW
        exact css_ret (d := (eT (eT (eQ (Cq g)))) ((rows_14.map fun row_45 => row_45))) (t_tupL (f := (eT (eQ (Cq g)))) bi fr rfl (t_fz (LcD.cf fr (t_lc (f := (eT (eQ (Cq g)))) (own := [("row", 9)]) (val := fun row_45 => row_45) (t_ciL (f := (eL (eQ (Cq g)))) (ce_var fr 2 rfl (by walk_at "vis") rfl)) k_48 ⟨rfl, by decide +kernel, by decide +kernel, by decide +kernel, by decide +kernel⟩ (fun row_45 hx_49 => by exact ⟨_, _, by decide, fun X_50 B_46 => ⟨(ctg_name B_46.cf 9 rfl (by walk_at "loc") (by first | exact .inr rfl | exact .inl ((B_46.fn _).mpr rfl))), (t_tupL (f := (eQ (Cq g))) bi B_46.cf rfl (ce_var B_46.cf 9 rfl (by walk_at "vis") rfl))⟩⟩))))) (hR ((rows_14.map fun row_45 => row_45), st_15) hW)
    · have hW := w_111 hc
      refine css_nil ?_
      refine css_frzR 2 rfl ?_
      obtain ⟨k_56, k_57, hW⟩ := hW
      obtain ⟨I_60, w_105, w_106, w_107⟩ := hW
      refine css_for (enc := eI) fr (t_ciR bi fr rfl (ce_bin ce_int (ce_call fr c__law_take (by decide) spW_mon rfl (ca_cons (ce_var fr 0 rfl (by walk_at "vis") rfl) (ca_cons (ce_var fr 1 rfl (by walk_at "vis") rfl) ca_nil)) ⟨n_1, sa, (p__law_take ((2 : Int)) st).2, rfl, rfl, k_56, rfl, rfl⟩) b2_add) k_57) [3, 6, 7] (fun (z : (List (List Rat)) × St2) => [.fz (.adr sa), .fz (eI n_1), .fz ((eL (eL (eQ (Cq g)))) z.1), .un, .un, .un, .un, .un, .un, .un, .un, .un]) (fun (z : (List (List Rat)) × St2) => (wS sa z.2)) I_60 (rows_7, (p__law_take n_1 ((p__law_take ((2 : Int)) st).2)).2) rfl rfl w_105 ?_ ?_
      · rintro i_62 t_61 ⟨rows_58, st_59⟩ hx_108 hI_109
        have hW := w_106 i_62 t_61 rows_58 st_59 hx_108 hI_109
        refine ⟨_, _, (ctg_name fr 3 rfl (by walk_at "loc") (.inl (hfn _))), ?_⟩
        obtain ⟨k_67, k_68, k_69, k_70, hW⟩ := hW
        obtain ⟨c_71, e_72⟩ : ∃ z, z = (((((p__law_take ((3 : Int)) st_59).1 - (1 : Int)) : Int) : Rat) : Rat) := ⟨_, rfl⟩
        replace hW := hW c_71 e_72
        obtain ⟨line_73, e_74⟩ : ∃ z, z = (mapS (fun i_64 st_66 => ((((((p__law_take ((5 : Int)) st_66).1 - (2 : Int)) : Int) : Rat) : Rat), (p__law_take ((5 : Int)) st_66).2)) ((irng 0 n_1)) ((p__law_take ((3 : Int)) st_59).2)).1 := ⟨_, rfl⟩
        replace hW := hW line_73 e_74
        obtain ⟨st_75, e_76⟩ : ∃ z, z = (mapS (fun i_64 st_66 => ((((((p__law_take ((5 : Int)) st_66).1 - (2 : Int)) : Int) : Rat) : Rat), (p__law_take ((5 : Int)) st_66).2)) ((irng 0 n_1)) ((p__law_take ((3 : Int)) st_59).2)).2 := ⟨_, rfl⟩
        replace hW := hW st_75 e_76
        refine css_par2 (m1 := (.fz ((eQ (Cq g)) ((((((p__law_take ((3 : Int)) st_59).1 - (1 : Int)) : Int) : Rat) : Rat))))) (n1 := (.fz ((eQ (Cq g)) c_71))) (m2 := (.fz ((eL (eQ (Cq g))) ((mapS (fun i_64 st_66 => ((((((p__law_take ((5 : Int)) st_66).1 - (2 : Int)) : Int) : Rat) : Rat), (p__law_take ((5 : Int)) st_66).2)) ((irng 0 n_1)) ((p__law_take ((3 : Int)) st_59).2)).1)))) (n2 := (.fz ((eL (eQ (Cq g))) line_73))) fr 6 7 rfl rfl (by decide) (by walk_at "loc") (by walk_at "loc") hfn (by rw [e_72]) (by rw [e_74]) (t_mk1 q fr (by decide) rfl (ce_bin (ce_call fr c__law_take (by decide) spW_mon rfl (ca_cons (ce_var fr 0 rfl (by walk_at "vis") rfl) (ca_cons ce_int ca_nil)) ⟨(3 : Int), sa, st_59, rfl, rfl, k_67, rfl, rfl⟩) ce_int b2_sub)) (t_fz (LcD.cf fr (t_lcW (f := (eQ (Cq g))) (own := [("i", 4)]) (fun i_64 st_66 => ((((((p__law_take ((5 : Int)) st_66).1 - (2 : Int)) : Int) : Rat) : Rat), (p__law_take ((5 : Int)) st_66).2)) (t_ciR bi fr rfl (ce_var fr 1 rfl (by walk_at "vis") rfl) k_68) k_69 ⟨rfl, by decide +kernel, by decide +kernel, by decide +kernel, by decide +kernel⟩ (fun i_64 hx_77 st_66 => by obtain k_78 := k_70 i_64 hx_77 st_66; exact ⟨_, _, by decide, fun X_79 B_65 => ⟨(ctg_name B_65.cf 4 rfl (by walk_at "loc") (by first | exact .inr rfl | exact .inl ((B_65.fn _).mpr rfl))), (t_mk1 q B_65.cf (by decide) rfl (ce_bin (ce_call B_65.cf c__law_take (by decide) spW_mon rfl (ca_cons (ce_var B_65.cf 0 rfl (by walk_at "vis") rfl) (ca_cons ce_int ca_nil)) ⟨(5 : Int), sa, st_66, rfl, rfl, k_78, rfl, rfl⟩) ce_int b2_sub))⟩⟩)))) (congrArg (wS sa) e_76) ?_ (by first | exact .inl ⟨rfl, rfl, Cf.sw fr rfl⟩ | exact .inr (Cf.sw fr rfl))
        obtain ⟨k_86, k_87, hW⟩ := hW
        obtain ⟨rows_88, e_89⟩ : ∃ z, z = (((rows_58.zip line_73)).map fun p_80 => (((p_80.1.zip line_73)).map fun p_83 => (p_83.1 + ((c_71 * p_80.2) * p_83.2)))) := ⟨_, rfl⟩
        replace hW := hW rows_88 e_89
        refine css_lc (f := (eL (eQ (Cq g)))) fr 2 rfl rfl rfl e_89 (t_lc (f := (eL (eQ (Cq g)))) (own := [("row", 9), ("a", 10)]) (val := fun p_80 => (((p_80.1.zip line_73)).map fun p_83 => (p_83.1 + ((c_71 * p_80.2) * p_83.2)))) (t_ciZL (f := (eL (eQ (Cq g)))) (h := (eQ (Cq g))) bi fr rfl (ce_var fr 2 rfl (by walk_at "vis") rfl) (ce_var fr 7 rfl (by walk_at "vis") rfl)) k_86 ⟨rfl, by decide +kernel, by decide +kernel, by decide +kernel, by decide +kernel⟩ (fun p_80 hx_90 => by obtain ⟨k_91, k_92⟩ := k_87 p_80 hx_90; exact ⟨_, _, by decide, fun X_98 B_81 => ⟨(ctg_tup B_81.cf (ctgs_cons (ctg_name B_81.cf 9 rfl (by walk_at "loc") (by first | exact .inr rfl | exact .inl ((B_81.fn _).mpr rfl))) (ctgs_cons (ctg_name B_81.cf 10 rfl (by walk_at "loc") (by first | exact .inr rfl | exact .inl ((B_81.fn _).mpr rfl))) ctgs_nil))), (t_fz (LcD.cf B_81.cf (t_lc (f := (eQ (Cq g))) (own := [("x", 8), ("b", 11)]) (val := fun p_83 => (p_83.1 + ((c_71 * p_80.2) * p_83.2))) (t_ciZL (f := (eQ (Cq g))) (h := (eQ (Cq g))) bi B_81.cf rfl (ce_var B_81.cf 9 rfl (by walk_at "vis") rfl) (ce_var B_81.cf 7 rfl (by walk_at "vis") rfl)) k_91 ⟨rfl, by decide +kernel, by decide +kernel, by decide +kernel, by decide +kernel⟩ (fun p_83 hx_93 => by obtain ⟨k_94, k_95, k_96⟩ := k_92 p_83 hx_93; exact ⟨_, _, by decide, fun X_97 B_84 => ⟨(ctg_tup B_84.cf (ctgs_cons (ctg_name B_84.cf 8 rfl (by walk_at "loc") (by first | exact .inr rfl | exact .inl ((B_84.fn _).mpr rfl))) (ctgs_cons (ctg_name B_84.cf 11 rfl (by walk_at "loc") (by first | exact .inr rfl | exact .inl ((B_84.fn _).mpr rfl))) ctgs_nil))), (t_add q B_84.cf (by decide) (ce_var B_84.cf 8 rfl (by walk_at "vis") rfl) (t_mul q B_84.cf (by decide) (t_mul q B_84.cf (by decide) (ce_var B_84.cf 6 rfl (by walk_at "vis") rfl) (ce_var B_84.cf 10 rfl (by walk_at "vis") rfl) k_94) (ce_var B_84.cf 11 rfl (by walk_at "vis") rfl) k_95) k_96)⟩⟩))))⟩⟩)) rfl ?_
        refine css_nil ?_
        exact ⟨(rows_88, st_75), rfl, rfl, hW⟩
      · rintro ⟨rows_58, st_59⟩ hI_109
        have hW := w_107 rows_58 st_59 hI_109
        obtain ⟨k_102, hW⟩ := hW
        exact css_ret (d := (eT (eT (eQ (Cq g)))) ((rows_58.map fun row_99 => row_99))) (t_tupL (f := (eT (eQ (Cq g)))) bi fr rfl (t_fz (LcD.cf fr (t_lc (f := (eT (eQ (Cq g)))) (own := [("row", 9)]) (val := fun row_99 => row_99) (t_ciL (f := (eL (eQ (Cq g)))) (ce_var fr 2 rfl (by walk_at "vis") rfl)) k_102 ⟨rfl, by decide +kernel, by decide +kernel, by decide +kernel, by decide +kernel⟩ (fun row_99 hx_103 => by exact ⟨_, _, by decide, fun X_104 B_100 => ⟨(ctg_name B_100.cf 9 rfl (by walk_at "loc") (by first | exact .inr rfl | exact .inl ((B_100.fn _).mpr rfl))), (t_tupL (f := (eQ (Cq g))) bi B_100.cf rfl (ce_var B_100.cf 9 rfl (by walk_at "vis") rfl))⟩⟩))))) (hR ((rows_58.map fun row_99 => row_99), st_59) hW)
theorem w__law_part {g : Gx} (h : HKL g) (q : QK g)  (hW : Hw__law_part) : Fd g "_law_part" 71 (sp__law_part g) := by
  refine h.fd 33 47 rfl rfl rfl rfl (N := ["table", "rows", "columns", "i", "j"]) (ps := ["table", "rows", "columns"]) ⟨rfl, rfl, rfl, by decide +kernel, rfl, by decide +kernel, by decide +kernel⟩ (fun _ _ _ _ _ _ us hl => match us, hl with | [_, _, _], _ => rfl) (fun ds w Q hS => ?_) (fun X fr hK hfn hst ds w Q hS => ?_)
  · obtain ⟨p, rfl, _⟩ := hS; rfl
  · obtain ⟨⟨table_1, rows_2, columns_3⟩, rfl, hp, hQ⟩ := hS
    have hR : ∀ r, r = p__law_part table_1 rows_2 columns_3 → Q ((eT (eT (eQ (Cq g)))) r) w := fun r e => by rw [e]; exact hQ
    replace hW := hW table_1 rows_2 columns_3 hp
    unfold W__law_part at hW
    have bi := h.bi
    obtain ⟨k_8, k_9, hW⟩ := hW
    exact css_ret (d := (eT (eT (eQ (Cq g)))) ((rows_2.map fun i_4 => (columns_3.map fun j_6 => (ix ((ix table_1 i_4)) j_6))))) (t_tupL (f := (eT (eQ (Cq g)))) bi fr rfl (t_fz (LcD.cf fr (t_lc (f := (eT (eQ (Cq g)))) (own := [("i", 3)]) (val := fun i_4 => (columns_3.map fun j_6 => (ix ((ix table_1 i_4)) j_6))) (t_ciL (f := eI) (ce_var fr 1 rfl (by walk_at "vis") rfl)) k_8 ⟨rfl, by decide +kernel, by decide +kernel, by decide +kernel, by decide +kernel⟩ (fun i_4 hx_10 => by obtain ⟨k_11, k_12⟩ := k_9 i_4 hx_10; exact ⟨_, _, by decide, fun X_17 B_5 => ⟨(ctg_name B_5.cf 3 rfl (by walk_at "loc") (by first | exact .inr rfl | exact .inl ((B_5.fn _).mpr rfl))), (t_tupL (f := (eQ (Cq g))) bi B_5.cf rfl (t_fz (LcD.cf B_5.cf (t_lc (f := (eQ (Cq g))) (own := [("j", 4)]) (val := fun j_6 => (ix ((ix table_1 i_4)) j_6)) (t_ciL (f := eI) (ce_var B_5.cf 2 rfl (by walk_at "vis") rfl)) k_11 ⟨rfl, by decide +kernel, by decide +kernel, by decide +kernel, by decide +kernel⟩ (fun j_6 hx_13 => by obtain ⟨k_14, k_15⟩ := k_12 j_6 hx_13; exact ⟨_, _, by decide, fun X_16 B_7 => ⟨(ctg_name B_7.cf 4 rfl (by walk_at "loc") (by first | exact .inr rfl | exact .inl ((B_7.fn _).mpr rfl))), (t_ixT (f := (eQ (Cq g))) (t_ixT (f := (eT (eQ (Cq g)))) (ce_var B_7.cf 0 rfl (by walk_at "vis") rfl) (ce_var B_7.cf 3 rfl (by walk_at "vis") rfl) k_14) (ce_var B_7.cf 4 rfl (by walk_at "vis") rfl) k_15)⟩⟩)))))⟩⟩))))) (hR ((rows_2.map fun i_4 => (columns_3.map fun j_6 => (ix ((ix table_1 i_4)) j_6)))) hW)
theorem w__law_plus {g : Gx} (h : HKL g) (q : QK g)  (hW : Hw__law_plus) : Fd g "_law_plus" 71 (sp__law_plus g) := by
  refine h.fd 34 48 rfl rfl rfl rfl (N := ["one", "two"]) (ps := ["one", "two"]) ⟨rfl, rfl, rfl, by decide +kernel, rfl, by decide +kernel, by decide +kernel⟩ (fun _ _ _ _ _ _ us hl => match us, hl with | [_, _], _ => rfl) (fun ds w Q hS => ?_) (fun X fr hK hfn hst ds w Q hS => ?_)
  · obtain ⟨p, rfl, _⟩ := hS; rfl
  · obtain ⟨⟨one_1, two_2⟩, rfl, hp, hQ⟩ := hS
    have hR : ∀ r, r = p__law_plus one_1 two_2 → Q ((eP eI eI) r) w := fun r e => by rw [e]; exact hQ
    replace hW := hW one_1 two_2 hp
    unfold W__law_plus at hW
    have bi := h.bi
    exact css_ret (d := (eP eI eI) (((one_1.1 + two_2.1), (one_1.2 + two_2.2)))) (t_pair (f := eI) (h := eI) (ce_bin (t_fst (ce_var fr 0 rfl (by walk_at "vis") rfl)) (t_fst (ce_var fr 1 rfl (by walk_at "vis") rfl)) b2_add) (ce_bin (t_snd (ce_var fr 0 rfl (by walk_at "vis") rfl)) (t_snd (ce_var fr 1 rfl (by walk_at "vis") rfl)) b2_add)) (hR (((one_1.1 + two_2.1), (one_1.2 + two_2.2))) hW)
theorem w__law_parts_hold {g : Gx} (h : HKL g) (q : QK g) (c__law_part : Fd g "_law_part" 71 (sp__law_part g)) (c__law_plus : Fd g "_law_plus" 71 (sp__law_plus g)) (c__law_take : Fd g "_law_take" 2 (sp__law_take g)) (c_determinant : Fd g "determinant" 75 (sp_determinant g)) (c_inertia : Fd g "inertia" 77 (sp_inertia g)) (c_inverse : Fd g "inverse" 75 (sp_inverse g)) (c_square_rank : Fd g "square_rank" 76 (sp_square_rank g)) (c_table_plus : Fd g "table_plus" 74 (sp_table_plus g)) (c_table_rank : Fd g "table_rank" 75 (sp_table_rank g)) (c_table_times : Fd g "table_times" 75 (sp_table_times g)) (c_turned : Fd g "turned" 74 (sp_turned g)) (hW : Hw__law_parts_hold) : Fd g "_law_parts_hold" 78 (sp__law_parts_hold g) := by
  refine h.fd 35 49 rfl rfl rfl rfl (N := ["state", "table", "n", "j", "left", "first", "rest", "corner", "side"]) (ps := ["state", "table", "n"]) ⟨rfl, rfl, rfl, by decide +kernel, rfl, by decide +kernel, by decide +kernel⟩ (fun _ _ _ _ _ _ us hl => match us, hl with | [_, _, _], _ => rfl) (fun ds w Q hS => ?_) (fun X fr hK hfn hst ds w Q hS => ?_)
  · obtain ⟨p, s, st, rfl, _⟩ := hS; rfl
  · obtain ⟨⟨table_1, n_2⟩, sa, st, rfl, rfl, hp, hQ⟩ := hS
    have hR : ∀ r, r = (true, p__law_parts_hold table_1 n_2 st) → Q (eB r.1) (wS sa r.2) := fun r e => by rw [e]; exact hQ
    replace hW := hW table_1 n_2 st hp
    unfold W__law_parts_hold at hW
    have bi := h.bi
    obtain ⟨k_3, hW⟩ := hW
    obtain ⟨j_4, e_5⟩ : ∃ z, z = ((1 : Int) + (p__law_take ((n_2 - (1 : Int))) st).1) := ⟨_, rfl⟩
    replace hW := hW j_4 e_5
    obtain ⟨st_6, e_7⟩ : ∃ z, z = (p__law_take ((n_2 - (1 : Int))) st).2 := ⟨_, rfl⟩
    replace hW := hW st_6 e_7
    refine css_asg (f := eI) fr 3 rfl (by walk_at "loc") hfn e_5 (ce_bin ce_int (ce_call fr c__law_take (by decide) spW_mon rfl (ca_cons (ce_var fr 0 rfl (by walk_at "vis") rfl) (ca_cons (ce_bin (ce_var fr 2 rfl (by walk_at "vis") rfl) ce_int b2_sub) ca_nil)) ⟨(n_2 - (1 : Int)), sa, st, rfl, rfl, k_3, rfl, rfl⟩) b2_add) (congrArg (wS sa) e_7) ?_
    obtain ⟨k_8, k_9, hW⟩ := hW
    obtain ⟨first_10, e_11⟩ : ∃ z, z = (irng 0 j_4) := ⟨_, rfl⟩
    replace hW := hW first_10 e_11
    obtain ⟨rest_12, e_13⟩ : ∃ z, z = (irng j_4 n_2) := ⟨_, rfl⟩
    replace hW := hW rest_12 e_13
    refine css_par2 (m1 := (.fz ((eL eI) ((irng 0 j_4))))) (n1 := (.fz ((eL eI) first_10))) (m2 := (.fz ((eL eI) ((irng j_4 n_2))))) (n2 := (.fz ((eL eI) rest_12))) fr 5 6 rfl rfl (by decide) (by walk_at "loc") (by walk_at "loc") hfn (by rw [e_11]) (by rw [e_13]) (t_fz (t_lstRg bi fr rfl rfl (ce_var fr 3 rfl (by walk_at "vis") rfl) k_8)) (t_fz (t_lstRg2 bi fr rfl rfl (ce_var fr 3 rfl (by walk_at "vis") rfl) (ce_var fr 2 rfl (by walk_at "vis") rfl) k_9)) rfl ?_ (by first | exact .inl ⟨rfl, rfl, Cf.sw fr rfl⟩ | exact .inr (Cf.sw fr rfl))
    obtain ⟨k_14, k_15, hW⟩ := hW
    obtain ⟨corner_16, e_17⟩ : ∃ z, z = (p__law_part table_1 first_10 first_10) := ⟨_, rfl⟩
    replace hW := hW corner_16 e_17
    obtain ⟨side_18, e_19⟩ : ∃ z, z = (p__law_part table_1 first_10 rest_12) := ⟨_, rfl⟩
    replace hW := hW side_18 e_19
    refine css_par2 (m1 := (.fz ((eT (eT (eQ (Cq g)))) ((p__law_part table_1 first_10 first_10))))) (n1 := (.fz ((eT (eT (eQ (Cq g)))) corner_16))) (m2 := (.fz ((eT (eT (eQ (Cq g)))) ((p__law_part table_1 first_10 rest_12))))) (n2 := (.fz ((eT (eT (eQ (Cq g)))) side_18))) fr 7 8 rfl rfl (by decide) (by walk_at "loc") (by walk_at "loc") hfn (by rw [e_17]) (by rw [e_19]) (ce_call fr c__law_part (by decide) spG_mon rfl (ca_cons (ce_var fr 1 rfl (by walk_at "vis") rfl) (ca_cons (ce_var fr 5 rfl (by walk_at "vis") rfl) (ca_cons (ce_var fr 5 rfl (by walk_at "vis") rfl) ca_nil))) ⟨(table_1, first_10, first_10), rfl, k_14, rfl, rfl⟩) (ce_call fr c__law_part (by decide) spG_mon rfl (ca_cons (ce_var fr 1 rfl (by walk_at "vis") rfl) (ca_cons (ce_var fr 5 rfl (by walk_at "vis") rfl) (ca_cons (ce_var fr 6 rfl (by walk_at "vis") rfl) ca_nil))) ⟨(table_1, first_10, rest_12), rfl, k_15, rfl, rfl⟩) rfl ?_ (by first | exact .inl ⟨rfl, rfl, Cf.sw fr rfl⟩ | exact .inr (Cf.sw fr rfl))
    obtain ⟨k_20, hW⟩ := hW
    obtain ⟨w_46, w_47⟩ := hW
    refine css_if (ct_cmp (t_sign q fr (by decide) (ce_call fr c_determinant (by decide) spG_mon rfl (ca_cons (ce_var fr 7 rfl (by walk_at "vis") rfl) ca_nil) ⟨corner_16, rfl, k_20, rfl, rfl⟩)) ce_int t_eqI rfl) (fun hc => ?_) (fun hc => ?_)
    · have hW := w_46 hc
      obtain ⟨k_21, k_22, hW⟩ := hW
      exact css_ret (d := eB (((decide ((p_table_rank corner_16) < j_4)) && (decide ((p_square_rank corner_16) = (p_table_rank corner_16)))))) (ce_and (ce_cmp (ce_call fr c_table_rank (by decide) spG_mon rfl (ca_cons (ce_var fr 7 rfl (by walk_at "vis") rfl) ca_nil) ⟨corner_16, rfl, k_21, rfl, rfl⟩) (ce_var fr 3 rfl (by walk_at "vis") rfl) b2_lt rfl) (fun hc => by obtain ⟨k_23, k_24⟩ := k_22 hc; exact (ce_one (ce_cmp (ce_call fr c_square_rank (by decide) spG_mon rfl (ca_cons (ce_var fr 7 rfl (by walk_at "vis") rfl) ca_nil) ⟨corner_16, rfl, k_23, rfl, rfl⟩) (ce_call fr c_table_rank (by decide) spG_mon rfl (ca_cons (ce_var fr 7 rfl (by walk_at "vis") rfl) ca_nil) ⟨corner_16, rfl, k_24, rfl, rfl⟩) t_eqI rfl)))) (hR (((decide ((p_table_rank corner_16) < j_4)) && (decide ((p_square_rank corner_16) = (p_table_rank corner_16)))), st_6) hW)
    · have hW := w_47 hc
      refine css_nil ?_
      obtain ⟨k_25, k_26, k_27, k_28, k_29, k_30, hW⟩ := hW
      obtain ⟨left_31, e_32⟩ : ∃ z, z = (p_table_plus ((p__law_part table_1 rest_12 rest_12)) ((p_table_times ((p_turned side_18)) ((p_table_times ((p_inverse corner_16)) side_18)))) ((-(1 : Int)))) := ⟨_, rfl⟩
      replace hW := hW left_31 e_32
      refine css_asg (f := (eT (eT (eQ (Cq g))))) fr 4 rfl (by walk_at "loc") hfn e_32 (ce_call fr c_table_plus (by decide) spG_mon rfl (ca_cons (ce_call fr c__law_part (by decide) spG_mon rfl (ca_cons (ce_var fr 1 rfl (by walk_at "vis") rfl) (ca_cons (ce_var fr 6 rfl (by walk_at "vis") rfl) (ca_cons (ce_var fr 6 rfl (by walk_at "vis") rfl) ca_nil))) ⟨(table_1, rest_12, rest_12), rfl, k_25, rfl, rfl⟩) (ca_cons (ce_call fr c_table_times (by decide) spG_mon rfl (ca_cons (ce_call fr c_turned (by decide) spG_mon rfl (ca_cons (ce_var fr 8 rfl (by walk_at "vis") rfl) ca_nil) ⟨side_18, rfl, k_26, rfl, rfl⟩) (ca_cons (ce_call fr c_table_times (by decide) spG_mon rfl (ca_cons (ce_call fr c_inverse (by decide) spG_mon rfl (ca_cons (ce_var fr 7 rfl (by walk_at "vis") rfl) ca_nil) ⟨corner_16, rfl, k_27, rfl, rfl⟩) (ca_cons (ce_var fr 8 rfl (by walk_at "vis") rfl) ca_nil)) ⟨((p_inverse corner_16), side_18), rfl, k_28, rfl, rfl⟩) ca_nil)) ⟨((p_turned side_18), (p_table_times ((p_inverse corner_16)) side_18)), rfl, k_29, rfl, rfl⟩) (ca_cons (ce_un ce_int u1_neg) ca_nil))) ⟨((p__law_part table_1 rest_12 rest_12), (p_table_times ((p_turned side_18)) ((p_table_times ((p_inverse corner_16)) side_18))), (-(1 : Int))), rfl, k_30, rfl, rfl⟩) rfl ?_
      obtain ⟨k_33, k_34, k_35, k_36, k_37, hW⟩ := hW
      obtain ⟨w_42, w_43⟩ := hW
      refine css_if (CW.t (cw_or (ct_cmp (ce_call fr c_inertia (by decide) spG_mon rfl (ca_cons (ce_var fr 1 rfl (by walk_at "vis") rfl) ca_nil) ⟨table_1, rfl, k_33, rfl, rfl⟩) (ce_call fr c__law_plus (by decide) spG_mon rfl (ca_cons (ce_call fr c_inertia (by decide) spG_mon rfl (ca_cons (ce_var fr 7 rfl (by walk_at "vis") rfl) ca_nil) ⟨corner_16, rfl, k_34, rfl, rfl⟩) (ca_cons (ce_call fr c_inertia (by decide) spG_mon rfl (ca_cons (ce_var fr 4 rfl (by walk_at "vis") rfl) ca_nil) ⟨left_31, rfl, k_35, rfl, rfl⟩) ca_nil)) ⟨((p_inertia corner_16), (p_inertia left_31)), rfl, k_36, rfl, rfl⟩) (t_neP fr (by decide)) rfl) (fun hc => by obtain ⟨k_44, k_45⟩ := k_37 hc; exact (cw_or1 (ct_cmp (ce_call fr c_square_rank (by decide) spG_mon rfl (ca_cons (ce_var fr 1 rfl (by walk_at "vis") rfl) ca_nil) ⟨table_1, rfl, k_44, rfl, rfl⟩) (ce_bin (ce_var fr 3 rfl (by walk_at "vis") rfl) (ce_call fr c_square_rank (by decide) spG_mon rfl (ca_cons (ce_var fr 4 rfl (by walk_at "vis") rfl) ca_nil) ⟨left_31, rfl, k_45, rfl, rfl⟩) b2_add) t_neI rfl))))) (fun hc => ?_) (fun hc => ?_)
      · have hW := w_42 hc
        exact css_ret (d := eB false) ce_bl (hR (false, st_6) hW)
      · have hW := w_43 hc
        refine css_nil ?_
        obtain ⟨k_38, k_39, k_40, k_41, hW⟩ := hW
        exact css_ret (d := eB ((decide ((p_determinant table_1) = ((p_determinant corner_16) * (p_determinant left_31)))))) (ce_cmp (ce_call fr c_determinant (by decide) spG_mon rfl (ca_cons (ce_var fr 1 rfl (by walk_at "vis") rfl) ca_nil) ⟨table_1, rfl, k_38, rfl, rfl⟩) (t_mul q fr (by decide) (ce_call fr c_determinant (by decide) spG_mon rfl (ca_cons (ce_var fr 7 rfl (by walk_at "vis") rfl) ca_nil) ⟨corner_16, rfl, k_39, rfl, rfl⟩) (ce_call fr c_determinant (by decide) spG_mon rfl (ca_cons (ce_var fr 4 rfl (by walk_at "vis") rfl) ca_nil) ⟨left_31, rfl, k_40, rfl, rfl⟩) k_41) (t_eqQ q fr (by decide)) rfl) (hR ((decide ((p_determinant table_1) = ((p_determinant corner_16) * (p_determinant left_31)))), st_6) hW)
theorem w__law_minors_hold {g : Gx} (h : HKL g) (q : QK g) (c__law_part : Fd g "_law_part" 71 (sp__law_part g)) (c_determinant : Fd g "determinant" 75 (sp_determinant g)) (c_inertia : Fd g "inertia" 77 (sp_inertia g)) (c_is_above : Fd g "is_above" 76 (sp_is_above g)) (c_table_rank : Fd g "table_rank" 75 (sp_table_rank g)) (hW : Hw__law_minors_hold) : Fd g "_law_minors_hold" 78 (sp__law_minors_hold g) := by
  refine h.fd 36 50 rfl rfl rfl rfl (N := ["table", "n", "minors", "p", "q", "k", "x", "a", "b"]) (ps := ["table", "n"]) ⟨rfl, rfl, rfl, by decide +kernel, rfl, by decide +kernel, by decide +kernel⟩ (fun _ _ _ _ _ _ us hl => match us, hl with | [_, _], _ => rfl) (fun ds w Q hS => ?_) (fun X fr hK hfn hst ds w Q hS => ?_)
  · obtain ⟨p, rfl, _⟩ := hS; rfl
  · obtain ⟨⟨table_1, n_2⟩, rfl, hp, hQ⟩ := hS
    have hR : ∀ r, r = true → Q (eB r) w := fun r e => by rw [e]; exact hQ
    replace hW := hW table_1 n_2 hp
    unfold W__law_minors_hold at hW
    have bi := h.bi
    obtain ⟨k_5, k_6, k_7, k_8, hW⟩ := hW
    obtain ⟨minors_9, e_10⟩ : ∃ z, z = ([((((1 : Int) : Int) : Rat) : Rat)] ++ (((irng ((1 : Int)) ((n_2 + (1 : Int))))).map fun k_3 => (p_determinant ((p__law_part table_1 ((irng 0 k_3)) ((irng 0 k_3))))))) := ⟨_, rfl⟩
    replace hW := hW minors_9 e_10
    refine css_asg (f := (eL (eQ (Cq g)))) fr 2 rfl (by walk_at "loc") hfn e_10 (t_fz (t_catL (t_fz (t_lst1 (f := (eQ (Cq g))) (t_mk1 q fr (by decide) rfl ce_int))) (t_fz (LcD.cf fr (t_lc (f := (eQ (Cq g))) (own := [("k", 5)]) (val := fun k_3 => (p_determinant ((p__law_part table_1 ((irng 0 k_3)) ((irng 0 k_3)))))) (t_ciR2 bi fr rfl ce_int (ce_bin (ce_var fr 1 rfl (by walk_at "vis") rfl) ce_int b2_add) k_5) k_6 ⟨rfl, by decide +kernel, by decide +kernel, by decide +kernel, by decide +kernel⟩ (fun k_3 hx_11 => by obtain ⟨k_12, k_13, k_14, k_15⟩ := k_7 k_3 hx_11; exact ⟨_, _, by decide, fun X_16 B_4 => ⟨(ctg_name B_4.cf 5 rfl (by walk_at "loc") (by first | exact .inr rfl | exact .inl ((B_4.fn _).mpr rfl))), (ce_call B_4.cf c_determinant (by decide) spG_mon rfl (ca_cons (ce_call B_4.cf c__law_part (by decide) spG_mon rfl (ca_cons (ce_var B_4.cf 0 rfl (by walk_at "vis") rfl) (ca_cons (t_fz (t_lstRg bi B_4.cf rfl rfl (ce_var B_4.cf 5 rfl (by walk_at "vis") rfl) k_12)) (ca_cons (t_fz (t_lstRg bi B_4.cf rfl rfl (ce_var B_4.cf 5 rfl (by walk_at "vis") rfl) k_13)) ca_nil))) ⟨(table_1, (irng 0 k_3), (irng 0 k_3)), rfl, k_14, rfl, rfl⟩) ca_nil) ⟨(p__law_part table_1 ((irng 0 k_3)) ((irng 0 k_3))), rfl, k_15, rfl, rfl⟩)⟩⟩)))) k_8)) rfl ?_
    obtain ⟨k_17, hW⟩ := hW
    obtain ⟨p_18, e_19⟩ : ∃ z, z = ((p_inertia table_1)).1 := ⟨_, rfl⟩
    replace hW := hW p_18 e_19
    obtain ⟨q_20, e_21⟩ : ∃ z, z = ((p_inertia table_1)).2 := ⟨_, rfl⟩
    replace hW := hW q_20 e_21
    refine css_asgP (v := (p_inertia table_1)) (f := eI) (h := eI) fr 3 4 rfl rfl (by walk_at "loc") (by walk_at "loc") hfn e_19 e_21 (ce_call fr c_inertia (by decide) spG_mon rfl (ca_cons (ce_var fr 0 rfl (by walk_at "vis") rfl) ca_nil) ⟨table_1, rfl, k_17, rfl, rfl⟩) rfl ?_
    obtain ⟨k_24, k_25, k_26, hW⟩ := hW
    obtain ⟨w_46, w_47⟩ := hW
    refine css_if (CW.t (cw_or (ct_cmp (ce_call fr c_is_above (by decide) spG_mon rfl (ca_cons (ce_var fr 0 rfl (by walk_at "vis") rfl) ca_nil) ⟨table_1, rfl, k_24, rfl, rfl⟩) (t_all bi fr rfl (t_fz (LcD.cf fr (t_lc (f := eB) (own := [("x", 6)]) (val := fun x_22 => (decide ((0 : Int) < (qsgn x_22)))) (t_ciL (f := (eQ (Cq g))) (ce_var fr 2 rfl (by walk_at "vis") rfl)) k_25 ⟨rfl, by decide +kernel, by decide +kernel, by decide +kernel, by decide +kernel⟩ (fun x_22 hx_48 => by exact ⟨_, _, by decide, fun X_49 B_23 => ⟨(ctg_name B_23.cf 6 rfl (by walk_at "loc") (by first | exact .inr rfl | exact .inl ((B_23.fn _).mpr rfl))), (ce_cmp (t_sign q B_23.cf (by decide) (ce_var B_23.cf 6 rfl (by walk_at "vis") rfl)) ce_int b2_gt rfl)⟩⟩))))) t_neB rfl) (fun hc => by obtain k_50 := k_26 hc; exact (cw_or1 (ct_cmp (ce_call fr c_is_above (by decide) spG_mon rfl (ca_cons (ce_var fr 0 rfl (by walk_at "vis") rfl) ca_nil) ⟨table_1, rfl, k_50, rfl, rfl⟩) (ce_cmp (t_pair (f := eI) (h := eI) (ce_var fr 3 rfl (by walk_at "vis") rfl) (ce_var fr 4 rfl (by walk_at "vis") rfl)) (t_pair (f := eI) (h := eI) (ce_var fr 1 rfl (by walk_at "vis") rfl) ce_int) (t_eqP fr (by decide)) rfl) t_neB rfl))))) (fun hc => ?_) (fun hc => ?_)
    · have hW := w_46 hc
      exact css_ret (d := eB false) ce_bl (hR (false) hW)
    · have hW := w_47 hc
      refine css_nil ?_
      obtain ⟨k_27, k_28, hW⟩ := hW
      obtain ⟨w_42, w_43⟩ := hW
      refine css_if (CW.t (cw_and (ct_cmp (t_sign q fr (by decide) (t_ixL (f := (eQ (Cq g))) (ce_var fr 2 rfl (by walk_at "vis") rfl) (ce_un ce_int u1_neg) k_27)) ce_int t_neI rfl) (fun hc => by obtain ⟨k_44, k_45⟩ := k_28 hc; exact (cw_and1 (ct_cmp (t_sign q fr (by decide) (t_ixL (f := (eQ (Cq g))) (ce_var fr 2 rfl (by walk_at "vis") rfl) (ce_un ce_int u1_neg) k_44)) (t_if (f := eI) (ct_cmp (ce_bin (t_intI bi fr rfl (ce_var fr 4 rfl (by walk_at "vis") rfl)) ce_int (b2_mod k_45)) ce_int t_eqI rfl) (fun _ => ce_int) (fun _ => (ce_un ce_int u1_neg))) t_neI rfl))))) (fun hc => ?_) (fun hc => ?_)
      · have hW := w_42 hc
        exact css_ret (d := eB false) ce_bl (hR (false) hW)
      · have hW := w_43 hc
        refine css_nil ?_
        obtain ⟨k_31, hW⟩ := hW
        obtain ⟨w_38, w_39⟩ := hW
        refine css_if (ct_val (t_any bi fr rfl (t_fz (LcD.cf fr (t_lc (f := eB) (own := [("x", 6)]) (val := fun x_29 => (decide ((qsgn x_29) = (0 : Int)))) (t_ciL (f := (eQ (Cq g))) (ce_var fr 2 rfl (by walk_at "vis") rfl)) k_31 ⟨rfl, by decide +kernel, by decide +kernel, by decide +kernel, by decide +kernel⟩ (fun x_29 hx_40 => by exact ⟨_, _, by decide, fun X_41 B_30 => ⟨(ctg_name B_30.cf 6 rfl (by walk_at "loc") (by first | exact .inr rfl | exact .inl ((B_30.fn _).mpr rfl))), (ce_cmp (t_sign q B_30.cf (by decide) (ce_var B_30.cf 6 rfl (by walk_at "vis") rfl)) ce_int t_eqI rfl)⟩⟩)))))) (fun hc => ?_) (fun hc => ?_)
        · have hW := w_38 hc
          obtain ⟨k_32, hW⟩ := hW
          exact css_ret (d := eB ((decide ((p_18 + q_20) = (p_table_rank table_1))))) (ce_cmp (ce_bin (ce_var fr 3 rfl (by walk_at "vis") rfl) (ce_var fr 4 rfl (by walk_at "vis") rfl) b2_add) (ce_call fr c_table_rank (by decide) spG_mon rfl (ca_cons (ce_var fr 0 rfl (by walk_at "vis") rfl) ca_nil) ⟨table_1, rfl, k_32, rfl, rfl⟩) t_eqI rfl) (hR ((decide ((p_18 + q_20) = (p_table_rank table_1)))) hW)
        · have hW := w_39 hc
          refine css_nil ?_
          obtain ⟨k_35, hW⟩ := hW
          exact css_ret (d := eB (((decide (q_20 = ((((((minors_9.zip ((cutL minors_9 (some (1 : Int)) none)))).filter fun p_33 => (decide ((qsgn p_33.1) ≠ (qsgn p_33.2)))).map fun p_33 => (1 : Int))).length : Int))) && (decide ((p_18 + q_20) = n_2))))) (ce_and (ce_cmp (ce_var fr 4 rfl (by walk_at "vis") rfl) (t_lenL bi fr rfl (t_fz (LcD.cf fr (t_lcF (f := eI) (own := [("a", 7), ("b", 8)]) (val := fun p_33 => (1 : Int)) (pr := fun p_33 => (decide ((qsgn p_33.1) ≠ (qsgn p_33.2)))) (t_ciZL (f := (eQ (Cq g))) (h := (eQ (Cq g))) bi fr rfl (ce_var fr 2 rfl (by walk_at "vis") rfl) (t_fz (t_slL (ce_var fr 2 rfl (by walk_at "vis") rfl) (co_some ce_int) co_none))) k_35 ⟨rfl, by decide +kernel, by decide +kernel, by decide +kernel, by decide +kernel⟩ (fun p_33 hx_36 => by exact ⟨_, _, by decide, fun X_37 B_34 => ⟨(ctg_tup B_34.cf (ctgs_cons (ctg_name B_34.cf 7 rfl (by walk_at "loc") (by first | exact .inr rfl | exact .inl ((B_34.fn _).mpr rfl))) (ctgs_cons (ctg_name B_34.cf 8 rfl (by walk_at "loc") (by first | exact .inr rfl | exact .inl ((B_34.fn _).mpr rfl))) ctgs_nil))), (ct_cmp (t_sign q B_34.cf (by decide) (ce_var B_34.cf 7 rfl (by walk_at "vis") rfl)) (t_sign q B_34.cf (by decide) (ce_var B_34.cf 8 rfl (by walk_at "vis") rfl)) t_neI rfl), (fun _ => ce_int)⟩⟩))))) t_eqI rfl) (fun _ => (ce_one (ce_cmp (ce_bin (ce_var fr 3 rfl (by walk_at "vis") rfl) (ce_var fr 4 rfl (by walk_at "vis") rfl) b2_add) (ce_var fr 1 rfl (by walk_at "vis") rfl) t_eqI rfl)))) (hR (((decide (q_20 = ((((((minors_9.zip ((cutL minors_9 (some (1 : Int)) none)))).filter fun p_33 => (decide ((qsgn p_33.1) ≠ (qsgn p_33.2)))).map fun p_33 => (1 : Int))).length : Int))) && (decide ((p_18 + q_20) = n_2)))) hW)
theorem w__law_fewer_hold {g : Gx} (h : HKL g) (q : QK g) (c__law_part : Fd g "_law_part" 71 (sp__law_part g)) (c__law_take : Fd g "_law_take" 2 (sp__law_take g)) (c_inertia : Fd g "inertia" 77 (sp_inertia g)) (hW : Hw__law_fewer_hold) : Fd g "_law_fewer_hold" 78 (sp__law_fewer_hold g) := by
  refine h.fd 37 51 rfl rfl rfl rfl (N := ["state", "table", "n", "gone", "held", "p", "q", "a", "b", "i"]) (ps := ["state", "table", "n"]) ⟨rfl, rfl, rfl, by decide +kernel, rfl, by decide +kernel, by decide +kernel⟩ (fun _ _ _ _ _ _ us hl => match us, hl with | [_, _, _], _ => rfl) (fun ds w Q hS => ?_) (fun X fr hK hfn hst ds w Q hS => ?_)
  · obtain ⟨p, s, st, rfl, _⟩ := hS; rfl
  · obtain ⟨⟨table_1, n_2⟩, sa, st, rfl, rfl, hp, hQ⟩ := hS
    have hR : ∀ r, r = (true, p__law_fewer_hold table_1 n_2 st) → Q (eB r.1) (wS sa r.2) := fun r e => by rw [e]; exact hQ
    replace hW := hW table_1 n_2 st hp
    unfold W__law_fewer_hold at hW
    have bi := h.bi
    obtain ⟨k_3, hW⟩ := hW
    obtain ⟨gone_4, e_5⟩ : ∃ z, z = (p__law_take n_2 st).1 := ⟨_, rfl⟩
    replace hW := hW gone_4 e_5
    obtain ⟨st_6, e_7⟩ : ∃ z, z = (p__law_take n_2 st).2 := ⟨_, rfl⟩
    replace hW := hW st_6 e_7
    refine css_asg (f := eI) fr 3 rfl (by walk_at "loc") hfn e_5 (ce_call fr c__law_take (by decide) spW_mon rfl (ca_cons (ce_var fr 0 rfl (by walk_at "vis") rfl) (ca_cons (ce_var fr 2 rfl (by walk_at "vis") rfl) ca_nil)) ⟨n_2, sa, st, rfl, rfl, k_3, rfl, rfl⟩) (congrArg (wS sa) e_7) ?_
    obtain ⟨k_11, k_12, hW⟩ := hW
    obtain ⟨held_13, e_14⟩ : ∃ z, z = ((((irng 0 n_2)).filter fun i_8 => (decide (i_8 ≠ gone_4))).map fun i_8 => i_8) := ⟨_, rfl⟩
    replace hW := hW held_13 e_14
    refine css_lc (f := eI) fr 4 rfl rfl rfl e_14 (t_lcF (f := eI) (own := [("i", 9)]) (val := fun i_8 => i_8) (pr := fun i_8 => (decide (i_8 ≠ gone_4))) (t_ciR bi fr rfl (ce_var fr 2 rfl (by walk_at "vis") rfl) k_11) k_12 ⟨rfl, by decide +kernel, by decide +kernel, by decide +kernel, by decide +kernel⟩ (fun i_8 hx_15 => by exact ⟨_, _, by decide, fun X_16 B_9 => ⟨(ctg_name B_9.cf 9 rfl (by walk_at "loc") (by first | exact .inr rfl | exact .inl ((B_9.fn _).mpr rfl))), (ct_cmp (ce_var B_9.cf 9 rfl (by walk_at "vis") rfl) (ce_var B_9.cf 3 rfl (by walk_at "vis") rfl) t_neI rfl), (fun _ => (ce_var B_9.cf 9 rfl (by walk_at "vis") rfl))⟩⟩)) rfl ?_
    obtain ⟨k_17, hW⟩ := hW
    obtain ⟨p_18, e_19⟩ : ∃ z, z = ((p_inertia table_1)).1 := ⟨_, rfl⟩
    replace hW := hW p_18 e_19
    obtain ⟨q_20, e_21⟩ : ∃ z, z = ((p_inertia table_1)).2 := ⟨_, rfl⟩
    replace hW := hW q_20 e_21
    refine css_asgP (v := (p_inertia table_1)) (f := eI) (h := eI) fr 5 6 rfl rfl (by walk_at "loc") (by walk_at "loc") hfn e_19 e_21 (ce_call fr c_inertia (by decide) spG_mon rfl (ca_cons (ce_var fr 1 rfl (by walk_at "vis") rfl) ca_nil) ⟨table_1, rfl, k_17, rfl, rfl⟩) rfl ?_
    obtain ⟨k_22, k_23, hW⟩ := hW
    obtain ⟨a_24, e_25⟩ : ∃ z, z = ((p_inertia ((p__law_part table_1 held_13 held_13)))).1 := ⟨_, rfl⟩
    replace hW := hW a_24 e_25
    obtain ⟨b_26, e_27⟩ : ∃ z, z = ((p_inertia ((p__law_part table_1 held_13 held_13)))).2 := ⟨_, rfl⟩
    replace hW := hW b_26 e_27
    refine css_asgP (v := (p_inertia ((p__law_part table_1 held_13 held_13)))) (f := eI) (h := eI) fr 7 8 rfl rfl (by walk_at "loc") (by walk_at "loc") hfn e_25 e_27 (ce_call fr c_inertia (by decide) spG_mon rfl (ca_cons (ce_call fr c__law_part (by decide) spG_mon rfl (ca_cons (ce_var fr 1 rfl (by walk_at "vis") rfl) (ca_cons (ce_var fr 4 rfl (by walk_at "vis") rfl) (ca_cons (ce_var fr 4 rfl (by walk_at "vis") rfl) ca_nil))) ⟨(table_1, held_13, held_13), rfl, k_22, rfl, rfl⟩) ca_nil) ⟨(p__law_part table_1 held_13 held_13), rfl, k_23, rfl, rfl⟩) rfl ?_
    exact css_ret (d := eB ((((decide (a_24 ≤ p_18)) && (decide (p_18 ≤ (a_24 + (1 : Int))))) && ((decide (b_26 ≤ q_20)) && (decide (q_20 ≤ (b_26 + (1 : Int)))))))) (ce_and (ce_chain (ce_var fr 7 rfl (by walk_at "vis") rfl) (ce_var fr 5 rfl (by walk_at "vis") rfl) b2_le (ce_bin (ce_var fr 7 rfl (by walk_at "vis") rfl) ce_int b2_add) b2_le) (fun _ => (ce_one (ce_chain (ce_var fr 8 rfl (by walk_at "vis") rfl) (ce_var fr 6 rfl (by walk_at "vis") rfl) b2_le (ce_bin (ce_var fr 8 rfl (by walk_at "vis") rfl) ce_int b2_add) b2_le)))) (hR ((((decide (a_24 ≤ p_18)) && (decide (p_18 ≤ (a_24 + (1 : Int))))) && ((decide (b_26 ≤ q_20)) && (decide (q_20 ≤ (b_26 + (1 : Int)))))), st_6) hW)
theorem w__law_sums_hold {g : Gx} (h : HKL g) (q : QK g) (c__law_table : Fd g "_law_table" 71 (sp__law_table g)) (c__law_take : Fd g "_law_take" 2 (sp__law_take g)) (c__law_total : Fd g "_law_total" 71 (sp__law_total g)) (c_determinant : Fd g "determinant" 75 (sp_determinant g)) (c_inertia : Fd g "inertia" 77 (sp_inertia g)) (c_table_plus : Fd g "table_plus" 74 (sp_table_plus g)) (c_table_rank : Fd g "table_rank" 75 (sp_table_rank g)) (c_table_times : Fd g "table_times" 75 (sp_table_times g)) (c_trace : Fd g "trace" 75 (sp_trace g)) (c_turned : Fd g "turned" 74 (sp_turned g)) (hW : Hw__law_sums_hold) : Fd g "_law_sums_hold" 78 (sp__law_sums_hold g) := by
  refine h.fd 38 52 rfl rfl rfl rfl (N := ["state", "one", "two", "n", "m", "small", "larger", "both", "i", "gram", "c", "d", "r", "s", "k", "p", "q", "a", "b", "row", "j", "x"]) (ps := ["state", "one", "two", "n"]) ⟨rfl, rfl, rfl, by decide +kernel, rfl, by decide +kernel, by decide +kernel⟩ (fun _ _ _ _ _ _ us hl => match us, hl with | [_, _, _, _], _ => rfl) (fun ds w Q hS => ?_) (fun X fr hK hfn hst ds w Q hS => ?_)
  · obtain ⟨p, s, st, rfl, _⟩ := hS; rfl
  · obtain ⟨⟨one_1, two_2, n_3⟩, sa, st, rfl, rfl, hp, hQ⟩ := hS
    have hR : ∀ r, r = (true, p__law_sums_hold one_1 two_2 n_3 st) → Q (eB r.1) (wS sa r.2) := fun r e => by rw [e]; exact hQ
    replace hW := hW one_1 two_2 n_3 st hp
    unfold W__law_sums_hold at hW
    have bi := h.bi
    obtain ⟨k_4, k_5, hW⟩ := hW
    obtain ⟨p_6, e_7⟩ : ∃ z, z = ((p_inertia one_1)).1 := ⟨_, rfl⟩
    replace hW := hW p_6 e_7
    obtain ⟨q_8, e_9⟩ : ∃ z, z = ((p_inertia one_1)).2 := ⟨_, rfl⟩
    replace hW := hW q_8 e_9
    obtain ⟨a_10, e_11⟩ : ∃ z, z = ((p_inertia two_2)).1 := ⟨_, rfl⟩
    replace hW := hW a_10 e_11
    obtain ⟨b_12, e_13⟩ : ∃ z, z = ((p_inertia two_2)).2 := ⟨_, rfl⟩
    replace hW := hW b_12 e_13
    refine css_asgT (hsw := Cf.sw fr rfl) (Γ'' := [.fz (.adr sa), .fz ((eT (eT (eQ (Cq g)))) one_1), .fz ((eT (eT (eQ (Cq g)))) two_2), .fz (eI n_3), .un, .un, .un, .un, .un, .un, .un, .un, .un, .un, .un, .fz (eI p_6), .fz (eI q_8), .fz (eI a_10), .fz (eI b_12), .un, .un, .un]) (t_pair (f := (eP eI eI)) (h := (eP eI eI)) (ce_call fr c_inertia (by decide) spG_mon rfl (ca_cons (ce_var fr 1 rfl (by walk_at "vis") rfl) ca_nil) ⟨one_1, rfl, k_4, rfl, rfl⟩) (ce_call fr c_inertia (by decide) spG_mon rfl (ca_cons (ce_var fr 2 rfl (by walk_at "vis") rfl) ca_nil) ⟨two_2, rfl, k_5, rfl, rfl⟩)) (ctg_tup fr (ctgs_cons (ctg_tup fr (ctgs_cons (ctg_name fr 15 rfl (by walk_at "loc") (.inl (hfn _))) (ctgs_cons (ctg_name fr 16 rfl (by walk_at "loc") (.inl (hfn _))) ctgs_nil))) (ctgs_cons (ctg_tup fr (ctgs_cons (ctg_name fr 17 rfl (by walk_at "loc") (.inl (hfn _))) (ctgs_cons (ctg_name fr 18 rfl (by walk_at "loc") (.inl (hfn _))) ctgs_nil))) ctgs_nil))) rfl (by rw [e_7, e_9, e_11, e_13]; rfl) ?_
    obtain ⟨k_14, k_15, hW⟩ := hW
    obtain ⟨c_16, e_17⟩ : ∃ z, z = ((p_inertia ((p_table_plus one_1 two_2 ((1 : Int)))))).1 := ⟨_, rfl⟩
    replace hW := hW c_16 e_17
    obtain ⟨d_18, e_19⟩ : ∃ z, z = ((p_inertia ((p_table_plus one_1 two_2 ((1 : Int)))))).2 := ⟨_, rfl⟩
    replace hW := hW d_18 e_19
    refine css_asgP (v := (p_inertia ((p_table_plus one_1 two_2 ((1 : Int)))))) (f := eI) (h := eI) fr 10 11 rfl rfl (by walk_at "loc") (by walk_at "loc") hfn e_17 e_19 (ce_call fr c_inertia (by decide) spG_mon rfl (ca_cons (ce_call fr c_table_plus (by decide) spG_mon rfl (ca_cons (ce_var fr 1 rfl (by walk_at "vis") rfl) (ca_cons (ce_var fr 2 rfl (by walk_at "vis") rfl) (ca_cons ce_int ca_nil))) ⟨(one_1, two_2, (1 : Int)), rfl, k_14, rfl, rfl⟩) ca_nil) ⟨(p_table_plus one_1 two_2 ((1 : Int))), rfl, k_15, rfl, rfl⟩) rfl ?_
    obtain ⟨w_159, w_160⟩ := hW
    refine css_if (CW.t (cw_or (ct_not (ct_chain (ce_max3 bi fr rfl (ce_bin (ce_var fr 15 rfl (by walk_at "vis") rfl) (ce_var fr 18 rfl (by walk_at "vis") rfl) b2_sub) (ce_bin (ce_var fr 17 rfl (by walk_at "vis") rfl) (ce_var fr 16 rfl (by walk_at "vis") rfl) b2_sub) ce_int) (ce_var fr 10 rfl (by walk_at "vis") rfl) b2_le (ce_bin (ce_var fr 15 rfl (by walk_at "vis") rfl) (ce_var fr 17 rfl (by walk_at "vis") rfl) b2_add) b2_le)) (fun _ => (cw_or1 (ct_not (ct_chain (ce_max3 bi fr rfl (ce_bin (ce_var fr 16 rfl (by walk_at "vis") rfl) (ce_var fr 17 rfl (by walk_at "vis") rfl) b2_sub) (ce_bin (ce_var fr 18 rfl (by walk_at "vis") rfl) (ce_var fr 15 rfl (by walk_at "vis") rfl) b2_sub) ce_int) (ce_var fr 11 rfl (by walk_at "vis") rfl) b2_le (ce_bin (ce_var fr 16 rfl (by walk_at "vis") rfl) (ce_var fr 18 rfl (by walk_at "vis") rfl) b2_add) b2_le)))))) (fun hc => ?_) (fun hc => ?_)
    · have hW := w_159 hc
      exact css_ret (d := eB false) ce_bl (hR (false, st) hW)
    · have hW := w_160 hc
      refine css_nil ?_
      obtain ⟨k_20, k_21, k_22, hW⟩ := hW
      obtain ⟨w_155, w_156⟩ := hW
      refine css_if (CW.t (cw_or (ct_cmp (ce_call fr c_inertia (by decide) spG_mon rfl (ca_cons (ce_call fr c_table_plus (by decide) spG_mon rfl (ca_cons (ce_var fr 1 rfl (by walk_at "vis") rfl) (ca_cons (ce_var fr 1 rfl (by walk_at "vis") rfl) (ca_cons (ce_un ce_int u1_neg) ca_nil))) ⟨(one_1, one_1, (-(2 : Int))), rfl, k_20, rfl, rfl⟩) ca_nil) ⟨(p_table_plus one_1 one_1 ((-(2 : Int)))), rfl, k_21, rfl, rfl⟩) (t_pair (f := eI) (h := eI) (ce_var fr 16 rfl (by walk_at "vis") rfl) (ce_var fr 15 rfl (by walk_at "vis") rfl)) (t_neP fr (by decide)) rfl) (fun hc => by obtain ⟨k_157, k_158⟩ := k_22 hc; exact (cw_or1 (ct_cmp (ce_call fr c_inertia (by decide) spG_mon rfl (ca_cons (ce_call fr c_table_plus (by decide) spG_mon rfl (ca_cons (ce_var fr 1 rfl (by walk_at "vis") rfl) (ca_cons (ce_var fr 2 rfl (by walk_at "vis") rfl) (ca_cons ce_int ca_nil))) ⟨(one_1, two_2, (0 : Int)), rfl, k_157, rfl, rfl⟩) ca_nil) ⟨(p_table_plus one_1 two_2 ((0 : Int))), rfl, k_158, rfl, rfl⟩) (t_pair (f := eI) (h := eI) (ce_var fr 15 rfl (by walk_at "vis") rfl) (ce_var fr 16 rfl (by walk_at "vis") rfl)) (t_neP fr (by decide)) rfl))))) (fun hc => ?_) (fun hc => ?_)
      · have hW := w_155 hc
        exact css_ret (d := eB false) ce_bl (hR (false, st) hW)
      · have hW := w_156 hc
        refine css_nil ?_
        obtain ⟨k_23, hW⟩ := hW
        obtain ⟨m_24, e_25⟩ : ∃ z, z = ((1 : Int) + (p__law_take ((2 : Int)) st).1) := ⟨_, rfl⟩
        replace hW := hW m_24 e_25
        obtain ⟨st_26, e_27⟩ : ∃ z, z = (p__law_take ((2 : Int)) st).2 := ⟨_, rfl⟩
        replace hW := hW st_26 e_27
        refine css_asg (f := eI) fr 4 rfl (by walk_at "loc") hfn e_25 (ce_bin ce_int (ce_call fr c__law_take (by decide) spW_mon rfl (ca_cons (ce_var fr 0 rfl (by walk_at "vis") rfl) (ca_cons ce_int ca_nil)) ⟨(2 : Int), sa, st, rfl, rfl, k_23, rfl, rfl⟩) b2_add) (congrArg (wS sa) e_27) ?_
        obtain ⟨k_28, hW⟩ := hW
        obtain ⟨small_29, e_30⟩ : ∃ z, z = (p__law_table m_24 st_26).1 := ⟨_, rfl⟩
        replace hW := hW small_29 e_30
        obtain ⟨st_31, e_32⟩ : ∃ z, z = (p__law_table m_24 st_26).2 := ⟨_, rfl⟩
        replace hW := hW st_31 e_32
        refine css_asg (f := (eT (eT (eQ (Cq g))))) fr 5 rfl (by walk_at "loc") hfn e_30 (ce_call fr c__law_table (by decide) spW_mon rfl (ca_cons (ce_var fr 0 rfl (by walk_at "vis") rfl) (ca_cons (ce_var fr 4 rfl (by walk_at "vis") rfl) ca_nil)) ⟨m_24, sa, st_26, rfl, rfl, k_28, rfl, rfl⟩) (congrArg (wS sa) e_32) ?_
        obtain ⟨k_33, hW⟩ := hW
        obtain ⟨r_34, e_35⟩ : ∃ z, z = ((p_inertia small_29)).1 := ⟨_, rfl⟩
        replace hW := hW r_34 e_35
        obtain ⟨s_36, e_37⟩ : ∃ z, z = ((p_inertia small_29)).2 := ⟨_, rfl⟩
        replace hW := hW s_36 e_37
        refine css_asgP (v := (p_inertia small_29)) (f := eI) (h := eI) fr 12 13 rfl rfl (by walk_at "loc") (by walk_at "loc") hfn e_35 e_37 (ce_call fr c_inertia (by decide) spG_mon rfl (ca_cons (ce_var fr 5 rfl (by walk_at "vis") rfl) ca_nil) ⟨small_29, rfl, k_33, rfl, rfl⟩) rfl ?_
        obtain ⟨k_44, k_45, k_46, k_47, k_48, hW⟩ := hW
        obtain ⟨larger_49, e_50⟩ : ∃ z, z = ((one_1.map fun row_38 => (row_38 ++ (rpt m_24 (((((0 : Int) : Int) : Rat) : Rat))))) ++ (small_29.map fun row_41 => ((rpt n_3 (((((0 : Int) : Int) : Rat) : Rat))) ++ row_41))) := ⟨_, rfl⟩
        replace hW := hW larger_49 e_50
        refine css_asg (f := (eL (eT (eQ (Cq g))))) fr 6 rfl (by walk_at "loc") hfn e_50 (t_fz (t_catL (t_fz (LcD.cf fr (t_lc (f := (eT (eQ (Cq g)))) (own := [("row", 19)]) (val := fun row_38 => (row_38 ++ (rpt m_24 (((((0 : Int) : Int) : Rat) : Rat))))) (t_ciT (f := (eT (eQ (Cq g)))) (ce_var fr 1 rfl (by walk_at "vis") rfl)) k_44 ⟨rfl, by decide +kernel, by decide +kernel, by decide +kernel, by decide +kernel⟩ (fun row_38 hx_51 => by obtain ⟨k_52, k_53⟩ := k_45 row_38 hx_51; exact ⟨_, _, by decide, fun X_54 B_39 => ⟨(ctg_name B_39.cf 19 rfl (by walk_at "loc") (by first | exact .inr rfl | exact .inl ((B_39.fn _).mpr rfl))), (t_catT (t_tupT (f := (eQ (Cq g))) bi B_39.cf rfl (ce_var B_39.cf 19 rfl (by walk_at "vis") rfl)) (t_rep1T (t_tup1 (f := (eQ (Cq g))) (t_mk1 q B_39.cf (by decide) rfl ce_int)) (ce_var B_39.cf 4 rfl (by walk_at "vis") rfl) k_52) k_53)⟩⟩)))) (t_fz (LcD.cf fr (t_lc (f := (eT (eQ (Cq g)))) (own := [("row", 19)]) (val := fun row_41 => ((rpt n_3 (((((0 : Int) : Int) : Rat) : Rat))) ++ row_41)) (t_ciT (f := (eT (eQ (Cq g)))) (ce_var fr 5 rfl (by walk_at "vis") rfl)) k_46 ⟨rfl, by decide +kernel, by decide +kernel, by decide +kernel, by decide +kernel⟩ (fun row_41 hx_55 => by obtain ⟨k_56, k_57⟩ := k_47 row_41 hx_55; exact ⟨_, _, by decide, fun X_58 B_42 => ⟨(ctg_name B_42.cf 19 rfl (by walk_at "loc") (by first | exact .inr rfl | exact .inl ((B_42.fn _).mpr rfl))), (t_catT (t_rep1T (t_tup1 (f := (eQ (Cq g))) (t_mk1 q B_42.cf (by decide) rfl ce_int)) (ce_var B_42.cf 3 rfl (by walk_at "vis") rfl) k_56) (t_tupT (f := (eQ (Cq g))) bi B_42.cf rfl (ce_var B_42.cf 19 rfl (by walk_at "vis") rfl)) k_57)⟩⟩)))) k_48)) rfl ?_
        obtain ⟨k_59, k_60, hW⟩ := hW
        obtain ⟨w_149, w_150⟩ := hW
        refine css_if (CW.t (cw_or (ct_cmp (ce_call fr c_inertia (by decide) spG_mon rfl (ca_cons (t_tupL (f := (eT (eQ (Cq g)))) bi fr rfl (ce_var fr 6 rfl (by walk_at "vis") rfl)) ca_nil) ⟨larger_49, rfl, k_59, rfl, rfl⟩) (t_pair (f := eI) (h := eI) (ce_bin (ce_var fr 15 rfl (by walk_at "vis") rfl) (ce_var fr 12 rfl (by walk_at "vis") rfl) b2_add) (ce_bin (ce_var fr 16 rfl (by walk_at "vis") rfl) (ce_var fr 13 rfl (by walk_at "vis") rfl) b2_add)) (t_neP fr (by decide)) rfl) (fun hc => by obtain ⟨k_151, k_152, k_153, k_154⟩ := k_60 hc; exact (cw_or1 (ct_cmp (ce_call fr c_determinant (by decide) spG_mon rfl (ca_cons (t_tupL (f := (eT (eQ (Cq g)))) bi fr rfl (ce_var fr 6 rfl (by walk_at "vis") rfl)) ca_nil) ⟨larger_49, rfl, k_151, rfl, rfl⟩) (t_mul q fr (by decide) (ce_call fr c_determinant (by decide) spG_mon rfl (ca_cons (ce_var fr 1 rfl (by walk_at "vis") rfl) ca_nil) ⟨one_1, rfl, k_152, rfl, rfl⟩) (ce_call fr c_determinant (by decide) spG_mon rfl (ca_cons (ce_var fr 5 rfl (by walk_at "vis") rfl) ca_nil) ⟨small_29, rfl, k_153, rfl, rfl⟩) k_154) (t_neQ q fr (by decide)) rfl))))) (fun hc => ?_) (fun hc => ?_)
        · have hW := w_149 hc
          exact css_ret (d := eB false) ce_bl (hR (false, st_31) hW)
        · have hW := w_150 hc
          refine css_nil ?_
          obtain ⟨both_61, e_62⟩ : ∃ z, z = ([] : (List (List Rat))) := ⟨_, rfl⟩
          replace hW := hW both_61 e_62
          refine css_asgO (f := (eT (eQ (Cq g)))) fr 7 rfl (by walk_at "loc") hfn e_62 (t_lst0 (f := (eT (eQ (Cq g))))) rfl ?_
          obtain ⟨k_63, hW⟩ := hW
          obtain ⟨I_65, w_144, w_145, w_146⟩ := hW
          refine css_for (enc := eI) fr (t_ciR bi fr rfl (ce_var fr 3 rfl (by walk_at "vis") rfl) k_63) [8, 14, 19, 20] (fun (both_64 : (List (List Rat))) => [.fz (.adr sa), .fz ((eT (eT (eQ (Cq g)))) one_1), .fz ((eT (eT (eQ (Cq g)))) two_2), .fz (eI n_3), .fz (eI m_24), .fz ((eT (eT (eQ (Cq g)))) small_29), .fz ((eL (eT (eQ (Cq g)))) larger_49), .ow (both_64.map (eT (eQ (Cq g)))), .un, .un, .fz (eI c_16), .fz (eI d_18), .fz (eI r_34), .fz (eI s_36), .un, .fz (eI p_6), .fz (eI q_8), .fz (eI a_10), .fz (eI b_12), .un, .un, .un]) (fun (both_64 : (List (List Rat))) => (wS sa st_31)) I_65 both_61 rfl rfl w_144 ?_ ?_
          · rintro i_67 i_66 both_64 hx_147 hI_148
            have hW := w_145 i_67 i_66 both_64 hx_147 hI_148
            refine ⟨_, _, (ctg_name fr 8 rfl (by walk_at "loc") (.inl (hfn _))), ?_⟩
            obtain ⟨k_69, hW⟩ := hW
            obtain ⟨I_71, w_105, w_106, w_107⟩ := hW
            refine css_for (enc := eI) fr (t_ciR bi fr rfl (ce_var fr 4 rfl (by walk_at "vis") rfl) k_69) [14, 19, 20] (fun (both_70 : (List (List Rat))) => [.fz (.adr sa), .fz ((eT (eT (eQ (Cq g)))) one_1), .fz ((eT (eT (eQ (Cq g)))) two_2), .fz (eI n_3), .fz (eI m_24), .fz ((eT (eT (eQ (Cq g)))) small_29), .fz ((eL (eT (eQ (Cq g)))) larger_49), .ow (both_70.map (eT (eQ (Cq g)))), .fz (eI i_66), .un, .fz (eI c_16), .fz (eI d_18), .fz (eI r_34), .fz (eI s_36), .un, .fz (eI p_6), .fz (eI q_8), .fz (eI a_10), .fz (eI b_12), .un, .un, .un]) (fun (both_70 : (List (List Rat))) => (wS sa st_31)) I_71 both_64 rfl rfl w_105 ?_ ?_
            · rintro i_73 k_72 both_70 hx_108 hI_109
              have hW := w_106 i_73 k_72 both_70 hx_108 hI_109
              refine ⟨_, _, (ctg_name fr 14 rfl (by walk_at "loc") (.inl (hfn _))), ?_⟩
              obtain ⟨row_75, e_76⟩ : ∃ z, z = ([] : (List Rat)) := ⟨_, rfl⟩
              replace hW := hW row_75 e_76
              refine css_asg (f := (eT (eQ (Cq g)))) fr 19 rfl (by walk_at "loc") hfn e_76 (t_tup0 (f := (eQ (Cq g))) ) rfl ?_
              obtain ⟨k_77, hW⟩ := hW
              obtain ⟨I_79, w_100, w_101, w_102⟩ := hW
              refine css_for (enc := eI) fr (t_ciR bi fr rfl (ce_var fr 3 rfl (by walk_at "vis") rfl) k_77) [20] (fun (row_78 : (List Rat)) => [.fz (.adr sa), .fz ((eT (eT (eQ (Cq g)))) one_1), .fz ((eT (eT (eQ (Cq g)))) two_2), .fz (eI n_3), .fz (eI m_24), .fz ((eT (eT (eQ (Cq g)))) small_29), .fz ((eL (eT (eQ (Cq g)))) larger_49), .ow (both_70.map (eT (eQ (Cq g)))), .fz (eI i_66), .un, .fz (eI c_16), .fz (eI d_18), .fz (eI r_34), .fz (eI s_36), .fz (eI k_72), .fz (eI p_6), .fz (eI q_8), .fz (eI a_10), .fz (eI b_12), .fz ((eT (eQ (Cq g))) row_78), .un, .un]) (fun (row_78 : (List Rat)) => (wS sa st_31)) I_79 row_75 rfl rfl w_100 ?_ ?_
              · rintro i_81 j_80 row_78 hx_103 hI_104
                have hW := w_101 i_81 j_80 row_78 hx_103 hI_104
                refine ⟨_, _, (ctg_name fr 20 rfl (by walk_at "loc") (.inl (hfn _))), ?_⟩
                obtain ⟨k_86, k_87, k_88, k_89, hW⟩ := hW
                obtain ⟨row_90, e_91⟩ : ∃ z, z = (row_78 ++ (((ix small_29 k_72)).map fun x_83 => ((ix ((ix one_1 i_66)) j_80) * x_83))) := ⟨_, rfl⟩
                replace hW := hW row_90 e_91
                refine css_asg (f := (eT (eQ (Cq g)))) fr 19 rfl (by walk_at "loc") hfn e_91 (t_catT (ce_var fr 19 rfl (by walk_at "vis") rfl) (t_tupL (f := (eQ (Cq g))) bi fr rfl (t_fz (LcD.cf fr (t_lc (f := (eQ (Cq g))) (own := [("x", 21)]) (val := fun x_83 => ((ix ((ix one_1 i_66)) j_80) * x_83)) (t_ciT (f := (eQ (Cq g))) (t_ixT (f := (eT (eQ (Cq g)))) (ce_var fr 5 rfl (by walk_at "vis") rfl) (ce_var fr 14 rfl (by walk_at "vis") rfl) k_86)) k_87 ⟨rfl, by decide +kernel, by decide +kernel, by decide +kernel, by decide +kernel⟩ (fun x_83 hx_92 => by obtain ⟨k_93, k_94, k_95⟩ := k_88 x_83 hx_92; exact ⟨_, _, by decide, fun X_96 B_84 => ⟨(ctg_name B_84.cf 21 rfl (by walk_at "loc") (by first | exact .inr rfl | exact .inl ((B_84.fn _).mpr rfl))), (t_mul q B_84.cf (by decide) (t_ixT (f := (eQ (Cq g))) (t_ixT (f := (eT (eQ (Cq g)))) (ce_var B_84.cf 1 rfl (by walk_at "vis") rfl) (ce_var B_84.cf 8 rfl (by walk_at "vis") rfl) k_93) (ce_var B_84.cf 20 rfl (by walk_at "vis") rfl) k_94) (ce_var B_84.cf 21 rfl (by walk_at "vis") rfl) k_95)⟩⟩))))) k_89) rfl ?_
                refine css_nil ?_
                exact ⟨row_90, rfl, rfl, hW⟩
              · rintro row_78 hI_104
                have hW := w_102 row_78 hI_104
                obtain ⟨k_97, hW⟩ := hW
                obtain ⟨both_98, e_99⟩ : ∃ z, z = (both_70 ++ [row_78]) := ⟨_, rfl⟩
                replace hW := hW both_98 e_99
                refine css_append (f := (eT (eQ (Cq g)))) fr 7 rfl (by walk_at "vis") rfl (ce_var fr 19 rfl (by walk_at "vis") rfl) k_97 e_99 ?_
                refine css_nil ?_
                exact ⟨both_98, rfl, rfl, hW⟩
            · rintro both_70 hI_109
              have hW := w_107 both_70 hI_109
              refine css_nil ?_
              exact ⟨both_70, rfl, rfl, hW⟩
          · rintro both_64 hI_148
            have hW := w_146 both_64 hI_148
            obtain ⟨k_110, k_111, hW⟩ := hW
            obtain ⟨w_137, w_138⟩ := hW
            refine css_if (CW.t (cw_and (ct_cmp (ce_bin (ce_var fr 3 rfl (by walk_at "vis") rfl) (ce_var fr 4 rfl (by walk_at "vis") rfl) (b2_mul k_110)) ce_int b2_le rfl) (fun hc => by obtain ⟨k_139, k_140, k_141, k_142, k_143⟩ := k_111 hc; exact (cw_and1 (ct_cmp (ce_call fr c_inertia (by decide) spG_mon rfl (ca_cons (t_tupO (f := (eT (eQ (Cq g)))) bi fr rfl 7 rfl (by walk_at "vis") rfl) ca_nil) ⟨both_64, rfl, k_139, rfl, rfl⟩) (t_pair (f := eI) (h := eI) (ce_bin (ce_bin (ce_var fr 15 rfl (by walk_at "vis") rfl) (ce_var fr 12 rfl (by walk_at "vis") rfl) (b2_mul k_140)) (ce_bin (ce_var fr 16 rfl (by walk_at "vis") rfl) (ce_var fr 13 rfl (by walk_at "vis") rfl) (b2_mul k_141)) b2_add) (ce_bin (ce_bin (ce_var fr 15 rfl (by walk_at "vis") rfl) (ce_var fr 13 rfl (by walk_at "vis") rfl) (b2_mul k_142)) (ce_bin (ce_var fr 16 rfl (by walk_at "vis") rfl) (ce_var fr 12 rfl (by walk_at "vis") rfl) (b2_mul k_143)) b2_add)) (t_neP fr (by decide)) rfl))))) (fun hc => ?_) (fun hc => ?_)
            · have hW := w_137 hc
              exact css_ret (d := eB false) ce_bl (hR (false, st_31) hW)
            · have hW := w_138 hc
              refine css_nil ?_
              obtain ⟨k_112, k_113, hW⟩ := hW
              obtain ⟨gram_114, e_115⟩ : ∃ z, z = (p_table_times one_1 ((p_turned one_1))) := ⟨_, rfl⟩
              replace hW := hW gram_114 e_115
              refine css_asg (f := (eT (eT (eQ (Cq g))))) fr 9 rfl (by walk_at "loc") hfn e_115 (ce_call fr c_table_times (by decide) spG_mon rfl (ca_cons (ce_var fr 1 rfl (by walk_at "vis") rfl) (ca_cons (ce_call fr c_turned (by decide) spG_mon rfl (ca_cons (ce_var fr 1 rfl (by walk_at "vis") rfl) ca_nil) ⟨one_1, rfl, k_112, rfl, rfl⟩) ca_nil)) ⟨(one_1, (p_turned one_1)), rfl, k_113, rfl, rfl⟩) rfl ?_
              obtain ⟨k_122, k_123, k_124, hW⟩ := hW
              exact css_ret (d := eB (((decide ((p_inertia gram_114) = ((p_table_rank one_1), (0 : Int)))) && (decide ((p_trace gram_114) = (p__law_total ((one_1.map fun row_116 => (p__law_total ((row_116.map fun x_119 => (x_119 * x_119)))))))))))) (ce_and (ce_cmp (ce_call fr c_inertia (by decide) spG_mon rfl (ca_cons (ce_var fr 9 rfl (by walk_at "vis") rfl) ca_nil) ⟨gram_114, rfl, k_122, rfl, rfl⟩) (t_pair (f := eI) (h := eI) (ce_call fr c_table_rank (by decide) spG_mon rfl (ca_cons (ce_var fr 1 rfl (by walk_at "vis") rfl) ca_nil) ⟨one_1, rfl, k_123, rfl, rfl⟩) ce_int) (t_eqP fr (by decide)) rfl) (fun hc => by obtain ⟨k_125, k_126, k_127, k_128⟩ := k_124 hc; exact (ce_one (ce_cmp (ce_call fr c_trace (by decide) spG_mon rfl (ca_cons (ce_var fr 9 rfl (by walk_at "vis") rfl) ca_nil) ⟨gram_114, rfl, k_125, rfl, rfl⟩) (ce_call fr c__law_total (by decide) spG_mon rfl (ca_cons (t_fz (LcD.cf fr (t_lc (f := (eQ (Cq g))) (own := [("row", 19)]) (val := fun row_116 => (p__law_total ((row_116.map fun x_119 => (x_119 * x_119))))) (t_ciT (f := (eT (eQ (Cq g)))) (ce_var fr 1 rfl (by walk_at "vis") rfl)) k_126 ⟨rfl, by decide +kernel, by decide +kernel, by decide +kernel, by decide +kernel⟩ (fun row_116 hx_129 => by obtain ⟨k_130, k_131, k_132⟩ := k_127 row_116 hx_129; exact ⟨_, _, by decide, fun X_136 B_117 => ⟨(ctg_name B_117.cf 19 rfl (by walk_at "loc") (by first | exact .inr rfl | exact .inl ((B_117.fn _).mpr rfl))), (ce_call B_117.cf c__law_total (by decide) spG_mon rfl (ca_cons (t_fz (LcD.cf B_117.cf (t_lc (f := (eQ (Cq g))) (own := [("x", 21)]) (val := fun x_119 => (x_119 * x_119)) (t_ciT (f := (eQ (Cq g))) (ce_var B_117.cf 19 rfl (by walk_at "vis") rfl)) k_130 ⟨rfl, by decide +kernel, by decide +kernel, by decide +kernel, by decide +kernel⟩ (fun x_119 hx_133 => by obtain k_134 := k_131 x_119 hx_133; exact ⟨_, _, by decide, fun X_135 B_120 => ⟨(ctg_name B_120.cf 21 rfl (by walk_at "loc") (by first | exact .inr rfl | exact .inl ((B_120.fn _).mpr rfl))), (t_mul q B_120.cf (by decide) (ce_var B_120.cf 21 rfl (by walk_at "vis") rfl) (ce_var B_120.cf 21 rfl (by walk_at "vis") rfl) k_134)⟩⟩)))) ca_nil) ⟨(row_116.map fun x_119 => (x_119 * x_119)), rfl, k_132, rfl, rfl⟩)⟩⟩)))) ca_nil) ⟨(one_1.map fun row_116 => (p__law_total ((row_116.map fun x_119 => (x_119 * x_119))))), rfl, k_128, rfl, rfl⟩) (t_eqQ q fr (by decide)) rfl)))) (hR (((decide ((p_inertia gram_114) = ((p_table_rank one_1), (0 : Int)))) && (decide ((p_trace gram_114) = (p__law_total ((one_1.map fun row_116 => (p__law_total ((row_116.map fun x_119 => (x_119 * x_119)))))))))), st_31) hW)
theorem w__law_squares_hold {g : Gx} (h : HKL g) (q : QK g) (c__law_rank : Fd g "_law_rank" 71 (sp__law_rank g)) (c__law_total : Fd g "_law_total" 71 (sp__law_total g)) (c_inertia : Fd g "inertia" 77 (sp_inertia g)) (c_squares_of : Fd g "squares_of" 76 (sp_squares_of g)) (hW : Hw__law_squares_hold) : Fd g "_law_squares_hold" 78 (sp__law_squares_hold g) := by
  refine h.fd 39 53 rfl rfl rfl rfl (N := ["table", "n", "i", "pairs", "p", "q", "j", "c", "line"]) (ps := ["table", "n"]) ⟨rfl, rfl, rfl, by decide +kernel, rfl, by decide +kernel, by decide +kernel⟩ (fun _ _ _ _ _ _ us hl => match us, hl with | [_, _], _ => rfl) (fun ds w Q hS => ?_) (fun X fr hK hfn hst ds w Q hS => ?_)
  · obtain ⟨p, rfl, _⟩ := hS; rfl
  · obtain ⟨⟨table_1, n_2⟩, rfl, hp, hQ⟩ := hS
    have hR : ∀ r, r = true → Q (eB r) w := fun r e => by rw [e]; exact hQ
    replace hW := hW table_1 n_2 hp
    unfold W__law_squares_hold at hW
    have bi := h.bi
    obtain ⟨k_3, k_4, k_5, hW⟩ := hW
    obtain ⟨pairs_6, e_7⟩ : ∃ z, z = (p_squares_of table_1) := ⟨_, rfl⟩
    replace hW := hW pairs_6 e_7
    obtain ⟨p_8, e_9⟩ : ∃ z, z = ((p_inertia table_1)).1 := ⟨_, rfl⟩
    replace hW := hW p_8 e_9
    obtain ⟨q_10, e_11⟩ : ∃ z, z = ((p_inertia table_1)).2 := ⟨_, rfl⟩
    replace hW := hW q_10 e_11
    refine css_par3 (d1 := (eT (eP (eQ (Cq g)) (eT (eQ (Cq g))))) ((p_squares_of table_1))) (f1 := (eT (eP (eQ (Cq g)) (eT (eQ (Cq g))))) pairs_6) (d2 := eI (((p_inertia table_1)).1)) (f2 := eI p_8) (d3 := eI (((p_inertia table_1)).2)) (f3 := eI q_10) fr 3 4 5 rfl rfl rfl (by decide) (by decide) (by decide) rfl rfl rfl (by rw [e_7]) (by rw [e_9]) (by rw [e_11]) (ce_call fr c_squares_of (by decide) spG_mon rfl (ca_cons (ce_var fr 0 rfl (by walk_at "vis") rfl) ca_nil) ⟨table_1, rfl, k_3, rfl, rfl⟩) (t_fst (ce_call fr c_inertia (by decide) spG_mon rfl (ca_cons (ce_var fr 0 rfl (by walk_at "vis") rfl) ca_nil) ⟨table_1, rfl, k_4, rfl, rfl⟩)) (t_snd (ce_call fr c_inertia (by decide) spG_mon rfl (ca_cons (ce_var fr 0 rfl (by walk_at "vis") rfl) ca_nil) ⟨table_1, rfl, k_5, rfl, rfl⟩)) rfl ?_ (Cf.sw fr rfl)
    obtain ⟨k_16, k_17, hW⟩ := hW
    obtain ⟨w_59, w_60⟩ := hW
    refine css_if (CW.t (cw_or (ct_cmp (t_lenL bi fr rfl (t_fz (LcD.cf fr (t_lcF (f := eI) (own := [("c", 7), ("line", 8)]) (val := fun p_12 => (1 : Int)) (pr := fun p_12 => (decide ((0 : Int) < (qsgn p_12.1)))) (t_ciT (f := (eP (eQ (Cq g)) (eT (eQ (Cq g))))) (ce_var fr 3 rfl (by walk_at "vis") rfl)) k_16 ⟨rfl, by decide +kernel, by decide +kernel, by decide +kernel, by decide +kernel⟩ (fun p_12 hx_61 => by exact ⟨_, _, by decide, fun X_62 B_13 => ⟨(ctg_tup B_13.cf (ctgs_cons (ctg_name B_13.cf 7 rfl (by walk_at "loc") (by first | exact .inr rfl | exact .inl ((B_13.fn _).mpr rfl))) (ctgs_cons (ctg_name B_13.cf 8 rfl (by walk_at "loc") (by first | exact .inr rfl | exact .inl ((B_13.fn _).mpr rfl))) ctgs_nil))), (ct_cmp (t_sign q B_13.cf (by decide) (ce_var B_13.cf 7 rfl (by walk_at "vis") rfl)) ce_int b2_gt rfl), (fun _ => ce_int)⟩⟩))))) (ce_var fr 4 rfl (by walk_at "vis") rfl) t_neI rfl) (fun hc => by obtain k_63 := k_17 hc; exact (cw_or1 (ct_cmp (t_lenL bi fr rfl (t_fz (LcD.cf fr (t_lcF (f := eI) (own := [("c", 7), ("line", 8)]) (val := fun p_14 => (1 : Int)) (pr := fun p_14 => (decide ((qsgn p_14.1) < (0 : Int)))) (t_ciT (f := (eP (eQ (Cq g)) (eT (eQ (Cq g))))) (ce_var fr 3 rfl (by walk_at "vis") rfl)) k_63 ⟨rfl, by decide +kernel, by decide +kernel, by decide +kernel, by decide +kernel⟩ (fun p_14 hx_64 => by exact ⟨_, _, by decide, fun X_65 B_15 => ⟨(ctg_tup B_15.cf (ctgs_cons (ctg_name B_15.cf 7 rfl (by walk_at "loc") (by first | exact .inr rfl | exact .inl ((B_15.fn _).mpr rfl))) (ctgs_cons (ctg_name B_15.cf 8 rfl (by walk_at "loc") (by first | exact .inr rfl | exact .inl ((B_15.fn _).mpr rfl))) ctgs_nil))), (ct_cmp (t_sign q B_15.cf (by decide) (ce_var B_15.cf 7 rfl (by walk_at "vis") rfl)) ce_int b2_lt rfl), (fun _ => ce_int)⟩⟩))))) (ce_var fr 5 rfl (by walk_at "vis") rfl) t_neI rfl))))) (fun hc => ?_) (fun hc => ?_)
    · have hW := w_59 hc
      exact css_ret (d := eB false) ce_bl (hR (false) hW)
    · have hW := w_60 hc
      refine css_nil ?_
      obtain ⟨k_18, hW⟩ := hW
      obtain ⟨I_19, w_54, w_55, w_56⟩ := hW
      refine css_for (enc := eI) fr (t_ciR bi fr rfl (ce_var fr 1 rfl (by walk_at "vis") rfl) k_18) [2, 6] (fun (_ : Unit) => [.fz ((eT (eT (eQ (Cq g)))) table_1), .fz (eI n_2), .un, .fz ((eT (eP (eQ (Cq g)) (eT (eQ (Cq g))))) pairs_6), .fz (eI p_8), .fz (eI q_10), .un, .un, .un]) (fun (_ : Unit) => w) I_19 () rfl rfl w_54 ?_ ?_
      · rintro i_21 i_20 ⟨⟩ hx_57 hI_58
        have hW := w_55 i_21 i_20  hx_57 hI_58
        refine ⟨_, _, (ctg_name fr 2 rfl (by walk_at "loc") (.inl (hfn _))), ?_⟩
        obtain ⟨k_23, hW⟩ := hW
        obtain ⟨I_24, w_43, w_44, w_45⟩ := hW
        refine css_for (enc := eI) fr (t_ciR bi fr rfl (ce_var fr 1 rfl (by walk_at "vis") rfl) k_23) [6] (fun (_ : Unit) => [.fz ((eT (eT (eQ (Cq g)))) table_1), .fz (eI n_2), .fz (eI i_20), .fz ((eT (eP (eQ (Cq g)) (eT (eQ (Cq g))))) pairs_6), .fz (eI p_8), .fz (eI q_10), .un, .un, .un]) (fun (_ : Unit) => w) I_24 () rfl rfl w_43 ?_ ?_
        · rintro i_26 j_25 ⟨⟩ hx_46 hI_47
          have hW := w_44 i_26 j_25  hx_46 hI_47
          refine ⟨_, _, (ctg_name fr 6 rfl (by walk_at "loc") (.inl (hfn _))), ?_⟩
          obtain ⟨k_30, k_31, k_32, k_33, k_34, hW⟩ := hW
          obtain ⟨w_35, w_36⟩ := hW
          refine css_if (ct_cmp (ce_call fr c__law_total (by decide) spG_mon rfl (ca_cons (t_fz (LcD.cf fr (t_lc (f := (eQ (Cq g))) (own := [("c", 7), ("line", 8)]) (val := fun p_28 => ((p_28.1 * (ix p_28.2 i_20)) * (ix p_28.2 j_25))) (t_ciT (f := (eP (eQ (Cq g)) (eT (eQ (Cq g))))) (ce_var fr 3 rfl (by walk_at "vis") rfl)) k_30 ⟨rfl, by decide +kernel, by decide +kernel, by decide +kernel, by decide +kernel⟩ (fun p_28 hx_37 => by obtain ⟨k_38, k_39, k_40, k_41⟩ := k_31 p_28 hx_37; exact ⟨_, _, by decide, fun X_42 B_29 => ⟨(ctg_tup B_29.cf (ctgs_cons (ctg_name B_29.cf 7 rfl (by walk_at "loc") (by first | exact .inr rfl | exact .inl ((B_29.fn _).mpr rfl))) (ctgs_cons (ctg_name B_29.cf 8 rfl (by walk_at "loc") (by first | exact .inr rfl | exact .inl ((B_29.fn _).mpr rfl))) ctgs_nil))), (t_mul q B_29.cf (by decide) (t_mul q B_29.cf (by decide) (ce_var B_29.cf 7 rfl (by walk_at "vis") rfl) (t_ixT (f := (eQ (Cq g))) (ce_var B_29.cf 8 rfl (by walk_at "vis") rfl) (ce_var B_29.cf 2 rfl (by walk_at "vis") rfl) k_38) k_39) (t_ixT (f := (eQ (Cq g))) (ce_var B_29.cf 8 rfl (by walk_at "vis") rfl) (ce_var B_29.cf 6 rfl (by walk_at "vis") rfl) k_40) k_41)⟩⟩)))) ca_nil) ⟨(pairs_6.map fun p_28 => ((p_28.1 * (ix p_28.2 i_20)) * (ix p_28.2 j_25))), rfl, k_32, rfl, rfl⟩) (t_ixT (f := (eQ (Cq g))) (t_ixT (f := (eT (eQ (Cq g)))) (ce_var fr 0 rfl (by walk_at "vis") rfl) (ce_var fr 2 rfl (by walk_at "vis") rfl) k_33) (ce_var fr 6 rfl (by walk_at "vis") rfl) k_34) (t_neQ q fr (by decide)) rfl) (fun hc => ?_) (fun hc => ?_)
          · have hW := w_35 hc
            exact css_ret (d := eB false) ce_bl (hR (false) hW)
          · have hW := w_36 hc
            refine css_nil ?_
            refine css_nil ?_
            exact ⟨(), rfl, rfl, hW⟩
        · rintro ⟨⟩ hI_47
          have hW := w_45  hI_47
          refine css_nil ?_
          exact ⟨(), rfl, rfl, hW⟩
      · rintro ⟨⟩ hI_58
        have hW := w_56  hI_58
        obtain ⟨k_50, k_51, hW⟩ := hW
        exact css_ret (d := eB ((decide ((p__law_rank ((pairs_6.map fun p_48 => p_48.2))) = (p_8 + q_10))))) (ce_cmp (ce_call fr c__law_rank (by decide) spG_mon rfl (ca_cons (t_fz (LcD.cf fr (t_lc (f := (eT (eQ (Cq g)))) (own := [("c", 7), ("line", 8)]) (val := fun p_48 => p_48.2) (t_ciT (f := (eP (eQ (Cq g)) (eT (eQ (Cq g))))) (ce_var fr 3 rfl (by walk_at "vis") rfl)) k_50 ⟨rfl, by decide +kernel, by decide +kernel, by decide +kernel, by decide +kernel⟩ (fun p_48 hx_52 => by exact ⟨_, _, by decide, fun X_53 B_49 => ⟨(ctg_tup B_49.cf (ctgs_cons (ctg_name B_49.cf 7 rfl (by walk_at "loc") (by first | exact .inr rfl | exact .inl ((B_49.fn _).mpr rfl))) (ctgs_cons (ctg_name B_49.cf 8 rfl (by walk_at "loc") (by first | exact .inr rfl | exact .inl ((B_49.fn _).mpr rfl))) ctgs_nil))), (ce_var B_49.cf 8 rfl (by walk_at "vis") rfl)⟩⟩)))) ca_nil) ⟨(pairs_6.map fun p_48 => p_48.2), rfl, k_51, rfl, rfl⟩) (ce_bin (ce_var fr 4 rfl (by walk_at "vis") rfl) (ce_var fr 5 rfl (by walk_at "vis") rfl) b2_add) t_eqI rfl) (hR ((decide ((p__law_rank ((pairs_6.map fun p_48 => p_48.2))) = (p_8 + q_10)))) hW)
end Fw
end

section
set_option Elab.async false
set_option linter.all false
set_option maxRecDepth 100000
set_option maxHeartbeats 0
namespace Fw
open PySem PySem.Spec PyProof.Rows L2
def asS (g : Addr → Option Obj) (n : Nat) : List Addr := He.asD g n ++ [cStatics, sysModules, builtinsNs]
abbrev AlS : Type := He.AlD × Bool
def obsS (n : Nat) (fa : List He.Fa) (fn : List He.DefD) (ck : Frag → Bool) (g : Addr → Option Obj) : AlS := (He.obsD fa fn (He.frG g (asS g n)), ck (He.frG g (asS g n)))
def hookS (n : Nat) (fa : List He.Fa) (fn : List He.DefD) (ck : Frag → Bool) : PySem.W.Hook where
  α := AlS
  obs := fun s => obsS n fa fn ck s.heap.get?
  val := fun _ => (He.valD fn, true)
  says := fun _ h => ∃ K : Frag, K.In h ∧ He.SaysD fa fn K ∧ ck K = true
  of := fun _ _ e => ⟨_, He.frG_in, congrArg Prod.fst e, congrArg Prod.snd e⟩
  keeps := fun _ _ _ ⟨K, hK, c⟩ k => ⟨K, PySem.W.Frag.In.keeps hK k, c⟩
theorem obsS_eq {n : Nat} {fa : List He.Fa} {fn : List He.DefD} {ck : Frag → Bool} {g : Addr → Option Obj} {s : Shared} (h : ∀ a, g a = s.heap.get? a) : obsS n fa fn ck g = (hookS n fa fn ck).obs s := by
  have e : g = s.heap.get? := funext h
  rw [e] <;> rfl
abbrev RL : PySem.W.OpenRow := PySem.W.OpenLaw.row PySem.Challenge.rw_fewestpowers_k49_whole_signs_of_tables_b
abbrev hkL : PySem.W.Hook := hookS 6 faL fnL ckL
def obL (s : PySem.W.SharedT) : AlS := obsS 6 faL fnL ckL (HandSHeadRun.getT s)
theorem obL_eq (s : PySem.W.SharedT) : obL s = hkL.obs s.abs := obsS_eq (HandSHeadRun.getT_eq s)
def loose1 : List Str := ["_wall", "__name__", "Fault", "Malformed", "Refused", "is_integer", "common", "Ratio", "check_ratio", "as_ratio", "are_ratios", "ratio_sum", "ratio_dot", "MOST_SIDE", "is_table", "check_table", "wide_of", "unit_table", "turned", "table_times", "table_plus", "echelon", "less_row", "table_rank", "check_square", "inverse", "determinant", "trace", "check_symmetric", "squares_of"]
def loose2 : List Str := ["first_pair", "less_square", "inertia", "square_rank", "is_above", "_law_state", "_law_take", "_law_total", "_law_rank", "_law_table", "_law_part", "_law_plus", "_law_parts_hold", "_law_minors_hold", "_law_fewer_hold", "_law_sums_hold", "_law_squares_hold"]
def looseL : List Str := loose1 ++ loose2
set_option maxHeartbeats 0 in
theorem runL (w : World) : HandSHeadRun.RunEq RL (PySem.W.view RL.prog [52]) hkL obL 8000 looseL w := by
  intro os
  kernel_rfl
end Fw
end

section
set_option linter.all false
namespace Fw
theorem ok_is_integer__v_int : Hw_is_integer__v_int := fun v => rfl
theorem ok_check_ratio__v_rat : Hw_check_ratio__v_rat := fun v => rfl
theorem ok_as_ratio__v_int : Hw_as_ratio__v_int := fun v => rfl
theorem ok_wide_of : Hw_wide_of := by
  intro T
  unfold W_wide_of
  refine ⟨fun h => ?_, ?_⟩
  · have h2 : 0 < T.length := by simpa using h
    unfold IxOk
    omega
  · unfold wide
    by_cases h : 0 < T.length
    · rw [if_pos h, if_pos (by simpa using h)]
    · rw [if_neg h, if_neg (by simpa using h)]
theorem ok_common : Hw_common := by
  intro a b
  unfold W_common
  rintro x rfl y rfl
  refine ⟨fun m p => 0 ≤ p.1 ∧ 0 ≤ p.2 ∧ m = p.2.toNat ∧ Int.gcd p.1 p.2 = Int.gcd a b, (b.natAbs : Int).toNat, ⟨by omega, by omega, rfl, by simp [Int.gcd]⟩, ?_⟩
  rintro m u v ⟨h1, h2, h3, h4⟩
  refine ⟨trivial, fun hc => ?_, fun hc => ?_⟩
  · have hv : 0 < v := by simpa using hc
    refine ⟨hv, ?_⟩
    intro x hx y hy
    rw [hx, hy]
    have l1 := Int.emod_nonneg u (by omega : v ≠ 0)
    have l2 := Int.emod_lt_of_pos u hv
    refine ⟨_, ?_, h2, l1, rfl, ?_⟩
    · omega
    · rw [← h4]
      obtain ⟨U, rfl⟩ := Int.eq_ofNat_of_zero_le h1
      obtain ⟨V, rfl⟩ := Int.eq_ofNat_of_zero_le h2
      show Int.gcd (V : Int) ((U : Int) % (V : Int)) = Int.gcd (U : Int) (V : Int)
      rw [← Int.natCast_emod]
      show Nat.gcd V (U % V) = Nat.gcd U V
      rw [Nat.gcd_comm U V, Nat.gcd_comm V (U % V), ← Nat.gcd_rec]
  · have hv : v = 0 := by
      have : ¬ 0 < v := by simpa using hc
      omega
    subst hv
    unfold cmn
    rw [← h4, Int.gcd_zero_right]
    omega
end Fw
end

section
set_option linter.all false
/-! La1: sums, systems with more unknowns than equations, squares. Plain linear algebra over Rat. -/
namespace La
def Sm : Nat → (Nat → Rat) → Rat
  | 0, _ => 0
  | n + 1, f => Sm n f + f n
theorem Sm_congr {n : Nat} {f g : Nat → Rat} (h : ∀ i, i < n → f i = g i) : Sm n f = Sm n g := by
  induction n with
  | zero => rfl
  | succ n ih => simp only [Sm]; rw [ih fun i hi => h i (by omega), h n (by omega)]
theorem Sm_zero {n : Nat} {f : Nat → Rat} (h : ∀ i, i < n → f i = 0) : Sm n f = 0 := by
  induction n with
  | zero => rfl
  | succ n ih => simp only [Sm]; rw [ih fun i hi => h i (by omega), h n (by omega)]; grind
theorem Sm_add {n : Nat} {f g : Nat → Rat} : Sm n (fun i => f i + g i) = Sm n f + Sm n g := by
  induction n with
  | zero => simp only [Sm]; grind
  | succ n ih => simp only [Sm]; rw [ih]; grind
theorem Sm_sub {n : Nat} {f g : Nat → Rat} : Sm n (fun i => f i - g i) = Sm n f - Sm n g := by
  induction n with
  | zero => simp only [Sm]; grind
  | succ n ih => simp only [Sm]; rw [ih]; grind
theorem Sm_mul {n : Nat} {c : Rat} {f : Nat → Rat} : Sm n (fun i => c * f i) = c * Sm n f := by
  induction n with
  | zero => simp only [Sm]; grind
  | succ n ih => simp only [Sm]; rw [ih]; grind
theorem Sm_mulr {n : Nat} {c : Rat} {f : Nat → Rat} : Sm n (fun i => f i * c) = Sm n f * c := by
  induction n with
  | zero => simp only [Sm]; grind
  | succ n ih => simp only [Sm]; rw [ih]; grind
theorem Sm_swap {n m : Nat} {f : Nat → Nat → Rat} : Sm n (fun i => Sm m (fun j => f i j)) = Sm m (fun j => Sm n (fun i => f i j)) := by
  induction n with
  | zero => simp only [Sm]; rw [Sm_zero fun _ _ => rfl]
  | succ n ih => simp only [Sm]; rw [ih, Sm_add]
theorem Sm_one {n k : Nat} {f : Nat → Rat} (hk : k < n) (h : ∀ i, i < n → i ≠ k → f i = 0) : Sm n f = f k := by
  induction n with
  | zero => omega
  | succ n ih =>
    simp only [Sm]
    by_cases e : k = n
    · subst e
      rw [Sm_zero fun i hi => h i (by omega) (by omega)]; grind
    · rw [ih (by omega) fun i hi => h i (by omega), h n (by omega) (by omega)]; grind
theorem Sm_nonneg {n : Nat} {f : Nat → Rat} (h : ∀ i, i < n → 0 ≤ f i) : 0 ≤ Sm n f := by
  induction n with
  | zero => simp only [Sm]; grind
  | succ n ih => simp only [Sm]; have := ih fun i hi => h i (by omega); have := h n (by omega); grind
theorem Sm_pos {n : Nat} {f : Nat → Rat} (h : ∀ i, i < n → 0 ≤ f i) {k : Nat} (hk : k < n) (hp : 0 < f k) : 0 < Sm n f := by
  induction n with
  | zero => omega
  | succ n ih =>
    simp only [Sm]
    have h1 := Sm_nonneg (n := n) fun i hi => h i (by omega)
    have h2 := h n (by omega)
    by_cases e : k = n
    · subst e; grind
    · have := ih (fun i hi => h i (by omega)) (by omega); grind
theorem Sm_le0 {n : Nat} {f : Nat → Rat} (h : ∀ i, i < n → f i ≤ 0) : Sm n f ≤ 0 := by
  induction n with
  | zero => simp only [Sm]; grind
  | succ n ih => simp only [Sm]; have := ih fun i hi => h i (by omega); have := h n (by omega); grind
theorem Sm_split {n m : Nat} {f : Nat → Rat} : Sm (n + m) f = Sm n f + Sm m (fun i => f (n + i)) := by
  induction m with
  | zero => simp only [Sm, Nat.add_zero]; grind
  | succ m ih => show Sm (n + m) f + f (n + m) = _; rw [ih]; simp only [Sm]; grind
/-- more unknowns than equations -/
theorem kernel : ∀ (m k : Nat) (M : Nat → Nat → Rat), m < k → ∃ t : Nat → Rat, (∃ j, j < k ∧ t j ≠ 0) ∧ ∀ i, i < m → Sm k (fun j => M i j * t j) = 0 := by
  intro m
  induction m with
  | zero =>
    intro k M hk
    exact ⟨fun _ => 1, ⟨0, hk, by grind⟩, fun i hi => by omega⟩
  | succ m ih =>
    intro k M hk
    by_cases h : ∃ j, j < k ∧ M m j ≠ 0
    · obtain ⟨p, hp, hM⟩ := h
      -- the unknown p is told by the others; move it to the end
      have hk1 : m < k - 1 := by omega
      let σ : Nat → Nat := fun j => if j < p then j else j + 1
      obtain ⟨t, ⟨j0, hj0, ht0⟩, ht⟩ := ih (k - 1) (fun i j => M i (σ j) - M i p / M m p * M m (σ j)) hk1
      let u : Nat → Rat := fun j => if j < p then t j else if j = p then - Sm (k - 1) (fun j => M m (σ j) * t j) / M m p else t (j - 1)
      have hu : ∀ (f : Nat → Rat), Sm k (fun j => f j * u j) = Sm (k - 1) (fun j => f (σ j) * t j) + f p * u p := by
        intro f
        have key : ∀ q, p < q → Sm q (fun j => f j * u j) = Sm (q - 1) (fun j => f (σ j) * t j) + f p * u p := by
          intro q hq
          induction q with
          | zero => omega
          | succ q ihq =>
            simp only [Sm, Nat.add_sub_cancel]
            by_cases e : q = p
            · subst e
              congr 1
              refine Sm_congr fun i hi => ?_
              simp only [u, σ, hi, if_true]
            · rw [ihq (by omega)]
              obtain ⟨r, rfl⟩ : ∃ r, q = r + 1 := ⟨q - 1, by omega⟩
              simp only [Nat.add_sub_cancel, Sm]
              have e1 : σ r = r + 1 := by simp only [σ]; rw [if_neg (by omega)]
              have e2 : u (r + 1) = t r := by simp only [u]; rw [if_neg (by omega), if_neg e]; rfl
              rw [e1, e2]
              grind
        exact key k hp
      have up : u p = - Sm (k - 1) (fun j => M m (σ j) * t j) / M m p := by simp only [u]; rw [if_neg (by omega), if_pos trivial]
      refine ⟨u, ?_, fun i hi => ?_⟩
      · by_cases hjp : j0 < p
        · exact ⟨j0, by omega, by simp only [u, hjp, if_true]; exact ht0⟩
        · refine ⟨j0 + 1, by omega, ?_⟩
          simp only [u]
          rw [if_neg (by omega), if_neg (by omega)]
          exact ht0
      · rw [hu, up]
        by_cases e : i = m
        · subst e
          grind
        · have h1 := ht i (by omega)
          have h2 : Sm (k - 1) (fun j => (M i (σ j) - M i p / M m p * M m (σ j)) * t j) = Sm (k - 1) (fun j => M i (σ j) * t j) - M i p / M m p * Sm (k - 1) (fun j => M m (σ j) * t j) := by
            rw [← Sm_mul, ← Sm_sub]
            exact Sm_congr fun j _ => by grind
          rw [h2] at h1
          grind
    · obtain ⟨t, h1, h2⟩ := ih k M (by omega)
      refine ⟨t, h1, fun i hi => ?_⟩
      by_cases e : i = m
      · subst e
        refine Sm_zero fun j hj => ?_
        have : M i j = 0 := Classical.byContradiction fun z => h ⟨j, hj, z⟩
        rw [this]; grind
      · exact h2 i (by omega)
end La
end

section
set_option linter.all false
/-! La2: squares, their signs (Sylvester's law). -/
namespace La
theorem gD {α : Type} {l : List α} {a : Nat} {d : α} (h : a < l.length) : l.getD a d = l[a] := by simp [h]
theorem Sm_head {n : Nat} {f : Nat → Rat} : Sm (n + 1) f = f 0 + Sm n (fun i => f (i + 1)) := by
  rw [Nat.add_comm n 1, Sm_split]
  simp only [Sm]
  have : Sm n (fun i => f (1 + i)) = Sm n (fun i => f (i + 1)) := Sm_congr fun i _ => by rw [Nat.add_comm]
  rw [this]; grind
theorem sq_nonneg (x : Rat) : 0 ≤ x * x := by
  rcases Rat.le_total (a := 0) (b := x) with z | z
  · exact Rat.mul_nonneg z z
  · have := Rat.mul_nonneg (a := - x) (b := - x) (by grind) (by grind)
    grind
theorem sq_pos {x : Rat} (h : x ≠ 0) : 0 < x * x := by
  rcases Rat.le_total (a := 0) (b := x) with z | z
  · exact Rat.mul_pos (by grind) (by grind)
  · have := Rat.mul_pos (a := - x) (b := - x) (by grind) (by grind)
    grind
theorem nd_inj {α : Type} {l : List α} (h : l.Nodup) {i j : Nat} (hi : i < l.length) (hj : j < l.length) (e : l[i] = l[j]) : i = j := by
  have q := List.pairwise_iff_getElem.mp h
  rcases Nat.lt_trichotomy i j with z | z | z
  · exact absurd e (q i j hi hj z)
  · exact z
  · exact absurd e.symm (q j i hj hi z)
abbrev Vec := Nat → Rat
abbrev Sq := Rat × Vec
def dot (n : Nat) (l x : Vec) : Rat := Sm n fun i => l i * x i
def d0 : Sq := (0, fun _ => 0)
def Ls (ps : List Sq) (i j : Nat) : Rat := (ps.map fun p => p.1 * p.2 i * p.2 j).sum
def Dec (n : Nat) (A : Nat → Nat → Rat) (ps : List Sq) : Prop := ∀ i j, i < n → j < n → A i j = Ls ps i j
def Ind (n : Nat) (ps : List Sq) : Prop := ∃ V : Nat → Vec, ∀ a b, a < ps.length → b < ps.length → dot n (ps.getD a d0).2 (V b) = if a = b then 1 else 0
def posn (ps : List Sq) : Nat := ps.countP fun p => decide (0 < p.1)
def negn (ps : List Sq) : Nat := ps.countP fun p => decide (p.1 < 0)
def qf (n : Nat) (A : Nat → Nat → Rat) (x : Vec) : Rat := Sm n fun i => Sm n fun j => A i j * x i * x j
theorem Ls_nil {i j : Nat} : Ls [] i j = 0 := rfl
theorem Ls_cons {p : Sq} {ps : List Sq} {i j : Nat} : Ls (p :: ps) i j = p.1 * p.2 i * p.2 j + Ls ps i j := by simp [Ls]
theorem Ls_append {ps qs : List Sq} {i j : Nat} : Ls (ps ++ qs) i j = Ls ps i j + Ls qs i j := by
  induction ps with
  | nil => simp only [List.nil_append, Ls_nil]; grind
  | cons p ps ih => simp only [List.cons_append, Ls_cons, ih]; grind
theorem qf_congr {n : Nat} {A B : Nat → Nat → Rat} {x : Vec} (h : ∀ i j, i < n → j < n → A i j = B i j) : qf n A x = qf n B x := Sm_congr fun i hi => Sm_congr fun j hj => by rw [h i j hi hj]
theorem qf_Ls {n : Nat} {x : Vec} : ∀ ps : List Sq, qf n (Ls ps) x = (ps.map fun p => p.1 * (dot n p.2 x * dot n p.2 x)).sum
  | [] => by
    show qf n (fun _ _ => Ls [] _ _) x = 0
    exact Sm_zero fun i _ => Sm_zero fun j _ => by
      show Ls [] i j * x i * x j = 0
      rw [Ls_nil]; grind
  | p :: ps => by
    have ih := qf_Ls (n := n) (x := x) ps
    simp only [List.map_cons, List.sum_cons]
    rw [← ih]
    have h1 : qf n (Ls (p :: ps)) x = qf n (fun i j => p.1 * p.2 i * p.2 j) x + qf n (Ls ps) x := by
      unfold qf
      rw [← Sm_add]
      refine Sm_congr fun i _ => ?_
      rw [← Sm_add]
      exact Sm_congr fun j _ => by rw [Ls_cons]; grind
    rw [h1]
    congr 1
    unfold qf dot
    have h2 : ∀ i, Sm n (fun j => p.1 * p.2 i * p.2 j * x i * x j) = (p.1 * Sm n (fun j => p.2 j * x j)) * (p.2 i * x i) := fun i => by
      rw [← Sm_mul, ← Sm_mulr]
      exact Sm_congr fun j _ => by grind
    rw [Sm_congr fun i _ => h2 i, Sm_mul]
    grind
theorem sum_Sm {α : Type} (d : α) (f : α → Rat) : ∀ l : List α, (l.map f).sum = Sm l.length fun a => f (l.getD a d) := by
  intro l
  induction l with
  | nil => rfl
  | cons x l ih =>
    rw [List.map_cons, List.sum_cons, ih, List.length_cons, Sm_head]
    rfl
theorem count_range {α : Type} (d : α) (pr : α → Bool) (l : List α) : ((List.range l.length).filter fun a => pr (l.getD a d)).length = l.countP pr := by
  have e : l = (List.range l.length).map fun a => l.getD a d := by
    refine List.ext_getElem (by simp) fun i h1 h2 => ?_
    simp [h1]
  rw [← List.countP_eq_length_filter]
  conv => rhs; rw [e]
  rw [List.countP_map]
  rfl
theorem dot_lin {n k : Nat} {l : Vec} {t : Nat → Rat} {V : Nat → Vec} : dot n l (fun i => Sm k fun b => t b * V b i) = Sm k fun b => t b * dot n l (V b) := by
  unfold dot
  have h : ∀ i, l i * Sm k (fun b => t b * V b i) = Sm k fun b => t b * (l i * V b i) := fun i => by
    rw [← Sm_mul]
    exact Sm_congr fun b _ => by grind
  rw [Sm_congr fun i _ => h i, Sm_swap]
  exact Sm_congr fun b _ => by rw [Sm_mul]
/-- Sylvester: squares of independent forms are fewest -/
theorem pos_le {n : Nat} {A : Nat → Nat → Rat} {ps qs : List Sq} (hp : Dec n A ps) (hi : Ind n ps) (hq : Dec n A qs) : posn ps ≤ posn qs := by
  refine Classical.byContradiction fun hlt => ?_
  obtain ⟨V, hV⟩ := hi
  let J := (List.range ps.length).filter fun a => decide (0 < (ps.getD a d0).1)
  have hJ : J.length = posn ps := count_range d0 (fun p => decide (0 < p.1)) ps
  let qp := qs.filter fun p => decide (0 < p.1)
  have hqp : qp.length = posn qs := (List.countP_eq_length_filter ..).symm
  have nd : J.Nodup := List.nodup_range.filter _
  obtain ⟨t, ⟨b0, hb0, ht0⟩, ht⟩ := kernel qp.length J.length (fun i b => dot n (qp.getD i d0).2 (V (J.getD b 0))) (by omega)
  let x : Vec := fun i => Sm J.length fun b => t b * V (J.getD b 0) i
  have hJm : ∀ b, b < J.length → J.getD b 0 < ps.length ∧ 0 < (ps.getD (J.getD b 0) d0).1 := fun b hb => by
    have h1 : J.getD b 0 ∈ J := by rw [gD hb]; exact List.getElem_mem hb
    have h2 := List.mem_filter.mp h1
    exact ⟨by simpa using h2.1, by simpa using h2.2⟩
  have hx : ∀ a, a < ps.length → dot n (ps.getD a d0).2 x = Sm J.length fun b => t b * (if a = J.getD b 0 then 1 else 0) := fun a ha => by
    rw [dot_lin]
    exact Sm_congr fun b hb => by rw [hV a _ ha (hJm b hb).1]
  have e1 : qf n A x = Sm ps.length fun a => (ps.getD a d0).1 * (dot n (ps.getD a d0).2 x * dot n (ps.getD a d0).2 x) := by
    rw [qf_congr hp, qf_Ls, sum_Sm d0]
  have p1 : 0 < qf n A x := by
    rw [e1]
    refine Sm_pos (k := J.getD b0 0) (fun a ha => ?_) (hJm b0 hb0).1 ?_
    · by_cases h : 0 < (ps.getD a d0).1
      · have : 0 ≤ dot n (ps.getD a d0).2 x * dot n (ps.getD a d0).2 x := sq_nonneg _
        exact Rat.mul_nonneg (by grind) this
      · have : dot n (ps.getD a d0).2 x = 0 := by
          rw [hx a ha]
          refine Sm_zero fun b hb => ?_
          rw [if_neg fun e => h (by rw [e]; exact (hJm b hb).2)]; grind
        rw [this]; grind
    · have : dot n (ps.getD (J.getD b0 0) d0).2 x = t b0 := by
        rw [hx _ (hJm b0 hb0).1, Sm_one (k := b0) hb0 fun b hb hne => ?_]
        · rw [if_pos rfl]; grind
        · rw [if_neg fun e => hne ?_]
          · grind
          · rw [gD hb0, gD hb] at e
            exact (nd_inj nd hb0 hb e).symm
      rw [this]
      have : 0 < t b0 * t b0 := sq_pos ht0
      exact Rat.mul_pos (hJm b0 hb0).2 this
  have p2 : qf n A x ≤ 0 := by
    rw [qf_congr hq, qf_Ls, sum_Sm d0]
    refine Sm_le0 fun a ha => ?_
    by_cases h : 0 < (qs.getD a d0).1
    · have hm : qs.getD a d0 ∈ qp := List.mem_filter.mpr ⟨by rw [gD ha]; exact List.getElem_mem ha, by simpa using h⟩
      obtain ⟨i, hi, e⟩ := List.getElem_of_mem hm
      have h0 := ht i hi
      have : dot n (qs.getD a d0).2 x = 0 := by
        rw [dot_lin, ← h0]
        refine Sm_congr fun b _ => ?_
        rw [gD hi, e]; grind
      rw [this]; grind
    · have : 0 ≤ dot n (qs.getD a d0).2 x * dot n (qs.getD a d0).2 x := sq_nonneg _
      have h2 := Rat.mul_nonneg (a := - (qs.getD a d0).1) (by grind) this
      grind
  grind
def ngs (ps : List Sq) : List Sq := ps.map fun p => (-p.1, p.2)
theorem Ls_ngs {i j : Nat} : ∀ ps : List Sq, Ls (ngs ps) i j = - Ls ps i j
  | [] => by show (0 : Rat) = -0; grind
  | p :: ps => by
    have := Ls_ngs (i := i) (j := j) ps
    show Ls ((-p.1, p.2) :: ngs ps) i j = _
    rw [Ls_cons, Ls_cons, this]; grind
theorem Dec.ngs {n : Nat} {A : Nat → Nat → Rat} {ps : List Sq} (h : Dec n A ps) : Dec n (fun i j => - A i j) (La.ngs ps) := fun i j hi hj => by
  show - A i j = _
  rw [Ls_ngs, h i j hi hj]
theorem Ind.ngs {n : Nat} {ps : List Sq} (h : Ind n ps) : Ind n (La.ngs ps) := by
  obtain ⟨V, hV⟩ := h
  refine ⟨V, fun a b ha hb => ?_⟩
  have ha' : a < ps.length := by simpa [La.ngs] using ha
  have hb' : b < ps.length := by simpa [La.ngs] using hb
  rw [← hV a b ha' hb']
  congr 1
  rw [gD ha, gD ha']
  simp [La.ngs]
theorem posn_ngs (ps : List Sq) : posn (ngs ps) = negn ps := by
  unfold posn negn ngs
  rw [List.countP_map]
  congr 1
  funext p
  show decide (0 < -p.1) = decide (p.1 < 0)
  rw [Bool.eq_iff_iff, decide_eq_true_eq, decide_eq_true_eq]
  grind
theorem negn_ngs (ps : List Sq) : negn (ngs ps) = posn ps := by
  unfold posn negn ngs
  rw [List.countP_map]
  congr 1
  funext p
  show decide (-p.1 < 0) = decide (0 < p.1)
  rw [Bool.eq_iff_iff, decide_eq_true_eq, decide_eq_true_eq]
  grind
theorem neg_le {n : Nat} {A : Nat → Nat → Rat} {ps qs : List Sq} (hp : Dec n A ps) (hi : Ind n ps) (hq : Dec n A qs) : negn ps ≤ negn qs := by
  have := pos_le hp.ngs hi.ngs hq.ngs
  rw [posn_ngs, posn_ngs] at this
  exact this
/-- A has p squares above and q below nought -/
def In (n : Nat) (A : Nat → Nat → Rat) (p q : Nat) : Prop := ∃ ps, Dec n A ps ∧ Ind n ps ∧ (∀ s ∈ ps, s.1 ≠ 0) ∧ posn ps = p ∧ negn ps = q
theorem In.uniq {n : Nat} {A : Nat → Nat → Rat} {p q p' q' : Nat} (h : In n A p q) (h' : In n A p' q') : p = p' ∧ q = q' := by
  obtain ⟨ps, a1, a2, _, a3, a4⟩ := h
  obtain ⟨qs, b1, b2, _, b3, b4⟩ := h'
  have := pos_le a1 a2 b1
  have := pos_le b1 b2 a1
  have := neg_le a1 a2 b1
  have := neg_le b1 b2 a1
  omega
theorem In.le {n : Nat} {A : Nat → Nat → Rat} {p q : Nat} {qs : List Sq} (h : In n A p q) (hq : Dec n A qs) : p ≤ posn qs ∧ q ≤ negn qs := by
  obtain ⟨ps, a1, a2, _, a3, a4⟩ := h
  have := pos_le a1 a2 hq
  have := neg_le a1 a2 hq
  omega
theorem In.congr {n : Nat} {A B : Nat → Nat → Rat} {p q : Nat} (h : In n A p q) (e : ∀ i j, i < n → j < n → B i j = A i j) : In n B p q := by
  obtain ⟨ps, a1, a2⟩ := h
  exact ⟨ps, fun i j hi hj => by rw [e i j hi hj, a1 i j hi hj], a2⟩
end La
end

section
set_option linter.all false
/-! La3: a determinant: Laplace along the first column. -/
namespace La
abbrev Mat := Nat → Nat → Rat
def sg (i : Nat) : Rat := if i % 2 = 0 then 1 else -1
theorem sg_succ (i : Nat) : sg (i + 1) = - sg i := by
  unfold sg
  by_cases h : i % 2 = 0
  · rw [if_pos h, if_neg (by omega)]
  · rw [if_neg h, if_pos (by omega)]; grind
/-- row i and column 0 left out -/
def mi (i : Nat) (A : Mat) : Mat := fun a b => A (if a < i then a else a + 1) (b + 1)
def Lp : Nat → Mat → Rat
  | 0, _ => 1
  | n + 1, A => Sm (n + 1) fun i => sg i * A i 0 * Lp n (mi i A)
theorem Lp_congr : ∀ (n : Nat) {A B : Mat}, (∀ i j, i < n → j < n → A i j = B i j) → Lp n A = Lp n B
  | 0, _, _, _ => rfl
  | n + 1, A, B, h => by
    refine Sm_congr fun i hi => ?_
    rw [h i 0 hi (by omega), Lp_congr n (A := mi i A) (B := mi i B) fun a b ha hb => h _ _ (by split <;> omega) (by omega)]
/-- row r put -/
def pr (r : Nat) (u : Vec) (A : Mat) : Mat := fun a b => if a = r then u b else A a b
theorem mi_pr {r i : Nat} {u : Vec} {A : Mat} (h : r ≠ i) : mi i (pr r u A) = pr (if r < i then r else r - 1) (fun b => u (b + 1)) (mi i A) := by
  funext a b
  unfold mi pr
  by_cases hr : r < i
  · rw [if_pos hr]
    by_cases ha : a < i
    · simp only [ha, if_true]
    · simp only [ha, if_false]
      rw [if_neg (by omega), if_neg (by omega)]
  · rw [if_neg hr]
    by_cases ha : a < i
    · simp only [ha, if_true]
      rw [if_neg (by omega), if_neg (by omega)]
    · simp only [ha, if_false]
      by_cases e : a = r - 1
      · rw [if_pos (by omega), if_pos e]
      · rw [if_neg (by omega), if_neg e]
theorem mi_pr_same {r : Nat} {u : Vec} {A : Mat} : mi r (pr r u A) = mi r A := by
  funext a b
  unfold mi pr
  rw [if_neg (by split <;> omega)]
theorem Lp_lin : ∀ (n r : Nat) (A : Mat) (u v : Vec) (s t : Rat), r < n → Lp n (pr r (fun b => s * u b + t * v b) A) = s * Lp n (pr r u A) + t * Lp n (pr r v A)
  | 0, r, _, _, _, _, _, h => by omega
  | n + 1, r, A, u, v, s, t, h => by
    show Sm (n + 1) _ = s * Sm (n + 1) _ + t * Sm (n + 1) _
    rw [← Sm_mul, ← Sm_mul, ← Sm_add]
    refine Sm_congr fun i hi => ?_
    by_cases e : r = i
    · subst e
      rw [mi_pr_same, mi_pr_same, mi_pr_same]
      simp only [pr, if_true]
      grind
    · rw [mi_pr e, mi_pr e, mi_pr e]
      have hk : (if r < i then r else r - 1) < n := by split <;> omega
      have ih := Lp_lin n (if r < i then r else r - 1) (mi i A) (fun b => u (b + 1)) (fun b => v (b + 1)) s t hk
      have e2 : ∀ w : Vec, pr r w A i 0 = A i 0 := fun w => by unfold pr; rw [if_neg fun z => e z.symm]
      rw [e2, e2, e2, ih]
      grind
/-- two neighbouring rows alike -/
theorem Lp_adj : ∀ (n r : Nat) (A : Mat), r + 1 < n → (∀ j, j < n → A r j = A (r + 1) j) → Lp n A = 0
  | 0, r, A, h, _ => by omega
  | n + 1, r, A, h, e => by
    have key : ∀ i, i < n + 1 → i ≠ r → i ≠ r + 1 → sg i * A i 0 * Lp n (mi i A) = 0 := fun i hi h1 h2 => by
      have ih := Lp_adj n (if r < i then r else r - 1) (mi i A) (by split <;> omega) fun j hj => by
        unfold mi
        by_cases z : r < i
        · simp only [z, if_true]
          rw [if_pos (by omega)]
          exact e _ (by omega)
        · simp only [z, if_false]
          rw [if_neg (by omega), if_neg (by omega), show r - 1 + 1 = r by omega]
          exact e _ (by omega)
      rw [ih]; grind
    have sp : Sm (n + 1) (fun i => sg i * A i 0 * Lp n (mi i A)) = sg r * A r 0 * Lp n (mi r A) + sg (r + 1) * A (r + 1) 0 * Lp n (mi (r + 1) A) := by
      have : Sm (n + 1) (fun i => sg i * A i 0 * Lp n (mi i A)) = Sm (n + 1) (fun i => (if i = r then sg r * A r 0 * Lp n (mi r A) else 0) + (if i = r + 1 then sg (r + 1) * A (r + 1) 0 * Lp n (mi (r + 1) A) else 0)) := by
        refine Sm_congr fun i hi => ?_
        by_cases h1 : i = r
        · subst h1; rw [if_pos rfl, if_neg (by omega)]; grind
        · by_cases h2 : i = r + 1
          · subst h2; rw [if_neg (by omega), if_pos rfl]; grind
          · rw [if_neg h1, if_neg h2, key i hi h1 h2]; grind
      rw [this, Sm_add, Sm_one (k := r) (by omega) fun i _ hi => if_neg hi, Sm_one (k := r + 1) (by omega) fun i _ hi => if_neg hi, if_pos rfl, if_pos rfl]
    show Sm (n + 1) _ = 0
    rw [sp, sg_succ, e 0 (by omega)]
    have : Lp n (mi r A) = Lp n (mi (r + 1) A) := Lp_congr n fun a b ha hb => by
      unfold mi
      by_cases h1 : a < r
      · rw [if_pos h1, if_pos (by omega)]
      · by_cases h2 : a = r
        · subst h2
          rw [if_neg (by omega), if_pos (by omega)]
          exact (e _ (by omega)).symm
        · rw [if_neg h1, if_neg (by omega)]
    rw [this]; grind
theorem pr_self {r : Nat} {A : Mat} : pr r (A r) A = A := by
  funext a b
  unfold pr
  split
  · rename_i h; rw [h]
  · rfl
/-- rows r and r + 1 changed for each other -/
theorem Lp_swap1 {n r : Nat} {A : Mat} (h : r + 1 < n) : Lp n (pr r (A (r + 1)) (pr (r + 1) (A r) A)) = - Lp n A := by
  let S : Vec := fun b => 1 * A r b + 1 * A (r + 1) b
  have z : Lp n (pr r S (pr (r + 1) S A)) = 0 := Lp_adj n r _ h fun j _ => by
    unfold pr
    rw [if_pos rfl, if_neg (by omega), if_pos rfl]
  have cm : ∀ u v : Vec, pr r u (pr (r + 1) v A) = pr (r + 1) v (pr r u A) := fun u v => by
    funext a b
    unfold pr
    by_cases h1 : a = r
    · rw [if_pos h1, if_neg (by omega), if_pos h1]
    · rw [if_neg h1]
      by_cases h2 : a = r + 1
      · rw [if_pos h2, if_pos h2]
      · rw [if_neg h2, if_neg h2, if_neg h1]
  have adj : ∀ u : Vec, Lp n (pr r u (pr (r + 1) u A)) = 0 := fun u => Lp_adj n r _ h fun j _ => by
    unfold pr
    rw [if_pos rfl, if_neg (by omega), if_pos rfl]
  rw [Lp_lin n r _ (A r) (A (r + 1)) 1 1 (by omega)] at z
  rw [cm, cm, Lp_lin n (r + 1) _ (A r) (A (r + 1)) 1 1 h, Lp_lin n (r + 1) _ (A r) (A (r + 1)) 1 1 h, ← cm, ← cm, ← cm, ← cm, adj, adj] at z
  have e : pr r (A r) (pr (r + 1) (A (r + 1)) A) = A := by rw [pr_self, pr_self]
  rw [e] at z
  grind
end La
end

section
set_option linter.all false
/-! La4: the determinant's rules. -/
namespace La
theorem pr_pr {r : Nat} {u v : Vec} {A : Mat} : pr r u (pr r v A) = pr r u A := by
  funext a b
  unfold pr
  split <;> rfl
theorem pr_comm {r s : Nat} {u v : Vec} {A : Mat} (h : r ≠ s) : pr r u (pr s v A) = pr s v (pr r u A) := by
  funext a b
  unfold pr
  by_cases h1 : a = r
  · rw [if_pos h1, if_neg (by omega), if_pos h1]
  · rw [if_neg h1]
    by_cases h2 : a = s
    · rw [if_pos h2, if_pos h2]
    · rw [if_neg h2, if_neg h2, if_neg h1]
theorem Lp_rows : ∀ (k : Nat) {n r : Nat} {A : Mat}, r + 1 + k < n → (∀ j, j < n → A r j = A (r + 1 + k) j) → Lp n A = 0
  | 0, n, r, A, h, e => Lp_adj n r A h e
  | k + 1, n, r, A, h, e => by
    have sw := Lp_swap1 (n := n) (r := r + 1 + k) (A := A) (by omega)
    have ih := Lp_rows k (n := n) (r := r) (A := pr (r + 1 + k) (A (r + 1 + k + 1)) (pr (r + 1 + k + 1) (A (r + 1 + k)) A)) (by omega) fun j hj => by
      have e1 : pr (r + 1 + k) (A (r + 1 + k + 1)) (pr (r + 1 + k + 1) (A (r + 1 + k)) A) r j = A r j := by
        unfold pr
        rw [if_neg (by omega), if_neg (by omega)]
      have e2 : pr (r + 1 + k) (A (r + 1 + k + 1)) (pr (r + 1 + k + 1) (A (r + 1 + k)) A) (r + 1 + k) j = A (r + 1 + k + 1) j := by
        unfold pr
        rw [if_pos rfl]
      rw [e1, e2]
      exact e j hj
    rw [ih] at sw
    grind
theorem Lp_alt {n r s : Nat} {A : Mat} (hr : r < n) (hs : s < n) (h : r ≠ s) (e : ∀ j, j < n → A r j = A s j) : Lp n A = 0 := by
  rcases Nat.lt_or_gt_of_ne h with z | z
  · obtain ⟨k, rfl⟩ : ∃ k, s = r + 1 + k := ⟨s - r - 1, by omega⟩
    exact Lp_rows k hs e
  · obtain ⟨k, rfl⟩ : ∃ k, r = s + 1 + k := ⟨r - s - 1, by omega⟩
    exact Lp_rows k hr fun j hj => (e j hj).symm
theorem Lp_row_congr {n r : Nat} {u v : Vec} {A : Mat} (h : ∀ j, j < n → u j = v j) : Lp n (pr r u A) = Lp n (pr r v A) := Lp_congr n fun i j _ hj => by
  unfold pr
  split
  · exact h j hj
  · rfl
theorem Lp_scale {n r : Nat} {A : Mat} {t : Rat} {u : Vec} (hr : r < n) : Lp n (pr r (fun b => t * u b) A) = t * Lp n (pr r u A) := by
  have q := Lp_lin n r A u u t 0 hr
  rw [Lp_row_congr (v := fun b => t * u b + 0 * u b) fun j _ => by grind, q]
  grind
theorem Lp_plus {n r : Nat} {A : Mat} {u v : Vec} (hr : r < n) : Lp n (pr r (fun b => u b + v b) A) = Lp n (pr r u A) + Lp n (pr r v A) := by
  have q := Lp_lin n r A u v 1 1 hr
  rw [Lp_row_congr (v := fun b => 1 * u b + 1 * v b) fun j _ => by grind, q]
  grind
/-- row r += t * row s -/
theorem Lp_add {n r s : Nat} {A : Mat} {t : Rat} (hr : r < n) (hs : s < n) (h : r ≠ s) : Lp n (pr r (fun b => A r b + t * A s b) A) = Lp n A := by
  rw [Lp_plus hr, Lp_scale hr, pr_self, Lp_alt (A := pr r (A s) A) hr hs h fun j _ => by unfold pr; rw [if_pos rfl, if_neg (by omega)]]
  grind
theorem Lp_swap {n r s : Nat} {A : Mat} (hr : r < n) (hs : s < n) (h : r ≠ s) : Lp n (pr r (A s) (pr s (A r) A)) = - Lp n A := by
  have z : Lp n (pr r (fun b => A r b + A s b) (pr s (fun b => A r b + A s b) A)) = 0 := Lp_alt hr hs h fun j _ => by
    unfold pr
    rw [if_pos rfl, if_neg (by omega), if_pos rfl]
  have two : ∀ u : Vec, Lp n (pr r u (pr s u A)) = 0 := fun u => Lp_alt hr hs h fun j _ => by
    unfold pr
    rw [if_pos rfl, if_neg (by omega), if_pos rfl]
  rw [Lp_plus hr, pr_comm h, pr_comm h, Lp_plus hs, Lp_plus hs, ← pr_comm h, ← pr_comm h, ← pr_comm h, ← pr_comm h, two, two] at z
  have e : pr r (A r) (pr s (A s) A) = A := by rw [pr_self, pr_self]
  rw [e] at z
  grind
/-- row r += a sum of other rows -/
theorem Lp_adds {n r : Nat} {A : Mat} (hr : r < n) (T : Nat → Rat) : ∀ m, m ≤ n → (∀ s, s < m → s ≠ r ∨ T s = 0) → Lp n (pr r (fun b => A r b + Sm m fun s => T s * A s b) A) = Lp n A
  | 0, _, _ => by
    rw [Lp_row_congr (v := A r) fun j _ => by simp only [Sm]; grind, pr_self]
  | m + 1, hm, h => by
    have ih := Lp_adds (A := A) hr T m (by omega) fun s hs => h s (by omega)
    rcases h m (by omega) with z | z
    · have q := Lp_add (A := pr r (fun b => A r b + Sm m fun s => T s * A s b) A) (t := T m) hr (s := m) (by omega) (fun e => z e.symm)
      rw [← ih, ← q, pr_pr]
      refine Lp_row_congr fun j _ => ?_
      simp only [Sm, pr, if_true]
      rw [if_neg z]
      grind
    · rw [← ih]
      refine Lp_row_congr fun j _ => ?_
      simp only [Sm]
      rw [z]
      grind
/-- the rows from m on, each plus a sum of the first m -/
theorem Lp_low {n m : Nat} {A : Mat} (T : Mat) (hm : m ≤ n) : Lp n (fun i b => if i < m then A i b else A i b + Sm m fun s => T i s * A s b) = Lp n A := by
  have key : ∀ k, k ≤ n → Lp n (fun i b => if m ≤ i ∧ i < k then A i b + Sm m fun s => T i s * A s b else A i b) = Lp n A := by
    intro k
    induction k with
    | zero => intro _; exact Lp_congr n fun i j _ _ => by rw [if_neg (by omega)]
    | succ k ih =>
      intro hk
      by_cases z : m ≤ k
      · let B : Mat := fun i b => if m ≤ i ∧ i < k then A i b + Sm m fun s => T i s * A s b else A i b
        have q := Lp_adds (n := n) (r := k) (A := B) (by omega) (T k) m hm fun s hs => .inl (by omega)
        rw [← ih (by omega), ← q]
        refine Lp_congr n fun i j hi hj => ?_
        unfold pr
        by_cases e : i = k
        · subst e
          rw [if_pos ⟨z, by omega⟩, if_pos rfl]
          have e1 : B i j = A i j := by simp only [B]; rw [if_neg (by omega)]
          have e2 : ∀ s, s < m → B s j = A s j := fun s hs => by simp only [B]; rw [if_neg (by omega)]
          show _ = B i j + Sm m (fun s => T i s * B s j)
          rw [e1, Sm_congr (f := fun s => T i s * B s j) fun s hs => by rw [e2 s hs]]
        · rw [if_neg e]
          simp only [B]
          by_cases y : m ≤ i ∧ i < k
          · rw [if_pos y, if_pos ⟨y.1, by omega⟩]
          · rw [if_neg y, if_neg (by omega)]
      · rw [← ih (by omega)]
        exact Lp_congr n fun i j hi hj => by rw [if_neg (by omega), if_neg (by omega)]
  rw [← key n (Nat.le_refl _)]
  refine Lp_congr n fun i j hi hj => ?_
  by_cases z : i < m
  · rw [if_pos z, if_neg (by omega)]
  · rw [if_neg z, if_pos ⟨by omega, hi⟩]
/-- rows from m on are nought in the first m columns -/
theorem Lp_block : ∀ (m k : Nat) {A : Mat}, (∀ i j, m ≤ i → i < m + k → j < m → A i j = 0) → Lp (m + k) A = Lp m A * Lp k (fun a b => A (m + a) (m + b))
  | 0, k, A, _ => by
    rw [Nat.zero_add]
    have e : Lp k (fun a b => A (0 + a) (0 + b)) = Lp k A := Lp_congr k fun i j _ _ => by rw [Nat.zero_add, Nat.zero_add]
    rw [e]
    show _ = 1 * _
    grind
  | m + 1, k, A, h => by
    have e : m + 1 + k = (m + k) + 1 := by omega
    rw [e]
    show Sm (m + k + 1) _ = Sm (m + 1) _ * _
    rw [show m + k + 1 = (m + 1) + k by omega, Sm_split]
    have z : Sm k (fun i => sg (m + 1 + i) * A (m + 1 + i) 0 * Lp (m + k) (mi (m + 1 + i) A)) = 0 := Sm_zero fun i hi => by rw [h _ 0 (by omega) (by omega) (by omega)]; grind
    rw [z, ← Sm_mulr]
    have : Sm (m + 1) (fun i => sg i * A i 0 * Lp (m + k) (mi i A)) = Sm (m + 1) (fun i => sg i * A i 0 * Lp m (mi i A) * Lp k (fun a b => A (m + 1 + a) (m + 1 + b))) := Sm_congr fun i hi => by
      rw [Lp_block m k fun a b ha hk hb => by unfold mi; rw [if_neg (by omega)]; exact h _ _ (by omega) (by omega) (by omega)]
      have e2 : Lp k (fun a b => mi i A (m + a) (m + b)) = Lp k (fun a b => A (m + 1 + a) (m + 1 + b)) := Lp_congr k fun a b ha hb => by
        unfold mi
        rw [if_neg (by omega)]
        congr 1 <;> omega
      rw [e2]; grind
    rw [this]; grind
theorem Lp_one1 {A : Mat} : Lp 1 A = A 0 0 := by
  show Sm 1 _ = _
  simp only [Sm, Lp, sg]
  grind
/-- the rows hang together -/
theorem Lp_dep {n : Nat} {A : Mat} (y : Vec) {r : Nat} (hr : r < n) (hy : y r ≠ 0) (h : ∀ c, c < n → Sm n (fun i => y i * A i c) = 0) : Lp n A = 0 := by
  let T : Vec := fun s => if s = r then 0 else y s / y r
  have q := Lp_adds (A := A) hr T n (Nat.le_refl _) fun s _ => by
    by_cases e : s = r
    · exact .inr (by simp only [T]; rw [if_pos e])
    · exact .inl e
  rw [← q]
  have z : ∀ b, b < n → A r b + Sm n (fun s => T s * A s b) = 0 := fun b hb => by
    have h1 := h b hb
    have h2 : Sm n (fun i => y i * A i b) = y r * (A r b + Sm n fun s => T s * A s b) := by
      have e1 : A r b = Sm n fun s => if s = r then A r b else 0 := by
        rw [Sm_one (k := r) hr fun i _ hi => if_neg hi, if_pos rfl]
      conv => rhs; rw [e1]
      rw [← Sm_add, ← Sm_mul]
      refine Sm_congr fun i _ => ?_
      simp only [T]
      by_cases e : i = r
      · subst e
        rw [if_pos rfl, if_pos rfl]
        grind
      · rw [if_neg e, if_neg e]
        grind
    rw [h2] at h1
    rcases Rat.mul_eq_zero.mp h1 with z | z
    · exact absurd z hy
    · exact z
  rw [Lp_row_congr (v := fun b => 0 * A r b) fun j hj => by rw [z j hj]; grind, Lp_scale hr]
  grind
/-- the columns hang together -/
theorem Lp_depc {n : Nat} {A : Mat} (x : Vec) {r : Nat} (hr : r < n) (hx : x r ≠ 0) (h : ∀ i, i < n → Sm n (fun c => A i c * x c) = 0) : Lp n A = 0 := by
  -- n unknowns y, the n - 1 equations of the columns but r
  obtain ⟨y, ⟨j, hj, hy⟩, h0⟩ := kernel (n - 1) n (fun c i => A i (if c < r then c else c + 1)) (by omega)
  have other : ∀ c, c < n → c ≠ r → Sm n (fun i => y i * A i c) = 0 := fun c hc hne => by
    have q := h0 (if c < r then c else c - 1) (by split <;> omega)
    rw [← q]
    refine Sm_congr fun i _ => ?_
    have e : (if (if c < r then c else c - 1) < r then (if c < r then c else c - 1) else (if c < r then c else c - 1) + 1) = c := by
      by_cases z : c < r
      · simp only [z, if_true]
      · simp only [z, if_false]
        rw [if_neg (by omega)]
        omega
    rw [e]; grind
  refine Lp_dep y hj hy fun c hc => ?_
  by_cases e : c = r
  · subst e
    have s1 : Sm n (fun d => Sm n (fun i => y i * A i d) * x d) = 0 := by
      have : Sm n (fun d => Sm n (fun i => y i * A i d) * x d) = Sm n (fun i => y i * Sm n (fun d => A i d * x d)) := by
        rw [Sm_congr fun d _ => (Sm_mulr (c := x d) (f := fun i => y i * A i d)).symm, Sm_swap]
        refine Sm_congr fun i _ => ?_
        rw [← Sm_mul]
        exact Sm_congr fun d _ => by grind
      rw [this]
      exact Sm_zero fun i hi => by rw [h i hi]; grind
    rw [Sm_one (k := c) hr fun d hd hne => by rw [other d hd hne]; grind] at s1
    rcases Rat.mul_eq_zero.mp s1 with z | z
    · exact z
    · exact absurd z hx
  · exact other c hc e
/-- column 0 += t * column k -/
theorem Lp_col {n k : Nat} {A : Mat} {t : Rat} (hk : k < n) (h0 : k ≠ 0) : Lp n (fun i b => if b = 0 then A i 0 + t * A i k else A i b) = Lp n A := by
  obtain ⟨m, rfl⟩ : ∃ m, n = m + 1 := ⟨n - 1, by omega⟩
  have e : Lp (m + 1) (fun i b => if b = 0 then A i 0 + t * A i k else A i b) = Lp (m + 1) A + t * Lp (m + 1) (fun i b => if b = 0 then A i k else A i b) := by
    show Sm (m + 1) _ = Sm (m + 1) _ + t * Sm (m + 1) _
    rw [← Sm_mul, ← Sm_add]
    refine Sm_congr fun i _ => ?_
    have m1 : mi i (fun i b => if b = 0 then A i 0 + t * A i k else A i b) = mi i A := by
      funext a b
      exact if_neg (t := A (if a < i then a else a + 1) 0 + t * A (if a < i then a else a + 1) k) (Nat.succ_ne_zero b)
    have m2 : mi i (fun i b => if b = 0 then A i k else A i b) = mi i A := by
      funext a b
      exact if_neg (t := A (if a < i then a else a + 1) k) (Nat.succ_ne_zero b)
    have e1 : (fun (i b : Nat) => if b = 0 then A i 0 + t * A i k else A i b) i 0 = A i 0 + t * A i k := if_pos rfl
    have e2 : (fun (i b : Nat) => if b = 0 then A i k else A i b) i 0 = A i k := if_pos rfl
    rw [m1, m2, e1, e2]
    grind
  have z : Lp (m + 1) (fun i b => if b = 0 then A i k else A i b) = 0 := by
    refine Lp_depc (fun c => if c = 0 then 1 else if c = k then -1 else 0) (r := 0) (by omega) (by rw [if_pos rfl]; grind) fun i _ => ?_
    have : Sm (m + 1) (fun c => (if c = 0 then A i k else A i c) * (if c = 0 then 1 else if c = k then -1 else 0)) = Sm (m + 1) (fun c => (if c = 0 then A i k else 0) + (if c = k then - A i k else 0)) := Sm_congr fun c _ => by
      by_cases c0 : c = 0
      · subst c0
        have h0' : ¬ (0 = k) := fun e => h0 e.symm
        simp only [if_true, if_neg h0']; grind
      · rw [if_neg c0, if_neg c0, if_neg c0]
        by_cases ck : c = k
        · subst ck; rw [if_pos rfl, if_pos rfl]; grind
        · rw [if_neg ck, if_neg ck]; grind
    rw [this, Sm_add, Sm_one (k := 0) (by omega) fun c _ hc => if_neg hc, Sm_one (k := k) hk fun c _ hc => if_neg hc, if_pos rfl, if_pos rfl]
    grind
  rw [e, z]; grind
end La
end

section
set_option linter.all false
/-! La5: signs of sums, parts, blocks (Weyl, Cauchy, Haynsworth), products. -/
namespace La
theorem posn_append {ps qs : List Sq} : posn (ps ++ qs) = posn ps + posn qs := List.countP_append ..
theorem negn_append {ps qs : List Sq} : negn (ps ++ qs) = negn ps + negn qs := List.countP_append ..
theorem Dec.add {n : Nat} {A B : Mat} {ps qs : List Sq} (h : Dec n A ps) (k : Dec n B qs) : Dec n (fun i j => A i j + B i j) (ps ++ qs) := fun i j hi hj => by
  show A i j + B i j = _
  rw [Ls_append, h i j hi hj, k i j hi hj]
theorem In.neg {n : Nat} {A : Mat} {p q : Nat} (h : In n A p q) : In n (fun i j => - A i j) q p := by
  obtain ⟨ps, a1, a2, a3, a4, a5⟩ := h
  refine ⟨ngs ps, a1.ngs, a2.ngs, fun s hs => ?_, by rw [posn_ngs, a5], by rw [negn_ngs, a4]⟩
  obtain ⟨t, ht, rfl⟩ := List.mem_map.mp hs
  have := a3 t ht
  show - t.1 ≠ 0
  grind
/-- Weyl -/
theorem In.sum {n : Nat} {A B : Mat} {p q a b c d : Nat} (hA : In n A p q) (hB : In n B a b) (hC : In n (fun i j => A i j + B i j) c d) : c ≤ p + a ∧ d ≤ q + b ∧ p ≤ c + b ∧ q ≤ d + a ∧ a ≤ c + q ∧ b ≤ d + p := by
  have two : ∀ {A B : Mat} {p q a b c d : Nat}, In n A p q → In n B a b → In n (fun i j => A i j + B i j) c d → c ≤ p + a ∧ d ≤ q + b := fun {A B p q a b c d} hA hB hC => by
    obtain ⟨ps, a1, _, _, a4, a5⟩ := hA
    obtain ⟨qs, b1, _, _, b4, b5⟩ := hB
    have := hC.le (a1.add b1)
    rw [posn_append, negn_append] at this
    omega
  have h1 := two hA hB hC
  have h2 := two hC hB.neg (hA.congr (B := fun i j => (A i j + B i j) + - B i j) fun i j _ _ => by grind)
  have h3 := two hC hA.neg (hB.congr (B := fun i j => (A i j + B i j) + - A i j) fun i j _ _ => by grind)
  omega
/-- the coefficients stay, the lines are changed -/
def lns (f : Vec → Vec) (ps : List Sq) : List Sq := ps.map fun p => (p.1, f p.2)
theorem posn_lns {f : Vec → Vec} {ps : List Sq} : posn (lns f ps) = posn ps := by unfold posn lns; rw [List.countP_map]; rfl
theorem negn_lns {f : Vec → Vec} {ps : List Sq} : negn (lns f ps) = negn ps := by unfold negn lns; rw [List.countP_map]; rfl
theorem Ls_lns {f : Vec → Vec} {i j : Nat} {ps : List Sq} : Ls (lns f ps) i j = (ps.map fun p => p.1 * f p.2 i * f p.2 j).sum := by unfold Ls lns; rw [List.map_map]; rfl
theorem lns_ne {f : Vec → Vec} {ps : List Sq} (h : ∀ s ∈ ps, s.1 ≠ 0) : ∀ s ∈ lns f ps, s.1 ≠ 0 := fun s hs => by
  obtain ⟨t, ht, rfl⟩ := List.mem_map.mp hs
  exact h t ht
theorem lns_at {f : Vec → Vec} {ps : List Sq} {a : Nat} (ha : a < ps.length) : ((lns f ps).getD a d0).2 = f (ps.getD a d0).2 := by
  have h : a < (lns f ps).length := by simpa [lns] using ha
  rw [gD h, gD ha]
  simp [lns]
theorem lns_len {f : Vec → Vec} {ps : List Sq} : (lns f ps).length = ps.length := by simp [lns]
theorem lsum_Sm {α : Type} {n : Nat} {f : α → Nat → Rat} : ∀ l : List α, (l.map fun p => Sm n (f p)).sum = Sm n fun a => (l.map fun p => f p a).sum
  | [] => by
    simp only [List.map_nil, List.sum_nil]
    rw [Sm_zero fun _ _ => rfl]
  | x :: l => by
    simp only [List.map_cons, List.sum_cons]
    rw [lsum_Sm l, Sm_add]
theorem lsum_congr {α : Type} {f g : α → Rat} {l : List α} (h : ∀ x, x ∈ l → f x = g x) : (l.map f).sum = (l.map g).sum := by rw [List.map_congr_left h]
theorem lsum_mulr {α : Type} {f : α → Rat} {c : Rat} : ∀ l : List α, (l.map fun x => f x * c).sum = (l.map f).sum * c
  | [] => by simp only [List.map_nil, List.sum_nil]; grind
  | x :: l => by simp only [List.map_cons, List.sum_cons]; rw [lsum_mulr l]; grind
/-- the sum of squares, one side put through k -/
theorem Ls_dot {n : Nat} {k : Vec} {ps : List Sq} {i : Nat} : (ps.map fun p => p.1 * p.2 i * dot n p.2 k).sum = Sm n fun a => Ls ps i a * k a := by
  have : ∀ a, Ls ps i a * k a = (ps.map fun p => p.1 * p.2 i * p.2 a * k a).sum := fun a => by rw [lsum_mulr]; rfl
  rw [Sm_congr fun a _ => this a, ← lsum_Sm]
  refine lsum_congr fun p _ => ?_
  unfold dot
  rw [← Sm_mul]
  exact Sm_congr fun a _ => by grind
theorem Ls_dots {n : Nat} {k m : Vec} {ps : List Sq} : (ps.map fun p => p.1 * dot n p.2 k * dot n p.2 m).sum = Sm n fun a => Sm n fun b => Ls ps a b * k a * m b := by
  have : ∀ a, Sm n (fun b => Ls ps a b * k a * m b) = k a * (ps.map fun p => p.1 * p.2 a * dot n p.2 m).sum := fun a => by
    rw [Ls_dot, ← Sm_mul]
    exact Sm_congr fun b _ => by grind
  rw [Sm_congr fun a _ => this a]
  have e : ∀ a, k a * (ps.map fun p => p.1 * p.2 a * dot n p.2 m).sum = (ps.map fun p => p.1 * p.2 a * dot n p.2 m * k a).sum := fun a => by rw [lsum_mulr]; grind
  rw [Sm_congr fun a _ => e a, ← lsum_Sm]
  refine lsum_congr fun p _ => ?_
  show p.1 * Sm n (fun a => p.2 a * k a) * dot n p.2 m = _
  rw [← Sm_mul, ← Sm_mulr]
  exact Sm_congr fun a _ => by grind
theorem dot_congr {n : Nat} {l x l' x' : Vec} (h : ∀ i, i < n → l i * x i = l' i * x' i) : dot n l x = dot n l' x' := Sm_congr h
theorem dot_split {n m : Nat} {l x : Vec} : dot (n + m) l x = dot n l x + dot m (fun i => l (n + i)) (fun i => x (n + i)) := Sm_split
theorem dot_zero {n : Nat} {l x : Vec} (h : ∀ i, i < n → l i * x i = 0) : dot n l x = 0 := Sm_zero h
end La
end

section
set_option linter.all false
set_option maxHeartbeats 1000000
/-! La6: Haynsworth. -/
namespace La
theorem gA {α : Type} {l m : List α} {a : Nat} {d : α} (h : a < l.length) : (l ++ m).getD a d = l.getD a d := by simp [List.getElem?_append_left h]
theorem gB {α : Type} {l m : List α} {a : Nat} {d : α} : (l ++ m).getD (l.length + a) d = m.getD a d := by simp [List.getElem?_append_right]
theorem m3 (a b c : Rat) : a * b * c = a * c * b := by grind
theorem neg1 (a b : Rat) : a * - b = (-1) * (a * b) := by grind
theorem am (a b : Rat) : a - b + b = a := by grind
theorem ma (a b : Rat) : b + (a - b) = a := by grind
theorem na (a : Rat) : -a + a = 0 := by grind
theorem n1 (a : Rat) : (-1) * a = - a := by grind
/-- a corner C and what it leaves (Haynsworth): K = C^-1 times the side -/
theorem In.corner {n m : Nat} {A : Mat} {K : Mat} {p q a b : Nat} (sy : ∀ i j, i < n + m → j < n + m → A i j = A j i) (hC : In n A p q) (hK : ∀ i k, i < n → k < m → Sm n (fun b => A i b * K b k) = A i (n + k)) (hS : In m (fun i j => A (n + i) (n + j) - Sm n fun a => A (n + i) a * K a j) a b) : In (n + m) A (p + a) (q + b) := by
  obtain ⟨ps, a1, ⟨V, hV⟩, a3, a4, a5⟩ := hC
  obtain ⟨qs, b1, ⟨W, hW⟩, b3, b4, b5⟩ := hS
  let f : Vec → Vec := fun l i => if i < n then l i else dot n l fun a => K a (i - n)
  let g : Vec → Vec := fun l i => if i < n then 0 else l (i - n)
  have f1 : ∀ l i, i < n → f l i = l i := fun l i h => if_pos h
  have f2 : ∀ l i, f l (n + i) = dot n l fun a => K a i := fun l i => by
    simp only [f]
    rw [if_neg (by omega), show n + i - n = i by omega]
  have g1 : ∀ l i, i < n → g l i = 0 := fun l i h => if_pos h
  have g2 : ∀ l i, g l (n + i) = l i := fun l i => by
    simp only [g]
    rw [if_neg (by omega), show n + i - n = i by omega]
  refine ⟨lns f ps ++ lns g qs, fun i j hi hj => ?_, ?_, ?_, by rw [posn_append, posn_lns, posn_lns, a4, b4], by rw [negn_append, negn_lns, negn_lns, a5, b5]⟩
  · rw [Ls_append, Ls_lns, Ls_lns]
    by_cases h1 : i < n
    · have z : (qs.map fun s => s.1 * g s.2 i * g s.2 j).sum = 0 := by
        rw [lsum_congr (g := fun _ => 0 * (0 : Rat)) fun s _ => by rw [g1 _ _ h1]; simp only [Rat.mul_zero, Rat.zero_mul, Rat.add_zero, Rat.zero_add], lsum_mulr]; simp only [Rat.mul_zero, Rat.zero_mul, Rat.add_zero, Rat.zero_add]
      rw [z]
      by_cases h2 : j < n
      · rw [lsum_congr (g := fun s => s.1 * s.2 i * s.2 j) fun s _ => by rw [f1 _ _ h1, f1 _ _ h2], a1 i j h1 h2]
        show Ls ps i j = Ls ps i j + 0
        rw [Rat.add_zero]
      · obtain ⟨k, rfl⟩ : ∃ k, j = n + k := ⟨j - n, by omega⟩
        rw [lsum_congr (g := fun s => s.1 * s.2 i * dot n s.2 fun a => K a k) fun s _ => by rw [f1 _ _ h1, f2], Ls_dot, ← hK i k h1 (by omega)]
        rw [Rat.add_zero]
        exact Sm_congr fun b hb => by rw [a1 i b h1 hb]
    · obtain ⟨i', rfl⟩ : ∃ k, i = n + k := ⟨i - n, by omega⟩
      by_cases h2 : j < n
      · have z : (qs.map fun s => s.1 * g s.2 (n + i') * g s.2 j).sum = 0 := by
          rw [lsum_congr (g := fun _ => 0 * (0 : Rat)) fun s _ => by rw [g1 _ _ h2]; simp only [Rat.mul_zero, Rat.zero_mul, Rat.add_zero, Rat.zero_add], lsum_mulr]; simp only [Rat.mul_zero, Rat.zero_mul, Rat.add_zero, Rat.zero_add]
        rw [z, sy _ _ hi hj]
        rw [lsum_congr (g := fun s => s.1 * s.2 j * dot n s.2 fun a => K a i') fun s _ => by rw [f1 _ _ h2, f2, m3], Ls_dot, ← hK j i' h2 (by omega)]
        rw [Rat.add_zero]
        exact Sm_congr fun b hb => by rw [a1 j b h2 hb]
      · obtain ⟨j', rfl⟩ : ∃ k, j = n + k := ⟨j - n, by omega⟩
        have e1 : (qs.map fun s => s.1 * g s.2 (n + i') * g s.2 (n + j')).sum = A (n + i') (n + j') - Sm n fun a => A (n + i') a * K a j' := by
          rw [lsum_congr (g := fun s => s.1 * s.2 i' * s.2 j') fun s _ => by rw [g2, g2]]
          exact (b1 i' j' (by omega) (by omega)).symm
        have e2 : (ps.map fun s => s.1 * f s.2 (n + i') * f s.2 (n + j')).sum = Sm n fun a => A (n + i') a * K a j' := by
          rw [lsum_congr (g := fun s => s.1 * (dot n s.2 fun a => K a i') * (dot n s.2 fun a => K a j')) fun s _ => by rw [f2, f2], Ls_dots, Sm_swap]
          refine Sm_congr fun b hb => ?_
          have h3 : Sm n (fun a => Ls ps a b * K a i' * K b j') = Sm n (fun a => A b a * K a i') * K b j' := by
            rw [← Sm_mulr]
            refine Sm_congr fun a ha => ?_
            rw [sy b a (by omega) (by omega), a1 a b ha hb]
          rw [h3, hK b i' hb (by omega), sy _ _ (by omega) hi]
        rw [e1, e2, ma]
  · have lp : (lns f ps).length = ps.length := lns_len
    have lq : (lns g qs).length = qs.length := lns_len
    let U1 : Nat → Vec := fun b i => if i < n then V b i else 0
    let U2 : Nat → Vec := fun b i => if i < n then - Sm m (fun k => K i k * W b k) else W b (i - n)
    have u1 : ∀ b i, i < n → U1 b i = V b i := fun b i h => if_pos h
    have u2 : ∀ b i, U1 b (n + i) = 0 := fun b i => if_neg (by omega)
    have u3 : ∀ b i, i < n → U2 b i = - Sm m (fun k => K i k * W b k) := fun b i h => if_pos h
    have u4 : ∀ b i, U2 b (n + i) = W b i := fun b i => by
      simp only [U2]
      rw [if_neg (by omega), show n + i - n = i by omega]
    have d11 : ∀ l b, dot (n + m) (f l) (U1 b) = dot n l (V b) := fun l b => by
      rw [dot_split, dot_zero (n := m) fun i hi => by rw [u2, Rat.mul_zero], Rat.add_zero]
      exact dot_congr fun i hi => by rw [f1 _ _ hi, u1 _ _ hi]
    have d12 : ∀ l b, dot (n + m) (f l) (U2 b) = 0 := fun l b => by
      rw [dot_split]
      have e1 : dot n (f l) (U2 b) = - Sm m (fun k => (dot n l fun a => K a k) * W b k) := by
        have s1 : ∀ i, i < n → f l i * U2 b i = (-1) * Sm m (fun k => l i * K i k * W b k) := fun i hi => by
          rw [f1 _ _ hi, u3 _ _ hi]
          have : Sm m (fun k => l i * K i k * W b k) = l i * Sm m (fun k => K i k * W b k) := by
            rw [← Sm_mul]
            exact Sm_congr fun k _ => by rw [Rat.mul_assoc]
          rw [this, neg1]
        show Sm n _ = _
        rw [Sm_congr s1, Sm_mul, Sm_swap]
        have s2 : ∀ k, Sm n (fun i => l i * K i k * W b k) = (dot n l fun a => K a k) * W b k := fun k => by rw [Sm_mulr]; rfl
        rw [Sm_congr fun k _ => s2 k, n1]
      have e2 : dot m (fun i => f l (n + i)) (fun i => U2 b (n + i)) = Sm m (fun k => (dot n l fun a => K a k) * W b k) := Sm_congr fun k hk => by
        show f l (n + k) * U2 b (n + k) = _
        rw [f2, u4]
      rw [e1, e2, na]
    have d21 : ∀ l b, dot (n + m) (g l) (U1 b) = 0 := fun l b => by
      rw [dot_split, dot_zero (n := n) fun i hi => by rw [g1 _ _ hi, Rat.zero_mul], dot_zero (n := m) fun i hi => by rw [u2, Rat.mul_zero], Rat.add_zero]
    have d22 : ∀ l b, dot (n + m) (g l) (U2 b) = dot m l (W b) := fun l b => by
      rw [dot_split, dot_zero (n := n) fun i hi => by rw [g1 _ _ hi, Rat.zero_mul], Rat.zero_add]
      exact dot_congr fun i hi => by rw [g2, u4]
    refine ⟨fun b => if b < ps.length then U1 b else U2 (b - ps.length), fun x y hx hy => ?_⟩
    rw [List.length_append, lp, lq] at hx hy
    have at1 : ∀ x, x < ps.length → (List.getD (lns f ps ++ lns g qs) x d0).2 = f (ps.getD x d0).2 := fun x h => by
      rw [gA (by rw [lp]; exact h), lns_at h]
    have at2 : ∀ x, x < qs.length → (List.getD (lns f ps ++ lns g qs) (ps.length + x) d0).2 = g (qs.getD x d0).2 := fun x h => by
      rw [← lp, gB, lns_at h]
    have v1 : ∀ y, y < ps.length → (if y < ps.length then U1 y else U2 (y - ps.length)) = U1 y := fun y h => if_pos h
    have v2 : ∀ y, (if ps.length + y < ps.length then U1 (ps.length + y) else U2 (ps.length + y - ps.length)) = U2 y := fun y => by
      rw [if_neg (by omega), show ps.length + y - ps.length = y by omega]
    show dot (n + m) _ (if y < ps.length then U1 y else U2 (y - ps.length)) = _
    by_cases hx1 : x < ps.length
    · rw [at1 x hx1]
      by_cases hy1 : y < ps.length
      · rw [v1 y hy1, d11]
        exact hV x y hx1 hy1
      · obtain ⟨y', rfl⟩ : ∃ k, y = ps.length + k := ⟨y - ps.length, by omega⟩
        rw [v2, d12, if_neg (by omega)]
    · obtain ⟨x', rfl⟩ : ∃ k, x = ps.length + k := ⟨x - ps.length, by omega⟩
      rw [at2 x' (by omega)]
      by_cases hy1 : y < ps.length
      · rw [v1 y hy1, d21, if_neg (by omega)]
      · obtain ⟨y', rfl⟩ : ∃ k, y = ps.length + k := ⟨y - ps.length, by omega⟩
        rw [v2, d22, hW x' y' (by omega) (by omega)]
        by_cases e : x' = y'
        · rw [if_pos e, if_pos (by omega)]
        · rw [if_neg e, if_neg (by omega)]
  · intro s hs
    rcases List.mem_append.mp hs with h | h
    · exact lns_ne a3 s h
    · exact lns_ne b3 s h
end La
end

section
set_option linter.all false
set_option maxHeartbeats 1000000
/-! La7: a letter less (Cauchy); tables times their turned ones; ranks. -/
namespace La
theorem In.block {n m : Nat} {A : Mat} {p q a b : Nat} (z1 : ∀ i k, i < n → k < m → A i (n + k) = 0) (z2 : ∀ i k, i < n → k < m → A (n + k) i = 0) (s1 : ∀ i j, i < n → j < n → A i j = A j i) (s2 : ∀ i j, i < m → j < m → A (n + i) (n + j) = A (n + j) (n + i)) (hC : In n A p q) (hS : In m (fun i j => A (n + i) (n + j)) a b) : In (n + m) A (p + a) (q + b) := by
  refine In.corner (K := fun _ _ => 0) (fun i j hi hj => ?_) hC (fun i k hi hk => ?_) (hS.congr fun i j _ _ => ?_)
  · by_cases h1 : i < n
    · by_cases h2 : j < n
      · exact s1 i j h1 h2
      · obtain ⟨k, rfl⟩ : ∃ k, j = n + k := ⟨j - n, by omega⟩
        rw [z1 i k h1 (by omega), z2 i k h1 (by omega)]
    · obtain ⟨k, rfl⟩ : ∃ k, i = n + k := ⟨i - n, by omega⟩
      by_cases h2 : j < n
      · rw [z1 j k h2 (by omega), z2 j k h2 (by omega)]
      · obtain ⟨l, rfl⟩ : ∃ k, j = n + k := ⟨j - n, by omega⟩
        exact s2 k l (by omega) (by omega)
  · rw [z1 i k hi hk]
    exact Sm_zero fun b _ => by rw [Rat.mul_zero]
  · rw [Sm_zero fun a _ => by rw [Rat.mul_zero]]
    grind
def held (g k : Nat) : Nat := if k < g then k else k + 1
def unh (g k : Nat) : Nat := if k < g then k else k - 1
theorem two_sq (a b c d : Rat) : (1/2) * (a + b) * (c + d) + ((-1/2) * (a - b) * (c - d) + 0) = a * d + b * c := by grind
theorem posn_two (u v : Vec) : posn [((1/2 : Rat), u), ((-1/2 : Rat), v)] = 1 ∧ negn [((1/2 : Rat), u), ((-1/2 : Rat), v)] = 1 := by
  have h1 : decide ((0 : Rat) < 1/2) = true := decide_eq_true (by grind)
  have h2 : decide ((0 : Rat) < -1/2) = false := decide_eq_false (by grind)
  have h3 : decide ((1/2 : Rat) < 0) = false := decide_eq_false (by grind)
  have h4 : decide ((-1/2 : Rat) < 0) = true := decide_eq_true (by grind)
  unfold posn negn
  simp only [List.countP_cons, List.countP_nil, h1, h2, h3, h4]
  exact ⟨rfl, rfl⟩
/-- Cauchy -/
theorem In.less {n g : Nat} {A : Mat} {p q a b : Nat} (sy : ∀ i j, i < n + 1 → j < n + 1 → A i j = A j i) (hg : g < n + 1) (hA : In (n + 1) A p q) (hB : In n (fun i j => A (held g i) (held g j)) a b) : a ≤ p ∧ b ≤ q ∧ p ≤ a + 1 ∧ q ≤ b + 1 := by
  have h1 : a ≤ p ∧ b ≤ q := by
    obtain ⟨ps, a1, _, _, a4, a5⟩ := hA
    have := hB.le (qs := lns (fun l i => l (held g i)) ps) fun i j hi hj => by
      rw [Ls_lns]
      exact a1 _ _ (by unfold held; split <;> omega) (by unfold held; split <;> omega)
    rw [posn_lns, negn_lns] at this
    omega
  have h2 : p ≤ a + 1 ∧ q ≤ b + 1 := by
    obtain ⟨qs, b1, _, _, b4, b5⟩ := hB
    let ext : Vec → Vec := fun l i => if i = g then 0 else l (unh g i)
    let e : Vec := fun i => if i = g then 1 else 0
    let r : Vec := fun i => if i = g then A g g / 2 else A i g
    have := hA.le (qs := lns ext qs ++ [((1/2 : Rat), fun i => e i + r i), ((-1/2 : Rat), fun i => e i - r i)]) fun i j hi hj => by
      rw [Ls_append, Ls_lns, Ls_cons, Ls_cons, Ls_nil, two_sq]
      have hu : ∀ i, i < n + 1 → i ≠ g → unh g i < n ∧ held g (unh g i) = i := fun i hi hne => by
        unfold unh held
        by_cases z : i < g
        · rw [if_pos z, if_pos z]; omega
        · rw [if_neg z, if_neg (by omega)]; omega
      by_cases ei : i = g
      · have z : (qs.map fun s => s.1 * ext s.2 i * ext s.2 j).sum = 0 := by
          rw [lsum_congr (g := fun _ => 0 * (0 : Rat)) fun s _ => by simp only [ext]; rw [if_pos ei]; simp only [Rat.mul_zero, Rat.zero_mul], lsum_mulr, Rat.mul_zero]
        rw [z]
        subst ei
        have e1 : e i = 1 := if_pos rfl
        by_cases ej : j = i
        · subst ej
          have r1 : r j = A j j / 2 := if_pos rfl
          rw [e1, r1]; grind
        · have e2 : e j = 0 := if_neg ej
          have r1 : r j = A j i := if_neg ej
          rw [e1, e2, r1, sy i j hi hj]; grind
      · have e1 : e i = 0 := if_neg ei
        have r1 : r i = A i g := if_neg ei
        by_cases ej : j = g
        · have z : (qs.map fun s => s.1 * ext s.2 i * ext s.2 j).sum = 0 := by
            rw [lsum_congr (g := fun _ => 0 * (0 : Rat)) fun s _ => by simp only [ext]; rw [if_pos ej]; simp only [Rat.mul_zero, Rat.zero_mul], lsum_mulr, Rat.mul_zero]
          have e2 : e j = 1 := if_pos ej
          rw [z, e1, e2, r1, ej]; grind
        · have e2 : e j = 0 := if_neg ej
          rw [e1, e2]
          obtain ⟨u1, u2⟩ := hu i hi ei
          obtain ⟨w1, w2⟩ := hu j hj ej
          have q1 : A (held g (unh g i)) (held g (unh g j)) = Ls qs (unh g i) (unh g j) := b1 _ _ u1 w1
          rw [u2, w2] at q1
          have z : (qs.map fun s => s.1 * ext s.2 i * ext s.2 j).sum = Ls qs (unh g i) (unh g j) := lsum_congr fun s _ => by
            simp only [ext]
            rw [if_neg ei, if_neg ej]
          rw [z, q1]
          grind
    rw [posn_append, negn_append, posn_lns, negn_lns, (posn_two _ _).1, (posn_two _ _).2] at this
    omega
  omega
/-- a table's rank, by its stairs: A = U E, E = W A, E has the unit table at the places pl -/
structure Rk (m n : Nat) (A : Mat) (r : Nat) : Prop where
  ex : ∃ (U E W : Mat) (pl : Nat → Nat), (∀ i j, i < m → j < n → A i j = Sm r fun b => U i b * E b j) ∧ (∀ b j, b < r → j < n → E b j = Sm m fun i => W b i * A i j) ∧ (∀ b, b < r → pl b < n) ∧ ∀ a b, a < r → b < r → E a (pl b) = if a = b then 1 else 0
theorem qf_rows {m n : Nat} {A : Mat} {y : Vec} : True := trivial
/-- squares of independent forms: as many as the rank -/
theorem Rk.sym {n r : Nat} {A : Mat} {ps : List Sq} (h : Rk n n A r) (hp : Dec n A ps) (hi : Ind n ps) (hne : ∀ s ∈ ps, s.1 ≠ 0) : r = ps.length := by
  obtain ⟨U, E, W, pl, hA, hE, hpl, hd⟩ := h.ex
  obtain ⟨V, hV⟩ := hi
  refine Nat.le_antisymm (Classical.byContradiction fun hlt => ?_) (Classical.byContradiction fun hlt => ?_)
  · -- more rows of E than squares
    obtain ⟨t, ⟨j, hj, htj⟩, ht⟩ := kernel ps.length r (fun a b => dot n (ps.getD a d0).2 (fun i => W b i)) (by omega)
    let y : Vec := fun i => Sm r fun b => t b * W b i
    have hy : ∀ a, a < ps.length → dot n (ps.getD a d0).2 y = 0 := fun a ha => by
      rw [dot_lin, ← ht a ha]
      exact Sm_congr fun b _ => Rat.mul_comm _ _
    have z : ∀ c, c < n → Sm r (fun b => t b * E b c) = 0 := fun c hc => by
      have e1 : Sm r (fun b => t b * E b c) = Sm n (fun i => A i c * y i) := by
        have : ∀ b, b < r → t b * E b c = Sm n (fun i => A i c * (t b * W b i)) := fun b hb => by
          rw [hE b c hb hc, ← Sm_mul]
          exact Sm_congr fun i _ => by grind
        rw [Sm_congr this, Sm_swap]
        refine Sm_congr fun i _ => ?_
        rw [← Sm_mul]
      rw [e1]
      have e2 : ∀ i, i < n → A i c * y i = Ls ps c i * y i := fun i hi' => by
        rw [hp i c hi' hc]
        congr 1
        unfold Ls
        exact lsum_congr fun s _ => m3 _ _ _
      rw [Sm_congr e2, ← Ls_dot, sum_Sm d0]
      exact Sm_zero fun a ha => by rw [hy a ha, Rat.mul_zero]
    have := z (pl j) (hpl j hj)
    rw [Sm_one (k := j) hj fun b hb hbj => by rw [hd b j hb hj, if_neg hbj, Rat.mul_zero], hd j j hj hj, if_pos rfl, Rat.mul_one] at this
    exact htj this
  · obtain ⟨t, ⟨j, hj, htj⟩, ht⟩ := kernel r ps.length (fun b a => dot n (E b) (V a)) (by omega)
    let x : Vec := fun i => Sm ps.length fun a => t a * V a i
    have hx : ∀ b, b < r → dot n (E b) x = 0 := fun b hb => by
      rw [dot_lin, ← ht b hb]
      exact Sm_congr fun a _ => Rat.mul_comm _ _
    have hAx : ∀ i, i < n → Sm n (fun j => A i j * x j) = 0 := fun i hi' => by
      have : ∀ j, j < n → A i j * x j = Sm r (fun b => U i b * (E b j * x j)) := fun j hj' => by
        rw [hA i j hi' hj', ← Sm_mulr]
        exact Sm_congr fun b _ => Rat.mul_assoc _ _ _
      rw [Sm_congr this, Sm_swap]
      refine Sm_zero fun b hb => ?_
      rw [Sm_mul]
      have := hx b hb
      unfold dot at this
      rw [this, Rat.mul_zero]
    have hl : ∀ a, a < ps.length → dot n (ps.getD a d0).2 x = t a := fun a ha => by
      rw [dot_lin, Sm_one (k := a) ha fun b hb hne => by rw [hV a b ha hb, if_neg fun e => hne e.symm, Rat.mul_zero], hV a a ha ha, if_pos rfl, Rat.mul_one]
    -- the form put through V j
    have e : dot n (fun i => Sm n (fun c => A i c * x c)) (V j) = 0 := dot_zero fun i hi' => by rw [hAx i hi', Rat.zero_mul]
    have e2 : dot n (fun i => Sm n (fun c => A i c * x c)) (V j) = (ps.getD j d0).1 * t j := by
      have s1 : ∀ i, i < n → Sm n (fun c => A i c * x c) * V j i = (ps.map fun s => s.1 * dot n s.2 x * s.2 i * V j i).sum := fun i hi' => by
        rw [lsum_mulr]
        congr 1
        rw [Sm_congr (g := fun c => Ls ps i c * x c) fun c hc => by rw [hp i c hi' hc], ← Ls_dot]
        exact lsum_congr fun s _ => m3 _ _ _
      show Sm n _ = _
      rw [Sm_congr s1, ← lsum_Sm]
      have s2 : ∀ s : Sq, Sm n (fun i => s.1 * dot n s.2 x * s.2 i * V j i) = s.1 * dot n s.2 x * dot n s.2 (V j) := fun s => by
        show _ = _ * Sm n _
        rw [← Sm_mul]
        exact Sm_congr fun i _ => Rat.mul_assoc _ _ _
      rw [lsum_congr fun s _ => s2 s, sum_Sm d0, Sm_one (k := j) hj fun a ha hne => by rw [hV a j ha hj, if_neg hne, Rat.mul_zero], hl j hj, hV j j hj hj, if_pos rfl, Rat.mul_one]
    rw [e] at e2
    have c0 : (ps.getD j d0).1 ≠ 0 := by
      rw [gD hj]
      exact hne _ (List.getElem_mem hj)
    rcases Rat.mul_eq_zero.mp e2.symm with z | z
    · exact c0 z
    · exact htj z
end La
end

section
set_option linter.all false
set_option maxHeartbeats 1000000
/-! La8: every symmetric table has its signs; the sign of the determinant. -/
namespace La
def Sy (n : Nat) (A : Mat) : Prop := ∀ i j, i < n → j < n → A i j = A j i
theorem In.zero {A : Mat} : In 0 A 0 0 := ⟨[], fun i j hi => by omega, ⟨fun _ _ => 0, fun a b ha => by simp at ha⟩, fun s hs => by simp at hs, rfl, rfl⟩
theorem In.one {A : Mat} (h : A 0 0 ≠ 0) : In 1 A (if 0 < A 0 0 then 1 else 0) (if 0 < A 0 0 then 0 else 1) := by
  refine ⟨[(A 0 0, fun _ => 1)], fun i j hi hj => ?_, ⟨fun _ _ => 1, fun a b ha hb => ?_⟩, fun s hs => ?_, ?_, ?_⟩
  · have e1 : i = 0 := by omega
    have e2 : j = 0 := by omega
    subst e1
    subst e2
    rw [Ls_cons, Ls_nil]
    grind
  · have e1 : a = 0 := by simpa using ha
    have e2 : b = 0 := by simpa using hb
    subst e1
    subst e2
    show Sm 1 (fun _ => (1 : Rat) * 1) = 1
    simp only [Sm]
    grind
  · rw [List.mem_singleton.mp hs]; exact h
  · unfold posn
    by_cases z : 0 < A 0 0
    · simp [z]
    · simp [z]
  · unfold negn
    by_cases z : 0 < A 0 0
    · have : ¬ A 0 0 < 0 := by grind
      simp [z, this]
    · have : A 0 0 < 0 := by grind
      simp [z, this]
/-- what a corner leaves -/
def schur (n : Nat) (A K : Mat) : Mat := fun i j => A (n + i) (n + j) - Sm n fun a => A (n + i) a * K a j
theorem schur_sy {n m : Nat} {A K : Mat} (sy : Sy (n + m) A) (hK : ∀ i k, i < n → k < m → Sm n (fun b => A i b * K b k) = A i (n + k)) : Sy m (schur n A K) := fun i j hi hj => by
  unfold schur
  rw [sy (n + i) (n + j) (by omega) (by omega)]
  congr 1
  have e : ∀ i j, i < m → j < m → Sm n (fun a => A (n + i) a * K a j) = Sm n fun a => Sm n fun b => A a b * K b i * K a j := fun i j hi hj => by
    refine Sm_congr fun a ha => ?_
    rw [sy (n + i) a (by omega) (by omega), ← hK a i ha hi, Sm_mulr]
  rw [e i j hi hj, e j i hj hi, Sm_swap]
  refine Sm_congr fun a ha => Sm_congr fun b hb => ?_
  rw [sy b a (by omega) (by omega)]
  grind
/-- .. its determinant -/
theorem Lp_schur {n m : Nat} {A K : Mat} (sy : Sy (n + m) A) (hK : ∀ i k, i < n → k < m → Sm n (fun b => A i b * K b k) = A i (n + k)) : Lp (n + m) A = Lp n A * Lp m (schur n A K) := by
  rw [← Lp_low (n := n + m) (m := n) (A := A) (fun i s => - K s (i - n)) (by omega)]
  have low : ∀ i b, ¬ i < n → Sm n (fun s => - K s (i - n) * A s b) = - Sm n (fun s => K s (i - n) * A s b) := fun i b _ => by
    have : ∀ s, s < n → - K s (i - n) * A s b = (-1) * (K s (i - n) * A s b) := fun s _ => by grind
    rw [Sm_congr this, Sm_mul, n1]
  rw [Lp_block n m fun i j h1 h2 h3 => by
    rw [if_neg (by omega), low i j (by omega)]
    obtain ⟨k, rfl⟩ : ∃ k, i = n + k := ⟨i - n, by omega⟩
    have : Sm n (fun s => K s (n + k - n) * A s j) = A (n + k) j := by
      rw [sy (n + k) j (by omega) (by omega), ← hK j k h3 (by omega)]
      refine Sm_congr fun s hs => ?_
      rw [sy s j (by omega) (by omega), show n + k - n = k by omega, Rat.mul_comm]
    rw [this]; grind]
  rw [Lp_congr n (B := A) fun i j hi hj => by rw [if_pos hi]]
  congr 1
  refine Lp_congr m fun i j hi hj => ?_
  rw [if_neg (by omega), low _ _ (by omega), show n + i - n = i by omega]
  unfold schur
  have : Sm n (fun s => K s i * A s (n + j)) = Sm n fun a => A (n + i) a * K a j := by
    have e1 : ∀ s, s < n → K s i * A s (n + j) = Sm n fun b => A s b * K b j * K s i := fun s hs => by
      rw [← hK s j hs hj, Sm_mulr, Rat.mul_comm]
    have e2 : ∀ a, a < n → A (n + i) a * K a j = Sm n fun b => A a b * K b i * K a j := fun a ha => by
      rw [sy (n + i) a (by omega) (by omega), ← hK a i ha hi, Sm_mulr]
    rw [Sm_congr e1, Sm_congr e2, Sm_swap]
    refine Sm_congr fun a ha => Sm_congr fun b hb => ?_
    rw [sy b a (by omega) (by omega)]
    grind
  rw [this]; grind
/-- row and column 0 += t * row and column k -/
def cg (k : Nat) (t : Rat) (A : Mat) : Mat := fun i j => (A i j + (if i = 0 then t * A k j else 0)) + (if j = 0 then t * (A i k + (if i = 0 then t * A k k else 0)) else 0)
theorem Lp_cg {n k : Nat} {t : Rat} {A : Mat} (hk : k < n) (h0 : k ≠ 0) : Lp n (cg k t A) = Lp n A := by
  let B : Mat := pr 0 (fun b => A 0 b + t * A k b) A
  have e1 : Lp n B = Lp n A := Lp_add (by omega) hk fun e => h0 e.symm
  rw [← e1, ← Lp_col (A := B) (t := t) hk h0]
  refine Lp_congr n fun i j _ _ => ?_
  unfold cg
  have b1 : ∀ j, B i j = A i j + (if i = 0 then t * A k j else 0) := fun j => by
    simp only [B, pr]
    by_cases z : i = 0
    · rw [if_pos z, if_pos z, z]
    · rw [if_neg z, if_neg z]; grind
  by_cases z : j = 0
  · rw [if_pos z, if_pos z, b1, b1, z]
  · rw [if_neg z, if_neg z, b1]; grind
theorem Sy.cg {n k : Nat} {t : Rat} {A : Mat} (sy : Sy n A) (hk : k < n) : Sy n (La.cg k t A) := fun i j hi hj => by
  unfold La.cg
  rw [sy j i hj hi, sy k j hk hj, sy k i hk hi]
  by_cases h1 : i = 0 <;> by_cases h2 : j = 0 <;> simp only [h1, h2, if_true, if_false] <;> grind
theorem In.cg {n k : Nat} {t : Rat} {A : Mat} {p q : Nat} (sy : Sy n A) (hk : k < n) (h0 : k ≠ 0) (h : In n (La.cg k t A) p q) : In n A p q := by
  obtain ⟨ps, a1, ⟨V, hV⟩, a3, a4, a5⟩ := h
  let f : Vec → Vec := fun l j => if j = 0 then l 0 - t * l k else l j
  refine ⟨lns f ps, fun i j hi hj => ?_, ⟨fun b i => if i = k then V b k + t * V b 0 else V b i, fun x y hx hy => ?_⟩, lns_ne a3, by rw [posn_lns, a4], by rw [negn_lns, a5]⟩
  · rw [Ls_lns]
    have n0 : 0 < n := by omega
    have b00 := a1 0 0 n0 n0
    have b0k := a1 0 k n0 hk
    have bkk := a1 k k hk hk
    have ex : ∀ u v : Nat, (ps.map fun s => s.1 * s.2 u * s.2 v).sum = Ls ps u v := fun _ _ => rfl
    have lin : ∀ (c1 c2 c3 c4 : Rat) (u1 u2 v1 v2 : Nat), (ps.map fun s => s.1 * (c1 * s.2 u1 + c2 * s.2 u2) * (c3 * s.2 v1 + c4 * s.2 v2)).sum = c1 * c3 * Ls ps u1 v1 + c1 * c4 * Ls ps u1 v2 + c2 * c3 * Ls ps u2 v1 + c2 * c4 * Ls ps u2 v2 := fun c1 c2 c3 c4 u1 u2 v1 v2 => by
      clear a1 hV a3 a4 a5 b00 b0k bkk ex
      induction ps with
      | nil => simp only [List.map_nil, List.sum_nil, Ls_nil]; grind
      | cons s ps ih => simp only [List.map_cons, List.sum_cons, Ls_cons, ih]; grind
    have fs : ∀ (l : Vec) (j : Nat), f l j = 1 * l j + (if j = 0 then - t else 0) * l k := fun l j => by
      simp only [f]
      by_cases z : j = 0
      · rw [if_pos z, if_pos z, z]; grind
      · rw [if_neg z, if_neg z]; grind
    rw [lsum_congr (g := fun s => s.1 * (1 * s.2 i + (if i = 0 then - t else 0) * s.2 k) * (1 * s.2 j + (if j = 0 then - t else 0) * s.2 k)) fun s _ => by rw [fs, fs], lin]
    rw [← a1 i j hi hj, ← a1 i k hi hk, ← a1 k j hk hj, ← bkk]
    unfold La.cg
    rw [if_neg h0, if_neg h0, if_neg h0, if_neg h0]
    by_cases h1 : i = 0 <;> by_cases h2 : j = 0 <;> simp only [h1, h2, if_true, if_false, if_neg h0] <;> (clear lin fs ex a1 hV; grind)
  · rw [lns_len] at hx hy
    rw [lns_at hx, ← hV x y hx hy]
    let l := (ps.getD x d0).2
    show Sm n (fun i => f l i * (if i = k then V y k + t * V y 0 else V y i)) = Sm n (fun i => l i * V y i)
    have s1 : Sm n (fun i => f l i * (if i = k then V y k + t * V y 0 else V y i)) = Sm n (fun i => l i * V y i + ((if i = 0 then - (t * l k * V y 0) else 0) + (if i = k then t * l k * V y 0 else 0))) := Sm_congr fun i _ => by
      simp only [f]
      by_cases h1 : i = 0
      · rw [if_pos h1, if_neg (by omega), if_pos h1, if_neg (by omega), h1]; grind
      · rw [if_neg h1, if_neg h1]
        by_cases h2 : i = k
        · rw [if_pos h2, if_pos h2, h2]; grind
        · rw [if_neg h2, if_neg h2]; grind
    rw [s1, Sm_add, Sm_add, Sm_one (k := 0) (by omega) fun i _ hi => if_neg hi, Sm_one (k := k) hk fun i _ hi => if_neg hi, if_pos rfl, if_pos rfl]
    grind
theorem sg_add (a b : Nat) : sg (a + b) = sg a * sg b := by
  induction b with
  | zero => show sg a = sg a * 1; grind
  | succ b ih => rw [← Nat.add_assoc, sg_succ, sg_succ, ih]; grind
/-- what the determinant d tells of the signs -/
structure Sgs (n : Nat) (d : Rat) (p q : Nat) : Prop where
  le : p + q ≤ n
  eq : d ≠ 0 → p + q = n
  sg : d ≠ 0 → 0 < d * La.sg q
  lt : d = 0 → p + q < n
/-- every symmetric table has its signs, and its determinant's sign is that of the number below nought -/
theorem signs : ∀ (n : Nat) (A : Mat), Sy n A → ∃ p q, In n A p q ∧ Sgs n (Lp n A) p q := by
  intro n
  induction n with
  | zero =>
    intro A _
    exact ⟨0, 0, In.zero, by omega, fun _ => rfl, fun _ => (by show (0 : Rat) < 1 * 1; grind), fun h => by have h : (1 : Rat) = 0 := h; grind⟩
  | succ n ih =>
    have main : ∀ A : Mat, Sy (n + 1) A → A 0 0 ≠ 0 → ∃ p q, In (n + 1) A p q ∧ Sgs (n + 1) (Lp (n + 1) A) p q := fun A sy h0 => by
      have sy' : Sy (1 + n) A := by rw [Nat.add_comm]; exact sy
      have hK : ∀ i k, i < 1 → k < n → Sm 1 (fun b => A i b * (A b (1 + k) / A 0 0)) = A i (1 + k) := fun i k hi hk => by
        have e : i = 0 := by omega
        subst e
        simp only [Sm]
        grind
      obtain ⟨a, b, hS, hs⟩ := ih (schur 1 A fun b k => A b (1 + k) / A 0 0) (schur_sy sy' hK)
      have hI := In.corner sy' (In.one h0) hK hS
      have hL := Lp_schur sy' hK
      rw [Lp_one1, Nat.add_comm] at hL
      rw [Nat.add_comm 1 n] at hI
      have hpq : (if 0 < A 0 0 then 1 else 0) + a + ((if 0 < A 0 0 then 0 else 1) + b) = a + b + 1 := by split <;> omega
      have hSn : Lp (n + 1) A ≠ 0 → Lp n (schur 1 A fun b k => A b (1 + k) / A 0 0) ≠ 0 := fun hne e => hne (by rw [hL, e, Rat.mul_zero])
      refine ⟨_, _, hI, by rw [hpq]; have := hs.le; omega, fun hne => by rw [hpq, hs.eq (hSn hne)], fun hne => ?_, fun he => ?_⟩
      · have s2 := hs.sg (hSn hne)
        rw [hL, sg_add]
        by_cases z : 0 < A 0 0
        · rw [if_pos z]
          have := Rat.mul_pos z s2
          show 0 < _ * (1 * sg b)
          grind
        · rw [if_neg z]
          have := Rat.mul_pos (a := - A 0 0) (by grind) s2
          show 0 < _ * (sg 1 * sg b)
          have e : sg 1 = -1 := rfl
          rw [e]
          grind
      · rw [hL] at he
        rcases Rat.mul_eq_zero.mp he with z | z
        · exact absurd z h0
        · rw [hpq]
          have := hs.lt z
          omega
    intro A sy
    by_cases h0 : A 0 0 = 0
    · by_cases h1 : ∃ k, k < n + 1 ∧ A 0 k ≠ 0
      · obtain ⟨k, hk, hAk⟩ := h1
        have k0 : k ≠ 0 := fun e => hAk (by rw [e]; exact h0)
        have go : ∀ t : Rat, La.cg k t A 0 0 ≠ 0 → ∃ p q, In (n + 1) A p q ∧ Sgs (n + 1) (Lp (n + 1) A) p q := fun t ht => by
          obtain ⟨p, q, h2, h3⟩ := main (La.cg k t A) (sy.cg hk) ht
          rw [Lp_cg hk k0] at h3
          exact ⟨p, q, In.cg sy hk k0 h2, h3⟩
        have c00 : ∀ t, La.cg k t A 0 0 = 2 * t * A 0 k + t * t * A k k := fun t => by
          unfold La.cg
          rw [if_pos rfl, if_pos rfl, if_pos rfl, h0, sy k 0 hk (by omega)]
          grind
        by_cases z : La.cg k 1 A 0 0 = 0
        · refine go (-1) ?_
          rw [c00] at z ⊢
          grind
        · exact go 1 z
      · have hz : ∀ k, k < n + 1 → A 0 k = 0 := fun k hk => Classical.byContradiction fun e => h1 ⟨k, hk, e⟩
        have sy' : Sy (1 + n) A := by rw [Nat.add_comm]; exact sy
        have syS : Sy n (fun i j => A (1 + i) (1 + j)) := fun i j hi hj => sy _ _ (by omega) (by omega)
        obtain ⟨a, b, hS, hs⟩ := ih _ syS
        have hC : In 1 A 0 0 := by
          refine ⟨[], fun i j hi hj => ?_, ⟨fun _ _ => 0, fun a b ha => by simp at ha⟩, fun s hs => by simp at hs, rfl, rfl⟩
          have e1 : i = 0 := by omega
          have e2 : j = 0 := by omega
          rw [e1, e2, h0]; rfl
        have hI := In.block (n := 1) (m := n) (A := A) (fun i k hi hk => by rw [show i = 0 by omega]; exact hz _ (by omega)) (fun i k hi hk => by rw [show i = 0 by omega, sy _ 0 (by omega) (by omega)]; exact hz _ (by omega)) (fun i j hi hj => sy _ _ (by omega) (by omega)) (fun i j hi hj => sy _ _ (by omega) (by omega)) hC hS
        rw [Nat.zero_add, Nat.zero_add, Nat.add_comm] at hI
        have z : Lp (n + 1) A = 0 := Lp_dep (fun i => if i = 0 then 1 else 0) (r := 0) (by omega) (by rw [if_pos rfl]; grind) fun c hc => by
          rw [Sm_one (k := 0) (by omega) fun i _ hi => by rw [if_neg hi, Rat.zero_mul], hz c hc, Rat.mul_zero]
        have := hs.le
        exact ⟨a, b, hI, by omega, fun hne => absurd z hne, fun hne => absurd z hne, fun _ => by omega⟩
    · exact main A sy h0
end La
end

section
set_option linter.all false
set_option maxHeartbeats 1000000
/-! La9: tables times their turned ones; minors in the middle (Jacobi); all above nought. -/
namespace La
theorem len_pn : ∀ {ps : List Sq}, (∀ s ∈ ps, s.1 ≠ 0) → ps.length = posn ps + negn ps
  | [], _ => rfl
  | s :: ps, h => by
    have ih := len_pn (ps := ps) fun t ht => h t (List.mem_cons_of_mem _ ht)
    have h0 := h s (List.mem_cons_self ..)
    unfold posn negn at ih ⊢
    rw [List.length_cons, List.countP_cons, List.countP_cons, ih]
    by_cases z : 0 < s.1
    · have : ¬ s.1 < 0 := by grind
      simp only [z, this, decide_true, decide_false, if_true]
      simp
      omega
    · have : s.1 < 0 := by grind
      simp only [z, this, decide_true, decide_false, if_true]
      simp
      omega
theorem In.rank {n r p q : Nat} {A : Mat} (h : In n A p q) (hr : Rk n n A r) : r = p + q := by
  obtain ⟨ps, a1, a2, a3, a4, a5⟩ := h
  rw [hr.sym a1 a2 a3, len_pn a3, a4, a5]
/-- a table times its turned one -/
def gram (n : Nat) (T : Mat) : Mat := fun i j => Sm n fun k => T i k * T j k
def cols (n : Nat) (T : Mat) : List Sq := (List.range n).map fun k => (1, fun i => T i k)
theorem Ls_range {n : Nat} {f : Nat → Sq} {i j : Nat} : Ls ((List.range n).map f) i j = Sm n fun k => (f k).1 * (f k).2 i * (f k).2 j := by
  unfold Ls
  rw [List.map_map]
  induction n with
  | zero => rfl
  | succ n ih =>
    rw [List.range_succ, List.map_append, List.sum_append, ih]
    show _ + ([_] : List Rat).sum = Sm (n + 1) _
    simp only [Sm, List.sum_cons, List.sum_nil, Function.comp]
    grind
theorem cols_neg {n : Nat} {T : Mat} : negn (cols n T) = 0 := by
  unfold negn cols
  rw [List.countP_map]
  refine List.countP_eq_zero.mpr fun a _ => ?_
  show ¬ decide ((1 : Rat) < 0) = true
  rw [decide_eq_true_eq]
  grind
theorem gram_qf {m n : Nat} {T : Mat} {x : Vec} : qf m (gram n T) x = Sm n fun k => dot m (fun i => T i k) x * dot m (fun i => T i k) x := by
  rw [qf_congr (B := Ls (cols n T)) fun i j _ _ => by
    unfold gram cols
    rw [Ls_range]
    exact Sm_congr fun k _ => by grind]
  rw [qf_Ls]
  unfold cols
  rw [List.map_map]
  have : ∀ n, (List.map ((fun p => p.1 * (dot m p.2 x * dot m p.2 x)) ∘ fun k => ((1 : Rat), fun i => T i k)) (List.range n)).sum = Sm n fun k => dot m (fun i => T i k) x * dot m (fun i => T i k) x := fun n => by
    induction n with
    | zero => rfl
    | succ n ih =>
      rw [List.range_succ, List.map_append, List.sum_append, ih]
      show _ + ([_] : List Rat).sum = Sm (n + 1) _
      simp only [Sm, List.sum_cons, List.sum_nil, Function.comp]
      grind
  exact this n
theorem Sm_sq0 {n : Nat} {f : Nat → Rat} (h : Sm n (fun k => f k * f k) = 0) : ∀ k, k < n → f k = 0 := fun k hk => Classical.byContradiction fun e => by
  have := Sm_pos (n := n) (f := fun k => f k * f k) (fun i _ => sq_nonneg _) hk (sq_pos e)
  grind
/-- its signs: as many above as the rank -/
theorem In.gram {m n r p q : Nat} {T : Mat} (h : In m (La.gram n T) p q) (hr : Rk m n T r) : q = 0 ∧ p = r := by
  have hq : q = 0 := by
    have := (h.le (qs := cols n T) fun i j _ _ => by
      unfold La.gram cols
      rw [Ls_range]
      exact Sm_congr fun k _ => by grind).2
    rw [cols_neg] at this
    omega
  refine ⟨hq, ?_⟩
  obtain ⟨ps, a1, ⟨V, hV⟩, a3, a4, a5⟩ := h
  have hl : ps.length = p := by rw [len_pn a3, a4, a5, hq, Nat.add_zero]
  have hc : ∀ a, a < ps.length → 0 < (ps.getD a d0).1 := fun a ha => by
    have n0 : ps.countP (fun p => decide (p.1 < 0)) = 0 := by
      have : negn ps = 0 := by omega
      exact this
    have h1 := List.countP_eq_zero.mp n0 (ps[a]) (List.getElem_mem ha)
    have h2 := a3 (ps[a]) (List.getElem_mem ha)
    rw [gD ha]
    have h3 : ¬ ps[a].1 < 0 := by simpa using h1
    grind
  have qfp : ∀ x, qf m (La.gram n T) x = Sm ps.length fun a => (ps.getD a d0).1 * (dot m (ps.getD a d0).2 x * dot m (ps.getD a d0).2 x) := fun x => by rw [qf_congr a1, qf_Ls, sum_Sm d0]
  obtain ⟨U, E, W, pl, hA, hE, hpl, hd⟩ := hr.ex
  refine Nat.le_antisymm (Classical.byContradiction fun hlt => ?_) (Classical.byContradiction fun hlt => ?_)
  · obtain ⟨t, ⟨j, hj, htj⟩, ht⟩ := kernel r ps.length (fun b a => dot m (fun i => U i b) (V a)) (by omega)
    let x : Vec := fun i => Sm ps.length fun a => t a * V a i
    have hx : ∀ b, b < r → dot m (fun i => U i b) x = 0 := fun b hb => by
      rw [dot_lin, ← ht b hb]
      exact Sm_congr fun a _ => Rat.mul_comm _ _
    have z : ∀ k, k < n → dot m (fun i => T i k) x = 0 := fun k hk => by
      have : ∀ i, i < m → T i k * x i = Sm r fun b => U i b * x i * E b k := fun i hi => by
        rw [hA i k hi hk, ← Sm_mulr]
        exact Sm_congr fun b _ => m3 _ _ _
      show Sm m _ = 0
      rw [Sm_congr this, Sm_swap]
      refine Sm_zero fun b hb => ?_
      rw [Sm_mulr]
      have := hx b hb
      unfold dot at this
      rw [this, Rat.zero_mul]
    have e1 : qf m (La.gram n T) x = 0 := by
      rw [gram_qf]
      exact Sm_zero fun k hk => by rw [z k hk, Rat.mul_zero]
    have hlx : ∀ a, a < ps.length → dot m (ps.getD a d0).2 x = t a := fun a ha => by
      rw [dot_lin, Sm_one (k := a) ha fun b hb hne => by rw [hV a b ha hb, if_neg fun e => hne e.symm, Rat.mul_zero], hV a a ha ha, if_pos rfl, Rat.mul_one]
    have e2 : 0 < qf m (La.gram n T) x := by
      rw [qfp]
      refine Sm_pos (k := j) (fun a ha => Rat.mul_nonneg (Rat.le_of_lt (hc a ha)) (sq_nonneg _)) hj ?_
      rw [hlx j hj]
      exact Rat.mul_pos (hc j hj) (sq_pos htj)
    grind
  · obtain ⟨t, ⟨j, hj, htj⟩, ht⟩ := kernel ps.length r (fun a b => dot m (ps.getD a d0).2 (fun i => W b i)) (by omega)
    let y : Vec := fun i => Sm r fun b => t b * W b i
    have hy : ∀ a, a < ps.length → dot m (ps.getD a d0).2 y = 0 := fun a ha => by
      rw [dot_lin, ← ht a ha]
      exact Sm_congr fun b _ => Rat.mul_comm _ _
    have e1 : qf m (La.gram n T) y = 0 := by
      rw [qfp]
      exact Sm_zero fun a ha => by rw [hy a ha, Rat.mul_zero, Rat.mul_zero]
    rw [gram_qf] at e1
    have z := Sm_sq0 e1
    have e2 : Sm r (fun b => t b * E b (pl j)) = 0 := by
      rw [← z (pl j) (hpl j hj)]
      show _ = Sm m _
      have : ∀ b, b < r → t b * E b (pl j) = Sm m fun i => T i (pl j) * (t b * W b i) := fun b hb => by
        rw [hE b _ hb (hpl j hj), ← Sm_mul]
        exact Sm_congr fun i _ => by grind
      rw [Sm_congr this, Sm_swap]
      exact Sm_congr fun i _ => by rw [← Sm_mul]
    rw [Sm_one (k := j) hj fun b hb hbj => by rw [hd b j hb hj, if_neg hbj, Rat.mul_zero], hd j j hj hj, if_pos rfl, Rat.mul_one] at e2
    exact htj e2
/-! minors in the middle -/
theorem Sy.sub {n k : Nat} {A : Mat} (sy : Sy n A) (hk : k ≤ n) : Sy k A := fun i j hi hj => sy i j (by omega) (by omega)
theorem signs_of {n p q : Nat} {A : Mat} (sy : Sy n A) (h : In n A p q) : Sgs n (Lp n A) p q := by
  obtain ⟨p', q', h1, h2⟩ := signs n A sy
  obtain ⟨rfl, rfl⟩ := h.uniq h1
  exact h2
/-- from one corner to the next -/
theorem In.step {k p q p' q' : Nat} {A : Mat} (sy : Sy (k + 1) A) (h : In k A p q) (h' : In (k + 1) A p' q') : p ≤ p' ∧ q ≤ q' ∧ p' ≤ p + 1 ∧ q' ≤ q + 1 :=
  In.less (g := k) (fun i j hi hj => sy i j hi hj) (by omega) h' (h.congr fun i j hi hj => by unfold held; rw [if_pos hi, if_pos hj])
theorem sg_cases (q : Nat) : sg q = if q % 2 = 0 then 1 else -1 := rfl
/-- Jacobi: as many below as the signs of the minors change -/
theorem jacobi {n : Nat} {A : Mat} (sy : Sy n A) (hD : ∀ k, k ≤ n → Lp k A ≠ 0) {p q : Nat} (h : In n A p q) : p + q = n ∧ q = ((List.range n).filter fun k => decide ((0 < Lp k A) ≠ (0 < Lp (k + 1) A))).length := by
  refine ⟨(signs_of sy h).eq (hD n (Nat.le_refl _)), ?_⟩
  induction n generalizing p q with
  | zero =>
    have := (signs_of sy h).le
    show q = 0
    omega
  | succ n ih =>
    obtain ⟨p0, q0, h0, s0⟩ := signs n A (sy.sub (by omega))
    have e0 := ih (sy.sub (by omega)) (fun k hk => hD k (by omega)) h0
    have st := In.step sy h0 h
    have s1 := signs_of sy h
    rw [List.range_succ, List.filter_append, List.length_append, ← e0]
    have d0 := hD n (by omega)
    have d1 := hD (n + 1) (by omega)
    have g0 := s0.sg d0
    have g1 := s1.sg d1
    have par : ∀ d q, d ≠ 0 → 0 < d * sg q → (0 < d ↔ q % 2 = 0) := fun d q hd hg => by
      rw [sg_cases] at hg
      by_cases z : q % 2 = 0
      · rw [if_pos z] at hg
        exact ⟨fun _ => z, fun _ => by grind⟩
      · rw [if_neg z] at hg
        exact ⟨fun _ => by grind, fun e => absurd e z⟩
    have k0 := par _ _ d0 g0
    have k1 := par _ _ d1 g1
    by_cases c : (0 < Lp n A) ≠ (0 < Lp (n + 1) A)
    · have : (List.filter (fun k => decide ((0 < Lp k A) ≠ (0 < Lp (k + 1) A))) [n]).length = 1 := by simp only [List.filter_cons, decide_eq_true c, if_true, List.filter_nil]; rfl
      rw [this]
      have : ¬ (q0 % 2 = 0 ↔ q % 2 = 0) := fun e => c (propext (k0.trans (e.trans k1.symm)))
      omega
    · have : (List.filter (fun k => decide ((0 < Lp k A) ≠ (0 < Lp (k + 1) A))) [n]).length = 0 := by simp only [List.filter_cons, decide_eq_false c, List.filter_nil]; rfl
      rw [this]
      have c' : (0 < Lp n A) = (0 < Lp (n + 1) A) := Classical.byContradiction c
      have : q0 % 2 = 0 ↔ q % 2 = 0 := by rw [← k0, ← k1, c']
      omega
/-- all minors above nought: all squares above nought -/
theorem above {n : Nat} {A : Mat} (sy : Sy n A) {p q : Nat} (h : In n A p q) : (∀ k, k ≤ n → 0 < Lp k A) ↔ (p = n ∧ q = 0) := by
  induction n generalizing p q with
  | zero =>
    have := (signs_of sy h).le
    refine ⟨fun _ => by omega, fun _ k hk => ?_⟩
    have : k = 0 := by omega
    subst this
    show (0 : Rat) < 1
    grind
  | succ n ih =>
    obtain ⟨p0, q0, h0, s0⟩ := signs n A (sy.sub (by omega))
    have e0 := ih (sy.sub (by omega)) h0
    have st := In.step sy h0 h
    have s1 := signs_of sy h
    constructor
    · intro hp
      obtain ⟨e1, e2⟩ := e0.mp fun k hk => hp k (by omega)
      have d1 := hp (n + 1) (Nat.le_refl _)
      have g1 := s1.sg (by grind)
      have l1 := s1.eq (by grind)
      have : q % 2 = 0 := Classical.byContradiction fun z => by
        rw [sg_cases, if_neg z] at g1
        grind
      omega
    · rintro ⟨e1, e2⟩ k hk
      have l0 := s0.le
      have z := e0.mpr (by omega)
      by_cases hk' : k ≤ n
      · exact z k hk'
      · have ek : k = n + 1 := by omega
        subst ek
        have dne : Lp (n + 1) A ≠ 0 := fun e => by have := s1.lt e; omega
        have g1 := s1.sg dne
        rw [sg_cases, if_pos (by omega)] at g1
        grind
end La
end

section
set_option linter.all false
set_option maxHeartbeats 1000000
/-! La10: products of tables (Kronecker). -/
namespace La
def kron (m : Nat) (A B : Mat) : Mat := fun i j => A (i / m) (j / m) * B (i % m) (j % m)
def ten (m : Nat) (l k : Vec) : Vec := fun i => l (i / m) * k (i % m)
def tens (m : Nat) (ps qs : List Sq) : List Sq := ps.flatMap fun p => qs.map fun q => (p.1 * q.1, ten m p.2 q.2)
theorem Sm_prod {n m : Nat} {f : Nat → Rat} : Sm (n * m) f = Sm n fun i => Sm m fun k => f (i * m + k) := by
  induction n with
  | zero => rw [Nat.zero_mul]; rfl
  | succ n ih =>
    rw [Nat.succ_mul, Sm_split, ih]
    rfl
theorem dot_ten {n m : Nat} {l k u v : Vec} : dot (n * m) (ten m l k) (ten m u v) = dot n l u * dot m k v := by
  unfold dot
  rw [Sm_prod, ← Sm_mulr]
  refine Sm_congr fun i _ => ?_
  rw [← Sm_mul]
  refine Sm_congr fun j hj => ?_
  have e1 : (i * m + j) / m = i := by
    rw [Nat.mul_comm, Nat.mul_add_div (by omega), Nat.div_eq_of_lt hj, Nat.add_zero]
  have e2 : (i * m + j) % m = j := by
    rw [Nat.mul_comm, Nat.mul_add_mod, Nat.mod_eq_of_lt hj]
  unfold ten
  rw [e1, e2]
  grind
theorem Ls_tens {m i j : Nat} : ∀ ps qs : List Sq, Ls (tens m ps qs) i j = Ls ps (i / m) (j / m) * Ls qs (i % m) (j % m)
  | [], qs => by show (0 : Rat) = Ls [] _ _ * _; rw [Ls_nil, Rat.zero_mul]
  | p :: ps, qs => by
    have ih := Ls_tens (m := m) (i := i) (j := j) ps qs
    show Ls ((qs.map fun q => (p.1 * q.1, ten m p.2 q.2)) ++ tens m ps qs) i j = _
    rw [Ls_append, ih, Ls_cons]
    have : Ls (qs.map fun q => (p.1 * q.1, ten m p.2 q.2)) i j = p.1 * p.2 (i / m) * p.2 (j / m) * Ls qs (i % m) (j % m) := by
      unfold Ls
      rw [List.map_map, Rat.mul_comm, ← lsum_mulr]
      refine lsum_congr fun q _ => ?_
      simp only [Function.comp, ten]
      grind
    rw [this]; grind
theorem cnt_tens {m : Nat} : ∀ ps qs : List Sq, (∀ s ∈ ps, s.1 ≠ 0) → (∀ s ∈ qs, s.1 ≠ 0) → posn (tens m ps qs) = posn ps * posn qs + negn ps * negn qs ∧ negn (tens m ps qs) = posn ps * negn qs + negn ps * posn qs
  | [], qs, _, _ => by
    show (0 : Nat) = 0 * _ + 0 * _ ∧ (0 : Nat) = 0 * _ + 0 * _
    omega
  | p :: ps, qs, hp, hq => by
    obtain ⟨i1, i2⟩ := cnt_tens (m := m) ps qs (fun s hs => hp s (List.mem_cons_of_mem _ hs)) hq
    have h0 := hp p (List.mem_cons_self ..)
    show posn ((qs.map fun q => (p.1 * q.1, ten m p.2 q.2)) ++ tens m ps qs) = _ ∧ negn ((qs.map fun q => (p.1 * q.1, ten m p.2 q.2)) ++ tens m ps qs) = _
    rw [posn_append, negn_append, i1, i2]
    have c1 : posn (p :: ps) = posn ps + (if 0 < p.1 then 1 else 0) := by
      unfold posn
      rw [List.countP_cons]
      by_cases z : 0 < p.1 <;> simp [z]
    have c2 : negn (p :: ps) = negn ps + (if 0 < p.1 then 0 else 1) := by
      unfold negn
      rw [List.countP_cons]
      by_cases z : 0 < p.1
      · have : ¬ p.1 < 0 := by grind
        simp [z, this]
      · have : p.1 < 0 := by grind
        simp [z, this]
    have mp : ∀ (pr : Sq → Bool), (qs.map fun q => (p.1 * q.1, ten m p.2 q.2)).countP pr = qs.countP fun q => pr (p.1 * q.1, ten m p.2 q.2) := fun pr => by
      rw [List.countP_map]; rfl
    have cc : ∀ (f g : Sq → Bool), (∀ q ∈ qs, f q = g q) → qs.countP f = qs.countP g := fun f g h => List.countP_congr fun q hq' => by rw [h q hq']
    rw [c1, c2]
    by_cases z : 0 < p.1
    · have d1 : posn (qs.map fun q => (p.1 * q.1, ten m p.2 q.2)) = posn qs := by
        unfold posn
        rw [mp]
        refine cc _ _ fun q hq' => ?_
        show decide (0 < p.1 * q.1) = decide (0 < q.1)
        rw [Bool.eq_iff_iff, decide_eq_true_eq, decide_eq_true_eq]
        exact ⟨fun h => Classical.byContradiction fun e => by have := Rat.mul_nonneg (a := p.1) (b := - q.1) (by grind) (by grind); grind, fun h => Rat.mul_pos z h⟩
      have d2 : negn (qs.map fun q => (p.1 * q.1, ten m p.2 q.2)) = negn qs := by
        unfold negn
        rw [mp]
        refine cc _ _ fun q hq' => ?_
        show decide (p.1 * q.1 < 0) = decide (q.1 < 0)
        rw [Bool.eq_iff_iff, decide_eq_true_eq, decide_eq_true_eq]
        exact ⟨fun h => Classical.byContradiction fun e => by have := Rat.mul_nonneg (a := p.1) (b := q.1) (by grind) (by grind); grind, fun h => by have := Rat.mul_pos (a := p.1) (b := - q.1) z (by grind); grind⟩
      rw [d1, d2, if_pos z, if_pos z]
      constructor
      · rw [Nat.add_mul, Nat.one_mul, Nat.add_zero]; omega
      · rw [Nat.add_mul, Nat.one_mul, Nat.add_zero]; omega
    · have zn : p.1 < 0 := by grind
      have d1 : posn (qs.map fun q => (p.1 * q.1, ten m p.2 q.2)) = negn qs := by
        unfold posn negn
        rw [mp]
        refine cc _ _ fun q hq' => ?_
        show decide (0 < p.1 * q.1) = decide (q.1 < 0)
        rw [Bool.eq_iff_iff, decide_eq_true_eq, decide_eq_true_eq]
        exact ⟨fun h => Classical.byContradiction fun e => by have := Rat.mul_nonneg (a := - p.1) (b := q.1) (by grind) (by grind); grind, fun h => by have := Rat.mul_pos (a := - p.1) (b := - q.1) (by grind) (by grind); grind⟩
      have d2 : negn (qs.map fun q => (p.1 * q.1, ten m p.2 q.2)) = posn qs := by
        unfold posn negn
        rw [mp]
        refine cc _ _ fun q hq' => ?_
        show decide (p.1 * q.1 < 0) = decide (0 < q.1)
        rw [Bool.eq_iff_iff, decide_eq_true_eq, decide_eq_true_eq]
        exact ⟨fun h => Classical.byContradiction fun e => by have := Rat.mul_nonneg (a := - p.1) (b := - q.1) (by grind) (by grind); grind, fun h => by have := Rat.mul_pos (a := - p.1) (b := q.1) (by grind) h; grind⟩
      rw [d1, d2, if_neg z, if_neg z]
      constructor
      · simp only [Nat.add_mul, Nat.one_mul, Nat.add_zero]; omega
      · simp only [Nat.add_mul, Nat.one_mul, Nat.add_zero]; omega
theorem tens_at {m : Nat} {qs : List Sq} : ∀ (ps : List Sq) (a b : Nat), a < ps.length → b < qs.length → ((tens m ps qs).getD (a * qs.length + b) d0).2 = ten m (ps.getD a d0).2 (qs.getD b d0).2
  | [], a, b, h, _ => by simp at h
  | p :: ps, 0, b, _, hb => by
    show (((qs.map fun q => (p.1 * q.1, ten m p.2 q.2)) ++ tens m ps qs).getD (0 * qs.length + b) d0).2 = _
    rw [Nat.zero_mul, Nat.zero_add, gA (by simpa using hb)]
    have h : b < (qs.map fun q => (p.1 * q.1, ten m p.2 q.2)).length := by simpa using hb
    rw [gD h, gD hb]
    simp
  | p :: ps, a + 1, b, ha, hb => by
    have ih := tens_at (m := m) ps a b (by simpa using ha) hb
    show (((qs.map fun q => (p.1 * q.1, ten m p.2 q.2)) ++ tens m ps qs).getD ((a + 1) * qs.length + b) d0).2 = _
    have e : (a + 1) * qs.length + b = (qs.map fun q => (p.1 * q.1, ten m p.2 q.2)).length + (a * qs.length + b) := by
      rw [List.length_map, Nat.succ_mul]; omega
    rw [e, gB, ih]
    simp
theorem tens_len {m : Nat} {qs : List Sq} : ∀ ps : List Sq, (tens m ps qs).length = ps.length * qs.length
  | [] => by show 0 = 0 * _; omega
  | p :: ps => by
    show ((qs.map fun q => (p.1 * q.1, ten m p.2 q.2)) ++ tens m ps qs).length = _
    rw [List.length_append, List.length_map, tens_len ps, List.length_cons, Nat.succ_mul]; omega
/-- Kronecker -/
theorem In.kron {n m p q r s : Nat} {A B : Mat} (hA : In n A p q) (hB : In m B r s) : In (n * m) (La.kron m A B) (p * r + q * s) (p * s + q * r) := by
  obtain ⟨ps, a1, ⟨V, hV⟩, a3, a4, a5⟩ := hA
  obtain ⟨qs, b1, ⟨W, hW⟩, b3, b4, b5⟩ := hB
  obtain ⟨c1, c2⟩ := cnt_tens (m := m) ps qs a3 b3
  refine ⟨tens m ps qs, fun i j hi hj => ?_, ⟨fun b => ten m (V (b / qs.length)) (W (b % qs.length)), fun x y hx hy => ?_⟩, fun t ht => ?_, by rw [c1, a4, a5, b4, b5], by rw [c2, a4, a5, b4, b5]⟩
  · have hm : 0 < m := by
      rcases Nat.eq_zero_or_pos m with z | z
      · rw [z, Nat.mul_zero] at hi; omega
      · exact z
    rw [Ls_tens]
    unfold La.kron
    rw [a1 _ _ (Nat.div_lt_of_lt_mul (by rw [Nat.mul_comm]; exact hi)) (Nat.div_lt_of_lt_mul (by rw [Nat.mul_comm]; exact hj)), b1 _ _ (Nat.mod_lt _ hm) (Nat.mod_lt _ hm)]
  · rw [tens_len] at hx hy
    have hq : 0 < qs.length := by
      rcases Nat.eq_zero_or_pos qs.length with z | z
      · rw [z, Nat.mul_zero] at hx; omega
      · exact z
    have x1 : x / qs.length < ps.length := Nat.div_lt_of_lt_mul (by rw [Nat.mul_comm]; exact hx)
    have y1 : y / qs.length < ps.length := Nat.div_lt_of_lt_mul (by rw [Nat.mul_comm]; exact hy)
    have x2 : x % qs.length < qs.length := Nat.mod_lt _ hq
    have y2 : y % qs.length < qs.length := Nat.mod_lt _ hq
    have ex : x = x / qs.length * qs.length + x % qs.length := by rw [Nat.mul_comm]; exact (Nat.div_add_mod _ _).symm
    have ey : y = y / qs.length * qs.length + y % qs.length := by rw [Nat.mul_comm]; exact (Nat.div_add_mod _ _).symm
    have e := tens_at (m := m) (qs := qs) ps _ _ x1 x2
    rw [← ex] at e
    rw [e, dot_ten, hV _ _ x1 y1, hW _ _ x2 y2]
    by_cases z : x = y
    · rw [if_pos z, if_pos (by rw [z]), if_pos (by rw [z])]; grind
    · rw [if_neg z]
      by_cases z1 : x / qs.length = y / qs.length
      · have z3 : ¬ (x % qs.length = y % qs.length) := fun z2 => z (by rw [z1, z2] at ex; exact ex.trans ey.symm)
        rw [if_neg z3, Rat.mul_zero]
      · rw [if_neg z1, Rat.zero_mul]
  · obtain ⟨u, hu, ht⟩ := List.mem_flatMap.mp ht
    obtain ⟨v, hv, rfl⟩ := List.mem_map.mp ht
    intro z
    rcases Rat.mul_eq_zero.mp z with e | e
    · exact a3 u hu e
    · exact b3 v hv e
end La
end

section
set_option linter.all false
/-! La11: a table whose determinant is not 0 reaches every column; sizes of ratios. -/
namespace La
theorem solve {n : Nat} {C : Mat} (h : Lp n C ≠ 0) (y : Vec) : ∃ x : Vec, ∀ i, i < n → Sm n (fun c => C i c * x c) = y i := by
  obtain ⟨t, ⟨j, hj, tj⟩, ht⟩ := kernel n (n + 1) (fun i c => if c < n then C i c else - y i) (by omega)
  have e : ∀ i, i < n → Sm n (fun c => C i c * t c) - y i * t n = 0 := fun i hi => by
    have := ht i hi
    simp only [Sm] at this
    rw [if_neg (by omega : ¬ n < n), Sm_congr (g := fun c => C i c * t c) fun c hc => by rw [if_pos hc]] at this
    grind
  have tn : t n ≠ 0 := fun z => h (by
    have jn : j < n := by
      rcases Nat.lt_or_ge j n with g | g
      · exact g
      · exact absurd (by rw [show j = n by omega]; exact z) tj
    exact Lp_depc t jn tj fun i hi => by have := e i hi; rw [z] at this; grind)
  refine ⟨fun c => t c * (t n)⁻¹, fun i hi => ?_⟩
  have e1 : Sm n (fun c => C i c * (t c * (t n)⁻¹)) = Sm n (fun c => C i c * t c) * (t n)⁻¹ := by
    rw [← Sm_mulr]; exact Sm_congr fun c hc => by grind
  rw [e1]
  have e2 : Sm n (fun c => C i c * t c) = y i * t n := by have := e i hi; grind
  rw [e2, Rat.mul_assoc, Rat.mul_inv_cancel _ tn, Rat.mul_one]
/-- sizes -/
def Bz (k : Nat) (x : Rat) : Prop := x.num.natAbs < 2 ^ k ∧ x.den < 2 ^ k
theorem Bz.mono {k l : Nat} {x : Rat} (h : Bz k x) (e : k ≤ l) : Bz l x :=
  ⟨Nat.lt_of_lt_of_le h.1 (Nat.pow_le_pow_right (by omega) e), Nat.lt_of_lt_of_le h.2 (Nat.pow_le_pow_right (by omega) e)⟩
theorem dv_le (n : Int) (d : Nat) (hd : d ≠ 0) : (Rat.normalize n d hd).num.natAbs ≤ n.natAbs ∧ (Rat.normalize n d hd).den ≤ d := by
  rw [Rat.normalize_eq]
  constructor
  · show (n / (n.natAbs.gcd d : Int)).natAbs ≤ _
    exact Int.natAbs_ediv_le_natAbs _ _
  · exact Nat.div_le_self _ _
theorem Bz.mul {k l : Nat} {x y : Rat} (h : Bz k x) (g : Bz l y) : Bz (k + l) (x * y) := by
  rw [Rat.mul_def]
  obtain ⟨a, b⟩ := dv_le (x.num * y.num) (x.den * y.den) (Nat.mul_ne_zero x.den_nz y.den_nz)
  refine ⟨Nat.lt_of_le_of_lt a ?_, Nat.lt_of_le_of_lt b ?_⟩
  · rw [Int.natAbs_mul, Nat.pow_add]; exact Nat.mul_lt_mul'' h.1 g.1
  · rw [Nat.pow_add]; exact Nat.mul_lt_mul'' h.2 g.2
theorem Bz.add {k l : Nat} {x y : Rat} (h : Bz k x) (g : Bz l y) : Bz (k + l + 1) (x + y) := by
  rw [Rat.add_def]
  obtain ⟨a, b⟩ := dv_le (x.num * y.den + y.num * x.den) (x.den * y.den) (Nat.mul_ne_zero x.den_nz y.den_nz)
  have e : 2 ^ (k + l + 1) = 2 ^ k * 2 ^ l + 2 ^ k * 2 ^ l := by rw [Nat.pow_add, Nat.pow_add]; omega
  refine ⟨Nat.lt_of_le_of_lt a ?_, Nat.lt_of_le_of_lt b ?_⟩
  · have h1 := Nat.mul_lt_mul'' h.1 g.2
    have h2 := Nat.mul_lt_mul'' g.1 h.2
    have h3 := Int.natAbs_add_le (x.num * y.den) (y.num * x.den)
    rw [Int.natAbs_mul, Int.natAbs_mul] at h3
    simp only [Int.natAbs_natCast] at h3
    rw [Nat.mul_comm (2 ^ l)] at h2
    omega
  · have := Nat.mul_lt_mul'' h.2 g.2; omega
theorem Bz.neg {k : Nat} {x : Rat} (h : Bz k x) : Bz k (-x) := ⟨by rw [Rat.neg_num, Int.natAbs_neg]; exact h.1, h.2⟩
theorem Bz.sub {k l : Nat} {x y : Rat} (h : Bz k x) (g : Bz l y) : Bz (k + l + 1) (x - y) := by
  rw [Rat.sub_eq_add_neg]; exact h.add g.neg
theorem Bz.inv {k : Nat} {x : Rat} (h : Bz k x) (h0 : x ≠ 0) : Bz k x⁻¹ := by
  refine ⟨?_, ?_⟩
  · rw [Rat.num_inv, Int.natAbs_mul]
    have : x.num.sign.natAbs ≤ 1 := by rcases Int.lt_trichotomy x.num 0 with a | a | a <;> simp [Int.sign_eq_neg_one_of_neg, Int.sign_eq_one_of_pos, a]
    have := Nat.mul_le_mul_right x.den this
    have := h.2
    simp only [Int.natAbs_natCast]; omega
  · rw [Rat.den_inv]
    rw [if_neg (fun z => h0 (Rat.num_eq_zero.mp z))]; exact h.1
theorem Bz.div {k l : Nat} {x y : Rat} (h : Bz k x) (g : Bz l y) (y0 : y ≠ 0) : Bz (k + l) (x / y) := by
  rw [Rat.div_def]; exact h.mul (g.inv y0)
theorem Bz.int {k : Nat} {z : Int} (h : z.natAbs < 2 ^ k) (hk : 0 < k) : Bz k (z : Rat) := ⟨h, by show 1 < _; exact Nat.one_lt_two_pow (by omega)⟩
end La
end

section
set_option linter.all false
/-! La12: a step of the elimination. -/
namespace La
theorem Lp_elim {m : Nat} {A : Mat} (h : A 0 0 ≠ 0) : Lp (m + 1) A = A 0 0 * Lp m (fun a b => A (a + 1) (b + 1) - A (a + 1) 0 / A 0 0 * A 0 (b + 1)) := by
  have e := Lp_low (n := m + 1) (m := 1) (A := A) (fun i _ => - (A i 0 / A 0 0)) (by omega)
  rw [← e, show m + 1 = 1 + m by omega, Lp_block 1 m ?_, Lp_one1]
  · congr 1
    refine Lp_congr m fun i j hi hj => ?_
    show (if 1 + i < 1 then _ else A (1 + i) (1 + j) + Sm 1 fun s => -(A (1 + i) 0 / A 0 0) * A s (1 + j)) = _
    rw [if_neg (by omega), Nat.add_comm 1 i, Nat.add_comm 1 j]
    simp only [Sm]; grind
  · intro i j hi hj hk
    have : j = 0 := by omega
    subst this
    show (if i < 1 then _ else A i 0 + Sm 1 fun s => -(A i 0 / A 0 0) * A s 0) = 0
    rw [if_neg (by omega)]
    simp only [Sm]
    rw [Rat.div_def]
    have := Rat.mul_inv_cancel _ h
    grind
theorem Lp_col0 {m : Nat} {A : Mat} (h : ∀ i, i < m + 1 → A i 0 = 0) : Lp (m + 1) A = 0 := by
  refine Lp_depc (fun c => if c = 0 then 1 else 0) (r := 0) (by omega) (by simp) fun i hi => ?_
  rw [Sm_one (k := 0) (by omega) fun c hc h0 => by rw [if_neg h0, Rat.mul_zero], h i hi, Rat.zero_mul]
end La
end

section
set_option linter.all false
set_option maxHeartbeats 1000000
/-! La13: stairs of a table. -/
namespace La
theorem sb0 (a : Rat) : a - 0 = a := by grind
def Spn (m n : Nat) (R : Mat) (v : Vec) : Prop := ∃ c : Vec, ∀ j, j < n → v j = Sm m fun b => c b * R b j
theorem Spn.row {m n i : Nat} {R : Mat} (h : i < m) : Spn m n R (R i) := ⟨fun b => if b = i then 1 else 0, fun j hj => by
  rw [Sm_one (k := i) h fun b _ hb => by simp only [if_neg hb, Rat.zero_mul]]
  simp only [if_true, Rat.one_mul]⟩
theorem Spn.lin {m n : Nat} {R : Mat} {u v : Vec} (s t : Rat) (h : Spn m n R u) (g : Spn m n R v) : Spn m n R (fun j => s * u j + t * v j) := by
  obtain ⟨c, hc⟩ := h
  obtain ⟨d, hd⟩ := g
  exact ⟨fun b => s * c b + t * d b, fun j hj => by
    show s * u j + t * v j = _
    rw [hc j hj, hd j hj, ← Sm_mul, ← Sm_mul, ← Sm_add]
    exact Sm_congr fun b _ => by grind⟩
theorem Spn.congr {m n : Nat} {R : Mat} {u v : Vec} (h : Spn m n R u) (e : ∀ j, j < n → v j = u j) : Spn m n R v := by
  obtain ⟨c, hc⟩ := h
  exact ⟨c, fun j hj => by rw [e j hj, hc j hj]⟩
theorem Spn.all {m l n : Nat} {R V : Mat} (g : ∀ a, a < m → Spn l n R (V a)) : ∃ d : Mat, ∀ a j, a < m → j < n → V a j = Sm l fun b => d a b * R b j := by
  refine ⟨fun a => if h : a < m then Classical.choose (g a h) else fun _ => 0, fun a j ha hj => ?_⟩
  have := Classical.choose_spec (g a ha) j hj
  simp only [dif_pos ha]
  exact this
theorem Spn.trans {m l n : Nat} {R V : Mat} {u : Vec} (h : Spn m n V u) (g : ∀ a, a < m → Spn l n R (V a)) : Spn l n R u := by
  obtain ⟨c, hc⟩ := h
  obtain ⟨d, hd⟩ := Spn.all g
  refine ⟨fun b => Sm m fun a => c a * d a b, fun j hj => ?_⟩
  rw [hc j hj, Sm_congr (g := fun a => Sm l fun b => c a * d a b * R b j) fun a ha => by
    show _ = Sm l _
    rw [hd a j ha hj, ← Sm_mul]
    exact Sm_congr fun b _ => (Rat.mul_assoc _ _ _).symm]
  rw [Sm_swap]
  exact Sm_congr fun b _ => Sm_mulr
/-- the walk to the stairs, ahead of column k, r rows led -/
structure EI (m n k r : Nat) (T R : Mat) (p : Nat → Nat) : Prop where
  rm : r ≤ m
  up : ∀ a, a < m → Spn m n T (R a)
  dn : ∀ a, a < m → Spn m n R (T a)
  pk : ∀ b, b < r → p b < k
  inc : ∀ a b, a < b → b < r → p a < p b
  dl : ∀ a b, a < m → b < r → R a (p b) = if a = b then 1 else 0
  z : ∀ a j, r ≤ a → a < m → j < k → R a j = 0
  z2 : ∀ b j, b < r → j < p b → R b j = 0
theorem EI.init {m n : Nat} {T : Mat} {p : Nat → Nat} : EI m n 0 0 T T p :=
  ⟨Nat.zero_le _, fun _ h => Spn.row h, fun _ h => Spn.row h, fun b h => by omega, fun a b _ h => by omega, fun a b _ h => by omega, fun a j _ _ h => by omega, fun b j h => by omega⟩
theorem EI.ge {m n k r : Nat} {T R : Mat} {p : Nat → Nat} (h : EI m n k r T R p) : ∀ b, b < r → b ≤ p b
  | 0, _ => Nat.zero_le _
  | b + 1, hb => by
    have := h.ge b (by omega)
    have := h.inc b (b + 1) (by omega) hb
    omega
theorem EI.rk {m n k r : Nat} {T R : Mat} {p : Nat → Nat} (h : EI m n k r T R p) : r ≤ k := by
  cases r with
  | zero => omega
  | succ r =>
    have := h.ge r (by omega)
    have := h.pk r (by omega)
    omega
theorem EI.none {m n k r : Nat} {T R : Mat} {p : Nat → Nat} (h : EI m n k r T R p) (z : ∀ a, r ≤ a → a < m → R a k = 0) : EI m n (k + 1) r T R p :=
  ⟨h.rm, h.up, h.dn, fun b hb => by have := h.pk b hb; omega, h.inc, h.dl, fun a j h1 h2 h3 => by
    by_cases e : j = k
    · rw [e]; exact z a h1 h2
    · exact h.z a j h1 h2 (by omega), h.z2⟩
theorem EI.step {m n k r i : Nat} {T R V : Mat} {p q : Nat → Nat} (h : EI m n k r T R p) (hk : k < n) (hi : r ≤ i) (im : i < m) (l0 : R i k ≠ 0) (hV : ∀ a j, a < m → j < n → V a j = if a = r then R i j / R i k else (if a = i then R r j else R a j) - (if a = i then R r k else R a k) * (R i j / R i k)) (hq : ∀ b, q b = if b = r then k else p b) : EI m n (k + 1) (r + 1) T V q := by
  have rm : r < m := by omega
  have ll : R i k * (R i k)⁻¹ = 1 := Rat.mul_inv_cancel _ l0
  have sr : ∀ a, a < m → Spn m n R (fun j => if a = i then R r j else R a j) := fun a ha => by
    by_cases e : a = i
    · exact (Spn.row rm).congr fun j _ => if_pos e
    · exact (Spn.row ha).congr fun j _ => if_neg e
  have q1 : ∀ b, b < r → q b = p b := fun b hb => by rw [hq, if_neg (by omega)]
  have q2 : q r = k := by rw [hq, if_pos rfl]
  have Vr : ∀ j, j < n → V r j = R i j / R i k := fun j hj => by rw [hV r j rm hj, if_pos rfl]
  have Va : ∀ a j, a < m → a ≠ r → j < n → V a j = (if a = i then R r j else R a j) - (if a = i then R r k else R a k) * (R i j / R i k) := fun a j ha e hj => by rw [hV a j ha hj, if_neg e]
  have pn : ∀ b, b < r → p b < n := fun b hb => Nat.lt_trans (h.pk b hb) hk
  have ip : ∀ b, b < r → R i (p b) / R i k = 0 := fun b hb => by rw [h.dl i b im hb, if_neg (by omega), Rat.div_def, Rat.zero_mul]
  have i0 : ∀ j, j < k → R i j / R i k = 0 := fun j hj => by rw [h.z i j hi im hj, Rat.div_def, Rat.zero_mul]
  have ik : R i k / R i k = 1 := by rw [Rat.div_def]; exact ll
  refine ⟨rm, fun a ha => ?_, fun a ha => ?_, fun b hb => ?_, fun a b hab hb => ?_, fun a b ha hb => ?_, fun a j h1 h2 h3 => ?_, fun b j hb hj => ?_⟩
  · refine Spn.trans ?_ h.up
    by_cases e : a = r
    · refine ((Spn.row (R := R) im).lin (1 / R i k) 0 (Spn.row (R := R) im)).congr fun j hj => ?_
      rw [e, Vr j hj, Rat.div_def, Rat.div_def]; grind
    · refine ((sr a ha).lin 1 (- ((if a = i then R r k else R a k) / R i k)) (Spn.row (R := R) im)).congr fun j hj => ?_
      rw [Va a j ha e hj, Rat.div_def, Rat.div_def]; grind
  · refine Spn.trans (h.dn a ha) fun c hc => ?_
    by_cases e : c = i
    · subst e
      refine ((Spn.row (R := V) rm).lin (R c k) 0 (Spn.row (R := V) rm)).congr fun j hj => ?_
      rw [Vr j hj, Rat.div_def]; grind
    · by_cases e2 : c = r
      · subst e2
        refine ((Spn.row (R := V) im).lin 1 (R c k) (Spn.row (R := V) rm)).congr fun j hj => ?_
        rw [Vr j hj, Va i j im (fun z => e z.symm) hj, if_pos rfl, if_pos rfl]; grind
      · refine ((Spn.row (R := V) hc).lin 1 (R c k) (Spn.row (R := V) rm)).congr fun j hj => ?_
        rw [Vr j hj, Va c j hc e2 hj, if_neg e, if_neg e]; grind
  · by_cases e : b = r
    · rw [e, q2]; omega
    · rw [q1 b (by omega)]; have := h.pk b (by omega); omega
  · rw [q1 a (by omega)]
    by_cases e : b = r
    · rw [e, q2]; exact h.pk a (by omega)
    · rw [q1 b (by omega)]; exact h.inc a b hab (by omega)
  · by_cases e : b = r
    · subst e
      rw [q2]
      by_cases e2 : a = b
      · rw [e2, Vr k hk, if_pos rfl, ik]
      · rw [Va a k ha e2 hk, if_neg e2, ik]; grind
    · have hb' : b < r := by omega
      rw [q1 b hb']
      by_cases e2 : a = r
      · rw [e2, Vr _ (pn b hb'), ip b hb', if_neg (fun z => e z.symm)]
      · rw [Va a _ ha e2 (pn b hb'), ip b hb', Rat.mul_zero, sb0, h.dl r b rm hb', h.dl a b ha hb']
        by_cases e3 : a = i
        · rw [if_pos e3, if_neg (by omega), if_neg (by omega)]
        · rw [if_neg e3]
  · have jn : j < n := by omega
    rw [Va a j h2 (by omega) jn]
    by_cases e : j = k
    · subst e
      rw [ik]; grind
    · rw [i0 j (by omega), h.z r j (Nat.le_refl _) rm (by omega), h.z a j (by omega) h2 (by omega)]; grind
  · by_cases e : b = r
    · subst e
      rw [q2] at hj
      rw [Vr j (by omega), i0 j hj]
    · have hb' : b < r := by omega
      rw [q1 b hb'] at hj
      have := h.pk b hb'
      rw [Va b j (by omega) e (by omega), i0 j (by omega), if_neg (by omega), h.z2 b j hb' hj]; grind
theorem Sm_cut {m r : Nat} {f : Nat → Rat} (h : r ≤ m) (z : ∀ a, r ≤ a → a < m → f a = 0) : Sm m f = Sm r f := by
  rw [show m = r + (m - r) by omega, Sm_split, Sm_zero (n := m - r) fun i hi => z (r + i) (by omega) (by omega), Rat.add_zero]
theorem EI.rank {m n r : Nat} {T R : Mat} {p : Nat → Nat} (h : EI m n n r T R p) : Rk m n T r := by
  obtain ⟨U, hU⟩ := Spn.all h.dn
  obtain ⟨W, hW⟩ := Spn.all h.up
  have rm := h.rm
  exact ⟨U, R, W, p, fun i j hi hj => by rw [hU i j hi hj, Sm_cut rm fun a h1 h2 => by rw [h.z a j h1 h2 hj, Rat.mul_zero]], fun b j hb hj => hW b j (by omega) hj, h.pk, fun a b ha hb => h.dl a b (by omega) hb⟩
/-- c columns without dependence are the first places -/
theorem EI.first {m n r c : Nat} {T R : Mat} {p : Nat → Nat} (h : EI m n n r T R p) (hc : c ≤ n) (inj : ∀ x : Vec, (∀ i, i < m → Sm c (fun j => T i j * x j) = 0) → ∀ j, j < c → x j = 0) : ∀ b, b < c → b < r ∧ p b = b := by
  intro b
  induction b using Nat.strongRecOn with
  | ind b ih =>
    intro hb
    refine Classical.byContradiction fun hn => ?_
    have ih' : ∀ b', b' < b → b' < r ∧ p b' = b' := fun b' h1 => ih b' h1 (by omega)
    have z : ∀ a, b ≤ a → a < m → R a b = 0 := fun a h1 h2 => by
      by_cases e : a < r
      · have pb : b < p b := by
          have := h.ge b (by omega)
          rcases Nat.lt_or_ge b (p b) with g | g
          · exact g
          · exact absurd ⟨by omega, by omega⟩ hn
        have : p b ≤ p a := by
          by_cases e2 : b = a
          · rw [e2]; exact Nat.le_refl _
          · exact Nat.le_of_lt (h.inc b a (by omega) e)
        exact h.z2 a b e (by omega)
      · exact h.z a b (by omega) h2 (by omega)
    obtain ⟨U, hU⟩ := Spn.all h.dn
    have rx : ∀ a, a < m → Sm c (fun j => R a j * ((if j = b then 1 else 0) - if j < b then R j b else 0)) = 0 := fun a ha => by
      rw [Sm_congr (g := fun j => R a j * (if j = b then 1 else 0) - R a j * (if j < b then R j b else 0)) fun j _ => by grind, Sm_sub, Sm_one (k := b) hb fun j _ e => by rw [if_neg e, Rat.mul_zero], if_pos rfl]
      by_cases e : a < b
      · rw [Sm_one (k := a) (by omega) fun j hj e2 => by
          by_cases e3 : j < b
          · have := h.dl a j ha (ih' j e3).1
            rw [(ih' j e3).2, if_neg (fun z => e2 z.symm)] at this
            rw [this, Rat.zero_mul]
          · rw [if_neg e3, Rat.mul_zero], if_pos e]
        have := h.dl a a ha (ih' a e).1
        rw [(ih' a e).2, if_pos rfl] at this
        rw [this]; grind
      · rw [z a (by omega) ha, Sm_zero fun j hj => by
          by_cases e3 : j < b
          · have := h.dl a j ha (ih' j e3).1
            rw [(ih' j e3).2, if_neg (by omega)] at this
            rw [this, Rat.zero_mul]
          · rw [if_neg e3, Rat.mul_zero]]
        grind
    have := inj (fun j => (if j = b then 1 else 0) - if j < b then R j b else 0) (fun i hi => by
      rw [Sm_congr (g := fun j => Sm m fun a => U i a * (R a j * ((if j = b then 1 else 0) - if j < b then R j b else 0))) fun j hj => by
        show _ = Sm m _
        rw [hU i j hi (by omega), ← Sm_mulr]
        exact Sm_congr fun a _ => Rat.mul_assoc _ _ _]
      rw [Sm_swap]
      exact Sm_zero fun a ha => by rw [Sm_mul, rx a ha, Rat.mul_zero]) b hb
    simp [sb0] at this
/-- beside the unit table: the inverse -/
theorem EI.inv {n r : Nat} {T R A : Mat} {p : Nat → Nat} (h : EI n (n + n) (n + n) r T R p) (hA : ∀ i j, i < n → j < n → T i j = A i j) (hI : ∀ i j, i < n → j < n → T i (n + j) = if i = j then 1 else 0) (d : Lp n A ≠ 0) : r = n ∧ (∀ b, b < n → p b = b) ∧ ∀ i j, i < n → j < n → Sm n (fun b => A i b * R b (n + j)) = if i = j then 1 else 0 := by
  have f := h.first (c := n) (by omega) fun x hx j hj => Classical.byContradiction fun e => d (Lp_depc x hj e fun i hi => by
    rw [← hx i hi]; exact Sm_congr fun c hc => by rw [hA i c hi hc])
  have rn : r = n := by
    refine Nat.le_antisymm h.rm (Classical.byContradiction fun g => ?_)
    have := (f r (by omega)).1
    omega
  obtain ⟨U, hU⟩ := Spn.all h.dn
  refine ⟨rn, fun b hb => (f b hb).2, fun i j hi hj => ?_⟩
  rw [← hI i j hi hj, hU i (n + j) hi (by omega)]
  refine Sm_congr fun b hb => ?_
  rw [← hA i b hi hb, hU i b hi (by omega), Sm_one (k := b) hb fun a ha e => by
    have := h.dl a b ha (f b hb).1
    rw [(f b hb).2, if_neg e] at this
    rw [this, Rat.mul_zero]]
  have := h.dl b b hb (f b hb).1
  rw [(f b hb).2, if_pos rfl] at this
  rw [this, Rat.mul_one]
end La
end

section
set_option linter.all false
set_option maxHeartbeats 1000000
/-! La14: squares taken off one by one; whole numbers over one number. -/
namespace La
theorem Ind.le {n : Nat} {ps : List Sq} (h : Ind n ps) : ps.length ≤ n := by
  refine Classical.byContradiction fun g => ?_
  obtain ⟨V, hV⟩ := h
  obtain ⟨t, ⟨j, hj, tj⟩, ht⟩ := kernel n ps.length (fun i a => (ps.getD a d0).2 i) (by omega)
  have e : Sm n (fun i => Sm ps.length (fun a => (ps.getD a d0).2 i * t a) * V j i) = t j := by
    rw [Sm_congr (g := fun i => Sm ps.length fun a => t a * ((ps.getD a d0).2 i * V j i)) fun i _ => by
      show _ = Sm _ _
      rw [← Sm_mulr]
      exact Sm_congr fun a _ => by grind]
    rw [Sm_swap, Sm_congr (g := fun a => t a * dot n (ps.getD a d0).2 (V j)) fun a _ => Sm_mul, Sm_one (k := j) hj fun a ha e => by rw [hV a j ha hj, if_neg e, Rat.mul_zero], hV j j hj hj, if_pos rfl, Rat.mul_one]
  rw [Sm_zero fun i hi => by rw [ht i hi, Rat.zero_mul]] at e
  exact tj e.symm
theorem dot_sub {n : Nat} {l x y : Vec} : dot n l (fun i => x i - y i) = dot n l x - dot n l y := by
  unfold dot
  rw [← Sm_sub]
  exact Sm_congr fun i _ => by grind
/-- squares taken off: what is left, the places led -/
structure SQ (n : Nat) (A : Mat) (ps : List Sq) (R : Mat) : Prop where
  dec : ∀ i j, i < n → j < n → A i j = Ls ps i j + R i j
  sy : Sy n R
  ne : ∀ s ∈ ps, s.1 ≠ 0
  ex : ∃ V : Nat → Vec, (∀ b i, b < ps.length → i < n → V b i ≠ 0 → ∀ j, j < n → R i j = 0) ∧ ∀ a b, a < ps.length → b < ps.length → dot n (ps.getD a d0).2 (V b) = if a = b then 1 else 0
theorem SQ.ind {n : Nat} {A R : Mat} {ps : List Sq} (h : SQ n A ps R) : Ind n ps := by
  obtain ⟨V, _, h⟩ := h.ex
  exact ⟨V, h⟩
theorem SQ.init {n : Nat} {A : Mat} (sy : Sy n A) : SQ n A [] A := ⟨fun i j _ _ => by rw [Ls_nil, Rat.zero_add], sy, fun s hs => by simp at hs, fun _ _ => 0, fun b i hb => by simp at hb, fun a b ha => by simp at ha⟩
theorem SQ.app {n : Nat} {A R R' : Mat} {ps : List Sq} (h : SQ n A ps R) (qs : List Sq) (sy : Sy n R') (e : ∀ i j, i < n → j < n → R i j = Ls qs i j + R' i j) (ne : ∀ s ∈ qs, s.1 ≠ 0) (W : Nat → Vec)
    (w : ∀ b i, b < qs.length → i < n → W b i ≠ 0 → ∀ j, j < n → R' i j = 0)
    (zs : ∀ a i, a < qs.length → i < n → (∀ j, j < n → R i j = 0) → (qs.getD a d0).2 i = 0)
    (zr : ∀ i, i < n → (∀ j, j < n → R i j = 0) → ∀ j, j < n → R' i j = 0)
    (dl : ∀ a b, a < qs.length → b < qs.length → dot n (qs.getD a d0).2 (W b) = if a = b then 1 else 0) : SQ n A (ps ++ qs) R' := by
  obtain ⟨V, v1, v2⟩ := h.ex
  refine ⟨fun i j hi hj => by rw [h.dec i j hi hj, e i j hi hj, Ls_append, Rat.add_assoc], sy, fun s hs => ?_, ?_⟩
  · rcases List.mem_append.mp hs with g | g
    · exact h.ne s g
    · exact ne s g
  · have qv : ∀ a b, a < qs.length → b < ps.length → dot n (qs.getD a d0).2 (V b) = 0 := fun a b ha hb => dot_zero fun i hi => by
      by_cases z : V b i = 0
      · rw [z, Rat.mul_zero]
      · rw [zs a i ha hi (v1 b i hb hi z), Rat.zero_mul]
    let t : Nat → Nat → Rat := fun b c => dot n (ps.getD c d0).2 (W b)
    refine ⟨fun b => if b < ps.length then V b else fun i => W (b - ps.length) i - Sm ps.length (fun c => t (b - ps.length) c * V c i), fun b i hb hi hz => ?_, fun a b ha hb => ?_⟩
    · rw [List.length_append] at hb
      by_cases g : b < ps.length
      · simp only [if_pos g] at hz
        exact zr i hi (v1 b i g hi hz)
      · simp only [if_neg g] at hz
        by_cases g2 : W (b - ps.length) i = 0
        · rw [g2] at hz
          have : ∃ c, c < ps.length ∧ V c i ≠ 0 := Classical.byContradiction fun k => hz (by
            rw [Sm_zero fun c hc => by
              have : V c i = 0 := Classical.byContradiction fun k2 => k ⟨c, hc, k2⟩
              rw [this, Rat.mul_zero]]
            grind)
          obtain ⟨c, hc, hv⟩ := this
          exact zr i hi (v1 c i hc hi hv)
        · exact w _ i (by omega) hi g2
    · rw [List.length_append] at ha hb
      have cs : ∀ a, a < ps.length + qs.length → (a < ps.length ∧ (ps ++ qs).getD a d0 = ps.getD a d0) ∨ (ps.length ≤ a ∧ a - ps.length < qs.length ∧ (ps ++ qs).getD a d0 = qs.getD (a - ps.length) d0) := fun a ha => by
        by_cases g : a < ps.length
        · exact .inl ⟨g, gA g⟩
        · refine .inr ⟨by omega, by omega, ?_⟩
          have := gB (l := ps) (m := qs) (a := a - ps.length) (d := d0)
          rwa [show ps.length + (a - ps.length) = a by omega] at this
      by_cases g : b < ps.length
      · simp only [if_pos g]
        rcases cs a ha with ⟨h1, h2⟩ | ⟨h1, h3, h2⟩
        · rw [h2]; exact v2 a b h1 g
        · rw [h2, qv _ b h3 g, if_neg (by omega)]
      · simp only [if_neg g]
        rw [dot_sub, dot_lin]
        rcases cs a ha with ⟨h1, h2⟩ | ⟨h1, h3, h2⟩
        · rw [h2, Sm_one (k := a) h1 fun c hc k => by rw [v2 a c h1 hc, if_neg (fun z => k z.symm), Rat.mul_zero], v2 a a h1 h1, if_pos rfl, if_neg (by omega), Rat.mul_one]
          show t _ _ - t _ _ = 0
          grind
        · rw [h2, Sm_zero fun c hc => by rw [qv _ c h3 hc, Rat.mul_zero], dl _ _ h3 (by omega), sb0]
          by_cases k : a = b
          · rw [if_pos (by omega), if_pos k]
          · rw [if_neg (by omega), if_neg k]
def un (k : Nat) : Vec := fun i => if i = k then 1 else 0
theorem dot_un {n k : Nat} {l : Vec} (h : k < n) : dot n l (un k) = l k := by
  unfold dot un
  rw [Sm_one (k := k) h fun i _ e => by rw [if_neg e, Rat.mul_zero], if_pos rfl, Rat.mul_one]
theorem SQ.one {n k : Nat} {A R R' : Mat} {ps : List Sq} (h : SQ n A ps R) (hk : k < n) (l0 : R k k ≠ 0) {l : Vec} (hl : ∀ i, i < n → l i = R k i / R k k) (hR : ∀ i j, i < n → j < n → R' i j = R i j - R k k * l i * l j) : SQ n A (ps ++ [(R k k, l)]) R' := by
  have ll : R k k * (R k k)⁻¹ = 1 := Rat.mul_inv_cancel _ l0
  have lk : l k = 1 := by rw [hl k hk, Rat.div_def]; exact ll
  have row : ∀ j, j < n → R' k j = 0 := fun j hj => by rw [hR k j hk hj, lk, hl j hj, Rat.div_def]; grind
  refine h.app _ (fun i j hi hj => by rw [hR i j hi hj, hR j i hj hi, h.sy i j hi hj]; grind) (fun i j hi hj => by rw [hR i j hi hj, Ls_cons, Ls_nil]; grind) (fun s hs => by simp at hs; rw [hs]; exact l0) (fun _ => un k) (fun b i hb hi hz j hj => ?_) (fun a i ha hi hz => ?_) (fun i hi hz j hj => ?_) (fun a b ha hb => ?_)
  · by_cases g : i = k
    · rw [g]; exact row j hj
    · exact absurd (if_neg g) hz
  · have : a = 0 := by simp at ha; omega
    subst this
    show l i = 0
    rw [hl i hi, ← h.sy i k hi hk, hz k hk, Rat.div_def, Rat.zero_mul]
  · rw [hR i j hi hj, hz j hj, hl i hi, ← h.sy i k hi hk, hz k hk, Rat.div_def]; grind
  · have : a = 0 := by simp at ha; omega
    subst this
    have : b = 0 := by simp at hb; omega
    subst this
    rw [dot_un hk]; exact lk
theorem SQ.two {n i j : Nat} {A R R' : Mat} {ps : List Sq} {f g : Vec} (h : SQ n A ps R) (hi : i < n) (hj : j < n) (d : ∀ k, k < n → R k k = 0) (l0 : R i j ≠ 0) (hf : ∀ k, k < n → f k = (R i k + R j k) / R i j) (hg : ∀ k, k < n → g k = (R i k - R j k) / R i j) (hR : ∀ a b, a < n → b < n → R' a b = R a b - R i j / 2 * f a * f b - (- (R i j / 2)) * g a * g b) : SQ n A (ps ++ [(R i j / 2, f), (- (R i j / 2), g)]) R' := by
  have ll : R i j * (R i j)⁻¹ = 1 := Rat.mul_inv_cancel _ l0
  have ne : i ≠ j := fun e => l0 (by rw [← e]; exact d i hi)
  have sji := h.sy j i hj hi
  have fi : f i = 1 := by rw [hf i hi, d i hi, sji, Rat.div_def]; grind
  have fj : f j = 1 := by rw [hf j hj, d j hj, Rat.div_def]; grind
  have gi : g i = -1 := by rw [hg i hi, d i hi, sji, Rat.div_def]; grind
  have gj : g j = 1 := by rw [hg j hj, d j hj, Rat.div_def]; grind
  have rE : ∀ a b, a < n → b < n → R' a b = R a b - (R i a * R j b + R j a * R i b) * (R i j)⁻¹ := fun a b ha hb => by
    rw [hR a b ha hb, hf a ha, hf b hb, hg a ha, hg b hb]
    simp only [Rat.div_def]
    grind
  have ri : ∀ b, b < n → R' i b = 0 := fun b hb => by rw [rE i b hi hb, d i hi, sji]; grind
  have rj : ∀ b, b < n → R' j b = 0 := fun b hb => by rw [rE j b hj hb, d j hj]; grind
  refine h.app _ (fun a b ha hb => by rw [rE a b ha hb, rE b a hb ha, h.sy a b ha hb]; grind) (fun a b ha hb => by rw [hR a b ha hb, Ls_cons, Ls_cons, Ls_nil]; grind) (fun s hs => ?_) (fun c => if c = 0 then (fun k => 1/2 * (un i k + un j k)) else (fun k => 1/2 * (un j k - un i k))) (fun b k hb hk hz c hc => ?_) (fun a k ha hk hz => ?_) (fun k hk hz c hc => ?_) (fun a b ha hb => ?_)
  · simp at hs
    rcases hs with rfl | rfl
    · show R i j / 2 ≠ 0
      grind
    · show - (R i j / 2) ≠ 0
      grind
  · by_cases e1 : k = i
    · rw [e1]; exact ri c hc
    · by_cases e2 : k = j
      · rw [e2]; exact rj c hc
      · refine absurd ?_ hz
        have u1 : un i k = 0 := if_neg e1
        have u2 : un j k = 0 := if_neg e2
        by_cases e : b = 0
        · simp only [if_pos e, u1, u2]; grind
        · simp only [if_neg e, u1, u2]; grind
  · have k1 : R i k = 0 := by rw [h.sy i k hi hk]; exact hz i hi
    have k2 : R j k = 0 := by rw [h.sy j k hj hk]; exact hz j hj
    by_cases e : a = 0
    · subst e
      show f k = 0
      rw [hf k hk, k1, k2, Rat.div_def]; grind
    · have : a = 1 := by simp at ha; omega
      subst this
      show g k = 0
      rw [hg k hk, k1, k2, Rat.div_def]; grind
  · have k1 : R i k = 0 := by rw [h.sy i k hi hk]; exact hz i hi
    have k2 : R j k = 0 := by rw [h.sy j k hj hk]; exact hz j hj
    rw [rE k c hk hc, hz c hc, k1, k2]; grind
  · have dd : ∀ (l : Vec) (s t : Rat), dot n l (fun k => 1/2 * (s * un i k + t * un j k)) = 1/2 * (s * l i + t * l j) := fun l s t => by
      have e1 : dot n l (fun k => 1/2 * (s * un i k + t * un j k)) = 1/2 * (s * dot n l (un i) + t * dot n l (un j)) := by
        unfold dot
        rw [← Sm_mul, ← Sm_mul, ← Sm_add, ← Sm_mul]
        exact Sm_congr fun k _ => by grind
      rw [e1, dot_un hi, dot_un hj]
    have d1 : ∀ l : Vec, dot n l (fun k => 1/2 * (un i k + un j k)) = 1/2 * (l i + l j) := fun l => by
      have := dd l 1 1
      simp only [Rat.one_mul] at this
      exact this
    have d2 : ∀ l : Vec, dot n l (fun k => 1/2 * (un j k - un i k)) = 1/2 * (l j - l i) := fun l => by
      have := dd l (-1) 1
      rw [show 1/2 * (l j - l i) = 1/2 * (-1 * l i + 1 * l j) by grind, ← this]
      unfold dot
      exact Sm_congr fun k _ => by grind
    have ca : a = 0 ∨ a = 1 := by simp at ha; omega
    have cb : b = 0 ∨ b = 1 := by simp at hb; omega
    rcases ca with rfl | rfl
    · rcases cb with rfl | rfl
      · show dot n f (fun k => 1/2 * (un i k + un j k)) = 1
        rw [d1, fi, fj]; grind
      · show dot n f (fun k => 1/2 * (un j k - un i k)) = 0
        rw [d2, fi, fj]; grind
    · rcases cb with rfl | rfl
      · show dot n g (fun k => 1/2 * (un i k + un j k)) = 0
        rw [d1, gi, gj]; grind
      · show dot n g (fun k => 1/2 * (un j k - un i k)) = 1
        rw [d2, gi, gj]; grind
theorem SQ.fin {n : Nat} {A R : Mat} {ps : List Sq} (h : SQ n A ps R) (z : ∀ i j, i < n → j < n → R i j = 0) : Dec n A ps ∧ In n A (posn ps) (negn ps) := by
  have e : Dec n A ps := fun i j hi hj => by rw [h.dec i j hi hj, z i j hi hj, Rat.add_zero]
  exact ⟨e, ps, e, h.ind, h.ne, rfl, rfl⟩
/-! whole numbers over one number -/
def Cd (n k : Nat) (A : Mat) : Prop := ∃ (d : Int) (N : Nat → Nat → Int), d ≠ 0 ∧ d.natAbs < 2 ^ k ∧ ∀ i j, i < n → j < n → (N i j).natAbs < 2 ^ k ∧ A i j = (N i j : Rat) / (d : Rat)
theorem Cd.mono {n k l : Nat} {A : Mat} (h : Cd n k A) (e : k ≤ l) : Cd n l A := by
  obtain ⟨d, N, h1, h2, h3⟩ := h
  have p := Nat.pow_le_pow_right (n := 2) (by omega) e
  exact ⟨d, N, h1, by omega, fun i j hi hj => ⟨by have := (h3 i j hi hj).1; omega, (h3 i j hi hj).2⟩⟩
theorem nz {d : Int} (h : d ≠ 0) : (d : Rat) ≠ 0 := fun e => h (by exact_mod_cast e)
theorem Cd.bz {n k i j : Nat} {A : Mat} (h : Cd n k A) (k1 : 1 ≤ k) (hi : i < n) (hj : j < n) : Bz (2 * k) (A i j) := by
  obtain ⟨d, N, h1, h2, h3⟩ := h
  obtain ⟨h4, h5⟩ := h3 i j hi hj
  rw [h5]
  exact ((Bz.int h4 (by omega)).div (Bz.int h2 (by omega)) (nz h1)).mono (by omega)
theorem na_mul {a b : Int} {k l : Nat} (h : a.natAbs < 2 ^ k) (g : b.natAbs < 2 ^ l) : (a * b).natAbs < 2 ^ (k + l) := by
  rw [Int.natAbs_mul, Nat.pow_add]
  exact Nat.mul_lt_mul_of_lt_of_le h (by omega) (Nat.pow_pos (by omega))
theorem na_sub {a b : Int} {k : Nat} (h : a.natAbs < 2 ^ k) (g : b.natAbs < 2 ^ k) : (a - b).natAbs < 2 ^ (k + 1) := by
  rw [Nat.pow_succ]; omega
theorem na_add {a b : Int} {k : Nat} (h : a.natAbs < 2 ^ k) (g : b.natAbs < 2 ^ k) : (a + b).natAbs < 2 ^ (k + 1) := by
  rw [Nat.pow_succ]; omega
theorem na_mono {a : Int} {k l : Nat} (h : a.natAbs < 2 ^ k) (e : k ≤ l) : a.natAbs < 2 ^ l := by
  have p := Nat.pow_le_pow_right (n := 2) (by omega) e
  omega
theorem fr1 {a b c d p : Rat} (hd : d ≠ 0) (hp : p ≠ 0) : a / d - p / d * ((b / d) / (p / d)) * ((c / d) / (p / d)) = (a * p - b * c) / (d * p) := by
  simp only [Rat.div_def, Rat.inv_mul_rev, Rat.inv_inv]
  have := Rat.mul_inv_cancel _ hd
  have := Rat.mul_inv_cancel _ hp
  grind
theorem Cd.one {n k c : Nat} {R R' : Mat} {l : Vec} (h : Cd n k R) (k1 : 1 ≤ k) (hk : c < n) (l0 : R c c ≠ 0) (hl : ∀ i, i < n → l i = R c i / R c c) (hR : ∀ i j, i < n → j < n → R' i j = R i j - R c c * l i * l j) : Cd n (3 * k) R' ∧ ∀ i, i < n → Bz (2 * k) (l i) := by
  obtain ⟨d, N, h1, h2, h3⟩ := h
  have q := (h3 c c hk hk).2
  have p0 : N c c ≠ 0 := fun e => l0 (by rw [q, e]; simp [Rat.div_def])
  have hd := nz h1
  have hp := nz p0
  refine ⟨⟨d * N c c, fun i j => N i j * N c c - N c i * N c j, Int.mul_ne_zero h1 p0, na_mono (na_mul h2 (h3 c c hk hk).1) (by omega), fun i j hi hj => ⟨na_mono (na_sub (na_mul (h3 i j hi hj).1 (h3 c c hk hk).1) (na_mul (h3 c i hk hi).1 (h3 c j hk hj).1)) (by omega), ?_⟩⟩, fun i hi => ?_⟩
  · rw [hR i j hi hj, hl i hi, hl j hj, q, (h3 i j hi hj).2, (h3 c i hk hi).2, (h3 c j hk hj).2, fr1 hd hp]
    push_cast
    rfl
  · rw [hl i hi, q, (h3 c i hk hi).2]
    have e : (N c i : Rat) / d / (N c c / d) = (N c i : Rat) / (N c c) := by
      simp only [Rat.div_def, Rat.inv_mul_rev, Rat.inv_inv]
      have := Rat.mul_inv_cancel _ hd
      grind
    rw [e]
    exact ((Bz.int (h3 c i hk hi).1 (by omega)).div (Bz.int (h3 c c hk hk).1 (by omega)) hp).mono (by omega)
theorem fr2 {a u v x y d p : Rat} (hd : d ≠ 0) (hp : p ≠ 0) : a / d - p / d / 2 * ((u / d + v / d) / (p / d)) * ((x / d + y / d) / (p / d)) - (- (p / d / 2)) * ((u / d - v / d) / (p / d)) * ((x / d - y / d) / (p / d)) = (a * p - (u * y + v * x)) / (d * p) := by
  simp only [Rat.div_def, Rat.inv_mul_rev, Rat.inv_inv]
  have := Rat.mul_inv_cancel _ hd
  have := Rat.mul_inv_cancel _ hp
  have : (2 : Rat) * 2⁻¹ = 1 := Rat.mul_inv_cancel _ (by decide)
  grind
theorem Cd.two {n k i j : Nat} {R R' : Mat} {f g : Vec} (h : Cd n k R) (k1 : 1 ≤ k) (hi : i < n) (hj : j < n) (l0 : R i j ≠ 0) (hf : ∀ k, k < n → f k = (R i k + R j k) / R i j) (hg : ∀ k, k < n → g k = (R i k - R j k) / R i j) (hR : ∀ a b, a < n → b < n → R' a b = R a b - R i j / 2 * f a * f b - (- (R i j / 2)) * g a * g b) : Cd n (4 * k) R' ∧ ∀ i, i < n → Bz (3 * k) (f i) ∧ Bz (3 * k) (g i) := by
  obtain ⟨d, N, h1, h2, h3⟩ := h
  have q := (h3 i j hi hj).2
  have p0 : N i j ≠ 0 := fun e => l0 (by rw [q, e]; simp [Rat.div_def])
  have hd := nz h1
  have hp := nz p0
  refine ⟨⟨d * N i j, fun a b => N a b * N i j - (N i a * N j b + N j a * N i b), Int.mul_ne_zero h1 p0, na_mono (na_mul h2 (h3 i j hi hj).1) (by omega), fun a b ha hb => ⟨?_, ?_⟩⟩, fun c hc => ?_⟩
  · have e1 := na_mul (h3 a b ha hb).1 (h3 i j hi hj).1
    have e2 := na_add (na_mul (h3 i a hi ha).1 (h3 j b hj hb).1) (na_mul (h3 j a hj ha).1 (h3 i b hi hb).1)
    exact na_mono (na_sub (na_mono e1 (Nat.le_succ _)) e2) (by omega)
  · rw [hR a b ha hb, hf a ha, hf b hb, hg a ha, hg b hb, q, (h3 a b ha hb).2, (h3 i a hi ha).2, (h3 j a hj ha).2, (h3 i b hi hb).2, (h3 j b hj hb).2, fr2 hd hp]
    push_cast
    rfl
  · have e1 : f c = ((N i c + N j c : Int) : Rat) / (N i j) := by
      rw [hf c hc, q, (h3 i c hi hc).2, (h3 j c hj hc).2]
      push_cast
      simp only [Rat.div_def, Rat.inv_mul_rev, Rat.inv_inv]
      have := Rat.mul_inv_cancel _ hd
      grind
    have e2 : g c = ((N i c - N j c : Int) : Rat) / (N i j) := by
      rw [hg c hc, q, (h3 i c hi hc).2, (h3 j c hj hc).2]
      push_cast
      simp only [Rat.div_def, Rat.inv_mul_rev, Rat.inv_inv]
      have := Rat.mul_inv_cancel _ hd
      grind
    rw [e1, e2]
    exact ⟨((Bz.int (na_add (h3 i c hi hc).1 (h3 j c hj hc).1) (by omega)).div (Bz.int (h3 i j hi hj).1 (by omega)) hp).mono (by omega), ((Bz.int (na_sub (h3 i c hi hc).1 (h3 j c hj hc).1) (by omega)).div (Bz.int (h3 i j hi hj).1 (by omega)) hp).mono (by omega)⟩
theorem nd_self (x : Rat) : (x.num : Rat) / ((x.den : Nat) : Rat) = x := by
  have h := Rat.num_divInt_den x
  rw [Rat.divInt_eq_div, Rat.intCast_natCast] at h
  exact h
theorem fr3 {x y z a : Rat} (hy : y ≠ 0) (hz : z ≠ 0) (e : x / y = a) : a = x * z / (y * z) := by
  rw [← e]
  simp only [Rat.div_def, Rat.inv_mul_rev]
  have := Rat.mul_inv_cancel _ hz
  grind
def Pd : Nat → (Nat → Nat) → Nat
  | 0, _ => 1
  | n + 1, f => Pd n f * f n
theorem Pd_dvd {f : Nat → Nat} : ∀ {n i : Nat}, i < n → f i ∣ Pd n f
  | n + 1, i, h => by
    unfold Pd
    by_cases e : i = n
    · rw [e]; exact Nat.dvd_mul_left _ _
    · exact Nat.dvd_trans (Pd_dvd (n := n) (by omega)) (Nat.dvd_mul_right _ _)
theorem Pd_le {k : Nat} {f : Nat → Nat} : ∀ {n : Nat}, (∀ i, i < n → f i ≤ 2 ^ k) → Pd n f ≤ 2 ^ (n * k)
  | 0, _ => by simp [Pd]
  | n + 1, h => by
    unfold Pd
    rw [Nat.succ_mul, Nat.pow_add]
    exact Nat.mul_le_mul (Pd_le fun i hi => h i (by omega)) (h n (by omega))
theorem Pd_pos {f : Nat → Nat} : ∀ {n : Nat}, (∀ i, i < n → 0 < f i) → 0 < Pd n f
  | 0, _ => by simp [Pd]
  | n + 1, h => by
    unfold Pd
    exact Nat.mul_pos (Pd_pos fun i hi => h i (by omega)) (h n (by omega))
theorem Cd.of {n k : Nat} {A : Mat} (k1 : 1 ≤ k) (h : ∀ i j, i < n → j < n → Bz k (A i j)) : Cd n ((n * n + 1) * k) A := by
  let f : Nat → Nat := fun t => (A (t / n) (t % n)).den
  have at_ : ∀ i j, i < n → j < n → i * n + j < n * n ∧ f (i * n + j) = (A i j).den := fun i j hi hj => by
    have n0 : 0 < n := by omega
    constructor
    · have : (i + 1) * n ≤ n * n := Nat.mul_le_mul_right _ hi
      rw [Nat.succ_mul] at this
      omega
    · show (A ((i * n + j) / n) ((i * n + j) % n)).den = _
      rw [Nat.mul_comm i n, Nat.mul_add_div n0, Nat.div_eq_of_lt hj, Nat.mul_add_mod, Nat.mod_eq_of_lt hj, Nat.add_zero]
  have p1 : 0 < Pd (n * n) f := Pd_pos fun i _ => Nat.pos_of_ne_zero (A _ _).den_nz
  have p2 : Pd (n * n) f ≤ 2 ^ (n * n * k) := Pd_le fun t ht => by
    have n0 : 0 < n := Nat.pos_of_ne_zero fun e => by subst e; omega
    exact Nat.le_of_lt (h _ _ (by rw [Nat.div_lt_iff_lt_mul n0]; exact ht) (Nat.mod_lt _ n0)).2
  have ek : (n * n + 1) * k = n * n * k + k := by rw [Nat.succ_mul]
  have lt : 2 ^ (n * n * k) < 2 ^ (n * n * k + k) := Nat.pow_lt_pow_right (by omega) (by omega)
  refine ⟨(Pd (n * n) f : Int), fun i j => (A i j).num * ((Pd (n * n) f / (A i j).den : Nat) : Int), by omega, by rw [Int.natAbs_natCast, ek]; omega, fun i j hi hj => ⟨?_, ?_⟩⟩
  · rw [Int.natAbs_mul, Int.natAbs_natCast, ek, Nat.add_comm, Nat.pow_add]
    have : Pd (n * n) f / (A i j).den ≤ 2 ^ (n * n * k) := Nat.le_trans (Nat.div_le_self _ _) p2
    exact Nat.mul_lt_mul_of_lt_of_le (h i j hi hj).1 this (Nat.pow_pos (by omega))
  · obtain ⟨q, hq⟩ : (A i j).den ∣ Pd (n * n) f := by rw [← (at_ i j hi hj).2]; exact Pd_dvd (at_ i j hi hj).1
    have d0 : 0 < (A i j).den := Nat.pos_of_ne_zero (A i j).den_nz
    have q0 : q ≠ 0 := fun e => by rw [e] at hq; omega
    have qr : ((q : Nat) : Rat) ≠ 0 := fun e => q0 (by exact_mod_cast e)
    have dr : (((A i j).den : Nat) : Rat) ≠ 0 := fun e => (A i j).den_nz (by exact_mod_cast e)
    show A i j = (((A i j).num * ((Pd (n * n) f / (A i j).den : Nat) : Int) : Int) : Rat) / (((Pd (n * n) f : Nat) : Int) : Rat)
    rw [hq, Nat.mul_div_cancel_left _ d0]
    have e : ((A i j).num : Rat) / (((A i j).den : Nat) : Rat) = A i j := nd_self _
    rw [Rat.intCast_mul, Rat.intCast_natCast, Rat.intCast_natCast, Rat.natCast_mul]
    exact fr3 dr qr e
theorem Cd.int {n k : Nat} {A : Mat} (k1 : 1 ≤ k) (h : ∀ i j, i < n → j < n → ∃ z : Int, z.natAbs < 2 ^ k ∧ A i j = (z : Rat)) : Cd n k A := by
  refine ⟨1, fun i j => (A i j).num, by decide, Nat.one_lt_two_pow (by omega), fun i j hi hj => ?_⟩
  obtain ⟨z, h1, h2⟩ := h i j hi hj
  refine ⟨by show (A i j).num.natAbs < _; rw [h2]; exact h1, ?_⟩
  rw [Rat.div_def]
  show A i j = ((A i j).num : Rat) * ((1 : Int) : Rat)⁻¹
  have : ((1 : Int) : Rat)⁻¹ = 1 := by have := Rat.mul_inv_cancel (1 : Rat) (by decide); rw [Rat.one_mul] at this; exact this
  rw [this, Rat.mul_one, h2]; rfl
end La
end

section
set_option linter.all false
/-! La15: rows with duals. -/
namespace La
def DU (m n : Nat) (A : Mat) : Prop := ∃ V : Nat → Vec, ∀ a b, a < m → b < m → dot n (A a) (V b) = if a = b then 1 else 0
theorem held_lt {g a m : Nat} (h : a < m) : held g a < m + 1 := by unfold held; split <;> omega
theorem held_ne {g a : Nat} : held g a ≠ g := by unfold held; split <;> omega
theorem held_inj {g a b : Nat} : held g a = held g b ↔ a = b := by unfold held; split <;> split <;> omega
theorem DU.less {m n g : Nat} {A B : Mat} {c : Vec} (h : DU (m + 1) n A) (hg : g < m + 1) (hB : ∀ a j, a < m → j < n → B a j = A (held g a) j - c a * A g j) : DU m n B := by
  obtain ⟨V, hV⟩ := h
  refine ⟨fun b => V (held g b), fun a b ha hb => ?_⟩
  have e : dot n (B a) (V (held g b)) = dot n (A (held g a)) (V (held g b)) - c a * dot n (A g) (V (held g b)) := by
    unfold dot
    rw [← Sm_mul, ← Sm_sub]
    exact Sm_congr fun j hj => by rw [hB a j ha hj]; grind
  rw [e, hV _ _ (held_lt ha) (held_lt hb), hV g _ hg (held_lt hb), if_neg (fun h : g = held g b => held_ne h.symm), Rat.mul_zero, sb0]
  by_cases k : a = b
  · rw [if_pos (held_inj.mpr k), if_pos k]
  · rw [if_neg (fun z => k (held_inj.mp z)), if_neg k]
theorem DU.zero {m n : Nat} {A : Mat} (h : DU m n A) (z : ∀ a j, a < m → j < n → A a j = 0) : m = 0 := by
  obtain ⟨V, hV⟩ := h
  refine Classical.byContradiction fun g => ?_
  have := hV 0 0 (by omega) (by omega)
  rw [if_pos rfl, dot_zero fun i hi => by rw [z 0 i (by omega) hi, Rat.zero_mul]] at this
  exact absurd this (by decide)
end La
end

section
set_option linter.all false
/-! Ho1: what the small defs compute: sums, dots. -/
namespace Ho
open Fw La
def vl (l : List Rat) : Vec := fun i => l.getD i 0
def mtx (T : List (List Rat)) : Mat := fun i j => (T.getD i []).getD j 0
def Shr (n k : Nat) (r : List Rat) : Prop := r.length = n ∧ ∀ x ∈ r, Bz k x
def Sh (m n k : Nat) (T : List (List Rat)) : Prop := T.length = m ∧ ∀ r ∈ T, Shr n k r
abbrev QB : Nat := 33554432
theorem qb : 2 ^ 25 = QB := by decide
theorem _root_.La.Bz.qz {k : Nat} {x : Rat} (h : Bz k x) (e : k ≤ QB) : Qz x := h.mono (by rw [qb]; exact e)
theorem Bz0 : Bz 1 0 := ⟨by decide, by decide⟩
theorem hoare_ratio_sum {xs : List Rat} {k : Nat} (h : ∀ x ∈ xs, Bz k x) (e : 1 + xs.length * (k + 1) ≤ QB) : W_ratio_sum xs fun r => r = Sm xs.length (vl xs) ∧ Bz (1 + xs.length * (k + 1)) r := by
  intro f hf
  refine ⟨fun i s => s = Sm i (vl xs) ∧ Bz (1 + i * (k + 1)) s, ⟨hf, by rw [hf]; simpa using Bz0⟩, fun i x s hx hI => ?_, fun s hI => hI⟩
  obtain ⟨hi, rfl⟩ := List.getElem?_eq_some_iff.mp hx
  have bx : Bz k xs[i] := h _ (List.getElem_mem hi)
  have e2 : 1 + (i + 1) * (k + 1) ≤ 1 + xs.length * (k + 1) := Nat.add_le_add_left (Nat.mul_le_mul_right _ hi) _
  have e3 : (i + 1) * (k + 1) = i * (k + 1) + (k + 1) := Nat.succ_mul _ _
  have bs : Bz (1 + i * (k + 1)) s := hI.2
  refine ⟨⟨bs.qz (by omega), bx.qz (by omega)⟩, fun t ht => ?_⟩
  subst ht
  refine ⟨?_, (bs.add bx).mono (by omega)⟩
  show _ = Sm i (vl xs) + vl xs i
  rw [hI.1, vl, gD hi]
theorem p_sum {xs : List Rat} {k : Nat} (h : ∀ x ∈ xs, Bz k x) (e : 1 + xs.length * (k + 1) ≤ QB) : p_ratio_sum_pre xs ∧ p_ratio_sum xs = Sm xs.length (vl xs) ∧ Bz (1 + xs.length * (k + 1)) (p_ratio_sum xs) := of_ratio_sum xs (hoare_ratio_sum h e)
theorem p_dot {n k l : Nat} {a b : List Rat} (ha : Shr n k a) (hb : Shr n l b) (hn : n ≤ 400) (e : 1 + n * (k + l + 1) ≤ QB) : p_ratio_dot_pre a b ∧ p_ratio_dot a b = Sm n (fun i => vl a i * vl b i) ∧ Bz (1 + n * (k + l + 1)) (p_ratio_dot a b) := by
  refine of_ratio_dot (R := fun r => r = Sm n (fun i => vl a i * vl b i) ∧ Bz (1 + n * (k + l + 1)) r) a b ?_
  have hz : (a.zip b).length = n := by rw [List.length_zip, ha.1, hb.1]; omega
  have mm : ∀ p ∈ a.zip b, Bz k p.1 ∧ Bz l p.2 := fun p hp => ⟨ha.2 _ (List.of_mem_zip hp).1, hb.2 _ (List.of_mem_zip hp).2⟩
  have hl : (((a.zip b)).map fun p_3 => (p_3.1 * p_3.2)).length = n := by rw [List.length_map, hz]
  by_cases n0 : n = 0
  · have z : a.zip b = [] := List.length_eq_zero_iff.mp (by omega)
    unfold W_ratio_dot
    rw [z]
    obtain ⟨s1, s2, s3⟩ := p_sum (xs := []) (k := k) (fun x hx => by simp at hx) (by simp; decide)
    refine ⟨by unfold LmOk; simp, fun p hp => by simp at hp, s1, ?_⟩
    subst n0
    exact ⟨s2, by simpa using s3⟩
  have b1 : k + l + 1 ≤ n * (k + l + 1) := Nat.le_mul_of_pos_left _ (by omega)
  obtain ⟨s1, s2, s3⟩ := p_sum (xs := ((a.zip b)).map fun p_3 => (p_3.1 * p_3.2)) (k := k + l) (fun x hx => by
    obtain ⟨p, hp, rfl⟩ := List.mem_map.mp hx
    exact (mm p hp).1.mul (mm p hp).2) (by rw [hl]; exact e)
  rw [hl] at s2 s3
  refine ⟨by unfold LmOk LM; omega, fun p hp => ⟨(mm p hp).1.qz (by omega), (mm p hp).2.qz (by omega)⟩, s1, ?_, s3⟩
  rw [s2]
  refine Sm_congr fun i hi => ?_
  unfold vl
  rw [gD (by omega), gD (by rw [ha.1]; exact hi), gD (by rw [hb.1]; exact hi)]
  simp
theorem ixn {α : Type} [Inhabited α] {l : List α} {i : Nat} (h : i < l.length) : ix l (i : Int) = l[i] := by
  have : L2.ixN l.length (i : Int) = some i := by unfold L2.ixN; simp; omega
  unfold ix L2.atI
  rw [this]
  simp [h]
theorem ix0 {α : Type} [Inhabited α] {l : List α} (h : 0 < l.length) : ix l 0 = l[0] := ixn (i := 0) h
theorem is_table {m n k : Nat} {T : List (List Rat)} (h : Sh m n k T) (hm : m ≤ 400) (hn : n ≤ 400) : p_is_table_pre T := by
  have lm : LmOk T.length := by unfold LmOk LM; have := h.1; omega
  have e1 : decide ((400 : Int) < (T.length : Int)) = false := by have := h.1; simp; omega
  have e2 : ((T.map fun row_2 => true)).all id = true := by simp
  refine ⟨fun _ => ⟨lm, fun r hr => ⟨by unfold LmOk LM; have := (h.2 r hr).1; omega, by simp⟩⟩, fun c => by rw [e1, e2] at c; simp at c, fun _ => ⟨lm, fun r hr => ?_, ?_⟩⟩
  · have : 0 < T.length := List.length_pos_of_mem hr
    unfold IxOk; omega
  · simp only [List.all_map, List.all_eq_true]
    intro r hr
    have h0 : 0 < T.length := List.length_pos_of_mem hr
    have hx : ix T 0 = T[0] := ix0 h0
    show (_ && _) = true
    rw [hx, (h.2 r hr).1, (h.2 _ (List.getElem_mem h0)).1]
    simp; omega
theorem check_table {m n k : Nat} {T : List (List Rat)} (h : Sh m n k T) (hm : m ≤ 400) (hn : n ≤ 400) : p_check_table_pre T := ⟨is_table h hm hn, rfl⟩
end Ho
end

section
set_option linter.all false
/-! Ho2: turned, times, plus, less_row. -/
namespace Ho
open Fw La
theorem mt_at {T : List (List Rat)} {i : Nat} (h : i < T.length) : mtx T i = vl T[i] := by
  unfold mtx vl; rw [gD h]
theorem vl_at {l : List Rat} {i : Nat} (h : i < l.length) : vl l i = l[i] := gD h
theorem vl_map {α : Type} {l : List α} {f : α → Rat} {i : Nat} (h : i < l.length) : vl (l.map f) i = f l[i] := by
  rw [vl_at (by simpa using h)]; simp
theorem mt_map {α : Type} {l : List α} {f : α → List Rat} {i : Nat} (h : i < l.length) : mtx (l.map f) i = vl (f l[i]) := by
  rw [mt_at (by simpa using h)]; simp
theorem Sh.row {m n k i : Nat} {T : List (List Rat)} (h : Sh m n k T) (hi : i < m) : Shr n k (T[i]'(by rw [h.1]; exact hi)) := h.2 _ (List.getElem_mem _)
theorem Sh.mono {m n k l : Nat} {T : List (List Rat)} (h : Sh m n k T) (e : k ≤ l) : Sh m n l T := ⟨h.1, fun r hr => ⟨(h.2 r hr).1, fun x hx => ((h.2 r hr).2 x hx).mono e⟩⟩
theorem Sh.bz {m n k i j : Nat} {T : List (List Rat)} (h : Sh m n k T) (hi : i < m) (hj : j < n) : Bz k (mtx T i j) := by
  rw [mt_at (by rw [h.1]; exact hi), vl_at (by rw [(h.row hi).1]; exact hj)]
  exact (h.row hi).2 _ (List.getElem_mem _)
theorem wide_sh {m n k : Nat} {T : List (List Rat)} (h : Sh m n k T) (hm : 0 < m) : wide T = (n : Int) := by
  have h0 : 0 < T.length := by rw [h.1]; exact hm
  unfold wide
  rw [if_pos (by simpa using h0), ix0 h0, (h.2 _ (List.getElem_mem h0)).1]
theorem irng_len {n : Nat} : (irng 0 (n : Int)).length = n := by simp [irng]
theorem irng_at {n i : Nat} (h : i < (irng 0 (n : Int)).length) : (irng 0 (n : Int))[i] = (i : Int) := by simp [irng]
theorem irng_mem {n : Nat} {x : Int} : x ∈ irng 0 (n : Int) ↔ ∃ i : Nat, i < n ∧ x = (i : Int) := by
  simp only [irng, List.mem_map, List.mem_range]
  constructor
  · rintro ⟨i, hi, e⟩; exact ⟨i, by omega, by omega⟩
  · rintro ⟨i, hi, e⟩; exact ⟨i, by omega, by omega⟩
theorem ixok {α : Type} {l : List α} {i : Nat} (h : i < l.length) : IxOk l (i : Int) := by unfold IxOk; omega
theorem lmok {n : Nat} (h : n ≤ 400) : LmOk n := by unfold LmOk LM; omega
theorem rgok {n : Nat} (h : n ≤ 400) : RgOk (n : Int) := by unfold RgOk LM; omega
theorem p_turn {m n k : Nat} {T : List (List Rat)} (h : Sh m n k T) (h0 : 0 < m) (hm : m ≤ 400) (hn : n ≤ 400) : p_turned_pre T ∧ Sh n m k (p_turned T) ∧ ∀ i j, i < n → j < m → mtx (p_turned T) i j = mtx T j i := by
  refine of_turned (R := fun U => Sh n m k U ∧ ∀ i j, i < n → j < m → mtx U i j = mtx T j i) T ?_
  unfold W_turned
  rw [wide_sh h h0]
  refine ⟨check_table h hm hn, rgok hn, by rw [irng_len]; exact lmok hn, fun x hx => ⟨by rw [h.1]; exact lmok hm, fun r hr => ?_⟩, ⟨by rw [List.length_map, irng_len], fun r hr => ?_⟩, fun i j hi hj => ?_⟩
  · obtain ⟨i, hi, rfl⟩ := irng_mem.mp hx
    exact ixok (by rw [(h.2 r hr).1]; exact hi)
  · obtain ⟨x, hx, rfl⟩ := List.mem_map.mp hr
    obtain ⟨i, hi, rfl⟩ := irng_mem.mp hx
    refine ⟨by rw [List.length_map, h.1], fun y hy => ?_⟩
    obtain ⟨r, hr, rfl⟩ := List.mem_map.mp hy
    have hl : i < r.length := by rw [(h.2 r hr).1]; exact hi
    rw [ixn hl]
    exact (h.2 r hr).2 _ (List.getElem_mem hl)
  · rw [mt_map (by rw [irng_len]; exact hi), irng_at, vl_map (by rw [h.1]; exact hj), mt_at (by rw [h.1]; exact hj)]
    have hl : i < (T[j]'(by rw [h.1]; exact hj)).length := by rw [(h.row hj).1]; exact hi
    rw [ixn hl, vl_at hl]
theorem p_times {m n p k l : Nat} {A B : List (List Rat)} (hA : Sh m n k A) (hB : Sh n p l B) (m0 : 0 < m) (n0 : 0 < n) (hm : m ≤ 400) (hn : n ≤ 400) (hp : p ≤ 400) (e : 1 + n * (k + l + 1) ≤ QB) : p_table_times_pre A B ∧ Sh m p (1 + n * (k + l + 1)) (p_table_times A B) ∧ ∀ i j, i < m → j < p → mtx (p_table_times A B) i j = Sm n fun c => mtx A i c * mtx B c j := by
  refine of_table_times (R := fun U => Sh m p (1 + n * (k + l + 1)) U ∧ ∀ i j, i < m → j < p → mtx U i j = Sm n fun c => mtx A i c * mtx B c j) A B ?_
  obtain ⟨t1, t2, t3⟩ := p_turn hB n0 hn hp
  have dd : ∀ r ∈ A, ∀ c ∈ p_turned B, p_ratio_dot_pre r c ∧ p_ratio_dot r c = Sm n (fun i => vl r i * vl c i) ∧ Bz (1 + n * (k + l + 1)) (p_ratio_dot r c) := fun r hr c hc => p_dot (hA.2 r hr) (t2.2 c hc) hn e
  unfold W_table_times
  rw [wide_sh hA m0, hB.1]
  refine ⟨check_table hA hm hn, check_table hB hn hp, fun c => by simp at c, fun _ => ⟨t1, ?_⟩⟩
  rintro cs rfl
  refine ⟨by rw [hA.1]; exact lmok hm, fun r hr => ⟨by rw [t2.1]; exact lmok hp, fun c hc => (dd r hr c hc).1⟩, ⟨by rw [List.length_map, hA.1], fun r hr => ?_⟩, fun i j hi hj => ?_⟩
  · obtain ⟨x, hx, rfl⟩ := List.mem_map.mp hr
    refine ⟨by rw [List.length_map, t2.1], fun y hy => ?_⟩
    obtain ⟨c, hc, rfl⟩ := List.mem_map.mp hy
    exact (dd x hx c hc).2.2
  · have il : i < A.length := by rw [hA.1]; exact hi
    have jl : j < (p_turned B).length := by rw [t2.1]; exact hj
    rw [mt_map il, vl_map jl, (dd _ (List.getElem_mem il) _ (List.getElem_mem jl)).2.1]
    refine Sm_congr fun c hc => ?_
    rw [mt_at il, ← t3 j c hj hc, mt_at jl]
end Ho
end

section
set_option linter.all false
/-! Ho3: plus, less_row, unit_table. -/
namespace Ho
open Fw La
theorem zip_at {α β : Type} {a : List α} {b : List β} {i : Nat} (h : i < (a.zip b).length) (ha : i < a.length) (hb : i < b.length) : (a.zip b)[i] = (a[i], b[i]) := by simp
theorem bz_ofI {z : Int} {k : Nat} (h : z.natAbs < 2 ^ k) (hk : 0 < k) : Bz k (ofI z) := Bz.int h hk
theorem p_plus {m n k l : Nat} {A B : List (List Rat)} {z : Int} (hA : Sh m n k A) (hB : Sh m n l B) (hz : z.natAbs < 4) (m0 : 0 < m) (hm : m ≤ 400) (hn : n ≤ 400) (e : k + l + 3 ≤ QB) : p_table_plus_pre A B z ∧ Sh m n (k + l + 3) (p_table_plus A B z) ∧ ∀ i j, i < m → j < n → mtx (p_table_plus A B z) i j = mtx A i j + (z : Rat) * mtx B i j := by
  refine of_table_plus (R := fun U => Sh m n (k + l + 3) U ∧ ∀ i j, i < m → j < n → mtx U i j = mtx A i j + (z : Rat) * mtx B i j) A B z ?_
  have bo : Bz 2 (ofI z) := bz_ofI hz (by omega)
  unfold W_table_plus
  rw [wide_sh hA m0, wide_sh hB m0, hA.1, hB.1]
  refine ⟨check_table hA hm hn, check_table hB hm hn, fun c => by simp at c, fun _ => ?_⟩
  rintro y rfl
  have zl : (A.zip B).length = m := by rw [List.length_zip, hA.1, hB.1]; omega
  have rr : ∀ p ∈ A.zip B, Shr n k p.1 ∧ Shr n l p.2 := fun p hp => ⟨hA.2 _ (List.of_mem_zip hp).1, hB.2 _ (List.of_mem_zip hp).2⟩
  have rl : ∀ p ∈ A.zip B, (p.1.zip p.2).length = n := fun p hp => by rw [List.length_zip, (rr p hp).1.1, (rr p hp).2.1]; omega
  have bb : ∀ p ∈ A.zip B, ∀ q ∈ p.1.zip p.2, Bz k q.1 ∧ Bz l q.2 := fun p hp q hq => ⟨(rr p hp).1.2 _ (List.of_mem_zip hq).1, (rr p hp).2.2 _ (List.of_mem_zip hq).2⟩
  refine ⟨by rw [zl]; exact lmok hm, fun p hp => ⟨by rw [rl p hp]; exact lmok hn, fun q hq => ⟨⟨bo.qz (by omega), (bb p hp q hq).2.qz (by omega)⟩, (bb p hp q hq).1.qz (by omega), (bo.mul (bb p hp q hq).2).qz (by omega)⟩⟩, ⟨by rw [List.length_map, zl], fun r hr => ?_⟩, fun i j hi hj => ?_⟩
  · obtain ⟨p, hp, rfl⟩ := List.mem_map.mp hr
    refine ⟨by rw [List.length_map, rl p hp], fun y hy => ?_⟩
    obtain ⟨q, hq, rfl⟩ := List.mem_map.mp hy
    exact ((bb p hp q hq).1.add (bo.mul (bb p hp q hq).2)).mono (by omega)
  · have ai : i < A.length := by rw [hA.1]; exact hi
    have bi : i < B.length := by rw [hB.1]; exact hi
    have aj : j < A[i].length := by rw [(hA.row hi).1]; exact hj
    have bj : j < B[i].length := by rw [(hB.row hi).1]; exact hj
    rw [mt_map (by rw [zl]; exact hi), zip_at _ ai bi, vl_map (by rw [List.length_zip]; exact Nat.lt_min.mpr ⟨aj, bj⟩), zip_at _ aj bj, mt_at ai, mt_at bi, vl_at aj, vl_at bj]
    rfl
theorem qsgn0 {x : Rat} : qsgn x ≠ 0 ↔ x ≠ 0 := by
  unfold qsgn
  constructor
  · intro h z; apply h; rw [z]; rfl
  · intro h z; exact h (Rat.num_eq_zero.mp (Int.sign_eq_zero_iff_zero.mp z))
theorem p_less {n k l c : Nat} {r d : List Rat} {t : Rat} (hr : Shr n k r) (hd : Shr n l d) (ht : Bz c t) (hn : n ≤ 400) (e : k + l + c + 1 ≤ QB) : p_less_row_pre r d t ∧ Shr n (k + l + c + 1) (p_less_row r d t) ∧ ∀ j, j < n → vl (p_less_row r d t) j = vl r j - t * vl d j := by
  refine of_less_row (R := fun u => Shr n (k + l + c + 1) u ∧ ∀ j, j < n → vl u j = vl r j - t * vl d j) r d t ?_
  unfold W_less_row
  have zl : (r.zip d).length = n := by rw [List.length_zip, hr.1, hd.1]; omega
  have bb : ∀ q ∈ r.zip d, Bz k q.1 ∧ Bz l q.2 := fun q hq => ⟨hr.2 _ (List.of_mem_zip hq).1, hd.2 _ (List.of_mem_zip hq).2⟩
  refine ⟨by rw [zl]; exact lmok hn, fun q hq _ => ⟨⟨ht.qz (by omega), (bb q hq).2.qz (by omega)⟩, (bb q hq).1.qz (by omega), (ht.mul (bb q hq).2).qz (by omega)⟩, ⟨by rw [List.length_map, zl], fun y hy => ?_⟩, fun j hj => ?_⟩
  · obtain ⟨q, hq, rfl⟩ := List.mem_map.mp hy
    split
    · exact ((bb q hq).1.sub (ht.mul (bb q hq).2)).mono (by omega)
    · exact (bb q hq).1.mono (by omega)
  · have rj : j < r.length := by rw [hr.1]; exact hj
    have dj : j < d.length := by rw [hd.1]; exact hj
    rw [vl_map (by rw [zl]; exact hj), zip_at _ rj dj, vl_at rj, vl_at dj]
    by_cases z : d[j] = 0
    · rw [if_neg (by simp [qsgn0, z, qsgn]), z]; grind
    · rw [if_pos (by simpa using qsgn0.mpr z)]
theorem p_unit {n : Nat} (hn : n ≤ 400) : p_unit_table_pre (n : Int) ∧ Sh n n 1 (p_unit_table (n : Int)) ∧ ∀ i j, i < n → j < n → mtx (p_unit_table (n : Int)) i j = if i = j then 1 else 0 := by
  refine of_unit_table (R := fun U => Sh n n 1 U ∧ ∀ i j, i < n → j < n → mtx U i j = if i = j then 1 else 0) (n : Int) ?_
  refine ⟨rgok hn, by rw [irng_len]; exact lmok hn, fun x hx => ⟨rgok hn, by rw [irng_len]; exact lmok hn⟩, ⟨by rw [List.length_map, irng_len], fun r hr => ?_⟩, fun i j hi hj => ?_⟩
  · obtain ⟨x, hx, rfl⟩ := List.mem_map.mp hr
    refine ⟨by rw [List.length_map, irng_len], fun y hy => ?_⟩
    obtain ⟨z, hz, rfl⟩ := List.mem_map.mp hy
    split
    · exact ⟨by decide, by decide⟩
    · exact Bz0
  · rw [mt_map (by rw [irng_len]; exact hi), vl_map (by rw [irng_len]; exact hj), irng_at, irng_at]
    by_cases z : i = j
    · rw [if_pos z, if_pos (by simp [z])]; rfl
    · rw [if_neg z, if_neg (by simp; omega)]; rfl
end Ho
end

section
set_option linter.all false
/-! Ho4: square, symmetric, trace, less_square. -/
namespace Ho
open Fw La
theorem sh_ext {m n k l : Nat} {T U : List (List Rat)} (hT : Sh m n k T) (hU : Sh m n l U) (e : ∀ i j, i < m → j < n → mtx T i j = mtx U i j) : T = U := by
  refine List.ext_getElem (by rw [hT.1, hU.1]) fun i h1 h2 => ?_
  have hi : i < m := by rw [← hT.1]; exact h1
  refine List.ext_getElem (by rw [(hT.row hi).1, (hU.row hi).1]) fun j h3 h4 => ?_
  have hj : j < n := by rw [← (hT.row hi).1]; exact h3
  have := e i j hi hj
  rw [mt_at h1, mt_at h2, vl_at h3, vl_at h4] at this
  exact this
theorem check_square {n k : Nat} {T : List (List Rat)} (h : Sh n n k T) (h0 : 0 < n) (hn : n ≤ 400) : p_check_square_pre T := by
  refine ⟨check_table h hn hn, fun c => ?_, fun _ => rfl⟩
  rw [wide_sh h h0, h.1] at c
  simp at c
theorem check_symmetric {n k : Nat} {T : List (List Rat)} (h : Sh n n k T) (sy : Sy n (mtx T)) (h0 : 0 < n) (hn : n ≤ 400) : p_check_symmetric_pre T := by
  obtain ⟨t1, t2, t3⟩ := p_turn h h0 hn hn
  have e : T = p_turned T := sh_ext h t2 fun i j hi hj => by rw [t3 i j hi hj]; exact sy i j hi hj
  refine ⟨check_square h h0 hn, t1, fun c => ?_, fun _ => rfl⟩
  simp [← e] at c
theorem p_tr {n k : Nat} {T : List (List Rat)} (h : Sh n n k T) (h0 : 0 < n) (hn : n ≤ 400) (e : 1 + n * (k + 1) ≤ QB) : p_trace_pre T ∧ p_trace T = Sm n (fun i => mtx T i i) := by
  refine of_trace (R := fun r => r = Sm n (fun i => mtx T i i)) T ?_
  refine ⟨check_square h h0 hn, ?_⟩
  intro f hf
  rw [h.1]
  refine ⟨rgok hn, fun i s => s = Sm i (fun i => mtx T i i) ∧ Bz (1 + i * (k + 1)) s, ⟨hf, by rw [hf]; simpa using Bz0⟩, fun i x s hx hI => ?_, fun s hI => by rw [irng_len] at hI; exact hI.1⟩
  obtain ⟨hi, rfl⟩ := List.getElem?_eq_some_iff.mp hx
  rw [irng_at]
  rw [irng_len] at hi
  have il : i < T.length := by rw [h.1]; exact hi
  have jl : i < T[i].length := by rw [(h.row hi).1]; exact hi
  rw [ixn il, ixn jl]
  have bx : Bz k T[i][i] := (h.row hi).2 _ (List.getElem_mem _)
  have e2 : 1 + (i + 1) * (k + 1) ≤ 1 + n * (k + 1) := Nat.add_le_add_left (Nat.mul_le_mul_right _ hi) _
  have e3 : (i + 1) * (k + 1) = i * (k + 1) + (k + 1) := Nat.succ_mul _ _
  have bs : Bz (1 + i * (k + 1)) s := hI.2
  refine ⟨ixok il, ixok jl, ⟨bs.qz (by omega), bx.qz (by omega)⟩, fun t ht => ?_⟩
  subst ht
  refine ⟨?_, (bs.add bx).mono (by omega)⟩
  show _ = Sm i (fun i => mtx T i i) + mtx T i i
  rw [hI.1, mt_at il, vl_at jl]
theorem hoare_sq {n k a b : Nat} {T : List (List Rat)} {c : Rat} {l : List Rat} (h : Sh n n k T) (hc : Bz a c) (hl : Shr n b l) (hn : n ≤ 400) (e : k + a + 2 * b + 1 ≤ QB) : W_less_square__v_l T c l fun U => Sh n n (k + a + 2 * b + 1) U ∧ ∀ i j, i < n → j < n → mtx U i j = mtx T i j - c * vl l i * vl l j := by
  unfold W_less_square__v_l
  have zl : (T.zip l).length = n := by rw [List.length_zip, h.1, hl.1]; omega
  have rr : ∀ p ∈ T.zip l, Shr n k p.1 ∧ Bz b p.2 := fun p hp => ⟨h.2 _ (List.of_mem_zip hp).1, hl.2 _ (List.of_mem_zip hp).2⟩
  have rl : ∀ p ∈ T.zip l, (p.1.zip l).length = n := fun p hp => by rw [List.length_zip, (rr p hp).1.1, hl.1]; omega
  have bb : ∀ p ∈ T.zip l, ∀ q ∈ p.1.zip l, Bz k q.1 ∧ Bz b q.2 := fun p hp q hq => ⟨(rr p hp).1.2 _ (List.of_mem_zip hq).1, hl.2 _ (List.of_mem_zip hq).2⟩
  refine ⟨by rw [zl]; exact lmok hn, fun p hp => ⟨by rw [rl p hp]; exact lmok hn, fun q hq => ⟨⟨hc.qz (by omega), (rr p hp).2.qz (by omega)⟩, ⟨(hc.mul (rr p hp).2).qz (by omega), (bb p hp q hq).2.qz (by omega)⟩, (bb p hp q hq).1.qz (by omega), ((hc.mul (rr p hp).2).mul (bb p hp q hq).2).qz (by omega)⟩⟩, ⟨by rw [List.length_map, zl], fun r hr => ?_⟩, fun i j hi hj => ?_⟩
  · obtain ⟨p, hp, rfl⟩ := List.mem_map.mp hr
    refine ⟨by rw [List.length_map, rl p hp], fun y hy => ?_⟩
    obtain ⟨q, hq, rfl⟩ := List.mem_map.mp hy
    exact ((bb p hp q hq).1.sub ((hc.mul (rr p hp).2).mul (bb p hp q hq).2)).mono (by omega)
  · have ai : i < T.length := by rw [h.1]; exact hi
    have bi : i < l.length := by rw [hl.1]; exact hi
    have aj : j < T[i].length := by rw [(h.row hi).1]; exact hj
    have bj : j < l.length := by rw [hl.1]; exact hj
    rw [mt_map (by rw [zl]; exact hi), zip_at _ ai bi, vl_map (by rw [List.length_zip]; exact Nat.lt_min.mpr ⟨aj, bj⟩), zip_at _ aj bj, mt_at ai, vl_at aj, vl_at bi, vl_at bj]
theorem p_sq_l {n k a b : Nat} {T : List (List Rat)} {c : Rat} {l : List Rat} (h : Sh n n k T) (hc : Bz a c) (hl : Shr n b l) (hn : n ≤ 400) (e : k + a + 2 * b + 1 ≤ QB) : p_less_square__v_l_pre T c l ∧ Sh n n (k + a + 2 * b + 1) (p_less_square__v_l T c l) ∧ ∀ i j, i < n → j < n → mtx (p_less_square__v_l T c l) i j = mtx T i j - c * vl l i * vl l j := of_less_square__v_l T c l (hoare_sq h hc hl hn e)
theorem p_sq_t {n k a b : Nat} {T : List (List Rat)} {c : Rat} {l : List Rat} (h : Sh n n k T) (hc : Bz a c) (hl : Shr n b l) (hn : n ≤ 400) (e : k + a + 2 * b + 1 ≤ QB) : p_less_square__v_t_pre T c l ∧ Sh n n (k + a + 2 * b + 1) (p_less_square__v_t T c l) ∧ ∀ i j, i < n → j < n → mtx (p_less_square__v_t T c l) i j = mtx T i j - c * vl l i * vl l j := of_less_square__v_t (R := fun U => Sh n n (k + a + 2 * b + 1) U ∧ ∀ i j, i < n → j < n → mtx U i j = mtx T i j - c * vl l i * vl l j) T c l (hoare_sq h hc hl hn e)
end Ho
end

section
set_option linter.all false
/-! Ho5: lists of places, rows put. -/
namespace Ho
open Fw La
theorem irng2_len {a b : Nat} : (irng (a : Int) (b : Int)).length = b - a := by simp [irng]
theorem irng2_at {a b i : Nat} (h : i < (irng (a : Int) (b : Int)).length) : (irng (a : Int) (b : Int))[i] = ((a + i : Nat) : Int) := by simp [irng]
theorem irng2_mem {a b : Nat} {x : Int} : x ∈ irng (a : Int) (b : Int) ↔ ∃ i : Nat, a ≤ i ∧ i < b ∧ x = (i : Int) := by
  simp only [irng, List.mem_map, List.mem_range]
  constructor
  · rintro ⟨i, hi, e⟩; exact ⟨a + i, by omega, by omega, by omega⟩
  · rintro ⟨i, h1, h2, e⟩; exact ⟨i - a, by omega, by omega⟩
theorem setn {α : Type} {l : List α} {i : Nat} {x : α} (h : i < l.length) : setI l (i : Int) x = l.set i x := by
  have : nix l (i : Int) = i := by unfold nix; split <;> omega
  unfold setI; rw [this]
theorem Sh.set {m n k i : Nat} {T : List (List Rat)} {r : List Rat} (h : Sh m n k T) (hr : Shr n k r) : Sh m n k (T.set i r) :=
  ⟨by rw [List.length_set, h.1], fun x hx => by
    rcases List.mem_or_eq_of_mem_set hx with g | rfl
    · exact h.2 x g
    · exact hr⟩
theorem mt_set {T : List (List Rat)} {i a : Nat} {r : List Rat} (hi : i < T.length) (ha : a < T.length) : mtx (T.set i r) a = if a = i then vl r else mtx T a := by
  rw [mt_at (by rw [List.length_set]; exact ha), List.getElem_set]
  by_cases e : i = a
  · rw [if_pos e, if_pos e.symm]
  · rw [if_neg e, if_neg (fun h => e h.symm), mt_at ha]
end Ho
end

section
set_option linter.all false
/-! Ho6: the determinant. -/
namespace Ho
open Fw La
def rowD (T : List (List Rat)) (a : Nat) : List Rat := T.getD a []
theorem ixr {T : List (List Rat)} {i : Nat} (h : i < T.length) : ix T (i : Int) = rowD T i := by rw [ixn h]; unfold rowD; rw [gD h]
theorem ixv {l : List Rat} {i : Nat} (h : i < l.length) : ix l (i : Int) = vl l i := by rw [ixn h, vl_at h]
theorem mt_row {T : List (List Rat)} {a : Nat} : mtx T a = vl (rowD T a) := rfl
theorem row_mem {T : List (List Rat)} {a : Nat} (h : a < T.length) : rowD T a ∈ T := by unfold rowD; rw [gD h]; exact List.getElem_mem h
theorem row_set {T : List (List Rat)} {i a : Nat} {r : List Rat} (hi : i < T.length) (ha : a < T.length) : rowD (T.set i r) a = if a = i then r else rowD T a := by
  unfold rowD
  rw [gD (by rw [List.length_set]; exact ha), List.getElem_set, gD ha]
  by_cases e : i = a
  · rw [if_pos e, if_pos e.symm]
  · rw [if_neg e, if_neg (fun h => e h.symm)]
theorem Sh.of_rows {m n k : Nat} {T : List (List Rat)} (h : T.length = m) (hr : ∀ a, a < m → Shr n k (rowD T a)) : Sh m n k T := ⟨h, fun r hm => by
  obtain ⟨a, ha, rfl⟩ := List.mem_iff_getElem.mp hm
  have := hr a (by omega)
  unfold rowD at this
  rwa [gD ha] at this⟩
theorem Sh.rowD {m n k a : Nat} {T : List (List Rat)} (h : Sh m n k T) (ha : a < m) : Shr n k (rowD T a) := h.2 _ (row_mem (by rw [h.1]; exact ha))
theorem Shr.bz {n k j : Nat} {r : List Rat} (h : Shr n k r) (hj : j < n) : Bz k (vl r j) := by
  rw [vl_at (by rw [h.1]; exact hj)]; exact h.2 _ (List.getElem_mem _)
theorem Shr.mono {n k l : Nat} {r : List Rat} (h : Shr n k r) (e : k ≤ l) : Shr n l r := ⟨h.1, fun x hx => (h.2 x hx).mono e⟩
end Ho
end

section
set_option linter.all false
/-! Ho7: the determinant's walk through the lines. -/
namespace Ho
open Fw La
def blk (k : Nat) (A : Mat) : Mat := fun a b => A (k + a) (k + b)
/-- rows below k freed of column k, up to t of them -/
def Elim (n s k t : Nat) (R V : List (List Rat)) : Prop := V.length = n ∧ ∀ a, a < n → (k + 1 ≤ a ∧ a < k + 1 + t → Shr n (5 * s) (rowD V a) ∧ ∀ j, j < n → mtx V a j = mtx R a j - mtx R a k / mtx R k k * mtx R k j) ∧ (¬ (k + 1 ≤ a ∧ a < k + 1 + t) → rowD V a = rowD R a)
theorem det_inner {n s k : Nat} {R : List (List Rat)} (hR : Sh n n s R) (hk : k < n) (hn : n ≤ 400) (s1 : 1 ≤ s) (e : 5 * s ≤ QB) (p : mtx R k k ≠ 0) {C : List (List Rat) → Prop} (hC : ∀ V, Elim n s k (n - (k + 1)) R V → C V) :
    for1 ((irng (((k : Int) + (1 : Int))) ((R.length : Int)))) R (fun (i_42 : Nat) (i_41 : Int) (rows_39 : (List (List Rat))) N_43 => IxOk rows_39 i_41 ∧ IxOk rows_39 (k : Int) ∧ IxOk rows_39 i_41 ∧ IxOk ((ix rows_39 i_41)) (k : Int) ∧ IxOk rows_39 (k : Int) ∧ IxOk ((ix rows_39 (k : Int))) (k : Int) ∧ ((Qz ((ix ((ix rows_39 i_41)) (k : Int))) ∧ Qz ((ix ((ix rows_39 (k : Int))) (k : Int)))) ∧ (ix ((ix rows_39 (k : Int))) (k : Int)) ≠ 0) ∧ p_less_row_pre ((ix rows_39 i_41)) ((ix rows_39 (k : Int))) (((ix ((ix rows_39 i_41)) (k : Int)) / (ix ((ix rows_39 (k : Int))) (k : Int)))) ∧ IxOk rows_39 i_41 ∧ ∀ rows_53, rows_53 = (setI rows_39 i_41 ((p_less_row ((ix rows_39 i_41)) ((ix rows_39 (k : Int))) (((ix ((ix rows_39 i_41)) (k : Int)) / (ix ((ix rows_39 (k : Int))) (k : Int))))))) → N_43 rows_53) C := by
  have ee : irng (((k : Int) + (1 : Int))) ((R.length : Int)) = irng ((k + 1 : Nat) : Int) (n : Int) := by rw [hR.1]; rfl
  rw [ee]
  refine ⟨fun t V => Elim n s k t R V, ⟨hR.1, fun a ha => ⟨fun h => by omega, fun _ => rfl⟩⟩, fun t x V hx hV => ?_, fun V hV => hC V (by rw [irng2_len] at hV; exact hV)⟩
  obtain ⟨ht, rfl⟩ := List.getElem?_eq_some_iff.mp hx
  rw [irng2_at]
  rw [irng2_len] at ht
  obtain ⟨hl, hr⟩ := hV
  have ia : k + 1 + t < n := by omega
  have r1 := (hr (k + 1 + t) ia).2 (by omega)
  have r2 := (hr k hk).2 (by omega)
  have b1 := hR.rowD ia
  have b2 := hR.rowD hk
  rw [ixr (by rw [hl]; exact ia), ixr (by rw [hl]; exact hk), r1, r2, ixv (by rw [b1.1]; exact hk), ixv (by rw [b2.1]; exact hk)]
  have p' : vl (rowD R k) k ≠ 0 := p
  have bt : Bz (s + s) (vl (rowD R (k + 1 + t)) k / vl (rowD R k) k) := (b1.bz hk).div (b2.bz hk) p'
  obtain ⟨l1, l2, l3⟩ := p_less b1 b2 bt hn (by omega)
  refine ⟨ixok (by rw [hl]; exact ia), ixok (by rw [hl]; exact hk), ixok (by rw [hl]; exact ia), ixok (by rw [b1.1]; exact hk), ixok (by rw [hl]; exact hk), ixok (by rw [b2.1]; exact hk), ⟨⟨(b1.bz hk).qz (by omega), (b2.bz hk).qz (by omega)⟩, p'⟩, l1, ixok (by rw [hl]; exact ia), ?_⟩
  rintro W rfl
  rw [setn (by rw [hl]; exact ia)]
  refine ⟨by rw [List.length_set, hl], fun a ha => ?_⟩
  have rs : rowD (V.set (k + 1 + t) (p_less_row (rowD R (k + 1 + t)) (rowD R k) (vl (rowD R (k + 1 + t)) k / vl (rowD R k) k))) a = _ := row_set (by rw [hl]; exact ia) (by rw [hl]; exact ha)
  by_cases g : a = k + 1 + t
  · rw [if_pos g] at rs
    refine ⟨fun _ => ?_, fun h => absurd ⟨by omega, by omega⟩ h⟩
    rw [mt_row, rs]
    subst g
    exact ⟨l2.mono (by omega), fun j hj => l3 j hj⟩
  · rw [if_neg g] at rs
    rw [mt_row, rs]
    exact ⟨fun h => (hr a ha).1 ⟨h.1, by omega⟩, fun h => (hr a ha).2 (by omega)⟩
end Ho
end

section
set_option linter.all false
/-! Ho8: the determinant. -/
namespace Ho
open Fw La
theorem Elim.sh {n s k : Nat} {R V : List (List Rat)} (h : Elim n s k (n - (k + 1)) R V) (hR : Sh n n s R) (hk : k < n) : Sh n n (5 * s) V := Sh.of_rows h.1 fun a ha => by
  by_cases g : k + 1 ≤ a
  · exact ((h.2 a ha).1 ⟨g, by omega⟩).1
  · rw [(h.2 a ha).2 (by omega)]; exact (hR.rowD ha).mono (by omega)
theorem Elim.lp {n s k : Nat} {R V : List (List Rat)} (h : Elim n s k (n - (k + 1)) R V) (hk : k < n) (p : mtx R k k ≠ 0) : Lp (n - k) (blk k (mtx R)) = mtx R k k * Lp (n - (k + 1)) (blk (k + 1) (mtx V)) := by
  rw [show n - k = (n - (k + 1)) + 1 by omega, Lp_elim (A := blk k (mtx R)) p]
  show mtx R k k * _ = _
  congr 1
  refine Lp_congr _ fun i j hi hj => Eq.symm ?_
  have := ((h.2 (k + 1 + i) (by omega)).1 ⟨by omega, by omega⟩).2 (k + 1 + j) (by omega)
  show mtx V (k + 1 + i) (k + 1 + j) = mtx R (k + (i + 1)) (k + (j + 1)) - mtx R (k + (i + 1)) k / mtx R k k * mtx R k (k + (j + 1))
  rw [this, show k + (i + 1) = k + 1 + i by omega, show k + (j + 1) = k + 1 + j by omega]
theorem Sh.swap {n s i k : Nat} {R : List (List Rat)} (hR : Sh n n s R) (hi : i < n) (hk : k < n) : Sh n n s ((R.set k (Ho.rowD R i)).set i (Ho.rowD R k)) := (hR.set (hR.rowD hi)).set (hR.rowD hk)
theorem swap_row {n s i k a : Nat} {R : List (List Rat)} (hR : Sh n n s R) (hi : i < n) (hk : k < n) (ha : a < n) : mtx ((R.set k (Ho.rowD R i)).set i (Ho.rowD R k)) a = if a = i then mtx R k else if a = k then mtx R i else mtx R a := by
  rw [mt_row, row_set (by rw [List.length_set, hR.1]; exact hi) (by rw [List.length_set, hR.1]; exact ha), row_set (by rw [hR.1]; exact hk) (by rw [hR.1]; exact ha)]
  split
  · rfl
  · split <;> rfl
theorem swap_lp {n s i k : Nat} {R : List (List Rat)} (hR : Sh n n s R) (hi : i < n) (hk : k < i) : Lp (n - k) (blk k (mtx ((R.set k (Ho.rowD R i)).set i (Ho.rowD R k)))) = - Lp (n - k) (blk k (mtx R)) := by
  rw [← Lp_swap (n := n - k) (r := i - k) (s := 0) (A := blk k (mtx R)) (by omega) (by omega) (by omega)]
  refine Lp_congr _ fun a b ha hb => ?_
  unfold blk pr
  rw [swap_row hR hi (by omega) (by omega)]
  by_cases g : a = i - k
  · rw [if_pos (by omega), if_pos g]; rfl
  · rw [if_neg (by omega), if_neg g]
    by_cases g0 : a = 0
    · rw [if_pos (by omega), if_pos g0, show k + (i - k) = i by omega]
    · rw [if_neg (by omega), if_neg g0]
theorem Bz1 : Bz 1 ((1 : Int) : Rat) := ⟨by decide, by decide⟩
theorem pw_succ (i k0 : Nat) : 5 ^ (i + 1) * k0 = 5 * (5 ^ i * k0) := by rw [Nat.pow_succ, Nat.mul_comm (5 ^ i) 5, Nat.mul_assoc]
theorem pw_le {i n k0 : Nat} (h : i ≤ n) : 5 ^ i * k0 ≤ 5 ^ n * k0 := Nat.mul_le_mul_right _ (Nat.pow_le_pow_right (by omega) h)
theorem pw_pos {i k0 : Nat} (h : 1 ≤ k0) : 1 ≤ 5 ^ i * k0 := Nat.le_trans h (Nat.le_mul_of_pos_left _ (Nat.pow_pos (by omega)))
theorem p_det {n k0 : Nat} {T : List (List Rat)} (hT : Sh n n k0 T) (k1 : 1 ≤ k0) (n0 : 0 < n) (hn : n ≤ 400) (e : 5 ^ n * k0 ≤ QB) : p_determinant_pre T ∧ p_determinant T = Lp n (mtx T) ∧ Bz (5 ^ n * k0) (p_determinant T) := by
  refine of_determinant (R := fun r => r = Lp n (mtx T) ∧ Bz (5 ^ n * k0) r) T ?_
  refine ⟨check_square hT n0 hn, by rw [hT.1]; exact lmok hn, ?_⟩
  intro rows hrows found hfound
  rw [List.map_id'] at hrows
  subst rows
  rw [hT.1]
  refine ⟨rgok hn, fun i p => Sh n n (5 ^ i * k0) p.1 ∧ Bz (5 ^ i * k0) p.2 ∧ Lp n (mtx T) = p.2 * Lp (n - i) (blk i (mtx p.1)), ⟨by simpa using hT, by rw [hfound]; exact Bz.mono Bz1 (by simpa using k1), ?_⟩, ?_, ?_⟩
  · rw [hfound]
    show _ = 1 * _
    rw [Rat.one_mul]
    exact Lp_congr n fun i j _ _ => by unfold blk; rw [Nat.zero_add, Nat.zero_add]
  · intro k x rows found hx hI
    obtain ⟨hk, rfl⟩ := List.getElem?_eq_some_iff.mp hx
    rw [irng_at]
    rw [irng_len] at hk
    obtain ⟨hR, hf, hL⟩ := hI
    have s1 := pw_pos (i := k) k1
    have s5 : 5 * (5 ^ k * k0) ≤ QB := by rw [← pw_succ]; exact Nat.le_trans (pw_le hk) e
    rw [hR.1]
    refine ⟨⟨by unfold LM; omega, by unfold LM; omega⟩, by rw [irng2_len]; exact lmok (by omega), fun y hy => ?_, ?_⟩
    · obtain ⟨i, h1, h2, rfl⟩ := irng2_mem.mp hy
      refine ⟨ixok (by rw [hR.1]; exact h2), ?_⟩
      rw [ixr (by rw [hR.1]; exact h2)]
      exact ixok (by rw [(hR.rowD h2).1]; exact hk)
    intro at_ hat
    rw [List.map_id'] at hat
    have mem : ∀ y, y ∈ at_ ↔ ∃ i : Nat, k ≤ i ∧ i < n ∧ y = (i : Int) ∧ mtx rows i k ≠ 0 := fun y => by
      rw [hat, List.mem_filter, irng2_mem]
      constructor
      · rintro ⟨⟨i, h1, h2, rfl⟩, h3⟩
        rw [ixr (by rw [hR.1]; exact h2), ixv (by rw [(hR.rowD h2).1]; exact hk), ← mt_row] at h3
        exact ⟨i, h1, h2, rfl, qsgn0.mp (by simpa using h3)⟩
      · rintro ⟨i, h1, h2, rfl, h3⟩
        refine ⟨⟨i, h1, h2, rfl⟩, ?_⟩
        rw [ixr (by rw [hR.1]; exact h2), ixv (by rw [(hR.rowD h2).1]; exact hk), ← mt_row]
        simpa using qsgn0.mpr h3
    refine ⟨fun c => ?_, fun c => ?_⟩
    · have z : at_ = [] := List.length_eq_zero_iff.mp (by simpa using c)
      have c0 : Lp (n - k) (blk k (mtx rows)) = 0 := by
        rw [show n - k = (n - (k + 1)) + 1 by omega]
        refine Lp_col0 fun i hi => Classical.byContradiction fun h => ?_
        have := (mem ((k + i : Nat) : Int)).mpr ⟨k + i, by omega, by omega, rfl, h⟩
        rw [z] at this; simp at this
      rw [c0, Rat.mul_zero] at hL
      exact ⟨hL.symm, Bz.mono Bz0 (pw_pos k1)⟩
    · have al : 0 < at_.length := by
        have : ¬ at_.length = 0 := by simpa using c
        omega
      obtain ⟨i, h1, h2, h3, h4⟩ := (mem _).mp (List.getElem_mem al)
      rw [show ix at_ (0 : Int) = (i : Int) from (ix0 al).trans h3]
      have rl : ∀ {x}, x < n → x < rows.length := fun h => by rw [hR.1]; exact h
      refine ⟨ixok al, fun p => Sh n n (5 ^ k * k0) p.1 ∧ Bz (5 ^ k * k0) p.2 ∧ mtx p.1 k k ≠ 0 ∧ Lp n (mtx T) = p.2 * Lp (n - k) (blk k (mtx p.1)), ?_, fun ne => ?_, fun eq => ?_⟩
      · rintro V g ⟨hV, hg, p, hq⟩
        have bp := (hV.rowD hk).bz hk
        rw [ixr (by rw [hV.1]; exact hk), ixv (by rw [(hV.rowD hk).1]; exact hk)]
        refine ⟨ixok (by rw [hV.1]; exact hk), ixok (by rw [(hV.rowD hk).1]; exact hk), ⟨hg.qz (by omega), bp.qz (by omega)⟩, ?_⟩
        rintro g' rfl
        refine ⟨⟨by unfold LM; omega, by rw [hV.1]; unfold LM; omega⟩, ?_⟩
        refine det_inner hV hk hn s1 s5 p fun W hW => ⟨?_, ?_, ?_⟩
        · rw [pw_succ]; exact hW.sh hV hk
        · rw [pw_succ]; exact (hg.mul bp).mono (by omega)
        · rw [hq, hW.lp hk p, ← Rat.mul_assoc]; rfl
      · have ik : ¬ i = k := by
          have : (i : Int) ≠ (k : Int) := by simpa using ne
          omega
        refine ⟨ixok al, ixok (rl h2), ixok (rl hk), hf.qz (by omega), ixok al, ixok (rl hk), ixok (rl h2), ?_⟩
        rintro V hV g rfl
        rw [ixr (rl h2), ixr (rl hk), setn (rl hk), setn (by rw [List.length_set]; exact rl h2)] at hV
        subst hV
        refine ⟨hR.swap h2 hk, hf.neg, ?_, ?_⟩
        · rw [swap_row hR h2 hk hk, if_neg (fun h => ik h.symm), if_pos rfl]; exact h4
        · rw [swap_lp hR h2 (by omega), hL]; grind
      · have ik : i = k := by
          have : (i : Int) = (k : Int) := by simpa using eq
          omega
        subst ik
        exact ⟨hR, hf, h4, hL⟩
  · rintro rows found ⟨hR, hf, hL⟩
    rw [irng_len] at hR hf hL
    rw [Nat.sub_self] at hL
    exact ⟨by rw [hL]; exact (Rat.mul_one _).symm, hf⟩
end Ho
end

section
set_option linter.all false
/-! Ho9: stairs. -/
namespace Ho
open Fw La
theorem cut_take {α : Type} {l : List α} {r : Nat} (h : r ≤ l.length) : cutL l none (some (r : Int)) = l.take r := by
  unfold cutL
  have e1 : HT.sIx l.length 0 none = 0 := rfl
  have e2 : HT.sIx l.length l.length (some (r : Int)) = r := (HT.sIx_nat ..).trans (Nat.min_eq_left h)
  rw [e1, e2, List.drop_zero, Nat.sub_zero]
theorem cut_drop {α : Type} {l : List α} {r : Nat} (h : r ≤ l.length) : cutL l (some (r : Int)) none = l.drop r := by
  unfold cutL
  have e1 : HT.sIx l.length l.length none = l.length := rfl
  have e2 : HT.sIx l.length 0 (some (r : Int)) = r := (HT.sIx_nat ..).trans (Nat.min_eq_left h)
  rw [e1, e2, List.take_of_length_le (by rw [List.length_drop]; exact Nat.le_refl _)]
/-- rows but r freed of column k, up to t of them -/
def Clr (m n s r k t : Nat) (R V : List (List Rat)) : Prop := V.length = m ∧ ∀ a, a < m → (a < t ∧ a ≠ r → Shr n (5 * s) (rowD V a) ∧ ∀ j, j < n → mtx V a j = mtx R a j - mtx R a k * mtx R r j) ∧ (¬ (a < t ∧ a ≠ r) → rowD V a = rowD R a)
theorem ech_inner {m n s r k : Nat} {R : List (List Rat)} (hl : R.length = m) (hR : Shr n (2 * s) (rowD R r)) (hR2 : ∀ a, a < m → a ≠ r → Shr n s (rowD R a)) (hr : r < m) (hk : k < n) (hm : m ≤ 400) (hn : n ≤ 400) (s1 : 1 ≤ s) (e : 5 * s ≤ QB) {C : List (List Rat) → Prop} (hC : ∀ V, Clr m n s r k m R V → C V) :
    for1 ((irng 0 ((R.length : Int)))) R (fun (i_59 : Nat) (i_58 : Int) (rows_56 : (List (List Rat))) N_60 => ((decide (i_58 ≠ (r : Int))) = true → IxOk rows_56 i_58 ∧ IxOk ((ix rows_56 i_58)) (k : Int)) ∧ (((decide (i_58 ≠ (r : Int))) && (decide ((qsgn ((ix ((ix rows_56 i_58)) (k : Int)))) ≠ (0 : Int)))) = true → IxOk rows_56 i_58 ∧ IxOk rows_56 (r : Int) ∧ IxOk rows_56 i_58 ∧ IxOk ((ix rows_56 i_58)) (k : Int) ∧ p_less_row_pre ((ix rows_56 i_58)) ((ix rows_56 (r : Int))) ((ix ((ix rows_56 i_58)) (k : Int))) ∧ IxOk rows_56 i_58 ∧ ∀ rows_68, rows_68 = (setI rows_56 i_58 ((p_less_row ((ix rows_56 i_58)) ((ix rows_56 (r : Int))) ((ix ((ix rows_56 i_58)) (k : Int)))))) → N_60 rows_68) ∧ (((decide (i_58 ≠ (r : Int))) && (decide ((qsgn ((ix ((ix rows_56 i_58)) (k : Int)))) ≠ (0 : Int)))) = false → N_60 rows_56)) C := by
  rw [hl]
  refine ⟨fun t V => Clr m n s r k t R V, ⟨hl, fun a ha => ⟨fun h => by omega, fun _ => rfl⟩⟩, fun t x V hx hV => ?_, fun V hV => hC V (by rw [irng_len] at hV; exact hV)⟩
  obtain ⟨ht, rfl⟩ := List.getElem?_eq_some_iff.mp hx
  rw [irng_at]
  rw [irng_len] at ht
  obtain ⟨vl_, hr_⟩ := hV
  have r1 := (hr_ t ht).2 (by omega)
  have r2 := (hr_ r hr).2 (by omega)
  have bx : (rowD R t).length = n := by
    by_cases g : t = r
    · rw [g]; exact hR.1
    · exact (hR2 t ht g).1
  have tl : t < V.length := by rw [vl_]; exact ht
  have rl : r < V.length := by rw [vl_]; exact hr
  rw [ixr tl, ixr rl, r1, r2, ixv (by rw [bx]; exact hk)]
  have nx : ∀ {a}, a < m → a ≠ t → (a < t + 1 ∧ a ≠ r ↔ a < t ∧ a ≠ r) := fun ha h => by omega
  refine ⟨fun _ => ⟨ixok tl, ixok (by rw [bx]; exact hk)⟩, fun c => ?_, fun c => ?_⟩
  · rw [Bool.and_eq_true, decide_eq_true_eq, decide_eq_true_eq] at c
    have tr : t ≠ r := fun h => c.1 (by rw [h])
    have b1 := hR2 t ht tr
    obtain ⟨l1, l2, l3⟩ := p_less b1 hR (b1.bz hk) hn (by omega)
    refine ⟨ixok tl, ixok rl, ixok tl, ixok (by rw [bx]; exact hk), l1, ixok tl, ?_⟩
    rintro W rfl
    rw [setn tl]
    refine ⟨by rw [List.length_set, vl_], fun a ha => ?_⟩
    have rs : rowD (V.set t (p_less_row (rowD R t) (rowD R r) (vl (rowD R t) k))) a = _ := row_set tl (by rw [vl_]; exact ha)
    by_cases g : a = t
    · rw [if_pos g] at rs
      refine ⟨fun _ => ?_, fun h => absurd ⟨by omega, by omega⟩ h⟩
      rw [mt_row, rs]
      subst g
      exact ⟨l2.mono (by omega), fun j hj => l3 j hj⟩
    · rw [if_neg g] at rs
      rw [mt_row, rs, nx ha g]
      exact hr_ a ha
  · refine ⟨vl_, fun a ha => ?_⟩
    by_cases g : a = t
    · subst g
      refine ⟨fun h => ?_, fun _ => r1⟩
      have z : vl (rowD R a) k = 0 := by
        rw [Bool.and_eq_false_iff, decide_eq_false_iff_not, decide_eq_false_iff_not] at c
        rcases c with c | c
        · exact absurd (fun h' => h.2 (by omega)) c
        · exact Classical.byContradiction fun h' => c (qsgn0.mpr h')
      rw [mt_row, r1]
      refine ⟨(hR2 a ha h.2).mono (by omega), fun j hj => ?_⟩
      show vl (rowD R a) j = vl (rowD R a) j - vl (rowD R a) k * _
      rw [z]; grind
    · rw [nx ha g]; exact hr_ a ha
/-- a filtered list of places -/
theorem at_mem {m n s r k : Nat} {R : List (List Rat)} (hR : Sh m n s R) (hk : k < n) {y : Int} : y ∈ (((irng (r : Int) (m : Int)).filter fun i => decide (qsgn (ix (ix R i) (k : Int)) ≠ 0)).map fun i => i) ↔ ∃ i : Nat, r ≤ i ∧ i < m ∧ y = (i : Int) ∧ mtx R i k ≠ 0 := by
  rw [List.map_id', List.mem_filter, irng2_mem]
  constructor
  · rintro ⟨⟨i, h1, h2, rfl⟩, h3⟩
    rw [ixr (by rw [hR.1]; exact h2), ixv (by rw [(hR.rowD h2).1]; exact hk), ← mt_row] at h3
    exact ⟨i, h1, h2, rfl, qsgn0.mp (by simpa using h3)⟩
  · rintro ⟨i, h1, h2, rfl, h3⟩
    refine ⟨⟨i, h1, h2, rfl⟩, ?_⟩
    rw [ixr (by rw [hR.1]; exact h2), ixv (by rw [(hR.rowD h2).1]; exact hk), ← mt_row]
    simpa using qsgn0.mpr h3
theorem p_ech {m n k0 : Nat} {T : List (List Rat)} (hT : Sh m n k0 T) (k1 : 1 ≤ k0) (m0 : 0 < m) (hm : m ≤ 400) (hn : n ≤ 400) (e : 5 ^ (min m n) * k0 ≤ QB) : p_echelon_pre T ∧ ∃ (r : Nat) (q : Nat → Nat) (R : List (List Rat)), EI m n n r (mtx T) (mtx R) q ∧ Sh m n (5 ^ r * k0) R ∧ p_echelon T = (R.take r, (List.range r).map fun b => (q b : Int)) := by
  refine of_echelon (R := fun z => ∃ (r : Nat) (q : Nat → Nat) (R : List (List Rat)), EI m n n r (mtx T) (mtx R) q ∧ Sh m n (5 ^ r * k0) R ∧ z = (R.take r, (List.range r).map fun b => (q b : Int))) T ?_
  refine ⟨check_table hT hm hn, by rw [hT.1]; exact lmok hm, ?_⟩
  intro rows hrows places hplaces
  rw [List.map_id'] at hrows
  subst rows
  subst places
  rw [wide_sh hT m0]
  refine ⟨rgok hn, fun k p => ∃ (r : Nat) (q : Nat → Nat), EI m n k r (mtx T) (mtx p.1) q ∧ Sh m n (5 ^ r * k0) p.1 ∧ p.2 = (List.range r).map fun b => (q b : Int), ⟨0, fun _ => 0, EI.init, by simpa using hT, rfl⟩, ?_, ?_⟩
  · intro k x R P hx hI
    obtain ⟨hk, rfl⟩ := List.getElem?_eq_some_iff.mp hx
    rw [irng_at]
    rw [irng_len] at hk
    obtain ⟨r, q, hE, hR, rfl⟩ := hI
    have pl : ((List.range r).map fun b => (q b : Int)).length = r := by simp
    rw [pl, hR.1]
    have rm := hE.rm
    have rk := hE.rk
    have rl : ∀ {x}, x < m → x < R.length := fun h => by rw [hR.1]; exact h
    refine ⟨⟨⟨by omega, by unfold LM; omega⟩, by omega, by unfold LM; omega⟩, by rw [irng2_len]; exact lmok (by omega), fun y hy => ?_, ?_⟩
    · obtain ⟨i, h1, h2, rfl⟩ := irng2_mem.mp hy
      refine ⟨ixok (rl h2), ?_⟩
      rw [ixr (rl h2)]
      exact ixok (by rw [(hR.rowD h2).1]; exact hk)
    intro at_ hat
    have mem : ∀ y, y ∈ at_ ↔ ∃ i : Nat, r ≤ i ∧ i < m ∧ y = (i : Int) ∧ mtx R i k ≠ 0 := fun y => by rw [hat]; exact at_mem hR hk
    refine ⟨fun c => ?_, fun c => ?_⟩
    · rintro top rfl
      have al : 0 < at_.length := by simpa using c
      obtain ⟨i, h1, h2, h3, h4⟩ := (mem _).mp (List.getElem_mem al)
      rw [show ix at_ (0 : Int) = (i : Int) from (ix0 al).trans h3]
      have rr : r < m := by omega
      have s1 := pw_pos (i := r) k1
      have s5 : 5 * (5 ^ r * k0) ≤ QB := by rw [← pw_succ]; exact Nat.le_trans (pw_le (by rw [Nat.le_min]; omega)) e
      refine ⟨ixok al, ixok (rl h2), ixok (rl rr), ixok al, ixok (rl rr), ixok (rl h2), ?_⟩
      intro R1 hR1
      rw [ixr (rl h2), ixr (rl rr), setn (rl rr), setn (by rw [List.length_set]; exact rl h2)] at hR1
      have L1 : R1.length = m := by rw [hR1, List.length_set, List.length_set, hR.1]
      have D1 : ∀ a, a < m → rowD R1 a = if a = i then rowD R r else if a = r then rowD R i else rowD R a := fun a ha => by
        rw [hR1, row_set (by rw [List.length_set]; exact rl h2) (by rw [List.length_set]; exact rl ha)]
        by_cases g : a = i
        · rw [if_pos g, if_pos g]
        · rw [if_neg g, if_neg g, row_set (rl rr) (rl ha)]
      have S1 : ∀ a, a < m → Shr n (5 ^ r * k0) (rowD R1 a) := fun a ha => by
        rw [D1 a ha]
        split
        · exact hR.rowD rr
        · split
          · exact hR.rowD h2
          · exact hR.rowD ha
      have Dr : rowD R1 r = rowD R i := by
        rw [D1 r rr]
        split
        · rename_i g; rw [g]
        · rw [if_pos rfl]
      have rl1 : r < R1.length := by rw [L1]; exact rr
      rw [ixr rl1, Dr, ixv (by rw [(hR.rowD h2).1]; exact hk)]
      refine ⟨ixok rl1, ixok (by rw [(hR.rowD h2).1]; exact hk), ?_⟩
      rintro lead rfl
      have bi := hR.rowD h2
      have l0 : vl (rowD R i) k ≠ 0 := h4
      refine ⟨ixok rl1, by rw [bi.1]; exact lmok hn, fun x hx => ⟨⟨(bi.2 x hx).qz (by omega), (bi.bz hk).qz (by omega)⟩, l0⟩, ixok rl1, ?_⟩
      intro R2 hR2
      rw [setn rl1] at hR2
      have L2 : R2.length = m := by rw [hR2, List.length_set, L1]
      have D2 : ∀ a, a < m → rowD R2 a = if a = r then (rowD R i).map (fun x => x / vl (rowD R i) k) else rowD R1 a := fun a ha => by rw [hR2, row_set rl1 (by rw [L1]; exact ha)]
      have Q2 : Shr n (2 * (5 ^ r * k0)) ((rowD R i).map (fun x => x / vl (rowD R i) k)) := ⟨by rw [List.length_map, bi.1], fun y hy => by
        obtain ⟨x, hx, rfl⟩ := List.mem_map.mp hy
        exact ((bi.2 x hx).div (bi.bz hk) l0).mono (by omega)⟩
      refine ⟨by rw [L2]; exact rgok hm, ech_inner L2 (by rw [D2 r rr, if_pos rfl]; exact Q2) (fun a ha h => by rw [D2 a ha, if_neg h]; exact S1 a ha) rr hk hm hn s1 s5 fun V hV => ⟨by unfold LM; omega, ?_⟩⟩
      rintro P' rfl
      obtain ⟨VL, hV⟩ := hV
      have Vs : ∀ a, a < m → Shr n (5 ^ (r + 1) * k0) (rowD V a) := fun a ha => by
        rw [pw_succ]
        by_cases g : a = r
        · rw [(hV a ha).2 (by omega), D2 a ha, if_pos g]
          exact Q2.mono (by omega)
        · exact ((hV a ha).1 ⟨ha, g⟩).1
      refine ⟨r + 1, fun b => if b = r then k else q b, hE.step hk h1 h2 h4 (fun a j ha hj => ?_) (fun b => rfl), Sh.of_rows VL Vs, ?_⟩
      · have m2 : ∀ {x}, x < n → mtx R2 r x = mtx R i x / mtx R i k := fun hx => by
          rw [mt_row, D2 r rr, if_pos rfl, vl_map (by rw [bi.1]; exact hx), ← vl_at (by rw [bi.1]; exact hx)]; rfl
        by_cases g : a = r
        · rw [if_pos g, mt_row, (hV a ha).2 (by omega), ← mt_row, g, m2 hj]
        · rw [if_neg g, ((hV a ha).1 ⟨ha, g⟩).2 j hj, m2 hj]
          have m1 : mtx R2 a = if a = i then mtx R r else mtx R a := by
            rw [mt_row, D2 a ha, if_neg g, D1 a ha, if_neg g]
            split
            · rfl
            · rfl
          rw [m1]
          by_cases g2 : a = i
          · rw [if_pos g2, if_pos g2, if_pos g2]
          · rw [if_neg g2, if_neg g2, if_neg g2]
      · show _ ++ [(k : Int)] = _
        rw [List.range_succ, List.map_append, List.map_singleton, show (fun b => if b = r then k else q b) r = k from if_pos rfl]
        congr 1
        refine List.map_congr_left fun b hb => ?_
        rw [List.mem_range] at hb
        show _ = ((if b = r then k else q b : Nat) : Int)
        rw [if_neg (by omega)]
    · have z : at_ = [] := List.length_eq_zero_iff.mp (by have : ¬ 0 < at_.length := by simpa using c
                                                          omega)
      refine ⟨r, q, hE.none fun a h1 h2 => Classical.byContradiction fun h => ?_, hR, rfl⟩
      have := (mem (a : Int)).mpr ⟨a, h1, h2, rfl, h⟩
      rw [z] at this; simp at this
  · rintro R P ⟨r, q, hE, hR, rfl⟩
    rw [irng_len] at hE
    have pl : ((List.range r).map fun b => (q b : Int)).length = r := by simp
    have rm := hE.rm
    rw [pl, cut_take (by rw [hR.1]; exact rm), List.map_id']
    exact ⟨by rw [List.length_take]; exact lmok (by omega), r, q, R, hE, hR, rfl⟩
theorem p_rank {m n k0 : Nat} {T : List (List Rat)} (hT : Sh m n k0 T) (k1 : 1 ≤ k0) (m0 : 0 < m) (hm : m ≤ 400) (hn : n ≤ 400) (e : 5 ^ (min m n) * k0 ≤ QB) : p_table_rank_pre T ∧ ∃ r : Nat, p_table_rank T = (r : Int) ∧ Rk m n (mtx T) r := by
  obtain ⟨h1, r, q, R, hE, hR, hP⟩ := p_ech hT k1 m0 hm hn e
  refine of_table_rank (R := fun z => ∃ r : Nat, z = (r : Int) ∧ Rk m n (mtx T) r) T ?_
  refine ⟨h1, r, ?_, hE.rank⟩
  rw [hP]; simp
end Ho
end

section
set_option linter.all false
/-! Ho10: inverse, the first pair. -/
namespace Ho
open Fw La
theorem p_inv {n k0 : Nat} {T : List (List Rat)} (hT : Sh n n k0 T) (k1 : 1 ≤ k0) (n0 : 0 < n) (hn : n ≤ 200) (e : 5 ^ n * k0 ≤ QB) (d : Lp n (mtx T) ≠ 0) : p_inverse_pre T ∧ Sh n n (5 ^ n * k0) (p_inverse T) ∧ ∀ i j, i < n → j < n → Sm n (fun b => mtx T i b * mtx (p_inverse T) b j) = if i = j then 1 else 0 := by
  refine of_inverse (R := fun B => Sh n n (5 ^ n * k0) B ∧ ∀ i j, i < n → j < n → Sm n (fun b => mtx T i b * mtx B b j) = if i = j then 1 else 0) T ?_
  refine ⟨check_square hT n0 (by omega), ?_⟩
  rintro n3 rfl
  rw [hT.1]
  obtain ⟨u1, u2, u3⟩ := p_unit (n := n) (by omega)
  have zl : (T.zip (p_unit_table (n : Int))).length = n := by rw [List.length_zip, hT.1, u2.1]; omega
  have rr : ∀ p ∈ T.zip (p_unit_table (n : Int)), Shr n k0 p.1 ∧ Shr n 1 p.2 := fun p hp => ⟨hT.2 _ (List.of_mem_zip hp).1, u2.2 _ (List.of_mem_zip hp).2⟩
  have hJ : Sh n (n + n) k0 ((T.zip (p_unit_table (n : Int))).map fun p => p.1 ++ p.2) := ⟨by rw [List.length_map, zl], fun r hr => by
    obtain ⟨p, hp, rfl⟩ := List.mem_map.mp hr
    refine ⟨by rw [List.length_append, (rr p hp).1.1, (rr p hp).2.1], fun x hx => ?_⟩
    rcases List.mem_append.mp hx with g | g
    · exact (rr p hp).1.2 x g
    · exact ((rr p hp).2.2 x g).mono k1⟩
  have J1 : ∀ i, (h : i < n) → mtx ((T.zip (p_unit_table (n : Int))).map fun p => p.1 ++ p.2) i = vl (rowD T i ++ rowD (p_unit_table (n : Int)) i) := fun i h => by
    have a1 : i < T.length := by rw [hT.1]; exact h
    have a2 : i < (p_unit_table (n : Int)).length := by rw [u2.1]; exact h
    rw [mt_map (by rw [zl]; exact h), zip_at _ a1 a2]
    unfold rowD
    rw [gD a1, gD a2]
  have J2 : ∀ i j, i < n → j < n → mtx ((T.zip (p_unit_table (n : Int))).map fun p => p.1 ++ p.2) i j = mtx T i j := fun i j hi hj => by
    rw [J1 i hi, mt_row]
    unfold vl
    exact gA (by rw [(hT.rowD hi).1]; exact hj)
  have J3 : ∀ i j, i < n → j < n → mtx ((T.zip (p_unit_table (n : Int))).map fun p => p.1 ++ p.2) i (n + j) = if i = j then 1 else 0 := fun i j hi hj => by
    rw [← u3 i j hi hj, J1 i hi, mt_row]
    unfold vl
    have := gB (l := rowD T i) (m := rowD (p_unit_table (n : Int)) i) (a := j) (d := (0 : Rat))
    rwa [(hT.rowD hi).1] at this
  refine ⟨u1, by rw [zl]; exact lmok (by omega), fun p hp => by rw [(rr p hp).1.1, (rr p hp).2.1]; unfold LM; omega, ?_⟩
  generalize hjj : ((T.zip (p_unit_table (n : Int))).map fun p => p.1 ++ p.2) = J at *
  obtain ⟨h1, r, q, R, hE, hR, hP⟩ := p_ech hJ k1 n0 (by omega) (by omega) (by rw [Nat.min_eq_left (by omega)]; exact e)
  obtain ⟨rn, q1, inv⟩ := hE.inv J2 J3 d
  subst rn
  refine ⟨h1, ?_⟩
  rintro rows rfl places rfl
  rw [hP]
  have pe : ((List.range r).map fun b => (q b : Int)) = irng 0 (r : Int) := by
    unfold irng
    rw [show ((r : Int) - 0).toNat = r by omega]
    refine List.map_congr_left fun b hb => ?_
    rw [List.mem_range] at hb
    rw [q1 b hb]; omega
  have te : R.take r = R := List.take_of_length_le (by rw [hR.1]; exact Nat.le_refl _)
  refine ⟨rgok (by omega), fun c => ?_, fun _ => ?_⟩
  · simp [pe] at c
  · show LmOk (R.take r).length ∧ _
    rw [te]
    have ce : ∀ row ∈ R, cutL row (some (r : Int)) none = row.drop r := fun row hr => cut_drop (by rw [(hR.2 row hr).1]; omega)
    rw [List.map_congr_left ce]
    refine ⟨by rw [hR.1]; exact lmok (by omega), ⟨by rw [List.length_map, hR.1], fun x hx => ?_⟩, fun i j hi hj => ?_⟩
    · obtain ⟨row, hr, rfl⟩ := List.mem_map.mp hx
      exact ⟨by rw [List.length_drop, (hR.2 row hr).1]; omega, fun y hy => (hR.2 row hr).2 y (List.mem_of_mem_drop hy)⟩
    · rw [← inv i j hi hj]
      refine Sm_congr fun b hb => ?_
      have bl : b < R.length := by rw [hR.1]; exact hb
      rw [mt_map bl, mt_at bl]
      congr 1
      unfold vl
      simp
theorem enm_at {α : Type} {l : List α} {i : Nat} {p : Int × α} (h : (enm l)[i]? = some p) : ∃ hi : i < l.length, p = ((i : Int), l[i]) := by
  unfold enm at h
  rw [List.getElem?_map, List.getElem?_zipIdx] at h
  by_cases g : i < l.length
  · rw [List.getElem?_eq_getElem g] at h
    simp at h
    exact ⟨g, h.symm⟩
  · rw [List.getElem?_eq_none (by omega)] at h
    simp at h
theorem enm_len {α : Type} {l : List α} : (enm l).length = l.length := by simp [enm]
theorem p_first {n k : Nat} {T : List (List Rat)} (hT : Sh n n k T) (h : ∃ i j, i < n ∧ j < n ∧ mtx T i j ≠ 0) : p_first_pair_pre T ∧ ∃ i j : Nat, i < n ∧ j < n ∧ mtx T i j ≠ 0 ∧ p_first_pair T = ((i : Int), (j : Int)) := by
  refine of_first_pair (R := fun z => ∃ i j : Nat, i < n ∧ j < n ∧ mtx T i j ≠ 0 ∧ z = ((i : Int), (j : Int))) T ?_
  refine ⟨fun t _ => ∀ i j, i < t → i < n → j < n → mtx T i j = 0, fun i j hi => by omega, fun t x hx hI => ?_, fun hI => ?_⟩
  · obtain ⟨tl, rfl⟩ := enm_at hx
    have tn : t < n := by rw [← hT.1]; exact tl
    refine ⟨fun s _ => ∀ j, j < s → j < n → mtx T t j = 0, fun j hj => by omega, fun s y hy hJ => ?_, fun hJ i j hi h1 h2 => ?_⟩
    · obtain ⟨sl, rfl⟩ := enm_at hy
      have sl' : s < T[t].length := sl
      have sn : s < n := by rw [← (hT.row tn).1]; exact sl
      have e : mtx T t s = T[t][s] := by rw [mt_at tl, vl_at sl']
      refine ⟨fun c => ⟨t, s, tn, sn, ?_, rfl⟩, fun c j hj h2 => ?_⟩
      · rw [e]; exact qsgn0.mp (by simpa using c)
      · by_cases g : j = s
        · rw [g, e]
          exact Classical.byContradiction fun h => by
            have := qsgn0.mpr h
            simp at c
            exact this c
        · exact hJ j (by omega) h2
    · rw [enm_len] at hJ
      by_cases g : i = t
      · rw [g]
        refine hJ j ?_ h2
        show j < T[t].length
        rw [(hT.row tn).1]; exact h2
      · exact hI i j (by omega) h1 h2
  · rw [enm_len] at hI
    obtain ⟨i, j, hi, hj, hz⟩ := h
    exact hz (hI i j (by rw [hT.1]; exact hi) hi hj)
end Ho
end

section
set_option linter.all false
set_option maxHeartbeats 1000000
/-! Ho11: squares told, signs. -/
namespace Ho
open Fw La
def sqs (l : List (Rat × List Rat)) : List Sq := l.map fun p => (p.1, vl p.2)
theorem sqs_len {l : List (Rat × List Rat)} : (sqs l).length = l.length := by simp [sqs]
theorem sqs_app {l m : List (Rat × List Rat)} : sqs (l ++ m) = sqs l ++ sqs m := by simp [sqs]
/-- n rows of n -/
def Sq2 (n : Nat) (T : List (List Rat)) : Prop := T.length = n ∧ ∀ r ∈ T, r.length = n
theorem Sh.sq {n k : Nat} {T : List (List Rat)} (h : Sh n n k T) : Sq2 n T := ⟨h.1, fun r hr => (h.2 r hr).1⟩
theorem Sq2.sh {n k : Nat} {T : List (List Rat)} (h : Sq2 n T) (b : ∀ i j, i < n → j < n → Bz k (mtx T i j)) : Sh n n k T := ⟨h.1, fun r hr => ⟨h.2 r hr, fun x hx => by
  obtain ⟨i, hi, rfl⟩ := List.mem_iff_getElem.mp hr
  obtain ⟨j, hj, rfl⟩ := List.mem_iff_getElem.mp hx
  have := b i j (by rw [← h.1]; exact hi) (by rw [← h.2 _ hr]; exact hj)
  rwa [mt_at hi, vl_at hj] at this⟩⟩
theorem any_nz {n : Nat} {T : List (List Rat)} (h : Sq2 n T) : ((T.map fun row => ((row.map fun x => decide (qsgn x ≠ 0)).any id)).any id) = true ↔ ∃ i j, i < n ∧ j < n ∧ mtx T i j ≠ 0 := by
  simp only [List.any_map, List.any_eq_true]
  constructor
  · rintro ⟨row, hr, c⟩
    simp only [Function.comp, List.any_eq_true, List.any_map, id] at c
    obtain ⟨x, hx, c⟩ := c
    obtain ⟨i, hi, rfl⟩ := List.mem_iff_getElem.mp hr
    obtain ⟨j, hj, rfl⟩ := List.mem_iff_getElem.mp hx
    refine ⟨i, j, by rw [← h.1]; exact hi, by rw [← h.2 _ hr]; exact hj, ?_⟩
    rw [mt_at hi, vl_at hj]
    exact qsgn0.mp (by simpa using c)
  · rintro ⟨i, j, hi, hj, c⟩
    have hi' : i < T.length := by rw [h.1]; exact hi
    have hj' : j < T[i].length := by rw [h.2 _ (List.getElem_mem hi')]; exact hj
    rw [mt_at hi', vl_at hj'] at c
    refine ⟨T[i], List.getElem_mem _, ?_⟩
    simp only [Function.comp, List.any_eq_true, List.any_map, id]
    exact ⟨T[i][j], List.getElem_mem _, by simpa using qsgn0.mpr c⟩
theorem any_z {n : Nat} {T : List (List Rat)} (h : Sq2 n T) (c : ((T.map fun row => ((row.map fun x => decide (qsgn x ≠ 0)).any id)).any id) = false) : ∀ i j, i < n → j < n → mtx T i j = 0 := fun i j hi hj => Classical.byContradiction fun g => by
  have := (any_nz h).mpr ⟨i, j, hi, hj, g⟩
  rw [c] at this; cases this
theorem ix_neg {α : Type} [Inhabited α] {l : List α} {i : Int} {a : Nat} (h : -(l.length : Int) ≤ i) (hi : i < 0) (ha : (a : Int) = i + l.length) (hl : a < l.length) : ix l i = l[a] := by
  have e : IxOk l i := ⟨h, by omega⟩
  have e2 : nix l i = a := by unfold nix; rw [if_pos hi]; omega
  unfold ix L2.atI
  rw [(ixN_ok e).1, e2]
  show (l[a]?).getD default = _
  rw [List.getElem?_eq_getElem hl]; rfl
theorem p3_succ (i k0 : Nat) : 3 ^ (i + 1) * k0 = 3 * (3 ^ i * k0) := by rw [Nat.pow_succ, Nat.mul_comm (3 ^ i) 3, Nat.mul_assoc]
theorem p3_le {i n k0 : Nat} (h : i ≤ n) : 3 ^ i * k0 ≤ 3 ^ n * k0 := Nat.mul_le_mul_right _ (Nat.pow_le_pow_right (by omega) h)
theorem p3_pos {i k0 : Nat} (h : 1 ≤ k0) : 1 ≤ 3 ^ i * k0 := Nat.le_trans h (Nat.le_mul_of_pos_left _ (Nat.pow_pos (by omega)))
theorem half_eq (x : Rat) : x * Rat.divInt 1 2 = x / 2 := by
  rw [Rat.div_def, Rat.divInt_eq_div, Rat.div_def]
  show x * (1 * (2 : Rat)⁻¹) = _
  rw [Rat.one_mul]
theorem Bzh : Bz 2 (Rat.divInt 1 2) := ⟨by decide, by decide⟩
theorem one_c : ((1 : Int) : Rat) = 1 := rfl
theorem mone_c : (((-(1 : Int)) : Int) : Rat) = -1 := rfl
/-- where the walk stands -/
structure SI (n k0 : Nat) (A : Mat) (found : List (Rat × List Rat)) (rows : List (List Rat)) : Prop where
  sq : SQ n A (sqs found) (mtx rows)
  sh : Sq2 n rows
  cd : Cd n (3 ^ found.length * k0) (mtx rows)
  bz : ∀ p ∈ found, Bz (3 ^ (n + 1) * k0) p.1 ∧ Shr n (3 ^ (n + 1) * k0) p.2
theorem SI.le {n k0 : Nat} {A : Mat} {found : List (Rat × List Rat)} {rows : List (List Rat)} (h : SI n k0 A found rows) : found.length ≤ n := by
  have := h.sq.ind.le; rwa [sqs_len] at this
structure PQ (n k : Nat) (A : Mat) (pairs : List (Rat × List Rat)) : Prop where
  dec : Dec n A (sqs pairs)
  ind : Ind n (sqs pairs)
  ne : ∀ s ∈ sqs pairs, s.1 ≠ 0
  bz : ∀ p ∈ pairs, Bz k p.1 ∧ Shr n k p.2
theorem PQ.le {n k : Nat} {A : Mat} {pairs : List (Rat × List Rat)} (h : PQ n k A pairs) : pairs.length ≤ n := by
  have := h.ind.le; rwa [sqs_len] at this
theorem diag_mem {n k : Nat} {R : List (List Rat)} (hR : Sh n n k R) {y : Int} : y ∈ (((irng 0 (n : Int)).filter fun i => decide (qsgn (ix (ix R i) i) ≠ 0)).map fun i => i) ↔ ∃ i : Nat, i < n ∧ y = (i : Int) ∧ mtx R i i ≠ 0 := by
  rw [List.map_id', List.mem_filter, irng_mem]
  constructor
  · rintro ⟨⟨i, h2, rfl⟩, h3⟩
    rw [ixr (by rw [hR.1]; exact h2), ixv (by rw [(hR.rowD h2).1]; exact h2), ← mt_row] at h3
    exact ⟨i, h2, rfl, qsgn0.mp (by simpa using h3)⟩
  · rintro ⟨i, h2, rfl, h3⟩
    refine ⟨⟨i, h2, rfl⟩, ?_⟩
    rw [ixr (by rw [hR.1]; exact h2), ixv (by rw [(hR.rowD h2).1]; exact h2), ← mt_row]
    simpa using qsgn0.mpr h3
theorem p_squares {n k k0 : Nat} {T : List (List Rat)} (hT : Sh n n k T) (sy : Sy n (mtx T)) (cd : Cd n k0 (mtx T)) (k1 : 1 ≤ k0) (n0 : 0 < n) (hn : n ≤ 400) (e : 3 ^ (n + 1) * k0 ≤ QB) : p_squares_of_pre T ∧ PQ n (3 ^ (n + 1) * k0) (mtx T) (p_squares_of T) := by
  refine of_squares_of (R := fun l => PQ n (3 ^ (n + 1) * k0) (mtx T) l) T ?_
  refine ⟨check_symmetric hT sy n0 hn, by rw [hT.1]; exact lmok hn, ?_⟩
  intro rows hrows found hfound
  rw [List.map_id'] at hrows
  subst rows
  subst found
  rintro n12 rfl
  rw [hT.1]
  refine ⟨fun m p => m = n - p.1.length ∧ SI n k0 (mtx T) p.1 p.2, n, ⟨rfl, SQ.init sy, hT.sq, by simpa using cd, fun p hp => by simp at hp⟩, ?_⟩
  rintro m found rows ⟨rfl, hI⟩
  have hI' := hI
  obtain ⟨hS, hQ, hC, hB⟩ := hI'
  replace hS : SQ n (mtx T) (sqs found) (mtx rows) := hS
  replace hQ : Sq2 n rows := hQ
  replace hC : Cd n (3 ^ found.length * k0) (mtx rows) := hC
  replace hB : ∀ p ∈ found, Bz (3 ^ (n + 1) * k0) p.1 ∧ Shr n (3 ^ (n + 1) * k0) p.2 := hB
  have t1 := p3_pos (i := found.length) k1
  have hR : Sh n n (2 * (3 ^ found.length * k0)) rows := hQ.sh fun i j hi hj => hC.bz t1 hi hj
  have rl : ∀ {x}, x < n → x < rows.length := fun h => by rw [hQ.1]; exact h
  have cl : ∀ {x}, x < n → (rowD rows x).length = n := fun h => (hR.rowD h).1
  refine ⟨⟨by rw [hQ.1]; exact lmok hn, fun r hr => by rw [hQ.2 r hr]; exact lmok hn⟩, fun c => ?_, fun c => ?_⟩
  · refine ⟨rgok hn, by rw [irng_len]; exact lmok hn, fun y hy => ?_, ?_⟩
    · obtain ⟨i, h2, rfl⟩ := irng_mem.mp hy
      refine ⟨ixok (rl h2), ?_⟩
      rw [ixr (rl h2)]
      exact ixok (by rw [cl h2]; exact h2)
    intro at_ hat
    have mem : ∀ y, y ∈ at_ ↔ ∃ i : Nat, i < n ∧ y = (i : Int) ∧ mtx rows i i ≠ 0 := fun y => by rw [hat]; exact diag_mem hR
    refine ⟨fun c => ?_, fun c2 => ?_⟩
    · have al : 0 < at_.length := by simpa using c
      obtain ⟨i, h2, h3, h4⟩ := (mem _).mp (List.getElem_mem al)
      rw [show ix at_ (0 : Int) = (i : Int) from (ix0 al).trans h3, ixr (rl h2), ixv (by rw [cl h2]; exact h2)]
      refine ⟨ixok al, ixok (rl h2), ixok al, ixok (by rw [cl h2]; exact h2), ?_⟩
      rintro lead rfl
      have l0 : vl (rowD rows i) i ≠ 0 := h4
      have hl : ∀ k, k < n → vl ((rowD rows i).map fun x => x / vl (rowD rows i) i) k = mtx rows i k / mtx rows i i := fun k hk => by
        rw [vl_map (by rw [cl h2]; exact hk), ← vl_at (by rw [cl h2]; exact hk)]; rfl
      have le := (hS.one h2 h4 hl (R' := fun a b => mtx rows a b - mtx rows i i * vl ((rowD rows i).map fun x => x / vl (rowD rows i) i) a * vl ((rowD rows i).map fun x => x / vl (rowD rows i) i) b) fun _ _ _ _ => rfl).ind.le
      rw [List.length_append, sqs_len] at le
      have t3 : 9 * (3 ^ found.length * k0) ≤ 3 ^ (n + 1) * k0 := by
        have := p3_le (k0 := k0) (show found.length + 2 ≤ n + 1 by simp at le; omega)
        rw [p3_succ, p3_succ] at this; omega
      have bi := hR.rowD h2
      refine ⟨ixok al, ixok (rl h2), by rw [cl h2]; exact lmok hn, fun x hx => ⟨⟨(bi.2 x hx).qz (by omega), (bi.bz h2).qz (by omega)⟩, l0⟩, ?_⟩
      rintro line rfl
      refine ⟨by unfold LM; simp at le; omega, ?_⟩
      rintro found' rfl
      obtain ⟨c1, c2⟩ := hC.one (R' := fun a b => mtx rows a b - mtx rows i i * vl ((rowD rows i).map fun x => x / vl (rowD rows i) i) a * vl ((rowD rows i).map fun x => x / vl (rowD rows i) i) b) t1 h2 h4 hl fun _ _ _ _ => rfl
      have sl : Shr n (2 * (3 ^ found.length * k0)) ((rowD rows i).map fun x => x / vl (rowD rows i) i) := ⟨by rw [List.length_map, cl h2], fun y hy => by
        obtain ⟨k, hk, rfl⟩ := List.mem_iff_getElem.mp hy
        have := c2 k (by rw [← cl h2]; rwa [List.length_map] at hk)
        rwa [vl_at hk] at this⟩
      obtain ⟨s1, s2, s3⟩ := p_sq_l hR (bi.bz h2) sl hn (by omega)
      refine ⟨s1, ?_⟩
      rintro rows' rfl
      refine ⟨_, ?_, rfl, ?_, s2.sq, ?_, ?_⟩
      · simp at le
        simp; omega
      · rw [sqs_app]; exact hS.one h2 h4 hl s3
      · have := (hC.one (R' := mtx _) t1 h2 h4 hl s3).1
        rw [List.length_append]
        show Cd n (3 ^ (found.length + 1) * k0) _
        rw [p3_succ]; exact this
      · intro p hp
        rcases List.mem_append.mp hp with g | g
        · exact hB p g
        · rw [List.mem_singleton] at g
          rw [g]
          exact ⟨(bi.bz h2).mono (by omega), sl.mono (by omega)⟩
    · have z : at_ = [] := List.length_eq_zero_iff.mp (by have : ¬ 0 < at_.length := by simpa using c2
                                                          omega)
      have d0 : ∀ k, k < n → mtx rows k k = 0 := fun k hk => Classical.byContradiction fun g => by
        have := (mem (k : Int)).mpr ⟨k, hk, rfl, g⟩
        rw [z] at this; simp at this
      obtain ⟨f1, i, j, hi, hj, hij, f2⟩ := p_first hR ((any_nz hQ).mp c)
      refine ⟨f1, ?_⟩
      rw [f2]
      rintro i59 rfl j61 rfl
      show IxOk rows (i : Int) ∧ IxOk (ix rows (i : Int)) (j : Int) ∧ _
      rw [ixr (rl hi), ixr (rl hj), ixv (by rw [cl hi]; exact hj)]
      have bi := hR.rowD hi
      have bj := hR.rowD hj
      have l0 : vl (rowD rows i) j ≠ 0 := hij
      let L : Int → List Rat := fun s => (irng 0 (n : Int)).map fun k => (ix (rowD rows i) k + ix (rowD rows j) k * ((s : Int) : Rat)) / vl (rowD rows i) j
      have hf : ∀ k, k < n → vl (L 1) k = (mtx rows i k + mtx rows j k) / mtx rows i j := fun k hk => by
        rw [vl_map (by rw [irng_len]; exact hk), irng_at, ixv (by rw [cl hi]; exact hk), ixv (by rw [cl hj]; exact hk), one_c, Rat.mul_one]; rfl
      have hg : ∀ k, k < n → vl (L (-1)) k = (mtx rows i k - mtx rows j k) / mtx rows i j := fun k hk => by
        rw [vl_map (by rw [irng_len]; exact hk), irng_at, ixv (by rw [cl hi]; exact hk), ixv (by rw [cl hj]; exact hk), mone_c, show ∀ a b : Rat, a + b * -1 = a - b by intros; grind]; rfl
      have le := (hS.two hi hj d0 hij hf hg (R' := fun a b => mtx rows a b - mtx rows i j / 2 * vl (L 1) a * vl (L 1) b - (- (mtx rows i j / 2)) * vl (L (-1)) a * vl (L (-1)) b) fun _ _ _ _ => rfl).ind.le
      rw [List.length_append, sqs_len] at le
      have le' : found.length + 2 ≤ n := le
      have t3 : 27 * (3 ^ found.length * k0) ≤ 3 ^ (n + 1) * k0 := by
        have := p3_le (k0 := k0) (show found.length + 3 ≤ n + 1 by omega)
        rw [p3_succ, p3_succ, p3_succ] at this; omega
      refine ⟨ixok (rl hi), ixok (by rw [cl hi]; exact hj), by decide, ⟨(bi.bz hj).qz (by omega), Bzh.qz (by omega)⟩, ?_⟩
      rintro half rfl
      have bh : Bz (2 * (3 ^ found.length * k0) + 2) (vl (rowD rows i) j * Rat.divInt 1 2) := (bi.bz hj).mul Bzh
      have sg1 : ∀ s : Int, s.natAbs < 2 → Bz 1 ((s : Int) : Rat) := fun s hs => Bz.int hs (by omega)
      refine ⟨fun t f => f = found ++ (([(1 : Int), -1].take t).map fun s => (vl (rowD rows i) j * Rat.divInt 1 2 * ((s : Int) : Rat), L s)), by simp, ?_, ?_⟩
      · intro t s f hs hf'
        have st : (t = 0 ∧ s = 1) ∨ (t = 1 ∧ s = -1) := by
          have := (List.getElem?_eq_some_iff.mp hs).1
          have : t = 0 ∨ t = 1 := by simp at this; omega
          rcases this with rfl | rfl
          · exact .inl ⟨rfl, by simpa using hs.symm⟩
          · exact .inr ⟨rfl, by simpa using hs.symm⟩
        have bs : Bz 1 ((s : Int) : Rat) := sg1 s (by rcases st with ⟨_, rfl⟩ | ⟨_, rfl⟩ <;> decide)
        refine ⟨rgok hn, by rw [irng_len]; exact lmok hn, fun y hy => ?_, ?_⟩
        · obtain ⟨k, hk, rfl⟩ := irng_mem.mp hy
          rw [ixv (l := rowD rows i) (by rw [cl hi]; exact hk), ixv (l := rowD rows j) (by rw [cl hj]; exact hk)]
          have b1 := bi.bz hk
          have b2 := bj.bz hk
          exact ⟨ixok (rl hi), ixok (by rw [cl hi]; exact hk), ixok (rl hj), ixok (by rw [cl hj]; exact hk), ⟨b2.qz (by omega), bs.qz (by omega)⟩, ⟨b1.qz (by omega), (b2.mul bs).qz (by omega)⟩, ixok (rl hi), ixok (by rw [cl hi]; exact hj), ⟨(b1.add (b2.mul bs)).qz (by omega), (bi.bz hj).qz (by omega)⟩, l0⟩
        · rintro line rfl
          refine ⟨⟨bh.qz (by omega), bs.qz (by omega)⟩, ?_, ?_⟩
          · rw [hf', List.length_append, List.length_map, List.length_take]
            unfold LM; simp; omega
          · rintro f' rfl
            rw [hf']
            rcases st with ⟨rfl, rfl⟩ | ⟨rfl, rfl⟩
            · show (found ++ []) ++ [_] = found ++ [_]
              rw [List.append_nil]
            · show (found ++ [_]) ++ [_] = found ++ [_, _]
              rw [List.append_assoc]; rfl
      · intro f hf'
        have hf2 : f = found ++ [(mtx rows i j / 2, L 1), (- (mtx rows i j / 2), L (-1))] := by
          rw [hf', half_eq]
          show found ++ [(mtx rows i j / 2 * ((1 : Int) : Rat), L 1), (mtx rows i j / 2 * (((-1 : Int)) : Rat), L (-1))] = _
          rw [one_c, Rat.mul_one, show (((-1 : Int)) : Rat) = -1 from rfl, show ∀ a : Rat, a * -1 = - a by intros; grind]
        have fl : f.length = found.length + 2 := by rw [hf2, List.length_append]; rfl
        have x2 : ix f (-2) = (mtx rows i j / 2, L 1) := by
          rw [ix_neg (a := found.length) (by rw [fl]; omega) (by decide) (by rw [fl]; omega) (by rw [fl]; omega)]
          simp [hf2]
        have x1 : ix f (-1) = (- (mtx rows i j / 2), L (-1)) := by
          rw [ix_neg (a := found.length + 1) (by rw [fl]; omega) (by decide) (by rw [fl]; omega) (by rw [fl]; omega)]
          simp [hf2]
        have o2 : IxOk f (-2) := ⟨by rw [fl]; omega, by omega⟩
        have o1 : IxOk f (-1) := ⟨by rw [fl]; omega, by omega⟩
        show IxOk f (-2) ∧ IxOk f (-2) ∧ _
        obtain ⟨c1, c2⟩ := hC.two (R' := fun a b => mtx rows a b - mtx rows i j / 2 * vl (L 1) a * vl (L 1) b - (- (mtx rows i j / 2)) * vl (L (-1)) a * vl (L (-1)) b) t1 hi hj hij hf hg fun _ _ _ _ => rfl
        have sL : ∀ s, (∀ k, k < n → Bz (3 * (3 ^ found.length * k0)) (vl (L s) k)) → Shr n (3 * (3 ^ found.length * k0)) (L s) := fun s hs => by
          have ll : (L s).length = n := by rw [List.length_map, irng_len]
          refine ⟨ll, fun y hy => ?_⟩
          obtain ⟨k, hk, rfl⟩ := List.mem_iff_getElem.mp hy
          have := hs k (by rw [← ll]; exact hk)
          rwa [vl_at hk] at this
        have s1 := sL 1 fun k hk => (c2 k hk).1
        have s2 := sL (-1) fun k hk => (c2 k hk).2
        have bh' : Bz (2 * (3 ^ found.length * k0) + 2) (mtx rows i j / 2) := by rw [half_eq] at bh; exact bh
        obtain ⟨u1, u2, u3⟩ := p_sq_t hR bh' s1 hn (by omega)
        obtain ⟨v1, v2, v3⟩ := p_sq_t u2 bh'.neg s2 hn (by omega)
        refine ⟨o2, o2, by rw [x2]; exact u1, o1, o1, by rw [x2, x1]; exact v1, ?_⟩
        rintro rows' rfl
        rw [x2, x1]
        have e2 : ∀ a b, a < n → b < n → mtx (p_less_square__v_t (p_less_square__v_t rows (mtx rows i j / 2) (L 1)) (- (mtx rows i j / 2)) (L (-1))) a b = mtx rows a b - mtx rows i j / 2 * vl (L 1) a * vl (L 1) b - (- (mtx rows i j / 2)) * vl (L (-1)) a * vl (L (-1)) b := fun a b ha hb => by rw [v3 a b ha hb, u3 a b ha hb]
        have k2 : Cd n (3 ^ f.length * k0) (mtx (p_less_square__v_t (p_less_square__v_t rows (mtx rows i j / 2) (L 1)) (- (mtx rows i j / 2)) (L (-1)))) := by
          rw [fl, p3_succ, p3_succ]
          exact (hC.two t1 hi hj hij hf hg e2).1.mono (by omega)
        refine ⟨_, ?_, rfl, ?_, v2.sq, k2, ?_⟩
        · show n - f.length < n - found.length
          rw [fl]; omega
        · have := hS.two hi hj d0 hij hf hg e2
          show SQ n (mtx T) (sqs f) _
          rw [hf2, sqs_app]; exact this
        · intro p hp
          have hp : p ∈ f := hp
          rw [hf2] at hp
          rcases List.mem_append.mp hp with g | g
          · exact hB p g
          · simp at g
            rcases g with rfl | rfl
            · exact ⟨bh'.mono (by omega), s1.mono (by omega)⟩
            · exact ⟨bh'.neg.mono (by omega), s2.mono (by omega)⟩
  · have z := any_z hQ c
    obtain ⟨d, _⟩ := hS.fin z
    exact ⟨d, hS.ind, hS.ne, hB⟩
end Ho
end

section
set_option linter.all false
/-! Ho12: signs, square rank, all above nought. -/
namespace Ho
open Fw La
theorem num_pos {x : Rat} : 0 < x.num ↔ 0 < x := by
  rw [Rat.lt_iff]
  show _ ↔ 0 * _ < x.num * (1 : Nat)
  omega
theorem num_neg {x : Rat} : x.num < 0 ↔ x < 0 := by
  rw [Rat.lt_iff]
  show _ ↔ x.num * (1 : Nat) < 0 * _
  omega
theorem qsgn_pos {x : Rat} : 0 < qsgn x ↔ 0 < x := by
  unfold qsgn
  rw [Int.sign_pos_iff]
  exact num_pos
theorem qsgn_neg {x : Rat} : qsgn x < 0 ↔ x < 0 := by
  unfold qsgn
  rw [Int.sign_neg_iff]
  exact num_neg
theorem qsgn_cases (x : Rat) : (qsgn x = 1 ∧ 0 < x) ∨ (qsgn x = 0 ∧ x = 0) ∨ (qsgn x = -1 ∧ x < 0) := by
  rcases Int.lt_trichotomy x.num 0 with h | h | h
  · exact .inr (.inr ⟨Int.sign_eq_neg_one_of_neg h, num_neg.mp h⟩)
  · exact .inr (.inl ⟨by unfold qsgn; rw [h]; rfl, Rat.num_eq_zero.mp h⟩)
  · exact .inl ⟨Int.sign_eq_one_of_pos h, num_pos.mp h⟩
theorem posn_sqs : ∀ l : List (Rat × List Rat), (((l.filter fun p => decide (0 < qsgn p.1)).map fun _ => (1 : Int)).length : Int) = (posn (sqs l) : Int) := fun l => by
  rw [List.length_map, ← List.countP_eq_length_filter]
  unfold posn sqs
  rw [List.countP_map]
  congr 2
  funext p
  exact decide_eq_decide.mpr qsgn_pos
theorem negn_sqs : ∀ l : List (Rat × List Rat), (((l.filter fun p => decide (qsgn p.1 < 0)).map fun _ => (1 : Int)).length : Int) = (negn (sqs l) : Int) := fun l => by
  rw [List.length_map, ← List.countP_eq_length_filter]
  unfold negn sqs
  rw [List.countP_map]
  congr 2
  funext p
  exact decide_eq_decide.mpr qsgn_neg
/-- signs: of any table of sizes k -/
theorem p_inC {n k k0 : Nat} {T : List (List Rat)} (hT : Sh n n k T) (sy : Sy n (mtx T)) (cd : Cd n k0 (mtx T)) (k1 : 1 ≤ k0) (n0 : 0 < n) (hn : n ≤ 400) (e : 3 ^ (n + 1) * k0 ≤ QB) : p_inertia_pre T ∧ ∃ p q : Nat, p_inertia T = ((p : Int), (q : Int)) ∧ In n (mtx T) p q := by
  obtain ⟨h1, hP⟩ := p_squares hT sy cd k1 n0 hn e
  refine of_inertia (R := fun z => ∃ p q : Nat, z = ((p : Int), (q : Int)) ∧ In n (mtx T) p q) T ?_
  refine ⟨h1, ?_⟩
  rintro pairs rfl
  have le := hP.le
  refine ⟨lmok (by omega), lmok (by omega), posn (sqs (p_squares_of T)), negn (sqs (p_squares_of T)), ?_, sqs (p_squares_of T), hP.dec, hP.ind, hP.ne, rfl, rfl⟩
  rw [posn_sqs, negn_sqs]
theorem p_in {n k : Nat} {T : List (List Rat)} (hT : Sh n n k T) (sy : Sy n (mtx T)) (k1 : 1 ≤ k) (n0 : 0 < n) (hn : n ≤ 400) (e : 3 ^ (n + 1) * ((n * n + 1) * k) ≤ QB) : p_inertia_pre T ∧ ∃ p q : Nat, p_inertia T = ((p : Int), (q : Int)) ∧ In n (mtx T) p q :=
  p_inC hT sy (Cd.of k1 fun i j hi hj => hT.bz hi hj) (Nat.le_trans k1 (Nat.le_mul_of_pos_left _ (by omega))) n0 hn e
theorem p_srank {n k : Nat} {T : List (List Rat)} (hT : Sh n n k T) (sy : Sy n (mtx T)) (k1 : 1 ≤ k) (n0 : 0 < n) (hn : n ≤ 400) (e : 5 ^ n * k ≤ QB) : p_square_rank_pre T ∧ p_square_rank T = p_table_rank T ∧ p_table_rank_pre T ∧ ∃ r : Nat, p_table_rank T = (r : Int) ∧ Rk n n (mtx T) r := by
  obtain ⟨h1, h2⟩ := p_rank hT k1 n0 hn hn (by rw [Nat.min_self]; exact e)
  obtain ⟨a1, a2⟩ := of_square_rank (R := fun z => z = p_table_rank T) T ⟨check_symmetric hT sy n0 hn, h1, rfl⟩
  exact ⟨a1, a2, h1, h2⟩
theorem take_sh {n k j : Nat} {T : List (List Rat)} (hT : Sh n n k T) (hj : j ≤ n) : Sh j j k ((cutL T none (some (j : Int))).map fun row => cutL row none (some (j : Int))) ∧ ∀ a b, a < j → b < j → mtx ((cutL T none (some (j : Int))).map fun row => cutL row none (some (j : Int))) a b = mtx T a b := by
  rw [cut_take (by rw [hT.1]; exact hj)]
  have e : ∀ row ∈ T.take j, cutL row none (some (j : Int)) = row.take j := fun row hr => cut_take (by rw [(hT.2 row (List.mem_of_mem_take hr)).1]; exact hj)
  rw [List.map_congr_left e]
  refine ⟨⟨by rw [List.length_map, List.length_take, hT.1]; omega, fun r hr => ?_⟩, fun a b ha hb => ?_⟩
  · obtain ⟨row, h, rfl⟩ := List.mem_map.mp hr
    have := hT.2 row (List.mem_of_mem_take h)
    exact ⟨by rw [List.length_take, this.1]; omega, fun x hx => this.2 x (List.mem_of_mem_take hx)⟩
  · have al : a < (T.take j).length := by rw [List.length_take, hT.1]; omega
    have al' : a < T.length := by rw [hT.1]; omega
    rw [mt_map al, mt_at al', List.getElem_take]
    unfold vl
    rw [List.getD_eq_getElem?_getD, List.getD_eq_getElem?_getD, List.getElem?_take_of_lt hb]
theorem p_above {n k : Nat} {T : List (List Rat)} (hT : Sh n n k T) (sy : Sy n (mtx T)) (k1 : 1 ≤ k) (n0 : 0 < n) (hn : n ≤ 399) (e : 5 ^ n * k ≤ QB) : p_is_above_pre T ∧ (p_is_above T = true ↔ ∀ j, j ≤ n → 0 < Lp j (mtx T)) := by
  refine of_is_above (R := fun b => (b = true ↔ ∀ j, j ≤ n → 0 < Lp j (mtx T))) T ?_
  refine ⟨check_symmetric hT sy n0 (by omega), ?_⟩
  rw [hT.1]
  have re : irng (1 : Int) ((n : Int) + 1) = irng ((1 : Nat) : Int) ((n + 1 : Nat) : Int) := rfl
  rw [re]
  refine ⟨⟨⟨by omega, by unfold LM; omega⟩, by omega, by unfold LM; omega⟩, fun t _ => ∀ j, j ≤ t → 0 < Lp j (mtx T), fun j hj => ?_, fun t x hx hI => ?_, fun hI => ?_⟩
  · have : j = 0 := by omega
    subst this
    show (0 : Rat) < 1
    decide
  · obtain ⟨ht, rfl⟩ := List.getElem?_eq_some_iff.mp hx
    rw [irng2_at]
    rw [irng2_len] at ht
    obtain ⟨s1, s2⟩ := take_sh hT (j := 1 + t) (by omega)
    obtain ⟨d1, d2, _⟩ := p_det s1 k1 (by omega) (by omega) (Nat.le_trans (pw_le (by omega)) e)
    have d3 : p_determinant _ = Lp (1 + t) (mtx T) := d2.trans (Lp_congr _ s2)
    refine ⟨?_, d1, fun c => ?_, fun c j hj => ?_⟩
    · rw [cut_take (by rw [hT.1]; omega), List.length_take]
      exact lmok (by omega)
    · rw [d3] at c
      refine ⟨fun h => (by cases h), fun h => ?_⟩
      have := qsgn_pos.mpr (h (1 + t) (by omega))
      simp at c
      omega
    · rw [d3] at c
      by_cases g : j = 1 + t
      · rw [g]
        refine qsgn_pos.mp ?_
        simp at c
        exact c
      · exact hI j (by omega)
  · rw [irng2_len] at hI
    exact ⟨fun _ j hj => hI j (by omega), fun _ => rfl⟩
end Ho
end

section
set_option linter.all false
/-! Ho13: the law's small defs. -/
namespace Ho
open Fw La
theorem p_take {m : Int} (st : St2) (h0 : 0 < m) (h1 : m < 1073741824) : p__law_take_pre m st ∧ ∃ v : Nat, (v : Int) < m ∧ (p__law_take m st).1 = (v : Int) := by
  refine of__law_take (R := fun z => ∃ v : Nat, (v : Int) < m ∧ z.1 = (v : Int)) m st ?_
  have key : ∀ x : Int, ∃ v : Nat, (v : Int) < m ∧ x % m = (v : Int) := fun x => by
    have a := Int.emod_nonneg x (by omega : m ≠ 0)
    have b := Int.emod_lt_of_pos x h0
    exact ⟨(x % m).toNat, by omega, by omega⟩
  refine ⟨fun _ => ⟨h0, ?_⟩, fun _ => ⟨mulOk_r (by decide), by decide, ⟨by decide, by decide⟩, h0, key _⟩⟩
  rintro v rfl
  exact ⟨⟨h0, h1⟩, key _⟩
theorem p_total {xs : List Rat} {k : Nat} (h : ∀ x ∈ xs, Bz k x) (e : 1 + xs.length * (k + 1) ≤ QB) : p__law_total_pre xs ∧ p__law_total xs = Sm xs.length (vl xs) ∧ Bz (1 + xs.length * (k + 1)) (p__law_total xs) := of__law_total (R := fun r => r = Sm xs.length (vl xs) ∧ Bz (1 + xs.length * (k + 1)) r) xs (hoare_ratio_sum h e)
/-! without one row -/
theorem enm_erase {α : Type} : ∀ (l : List α) (s g : Nat), ((l.zipIdx s).map fun q => ((q.2 : Int), q.1)).filter (fun p => decide (p.1 ≠ ((s + g : Nat) : Int))) = ((l.zipIdx s).map fun q => ((q.2 : Int), q.1)).eraseIdx g
  | [], s, g => by simp
  | x :: l, s, 0 => by
    rw [List.zipIdx_cons, List.map_cons, List.eraseIdx_cons_zero, List.filter_cons_of_neg (by simp)]
    refine List.filter_eq_self.mpr fun p hp => ?_
    obtain ⟨q, hq, rfl⟩ := List.mem_map.mp hp
    have := List.le_snd_of_mem_zipIdx hq
    simp; omega
  | x :: l, s, g + 1 => by
    rw [List.zipIdx_cons, List.map_cons, List.eraseIdx_cons_succ, List.filter_cons_of_pos (by simp; omega), ← enm_erase l (s + 1) g]
    congr 3
    funext p
    rw [show s + (g + 1) = s + 1 + g by omega]
theorem enm_er {α : Type} {l : List α} {g : Nat} : (enm l).filter (fun p => decide (p.1 ≠ (g : Int))) = (enm l).eraseIdx g := by
  have := enm_erase l 0 g
  rw [Nat.zero_add] at this
  exact this
theorem enm_get {α : Type} {l : List α} {i : Nat} (h : i < (enm l).length) : (enm l)[i] = ((i : Int), l[i]'(by rwa [enm_len] at h)) := by
  obtain ⟨_, e⟩ := enm_at (List.getElem?_eq_getElem h)
  exact e
theorem p_lrank {m n k0 : Nat} {T : List (List Rat)} (hT : Sh m n k0 T) (k1 : 1 ≤ k0) (hm : m ≤ 400) (hn : n ≤ 400) (e : 5 ^ m * k0 ≤ QB) (hV : DU m n (mtx T)) : p__law_rank_pre T ∧ p__law_rank T = (m : Int) := by
  refine of__law_rank (R := fun z => z = (m : Int)) T ?_
  refine ⟨by rw [hT.1]; exact lmok hm, ?_⟩
  intro rows hrows found hfound
  rw [List.map_id'] at hrows
  subst rows
  subst found
  refine ⟨fun c => ixok (by simpa using c), ?_⟩
  have we : (if (decide ((0 : Int) < (T.length : Int))) = true then (((ix T ((0 : Int)))).length : Int) else (0 : Int)) = if 0 < m then (n : Int) else 0 := by
    by_cases g : 0 < m
    · rw [if_pos g, if_pos (by rw [hT.1]; simpa using g)]
      have := wide_sh hT g
      unfold wide at this
      rwa [if_pos (by rw [hT.1]; exact g)] at this
    · rw [if_neg g, if_neg (by rw [hT.1]; simpa using g)]
  rw [we]
  have we2 : (if 0 < m then (n : Int) else 0) = ((if 0 < m then n else 0 : Nat) : Int) := by split <;> rfl
  rw [we2]
  have w2 : (if 0 < m then n else 0) ≤ n := by split <;> omega
  refine ⟨rgok (by omega), fun k p => ∃ m' : Nat, m' ≤ m ∧ p.2 + (m' : Int) = (m : Int) ∧ Sh m' n (5 ^ (m - m') * k0) p.1 ∧ DU m' n (mtx p.1) ∧ ∀ a j, a < m' → j < k → mtx p.1 a j = 0, ⟨m, Nat.le_refl _, by omega, by simpa using hT, hV, fun a j _ h => by omega⟩, ?_, ?_⟩
  · intro k x R fd hx hI
    obtain ⟨hk, rfl⟩ := List.getElem?_eq_some_iff.mp hx
    rw [irng_at]
    rw [irng_len] at hk
    have hk : k < n := by omega
    obtain ⟨m', mm, hf, hR, hU, hz⟩ := hI
    replace hf : fd + (m' : Int) = (m : Int) := hf
    replace hR : Sh m' n (5 ^ (m - m') * k0) R := hR
    replace hU : DU m' n (mtx R) := hU
    replace hz : ∀ a j, a < m' → j < k → mtx R a j = 0 := hz
    have rl : ∀ {x}, x < m' → x < R.length := fun h => by rw [hR.1]; exact h
    have em : ∀ p ∈ enm R, ∃ i, i < m' ∧ p = ((i : Int), rowD R i) := fun p hp => by
      obtain ⟨i, hi, rfl⟩ := List.mem_iff_getElem.mp hp
      have hi' : i < R.length := by rwa [enm_len] at hi
      refine ⟨i, by rw [← hR.1]; exact hi', ?_⟩
      rw [enm_get]
      unfold rowD
      rw [gD hi']
    refine ⟨by rw [enm_len, hR.1]; exact lmok (by omega), fun p hp => ?_, ?_⟩
    · obtain ⟨i, hi, rfl⟩ := em p hp
      exact ixok (by rw [(hR.rowD hi).1]; exact hk)
    intro at_ hat
    have mem : ∀ y, y ∈ at_ ↔ ∃ i : Nat, i < m' ∧ y = (i : Int) ∧ mtx R i k ≠ 0 := fun y => by
      rw [hat]
      constructor
      · intro hy
        obtain ⟨p, hp, rfl⟩ := List.mem_map.mp hy
        obtain ⟨hp, c⟩ := List.mem_filter.mp hp
        obtain ⟨i, hi, rfl⟩ := em p hp
        refine ⟨i, hi, rfl, ?_⟩
        rw [ixv (by rw [(hR.rowD hi).1]; exact hk), ← mt_row] at c
        exact qsgn0.mp (by simpa using c)
      · rintro ⟨i, hi, rfl, c⟩
        refine List.mem_map.mpr ⟨((i : Int), rowD R i), List.mem_filter.mpr ⟨?_, ?_⟩, rfl⟩
        · have hl : i < (enm R).length := by rw [enm_len]; exact rl hi
          have := List.getElem_mem hl
          rw [enm_get] at this
          unfold rowD
          rw [gD (rl hi)]
          exact this
        · rw [ixv (by rw [(hR.rowD hi).1]; exact hk), ← mt_row]
          simpa using qsgn0.mpr c
    refine ⟨fun c => ?_, fun c => ?_⟩
    · have al : 0 < at_.length := by simpa using c
      obtain ⟨i, h2, h3, h4⟩ := (mem _).mp (List.getElem_mem al)
      rw [show ix at_ (0 : Int) = (i : Int) from (ix0 al).trans h3, ixr (rl h2)]
      refine ⟨ixok al, ixok (rl h2), ?_⟩
      rintro lead rfl found' rfl
      have bi := hR.rowD h2
      rw [ixv (l := rowD R i) (by rw [bi.1]; exact hk)]
      have l0 : vl (rowD R i) k ≠ 0 := h4
      have s1 := pw_pos (i := m - m') k1
      have s5 : 5 * (5 ^ (m - m') * k0) ≤ QB := by rw [← pw_succ]; exact Nat.le_trans (pw_le (by omega)) e
      have mu : ∀ a, a < m' → Bz (2 * (5 ^ (m - m') * k0)) (vl (rowD R a) k / vl (rowD R i) k) := fun a ha => ((hR.rowD ha).bz hk |>.div (bi.bz hk) l0).mono (by omega)
      have zl : ∀ a, a < m' → ((rowD R a).zip (rowD R i)).length = n := fun a ha => by rw [List.length_zip, (hR.rowD ha).1, bi.1]; omega
      have zb : ∀ a, a < m' → ∀ q ∈ (rowD R a).zip (rowD R i), Bz (5 ^ (m - m') * k0) q.1 ∧ Bz (5 ^ (m - m') * k0) q.2 := fun a ha q hq => ⟨(hR.rowD ha).2 _ (List.of_mem_zip hq).1, bi.2 _ (List.of_mem_zip hq).2⟩
      refine ⟨by rw [enm_len, hR.1]; exact lmok (by omega), fun p hp => ⟨ixok al, fun _ => ?_⟩, ?_⟩
      · obtain ⟨a, ha, rfl⟩ := em p hp
        refine ⟨by rw [zl a ha]; exact lmok hn, fun q hq => ?_⟩
        show IxOk (rowD R a) (k : Int) ∧ IxOk (rowD R i) (k : Int) ∧ ((Qz (ix (rowD R a) (k : Int)) ∧ _) ∧ _) ∧ (Qz (ix (rowD R a) (k : Int) / _) ∧ _) ∧ _ ∧ Qz (ix (rowD R a) (k : Int) / _ * _)
        rw [ixv (l := rowD R a) (by rw [(hR.rowD ha).1]; exact hk)]
        obtain ⟨b1, b2⟩ := zb a ha q hq
        exact ⟨ixok (by rw [(hR.rowD ha).1]; exact hk), ixok (by rw [bi.1]; exact hk), ⟨⟨((hR.rowD ha).bz hk).qz (by omega), (bi.bz hk).qz (by omega)⟩, l0⟩, ⟨(mu a ha).qz (by omega), b2.qz (by omega)⟩, b1.qz (by omega), ((mu a ha).mul b2).qz (by omega)⟩
      · intro R' hR'
        rw [enm_er] at hR'
        obtain ⟨M, rfl⟩ : ∃ M, m' = M + 1 := ⟨m' - 1, by omega⟩
        have el : ((enm R).eraseIdx i).length = M := by rw [List.length_eraseIdx_of_lt (by rw [enm_len]; exact rl h2), enm_len, hR.1]; rfl
        have eg : ∀ a, (h : a < ((enm R).eraseIdx i).length) → ((enm R).eraseIdx i)[a] = (((held i a : Nat) : Int), rowD R (held i a)) := fun a h => by
          have aM : a < M := by rwa [el] at h
          have hh : held i a < M + 1 := held_lt aM
          rw [List.getElem_eraseIdx]
          unfold held rowD
          split
          · rw [enm_get, gD (rl (by omega))]
          · rw [enm_get, gD (rl (by omega))]
        have L' : R'.length = M := by rw [hR', List.length_map, el]
        have D' : ∀ a, a < M → rowD R' a = ((rowD R (held i a)).zip (rowD R i)).map fun q => q.1 - vl (rowD R (held i a)) k / vl (rowD R i) k * q.2 := fun a ha => by
          have h := eg a (by rw [el]; exact ha)
          have b := hR.rowD (held_lt (g := i) ha)
          rw [show rowD R' a = R'[a]'(by rw [L']; exact ha) by unfold rowD; rw [gD (by rw [L']; exact ha)]]
          simp only [hR', List.getElem_map, h]
          rw [ixv (l := rowD R (held i a)) (by rw [b.1]; exact hk)]
        have E' : ∀ a j, a < M → j < n → mtx R' a j = mtx R (held i a) j - vl (rowD R (held i a)) k / vl (rowD R i) k * mtx R i j := fun a j ha hj => by
          have b := hR.rowD (held_lt (g := i) ha)
          have j1 : j < (rowD R (held i a)).length := by rw [b.1]; exact hj
          have j2 : j < (rowD R i).length := by rw [bi.1]; exact hj
          rw [mt_row, D' a ha, vl_map (by rw [zl _ (held_lt ha)]; exact hj), zip_at _ j1 j2, ← vl_at j1, ← vl_at j2]
          rfl
        refine ⟨M, by omega, by show fd + 1 + (M : Int) = m; omega, Sh.of_rows L' fun a ha => ?_, hU.less h2 (c := fun a => vl (rowD R (held i a)) k / vl (rowD R i) k) E', fun a j ha hj => ?_⟩
        · rw [D' a ha]
          refine ⟨by rw [List.length_map, zl _ (held_lt ha)], fun y hy => ?_⟩
          obtain ⟨q, hq, rfl⟩ := List.mem_map.mp hy
          obtain ⟨b1, b2⟩ := zb _ (held_lt ha) q hq
          rw [show m - M = (m - (M + 1)) + 1 by omega, pw_succ]
          exact (b1.sub ((mu _ (held_lt ha)).mul b2)).mono (by omega)
        · show mtx R' a j = 0
          rw [E' a j ha (by omega)]
          by_cases g : j = k
          · subst g
            have := Rat.mul_inv_cancel _ l0
            show vl (rowD R (held i a)) j - _ * vl (rowD R i) j = 0
            rw [Rat.div_def]; grind
          · rw [hz _ j (held_lt ha) (by omega), hz i j h2 (by omega)]; grind
    · have z : at_ = [] := List.length_eq_zero_iff.mp (by have : ¬ 0 < at_.length := by simpa using c
                                                          omega)
      refine ⟨m', mm, hf, hR, hU, fun a j ha hj => ?_⟩
      by_cases g : j = k
      · subst g
        refine Classical.byContradiction fun h => ?_
        have := (mem (a : Int)).mpr ⟨a, ha, rfl, h⟩
        rw [z] at this; simp at this
      · exact hz a j ha (by omega)
  · rintro R fd ⟨m', mm, hf, hR, hU, hz⟩
    rw [irng_len] at hz
    have : m' = 0 := by
      by_cases g : 0 < m
      · rw [if_pos g] at hz
        exact hU.zero hz
      · omega
    subst this
    show fd = (m : Int)
    have hf : fd + ((0 : Nat) : Int) = (m : Int) := hf
    omega
end Ho
end

section
set_option linter.all false
/-! Ho14: the law's tables, parts. -/
namespace Ho
open Fw La
/-- symmetric, of whole numbers -/
structure TI (b n : Nat) (T : List (List Rat)) : Prop where
  sq : Sq2 n T
  sy : Sy n (mtx T)
  wh : ∀ i j, i < n → j < n → ∃ z : Int, z.natAbs ≤ b ∧ mtx T i j = (z : Rat)
theorem TI.mono {a b n : Nat} {T : List (List Rat)} (h : TI a n T) (e : a ≤ b) : TI b n T := ⟨h.sq, h.sy, fun i j hi hj => by
  obtain ⟨z, h1, h2⟩ := h.wh i j hi hj
  exact ⟨z, by omega, h2⟩⟩
theorem TI.bz {b n k : Nat} {T : List (List Rat)} (h : TI b n T) (e : b < 2 ^ k) (hk : 0 < k) : ∀ i j, i < n → j < n → Bz k (mtx T i j) := fun i j hi hj => by
  obtain ⟨z, h1, h2⟩ := h.wh i j hi hj
  rw [h2]
  exact Bz.int (by omega) hk
theorem TI.sh {b n k : Nat} {T : List (List Rat)} (h : TI b n T) (e : b < 2 ^ k) (hk : 0 < k) : Sh n n k T := h.sq.sh (h.bz e hk)
theorem TI.cd {b n k : Nat} {T : List (List Rat)} (h : TI b n T) (e : b < 2 ^ k) (hk : 0 < k) : Cd n k (mtx T) := Cd.int hk fun i j hi hj => by
  obtain ⟨z, h1, h2⟩ := h.wh i j hi hj
  exact ⟨z, by omega, h2⟩
theorem vl_set {l : List Rat} {j b : Nat} {x : Rat} (hj : j < l.length) (hb : b < l.length) : vl (l.set j x) b = if b = j then x else vl l b := by
  rw [vl_at (by rw [List.length_set]; exact hb), List.getElem_set, vl_at hb]
  by_cases g : j = b
  · rw [if_pos g, if_pos g.symm]
  · rw [if_neg g, if_neg (fun h => g h.symm)]
theorem Sq2.row {n a : Nat} {T : List (List Rat)} (h : Sq2 n T) (ha : a < n) : (rowD T a).length = n := h.2 _ (row_mem (by rw [h.1]; exact ha))
theorem Sq2.put {n i j : Nat} {T : List (List Rat)} {x : Rat} (h : Sq2 n T) (hi : i < n) (hj : j < n) : Sq2 n (T.set i ((rowD T i).set j x)) ∧ ∀ a b, a < n → b < n → mtx (T.set i ((rowD T i).set j x)) a b = if a = i ∧ b = j then x else mtx T a b := by
  refine ⟨⟨by rw [List.length_set]; exact h.1, fun r hr => ?_⟩, fun a b ha hb => ?_⟩
  · rcases List.mem_or_eq_of_mem_set hr with g | rfl
    · exact h.2 r g
    · rw [List.length_set]; exact h.row hi
  · rw [mt_set (by rw [h.1]; exact hi) (by rw [h.1]; exact ha)]
    by_cases g : a = i
    · rw [if_pos g, vl_set (by rw [h.row hi]; exact hj) (by rw [h.row hi]; exact hb)]
      by_cases k : b = j
      · rw [if_pos k, if_pos ⟨g, k⟩]
      · rw [if_neg k, if_neg fun z => k z.2, g]; rfl
    · rw [if_neg g, if_neg fun z => g z.1]
theorem mapS_len {γ α : Type} (u : γ → St2 → α × St2) : ∀ (l : List γ) (st : St2), (mapS u l st).1.length = l.length
  | [], _ => rfl
  | x :: r, st => congrArg Nat.succ (mapS_len u r _)
theorem mapS_mem {γ α : Type} {u : γ → St2 → α × St2} {y : α} : ∀ {l : List γ} {st : St2}, y ∈ (mapS u l st).1 → ∃ x st', y = (u x st').1
  | [], _, h => by simp [mapS] at h
  | x :: r, st, h => by
    rcases List.mem_cons.mp h with g | g
    · exact ⟨x, st, g⟩
    · exact mapS_mem g
theorem zero_TI {n : Nat} : TI 0 n ((irng 0 (n : Int)).map fun _ => rpt (n : Int) (((0 : Int) : Rat))) := by
  have sq : Sq2 n ((irng 0 (n : Int)).map fun _ => rpt (n : Int) (((0 : Int) : Rat))) := ⟨by rw [List.length_map, irng_len], fun r hr => by
    obtain ⟨y, hy, rfl⟩ := List.mem_map.mp hr
    unfold rpt
    rw [List.length_replicate]; omega⟩
  have z : ∀ i j, i < n → j < n → mtx ((irng 0 (n : Int)).map fun _ => rpt (n : Int) (((0 : Int) : Rat))) i j = ((0 : Int) : Rat) := fun i j hi hj => by
    rw [mt_map (by rw [irng_len]; exact hi), vl_at (by unfold rpt; rw [List.length_replicate]; omega)]
    unfold rpt
    rw [List.getElem_replicate]
  exact ⟨sq, fun i j hi hj => by rw [z i j hi hj, z j i hj hi], fun i j hi hj => ⟨0, by decide, z i j hi hj⟩⟩
theorem TI.put {n i j : Nat} {T : List (List Rat)} {x : Rat} {z : Int} (h : TI 20 n T) (hi : i < n) (hj : j < n) (hx : x = (z : Rat)) (hz : z.natAbs ≤ 20) : TI 20 n ((T.set i ((rowD T i).set j x)).set j ((rowD (T.set i ((rowD T i).set j x)) j).set i x)) := by
  obtain ⟨s1, e1⟩ := h.sq.put (x := x) hi hj
  obtain ⟨s2, e2⟩ := s1.put (x := x) hj hi
  have ee : ∀ a b, a < n → b < n → mtx ((T.set i ((rowD T i).set j x)).set j ((rowD (T.set i ((rowD T i).set j x)) j).set i x)) a b = if (a = i ∧ b = j) ∨ (a = j ∧ b = i) then x else mtx T a b := fun a b ha hb => by
    rw [e2 a b ha hb, e1 a b ha hb]
    by_cases g : a = j ∧ b = i
    · rw [if_pos g, if_pos (.inr g)]
    · rw [if_neg g]
      by_cases k : a = i ∧ b = j
      · rw [if_pos k, if_pos (.inl k)]
      · rw [if_neg k, if_neg fun z => z.elim k g]
  refine ⟨s2, fun a b ha hb => ?_, fun a b ha hb => ?_⟩
  · rw [ee a b ha hb, ee b a hb ha]
    by_cases g : (a = i ∧ b = j) ∨ (a = j ∧ b = i)
    · rw [if_pos g, if_pos (by rcases g with g | g; exact .inr ⟨g.2, g.1⟩; exact .inl ⟨g.2, g.1⟩)]
    · rw [if_neg g, if_neg (fun k => g (by rcases k with k | k; exact .inr ⟨k.2, k.1⟩; exact .inl ⟨k.2, k.1⟩))]
      exact h.sy a b ha hb
  · rw [ee a b ha hb]
    split
    · exact ⟨z, hz, hx⟩
    · exact h.wh a b ha hb
theorem p_table {n : Nat} (st : St2) (n0 : 0 < n) (hn : n ≤ 5) : p__law_table_pre (n : Int) st ∧ TI 20 n (p__law_table (n : Int) st).1 := by
  refine of__law_table (R := fun z => TI 20 n z.1) (n : Int) st ?_
  refine ⟨rgok (by omega), by rw [irng_len]; exact lmok (by omega), fun _ _ => ⟨by omega, by unfold LM; omega⟩, ?_⟩
  rintro rows rfl
  obtain ⟨t1, _⟩ := p_take (m := 2) st (by decide) (by decide)
  refine ⟨t1, fun _ => ⟨rgok (by omega), fun _ p => TI 20 n p.1, zero_TI.mono (by omega), ?_, ?_⟩, fun _ => ?_⟩
  · intro i x rows st hx hI
    obtain ⟨hi, rfl⟩ := List.getElem?_eq_some_iff.mp hx
    rw [irng_at]
    rw [irng_len] at hi
    have ri : irng 0 ((i : Int) + 1) = irng 0 ((i + 1 : Nat) : Int) := rfl
    rw [ri]
    refine ⟨⟨by omega, by unfold LM; omega⟩, fun _ p => TI 20 n p.1, hI, ?_, fun rows st hI => hI⟩
    intro j y rows st hy hI
    replace hI : TI 20 n rows := hI
    obtain ⟨hj, rfl⟩ := List.getElem?_eq_some_iff.mp hy
    rw [irng_at]
    rw [irng_len] at hj
    have hj : j < n := by omega
    obtain ⟨t1, v, v1, v2⟩ := p_take (m := 7) st (by decide) (by decide)
    refine ⟨t1, ?_⟩
    rw [v2]
    rintro x hx st' rfl
    have rl : ∀ {x}, x < n → x < rows.length := fun h => by rw [hI.sq.1]; exact h
    have cl : ∀ {x}, x < n → (rowD rows x).length = n := fun h => hI.sq.row h
    rw [ixr (rl hi)]
    refine ⟨ixok (rl hi), ixok (by rw [cl hi]; exact hj), ?_⟩
    rintro r34 h34
    rw [setn (rl hi), setn (by rw [cl hi]; exact hj)] at h34
    obtain ⟨s1, e1⟩ := hI.sq.put (x := x) hi hj
    rw [← h34] at s1
    rw [ixr (by rw [s1.1]; exact hj)]
    refine ⟨ixok (by rw [s1.1]; exact hj), ixok (by rw [s1.row hj]; exact hi), ?_⟩
    rintro r38 h38
    rw [setn (by rw [s1.1]; exact hj), setn (by rw [s1.row hj]; exact hi), h34] at h38
    show TI 20 n r38
    rw [h38]
    exact hI.put hi hj hx (by omega)
  · rintro rows st hI
    replace hI : TI 20 n rows := hI
    refine ⟨by rw [hI.sq.1]; exact lmok (by omega), ?_⟩
    rw [List.map_id']; exact hI
  · obtain ⟨t2, v, v1, v2⟩ := p_take (m := (n : Int)) ((p__law_take 2 st).2) (by omega) (by omega)
    refine ⟨t2, ?_⟩
    rw [v2]
    have ri : irng 0 ((1 : Int) + (v : Int)) = irng 0 ((1 + v : Nat) : Int) := by congr 1
    rw [ri]
    refine ⟨⟨by omega, by unfold LM; omega⟩, fun t p => TI (4 * t) n p.1, zero_TI, ?_, ?_⟩
    · intro t x rows st ht hI
      replace hI : TI (4 * t) n rows := hI
      have ht := (List.getElem?_eq_some_iff.mp ht).1
      rw [irng_len] at ht
      obtain ⟨t1, c, c1, c2⟩ := p_take (m := 3) st (by decide) (by decide)
      rw [c2]
      refine ⟨t1, rgok (by omega), by rw [irng_len]; exact lmok (by omega), fun _ _ st => (p_take (m := 5) st (by decide) (by decide)).1, ?_⟩
      intro cc hcc line hline st' hst'
      clear hst'
      have ll : line.length = n := by rw [hline, mapS_len, irng_len]
      have lw : ∀ y ∈ line, ∃ z : Int, z.natAbs ≤ 2 ∧ y = (z : Rat) := fun y hy => by
        rw [hline] at hy
        obtain ⟨x, st, rfl⟩ := mapS_mem hy
        obtain ⟨_, v, v1, v2⟩ := p_take (m := 5) st (by decide) (by decide)
        rw [v2]
        exact ⟨(v : Int) - 2, by omega, rfl⟩
      clear hline
      have lz : ∀ j, j < n → ∃ z : Int, z.natAbs ≤ 2 ∧ vl line j = (z : Rat) := fun j hj => by
        rw [vl_at (by rw [ll]; exact hj)]
        exact lw _ (List.getElem_mem _)
      have lb : ∀ y ∈ line, Bz 2 y := fun y hy => by
        obtain ⟨z, h1, rfl⟩ := lw y hy
        exact Bz.int (by show _ < 4; omega) (by omega)
      have cb : Bz 1 cc := by
        rw [hcc]
        exact Bz.int (by show _ < 2; omega) (by omega)
      have sh : Sh n n 5 rows := hI.sh (by show _ < 32; omega) (by omega)
      have zl : (rows.zip line).length = n := by rw [List.length_zip, sh.1, ll]; omega
      have rr : ∀ p ∈ rows.zip line, Shr n 5 p.1 ∧ Bz 2 p.2 := fun p hp => ⟨sh.2 _ (List.of_mem_zip hp).1, lb _ (List.of_mem_zip hp).2⟩
      have rl : ∀ p ∈ rows.zip line, (p.1.zip line).length = n := fun p hp => by rw [List.length_zip, (rr p hp).1.1, ll]; omega
      have bb : ∀ p ∈ rows.zip line, ∀ q ∈ p.1.zip line, Bz 5 q.1 ∧ Bz 2 q.2 := fun p hp q hq => ⟨(rr p hp).1.2 _ (List.of_mem_zip hq).1, lb _ (List.of_mem_zip hq).2⟩
      refine ⟨by rw [zl]; exact lmok (by omega), fun p hp => ⟨by rw [rl p hp]; exact lmok (by omega), fun q hq => ⟨⟨cb.qz (by decide), (rr p hp).2.qz (by decide)⟩, ⟨(cb.mul (rr p hp).2).qz (by decide), (bb p hp q hq).2.qz (by decide)⟩, (bb p hp q hq).1.qz (by decide), ((cb.mul (rr p hp).2).mul (bb p hp q hq).2).qz (by decide)⟩⟩, ?_⟩
      rintro r88 h88
      have sq : Sq2 n r88 := ⟨by rw [h88, List.length_map, zl], fun r hr => by
        rw [h88] at hr
        obtain ⟨p, hp, rfl⟩ := List.mem_map.mp hr
        rw [List.length_map, rl p hp]⟩
      have ee : ∀ i j, i < n → j < n → mtx r88 i j = mtx rows i j + cc * vl line i * vl line j := fun i j hi hj => by
        have ai : i < rows.length := by rw [sh.1]; exact hi
        have bi : i < line.length := by rw [ll]; exact hi
        have aj : j < rows[i].length := by rw [(sh.row hi).1]; exact hj
        have bj : j < line.length := by rw [ll]; exact hj
        rw [h88, mt_map (by rw [zl]; exact hi), zip_at _ ai bi, vl_map (by rw [List.length_zip]; exact Nat.lt_min.mpr ⟨aj, bj⟩), zip_at _ aj bj, mt_at ai, vl_at aj, vl_at bi, vl_at bj]
      refine ⟨sq, fun i j hi hj => by rw [ee i j hi hj, ee j i hj hi, hI.sy i j hi hj]; grind, fun i j hi hj => ?_⟩
      obtain ⟨z0, a1, a2⟩ := hI.wh i j hi hj
      obtain ⟨z1, b1, b2⟩ := lz i hi
      obtain ⟨z2, d1, d2⟩ := lz j hj
      refine ⟨z0 + ((c : Int) - 1) * z1 * z2, ?_, ?_⟩
      · have h1 : (((c : Int) - 1) * z1 * z2).natAbs ≤ 1 * 2 * 2 := by
          rw [Int.natAbs_mul, Int.natAbs_mul]
          exact Nat.mul_le_mul (Nat.mul_le_mul (by omega) b1) d1
        omega
      · rw [ee i j hi hj, a2, b2, d2, hcc, Rat.intCast_add, Rat.intCast_mul, Rat.intCast_mul]
    · rintro rows st hI
      rw [irng_len] at hI
      replace hI : TI (4 * (1 + v)) n rows := hI
      refine ⟨by rw [hI.sq.1]; exact lmok (by omega), ?_⟩
      rw [List.map_id']
      exact hI.mono (by omega)
/-! parts -/
abbrev ups (a : Nat) (f : Nat → Nat) : List Int := (List.range a).map fun i => ((f i : Nat) : Int)
theorem ups_len {a : Nat} {f : Nat → Nat} : (ups a f).length = a := by simp
theorem irng_ups {a : Nat} : irng 0 (a : Int) = ups a fun i => i := by
  unfold irng
  rw [show ((a : Int) - 0).toNat = a by omega]
  refine List.map_congr_left fun b hb => ?_
  show (0 : Int) + (b : Int) = (b : Int)
  omega
theorem irng2_ups {a n : Nat} : irng (a : Int) (n : Int) = ups (n - a) fun i => a + i := by
  unfold irng
  rw [show ((n : Int) - (a : Int)).toNat = n - a by omega]
  refine List.map_congr_left fun b hb => ?_
  show (a : Int) + (b : Int) = ((a + b : Nat) : Int)
  omega
theorem p_part {m n k a b : Nat} {f g : Nat → Nat} {T : List (List Rat)} (hT : Sh m n k T) (ha : a ≤ 400) (hb : b ≤ 400) (hf : ∀ i, i < a → f i < m) (hg : ∀ i, i < b → g i < n) : p__law_part_pre T (ups a f) (ups b g) ∧ Sh a b k (p__law_part T (ups a f) (ups b g)) ∧ ∀ i j, i < a → j < b → mtx (p__law_part T (ups a f) (ups b g)) i j = mtx T (f i) (g j) := by
  refine of__law_part (R := fun U => Sh a b k U ∧ ∀ i j, i < a → j < b → mtx U i j = mtx T (f i) (g j)) T (ups a f) (ups b g) ?_
  have rl : ∀ {x}, x < m → x < T.length := fun h => by rw [hT.1]; exact h
  refine ⟨by rw [ups_len]; exact lmok ha, fun x hx => ⟨by rw [ups_len]; exact lmok hb, fun y hy => ?_⟩, ⟨by rw [List.length_map, ups_len], fun r hr => ?_⟩, fun i j hi hj => ?_⟩
  · obtain ⟨i, hi, rfl⟩ := List.mem_map.mp hx
    obtain ⟨j, hj, rfl⟩ := List.mem_map.mp hy
    have fi := hf i (List.mem_range.mp hi)
    have gj := hg j (List.mem_range.mp hj)
    rw [ixr (rl fi)]
    exact ⟨ixok (rl fi), ixok (by rw [(hT.rowD fi).1]; exact gj)⟩
  · obtain ⟨x, hx, rfl⟩ := List.mem_map.mp hr
    obtain ⟨i, hi, rfl⟩ := List.mem_map.mp hx
    have fi := hf i (List.mem_range.mp hi)
    refine ⟨by rw [List.length_map, ups_len], fun y hy => ?_⟩
    obtain ⟨z, hz, rfl⟩ := List.mem_map.mp hy
    obtain ⟨j, hj, rfl⟩ := List.mem_map.mp hz
    have gj := hg j (List.mem_range.mp hj)
    rw [ixr (rl fi), ixv (by rw [(hT.rowD fi).1]; exact gj)]
    exact (hT.rowD fi).bz gj
  · have fi := hf i hi
    have gj := hg j hj
    rw [mt_map (by rw [ups_len]; exact hi), vl_map (by rw [ups_len]; exact hj)]
    rw [List.getElem_map, List.getElem_map, List.getElem_range, List.getElem_range, ixr (rl fi), ixv (by rw [(hT.rowD fi).1]; exact gj)]
    rfl
theorem held_ups {n g : Nat} (hg : g < n + 1) : ((irng 0 ((n + 1 : Nat) : Int)).filter fun i => decide (i ≠ (g : Int))).map (fun i => i) = ups n (held g) := by
  rw [List.map_id', irng_ups]
  obtain ⟨r, rfl⟩ : ∃ r, n = g + r := ⟨n - g, by omega⟩
  unfold ups
  have e1 : List.range (g + r + 1) = List.range g ++ (List.range 1 ++ (List.range r).map (1 + ·)).map (g + ·) := by rw [← List.range_add, ← List.range_add, Nat.add_comm 1 r, Nat.add_assoc]
  have e2 : List.range (g + r) = List.range g ++ (List.range r).map (g + ·) := List.range_add
  have z : List.filter (fun i => decide (i ≠ (g : Int))) (List.map ((fun i : Nat => (i : Int)) ∘ fun x => g + x) (List.range 1)) = [] := by simp
  have w : List.filter (fun i => decide (i ≠ (g : Int))) (List.map ((fun i : Nat => (i : Int)) ∘ (fun x => g + x) ∘ fun x => 1 + x) (List.range r)) = List.map ((fun i : Nat => (i : Int)) ∘ (fun x => g + x) ∘ fun x => 1 + x) (List.range r) := List.filter_eq_self.mpr fun x hx => by
    obtain ⟨i, hi, rfl⟩ := List.mem_map.mp hx
    simp; omega
  rw [e1, e2]
  simp only [List.map_append, List.filter_append, List.map_map]
  rw [List.filter_eq_self.mpr fun x hx => by
      obtain ⟨i, hi, rfl⟩ := List.mem_map.mp hx
      rw [List.mem_range] at hi
      simp; omega, z, w, List.nil_append]
  congr 1
  · refine List.map_congr_left fun i hi => ?_
    rw [List.mem_range] at hi
    unfold held
    rw [if_pos hi]
  · refine List.map_congr_left fun i hi => ?_
    show ((g + (1 + i) : Nat) : Int) = ((held g (g + i) : Nat) : Int)
    unfold held
    rw [if_neg (by omega)]; omega
theorem p_lplus (a b c d : Int) : p__law_plus_pre (a, b) (c, d) ∧ p__law_plus (a, b) (c, d) = (a + c, b + d) := of__law_plus (R := fun z => z = (a + c, b + d)) (a, b) (c, d) rfl
end Ho
end

section
set_option linter.all false
/-! Ho15: parts (Haynsworth). -/
namespace Ho
open Fw La
def kC (j : Nat) : Nat := 1 + j * (5 ^ j * 5 + 5 + 1)
def kX (j : Nat) : Nat := 1 + j * (5 + kC j + 1)
def kL (j : Nat) : Nat := 5 + kX j + 3
theorem kL_ok : ∀ j, j < 5 → ∀ m, m < 5 → j + m ≤ 5 → 3 ^ (m + 1) * ((m * m + 1) * kL j) ≤ QB ∧ 5 ^ m * kL j ≤ QB ∧ 3 ^ (j + 1) * ((j * j + 1) * 5) ≤ QB ∧ 5 ^ j * 5 ≤ QB := by decide
theorem parts_ok {n : Nat} {T : List (List Rat)} (st : St2) (hT : TI 20 n T) (n2 : 2 ≤ n) (n5 : n ≤ 5) : p__law_parts_hold_pre T (n : Int) st := by
  have hS : Sh n n 5 T := hT.sh (by decide) (by decide)
  have hC : Cd n 5 (mtx T) := hT.cd (by decide) (by decide)
  have sy := hT.sy
  have e1 : (n : Int) - 1 = ((n - 1 : Nat) : Int) := by omega
  obtain ⟨t1, v, v1, v2⟩ := p_take (m := (n : Int) - 1) st (by omega) (by omega)
  refine ⟨t1, ?_⟩
  rw [v2]
  rintro j0 rfl st6 hst6
  clear hst6
  rw [show (1 : Int) + (v : Int) = ((1 + v : Nat) : Int) by omega]
  obtain ⟨j, hj⟩ : ∃ j, j = 1 + v := ⟨_, rfl⟩
  rw [← hj]
  obtain ⟨m, rfl⟩ : ∃ m, n = j + m := ⟨n - j, by omega⟩
  have j0 : 0 < j := by omega
  have m0 : 0 < m := by omega
  obtain ⟨k1, k2, k3, k4⟩ := kL_ok j (by omega) m (by omega) (by omega)
  refine ⟨rgok (by omega), ⟨⟨by omega, by unfold LM; omega⟩, by omega, by unfold LM; omega⟩, ?_⟩
  rw [irng_ups, irng2_ups, show j + m - j = m by omega]
  rintro fi rfl re rfl
  obtain ⟨c1, c2, c3⟩ := p_part (a := j) (b := j) (f := fun i => i) (g := fun i => i) hS (by omega) (by omega) (fun i hi => by omega) (fun i hi => by omega)
  obtain ⟨s1, s2, s3⟩ := p_part (a := j) (b := m) (f := fun i => i) (g := fun i => j + i) hS (by omega) (by omega) (fun i hi => by omega) (fun i hi => by omega)
  obtain ⟨r1, r2, r3⟩ := p_part (a := m) (b := m) (f := fun i => j + i) (g := fun i => j + i) hS (by omega) (by omega) (fun i hi => by omega) (fun i hi => by omega)
  refine ⟨c1, s1, ?_⟩
  intro corner hc side hs
  rw [← hc] at c2 c3
  rw [← hs] at s2 s3
  have syc : Sy j (mtx corner) := fun a b ha hb => by rw [c3 a b ha hb, c3 b a hb ha]; exact sy a b (by omega) (by omega)
  obtain ⟨d1, d2, d3⟩ := p_det c2 (by omega) j0 (by omega) k4
  have d4 : p_determinant corner = Lp j (mtx T) := d2.trans (Lp_congr j c3)
  obtain ⟨q1, q2, q3, r, q4, q5⟩ := p_srank c2 syc (by omega) j0 (by omega) k4
  obtain ⟨i1, P, Q, i2, i3⟩ := p_in c2 syc (by omega) j0 (by omega) k3
  have sg := signs_of syc i3
  rw [← d2] at sg
  have rP := i3.rank q5
  refine ⟨d1, fun c => ⟨q3, fun _ => ⟨q1, q3⟩, ?_⟩, fun c => ?_⟩
  · have z : p_determinant corner = 0 := Classical.byContradiction fun h => by
      have := qsgn0.mpr h
      simp at c
      exact this c
    have := sg.lt z
    rw [q2, q4]
    simp
    omega
  · have nz : p_determinant corner ≠ 0 := by
      simp at c
      exact qsgn0.mp c
    have nz2 : Lp j (mtx corner) ≠ 0 := by rw [← d2]; exact nz
    obtain ⟨b1, b2, b3⟩ := p_inv c2 (by omega) j0 (by omega) k4 nz2
    obtain ⟨u1, u2, u3⟩ := p_turn s2 j0 (by omega) (by omega)
    have kCq : kC j ≤ QB ∧ kX j ≤ QB ∧ kL j ≤ QB := by
      have : kL j ≤ QB := Nat.le_trans (Nat.le_mul_of_pos_left _ (Nat.pow_pos (by omega))) k2
      have e : kX j ≤ kL j := by unfold kL; omega
      have e2 : kC j ≤ kX j := by
        have := Nat.le_mul_of_pos_left (5 + kC j + 1) j0
        unfold kX; omega
      omega
    obtain ⟨x1, x2, x3⟩ := p_times b2 s2 j0 j0 (by omega) (by omega) (by omega) kCq.1
    obtain ⟨y1, y2, y3⟩ := p_times u2 x2 m0 j0 (by omega) (by omega) (by omega) kCq.2.1
    obtain ⟨w1, w2, w3⟩ := p_plus (z := -1) r2 y2 (by decide) m0 (by omega) (by omega) kCq.2.2
    refine ⟨r1, u1, b1, x1, y1, w1, ?_⟩
    intro left hl
    rw [← hl] at w2 w3
    have hK : ∀ i k, i < j → k < m → Sm j (fun b => mtx T i b * mtx (p_table_times (p_inverse corner) side) b k) = mtx T i (j + k) := fun i k hi hk => by
      have e1 : ∀ b, b < j → mtx T i b * mtx (p_table_times (p_inverse corner) side) b k = Sm j fun c => mtx corner i b * mtx (p_inverse corner) b c * mtx side c k := fun b hb => by
        rw [x3 b k hb hk, ← c3 i b hi hb, ← Sm_mul]
        exact Sm_congr fun c _ => (Rat.mul_assoc _ _ _).symm
      rw [Sm_congr e1, Sm_swap, Sm_congr (g := fun c => (if i = c then 1 else 0) * mtx side c k) fun c hc => by rw [Sm_mulr, b3 i c hi hc], Sm_one (k := i) hi fun c hc h => by rw [if_neg (fun z => h z.symm), Rat.zero_mul], if_pos rfl, Rat.one_mul, s3 i k hi hk]
    have eL : ∀ a b, a < m → b < m → mtx left a b = schur j (mtx T) (mtx (p_table_times (p_inverse corner) side)) a b := fun a b ha hb => by
      rw [w3 a b ha hb, r3 a b ha hb, y3 a b ha hb]
      unfold schur
      rw [Sm_congr (g := fun c => mtx T (j + a) c * mtx (p_table_times (p_inverse corner) side) c b) fun c hc => by rw [u3 a c ha hc, s3 c a hc ha, sy c (j + a) (by omega) (by omega)]]
      rw [show (((-1 : Int)) : Rat) = -1 from rfl]
      grind
    have syl : Sy m (mtx left) := fun a b ha hb => by
      rw [eL a b ha hb, eL b a hb ha]
      exact schur_sy sy hK a b ha hb
    have hLp : Lp (j + m) (mtx T) = Lp j (mtx T) * Lp m (mtx left) := by
      rw [Lp_schur sy hK, Lp_congr m eL]
    obtain ⟨a1, a, b, a2, a3⟩ := p_in w2 syl (by show 1 ≤ kL j; unfold kL; omega) m0 (by omega) k1
    obtain ⟨z1, z2, z3, r', z4, z5⟩ := p_srank w2 syl (by show 1 ≤ kL j; unfold kL; omega) m0 (by omega) k2
    obtain ⟨f1, f2, f3⟩ := p_det w2 (by show 1 ≤ kL j; unfold kL; omega) m0 (by omega) k2
    obtain ⟨g1, P', Q', g2, g3⟩ := p_inC hS sy hC (by omega) (by omega) (by omega) (by
      have := Nat.pow_le_pow_right (n := 3) (by omega) (show j + m + 1 ≤ 6 by omega)
      exact Nat.le_trans (Nat.mul_le_mul_right 5 this) (by decide))
    have p5 : 5 ^ (j + m) * 5 ≤ QB := by
      have := Nat.pow_le_pow_right (n := 5) (by omega) n5
      exact Nat.le_trans (Nat.mul_le_mul_right 5 this) (by decide)
    obtain ⟨h1, h2, h3, R, h4, h5⟩ := p_srank hS sy (by omega) (by omega) (by omega) p5
    obtain ⟨l1, l2, l3⟩ := p_det hS (by omega) (by omega) (by omega) p5
    have hay := In.corner (p := P) (q := Q) (a := a) (b := b) sy (i3.congr fun i k hi hk => (c3 i k hi hk).symm) hK (a3.congr fun i k hi hk => (eL i k hi hk).symm)
    obtain ⟨rfl, rfl⟩ := g3.uniq hay
    have eq1 : p_inertia T = p__law_plus (p_inertia corner) (p_inertia left) := by
      rw [g2, i2, a2, (p_lplus _ _ _ _).2]
      simp
    have eq2 : p_square_rank T = (j : Int) + p_square_rank left := by
      have e1 := hay.rank h5
      have e2 := a3.rank z5
      have e3 := sg.eq nz
      rw [h2, h4, z2, z4]
      omega
    refine ⟨g1, i1, a1, by rw [i2, a2]; exact (p_lplus _ _ _ _).1, fun _ => ⟨h1, z1⟩, fun c => ?_, fun _ => ?_⟩
    · simp [eq1, eq2] at c
    · refine ⟨l1, d1, f1, ⟨d3.qz k4, f3.qz k2⟩, ?_⟩
      show decide _ = true
      rw [decide_eq_true_eq, l2, d4, f2]
      exact hLp
end Ho
end

section
set_option linter.all false
/-! Ho16: minors in the middle (Jacobi), one letter less (Cauchy). -/
namespace Ho
open Fw La
theorem range_zip {α : Type} (f : Nat → α) (n : Nat) : ((List.range (n + 1)).map f).zip (((List.range (n + 1)).map f).drop 1) = (List.range n).map fun k => (f k, f (k + 1)) := by
  refine List.ext_getElem (by simp) fun i h1 h2 => ?_
  simp [Nat.add_comm]
theorem minors_ok {n : Nat} {T : List (List Rat)} (hT : TI 20 n T) (n2 : 2 ≤ n) (n5 : n ≤ 5) : p__law_minors_hold_pre T (n : Int) := by
  have hS : Sh n n 5 T := hT.sh (by decide) (by decide)
  have hC : Cd n 5 (mtx T) := hT.cd (by decide) (by decide)
  have sy := hT.sy
  have p5 : 5 ^ n * 5 ≤ QB := by
    have := Nat.pow_le_pow_right (n := 5) (by omega) n5
    exact Nat.le_trans (Nat.mul_le_mul_right 5 this) (by decide)
  obtain ⟨g1, p, q, g2, g3⟩ := p_inC hS sy hC (by omega) (by omega) (by omega) (by
      have := Nat.pow_le_pow_right (n := 3) (by omega) (show n + 1 ≤ 6 by omega)
      exact Nat.le_trans (Nat.mul_le_mul_right 5 this) (by decide))
  obtain ⟨a1, a2⟩ := p_above hS sy (by omega) (by omega) (by omega) p5
  have ab := above sy g3
  have sg := signs_of sy g3
  obtain ⟨h1, R, h4, h5⟩ := p_rank hS (by omega) (by omega) (by omega) (by omega) (by rw [Nat.min_self]; exact p5)
  have rk := g3.rank h5
  have re : irng (1 : Int) ((n : Int) + 1) = irng ((1 : Nat) : Int) ((n + 1 : Nat) : Int) := rfl
  have key : ∀ k, k ≤ n → 0 < k → p__law_part_pre T (irng 0 (k : Int)) (irng 0 (k : Int)) ∧ p_determinant_pre (p__law_part T (irng 0 (k : Int)) (irng 0 (k : Int))) ∧ p_determinant (p__law_part T (irng 0 (k : Int)) (irng 0 (k : Int))) = Lp k (mtx T) := fun k hk k0 => by
    rw [irng_ups]
    obtain ⟨c1, c2, c3⟩ := p_part (a := k) (b := k) (f := fun i => i) (g := fun i => i) hS (by omega) (by omega) (fun i hi => by omega) (fun i hi => by omega)
    obtain ⟨d1, d2, d3⟩ := p_det c2 (by omega) k0 (by omega) (Nat.le_trans (pw_le hk) p5)
    exact ⟨c1, d1, d2.trans (Lp_congr k c3)⟩
  refine ⟨⟨⟨by omega, by unfold LM; omega⟩, by omega, by unfold LM; omega⟩, ?_⟩
  rw [re]
  refine ⟨by rw [irng2_len]; exact lmok (by omega), fun x hx => ?_, by rw [List.length_map, irng2_len]; unfold LM; simp; omega, ?_⟩
  · obtain ⟨k, k1, k2, rfl⟩ := irng2_mem.mp hx
    obtain ⟨e1, e2, e3⟩ := key k (by omega) (by omega)
    exact ⟨rgok (by omega), rgok (by omega), e1, e2⟩
  intro minors hm
  have mE : minors = (List.range (n + 1)).map fun k => Lp k (mtx T) := by
    rw [hm, List.range_succ_eq_map, List.map_cons, List.map_map]
    show (1 : Rat) :: _ = Lp 0 (mtx T) :: _
    congr 1
    rw [irng2_ups, List.map_map]
    refine List.map_congr_left fun i hi => ?_
    have hi : i < n := List.mem_range.mp hi
    have := (key (1 + i) (by omega) (by omega)).2.2
    show p_determinant _ = Lp (i + 1) (mtx T)
    rw [this, Nat.add_comm]
  have ml : minors.length = n + 1 := by rw [mE]; simp
  have all_ : ((minors.map fun x => decide (0 < qsgn x)).all id) = true ↔ ∀ j, j ≤ n → 0 < Lp j (mtx T) := by
    rw [mE]
    simp only [List.all_map, List.all_eq_true, List.mem_range, Function.comp, id, decide_eq_true_eq]
    exact ⟨fun h j hj => qsgn_pos.mp (h j (by omega)), fun h j hj => qsgn_pos.mpr (h j (by omega))⟩
  have ix1 : ix minors (-1) = Lp n (mtx T) := by
    rw [ix_neg (a := n) (by rw [ml]; omega) (by decide) (by rw [ml]; omega) (by rw [ml]; omega)]
    simp [mE]
  have o1 : IxOk minors (-1) := ⟨by rw [ml]; omega, by omega⟩
  have any_ : ((minors.map fun x => decide (qsgn x = 0)).any id) = true ↔ ∃ j, j ≤ n ∧ Lp j (mtx T) = 0 := by
    rw [mE]
    simp only [List.any_map, List.any_eq_true, List.mem_range, Function.comp, id, decide_eq_true_eq]
    constructor
    · rintro ⟨j, hj, h⟩
      exact ⟨j, by omega, Classical.byContradiction fun k => (qsgn0.mpr k) h⟩
    · rintro ⟨j, hj, h⟩
      exact ⟨j, by omega, by rw [h]; rfl⟩
  have eqA : p_is_above T = ((minors.map fun x => decide (0 < qsgn x)).all id) := by
    rw [Bool.eq_iff_iff, a2, all_]
  have eqB : p_is_above T = decide (((p : Int), (q : Int)) = ((n : Int), (0 : Int))) := by
    rw [Bool.eq_iff_iff, a2, ab, decide_eq_true_eq, Prod.mk.injEq]
    omega
  refine ⟨g1, ?_⟩
  rw [g2]
  rintro p0 rfl q0 rfl
  refine ⟨a1, by rw [ml]; exact lmok (by omega), fun _ => a1, fun c => ?_, fun _ => ?_⟩
  · rw [Bool.or_eq_true, decide_eq_true_eq, decide_eq_true_eq] at c
    rcases c with c | c
    · exact absurd eqA c
    · exact absurd eqB c
  refine ⟨o1, fun _ => ⟨o1, by decide⟩, ?_⟩
  rw [ix1]
  refine ⟨fun c => ?_, fun _ => ⟨by rw [ml]; exact lmok (by omega), fun c => ⟨h1, ?_⟩, fun c => ⟨?_, ?_⟩⟩⟩
  · rw [Bool.and_eq_true, decide_eq_true_eq, decide_eq_true_eq] at c
    have nz := qsgn0.mp c.1
    have := sg.sg nz
    refine absurd ?_ c.2
    rw [sg_cases] at this
    show qsgn (Lp n (mtx T)) = if decide ((q : Int) % 2 = 0) = true then 1 else -1
    by_cases e : q % 2 = 0
    · rw [if_pos e, Rat.mul_one] at this
      rw [if_pos (by rw [decide_eq_true_eq]; omega)]
      rcases qsgn_cases (Lp n (mtx T)) with h | h | h
      · exact h.1
      · exact absurd h.2 nz
      · have := h.2; grind
    · rw [if_neg e] at this
      rw [if_neg (by rw [decide_eq_true_eq]; omega)]
      rcases qsgn_cases (Lp n (mtx T)) with h | h | h
      · have := h.2; grind
      · exact absurd h.2 nz
      · exact h.1
  · show decide ((p : Int) + (q : Int) = _) = true
    rw [decide_eq_true_eq, h4]; omega
  · show LmOk (minors.zip (cutL minors (some ((1 : Nat) : Int)) none)).length
    rw [List.length_zip, cut_drop (by omega), List.length_drop, ml]; exact lmok (by omega)
  · have nz : ∀ k, k ≤ n → Lp k (mtx T) ≠ 0 := fun k hk z => by
      have := any_.mpr ⟨k, hk, z⟩
      rw [c] at this; cases this
    obtain ⟨j1, j2⟩ := jacobi sy nz g3
    show (decide ((q : Int) = _) && decide ((p : Int) + (q : Int) = (n : Int))) = true
    rw [Bool.and_eq_true, decide_eq_true_eq, decide_eq_true_eq]
    refine ⟨?_, by omega⟩
    show (q : Int) = ((((minors.zip (cutL minors (some ((1 : Nat) : Int)) none)).filter fun p => decide (qsgn p.1 ≠ qsgn p.2)).map fun _ => (1 : Int)).length : Int)
    rw [cut_drop (by omega), mE, range_zip, List.length_map, List.filter_map, List.length_map]
    congr 1
    rw [j2]
    congr 1
    refine List.filter_congr fun k hk => ?_
    have hk : k < n := List.mem_range.mp hk
    show decide _ = decide (qsgn (Lp k (mtx T)) ≠ qsgn (Lp (k + 1) (mtx T)))
    rw [decide_eq_decide]
    have n1 := nz k (by omega)
    have n2 := nz (k + 1) (by omega)
    rcases qsgn_cases (Lp k (mtx T)) with h | h | h
    · rcases qsgn_cases (Lp (k + 1) (mtx T)) with g | g | g
      · rw [h.1, g.1]; simp [h.2, g.2]
      · exact absurd g.2 n2
      · have : ¬ 0 < Lp (k + 1) (mtx T) := by have := g.2; grind
        rw [h.1, g.1]; simp [h.2, this]
    · exact absurd h.2 n1
    · have : ¬ 0 < Lp k (mtx T) := by have := h.2; grind
      rcases qsgn_cases (Lp (k + 1) (mtx T)) with g | g | g
      · rw [h.1, g.1]; simp [this, g.2]
      · exact absurd g.2 n2
      · have : ¬ 0 < Lp (k + 1) (mtx T) := by have := g.2; grind
        rw [h.1, g.1]; simp [*]
theorem fewer_ok {n : Nat} {T : List (List Rat)} (st : St2) (hT : TI 20 n T) (n2 : 2 ≤ n) (n5 : n ≤ 5) : p__law_fewer_hold_pre T (n : Int) st := by
  have hS : Sh n n 5 T := hT.sh (by decide) (by decide)
  have hC : Cd n 5 (mtx T) := hT.cd (by decide) (by decide)
  have sy := hT.sy
  have p3 : ∀ n, n ≤ 5 → 3 ^ (n + 1) * 5 ≤ QB := fun n n5 => by
    have := Nat.pow_le_pow_right (n := 3) (by omega) (show n + 1 ≤ 6 by omega)
    exact Nat.le_trans (Nat.mul_le_mul_right 5 this) (by decide)
  obtain ⟨g1, p, q, g2, g3⟩ := p_inC hS sy hC (by omega) (by omega) (by omega) (p3 n n5)
  obtain ⟨t1, v, v1, v2⟩ := p_take (m := (n : Int)) st (by omega) (by omega)
  refine ⟨t1, ?_⟩
  rw [v2]
  rintro gone rfl st' _
  refine ⟨rgok (by omega), by rw [irng_len]; exact lmok (by omega), ?_⟩
  obtain ⟨N, rfl⟩ : ∃ N, n = N + 1 := ⟨n - 1, by omega⟩
  rw [held_ups (by omega)]
  rintro hl rfl
  refine ⟨g1, ?_⟩
  rw [g2]
  rintro p0 rfl q0 rfl
  obtain ⟨c1, c2, c3⟩ := p_part (a := N) (b := N) (f := held v) (g := held v) hS (by omega) (by omega) (fun i hi => held_lt hi) (fun i hi => held_lt hi)
  have cd : Cd N 5 (mtx (p__law_part T (ups N (held v)) (ups N (held v)))) := Cd.int (by decide) fun i j hi hj => by
    rw [c3 i j hi hj]
    obtain ⟨z, h1, h2⟩ := hT.wh _ _ (held_lt (g := v) hi) (held_lt (g := v) hj)
    exact ⟨z, by show _ < 32; omega, h2⟩
  obtain ⟨i1, a, b, i2, i3⟩ := p_inC c2 (fun i j hi hj => by rw [c3 i j hi hj, c3 j i hj hi]; exact sy _ _ (held_lt hi) (held_lt hj)) cd (by omega) (by omega) (by omega) (p3 N (by omega))
  refine ⟨c1, i1, ?_⟩
  rw [i2]
  rintro a0 rfl b0 rfl
  have := In.less (g := v) sy (by omega) g3 (i3.congr fun i j hi hj => (c3 i j hi hj).symm)
  simp
  omega
end Ho
end

section
set_option linter.all false
set_option maxHeartbeats 1000000
/-! Ho17: sums (Weyl), tables beside, multiplied, times their turned ones. -/
namespace Ho
open Fw La
theorem fm_len {α : Type} {m : Nat} {f : Nat → List α} : ∀ n, (∀ i, i < n → (f i).length = m) → ((List.range n).flatMap f).length = n * m
  | 0, _ => by simp
  | n + 1, h => by
    rw [List.range_succ, List.flatMap_append, List.length_append, fm_len n fun i hi => h i (by omega), Nat.succ_mul]
    simp [h n (by omega)]
theorem fm_at {α : Type} {m : Nat} {d : α} {f : Nat → List α} : ∀ n, (∀ i, i < n → (f i).length = m) → ∀ i k, i < n → k < m → ((List.range n).flatMap f).getD (i * m + k) d = (f i).getD k d
  | 0, _, i, k, hi, _ => by omega
  | n + 1, h, i, k, hi, hk => by
    have hl := fm_len n fun i hi => h i (by omega)
    rw [List.range_succ, List.flatMap_append]
    by_cases g : i < n
    · have : i * m + k < n * m := by
        have := Nat.mul_le_mul_right m (show i + 1 ≤ n by omega)
        rw [Nat.succ_mul] at this; omega
      rw [gA (by rw [hl]; exact this), fm_at n (fun i hi => h i (by omega)) i k g hk]
    · have : i = n := by omega
      subst this
      have := gB (l := (List.range i).flatMap f) (m := [i].flatMap f) (a := k) (d := d)
      rw [hl] at this
      rw [this]; simp
theorem TI.p5 {n : Nat} (n7 : n ≤ 7) : 5 ^ n * 5 ≤ QB ∧ 3 ^ (n + 1) * 9 ≤ QB ∧ 3 ^ (n + 1) * 5 ≤ QB := by
  have h1 := Nat.pow_le_pow_right (n := 5) (by omega) n7
  have h2 := Nat.pow_le_pow_right (n := 3) (by omega) (show n + 1 ≤ 8 by omega)
  exact ⟨Nat.le_trans (Nat.mul_le_mul_right 5 h1) (by decide), Nat.le_trans (Nat.mul_le_mul_right 9 h2) (by decide), Nat.le_trans (Nat.mul_le_mul_right 5 h2) (by decide)⟩
theorem TI.in_ {n : Nat} {T : List (List Rat)} (hT : TI 20 n T) (n0 : 0 < n) (n7 : n ≤ 7) : p_inertia_pre T ∧ ∃ p q : Nat, p_inertia T = ((p : Int), (q : Int)) ∧ In n (mtx T) p q := by
  have hS : Sh n n 5 T := hT.sh (by decide) (by decide)
  have hC : Cd n 5 (mtx T) := hT.cd (by decide) (by decide)
  exact p_inC hS hT.sy hC (by omega) n0 (by omega) (TI.p5 n7).2.2
theorem TI.det {n : Nat} {T : List (List Rat)} (hT : TI 20 n T) (n0 : 0 < n) (n7 : n ≤ 7) : p_determinant_pre T ∧ p_determinant T = Lp n (mtx T) ∧ Qz (p_determinant T) := by
  have hS : Sh n n 5 T := hT.sh (by decide) (by decide)
  obtain ⟨h1, h2, h3⟩ := p_det hS (by omega) n0 (by omega) (TI.p5 n7).1
  exact ⟨h1, h2, h3.qz (TI.p5 n7).1⟩
theorem three_le {n : Nat} (n5 : n ≤ 5) : 3 ^ (n + 1) * ((n * n + 1) * 56) ≤ QB := by
  have h2 := Nat.pow_le_pow_right (n := 3) (by omega) (show n + 1 ≤ 6 by omega)
  have h3 : n * n ≤ 25 := Nat.mul_le_mul n5 n5
  exact Nat.le_trans (Nat.mul_le_mul h2 (Nat.mul_le_mul_right 56 (Nat.add_le_add_right h3 1))) (by decide)
theorem TI.plus {n : Nat} {A B : List (List Rat)} {z : Int} (hA : TI 20 n A) (hB : TI 20 n B) (hz : z.natAbs < 4) (n0 : 0 < n) (n5 : n ≤ 5) : p_table_plus_pre A B z ∧ p_inertia_pre (p_table_plus A B z) ∧ ∃ p q : Nat, p_inertia (p_table_plus A B z) = ((p : Int), (q : Int)) ∧ In n (fun i j => mtx A i j + (z : Rat) * mtx B i j) p q := by
  have h1 : Sh n n 5 A := hA.sh (by decide) (by decide)
  have h2 : Sh n n 5 B := hB.sh (by decide) (by decide)
  obtain ⟨a, b, c⟩ := p_plus h1 h2 hz n0 (by omega) (by omega) (by decide)
  obtain ⟨d, p, q, e, f⟩ := p_in b (fun i j hi hj => by rw [c i j hi hj, c j i hj hi, hA.sy i j hi hj, hB.sy i j hi hj]) (by omega) n0 (by omega) (Nat.le_trans (Nat.mul_le_mul_left _ (Nat.mul_le_mul_left _ (by omega))) (three_le n5))
  exact ⟨a, d, p, q, e, f.congr fun i j hi hj => (c i j hi hj).symm⟩
theorem beside {n m : Nat} {A B : List (List Rat)} (hA : TI 20 n A) (hB : TI 20 m B) : TI 20 (n + m) ((A.map fun row => row ++ rpt (m : Int) (((0 : Int) : Rat))) ++ (B.map fun row => rpt (n : Int) (((0 : Int) : Rat)) ++ row)) ∧ (∀ i j, i < n → j < n → mtx ((A.map fun row => row ++ rpt (m : Int) (((0 : Int) : Rat))) ++ (B.map fun row => rpt (n : Int) (((0 : Int) : Rat)) ++ row)) i j = mtx A i j) ∧ (∀ i j, i < m → j < m → mtx ((A.map fun row => row ++ rpt (m : Int) (((0 : Int) : Rat))) ++ (B.map fun row => rpt (n : Int) (((0 : Int) : Rat)) ++ row)) (n + i) (n + j) = mtx B i j) ∧ (∀ i j, i < n → j < m → mtx ((A.map fun row => row ++ rpt (m : Int) (((0 : Int) : Rat))) ++ (B.map fun row => rpt (n : Int) (((0 : Int) : Rat)) ++ row)) i (n + j) = 0) ∧ (∀ i j, i < m → j < n → mtx ((A.map fun row => row ++ rpt (m : Int) (((0 : Int) : Rat))) ++ (B.map fun row => rpt (n : Int) (((0 : Int) : Rat)) ++ row)) (n + i) j = 0) := by
  have rp : ∀ k : Nat, rpt (k : Int) (((0 : Int) : Rat)) = List.replicate k 0 := fun k => by unfold rpt; rw [Int.toNat_natCast]; rfl
  rw [rp, rp]
  have al : (A.map fun row => row ++ List.replicate m (0 : Rat)).length = n := by rw [List.length_map]; exact hA.sq.1
  have u1 : ∀ i, i < n → mtx ((A.map fun row => row ++ List.replicate m (0 : Rat)) ++ (B.map fun row => List.replicate n 0 ++ row)) i = vl (rowD A i ++ List.replicate m 0) := fun i hi => by
    unfold mtx vl rowD
    rw [gA (by rw [al]; exact hi), gD (by rw [al]; exact hi), gD (by rw [hA.sq.1]; exact hi), List.getElem_map]
  have u2 : ∀ i, i < m → mtx ((A.map fun row => row ++ List.replicate m (0 : Rat)) ++ (B.map fun row => List.replicate n 0 ++ row)) (n + i) = vl (List.replicate n 0 ++ rowD B i) := fun i hi => by
    have := gB (l := A.map fun row => row ++ List.replicate m (0 : Rat)) (m := B.map fun row => List.replicate n 0 ++ row) (a := i) (d := [])
    rw [al] at this
    unfold mtx vl rowD
    rw [this, gD (by rw [List.length_map, hB.sq.1]; exact hi), gD (by rw [hB.sq.1]; exact hi), List.getElem_map]
  have e1 : ∀ i j, i < n → j < n → mtx ((A.map fun row => row ++ List.replicate m (0 : Rat)) ++ (B.map fun row => List.replicate n 0 ++ row)) i j = mtx A i j := fun i j hi hj => by
    rw [u1 i hi, mt_row]
    unfold vl
    rw [gA (by rw [hA.sq.row hi]; exact hj)]
  have e2 : ∀ i j, i < m → j < m → mtx ((A.map fun row => row ++ List.replicate m (0 : Rat)) ++ (B.map fun row => List.replicate n 0 ++ row)) (n + i) (n + j) = mtx B i j := fun i j hi hj => by
    rw [u2 i hi, mt_row]
    unfold vl
    have := gB (l := List.replicate n (0 : Rat)) (m := rowD B i) (a := j) (d := 0)
    rwa [List.length_replicate] at this
  have e3 : ∀ i j, i < n → j < m → mtx ((A.map fun row => row ++ List.replicate m (0 : Rat)) ++ (B.map fun row => List.replicate n 0 ++ row)) i (n + j) = 0 := fun i j hi hj => by
    rw [u1 i hi]
    unfold vl
    have := gB (l := rowD A i) (m := List.replicate m (0 : Rat)) (a := j) (d := 0)
    rw [hA.sq.row hi] at this
    rw [this, gD (by rw [List.length_replicate]; exact hj), List.getElem_replicate]
  have e4 : ∀ i j, i < m → j < n → mtx ((A.map fun row => row ++ List.replicate m (0 : Rat)) ++ (B.map fun row => List.replicate n 0 ++ row)) (n + i) j = 0 := fun i j hi hj => by
    rw [u2 i hi]
    unfold vl
    rw [gA (by rw [List.length_replicate]; exact hj), gD (by rw [List.length_replicate]; exact hj), List.getElem_replicate]
  refine ⟨⟨⟨by rw [List.length_append, al, List.length_map, hB.sq.1], fun r hr => ?_⟩, fun i j hi hj => ?_, fun i j hi hj => ?_⟩, e1, e2, e3, e4⟩
  · rcases List.mem_append.mp hr with g | g
    · obtain ⟨x, hx, rfl⟩ := List.mem_map.mp g
      rw [List.length_append, hA.sq.2 x hx, List.length_replicate]
    · obtain ⟨x, hx, rfl⟩ := List.mem_map.mp g
      rw [List.length_append, hB.sq.2 x hx, List.length_replicate]
  · by_cases g : i < n
    · by_cases k : j < n
      · rw [e1 i j g k, e1 j i k g]; exact hA.sy i j g k
      · obtain ⟨j, rfl⟩ : ∃ x, j = n + x := ⟨j - n, by omega⟩
        rw [e3 i j g (by omega), e4 j i (by omega) g]
    · obtain ⟨i, rfl⟩ : ∃ x, i = n + x := ⟨i - n, by omega⟩
      by_cases k : j < n
      · rw [e4 i j (by omega) k, e3 j i k (by omega)]
      · obtain ⟨j, rfl⟩ : ∃ x, j = n + x := ⟨j - n, by omega⟩
        rw [e2 i j (by omega) (by omega), e2 j i (by omega) (by omega)]; exact hB.sy i j (by omega) (by omega)
  · by_cases g : i < n
    · by_cases k : j < n
      · rw [e1 i j g k]; exact hA.wh i j g k
      · obtain ⟨j, rfl⟩ : ∃ x, j = n + x := ⟨j - n, by omega⟩
        exact ⟨0, by decide, e3 i j g (by omega)⟩
    · obtain ⟨i, rfl⟩ : ∃ x, i = n + x := ⟨i - n, by omega⟩
      by_cases k : j < n
      · exact ⟨0, by decide, e4 i j (by omega) k⟩
      · obtain ⟨j, rfl⟩ : ∃ x, j = n + x := ⟨j - n, by omega⟩
        rw [e2 i j (by omega) (by omega)]; exact hB.wh i j (by omega) (by omega)
/-- a row of the product -/
def krow (n : Nat) (A B : List (List Rat)) (i k : Nat) : List Rat := (List.range n).flatMap fun j => (rowD B k).map fun x => mtx A i j * x
def kall (n m : Nat) (A B : List (List Rat)) : List (List Rat) := (List.range n).flatMap fun i => (List.range m).map fun k => krow n A B i k
theorem krow_len {n m i k : Nat} {A B : List (List Rat)} (hB : Sq2 m B) (hk : k < m) : (krow n A B i k).length = n * m := fm_len n fun j _ => by rw [List.length_map, hB.row hk]
theorem kall_len {n m : Nat} {A B : List (List Rat)} : (kall n m A B).length = n * m := fm_len n fun j _ => by rw [List.length_map, List.length_range]
theorem kall_at {n m : Nat} {A B : List (List Rat)} (hB : Sq2 m B) (m0 : 0 < m) {a b : Nat} (ha : a < n * m) (hb : b < n * m) : mtx (kall n m A B) a b = mtx A (a / m) (b / m) * mtx B (a % m) (b % m) := by
  have ai : a / m < n := by rw [Nat.div_lt_iff_lt_mul m0]; exact ha
  have bi : b / m < n := by rw [Nat.div_lt_iff_lt_mul m0]; exact hb
  have ak := Nat.mod_lt a m0
  have bk := Nat.mod_lt b m0
  have e1 : (kall n m A B).getD a [] = krow n A B (a / m) (a % m) := by
    have := fm_at (d := []) (m := m) (f := fun i => (List.range m).map fun k => krow n A B i k) n (fun j _ => by rw [List.length_map, List.length_range]) (a / m) (a % m) ai ak
    rw [Nat.mul_comm, Nat.div_add_mod] at this
    unfold kall
    rw [this, gD (by rw [List.length_map, List.length_range]; exact ak), List.getElem_map, List.getElem_range]
  unfold mtx
  rw [e1]
  have := fm_at (d := (0 : Rat)) (m := m) (f := fun j => (rowD B (a % m)).map fun x => mtx A (a / m) j * x) n (fun j _ => by rw [List.length_map, hB.row ak]) (b / m) (b % m) bi bk
  rw [Nat.mul_comm, Nat.div_add_mod] at this
  unfold krow
  rw [this, gD (by rw [List.length_map, hB.row ak]; exact bk), List.getElem_map, ← vl_at (by rw [hB.row ak]; exact bk)]
  rfl
theorem kall_sh {n m : Nat} {A B : List (List Rat)} (hB : Sq2 m B) : Sq2 (n * m) (kall n m A B) := ⟨kall_len, fun r hr => by
  obtain ⟨i, _, h⟩ := List.mem_flatMap.mp hr
  obtain ⟨k, hk, rfl⟩ := List.mem_map.mp h
  exact krow_len hB (List.mem_range.mp hk)⟩
theorem kall_in {n m p q r s : Nat} {A B : List (List Rat)} (hA : TI 20 n A) (hB : TI 20 m B) (n0 : 0 < n) (m0 : 0 < m) (h6 : n * m ≤ 6) (iA : In n (mtx A) p q) (iB : In m (mtx B) r s) : p_inertia_pre (kall n m A B) ∧ p_inertia (kall n m A B) = (((p * r + q * s : Nat) : Int), ((p * s + q * r : Nat) : Int)) := by
  have dv : ∀ {a}, a < n * m → a / m < n ∧ a % m < m := fun h => ⟨by rw [Nat.div_lt_iff_lt_mul m0]; exact h, Nat.mod_lt _ m0⟩
  have cd : Cd (n * m) 9 (mtx (kall n m A B)) := Cd.int (by decide) fun a b ha hb => by
    rw [kall_at hB.sq m0 ha hb]
    obtain ⟨z, h1, h2⟩ := hA.wh _ _ (dv ha).1 (dv hb).1
    obtain ⟨w, h3, h4⟩ := hB.wh _ _ (dv ha).2 (dv hb).2
    refine ⟨z * w, ?_, by rw [h2, h4, Rat.intCast_mul]⟩
    rw [Int.natAbs_mul]
    exact Nat.lt_of_le_of_lt (Nat.mul_le_mul h1 h3) (by decide)
  have sy : Sy (n * m) (mtx (kall n m A B)) := fun a b ha hb => by
    rw [kall_at hB.sq m0 ha hb, kall_at hB.sq m0 hb ha, hA.sy _ _ (dv ha).1 (dv hb).1, hB.sy _ _ (dv ha).2 (dv hb).2]
  have hs := (kall_sh (n := n) (A := A) hB.sq).sh (k := 18) fun i j hi hj => cd.bz (by decide) hi hj
  obtain ⟨h1, P, Q, h2, h3⟩ := p_inC hs sy cd (by decide) (Nat.mul_pos n0 m0) (by omega) (TI.p5 (by omega)).2.1
  obtain ⟨rfl, rfl⟩ := h3.uniq ((In.kron iA iB).congr fun a b ha hb => kall_at hB.sq m0 ha hb)
  exact ⟨h1, h2⟩
theorem kloop {n m : Nat} {A B : List (List Rat)} (hA : TI 20 n A) (hB : TI 20 m B) (n5 : n ≤ 5) (m2 : m ≤ 2) {C : List (List Rat) → Prop} (hC : C (kall n m A B)) :
    for1 ((irng 0 (n : Int))) ([] : (List (List Rat))) (fun (i_67 : Nat) (i_66 : Int) (both_64 : (List (List Rat))) N_68 => RgOk (m : Int) ∧ for1 ((irng 0 (m : Int))) both_64 (fun (i_73 : Nat) (k_72 : Int) (both_70 : (List (List Rat))) N_74 => ∀ row_75, row_75 = ([] : (List Rat)) → RgOk (n : Int) ∧ for1 ((irng 0 (n : Int))) row_75 (fun (i_81 : Nat) (j_80 : Int) (row_78 : (List Rat)) N_82 => IxOk B k_72 ∧ LmOk ((ix B k_72)).length ∧ (∀ x_83 ∈ (ix B k_72), IxOk A i_66 ∧ IxOk ((ix A i_66)) j_80 ∧ (Qz ((ix ((ix A i_66)) j_80)) ∧ Qz x_83)) ∧ row_78.length + ((((ix B k_72)).map fun x_83 => ((ix ((ix A i_66)) j_80) * x_83))).length ≤ LM ∧ ∀ row_90, row_90 = (row_78 ++ (((ix B k_72)).map fun x_83 => ((ix ((ix A i_66)) j_80) * x_83))) → N_82 row_90) (fun (row_78 : (List Rat)) => both_70.length < LM ∧ ∀ both_98, both_98 = (both_70 ++ [row_78]) → N_74 both_98)) (fun (both_70 : (List (List Rat))) => N_68 both_70)) C := by
  have sA : Sh n n 5 A := hA.sh (by decide) (by decide)
  have sB : Sh m m 5 B := hB.sh (by decide) (by decide)
  have len1 : ∀ i, i ≤ n → ((List.range i).flatMap fun i => (List.range m).map fun k => krow n A B i k).length = i * m := fun i hi => fm_len i fun j _ => by rw [List.length_map, List.length_range]
  refine ⟨fun i b => b = (List.range i).flatMap fun i => (List.range m).map fun k => krow n A B i k, rfl, ?_, fun b hb => by rw [irng_len] at hb; rw [hb]; exact hC⟩
  intro i x both hx hb
  obtain ⟨hi, rfl⟩ := List.getElem?_eq_some_iff.mp hx
  rw [irng_at]
  rw [irng_len] at hi
  have im : i * m ≤ 10 := Nat.le_trans (Nat.mul_le_mul (show i ≤ 5 by omega) m2) (by decide)
  refine ⟨rgok (by omega), fun k b => b = both ++ (List.range k).map fun k => krow n A B i k, by simp, ?_, fun b hb2 => ?_⟩
  · intro k y b hy hbb
    obtain ⟨hk, rfl⟩ := List.getElem?_eq_some_iff.mp hy
    rw [irng_at]
    rw [irng_len] at hk
    have kB : k < B.length := by rw [sB.1]; exact hk
    have iA : i < A.length := by rw [sA.1]; exact hi
    have bl : (rowD B k).length = m := (sB.rowD hk).1
    rintro row rfl
    rw [ixr kB, ixr iA]
    refine ⟨rgok (by omega), fun j r => r = (List.range j).flatMap fun j => (rowD B k).map fun x => mtx A i j * x, rfl, ?_, ?_⟩
    · intro j z r hz hr
      obtain ⟨hj, rfl⟩ := List.getElem?_eq_some_iff.mp hz
      rw [irng_at]
      rw [irng_len] at hj
      rw [ixv (l := rowD A i) (by rw [(sA.rowD hi).1]; exact hj)]
      have rlen : r.length = j * m := by rw [hr]; exact fm_len j fun j _ => by rw [List.length_map, bl]
      have jm : j * m ≤ 10 := Nat.le_trans (Nat.mul_le_mul (show j ≤ 5 by omega) m2) (by decide)
      refine ⟨ixok kB, by rw [bl]; exact lmok (by omega), fun x hx => ⟨ixok iA, ixok (by rw [(sA.rowD hi).1]; exact hj), ((sA.rowD hi).bz hj).qz (by decide), ((sB.rowD hk).2 x hx).qz (by decide)⟩, by rw [rlen, List.length_map, bl]; unfold LM; omega, ?_⟩
      rintro r' rfl
      rw [hr, List.range_succ, List.flatMap_append]
      simp [mt_row]
    · intro r hr
      rw [irng_len] at hr
      refine ⟨by rw [hbb, hb, List.length_append, len1 i (by omega), List.length_map, List.length_range]; unfold LM; omega, ?_⟩
      rintro b' rfl
      rw [hbb, hr, List.range_succ, List.map_append, List.append_assoc]
      rfl
  · rw [irng_len] at hb2
    show b = (List.range (i + 1)).flatMap fun i => (List.range m).map fun k => krow n A B i k
    rw [hb2, hb, List.range_succ, List.flatMap_append]
    simp
end Ho
end

section
set_option linter.all false
set_option maxHeartbeats 1000000
/-! Ho18: the law's sums. -/
namespace Ho
open Fw La
theorem mulS {i k : Nat} (h : k ≤ 1000) : MulOk (i : Int) (k : Int) := mulOk_r (by rw [Int.natAbs_natCast]; omega)
theorem p_gram {n : Nat} {T : List (List Rat)} (hT : TI 20 n T) (n0 : 0 < n) (n5 : n ≤ 5) : p_turned_pre T ∧ p_table_times_pre T (p_turned T) ∧ p_inertia_pre (p_table_times T (p_turned T)) ∧ p_table_rank_pre T ∧ p_inertia (p_table_times T (p_turned T)) = (p_table_rank T, 0) ∧ p_trace_pre (p_table_times T (p_turned T)) ∧ LmOk T.length ∧ (∀ row ∈ T, LmOk row.length ∧ (∀ x ∈ row, Qz x ∧ Qz x) ∧ p__law_total_pre (row.map fun x => x * x)) ∧ p__law_total_pre (T.map fun row => p__law_total (row.map fun x => x * x)) ∧ p_trace (p_table_times T (p_turned T)) = p__law_total (T.map fun row => p__law_total (row.map fun x => x * x)) := by
  have hS : Sh n n 5 T := hT.sh (by decide) (by decide)
  obtain ⟨t1, t2, t3⟩ := p_turn hS n0 (by omega) (by omega)
  have q1 : 1 + n * (5 + 5 + 1) ≤ 56 := Nat.add_le_add_left (Nat.mul_le_mul_right 11 n5) 1
  obtain ⟨x1, x2, x3⟩ := p_times hS t2 n0 n0 (by omega) (by omega) (by omega) (Nat.le_trans q1 (by decide))
  have x2 := x2.mono q1
  have eg : ∀ i j, i < n → j < n → mtx (p_table_times T (p_turned T)) i j = La.gram n (mtx T) i j := fun i j hi hj => by
    rw [x3 i j hi hj]
    exact Sm_congr fun c hc => by rw [t3 c j hc hj]
  have sy : Sy n (mtx (p_table_times T (p_turned T))) := fun i j hi hj => by
    rw [eg i j hi hj, eg j i hj hi]
    exact Sm_congr fun c hc => Rat.mul_comm _ _
  obtain ⟨i1, p, q, i2, i3⟩ := p_in x2 sy (by decide) n0 (by omega) (three_le n5)
  obtain ⟨h1, R, h4, h5⟩ := p_rank hS (by omega) (by omega) (by omega) (by omega) (by rw [Nat.min_self]; exact (TI.p5 (by omega)).1)
  obtain ⟨rfl, rfl⟩ := In.gram (i3.congr fun i j hi hj => (eg i j hi hj).symm) h5
  obtain ⟨tr1, tr2⟩ := p_tr x2 n0 (by omega) (Nat.le_trans (Nat.add_le_add_left (Nat.mul_le_mul_right 57 n5) 1) (by decide))
  have rt : ∀ row ∈ T, p__law_total_pre (row.map fun x => x * x) ∧ p__law_total (row.map fun x => x * x) = Sm n (fun k => vl row k * vl row k) ∧ Bz 56 (p__law_total (row.map fun x => x * x)) := fun row hr => by
    have b := hS.2 row hr
    obtain ⟨a1, a2, a3⟩ := p_total (xs := row.map fun x => x * x) (k := 10) (fun y hy => by
      obtain ⟨x, hx, rfl⟩ := List.mem_map.mp hy
      exact (b.2 x hx).mul (b.2 x hx)) (by rw [List.length_map, b.1]; exact Nat.le_trans q1 (by decide))
    rw [List.length_map, b.1] at a2 a3
    refine ⟨a1, ?_, a3.mono q1⟩
    rw [a2]
    exact Sm_congr fun k hk => by rw [vl_map (by rw [b.1]; exact hk), vl_at (by rw [b.1]; exact hk)]
  obtain ⟨w1, w2, w3⟩ := p_total (xs := T.map fun row => p__law_total (row.map fun x => x * x)) (k := 56) (fun y hy => by
    obtain ⟨x, hx, rfl⟩ := List.mem_map.mp hy
    exact (rt x hx).2.2) (by rw [List.length_map, hS.1]; exact Nat.le_trans (Nat.add_le_add_left (Nat.mul_le_mul_right 57 n5) 1) (by decide))
  refine ⟨t1, x1, i1, h1, by rw [i2, h4]; rfl, tr1, by rw [hS.1]; exact lmok (by omega), fun row hr => ⟨by rw [(hS.2 row hr).1]; exact lmok (by omega), fun x hx => ⟨((hS.2 row hr).2 x hx).qz (by decide), ((hS.2 row hr).2 x hx).qz (by decide)⟩, (rt row hr).1⟩, w1, ?_⟩
  rw [tr2, w2, List.length_map, hS.1]
  refine Sm_congr fun i hi => ?_
  have il : i < T.length := by rw [hS.1]; exact hi
  rw [eg i i hi hi, vl_map il, (rt _ (List.getElem_mem il)).2.1]
  unfold La.gram
  rw [mt_at il]
theorem sums_ok {n : Nat} {A B : List (List Rat)} (st : St2) (hA : TI 20 n A) (hB : TI 20 n B) (n2 : 2 ≤ n) (n5 : n ≤ 5) : p__law_sums_hold_pre A B (n : Int) st := by
  obtain ⟨a1, p, q, a2, a3⟩ := hA.in_ (by omega) (by omega)
  obtain ⟨b1, a, b, b2, b3⟩ := hB.in_ (by omega) (by omega)
  obtain ⟨c1, c2, c, d, c3, c4⟩ := hA.plus hB (z := 1) (by decide) (by omega) n5
  obtain ⟨d1, d2, c', d', d3, d4⟩ := hA.plus hA (z := -2) (by decide) (by omega) n5
  obtain ⟨e1, e2, c'', d'', e3, e4⟩ := hA.plus hB (z := 0) (by decide) (by omega) n5
  have h1 := a3.sum b3 (c4.congr fun i j hi hj => by rw [one_c]; grind)
  obtain ⟨rfl, rfl⟩ := d4.uniq (a3.neg.congr fun i j hi hj => by rw [show (((-2 : Int)) : Rat) = -2 from rfl]; grind)
  obtain ⟨rfl, rfl⟩ := e4.uniq (a3.congr fun i j hi hj => by rw [show (((0 : Int)) : Rat) = 0 from rfl]; grind)
  refine ⟨a1, b1, ?_⟩
  rw [a2, b2]
  rintro p0 rfl q0 rfl x0 rfl y0 rfl
  refine ⟨c1, c2, ?_⟩
  rw [c3]
  rintro u0 rfl v0 rfl
  refine ⟨fun z => ?_, fun _ => ⟨d1, d2, fun _ => ⟨e1, e2⟩, fun z => ?_, fun _ => ?_⟩⟩
  · simp at z
    omega
  · rw [d3, e3] at z
    simp at z
  obtain ⟨t1, v, v1, v2⟩ := p_take (m := 2) st (by decide) (by decide)
  refine ⟨t1, ?_⟩
  rw [v2]
  rintro m0 rfl st26 _
  rw [show (1 : Int) + (v : Int) = ((1 + v : Nat) : Int) by omega]
  obtain ⟨m, hm⟩ : ∃ m, m = 1 + v := ⟨_, rfl⟩
  rw [← hm]
  have m0 : 0 < m := by omega
  have m2 : m ≤ 2 := by omega
  obtain ⟨s1, s2⟩ := p_table (n := m) st26 m0 (by omega)
  refine ⟨s1, ?_⟩
  intro small hs st31 _
  rw [← hs] at s2
  obtain ⟨f1, r, s, f2, f3⟩ := s2.in_ m0 (by omega)
  refine ⟨f1, ?_⟩
  rw [f2]
  rintro r0 rfl s0 rfl
  obtain ⟨l1, l2, l3, l4, l5⟩ := beside hA s2
  have al : A.length = n := hA.sq.1
  have sl : small.length = m := s2.sq.1
  refine ⟨by rw [al]; exact lmok (by omega), fun row hr => ⟨⟨by omega, by omega⟩, by rw [hA.sq.2 row hr]; unfold LM rpt; rw [List.length_replicate]; omega⟩, by rw [sl]; exact lmok (by omega), fun row hr => ⟨⟨by omega, by omega⟩, by rw [s2.sq.2 row hr]; unfold LM rpt; rw [List.length_replicate]; omega⟩, by rw [List.length_map, List.length_map, al, sl]; unfold LM; omega, ?_⟩
  intro larger hl
  rw [← hl] at l1 l2 l3 l4 l5
  obtain ⟨g1, P, Q, g2, g3⟩ := l1.in_ (by omega) (by omega)
  obtain ⟨rfl, rfl⟩ := g3.uniq (In.block (n := n) (m := m) (A := mtx larger) (fun i k hi hk => l4 i k hi hk) (fun i k hi hk => l5 k i hk hi) (fun i j hi hj => l1.sy i j (by omega) (by omega)) (fun i j hi hj => l1.sy _ _ (by omega) (by omega)) (a3.congr l2) (f3.congr l3))
  obtain ⟨k1, k2, k3⟩ := l1.det (by omega) (by omega)
  obtain ⟨k4, k5, k6⟩ := hA.det (by omega) (by omega)
  obtain ⟨k7, k8, k9⟩ := s2.det (by omega) (by omega)
  have dd : p_determinant larger = p_determinant A * p_determinant small := by
    rw [k2, k5, k8, Lp_block n m (fun i j h1 h2 h3 => by
      obtain ⟨x, rfl⟩ : ∃ x, i = n + x := ⟨i - n, by omega⟩
      exact l5 x j (by omega) h3), Lp_congr n l2, Lp_congr m l3]
  refine ⟨g1, fun _ => ⟨k1, k4, k7, k6, k9⟩, fun z => ?_, fun _ => ?_⟩
  · rw [g2, dd] at z
    simp at z
  rintro both rfl
  refine ⟨rgok (by omega), kloop hA s2 n5 m2 ?_⟩
  obtain ⟨y1, y2, y3, y4, y5, y6, y7, y8, y9, y10⟩ := p_gram hA (by omega) n5
  have le1 := (signs_of hA.sy a3).le
  have le2 := (signs_of s2.sy f3).le
  refine ⟨mulS (by omega), fun z => ?_, fun z => ?_, fun _ => ⟨y1, y2, ?_⟩⟩
  · have h6 : n * m ≤ 6 := by
      rw [decide_eq_true_eq] at z
      have : ((n * m : Nat) : Int) ≤ 6 := by rw [Int.natCast_mul]; exact z
      omega
    exact ⟨(kall_in hA s2 (by omega) m0 h6 a3 f3).1, mulS (by omega), mulS (by omega), mulS (by omega), mulS (by omega)⟩
  · rw [Bool.and_eq_true, decide_eq_true_eq, decide_eq_true_eq] at z
    have h6 : n * m ≤ 6 := by
      have : ((n * m : Nat) : Int) ≤ 6 := by rw [Int.natCast_mul]; exact z.1
      omega
    refine absurd ?_ z.2
    rw [(kall_in hA s2 (by omega) m0 h6 a3 f3).2]
    simp
  · rintro gram rfl
    refine ⟨y3, y4, fun _ => ⟨y6, y7, y8, y9⟩, ?_⟩
    show (decide _ && decide _) = true
    rw [Bool.and_eq_true, decide_eq_true_eq, decide_eq_true_eq]
    exact ⟨y5, y10⟩
end Ho
end

section
set_option linter.all false
set_option maxHeartbeats 1000000
/-! Ho19: squares told; the law. -/
namespace Ho
open Fw La
theorem sqs_at {l : List (Rat × List Rat)} {a : Nat} (h : a < l.length) : (sqs l).getD a d0 = (l[a].1, vl l[a].2) := by
  unfold sqs
  rw [gD (by rw [List.length_map]; exact h), List.getElem_map]
theorem squares_ok {n : Nat} {T : List (List Rat)} (hT : TI 20 n T) (n2 : 2 ≤ n) (n5 : n ≤ 5) : p__law_squares_hold_pre T (n : Int) := by
  have hS : Sh n n 5 T := hT.sh (by decide) (by decide)
  have hC : Cd n 5 (mtx T) := hT.cd (by decide) (by decide)
  obtain ⟨a1, p, q, a2, a3⟩ := hT.in_ (by omega) (by omega)
  obtain ⟨s1, hP⟩ := p_squares hS hT.sy hC (by omega) (by omega) (by omega) (TI.p5 (by omega)).2.2
  have kk : 3 ^ (n + 1) * 5 ≤ 3645 := Nat.mul_le_mul_right 5 (Nat.pow_le_pow_right (n := 3) (by omega) (show n + 1 ≤ 6 by omega))
  have le := hP.le
  obtain ⟨rfl, rfl⟩ := a3.uniq ⟨sqs (p_squares_of T), hP.dec, hP.ind, hP.ne, rfl, rfl⟩
  refine ⟨s1, a1, a1, ?_⟩
  intro pairs hp
  rw [a2]
  rw [← hp] at hP le
  rintro p0 rfl q0 rfl
  have lm : LmOk pairs.length := lmok (by omega)
  rw [← hp]
  refine ⟨lm, fun _ => lm, fun c => ?_, fun _ => ?_⟩
  · rw [posn_sqs, negn_sqs] at c
    simp at c
  have bz : ∀ p ∈ pairs, Bz 3645 p.1 ∧ Shr n 3645 p.2 := fun p h => ⟨(hP.bz p h).1.mono kk, (hP.bz p h).2.mono kk⟩
  refine ⟨rgok (by omega), fun _ _ => True, trivial, fun i x hx _ => ?_, fun _ => ?_⟩
  · obtain ⟨hi, rfl⟩ := List.getElem?_eq_some_iff.mp hx
    rw [irng_at]
    rw [irng_len] at hi
    refine ⟨rgok (by omega), fun _ _ => True, trivial, fun j y hy _ => ?_, fun _ => trivial⟩
    obtain ⟨hj, rfl⟩ := List.getElem?_eq_some_iff.mp hy
    rw [irng_at]
    rw [irng_len] at hj
    have me : ∀ p ∈ pairs, (p.1 * ix p.2 (i : Int)) * ix p.2 (j : Int) = p.1 * vl p.2 i * vl p.2 j := fun p h => by
      rw [ixv (l := p.2) (i := i) (by rw [(bz p h).2.1]; exact hi), ixv (l := p.2) (i := j) (by rw [(bz p h).2.1]; exact hj)]
    rw [List.map_congr_left me]
    obtain ⟨t1, t2, _⟩ := p_total (xs := pairs.map fun p => p.1 * vl p.2 i * vl p.2 j) (k := 3645 + 3645 + 3645) (fun y hy => by
      obtain ⟨p, h, rfl⟩ := List.mem_map.mp hy
      exact ((bz p h).1.mul ((bz p h).2.bz hi)).mul ((bz p h).2.bz hj)) (by rw [List.length_map]; exact Nat.le_trans (Nat.add_le_add_left (Nat.mul_le_mul_right 10936 (show pairs.length ≤ 5 by omega)) 1) (by decide))
    have eq : p__law_total (pairs.map fun p => p.1 * vl p.2 i * vl p.2 j) = mtx T i j := by
      rw [t2, hP.dec i j hi hj]
      unfold Ls
      rw [sum_Sm d0, List.length_map, sqs_len]
      refine Sm_congr fun a ha => ?_
      rw [vl_map ha, sqs_at ha]
    have il : i < T.length := by rw [hS.1]; exact hi
    refine ⟨lm, fun p h => ?_, t1, ixok il, by rw [ixr il]; exact ixok (by rw [(hS.rowD hi).1]; exact hj), fun c => ?_, fun _ => trivial⟩
    · have b := bz p h
      rw [ixv (l := p.2) (i := i) (by rw [b.2.1]; exact hi), ixv (l := p.2) (i := j) (by rw [b.2.1]; exact hj)]
      exact ⟨ixok (by rw [b.2.1]; exact hi), ⟨b.1.qz (by decide), (b.2.bz hi).qz (by decide)⟩, ixok (by rw [b.2.1]; exact hj), (b.1.mul (b.2.bz hi)).qz (by decide), (b.2.bz hj).qz (by decide)⟩
    · rw [ixr il, ixv (by rw [(hS.rowD hi).1]; exact hj), eq] at c
      rw [decide_eq_true_eq] at c
      exact absurd rfl c
  · have hR : Sh pairs.length n 3645 (pairs.map fun p => p.2) := ⟨by rw [List.length_map], fun r hr => by
      obtain ⟨p, h, rfl⟩ := List.mem_map.mp hr
      exact (bz p h).2⟩
    have du : DU pairs.length n (mtx (pairs.map fun p => p.2)) := by
      obtain ⟨V, hV⟩ := hP.ind
      refine ⟨V, fun a b ha hb => ?_⟩
      rw [← hV a b (by rw [sqs_len]; exact ha) (by rw [sqs_len]; exact hb), sqs_at ha, mt_map ha]
    obtain ⟨r1, r2⟩ := p_lrank hR (by decide) (by omega) (by omega) (Nat.le_trans (Nat.mul_le_mul_right 3645 (Nat.pow_le_pow_right (n := 5) (by omega) (show pairs.length ≤ 5 by omega))) (by decide)) du
    refine ⟨lm, r1, ?_⟩
    show decide _ = true
    rw [decide_eq_true_eq, r2]
    have := len_pn hP.ne
    rw [sqs_len] at this
    omega
end Ho
namespace Fw
open Ho La
theorem ok_law : Hw_law := by
  intro st
  refine ⟨⟨by decide, by decide⟩, fun _ _ => True, trivial, fun i x st hx _ => ?_, fun st _ => rfl⟩
  obtain ⟨t1, v, v1, v2⟩ := p_take (m := 4) st (by decide) (by decide)
  refine ⟨t1, ?_⟩
  rw [v2]
  rintro n0 rfl st10 _
  rw [show (2 : Int) + (v : Int) = ((2 + v : Nat) : Int) by omega]
  obtain ⟨n, hn⟩ : ∃ n, n = 2 + v := ⟨_, rfl⟩
  rw [← hn]
  have n2 : 2 ≤ n := by omega
  have n5 : n ≤ 5 := by omega
  obtain ⟨o1, o2⟩ := p_table st10 (show 0 < n by omega) n5
  obtain ⟨w1, w2⟩ := p_table ((p__law_table (n : Int) st10).2) (show 0 < n by omega) n5
  refine ⟨o1, w1, ?_⟩
  intro one h1 two h2 st18 _
  rw [← h1] at o2
  rw [← h2] at w2
  exact ⟨parts_ok st18 o2 n2 n5, minors_ok o2 n2 n5, fewer_ok _ w2 n2 n5, sums_ok _ o2 w2 n2 n5, squares_ok w2 n2 n5, trivial⟩
end Fw
end

section
set_option Elab.async false
set_option linter.all false
set_option maxRecDepth 100000
set_option maxHeartbeats 0
namespace Fw
open PySem PySem.Spec PyProof.Rows L2
theorem all_ok {g : Gx} (h : HKL g) {fd : FuncData} (F : FunD g.K "law" "law" (defArgs (tp 52)) (defBody (tp 52)) (defScope (tp 52)) [] [] (He.fAd g.K ("law", none)) fd) : FnOk g.P g.w g.K g.mg g.base CX0 79 (He.fAd g.K ("law", none)) fd ["script"] (spD g.K (sLaw 63)) := by
  have c_is_integer__v_int := w_is_integer__v_int h  ok_is_integer__v_int
  have c_common := w_common h  ok_common
  have c_check_ratio__v_rat := w_check_ratio__v_rat h  ok_check_ratio__v_rat
  have q := qk h c_is_integer__v_int c_common c_check_ratio__v_rat
  have c_as_ratio__v_int := w_as_ratio__v_int h q c_is_integer__v_int ok_as_ratio__v_int
  have c_are_ratios := w_are_ratios h q  ok_are_ratios
  have c_ratio_sum := w_ratio_sum h q  ok_ratio_sum
  have c_ratio_dot := w_ratio_dot h q c_ratio_sum ok_ratio_dot
  have c_is_table := w_is_table h q c_are_ratios ok_is_table
  have c_check_table := w_check_table h q c_is_table ok_check_table
  have c_wide_of := w_wide_of h q  ok_wide_of
  have c_unit_table := w_unit_table h q  ok_unit_table
  have c_turned := w_turned h q c_check_table c_wide_of ok_turned
  have c_table_times := w_table_times h q c_check_table c_ratio_dot c_turned c_wide_of ok_table_times
  have c_table_plus := w_table_plus h q c_as_ratio__v_int c_check_table c_wide_of ok_table_plus
  have c_less_row := w_less_row h q  ok_less_row
  have c_echelon := w_echelon h q c_check_table c_less_row c_wide_of ok_echelon
  have c_table_rank := w_table_rank h q c_echelon ok_table_rank
  have c_check_square := w_check_square h q c_check_table c_wide_of ok_check_square
  have c_inverse := w_inverse h q c_check_square c_echelon c_unit_table ok_inverse
  have c_determinant := w_determinant h q c_check_square c_less_row ok_determinant
  have c_trace := w_trace h q c_check_square ok_trace
  have c_check_symmetric := w_check_symmetric h q c_check_square c_turned ok_check_symmetric
  have c_first_pair := w_first_pair h q  ok_first_pair
  have c_less_square__v_l := w_less_square__v_l h q  ok_less_square__v_l
  have c_less_square__v_t := w_less_square__v_t h q  ok_less_square__v_t
  have c_squares_of := w_squares_of h q c_check_symmetric c_first_pair c_less_square__v_l c_less_square__v_t ok_squares_of
  have c_inertia := w_inertia h q c_squares_of ok_inertia
  have c_square_rank := w_square_rank h q c_check_symmetric c_table_rank ok_square_rank
  have c_is_above := w_is_above h q c_check_symmetric c_determinant ok_is_above
  have c__law_take := w__law_take h  ok__law_take
  have c__law_total := w__law_total h q  ok__law_total
  have c__law_rank := w__law_rank h q  ok__law_rank
  have c__law_table := w__law_table h q c__law_take ok__law_table
  have c__law_part := w__law_part h q  ok__law_part
  have c__law_plus := w__law_plus h q  ok__law_plus
  have c__law_parts_hold := w__law_parts_hold h q c__law_part c__law_plus c__law_take c_determinant c_inertia c_inverse c_square_rank c_table_plus c_table_rank c_table_times c_turned ok__law_parts_hold
  have c__law_minors_hold := w__law_minors_hold h q c__law_part c_determinant c_inertia c_is_above c_table_rank ok__law_minors_hold
  have c__law_fewer_hold := w__law_fewer_hold h q c__law_part c__law_take c_inertia ok__law_fewer_hold
  have c__law_sums_hold := w__law_sums_hold h q c__law_table c__law_take c__law_total c_determinant c_inertia c_table_plus c_table_rank c_table_times c_trace c_turned ok__law_sums_hold
  have c__law_squares_hold := w__law_squares_hold h q c__law_rank c__law_total c_inertia c_squares_of ok__law_squares_hold
  exact w_law h q (w_state h) c__law_fewer_hold c__law_minors_hold c__law_parts_hold c__law_squares_hold c__law_sums_hold c__law_table c__law_take ok_law F
end Fw
open PySem PySem.W PySem.Calls PyProof.Rows
theorem PySem.Challenge.cw_fewestpowers_k49_whole_signs_of_tables_b_holds : PySem.Challenge.rw_fewestpowers_k49_whole_signs_of_tables_b.Holds := by
  w_on; o_law
  refine HandSHeadRun.head_any (r := Fw.RL) (q := view Fw.RL.prog [52]) (H := Fw.hkL) (ob := Fw.obL) (M := 8000) (loose := Fw.looseL) (d := HandSHeadRun.topDef Fw.RL.prog 52) (kwd := []) Fw.obL_eq
    (by kernel_rfl) (fun s => by kernel_rfl) Fw.runL (by kernel_rfl) (by kernel_rfl) (by kernel_rfl) (by rfl) (by first | assumption | decide +kernel) (by decide +kernel) ⟨rfl, rfl, rfl, rfl, rfl, by decide +kernel⟩ ?hw ?hc
  case hw => w_witness2
  case hc =>
    refine L2.walk_ofE (l := PySem.Challenge.rw_fewestpowers_k49_whole_signs_of_tables_b) (n := 63) (k := 79) (x := "script") (CX := L2.CX0) rfl (by decide) (by kernel_rfl) ⟨rfl, by decide, by decide⟩ ?F (fun _ _ _ _ z => z)
    intro w mg fa h Y G hmg0
    obtain ⟨K, KX, c, ck⟩ := Y
    have hmg : mg ("law" : PySem.Str) = some (.ref fa) := by
      have e : (HandSHeadRun.topDef Fw.RL.prog 52).name = ("law" : PySem.Str) := by kernel_rfl
      rw [← e]
      exact hmg0
    have e := hmg.symm.trans (He.glo_ok KX G (c.fact 54 (f := .glo "law") rfl))
    cases e
    obtain ⟨fd, F⟩ := c.def_ 40 rfl
    exact ⟨K, fd, Fw.spD K (Fw.sLaw 63), KX, fun s u => L2.FunD.bindsA (ps := ["script"]) F (fun _ _ _ _ _ _ us hl => match us, hl with | [_], _ => rfl) s [u] rfl, fun H a ns hl _ hS => Fw.sLaw_go (by decide) hl hS, fun base kin ns => Fw.all_ok (g := ⟨_, w, K, mg, base⟩) ⟨c, ck, kin, ns, by kernel_rfl⟩ F⟩
end
