import PyProof.Rows.All
import Wide.All
import OpenK.AllK
import Wide.FinOn
import HandS.ForMost
import HandS.ForExc
import HandS.Deep
import HandS.IsInst
import HandS.TupAny
import HandS.TupSets
import HandS.SetBool
import PySem.Challenge.RW_everafter_k05_right_guesses
set_option Elab.async false
set_option linter.all false
set_option autoImplicit false
set_option maxRecDepth 100000
/-! The value layer, part 1: data, the local environment, steps of the abstract heap. -/
namespace VL
open PySem L2

/-- what a shared value is: data, an instance of the k-th class, the law's script -/
inductive D where
  | py (p : PyData)
  | ins (k : Nat) (fs : List (Str × D))
  | scr (ns : List Int)
  | ty (n : String)

mutual
/-- the value v is the data d, within the shared part G of the heap -/
def Rp (K : PySem.W.Frag) (G : Hp) : V → PyData → Prop
  | v, .none => v = .non
  | v, .bool b => v = .bl b
  | v, .int i => v = .int i
  | v, .str s => v = .str s
  | v, .list ds => ∃ a vs, v = .ref a ∧ G a = some (.lst vs) ∧ RpL K G vs ds
  | v, .tuple ds => ∃ a vs, v = .ref a ∧ G a = some (.tup vs) ∧ RpL K G vs ds
  | _, .dict _ => False
def RpL (K : PySem.W.Frag) (G : Hp) : List V → List PyData → Prop
  | [], [] => True
  | v :: vs, d :: ds => Rp K G v d ∧ RpL K G vs ds
  | _, _ => False
end

mutual
def RpD (K : PySem.W.Frag) (c : Nat → Addr) (G : Hp) : V → D → Prop
  | v, .py p => Rp K G v p
  | v, .ins k fs => ∃ a dx vs, v = .ref a ∧ G a = some (.ins (c k) dx vs) ∧ RpF K c G vs fs
  | v, .scr ns => ∃ a, v = .ref a ∧ SqL K G a (ns.map V.int)
  | v, .ty n => v = .ty n
def RpF (K : PySem.W.Frag) (c : Nat → Addr) (G : Hp) : List (Str × V) → List (Str × D) → Prop
  | [], [] => True
  | v :: vs, d :: ds => (v.1 = d.1 ∧ RpD K c G v.2 d.2) ∧ RpF K c G vs ds
  | _, _ => False
end

mutual
theorem Rp.mono {K : PySem.W.Frag} {G G' : Hp} (h : Same G G') : ∀ (v : V) (d : PyData), Rp K G v d → Rp K G' v d
  | v, .none, r => by simpa only [Rp] using r
  | v, .bool b, r => by simpa only [Rp] using r
  | v, .int i, r => by simpa only [Rp] using r
  | v, .str s, r => by simpa only [Rp] using r
  | v, .list ds, r => by
    simp only [Rp] at r ⊢
    obtain ⟨a, vs, e, g, q⟩ := r
    exact ⟨a, vs, e, h _ _ g, RpL.mono h vs ds q⟩
  | v, .tuple ds, r => by
    simp only [Rp] at r ⊢
    obtain ⟨a, vs, e, g, q⟩ := r
    exact ⟨a, vs, e, h _ _ g, RpL.mono h vs ds q⟩
  | v, .dict _, r => by simp only [Rp] at r
theorem RpL.mono {K : PySem.W.Frag} {G G' : Hp} (h : Same G G') : ∀ (vs : List V) (ds : List PyData), RpL K G vs ds → RpL K G' vs ds
  | [], [], _ => by simp only [RpL]
  | v :: vs, d :: ds, r => by
    simp only [RpL] at r ⊢
    exact ⟨Rp.mono h v d r.1, RpL.mono h vs ds r.2⟩
  | [], _ :: _, r => by simp only [RpL] at r
  | _ :: _, [], r => by simp only [RpL] at r
end
mutual
theorem RpD.mono {K : PySem.W.Frag} {c : Nat → Addr} {G G' : Hp} (h : Same G G') : ∀ (v : V) (d : D), RpD K c G v d → RpD K c G' v d
  | v, .py p, r => by
    simp only [RpD] at r ⊢
    exact Rp.mono h v p r
  | v, .ins k fs, r => by
    simp only [RpD] at r ⊢
    obtain ⟨a, dx, vs, e, g, q⟩ := r
    exact ⟨a, dx, vs, e, h _ _ g, RpF.mono h vs fs q⟩
  | v, .scr ns, r => by
    simp only [RpD] at r ⊢
    obtain ⟨a, e, g⟩ := r
    exact ⟨a, e, h.seq g⟩
  | v, .ty n, r => by simpa only [RpD] using r
theorem RpF.mono {K : PySem.W.Frag} {c : Nat → Addr} {G G' : Hp} (h : Same G G') : ∀ (vs : List (Str × V)) (ds : List (Str × D)), RpF K c G vs ds → RpF K c G' vs ds
  | [], [], _ => by simp only [RpF]
  | v :: vs, d :: ds, r => by
    simp only [RpF] at r ⊢
    exact ⟨⟨r.1.1, RpD.mono h v.2 d.2 r.1.2⟩, RpF.mono h vs ds r.2⟩
  | [], _ :: _, r => by simp only [RpF] at r
  | _ :: _, [], r => by simp only [RpF] at r
end
theorem RpL.length {K : PySem.W.Frag} {G : Hp} : ∀ {vs : List V} {ds : List PyData}, RpL K G vs ds → vs.length = ds.length
  | [], [], _ => rfl
  | v :: vs, d :: ds, r => by
    simp only [RpL] at r
    rw [List.length_cons, List.length_cons, RpL.length r.2]
  | [], _ :: _, r => by simp only [RpL] at r
  | _ :: _, [], r => by simp only [RpL] at r
theorem RpL.get {K : PySem.W.Frag} {G : Hp} : ∀ {vs : List V} {ds : List PyData} {i : Nat} {d : PyData}, RpL K G vs ds → ds[i]? = some d → ∃ v, vs[i]? = some v ∧ Rp K G v d
  | v :: vs, d :: ds, 0, d', r, e => by
    simp only [RpL] at r
    simp only [List.getElem?_cons_zero, Option.some.injEq] at e
    subst e
    exact ⟨v, rfl, r.1⟩
  | v :: vs, d :: ds, i + 1, d', r, e => by
    simp only [RpL] at r
    simp only [List.getElem?_cons_succ] at e ⊢
    exact RpL.get r.2 e
  | _, [], i, d', r, e => by simp at e
  | [], _ :: _, _, _, r, _ => by simp only [RpL] at r
theorem RpL.getV {K : PySem.W.Frag} {G : Hp} : ∀ {vs : List V} {ds : List PyData} {i : Nat} {v : V}, RpL K G vs ds → vs[i]? = some v → ∃ d, ds[i]? = some d ∧ Rp K G v d
  | v :: vs, d :: ds, 0, v', r, e => by
    simp only [RpL] at r
    simp only [List.getElem?_cons_zero, Option.some.injEq] at e
    subst e
    exact ⟨d, rfl, r.1⟩
  | v :: vs, d :: ds, i + 1, v', r, e => by
    simp only [RpL] at r
    simp only [List.getElem?_cons_succ] at e ⊢
    exact RpL.getV r.2 e
  | [], _, i, d', r, e => by simp at e
  | _ :: _, [], _, _, r, _ => by simp only [RpL] at r
theorem RpL.append {K : PySem.W.Frag} {G : Hp} : ∀ {vs : List V} {ds : List PyData} {ws : List V} {es : List PyData}, RpL K G vs ds → RpL K G ws es → RpL K G (vs ++ ws) (ds ++ es)
  | [], [], _, _, _, q => q
  | v :: vs, d :: ds, ws, es, r, q => by
    simp only [RpL, List.cons_append] at r ⊢
    exact ⟨r.1, RpL.append r.2 q⟩
  | [], _ :: _, _, _, r, _ => by simp only [RpL] at r
  | _ :: _, [], _, _, r, _ => by simp only [RpL] at r
theorem RpL.drop {K : PySem.W.Frag} {G : Hp} : ∀ (n : Nat) {vs : List V} {ds : List PyData}, RpL K G vs ds → RpL K G (vs.drop n) (ds.drop n)
  | 0, _, _, r => r
  | n + 1, [], [], r => r
  | n + 1, v :: vs, d :: ds, r => by
    simp only [RpL, List.drop_succ_cons] at r ⊢
    exact RpL.drop n r.2
  | _ + 1, [], _ :: _, r => by simp only [RpL] at r
  | _ + 1, _ :: _, [], r => by simp only [RpL] at r
theorem RpL.take {K : PySem.W.Frag} {G : Hp} : ∀ (n : Nat) {vs : List V} {ds : List PyData}, RpL K G vs ds → RpL K G (vs.take n) (ds.take n)
  | 0, _, _, r => by simp only [List.take_zero, RpL]
  | n + 1, [], [], r => r
  | n + 1, v :: vs, d :: ds, r => by
    simp only [RpL, List.take_succ_cons] at r ⊢
    exact ⟨r.1, RpL.take n r.2⟩
  | _ + 1, [], _ :: _, r => by simp only [RpL] at r
  | _ + 1, _ :: _, [], r => by simp only [RpL] at r
theorem RpL.set {K : PySem.W.Frag} {G : Hp} {v : V} {d : PyData} (q : Rp K G v d) : ∀ (n : Nat) {vs : List V} {ds : List PyData}, RpL K G vs ds → RpL K G (vs.set n v) (ds.set n d)
  | _, [], [], r => r
  | 0, w :: vs, e :: ds, r => by
    simp only [RpL, List.set_cons_zero] at r ⊢
    exact ⟨q, r.2⟩
  | n + 1, w :: vs, e :: ds, r => by
    simp only [RpL, List.set_cons_succ] at r ⊢
    exact ⟨r.1, RpL.set q n r.2⟩
  | _, [], _ :: _, r => by simp only [RpL] at r
  | _, _ :: _, [], r => by simp only [RpL] at r
theorem RpL.one {K : PySem.W.Frag} {G : Hp} {v : V} {d : PyData} (q : Rp K G v d) : RpL K G [v] [d] := by
  simp only [RpL]
  exact ⟨q, trivial⟩

mutual
/-- data without dicts -/
def noDict : PyData → Bool
  | .dict _ => false
  | .list ds => noDicts ds
  | .tuple ds => noDicts ds
  | _ => true
def noDicts : List PyData → Bool
  | [] => true
  | d :: ds => noDict d && noDicts ds
end
mutual
/-- the kit's own relation -/
theorem Rp.dp {K : PySem.W.Frag} {G H : Hp} (h : Same G H) : ∀ (v : V) (d : PyData), Rp K G v d → Dp K H v d
  | v, .none, r => by
    simp only [Rp] at r
    subst r
    exact .non
  | v, .bool b, r => by
    simp only [Rp] at r
    subst r
    exact .bl b
  | v, .int i, r => by
    simp only [Rp] at r
    subst r
    exact .int i
  | v, .str s, r => by
    simp only [Rp] at r
    subst r
    exact .str s
  | v, .list ds, r => by
    simp only [Rp] at r
    obtain ⟨a, vs, e, g, q⟩ := r
    subst e
    exact .lst (SqL.of (h _ _ g)) (RpL.dp h vs ds q)
  | v, .tuple ds, r => by
    simp only [Rp] at r
    obtain ⟨a, vs, e, g, q⟩ := r
    subst e
    exact .tup (SqT.of (h _ _ g)) (RpL.dp h vs ds q)
  | v, .dict _, r => by simp only [Rp] at r
theorem RpL.dp {K : PySem.W.Frag} {G H : Hp} (h : Same G H) : ∀ (vs : List V) (ds : List PyData), RpL K G vs ds → DpAll K H vs ds
  | [], [], _ => .nil
  | v :: vs, d :: ds, r => by
    simp only [RpL] at r
    exact .cons (Rp.dp h v d r.1) (RpL.dp h vs ds r.2)
  | [], _ :: _, r => by simp only [RpL] at r
  | _ :: _, [], r => by simp only [RpL] at r
end

/-! ### entries -/
/-- what stands at a name, or is the value of an expression: shared; a list (or dict) that is this def's alone; the thing at the i-th name -/
inductive Ent where
  | sh (d : D)
  | own (p : PyData) (b : Bool)
  | lnk (i : Nat)
abbrev DEnv := List (Option Ent)
abbrev py (p : PyData) : Ent := .sh (.py p)

def OwnAt (K : PySem.W.Frag) (G H : Hp) (a : Addr) : PyData → Prop
  | .list ds => ∃ vs, H a = some (.lst vs) ∧ RpL K G vs ds
  | _ => False
theorem OwnAt.shape {K : PySem.W.Frag} {G H : Hp} {a : Addr} : ∀ {p : PyData}, OwnAt K G H a p → ∃ ds vs, p = .list ds ∧ H a = some (.lst vs) ∧ RpL K G vs ds
  | .list ds, h => by
    obtain ⟨vs, h1, h2⟩ := h
    exact ⟨ds, vs, rfl, h1, h2⟩
  | .none, h => h.elim
  | .bool _, h => h.elim
  | .int _, h => h.elim
  | .str _, h => h.elim
  | .tuple _, h => h.elim
  | .dict _, h => h.elim
theorem OwnAt.some {K : PySem.W.Frag} {G H : Hp} {a : Addr} {p : PyData} (h : OwnAt K G H a p) : ∃ o, H a = some o := by
  obtain ⟨_, vs, _, h1, _⟩ := h.shape
  exact ⟨_, h1⟩
theorem OwnAt.mono {K : PySem.W.Frag} {G H G' H' : Hp} {a : Addr} (s : Same G G') (e : H' a = H a) : ∀ {p : PyData}, OwnAt K G H a p → OwnAt K G' H' a p
  | .list ds, h => by
    obtain ⟨vs, h1, h2⟩ := h
    exact ⟨vs, e.trans h1, h2.mono s⟩
  | .none, h => h.elim
  | .bool _, h => h.elim
  | .int _, h => h.elim
  | .str _, h => h.elim
  | .tuple _, h => h.elim
  | .dict _, h => h.elim
/-- owned by the environment -/
def Ow (σ : St) (ρ : DEnv) (a : Addr) : Prop := ∃ (i : Nat) (p : PyData) (b : Bool), ρ[i]? = some (some (.own p b)) ∧ σ[i]? = some (some (.ref a))

structure EnvOk (K : PySem.W.Frag) (c : Nat → Addr) (G H : Hp) (σ : St) (ρ : DEnv) : Prop where
  le : Same G H
  len : ρ.length = σ.length
  sh : ∀ (i : Nat) (d : D), ρ[i]? = some (some (.sh d)) → ∃ v, σ[i]? = some (some v) ∧ RpD K c G v d
  own : ∀ (i : Nat) (p : PyData) (b : Bool), ρ[i]? = some (some (.own p b)) → ∃ a, σ[i]? = some (some (.ref a)) ∧ G a = none ∧ OwnAt K G H a p
  nol : ∀ (i j : Nat), ρ[i]? ≠ some (some (.lnk j))
  inj : ∀ (i j : Nat) (a : Addr) (p q : PyData) (b d : Bool), ρ[i]? = some (some (.own p b)) → ρ[j]? = some (some (.own q d)) → σ[i]? = some (some (.ref a)) → σ[j]? = some (some (.ref a)) → i = j

def EntOk (K : PySem.W.Frag) (c : Nat → Addr) (G H : Hp) (σ : St) (ρ : DEnv) (v : V) : Ent → Prop
  | .sh d => RpD K c G v d
  | .own p _ => ∃ a, v = .ref a ∧ G a = none ∧ OwnAt K G H a p ∧ ¬ Ow σ ρ a
  | .lnk i => σ[i]? = some (some v)
/-- what is owned is new since H -/
def Frs (H : Hp) (v : V) : Ent → Prop
  | .own _ _ => ∀ a, v = .ref a → H a = none
  | _ => True

/-- a step: from G, H with σ, ρ to G', H' with σ', ρ' -/
structure Stp (K : PySem.W.Frag) (c : Nat → Addr) (G H : Hp) (σ : St) (ρ : DEnv) (G' H' : Hp) (σ' : St) (ρ' : DEnv) : Prop where
  env : EnvOk K c G' H' σ' ρ'
  sh : Same G G'
  keep : ∀ p o, H p = some o → G p = none → ¬ Ow σ ρ p → H' p = some o ∧ G' p = none
  own : ∀ p, Ow σ' ρ' p → Ow σ ρ p ∨ H p = none
  dom : ∀ p, H' p = none → H p = none
  pin : ∀ (i : Nat) (p : PyData), ρ[i]? = some (some (.own p true)) → (∃ q, ρ'[i]? = some (some (.own q true))) ∧ σ'[i]? = σ[i]?

section
variable {K : PySem.W.Frag} {c : Nat → Addr} {G H G1 H1 G2 H2 : Hp} {σ σ1 σ2 : St} {ρ ρ1 ρ2 : DEnv} {v : V} {e : Ent}
theorem Stp.refl (h : EnvOk K c G H σ ρ) : Stp K c G H σ ρ G H σ ρ := ⟨h, Same.refl _, fun _ _ a b _ => ⟨a, b⟩, fun _ h => .inl h, fun _ h => h, fun _ p h => ⟨⟨p, h⟩, rfl⟩⟩
theorem Stp.trans (a : Stp K c G H σ ρ G1 H1 σ1 ρ1) (b : Stp K c G1 H1 σ1 ρ1 G2 H2 σ2 ρ2) : Stp K c G H σ ρ G2 H2 σ2 ρ2 := by
  refine ⟨b.env, a.sh.trans b.sh, fun p o h1 h2 h3 => ?_, fun p h => ?_, fun p h => a.dom p (b.dom p h), fun i p h => ?_⟩
  · obtain ⟨k1, k2⟩ := a.keep p o h1 h2 h3
    refine b.keep p o k1 k2 fun h => ?_
    rcases a.own p h with h | h
    · exact h3 h
    · rw [h] at h1
      cases h1
  · rcases b.own p h with h | h
    · exact a.own p h
    · exact .inr (a.dom p h)
  · obtain ⟨⟨q, hq⟩, e1⟩ := a.pin i p h
    obtain ⟨r, e2⟩ := b.pin i q hq
    exact ⟨r, e2.trans e1⟩
/-- a value that waits while another is reckoned -/
theorem EntOk.step (h : EntOk K c G H σ ρ v e) (s : Stp K c G H σ ρ G1 H1 σ ρ1) : EntOk K c G1 H1 σ ρ1 v e := by
  cases e with
  | sh d => exact RpD.mono s.sh v d h
  | own p b =>
    obtain ⟨a, ev, h1, h2, h3⟩ := h
    obtain ⟨o, ho⟩ := h2.some
    obtain ⟨k1, k2⟩ := s.keep a o ho h1 h3
    refine ⟨a, ev, k2, h2.mono s.sh (k1.trans ho.symm), fun h => ?_⟩
    rcases s.own a h with h | h
    · exact h3 h
    · rw [h] at ho
      cases ho
  | lnk i => exact h
theorem EntOk.pres {p : PyData} {b : Bool} (h : EntOk K c G H σ ρ v (.own p b)) (s : Stp K c G H σ ρ G1 H1 σ1 ρ1) : EntOk K c G1 H1 σ1 ρ1 v (.own p b) := by
  obtain ⟨a, ev, h1, h2, h3⟩ := h
  obtain ⟨o, ho⟩ := h2.some
  obtain ⟨k1, k2⟩ := s.keep a o ho h1 h3
  refine ⟨a, ev, k2, h2.mono s.sh (k1.trans ho.symm), fun h => ?_⟩
  rcases s.own a h with h | h
  · exact h3 h
  · rw [h] at ho
    cases ho
theorem Frs.back (h : Frs H1 v e) (s : Stp K c G H σ ρ G1 H1 σ1 ρ1) : Frs H v e := by
  cases e with
  | own p b => exact fun a ea => s.dom a (h a ea)
  | sh d => trivial
  | lnk i => trivial
theorem Ow.at {p : Addr} (h : Ow σ ρ p) (x : EnvOk K c G H σ ρ) : ∃ o, H p = some o := by
  obtain ⟨i, q, b, h1, h2⟩ := h
  obtain ⟨a, e, _, h3⟩ := x.own i q b h1
  rw [h2] at e
  cases e
  exact h3.some
theorem Ow.no {p : Addr} (h : Ow σ ρ p) (x : EnvOk K c G H σ ρ) : G p = none := by
  obtain ⟨i, q, b, h1, h2⟩ := h
  obtain ⟨a, e, h3, _⟩ := x.own i q b h1
  rw [h2] at e
  cases e
  exact h3
theorem same_up {H : Hp} {p : Addr} {o : HO} (h : H p = none) : Same H (upd H p o) := fun b x e => by
  rw [upd_ne (ne_of_none e h)]
  exact e
theorem sameUp {G H : Hp} {p : Addr} {o : HO} (h : Same G H) (n : G p = none) : Same G (upd H p o) := fun b x e => by
  rw [upd_ne (ne_of_none e n)]
  exact h b x e
theorem sameUp2 {G H : Hp} {p : Addr} {o : HO} (h : Same G H) : Same (upd G p o) (upd H p o) := fun b x e => by
  by_cases hb : b = p
  · subst hb
    rw [upd_same] at e ⊢
    exact e
  · rw [upd_ne hb] at e ⊢
    exact h b x e
/-- a new thing, the def's own for now -/
theorem Stp.newOwn {p : Addr} {o : HO} (x : EnvOk K c G H σ ρ) (n : H p = none) : Stp K c G H σ ρ G (upd H p o) σ ρ := by
  have gn : G p = none := x.le.free n
  have ne : ∀ b u, H b = some u → b ≠ p := fun b u e => ne_of_none e n
  refine ⟨⟨sameUp x.le gn, x.len, x.sh, fun i q b h => ?_, x.nol, x.inj⟩, Same.refl _, fun b u h1 h2 _ => ⟨by rw [upd_ne (ne b u h1)]; exact h1, h2⟩, fun _ h => .inl h, fun b h => ?_, fun _ p h => ⟨⟨p, h⟩, rfl⟩⟩
  · obtain ⟨a, e, h1, h2⟩ := x.own i q b h
    obtain ⟨u, hu⟩ := h2.some
    exact ⟨a, e, h1, h2.mono (Same.refl _) (upd_ne (ne a u hu))⟩
  · by_cases hb : b = p
    · subst hb
      exact n
    · rw [upd_ne hb] at h
      exact h
/-- a new thing, shared at once -/
theorem Stp.newSh {p : Addr} {o : HO} (x : EnvOk K c G H σ ρ) (n : H p = none) : Stp K c G H σ ρ (upd G p o) (upd H p o) σ ρ := by
  have gn : G p = none := x.le.free n
  have ne : ∀ b u, H b = some u → b ≠ p := fun b u e => ne_of_none e n
  have sg : Same G (upd G p o) := same_up gn
  refine ⟨⟨sameUp2 x.le, x.len, fun i d h => ?_, fun i q b h => ?_, x.nol, x.inj⟩, sg, fun b u h1 h2 _ => ?_, fun _ h => .inl h, fun b h => ?_, fun _ p h => ⟨⟨p, h⟩, rfl⟩⟩
  · obtain ⟨w, e, r⟩ := x.sh i d h
    exact ⟨w, e, r.mono sg⟩
  · obtain ⟨a, e, h1, h2⟩ := x.own i q b h
    obtain ⟨u, hu⟩ := h2.some
    exact ⟨a, e, by rw [upd_ne (ne a u hu)]; exact h1, h2.mono sg (upd_ne (ne a u hu))⟩
  · rw [upd_ne (ne b u h1), upd_ne (ne b u h1)]
    exact ⟨h1, h2⟩
  · by_cases hb : b = p
    · subst hb
      exact n
    · rw [upd_ne hb] at h
      exact h
/-- what is owned apart becomes shared -/
theorem Stp.give {a : Addr} {p : PyData} (x : EnvOk K c G H σ ρ) (h1 : G a = none) (h2 : OwnAt K G H a p) (h3 : ¬ Ow σ ρ a) :
    ∃ G', Same G G' ∧ EnvOk K c G' H σ ρ ∧ Rp K G' (.ref a) p ∧ ∀ b, b ≠ a → G' b = G b := by
  obtain ⟨ds, vs, rfl, ho, hr⟩ := h2.shape
  have sg : Same G (upd G a (.lst vs)) := same_up h1
  refine ⟨upd G a (.lst vs), sg, ⟨fun b u e => ?_, x.len, fun i d h => ?_, fun i q d h => ?_, x.nol, x.inj⟩, ?_, fun b hb => upd_ne hb⟩
  · by_cases hb : b = a
    · subst hb
      rw [upd_same] at e
      cases e
      exact ho
    · rw [upd_ne hb] at e
      exact x.le b u e
  · obtain ⟨w, e, r⟩ := x.sh i d h
    exact ⟨w, e, r.mono sg⟩
  · obtain ⟨b, e, k1, k2⟩ := x.own i q d h
    have hb : b ≠ a := fun z => h3 ⟨i, q, d, h, by rw [← z]; exact e⟩
    exact ⟨b, e, by rw [upd_ne hb]; exact k1, k2.mono sg rfl⟩
  · simp only [Rp]
    exact ⟨a, vs, rfl, upd_same, hr.mono sg⟩
end

/-! ### outcomes -/
inductive Res (α : Type) where
  | ok (a : α) (ρ : DEnv)
  | exc (k : Nat) (ρ : DEnv)
abbrev M (α : Type) := DEnv → Option (Res α)
def bnd {α β : Type} (m : M α) (f : α → M β) : M β := fun ρ => match m ρ with
  | none => none
  | some (.ok a ρ') => f a ρ'
  | some (.exc k ρ') => some (.exc k ρ')
def ret {α : Type} (a : α) : M α := fun ρ => some (.ok a ρ)
def liftO {α : Type} (o : Option α) : M α := fun ρ => match o with
  | none => none
  | some a => some (.ok a ρ)
def wpM {α : Type} (m : Option (Res α)) (k : α → DEnv → Prop) (x : Nat → DEnv → Prop) : Prop := match m with
  | none => False
  | some (.ok a ρ) => k a ρ
  | some (.exc j ρ) => x j ρ
theorem wpM_mono {α : Type} {m : Option (Res α)} {k k' : α → DEnv → Prop} {x x' : Nat → DEnv → Prop} (h : wpM m k x) (h1 : ∀ a ρ, k a ρ → k' a ρ) (h2 : ∀ j ρ, x j ρ → x' j ρ) : wpM m k' x' := by
  match m, h with
  | some (.ok a ρ), h => exact h1 a ρ h
  | some (.exc j ρ), h => exact h2 j ρ h
theorem wpM_bnd {α β : Type} {m : M α} {f : α → M β} {ρ : DEnv} {k : β → DEnv → Prop} {x : Nat → DEnv → Prop} : wpM (bnd m f ρ) k x ↔ wpM (m ρ) (fun a ρ1 => wpM (f a ρ1) k x) x := by
  unfold bnd
  cases h : m ρ with
  | none => exact Iff.rfl
  | some r => cases r <;> exact Iff.rfl
theorem wpM_liftO {α : Type} {o : Option α} {ρ : DEnv} {k : α → DEnv → Prop} {x : Nat → DEnv → Prop} (h : wpM (liftO o ρ) k x) : ∃ a, o = some a ∧ k a ρ := by
  cases o with
  | none => exact h.elim
  | some a => exact ⟨a, rfl, h⟩
theorem bnd_ok {α β : Type} {m : M α} {f : α → M β} {ρ ρ1 : DEnv} {a : α} (h : m ρ = some (.ok a ρ1)) : bnd m f ρ = f a ρ1 := by
  unfold bnd
  rw [h]
theorem bnd_exc {α β : Type} {m : M α} {f : α → M β} {ρ ρ1 : DEnv} {k : Nat} (h : m ρ = some (.exc k ρ1)) : bnd m f ρ = some (.exc k ρ1) := by
  unfold bnd
  rw [h]

/-! ### readings -/
def XD (K : PySem.W.Frag) (c : Nat → Addr) (W : WX) (G H : Hp) (σ : St) (ρ : DEnv) : Nat → DEnv → Prop := fun j ρ' => ∀ G' H' σ', Stp K c G H σ ρ G' H' σ' ρ' → W (.ref (c j)) none σ' H'
def KD (K : PySem.W.Frag) (c : Nat → Addr) (G H : Hp) (σ : St) (ρ : DEnv) (Q : VK) : Ent → DEnv → Prop := fun e ρ' => ∀ v G' H', Stp K c G H σ ρ G' H' σ ρ' → EntOk K c G' H' σ ρ' v e → Frs H v e → Q v H'
def tD (K : PySem.W.Frag) (c : Nat → Addr) (W : WX) (f : M Ent) : TE := fun σ H Q => ∃ G ρ, EnvOk K c G H σ ρ ∧ wpM (f ρ) (KD K c G H σ ρ Q) (XD K c W G H σ ρ)
def tDT (K : PySem.W.Frag) (c : Nat → Addr) (W : WX) (f : M Bool) : TT := fun σ H Q => ∃ G ρ, EnvOk K c G H σ ρ ∧ wpM (f ρ) (fun b ρ' => ∀ G' H', Stp K c G H σ ρ G' H' σ ρ' → Q b H') (XD K c W G H σ ρ)
inductive EntsOk (K : PySem.W.Frag) (c : Nat → Addr) (G H : Hp) (σ : St) (ρ : DEnv) : List V → List D → Prop
  | nil : EntsOk K c G H σ ρ [] []
  | cons {v : V} {vs : List V} {d : D} {ds : List D} : RpD K c G v d → EntsOk K c G H σ ρ vs ds → EntsOk K c G H σ ρ (v :: vs) (d :: ds)
inductive Fl where
  | nx
  | rt (e : Ent)
  | bk
  | ct
abbrev S := M Fl
def FD (K : PySem.W.Frag) (c : Nat → Addr) (G H : Hp) (σ : St) (ρ : DEnv) (D : Ends) : Fl → DEnv → Prop
  | .nx => fun ρ' => ∀ G' H' σ', Stp K c G H σ ρ G' H' σ' ρ' → D.nx σ' H'
  | .bk => fun ρ' => ∀ G' H' σ', Stp K c G H σ ρ G' H' σ' ρ' → D.bk σ' H'
  | .ct => fun ρ' => ∀ G' H' σ', Stp K c G H σ ρ G' H' σ' ρ' → D.ct σ' H'
  | .rt e => fun ρ' => ∀ v G' H' σ', Stp K c G H σ ρ G' H' σ' ρ' → EntOk K c G' H' σ' ρ' v e → Frs H v e → D.rt v H'
def tS (K : PySem.W.Frag) (c : Nat → Addr) (W : WX) (f : S) : TS := fun D σ H => ∃ G ρ, EnvOk K c G H σ ρ ∧ wpM (f ρ) (FD K c G H σ ρ D) (XD K c W G H σ ρ)
abbrev DE (X : Cx) (c : Nat → Addr) (W : WX) (e : Expr) (f : M Ent) : Prop := PE X e (tD X.K c W f)
abbrev DT (X : Cx) (c : Nat → Addr) (W : WX) (e : Expr) (f : M Bool) : Prop := PT X e (tDT X.K c W f)
abbrev DW (X : Cx) (c : Nat → Addr) (W : WX) (e : Expr) (f : M Bool) : Prop := PW X e (tDT X.K c W f)
abbrev DS (X : Cx) (c : Nat → Addr) (W : WX) (s : Stmt) (f : S) : Prop := PS X s (tS X.K c W f)
abbrev DSs (X : Cx) (c : Nat → Addr) (W : WX) (s : List Stmt) (f : S) : Prop := PSs X s (tS X.K c W f)
section
variable {X : Cx}
theorem pe_weak {e : Expr} {t t' : TE} (h : PE X e t) (w : ∀ σ H Q, t' σ H Q → t σ H Q) : PE X e t' := ⟨fun pins s σ H Q I q => h.run pins s σ H Q I (w σ H Q q)⟩
theorem pt_weak {e : Expr} {t t' : TT} (h : PT X e t) (w : ∀ σ H Q, t' σ H Q → t σ H Q) : PT X e t' := ⟨fun pins s σ H Q I q => h.run pins s σ H Q I (w σ H Q q)⟩
theorem pw_weak {e : Expr} {t t' : TT} (h : PW X e t) (w : ∀ σ H Q, t' σ H Q → t σ H Q) : PW X e t' := ⟨fun wh pins s σ H Q I q => h.run wh pins s σ H Q I (w σ H Q q)⟩
theorem pa_weak {es : List Expr} {t t' : TA} (h : PA X es t) (w : ∀ σ H Q, t' σ H Q → t σ H Q) : PA X es t' := ⟨fun pos pins s σ H Q I q => h.run pos pins s σ H Q I (w σ H Q q)⟩
theorem ps_weak {st : Stmt} {t t' : TS} (h : PS X st t) (w : ∀ D σ H, t' D σ H → t D σ H) : PS X st t' := ⟨fun pins s σ H D I q => h.run pins s σ H D I (w D σ H q)⟩
theorem pss_weak {st : List Stmt} {t t' : TS} (h : PSs X st t) (w : ∀ D σ H, t' D σ H → t D σ H) : PSs X st t' := ⟨fun pins s σ H D I q => h.run pins s σ H D I (w D σ H q)⟩
end
section
variable {K : PySem.W.Frag} {c : Nat → Addr} {W : WX} {G H G1 H1 : Hp} {σ σ1 : St} {ρ ρ1 : DEnv} {Q : VK}
theorem XD.back {j : Nat} {ρ' : DEnv} (h : XD K c W G H σ ρ j ρ') (s : Stp K c G H σ ρ G1 H1 σ1 ρ1) : XD K c W G1 H1 σ1 ρ1 j ρ' := fun G' H' σ' s' => h G' H' σ' (s.trans s')
theorem KD.back {e : Ent} {ρ' : DEnv} (h : KD K c G H σ ρ Q e ρ') (s : Stp K c G H σ ρ G1 H1 σ ρ1) : KD K c G1 H1 σ ρ1 Q e ρ' := fun v G' H' s' q f => h v G' H' (s.trans s') q (f.back s)
theorem FD.back {D : Ends} {f : Fl} {ρ' : DEnv} (h : FD K c G H σ ρ D f ρ') (s : Stp K c G H σ ρ G1 H1 σ1 ρ1) : FD K c G1 H1 σ1 ρ1 D f ρ' := by
  cases f with
  | nx => exact fun G' H' σ' s' => h G' H' σ' (s.trans s')
  | bk => exact fun G' H' σ' s' => h G' H' σ' (s.trans s')
  | ct => exact fun G' H' σ' s' => h G' H' σ' (s.trans s')
  | rt e => exact fun v G' H' σ' s' q f => h v G' H' σ' (s.trans s') q (f.back s)
end
/-- the data that an entry stands for -/
def rd (ρ : DEnv) : Ent → Option PyData
  | .sh (.py p) => some p
  | .sh _ => none
  | .own p _ => some p
  | .lnk i => match ρ[i]? with
    | some (some (.own p _)) => some p
    | _ => none
section
variable {K : PySem.W.Frag} {c : Nat → Addr} {G H : Hp} {σ : St} {ρ : DEnv} {v : V} {e : Ent} {p : PyData}
theorem own_rp {a : Addr} (le : Same G H) (h : OwnAt K G H a p) : Rp K H (.ref a) p := by
  obtain ⟨ds, vs, rfl, h1, h2⟩ := h.shape
  simp only [Rp]
  exact ⟨a, vs, rfl, h1, h2.mono le⟩
/-- read in the whole heap -/
theorem rd_ok (x : EnvOk K c G H σ ρ) (h : EntOk K c G H σ ρ v e) (r : rd ρ e = some p) : Rp K H v p := by
  cases e with
  | sh d =>
    cases d with
    | py q =>
      simp only [rd, Option.some.injEq] at r
      subst r
      simp only [EntOk, RpD] at h
      exact h.mono x.le
    | ins k fs => simp [rd] at r
    | scr ns => simp [rd] at r
    | ty n => simp [rd] at r
  | own q b =>
    simp only [rd, Option.some.injEq] at r
    subst r
    obtain ⟨a, rfl, h1, h2, _⟩ := h
    exact own_rp x.le h2
  | lnk i =>
    simp only [rd] at r
    split at r
    · rename_i q b e
      simp only [Option.some.injEq] at r
      subst r
      obtain ⟨a, e2, h1, h2⟩ := x.own i _ _ e
      simp only [EntOk] at h
      rw [h] at e2
      cases e2
      exact own_rp x.le h2
    · cases r
/-- the items are shared -/
theorem rd_list {ds : List PyData} (x : EnvOk K c G H σ ρ) (h : EntOk K c G H σ ρ v e) (r : rd ρ e = some (.list ds)) : ∃ a vs, v = .ref a ∧ H a = some (.lst vs) ∧ RpL K G vs ds := by
  cases e with
  | sh d =>
    cases d with
    | py q =>
      simp only [rd, Option.some.injEq] at r
      subst r
      simp only [EntOk, RpD, Rp] at h
      obtain ⟨a, vs, e, g, q⟩ := h
      exact ⟨a, vs, e, x.le _ _ g, q⟩
    | ins k fs => simp [rd] at r
    | scr ns => simp [rd] at r
    | ty n => simp [rd] at r
  | own q b =>
    simp only [rd, Option.some.injEq] at r
    subst r
    obtain ⟨a, rfl, h1, ⟨vs, h2, h3⟩, _⟩ := h
    exact ⟨a, vs, rfl, h2, h3⟩
  | lnk i =>
    simp only [rd] at r
    split at r
    · rename_i q b e
      simp only [Option.some.injEq] at r
      subst r
      obtain ⟨a, e2, h1, ⟨vs, h2, h3⟩⟩ := x.own i _ _ e
      simp only [EntOk] at h
      rw [h] at e2
      cases e2
      exact ⟨a, vs, rfl, h2, h3⟩
    · cases r
theorem rd_tuple {ds : List PyData} (x : EnvOk K c G H σ ρ) (h : EntOk K c G H σ ρ v e) (r : rd ρ e = some (.tuple ds)) : ∃ a vs, v = .ref a ∧ G a = some (.tup vs) ∧ RpL K G vs ds := by
  cases e with
  | sh d =>
    cases d with
    | py q =>
      simp only [rd, Option.some.injEq] at r
      subst r
      simp only [EntOk, RpD, Rp] at h
      exact h
    | ins k fs => simp [rd] at r
    | scr ns => simp [rd] at r
    | ty n => simp [rd] at r
  | own q b =>
    simp only [rd, Option.some.injEq] at r
    subst r
    obtain ⟨a, rfl, h1, h2, _⟩ := h
    obtain ⟨_, _, e, _⟩ := h2.shape
    cases e
  | lnk i =>
    simp only [rd] at r
    split at r
    · rename_i q b e
      simp only [Option.some.injEq] at r
      subst r
      obtain ⟨a, e2, h1, h2⟩ := x.own i _ _ e
      obtain ⟨_, _, e, _⟩ := h2.shape
      cases e
    · cases r
theorem rd_flat {u : V} (x : EnvOk K c G H σ ρ) (h : EntOk K c G H σ ρ v e) (r : rd ρ e = some p) (q : ∀ H, Rp K H v p → v = u) : v = u := q H (rd_ok x h r)
theorem rd_int {i : Int} (x : EnvOk K c G H σ ρ) (h : EntOk K c G H σ ρ v e) (r : rd ρ e = some (.int i)) : v = .int i := by
  have := rd_ok x h r
  simpa only [Rp] using this
theorem rd_bool {b : Bool} (x : EnvOk K c G H σ ρ) (h : EntOk K c G H σ ρ v e) (r : rd ρ e = some (.bool b)) : v = .bl b := by
  have := rd_ok x h r
  simpa only [Rp] using this
theorem rd_str {s : Str} (x : EnvOk K c G H σ ρ) (h : EntOk K c G H σ ρ v e) (r : rd ρ e = some (.str s)) : v = .str s := by
  have := rd_ok x h r
  simpa only [Rp] using this
theorem rd_none (x : EnvOk K c G H σ ρ) (h : EntOk K c G H σ ρ v e) (r : rd ρ e = some .none) : v = .non := by
  have := rd_ok x h r
  simpa only [Rp] using this
end
end VL

set_option linter.all false
set_option autoImplicit false
set_option maxRecDepth 100000
/-! The value layer, part 2: expressions. -/
namespace VL
open PySem L2

section
variable {X : Cx} {c : Nat → Addr} {W : WX}

/-! ### names, constants -/
def fVar (i : Nat) : M Ent := fun ρ => match ρ[i]? with
  | some (some (.sh d)) => some (.ok (.sh d) ρ)
  | some (some (.own _ _)) => some (.ok (.lnk i) ρ)
  | _ => none
theorem w_var {i : Nat} (σ : St) (H : Hp) (Q : VK) (h : tD X.K c W (fVar i) σ H Q) : tVar i σ H Q := by
  obtain ⟨G, ρ, env, h⟩ := h
  unfold fVar at h
  split at h
  · rename_i d e
    obtain ⟨v, e1, r⟩ := env.sh i d e
    exact ⟨v, e1, h v G H (.refl env) r trivial⟩
  · rename_i p b e
    obtain ⟨a, e1, _⟩ := env.own i p b e
    exact ⟨_, e1, h (.ref a) G H (.refl env) e1 trivial⟩
  · exact h.elim
theorem de_var (i : Nat) {x : Str} {pos : Pos} (hN : X.N[i]? = some x := by rfl) (hv : Vis X.env.scope x := by first | exact Or.inl rfl | exact Or.inr (Or.inl rfl) | exact Or.inr (Or.inr rfl)) (hd : (x == ("__debug__" : Str)) = false := by decide)
    (hcd : (x == ("__classdict__" : Str)) = false := by decide) : DE X c W (.Name x pos) (fVar i) := pe_weak (pe_var hN hv hd hcd) w_var
abbrev fC (p : PyData) : M Ent := ret (py p)
theorem w_const {p : PyData} {v : V} (hp : ∀ G, Rp X.K G v p) (σ : St) (H : Hp) (Q : VK) (h : tD X.K c W (fC p) σ H Q) : Q v H := by
  obtain ⟨G, ρ, env, h⟩ := h
  exact h v G H (.refl env) (by simp only [EntOk, RpD]; exact hp G) trivial
theorem de_int {i : Int} {j : Nat} {pos : Pos} : DE X c W (.Constant (.int i) j pos) (fC (.int i)) := pe_weak pe_int (w_const fun _ => by simp only [Rp])
theorem de_bool {b : Bool} {j : Nat} {pos : Pos} : DE X c W (.Constant (.bool b) j pos) (fC (.bool b)) := pe_weak pe_bl (w_const fun _ => by simp only [Rp])
theorem de_none {j : Nat} {pos : Pos} : DE X c W (.Constant .none j pos) (fC .none) := pe_weak pe_non (w_const fun _ => by simp only [Rp])
theorem de_str {s : Str} {j : Nat} {pos : Pos} : DE X c W (.Constant (.str s) j pos) (fC (.str s)) := pe_weak pe_str (w_const fun _ => by simp only [Rp])

/-! ### what is owned is given away -/
def give : Ent → M Ent
  | .sh d => ret (.sh d)
  | .own p _ => ret (py p)
  | .lnk _ => fun _ => none
def fSh (f : M Ent) : M Ent := bnd f give
/-- as an argument: a name's own thing stays the name's -/
def arg : Ent → M Ent
  | .sh d => ret (.sh d)
  | .own p _ => ret (py p)
  | .lnk i => ret (.lnk i)
def fArg (f : M Ent) : M Ent := bnd f arg
theorem give_ok {K : PySem.W.Frag} {G H G1 H1 : Hp} {σ : St} {ρ ρ1 : DEnv} {v : V} {p : PyData} {b : Bool} (s : Stp K c G H σ ρ G1 H1 σ ρ1) (e : EntOk K c G1 H1 σ ρ1 v (.own p b)) (f : Frs H v (.own p b)) :
    ∃ G2, Stp K c G H σ ρ G2 H1 σ ρ1 ∧ EntOk K c G2 H1 σ ρ1 v (py p) := by
  obtain ⟨a, rfl, h1, h2, h3⟩ := e
  obtain ⟨G2, sg, env, r, hb⟩ := Stp.give s.env h1 h2 h3
  refine ⟨G2, ⟨env, s.sh.trans sg, fun q o k1 k2 k3 => ?_, s.own, s.dom, s.pin⟩, by simp only [EntOk, RpD]; exact r⟩
  obtain ⟨m1, m2⟩ := s.keep q o k1 k2 k3
  refine ⟨m1, (hb q fun z => ?_).trans m2⟩
  have : H a = none := f a rfl
  rw [z, this] at k1
  cases k1
theorem w_sh {f : M Ent} (σ : St) (H : Hp) (Q : VK) (h : tD X.K c W (fSh f) σ H Q) : tD X.K c W f σ H Q := by
  obtain ⟨G, ρ, env, h⟩ := h
  refine ⟨G, ρ, env, wpM_mono (wpM_bnd.mp h) (fun e ρ1 h1 v G1 H1 s1 e1 f1 => ?_) fun _ _ x => x⟩
  cases e with
  | sh d => exact h1 v G1 H1 s1 e1 f1
  | own p b =>
    obtain ⟨G2, s2, e2⟩ := give_ok s1 e1 f1
    exact h1 v G2 H1 s2 e2 trivial
  | lnk i => exact h1.elim
theorem w_arg {f : M Ent} (σ : St) (H : Hp) (Q : VK) (h : tD X.K c W (fArg f) σ H Q) : tD X.K c W f σ H Q := by
  obtain ⟨G, ρ, env, h⟩ := h
  refine ⟨G, ρ, env, wpM_mono (wpM_bnd.mp h) (fun e ρ1 h1 v G1 H1 s1 e1 f1 => ?_) fun _ _ x => x⟩
  cases e with
  | sh d => exact h1 v G1 H1 s1 e1 f1
  | own p b =>
    obtain ⟨G2, s2, e2⟩ := give_ok s1 e1 f1
    exact h1 v G2 H1 s2 e2 trivial
  | lnk i => exact h1 v G1 H1 s1 e1 f1
theorem de_sh {e : Expr} {f : M Ent} (h : DE X c W e f) : DE X c W e (fSh f) := pe_weak h w_sh
theorem de_arg {e : Expr} {f : M Ent} (h : DE X c W e f) : DE X c W e (fArg f) := pe_weak h w_arg

/-! ### operations on one, two values -/
abbrev Op1 := DEnv → Ent → Option Ent
abbrev Op2 := DEnv → Ent → Ent → Option Ent
def f1 (o : Op1) (f : M Ent) : M Ent := bnd f fun x ρ => liftO (o ρ x) ρ
def f2 (o : Op2) (f g : M Ent) : M Ent := bnd f fun x => bnd g fun y ρ => liftO (o ρ x y) ρ
def Ok1 (K : PySem.W.Frag) (c : Nat → Addr) (r : V → Hp → VK → Prop) (o : Op1) : Prop := ∀ (G H : Hp) (σ : St) (ρ : DEnv) (v : V) (x e : Ent) (Q : VK), EnvOk K c G H σ ρ → EntOk K c G H σ ρ v x → o ρ x = some e → KD K c G H σ ρ Q e ρ → r v H Q
def Ok2 (K : PySem.W.Frag) (c : Nat → Addr) (r : R2) (o : Op2) : Prop := ∀ (G H : Hp) (σ : St) (ρ : DEnv) (v u : V) (x y e : Ent) (Q : VK), EnvOk K c G H σ ρ → EntOk K c G H σ ρ v x → EntOk K c G H σ ρ u y → o ρ x y = some e → KD K c G H σ ρ Q e ρ → r v u H Q
theorem w_f1 {r : V → Hp → VK → Prop} {o : Op1} {f : M Ent} (ok : Ok1 X.K c r o) (σ : St) (H : Hp) (Q : VK) (h : tD X.K c W (f1 o f) σ H Q) : tUn r (tD X.K c W f) σ H Q := by
  obtain ⟨G, ρ, env, h⟩ := h
  refine ⟨G, ρ, env, wpM_mono (wpM_bnd.mp h) (fun x ρ1 h1 v G1 H1 s1 e1 _ => ?_) fun _ _ x => x⟩
  obtain ⟨e, he, k⟩ := wpM_liftO h1
  exact ok G1 H1 σ ρ1 v x e Q s1.env e1 he (k.back s1)
theorem w_f2 {r : R2} {o : Op2} {f g : M Ent} (ok : Ok2 X.K c r o) (σ : St) (H : Hp) (Q : VK) (h : tD X.K c W (f2 o f g) σ H Q) : tOp r (tD X.K c W f) (tD X.K c W g) σ H Q := by
  obtain ⟨G, ρ, env, h⟩ := h
  refine ⟨G, ρ, env, wpM_mono (wpM_bnd.mp h) (fun x ρ1 h1 v G1 H1 s1 e1 _ => ?_) fun _ _ x => x⟩
  refine ⟨G1, ρ1, s1.env, wpM_mono (wpM_bnd.mp h1) (fun y ρ2 h2 u G2 H2 s2 e2 _ => ?_) fun _ _ x => x.back s1⟩
  obtain ⟨e, he, k⟩ := wpM_liftO h2
  exact ok G2 H2 σ ρ2 v u x y e Q s2.env (e1.step s2) e2 he (k.back (s1.trans s2))
theorem de_bin {op : Operator} {r : R2} {o : Op2} {a b : Expr} {f g : M Ent} {pos : Pos} (ho : OpR X (binaryOp op) r) (ok : Ok2 X.K c r o) (ha : DE X c W a f) (hb : DE X c W b g) : DE X c W (.BinOp a op b pos) (f2 o f g) := pe_weak (pe_op ho ha hb) (w_f2 ok)
theorem de_cmp {op : CmpOp} {r : R2} {o : Op2} {a b : Expr} {f g : M Ent} {pos : Pos} (ho : OpR X (compareOp op) r) (ok : Ok2 X.K c r o) (ha : DE X c W a f) (hb : DE X c W b g) (hm : behindInMarks op b = false := by first | exact nomark _ | with_unfolding_all rfl) : DE X c W (.Compare a [op] [b] pos) (f2 o f g) :=
  pe_weak (pe_cmpR ho ha hb hm) (w_f2 ok)
theorem de_un {op : UnaryOp} {r : V → Hp → VK → Prop} {o : Op1} {a : Expr} {f : M Ent} {pos : Pos} (ho : UnR X (unaryOp op) r) (ok : Ok1 X.K c r o) (ha : DE X c W a f) : DE X c W (.UnaryOp op a pos) (f1 o f) := pe_weak (pe_un ho ha) (w_f1 ok)
/-- as a test -/
def fB (f : M Ent) : M Bool := bnd f fun x ρ => match rd ρ x with
  | some (.bool b) => some (.ok b ρ)
  | _ => none
theorem w_B {f : M Ent} (σ : St) (H : Hp) (Q : Bool → Hp → Prop) (h : tDT X.K c W (fB f) σ H Q) : tD X.K c W f σ H fun x H' => ∃ k, x = .bl k ∧ Q k H' := by
  obtain ⟨G, ρ, env, h⟩ := h
  refine ⟨G, ρ, env, wpM_mono (wpM_bnd.mp h) (fun x ρ1 h1 v G1 H1 s1 e1 _ => ?_) fun _ _ x => x⟩
  try dsimp only at h1
  split at h1
  · rename_i b e
    exact ⟨b, rd_bool s1.env e1 e, h1 G1 H1 s1⟩
  · exact h1.elim
theorem dt_cmp {op : CmpOp} {r : R2} {o : Op2} {a b : Expr} {f g : M Ent} {pos : Pos} (ho : OpR X (compareOp op) r) (ok : Ok2 X.K c r o) (ha : DE X c W a f) (hb : DE X c W b g) (hm : behindInMarks op b = false := by first | exact nomark _ | with_unfolding_all rfl) : DT X c W (.Compare a [op] [b] pos) (fB (f2 o f g)) :=
  pt_weak (pt_cmpR ho ha hb hm) fun σ H Q h => w_f2 ok σ H _ (w_B σ H Q h)
theorem dt_val {e : Expr} {f : M Ent} (h : DE X c W e f) (he : ∀ whole, isTrue e X.env whole = (do let v ← whole; standAt e.pos; holding [v] (truthy v)) := by intro _; rfl) : DT X c W e (fB f) := pt_weak (pt_val h he) w_B

/-! ### and, or, not -/
def fAndT (f g : M Bool) : M Bool := bnd f fun b => if b = true then g else ret false
def fOrT (f g : M Bool) : M Bool := bnd f fun b => if b = true then ret true else g
def fNotT (f : M Bool) : M Bool := bnd f fun b => ret (!b)
theorem w_andT {f g : M Bool} (σ : St) (H : Hp) (Q : Bool → Hp → Prop) (h : tDT X.K c W (fAndT f g) σ H Q) : tAnd (tDT X.K c W f) (tDT X.K c W g) σ H Q := by
  obtain ⟨G, ρ, env, h⟩ := h
  refine ⟨G, ρ, env, wpM_mono (wpM_bnd.mp h) (fun b ρ1 h1 G1 H1 s1 => ?_) fun _ _ x => x⟩
  cases b with
  | true => exact ⟨G1, ρ1, s1.env, wpM_mono h1 (fun d ρ2 h2 G2 H2 s2 => h2 G2 H2 (s1.trans s2)) fun _ _ x => x.back s1⟩
  | false => exact h1 G1 H1 s1
theorem w_orT {f g : M Bool} (σ : St) (H : Hp) (Q : Bool → Hp → Prop) (h : tDT X.K c W (fOrT f g) σ H Q) : tOr (tDT X.K c W f) (tDT X.K c W g) σ H Q := by
  obtain ⟨G, ρ, env, h⟩ := h
  refine ⟨G, ρ, env, wpM_mono (wpM_bnd.mp h) (fun b ρ1 h1 G1 H1 s1 => ?_) fun _ _ x => x⟩
  cases b with
  | false => exact ⟨G1, ρ1, s1.env, wpM_mono h1 (fun d ρ2 h2 G2 H2 s2 => h2 G2 H2 (s1.trans s2)) fun _ _ x => x.back s1⟩
  | true => exact h1 G1 H1 s1
theorem w_notT {f : M Bool} (σ : St) (H : Hp) (Q : Bool → Hp → Prop) (h : tDT X.K c W (fNotT f) σ H Q) : tNot (tDT X.K c W f) σ H Q := by
  obtain ⟨G, ρ, env, h⟩ := h
  exact ⟨G, ρ, env, wpM_mono (wpM_bnd.mp h) (fun b ρ1 h1 => h1) fun _ _ x => x⟩
variable {a b d : Expr} {rest : List Expr} {pos : Pos} {f g : M Ent} {p q : M Bool}
theorem dw_and1 (h : DT X c W a p) : DW X c W (.BoolOp .And [a] pos) p := pw_and1 h
theorem dw_or1 (h : DT X c W a p) : DW X c W (.BoolOp .Or [a] pos) p := pw_or1 h
theorem dw_and (ha : DT X c W a p) (hb : DW X c W (.BoolOp .And (b :: rest) pos) q) : DW X c W (.BoolOp .And (a :: b :: rest) pos) (fAndT p q) := pw_weak (pw_and ha hb) w_andT
theorem dw_or (ha : DT X c W a p) (hb : DW X c W (.BoolOp .Or (b :: rest) pos) q) : DW X c W (.BoolOp .Or (a :: b :: rest) pos) (fOrT p q) := pw_weak (pw_or ha hb) w_orT
theorem dt_w (h : DW X c W a p) : DT X c W a p := PW.pt h
theorem dt_not (h : DT X c W a p) : DT X c W (.UnaryOp .Not a pos) (fNotT p) := pt_weak (pt_not h) w_notT
/-- as values -/
def asB {α : Type} (k : Bool → M α) : Ent → M α := fun x ρ => match rd ρ x with
  | some (.bool b) => k b ρ
  | _ => none
def fAnd (f g : M Ent) : M Ent := bnd f (asB fun b => if b = true then g else fC (.bool false))
def fOr (f g : M Ent) : M Ent := bnd f (asB fun b => if b = true then fC (.bool true) else g)
def fNot (f : M Ent) : M Ent := bnd f (asB fun b => fC (.bool (!b)))
theorem asB_ok {α : Type} {k : Bool → M α} {K : PySem.W.Frag} {G H : Hp} {σ : St} {ρ : DEnv} {v : V} {x : Ent} {y : α → DEnv → Prop} {z : Nat → DEnv → Prop} (env : EnvOk K c G H σ ρ) (e : EntOk K c G H σ ρ v x) (h : wpM (asB k x ρ) y z) : ∃ b, v = .bl b ∧ wpM (k b ρ) y z := by
  unfold asB at h
  split at h
  · rename_i b e1
    exact ⟨b, rd_bool env e e1, h⟩
  · exact h.elim
theorem w_and (σ : St) (H : Hp) (Q : VK) (h : tD X.K c W (fAnd f g) σ H Q) : tAndV (tD X.K c W f) (tD X.K c W g) σ H Q := by
  obtain ⟨G, ρ, env, h⟩ := h
  refine ⟨G, ρ, env, wpM_mono (wpM_bnd.mp h) (fun x ρ1 h1 v G1 H1 s1 e1 _ => ?_) fun _ _ x => x⟩
  obtain ⟨b, e, h2⟩ := asB_ok s1.env e1 h1
  refine ⟨b, e, ?_⟩
  cases b with
  | true => exact ⟨G1, ρ1, s1.env, wpM_mono h2 (fun y ρ2 k => k.back s1) fun _ _ x => x.back s1⟩
  | false => exact h2 (.bl false) G1 H1 s1 (by simp only [EntOk, RpD, Rp]) trivial
theorem w_or (σ : St) (H : Hp) (Q : VK) (h : tD X.K c W (fOr f g) σ H Q) : tOrV (tD X.K c W f) (tD X.K c W g) σ H Q := by
  obtain ⟨G, ρ, env, h⟩ := h
  refine ⟨G, ρ, env, wpM_mono (wpM_bnd.mp h) (fun x ρ1 h1 v G1 H1 s1 e1 _ => ?_) fun _ _ x => x⟩
  obtain ⟨b, e, h2⟩ := asB_ok s1.env e1 h1
  refine ⟨b, e, ?_⟩
  cases b with
  | false => exact ⟨G1, ρ1, s1.env, wpM_mono h2 (fun y ρ2 k => k.back s1) fun _ _ x => x.back s1⟩
  | true => exact h2 (.bl true) G1 H1 s1 (by simp only [EntOk, RpD, Rp]) trivial
theorem w_not (σ : St) (H : Hp) (Q : VK) (h : tD X.K c W (fNot f) σ H Q) : tNotV (tD X.K c W f) σ H Q := by
  obtain ⟨G, ρ, env, h⟩ := h
  refine ⟨G, ρ, env, wpM_mono (wpM_bnd.mp h) (fun x ρ1 h1 v G1 H1 s1 e1 _ => ?_) fun _ _ x => x⟩
  obtain ⟨b, e, h2⟩ := asB_ok s1.env e1 h1
  exact ⟨b, e, h2 (.bl !b) G1 H1 s1 (by simp only [EntOk, RpD, Rp]) trivial⟩
theorem de_one {op : BoolOp} (h : DE X c W a f) : DE X c W (.BoolOp op [a] pos) f := pe_one h
theorem de_and (ha : DE X c W a f) (hb : DE X c W (.BoolOp .And (b :: rest) pos) g) : DE X c W (.BoolOp .And (a :: b :: rest) pos) (fAnd f g) := pe_weak (pe_and ha hb) w_and
theorem de_or (ha : DE X c W a f) (hb : DE X c W (.BoolOp .Or (b :: rest) pos) g) : DE X c W (.BoolOp .Or (a :: b :: rest) pos) (fOr f g) := pe_weak (pe_or ha hb) w_or
theorem de_not (ha : DE X c W a f) : DE X c W (.UnaryOp .Not a pos) (fNot f) := pe_weak (pe_not ha) w_not
def fIfE (p : M Bool) (f g : M Ent) : M Ent := bnd p fun b => if b = true then f else g
theorem w_ifE (σ : St) (H : Hp) (Q : VK) (h : tD X.K c W (fIfE p f g) σ H Q) : tIf (tDT X.K c W p) (tD X.K c W f) (tD X.K c W g) σ H Q := by
  obtain ⟨G, ρ, env, h⟩ := h
  refine ⟨G, ρ, env, wpM_mono (wpM_bnd.mp h) (fun b ρ1 h1 G1 H1 s1 => ?_) fun _ _ x => x⟩
  cases b with
  | true => exact ⟨G1, ρ1, s1.env, wpM_mono h1 (fun y ρ2 k => k.back s1) fun _ _ x => x.back s1⟩
  | false => exact ⟨G1, ρ1, s1.env, wpM_mono h1 (fun y ρ2 k => k.back s1) fun _ _ x => x.back s1⟩
theorem de_ifE (hp : DT X c W d p) (ha : DE X c W a f) (hb : DE X c W b g) : DE X c W (.IfExp d a b pos) (fIfE p f g) := pe_weak (pe_ifExp hp ha hb) w_ifE
/-- a op b op' d -/
def fChain (o o' : Op2) (f g k : M Ent) : M Ent := bnd f fun x => bnd g fun y ρ => match o ρ x y with
  | some z => asB (fun b => if b = true then bnd k fun w ρ' => liftO (o' ρ' y w) ρ' else fC (.bool false)) z ρ
  | none => none
/-- a bool that an operation yields is yielded at once -/
def Ok2B (K : PySem.W.Frag) (c : Nat → Addr) (r : R2) (o : Op2) : Prop := ∀ (G H : Hp) (σ : St) (ρ : DEnv) (v u : V) (x y e : Ent) (Q : VK), EnvOk K c G H σ ρ → EntOk K c G H σ ρ v x → EntOk K c G H σ ρ u y → o ρ x y = some e → ∃ b, e = py (.bool b) ∧ (Q (.bl b) H → r v u H Q)
theorem w_chain {r r' : R2} {o o' : Op2} {k : M Ent} (ok : Ok2B X.K c r o) (ok' : Ok2 X.K c r' o') (σ : St) (H : Hp) (Q : VK) (h : tD X.K c W (fChain o o' f g k) σ H Q) : tChain r r' (tD X.K c W f) (tD X.K c W g) (tD X.K c W k) σ H Q := by
  obtain ⟨G, ρ, env, h⟩ := h
  refine ⟨G, ρ, env, wpM_mono (wpM_bnd.mp h) (fun x ρ1 h1 v G1 H1 s1 e1 _ => ?_) fun _ _ x => x⟩
  refine ⟨G1, ρ1, s1.env, wpM_mono (wpM_bnd.mp h1) (fun y ρ2 h2 u G2 H2 s2 e2 _ => ?_) fun _ _ x => x.back s1⟩
  have s12 := s1.trans s2
  try dsimp only at h2
  split at h2
  · rename_i z hz
    obtain ⟨b, rfl, hr⟩ := ok G2 H2 σ ρ2 v u x y z _ s2.env (e1.step s2) e2 hz
    refine hr ⟨b, rfl, ?_⟩
    have h3 : wpM ((if b = true then bnd k fun w ρ' => liftO (o' ρ' y w) ρ' else fC (.bool false)) ρ2) (KD X.K c G H σ ρ Q) (XD X.K c W G H σ ρ) := h2
    cases b with
    | true =>
      refine ⟨G2, ρ2, s2.env, wpM_mono (wpM_bnd.mp h3) (fun w ρ3 h4 t G3 H3 s3 e3 _ => ?_) fun _ _ x => x.back s12⟩
      obtain ⟨e, he, kk⟩ := wpM_liftO h4
      exact ok' G3 H3 σ ρ3 u t y w e Q s3.env (e2.step s3) e3 he (kk.back (s12.trans s3))
    | false => exact h3 (.bl false) G2 H2 s12 (by simp only [EntOk, RpD, Rp]) trivial
  · exact h2.elim
theorem de_chain {op op' : CmpOp} {r r' : R2} {o o' : Op2} {k : M Ent} (ho : OpR X (compareOp op) r) (ho' : OpR X (compareOp op') r') (ok : Ok2B X.K c r o) (ok' : Ok2 X.K c r' o') (ha : DE X c W a f) (hb : DE X c W b g) (hd : DE X c W d k) (hm : lastMarks [op, op'] [b, d] = false := by with_unfolding_all rfl) :
    DE X c W (.Compare a [op, op'] [b, d] pos) (fChain o o' f g k) := pe_weak (pe_chain ho ho' ha hb hd hm) (w_chain ok ok')
theorem dt_chain {op op' : CmpOp} {r r' : R2} {o o' : Op2} {k : M Ent} (ho : OpR X (compareOp op) r) (ho' : OpR X (compareOp op') r') (ok : Ok2B X.K c r o) (ok' : Ok2 X.K c r' o') (ha : DE X c W a f) (hb : DE X c W b g) (hd : DE X c W d k) (hm : lastMarks [op, op'] [b, d] = false := by with_unfolding_all rfl) :
    DT X c W (.Compare a [op, op'] [b, d] pos) (fB (fChain o o' f g k)) := pt_weak (pt_chain ho ho' ha hb hd hm) fun σ H Q h => w_chain ok ok' σ H _ (w_B σ H Q h)

/-! ### argument lists -/
inductive EAs (K : PySem.W.Frag) (c : Nat → Addr) (G H : Hp) (σ : St) (ρ : DEnv) : List V → List Ent → Prop
  | nil : EAs K c G H σ ρ [] []
  | cons {v : V} {e : Ent} {vs : List V} {es : List Ent} : EntOk K c G H σ ρ v e → (∀ p b, e ≠ .own p b) → EAs K c G H σ ρ vs es → EAs K c G H σ ρ (v :: vs) (e :: es)
theorem EAs.length {K : PySem.W.Frag} {G H : Hp} {σ : St} {ρ : DEnv} {vs : List V} {es : List Ent} (h : EAs K c G H σ ρ vs es) : vs.length = es.length := by
  induction h with
  | nil => rfl
  | cons _ _ _ ih => rw [List.length_cons, List.length_cons, ih]
def tDA (K : PySem.W.Frag) (c : Nat → Addr) (W : WX) (f : M (List Ent)) : TA := fun σ H Q => ∃ G ρ, EnvOk K c G H σ ρ ∧ wpM (f ρ) (fun es ρ' => ∀ vs G' H', Stp K c G H σ ρ G' H' σ ρ' → EAs K c G' H' σ ρ' vs es → Q vs H') (XD K c W G H σ ρ)
abbrev DA (X : Cx) (c : Nat → Addr) (W : WX) (es : List Expr) (f : M (List Ent)) : Prop := PA X es (tDA X.K c W f)
def fNil : M (List Ent) := ret []
def fCons (f : M Ent) (r : M (List Ent)) : M (List Ent) := bnd (fArg f) fun e => bnd r fun es => ret (e :: es)
theorem arg_ok {e e' : Ent} {ρ ρ' : DEnv} (h : arg e ρ = some (.ok e' ρ')) : ρ' = ρ ∧ ∀ p b, e' ≠ .own p b := by
  cases e <;> simp only [arg, ret, Option.some.injEq, Res.ok.injEq] at h <;> obtain ⟨rfl, rfl⟩ := h <;> exact ⟨rfl, fun p b z => (nomatch z)⟩
theorem wpM_arg {e : Ent} {ρ : DEnv} {k : Ent → DEnv → Prop} {x : Nat → DEnv → Prop} (h : wpM (arg e ρ) k x) : wpM (arg e ρ) (fun e' ρ' => (∀ p b, e' ≠ .own p b) ∧ k e' ρ') x := by
  cases e with
  | sh d => exact ⟨fun p b z => (nomatch z), h⟩
  | own p b => exact ⟨fun p b z => (nomatch z), h⟩
  | lnk i => exact ⟨fun p b z => (nomatch z), h⟩
theorem w_cons {r : M (List Ent)} (σ : St) (H : Hp) (Q : List V → Hp → Prop) (h : tDA X.K c W (fCons f r) σ H Q) : tCons (tD X.K c W f) (tDA X.K c W r) σ H Q := by
  obtain ⟨G, ρ, env, h⟩ := h
  have h0 := wpM_bnd.mp h
  have h1 := wpM_bnd.mp h0
  have key : tD X.K c W (fArg f) σ H fun x H1 => tDA X.K c W r σ H1 fun xs H2 => Q (x :: xs) H2 := by
    refine ⟨G, ρ, env, wpM_bnd.mpr (wpM_mono h1 (fun e ρ1 h2 => ?_) fun _ _ x => x)⟩
    refine wpM_mono (wpM_arg h2) (fun e' ρ2 h3 v G1 H1 s1 e1 _ => ?_) fun _ _ x => x
    obtain ⟨no, h3⟩ := h3
    refine ⟨G1, ρ2, s1.env, wpM_mono (wpM_bnd.mp h3) (fun es ρ3 h4 vs G2 H2 s2 e2 => ?_) fun _ _ x => x.back s1⟩
    exact h4 (v :: vs) G2 H2 (s1.trans s2) (.cons (e1.step s2) no e2)
  exact w_arg σ H _ key
theorem da_nil : DA X c W [] fNil := pa_weak pa_nil fun σ H Q h => by
  obtain ⟨G, ρ, env, h⟩ := h
  exact h [] G H (.refl env) .nil
theorem da_cons {e : Expr} {es : List Expr} {r : M (List Ent)} (ha : DE X c W e f) (hr : DA X c W es r) (hs : starEach (e :: es) X.env = (false, eval e X.env) :: starEach es X.env := by rfl) : DA X c W (e :: es) (fCons f r) := pa_weak (pa_cons ha hr hs) w_cons

/-! ### tuples, lists -/
def pys : List Ent → Option (List PyData)
  | [] => some []
  | .sh (.py p) :: es => match pys es with
    | some ps => some (p :: ps)
    | none => none
  | _ :: _ => none
theorem pys_ok {K : PySem.W.Frag} {G H : Hp} {σ : St} {ρ : DEnv} {vs : List V} {es : List Ent} (h : EAs K c G H σ ρ vs es) : ∀ {ps : List PyData}, pys es = some ps → RpL K G vs ps := by
  induction h with
  | nil =>
    intro ps e
    simp only [pys, Option.some.injEq] at e
    subst e
    simp only [RpL]
  | @cons v e vs es h1 h2 _ ih =>
    intro ps q
    cases e with
    | sh d =>
      cases d with
      | py p =>
        simp only [pys] at q
        split at q
        · rename_i ps' q'
          simp only [Option.some.injEq] at q
          subst q
          simp only [RpL]
          simp only [EntOk, RpD] at h1
          exact ⟨h1, ih q'⟩
        · cases q
      | ins k fs => simp [pys] at q
      | scr ns => simp [pys] at q
      | ty n => simp [pys] at q
    | own p b => simp [pys] at q
    | lnk i => simp [pys] at q
def mkTup (es : List Ent) : M Ent := fun ρ => match pys es with
  | some ps => if ps.length ≤ 1000 then some (.ok (py (.tuple ps)) ρ) else none
  | none => none
def mkLst (es : List Ent) : M Ent := fun ρ => match pys es with
  | some ps => if ps.length ≤ 1000 then some (.ok (.own (.list ps) false) ρ) else none
  | none => none
def fTup (r : M (List Ent)) : M Ent := bnd r mkTup
def fLst (r : M (List Ent)) : M Ent := bnd r mkLst
theorem small1k {n : Nat} (h : n ≤ 1000) : n ≤ sizeLine := Nat.le_of_lt (small1000 h)
/-- a new shared tuple -/
theorem KD.tup {K : PySem.W.Frag} {G H : Hp} {σ : St} {ρ : DEnv} {Q : VK} {vs : List V} {ps : List PyData} {a : Addr} (env : EnvOk K c G H σ ρ) (h : KD K c G H σ ρ Q (py (.tuple ps)) ρ) (r : RpL K G vs ps) (na : H a = none) : Q (.ref a) (upd H a (.tup vs)) := by
  have s := Stp.newSh (o := .tup vs) env na
  refine h _ _ _ s ?_ trivial
  simp only [EntOk, RpD, Rp]
  exact ⟨a, vs, rfl, upd_same, r.mono s.sh⟩
/-- a new list of the def's own -/
theorem KD.lst {K : PySem.W.Frag} {G H : Hp} {σ : St} {ρ : DEnv} {Q : VK} {vs : List V} {ps : List PyData} {a : Addr} {b : Bool} (env : EnvOk K c G H σ ρ) (h : KD K c G H σ ρ Q (.own (.list ps) b) ρ) (r : RpL K G vs ps) (na : H a = none) : Q (.ref a) (upd H a (.lst vs)) := by
  have s := Stp.newOwn (o := .lst vs) env na
  refine h _ _ _ s ⟨a, rfl, env.le.free na, ⟨vs, upd_same, r⟩, fun o => ?_⟩ fun b e => ?_
  · obtain ⟨u, hu⟩ := o.at env
    rw [hu] at na
    cases na
  · cases e
    exact na
theorem KD.flat {K : PySem.W.Frag} {G H : Hp} {σ : St} {ρ : DEnv} {Q : VK} {p : PyData} {v : V} (env : EnvOk K c G H σ ρ) (h : KD K c G H σ ρ Q (py p) ρ) (r : Rp K G v p) : Q v H := h v G H (.refl env) (by simp only [EntOk, RpD]; exact r) trivial
theorem de_tup {es : List Expr} {r : M (List Ent)} {k : Nat} (h : DA X c W es r) : DE X c W (.Tuple es k pos) (fTup r) := pe_weak (pe_tup h) fun σ H Q h => by
  obtain ⟨G, ρ, env, h⟩ := h
  refine ⟨G, ρ, env, wpM_mono (wpM_bnd.mp h) (fun es ρ1 h1 vs G1 H1 s1 e1 => ?_) fun _ _ x => x⟩
  unfold mkTup at h1
  split at h1
  · rename_i ps hp
    split at h1
    · rename_i hl
      have r := pys_ok e1 hp
      exact ⟨small1k (by rw [r.length]; exact hl), fun a na => KD.tup s1.env (KD.back h1 s1) r na⟩
    · exact h1.elim
  · exact h1.elim
theorem de_lst {es : List Expr} {r : M (List Ent)} (h : DA X c W es r) : DE X c W (.List es pos) (fLst r) := pe_weak (pe_lst h) fun σ H Q h => by
  obtain ⟨G, ρ, env, h⟩ := h
  refine ⟨G, ρ, env, wpM_mono (wpM_bnd.mp h) (fun es ρ1 h1 vs G1 H1 s1 e1 => ?_) fun _ _ x => x⟩
  unfold mkLst at h1
  split at h1
  · rename_i ps hp
    split at h1
    · rename_i hl
      have r := pys_ok e1 hp
      exact ⟨small1k (by rw [r.length]; exact hl), fun a na => KD.lst s1.env (KD.back h1 s1) r na⟩
    · exact h1.elim
  · exact h1.elim
end
end VL

set_option linter.all false
set_option autoImplicit false
set_option maxRecDepth 100000
/-! The value layer, part 3: operators, subscripts, slices, calls of built-ins. -/
namespace VL
open PySem L2

section
variable {X : Cx} {c : Nat → Addr} {W : WX} {K : PySem.W.Frag}
abbrev big : Nat := 1000000
theorem small_big {n : Nat} (h : n ≤ big) : n ≤ sizeLine := Nat.le_trans h (by decide)
theorem small_big' {n : Nat} (h : n < big) : n < sizeLine := Nat.lt_of_lt_of_le h (by decide)

/-! ### + - * // % -/
def rAddAll (K : PySem.W.Frag) : R2 := fun x y H Q => rI0 (fun i j => .int (i + j)) x y H Q ∨ (∃ i j, x = .str i ∧ y = .str j ∧ i.length + j.length ≤ sizeLine ∧ Q (.str (i ++ j)) H) ∨ rCat x y H Q ∨ rCatA K x y H Q
theorem op_addAll : OpR X (binaryOp .Add) (rAddAll X.K) := OpR.or op_add (OpR.or op_add_str (OpR.or op_cat op_catA))
def oAdd : Op2 := fun ρ x y => match rd ρ x, rd ρ y with
  | some (.int i), some (.int j) => some (py (.int (i + j)))
  | some (.str s), some (.str t) => if s.length + t.length ≤ big then some (py (.str (s ++ t))) else none
  | some (.list xs), some (.list ys) => if xs.length + ys.length ≤ big then some (.own (.list (xs ++ ys)) false) else none
  | some (.tuple xs), some (.tuple ys) => if xs.length + ys.length ≤ big then some (py (.tuple (xs ++ ys))) else none
  | _, _ => none
theorem ok_add : Ok2 K c (rAddAll K) oAdd := by
  intro G H σ ρ v u x y e Q env hx hy ho k
  unfold oAdd at ho
  split at ho
  · rename_i i j e1 e2
    cases ho
    exact .inl ⟨i, j, rd_int env hx e1, rd_int env hy e2, k.flat env (by simp only [Rp])⟩
  · rename_i s t e1 e2
    split at ho
    · rename_i hl
      cases ho
      exact .inr (.inl ⟨s, t, rd_str env hx e1, rd_str env hy e2, small_big hl, k.flat env (by simp only [Rp])⟩)
    · cases ho
  · rename_i xs ys e1 e2
    split at ho
    · rename_i hl
      cases ho
      obtain ⟨a, vs, ea, ha, ra⟩ := rd_list env hx e1
      obtain ⟨b, ws, eb, hb, rb⟩ := rd_list env hy e2
      exact .inr (.inr (.inl ⟨a, b, vs, ws, ea, eb, ha, hb, small_big (by rw [ra.length, rb.length]; exact hl), fun p np => k.lst env (ra.append rb) np⟩))
    · cases ho
  · rename_i xs ys e1 e2
    split at ho
    · rename_i hl
      cases ho
      obtain ⟨a, vs, ea, ha, ra⟩ := rd_tuple env hx e1
      obtain ⟨b, ws, eb, hb, rb⟩ := rd_tuple env hy e2
      refine .inr (.inr (.inr ⟨a, b, vs, ws, ea, eb, SqT.of (env.le _ _ ha), SqT.of (env.le _ _ hb), small_big (by rw [ra.length, rb.length]; exact hl), fun z => ?_, fun _ z => ?_, fun _ _ p np => k.tup env (ra.append rb) np⟩))
      · subst z
        refine k.flat env ?_
        simp only [Rp]
        exact ⟨b, ws, rfl, hb, by simpa using ra.append rb⟩
      · subst z
        refine k.flat env ?_
        simp only [Rp]
        exact ⟨a, vs, rfl, ha, by simpa using ra.append rb⟩
    · cases ho
  · cases ho
theorem de_add {a b : Expr} {f g : M Ent} {pos : Pos} (ha : DE X c W a f) (hb : DE X c W b g) : DE X c W (.BinOp a .Add b pos) (f2 oAdd f g) := de_bin op_addAll ok_add ha hb
def oSub : Op2 := fun ρ x y => match rd ρ x, rd ρ y with
  | some (.int i), some (.int j) => some (py (.int (i - j)))
  | _, _ => none
theorem ok_sub : Ok2 K c (rI0 fun i j => .int (i - j)) oSub := by
  intro G H σ ρ v u x y e Q env hx hy ho k
  unfold oSub at ho
  split at ho
  · rename_i i j e1 e2
    cases ho
    exact ⟨i, j, rd_int env hx e1, rd_int env hy e2, k.flat env (by simp only [Rp])⟩
  · cases ho
theorem de_sub {a b : Expr} {f g : M Ent} {pos : Pos} (ha : DE X c W a f) (hb : DE X c W b g) : DE X c W (.BinOp a .Sub b pos) (f2 oSub f g) := de_bin op_sub ok_sub ha hb
def oMul : Op2 := fun ρ x y => match rd ρ x, rd ρ y with
  | some (.int i), some (.int j) => if (-(2 ^ 64) < i ∧ i < 2 ^ 64) ∨ (-(2 ^ 64) < j ∧ j < 2 ^ 64) then some (py (.int (i * j))) else none
  | some (.list xs), some (.int j) => if 0 ≤ j ∧ j < 1000000 ∧ xs.length * j.toNat ≤ big then some (.own (.list (List.replicate j.toNat xs).flatten) false) else none
  | _, _ => none
theorem RpL.rep {G : Hp} {vs : List V} {ds : List PyData} (r : RpL K G vs ds) : ∀ n : Nat, RpL K G (List.replicate n vs).flatten (List.replicate n ds).flatten
  | 0 => by simp only [List.replicate_zero, List.flatten_nil, RpL]
  | n + 1 => by
    simp only [List.replicate_succ, List.flatten_cons]
    exact r.append (r.rep n)
theorem ok_mul : Ok2 K c (fun x y H Q => rI CMul (fun i j => .int (i * j)) x y H Q ∨ rRep x y H Q) oMul := by
  intro G H σ ρ v u x y e Q env hx hy ho k
  unfold oMul at ho
  split at ho
  · rename_i i j e1 e2
    split at ho
    · rename_i hc
      cases ho
      exact .inl ⟨i, j, rd_int env hx e1, rd_int env hy e2, hc, k.flat env (by simp only [Rp])⟩
    · cases ho
  · rename_i xs j e1 e2
    split at ho
    · rename_i hc
      cases ho
      obtain ⟨a, vs, ea, ha, ra⟩ := rd_list env hx e1
      exact .inr ⟨a, j, vs, ea, rd_int env hy e2, ha, by omega, by omega, small_big (by rw [ra.length]; exact hc.2.2), fun p np => k.lst env (ra.rep _) np⟩
    · cases ho
  · cases ho
theorem de_mul {a b : Expr} {f g : M Ent} {pos : Pos} (ha : DE X c W a f) (hb : DE X c W b g) : DE X c W (.BinOp a .Mult b pos) (f2 oMul f g) := de_bin (OpR.or op_mul op_rep) ok_mul ha hb
def oMod : Op2 := fun ρ x y => match rd ρ x, rd ρ y with
  | some (.int i), some (.int j) => if 0 < j then some (py (.int (i % j))) else none
  | _, _ => none
theorem ok_mod : Ok2 K c (rI (fun _ j => 0 < j) fun i j => .int (i % j)) oMod := by
  intro G H σ ρ v u x y e Q env hx hy ho k
  unfold oMod at ho
  split at ho
  · rename_i i j e1 e2
    split at ho
    · rename_i hc
      cases ho
      exact ⟨i, j, rd_int env hx e1, rd_int env hy e2, hc, k.flat env (by simp only [Rp])⟩
    · cases ho
  · cases ho
theorem de_mod {a b : Expr} {f g : M Ent} {pos : Pos} (ha : DE X c W a f) (hb : DE X c W b g) : DE X c W (.BinOp a .Mod b pos) (f2 oMod f g) := de_bin op_mod ok_mod ha hb
def oDiv : Op2 := fun ρ x y => match rd ρ x, rd ρ y with
  | some (.int i), some (.int j) => if 0 < j ∧ j < 1073741824 then some (py (.int (i / j))) else none
  | _, _ => none
theorem ok_div : Ok2 K c (rI CDiv fun i j => .int (i / j)) oDiv := by
  intro G H σ ρ v u x y e Q env hx hy ho k
  unfold oDiv at ho
  split at ho
  · rename_i i j e1 e2
    split at ho
    · rename_i hc
      cases ho
      exact ⟨i, j, rd_int env hx e1, rd_int env hy e2, hc, k.flat env (by simp only [Rp])⟩
    · cases ho
  · cases ho
theorem de_div {a b : Expr} {f g : M Ent} {pos : Pos} (ha : DE X c W a f) (hb : DE X c W b g) : DE X c W (.BinOp a .FloorDiv b pos) (f2 oDiv f g) := de_bin op_fdiv ok_div ha hb
def oNeg : Op1 := fun ρ x => match rd ρ x with
  | some (.int i) => some (py (.int (-i)))
  | _ => none
theorem ok_neg : Ok1 K c (rU fun i => .int (-i)) oNeg := by
  intro G H σ ρ v x e Q env hx ho k
  unfold oNeg at ho
  split at ho
  · rename_i i e1
    cases ho
    exact ⟨i, rd_int env hx e1, k.flat env (by simp only [Rp])⟩
  · cases ho
theorem de_neg {a : Expr} {f : M Ent} {pos : Pos} (ha : DE X c W a f) : DE X c W (.UnaryOp .USub a pos) (f1 oNeg f) := de_un un_neg ok_neg ha

/-! ### comparisons -/
def scalP : PyData → PyData → Bool
  | .none, .none => true | .none, .int _ => true | .int _, .none => true | .none, .bool _ => true | .bool _, .none => true | .none, .str _ => true | .str _, .none => true
  | .int _, .int _ => true | .bool _, .bool _ => true | .str _, .str _ => true
  | .int _, .str _ => true | .str _, .int _ => true | .bool _, .str _ => true | .str _, .bool _ => true
  | _, _ => false
theorem scalP_ok {p q : PyData} {v u : V} {H : Hp} (h : scalP p q = true) (hv : Rp K H v p) (hu : Rp K H u q) : scal v u = true ∧ decide (v = u) = PyData.eqv p q := by
  unfold scalP at h
  split at h <;> first | exact False.elim (Bool.false_ne_true h) | (simp only [Rp] at hv hu; subst hv; subst hu; refine ⟨rfl, ?_⟩; simp only [PyData.eqv, dec_int, dec_bl, dec_str]; try rfl)
def eqOk (p q : PyData) : Bool := scalP p q || (SeqAt.shaped p && SeqAt.shaped q)
def oEq : Op2 := fun ρ x y => match rd ρ x, rd ρ y with
  | some p, some q => if eqOk p q = true then some (py (.bool (PyData.eqv p q))) else none
  | _, _ => none
def oNe : Op2 := fun ρ x y => match rd ρ x, rd ρ y with
  | some p, some q => if eqOk p q = true then some (py (.bool (!PyData.eqv p q))) else none
  | _, _ => none
theorem ok_eq : Ok2 K c (fun x y H Q => rEq x y H Q ∨ rEqD K x y H Q) oEq := by
  intro G H σ ρ v u x y e Q env hx hy ho k
  unfold oEq at ho
  split at ho
  · rename_i p q e1 e2
    split at ho
    · rename_i hc
      cases ho
      have rv := rd_ok env hx e1
      have ru := rd_ok env hy e2
      rcases Bool.or_eq_true_iff.mp hc with h | h
      · obtain ⟨h1, h2⟩ := scalP_ok h rv ru
        exact .inl ⟨h1, by rw [h2]; exact k.flat env (by simp only [Rp])⟩
      · obtain ⟨h1, h2⟩ := Bool.and_eq_true_iff.mp h
        exact .inr ⟨p, q, rv.dp (Same.refl _), ru.dp (Same.refl _), h1, h2, k.flat env (by simp only [Rp])⟩
    · cases ho
  · cases ho
theorem ok_ne : Ok2 K c (fun x y H Q => rNe x y H Q ∨ rNeD K x y H Q) oNe := by
  intro G H σ ρ v u x y e Q env hx hy ho k
  unfold oNe at ho
  split at ho
  · rename_i p q e1 e2
    split at ho
    · rename_i hc
      cases ho
      have rv := rd_ok env hx e1
      have ru := rd_ok env hy e2
      rcases Bool.or_eq_true_iff.mp hc with h | h
      · obtain ⟨h1, h2⟩ := scalP_ok h rv ru
        exact .inl ⟨h1, by rw [h2]; exact k.flat env (by simp only [Rp])⟩
      · obtain ⟨h1, h2⟩ := Bool.and_eq_true_iff.mp h
        exact .inr ⟨p, q, rv.dp (Same.refl _), ru.dp (Same.refl _), h1, h2, k.flat env (by simp only [Rp])⟩
    · cases ho
  · cases ho
def oI (p : Int → Int → Bool) : Op2 := fun ρ x y => match rd ρ x, rd ρ y with
  | some (.int i), some (.int j) => some (py (.bool (p i j)))
  | _, _ => none
theorem ok_I {p : Int → Int → Bool} : Ok2 K c (rI0 fun i j => .bl (p i j)) (oI p) := by
  intro G H σ ρ v u x y e Q env hx hy ho k
  unfold oI at ho
  split at ho
  · rename_i i j e1 e2
    cases ho
    exact ⟨i, j, rd_int env hx e1, rd_int env hy e2, k.flat env (by simp only [Rp])⟩
  · cases ho
theorem ok_IB {p : Int → Int → Bool} : Ok2B K c (rI0 fun i j => .bl (p i j)) (oI p) := by
  intro G H σ ρ v u x y e Q env hx hy ho
  unfold oI at ho
  split at ho
  · rename_i i j e1 e2
    cases ho
    exact ⟨_, rfl, fun q => ⟨i, j, rd_int env hx e1, rd_int env hy e2, q⟩⟩
  · cases ho
abbrev oLt : Op2 := oI fun i j => decide (i < j)
abbrev oLe : Op2 := oI fun i j => decide (i ≤ j)
abbrev oGt : Op2 := oI fun i j => decide (j < i)
abbrev oGe : Op2 := oI fun i j => decide (j ≤ i)
variable {a b d : Expr} {f g k : M Ent} {pos : Pos}
theorem de_eq (hu : X.A.units + 64 < cLine) (ha : DE X c W a f) (hb : DE X c W b g) : DE X c W (.Compare a [.Eq] [b] pos) (f2 oEq f g) := de_cmp (OpR.or op_eq (op_eqD hu)) ok_eq ha hb
theorem de_ne (hu : X.A.units + 64 < cLine) (ha : DE X c W a f) (hb : DE X c W b g) : DE X c W (.Compare a [.NotEq] [b] pos) (f2 oNe f g) := de_cmp (OpR.or op_ne (op_neD hu)) ok_ne ha hb
theorem de_lt (ha : DE X c W a f) (hb : DE X c W b g) : DE X c W (.Compare a [.Lt] [b] pos) (f2 oLt f g) := de_cmp op_lt ok_I ha hb
theorem de_le (ha : DE X c W a f) (hb : DE X c W b g) : DE X c W (.Compare a [.LtE] [b] pos) (f2 oLe f g) := de_cmp op_le ok_I ha hb
theorem de_gt (ha : DE X c W a f) (hb : DE X c W b g) : DE X c W (.Compare a [.Gt] [b] pos) (f2 oGt f g) := de_cmp op_gt ok_I ha hb
theorem de_ge (ha : DE X c W a f) (hb : DE X c W b g) : DE X c W (.Compare a [.GtE] [b] pos) (f2 oGe f g) := de_cmp op_ge ok_I ha hb
theorem dt_eq (hu : X.A.units + 64 < cLine) (ha : DE X c W a f) (hb : DE X c W b g) : DT X c W (.Compare a [.Eq] [b] pos) (fB (f2 oEq f g)) := dt_cmp (OpR.or op_eq (op_eqD hu)) ok_eq ha hb
theorem dt_ne (hu : X.A.units + 64 < cLine) (ha : DE X c W a f) (hb : DE X c W b g) : DT X c W (.Compare a [.NotEq] [b] pos) (fB (f2 oNe f g)) := dt_cmp (OpR.or op_ne (op_neD hu)) ok_ne ha hb
theorem dt_lt (ha : DE X c W a f) (hb : DE X c W b g) : DT X c W (.Compare a [.Lt] [b] pos) (fB (f2 oLt f g)) := dt_cmp op_lt ok_I ha hb
theorem dt_le (ha : DE X c W a f) (hb : DE X c W b g) : DT X c W (.Compare a [.LtE] [b] pos) (fB (f2 oLe f g)) := dt_cmp op_le ok_I ha hb
theorem dt_gt (ha : DE X c W a f) (hb : DE X c W b g) : DT X c W (.Compare a [.Gt] [b] pos) (fB (f2 oGt f g)) := dt_cmp op_gt ok_I ha hb
theorem dt_ge (ha : DE X c W a f) (hb : DE X c W b g) : DT X c W (.Compare a [.GtE] [b] pos) (fB (f2 oGe f g)) := dt_cmp op_ge ok_I ha hb
theorem de_lele (ha : DE X c W a f) (hb : DE X c W b g) (hd : DE X c W d k) (hm : lastMarks [.LtE, .LtE] [b, d] = false := by with_unfolding_all rfl) : DE X c W (.Compare a [.LtE, .LtE] [b, d] pos) (fChain oLe oLe f g k) := de_chain op_le op_le ok_IB ok_I ha hb hd hm
theorem de_lelt (ha : DE X c W a f) (hb : DE X c W b g) (hd : DE X c W d k) (hm : lastMarks [.LtE, .Lt] [b, d] = false := by with_unfolding_all rfl) : DE X c W (.Compare a [.LtE, .Lt] [b, d] pos) (fChain oLe oLt f g k) := de_chain op_le op_lt ok_IB ok_I ha hb hd hm
theorem dt_lele (ha : DE X c W a f) (hb : DE X c W b g) (hd : DE X c W d k) (hm : lastMarks [.LtE, .LtE] [b, d] = false := by with_unfolding_all rfl) : DT X c W (.Compare a [.LtE, .LtE] [b, d] pos) (fB (fChain oLe oLe f g k)) := dt_chain op_le op_le ok_IB ok_I ha hb hd hm
theorem dt_lelt (ha : DE X c W a f) (hb : DE X c W b g) (hd : DE X c W d k) (hm : lastMarks [.LtE, .Lt] [b, d] = false := by with_unfolding_all rfl) : DT X c W (.Compare a [.LtE, .Lt] [b, d] pos) (fB (fChain oLe oLt f g k)) := dt_chain op_le op_lt ok_IB ok_I ha hb hd hm
/-- is None -/
def isNo : PyData → Bool
  | .none => true
  | _ => false
def oIsN (neg : Bool) : Op1 := fun ρ x => match x with
  | .sh (.py p) => some (py (.bool (isNo p != neg)))
  | _ => none
theorem isN_ok {p : PyData} {v : V} {G : Hp} (h : Rp K G v p) : decide (v = .non) = isNo p := by
  cases p <;> simp only [Rp] at h <;> first | (subst h; rfl) | (obtain ⟨a, vs, rfl, _⟩ := h; rfl) | exact h.elim
theorem de_isN {j : Nat} {pos' : Pos} (ha : DE X c W a f) : DE X c W (.Compare a [.Is] [.Constant .none j pos'] pos) (f1 (oIsN false) f) := pe_weak (pe_cmp (pc_isN ha) (by rfl)) fun σ H Q h => by
  refine w_f1 (r := fun x H Q => Q (.bl (decide (x = .non))) H) ?_ σ H Q h
  intro G H σ ρ v x e Q env hx ho k
  unfold oIsN at ho
  split at ho
  · rename_i p
    cases ho
    simp only [EntOk, RpD] at hx
    rw [isN_ok hx]
    exact k.flat env (by simp only [Rp, Bool.bne_false])
  · cases ho

/-! ### in, not in -/
def flatP : PyData → Bool
  | .none => true
  | .bool _ => true
  | .int _ => true
  | .str _ => true
  | _ => false
theorem flat_ok {p : PyData} {v : V} {G : Hp} (f : flatP p = true) (h : Rp K G v p) : flatV v = true := by
  cases p <;> first | exact False.elim (Bool.false_ne_true f) | (simp only [Rp] at h; subst h; rfl)
theorem flat_all {G : Hp} : ∀ {vs : List V} {ds : List PyData}, ds.all flatP = true → RpL K G vs ds → vs.all flatV = true
  | [], [], _, _ => rfl
  | v :: vs, d :: ds, f, r => by
    simp only [RpL] at r
    simp only [List.all_cons, Bool.and_eq_true] at f ⊢
    exact ⟨flat_ok f.1 r.1, flat_all f.2 r.2⟩
  | [], _ :: _, _, r => by simp only [RpL] at r
  | _ :: _, [], _, r => by simp only [RpL] at r
theorem flat_eqv {p q : PyData} {v u : V} {G : Hp} (f1 : flatP p = true) (f2 : flatP q = true) (h1 : Rp K G v p) (h2 : Rp K G u q) : eqV v u = PyData.eqv p q := by
  cases p <;> first | exact False.elim (Bool.false_ne_true f1) | (cases q <;> first | exact False.elim (Bool.false_ne_true f2) | (simp only [Rp] at h1 h2; subst h1; subst h2; simp only [eqV, PyData.eqv]))
def memP (p : PyData) (ds : List PyData) : Bool := ds.any fun z => PyData.eqv z p
theorem inV_ok {G : Hp} {p : PyData} {u : V} (f : flatP p = true) (h : Rp K G u p) : ∀ {vs : List V} {ds : List PyData}, ds.all flatP = true → RpL K G vs ds → inV u vs = memP p ds
  | [], [], _, _ => rfl
  | v :: vs, d :: ds, fs, r => by
    simp only [RpL] at r
    simp only [List.all_cons, Bool.and_eq_true] at fs
    have ih := inV_ok f h fs.2 r.2
    simp only [inV, memP, List.any_cons] at ih ⊢
    rw [flat_eqv fs.1 f r.1 h, ih]
  | [], _ :: _, _, r => by simp only [RpL] at r
  | _ :: _, [], _, r => by simp only [RpL] at r
def inOk (p : PyData) (ds : List PyData) (l : Bool) : Bool := (flatP p && ds.all flatP) || (l && SeqAt.shaped p && SeqAt.shaped (.list ds))
def oIn (neg : Bool) : Op2 := fun ρ x y => match rd ρ x, rd ρ y with
  | some p, some (.list ds) => if inOk p ds true = true then some (py (.bool (memP p ds != neg))) else none
  | some p, some (.tuple ds) => if inOk p ds false = true then some (py (.bool (memP p ds != neg))) else none
  | some (.str s), some (.str t) => match s.cps.toList with
    | [n] => some (py (.bool (decide (n ∈ t.cps.toList) != neg)))
    | _ => none
  | _, _ => none
def rInAll (K : PySem.W.Frag) (neg : Bool) : R2 := fun x y H Q => rIn K neg x y H Q ∨ (∃ d ds, Dp K H x d ∧ Dp K H y (.list ds) ∧ SeqAt.shaped d = true ∧ SeqAt.shaped (.list ds) = true ∧ Q (.bl ((ds.any fun z => PyData.eqv z d) != neg)) H) ∨
  (∃ (n : Nat) (z : Str), x = .str ⟨#[n]⟩ ∧ y = .str z ∧ Q (.bl (decide (n ∈ z.cps.toList) != neg)) H)
theorem ok_in {neg : Bool} : Ok2 K c (rInAll K neg) (oIn neg) := by
  intro G H σ ρ v u x y e Q env hx hy ho k
  unfold oIn at ho
  split at ho
  · rename_i p ds e1 e2
    split at ho
    · rename_i hc
      cases ho
      have rv := rd_ok env hx e1
      obtain ⟨a, vs, ea, ha, ra⟩ := rd_list env hy e2
      rcases Bool.or_eq_true_iff.mp hc with h | h
      · obtain ⟨h1, h2⟩ := Bool.and_eq_true_iff.mp h
        refine .inl ⟨a, vs, ea, .inl (SqL.of ha), flat_ok h1 rv, flat_all h2 ra, ?_⟩
        have ei := inV_ok h1 rv h2 (ra.mono env.le)
        refine k.flat env ?_
        simp only [Rp]
        rw [ei]
        cases neg <;> cases memP p ds <;> rfl
      · obtain ⟨h1, h2⟩ := Bool.and_eq_true_iff.mp h
        obtain ⟨_, h1⟩ := Bool.and_eq_true_iff.mp h1
        refine .inr (.inl ⟨p, ds, rv.dp (Same.refl _), (rd_ok env hy e2).dp (Same.refl _), h1, h2, k.flat env (by simp only [Rp]; rfl)⟩)
    · cases ho
  · rename_i p ds e1 e2
    split at ho
    · rename_i hc
      cases ho
      have rv := rd_ok env hx e1
      obtain ⟨a, vs, ea, ha, ra⟩ := rd_tuple env hy e2
      rcases Bool.or_eq_true_iff.mp hc with h | h
      · obtain ⟨h1, h2⟩ := Bool.and_eq_true_iff.mp h
        refine .inl ⟨a, vs, ea, .inr (SqT.of (env.le _ _ ha)), flat_ok h1 rv, flat_all h2 ra, ?_⟩
        have ei := inV_ok h1 rv h2 (ra.mono env.le)
        refine k.flat env ?_
        simp only [Rp]
        rw [ei]
        cases neg <;> cases memP p ds <;> rfl
      · simp at h
    · cases ho
  · rename_i s t e1 e2
    split at ho
    · rename_i n hn
      cases ho
      refine .inr (.inr ⟨n, t, ?_, rd_str env hy e2, k.flat env (by simp only [Rp])⟩)
      rw [rd_str env hx e1]
      have : s.cps = #[n] := by rw [← Array.toArray_toList (xs := s.cps), hn]
      cases s
      exact congrArg (fun z => V.str ⟨z⟩) this
    · cases ho
  · cases ho
theorem op_inAll (hu : X.A.units + 65 < cLine) : OpR X (compareOp .In) (rInAll X.K false) := by
  refine OpR.or op_in_seq (OpR.or ?_ ?_)
  · intro pins s σ H x y v u Q I rx ry h
    obtain ⟨d, ds, h1, h2, h3, h4, q⟩ := h
    exact op_inD hu pins s σ H x y v u Q I rx ry ⟨d, ds, h1, h2, h3, h4, by simpa using q⟩
  · intro pins s σ H x y v u Q I rx ry h
    obtain ⟨n, z, h1, h2, q⟩ := h
    exact op_in_sign pins s σ H x y v u Q I rx ry ⟨n, z, h1, h2, by simpa using q⟩
theorem op_notInAll (hu : X.A.units + 65 < cLine) : OpR X (compareOp .NotIn) (rInAll X.K true) := by
  refine OpR.or op_notIn_seq (OpR.or ?_ ?_)
  · intro pins s σ H x y v u Q I rx ry h
    obtain ⟨d, ds, h1, h2, h3, h4, q⟩ := h
    refine op_notInD hu pins s σ H x y v u Q I rx ry ⟨d, ds, h1, h2, h3, h4, ?_⟩
    revert q
    cases (ds.any fun z => PyData.eqv z d) <;> exact fun q => q
  · intro pins s σ H x y v u Q I rx ry h
    obtain ⟨n, z, h1, h2, q⟩ := h
    refine op_notIn_sign pins s σ H x y v u Q I rx ry ⟨n, z, h1, h2, ?_⟩
    revert q
    cases decide (n ∈ z.cps.toList) <;> exact fun q => q
theorem de_in (hu : X.A.units + 65 < cLine) (ha : DE X c W a f) (hb : DE X c W b g) (hm : behindInMarks .In b = false := by with_unfolding_all rfl) : DE X c W (.Compare a [.In] [b] pos) (f2 (oIn false) f g) := de_cmp (op_inAll hu) ok_in ha hb hm
theorem de_notIn (hu : X.A.units + 65 < cLine) (ha : DE X c W a f) (hb : DE X c W b g) (hm : behindInMarks .NotIn b = false := by with_unfolding_all rfl) : DE X c W (.Compare a [.NotIn] [b] pos) (f2 (oIn true) f g) := de_cmp (op_notInAll hu) ok_in ha hb hm
theorem dt_in (hu : X.A.units + 65 < cLine) (ha : DE X c W a f) (hb : DE X c W b g) (hm : behindInMarks .In b = false := by with_unfolding_all rfl) : DT X c W (.Compare a [.In] [b] pos) (fB (f2 (oIn false) f g)) := dt_cmp (op_inAll hu) ok_in ha hb hm
theorem dt_notIn (hu : X.A.units + 65 < cLine) (ha : DE X c W a f) (hb : DE X c W b g) (hm : behindInMarks .NotIn b = false := by with_unfolding_all rfl) : DT X c W (.Compare a [.NotIn] [b] pos) (fB (f2 (oIn true) f g)) := dt_cmp (op_notInAll hu) ok_in ha hb hm

/-! ### subscripts -/
theorem RpL.atI {G : Hp} {vs : List V} {ds : List PyData} {i : Int} {d : PyData} (r : RpL K G vs ds) (h : L2.atI ds i = some d) : ∃ v, L2.atI vs i = some v ∧ Rp K G v d := by
  unfold L2.atI at h ⊢
  rw [r.length]
  cases e : ixN ds.length i with
  | none =>
    rw [e] at h
    cases h
  | some j =>
    rw [e] at h
    obtain ⟨v, h1, h2⟩ := r.get (i := j) h
    exact ⟨v, h1, h2⟩
theorem atI_map {α β : Type} (h : α → β) (xs : List α) (i : Int) : L2.atI (xs.map h) i = (L2.atI xs i).map h := by
  unfold L2.atI
  rw [List.length_map]
  cases ixN xs.length i with
  | none => rfl
  | some j => simp
def oIx : Op2 := fun ρ x y => match rd ρ y with
  | some (.int i) => match x with
    | .sh (.scr ns) => (L2.atI ns i).map fun n => py (.int n)
    | _ => match rd ρ x with
      | some (.list ds) => (L2.atI ds i).map py
      | some (.tuple ds) => (L2.atI ds i).map py
      | some (.str s) => if s.length ≤ big then (L2.atI s.cps.toList i).map fun n => py (.str ⟨#[n]⟩) else none
      | _ => none
  | _ => none
theorem ok_ix : Ok2 K c (rIx K) oIx := by
  intro G H σ ρ v u x y e Q env hx hy ho k
  unfold oIx at ho
  split at ho
  · rename_i i e2
    have eu := rd_int env hy e2
    split at ho
    · rename_i ns
      simp only [EntOk, RpD] at hx
      obtain ⟨a, ea, sa⟩ := hx
      obtain ⟨n, hn, he⟩ := Option.map_eq_some_iff.mp ho
      cases he
      exact .inl ⟨a, _, i, .int n, ea, eu, env.le.seq sa, by rw [atI_map, hn]; rfl, k.flat env (by simp only [Rp])⟩
    · split at ho
      · rename_i ds e1
        obtain ⟨d, hd, he⟩ := Option.map_eq_some_iff.mp ho
        cases he
        obtain ⟨a, vs, ea, ha, ra⟩ := rd_list env hx e1
        obtain ⟨w, hw, rw⟩ := ra.atI hd
        exact .inl ⟨a, vs, i, w, ea, eu, SqL.of ha, hw, k.flat env rw⟩
      · rename_i ds e1
        obtain ⟨d, hd, he⟩ := Option.map_eq_some_iff.mp ho
        cases he
        obtain ⟨a, vs, ea, ha, ra⟩ := rd_tuple env hx e1
        obtain ⟨w, hw, rw⟩ := ra.atI hd
        exact .inr (.inl ⟨a, vs, i, w, ea, eu, SqT.of (env.le _ _ ha), hw, k.flat env rw⟩)
      · rename_i s e1
        split at ho
        · rename_i hl
          obtain ⟨n, hn, he⟩ := Option.map_eq_some_iff.mp ho
          cases he
          exact .inr (.inr ⟨s, i, n, rd_str env hx e1, eu, small_big hl, hn, k.flat env (by simp only [Rp])⟩)
        · cases ho
      · cases ho
  · cases ho
theorem de_ix (ha : DE X c W a f) (hb : DE X c W b g) (hs : PlainIx b := by exact fun _ _ => rfl) : DE X c W (.Subscript a b pos) (f2 oIx f g) := pe_weak (pe_ix ix_seq ha hb hs) (w_f2 ok_ix)

/-! ### slices -/
def tDO (K : PySem.W.Frag) (c : Nat → Addr) (W : WX) (f : M (Option Int)) : TO := fun σ H Q => ∃ G ρ, EnvOk K c G H σ ρ ∧ wpM (f ρ) (fun o ρ' => ∀ G' H', Stp K c G H σ ρ G' H' σ ρ' → Q o H') (XD K c W G H σ ρ)
def fNoP : M (Option Int) := ret none
def fP (f : M Ent) : M (Option Int) := bnd f fun x ρ => match rd ρ x with
  | some (.int i) => some (.ok (some i) ρ)
  | _ => none
theorem po_weak {e : Option Expr} {t t' : TO} (h : PO X e t) (w : ∀ σ H Q, t' σ H Q → t σ H Q) : PO X e t' := ⟨fun pins s σ H Q I q => h.run pins s σ H Q I (w σ H Q q)⟩
theorem do_none : PO X none (tDO X.K c W fNoP) := po_weak po_none fun σ H Q h => by
  obtain ⟨G, ρ, env, h⟩ := h
  exact h G H (.refl env)
theorem do_some (ha : DE X c W a f) : PO X (some a) (tDO X.K c W (fP f)) := po_weak (po_some ha) fun σ H Q h => by
  obtain ⟨G, ρ, env, h⟩ := h
  refine ⟨G, ρ, env, wpM_mono (wpM_bnd.mp h) (fun x ρ1 h1 v G1 H1 s1 e1 _ => ?_) fun _ _ x => x⟩
  try dsimp only at h1
  split at h1
  · rename_i i e
    exact ⟨i, rd_int s1.env e1 e, h1 G1 H1 s1⟩
  · exact h1.elim
def cutL {α : Type} (xs : List α) (lo hi : Option Int) : List α := (xs.drop (HT.sIx xs.length 0 lo)).take (HT.sIx xs.length xs.length hi - HT.sIx xs.length 0 lo)
theorem RpL.cut {G : Hp} {vs : List V} {ds : List PyData} (r : RpL K G vs ds) (lo hi : Option Int) : RpL K G (cutV vs lo hi) (cutL ds lo hi) := by
  unfold cutV cutL
  rw [r.length]
  exact (r.drop _).take _
def oSl (ρ : DEnv) (x : Ent) (lo hi : Option Int) : Option Ent := match rd ρ x with
  | some (.list ds) => some (.own (.list (cutL ds lo hi)) false)
  | some (.tuple ds) => some (py (.tuple (cutL ds lo hi)))
  | some (.str s) => if s.length ≤ big then some (py (.str (cutS s lo hi))) else none
  | _ => none
def rSlAll (K : PySem.W.Frag) : V → Option Int → Option Int → Hp → VK → Prop := fun x lo hi H Q => rSlL K x lo hi H Q ∨ rSlA K x lo hi H Q ∨ rSlS x lo hi H Q
theorem sl_all : SlR X (rSlAll X.K) := SlR.or sl_list (SlR.or sl_tupA sl_str)
def fSl (f : M Ent) (l h : M (Option Int)) : M Ent := bnd f fun x => bnd l fun lo => bnd h fun hi ρ => liftO (oSl ρ x lo hi) ρ
theorem de_slice {lo hi : Option Expr} {l h : M (Option Int)} {p2 : Pos} (ha : DE X c W a f) (hl : PO X lo (tDO X.K c W l)) (hh : PO X hi (tDO X.K c W h)) : DE X c W (.Subscript a (.Slice lo hi none p2) pos) (fSl f l h) := pe_weak (pe_slice sl_all ha hl hh) fun σ H Q q => by
  obtain ⟨G, ρ, env, q⟩ := q
  refine ⟨G, ρ, env, wpM_mono (wpM_bnd.mp q) (fun x ρ1 h1 v G1 H1 s1 e1 _ => ?_) fun _ _ x => x⟩
  refine ⟨G1, ρ1, s1.env, wpM_mono (wpM_bnd.mp h1) (fun lo ρ2 h2 G2 H2 s2 => ?_) fun _ _ x => x.back s1⟩
  have s12 := s1.trans s2
  refine ⟨G2, ρ2, s2.env, wpM_mono (wpM_bnd.mp h2) (fun hi ρ3 h3 G3 H3 s3 => ?_) fun _ _ x => x.back s12⟩
  obtain ⟨e, ho, k⟩ := wpM_liftO h3
  have ex := (e1.step s2).step s3
  have k := KD.back k (s12.trans s3)
  have env := s3.env
  unfold oSl at ho
  split at ho
  · rename_i ds er
    cases ho
    obtain ⟨a, vs, ea, ha, ra⟩ := rd_list env ex er
    exact .inl ⟨a, vs, ea, SqL.of ha, fun p np => k.lst env (ra.cut lo hi) np⟩
  · rename_i ds er
    cases ho
    obtain ⟨a, vs, ea, ha, ra⟩ := rd_tuple env ex er
    refine .inr (.inl ⟨a, vs, ea, SqT.of (env.le _ _ ha), fun z => ?_, fun _ p np => k.tup env (ra.cut lo hi) np⟩)
    refine k.flat env ?_
    simp only [Rp]
    refine ⟨a, vs, rfl, ha, ?_⟩
    have := ra.cut lo hi
    unfold cutV at this
    rw [z.1, z.2, List.drop_zero, Nat.sub_zero, List.take_length] at this
    exact this
  · rename_i s er
    split at ho
    · rename_i hl
      cases ho
      exact .inr (.inr ⟨s, rd_str env ex er, small_big hl, k.flat env (by simp only [Rp])⟩)
    · cases ho
  · cases ho

/-! ### built-ins called -/
abbrev OpL := DEnv → List Ent → Option Ent
def fBl (o : OpL) (r : M (List Ent)) : M Ent := bnd r fun es ρ => liftO (o ρ es) ρ
def OkL (K : PySem.W.Frag) (c : Nat → Addr) (r : List V → Hp → VK → Prop) (o : OpL) : Prop := ∀ (G H : Hp) (σ : St) (ρ : DEnv) (vs : List V) (es : List Ent) (e : Ent) (Q : VK), EnvOk K c G H σ ρ → EAs K c G H σ ρ vs es → o ρ es = some e → KD K c G H σ ρ Q e ρ → r vs H Q
theorem w_bl {r : List V → Hp → VK → Prop} {o : OpL} {m : M (List Ent)} (ok : OkL X.K c r o) (σ : St) (H : Hp) (Q : VK) (h : tD X.K c W (fBl o m) σ H Q) : tCB r (tDA X.K c W m) σ H Q := by
  obtain ⟨G, ρ, env, h⟩ := h
  refine ⟨G, ρ, env, wpM_mono (wpM_bnd.mp h) (fun es ρ1 h1 vs G1 H1 s1 e1 => ?_) fun _ _ x => x⟩
  obtain ⟨e, he, k⟩ := wpM_liftO h1
  exact ok G1 H1 σ ρ1 vs es e Q s1.env e1 he (k.back s1)
variable {x : Str} {p : Pos} {es : List Expr} {m : M (List Ent)} {id T : String} {r : List V → Hp → VK → Prop} {o : OpL}
theorem de_blt (hc : CallR X (.builtin id) r) (ok : OkL X.K c r o) (hg : Gl X x) (hm : X.mg x = none) (hv : bootBuiltins x = some (.builtin id)) (ha : DA X c W (a :: es) m) (hn : x ≠ "__name__" := by decide) (hdb : (x == ("__debug__" : Str)) = false := by decide)
    (he : starEach (a :: es) X.env = (false, eval a X.env) :: starEach es X.env := by rfl) (hpl : (backTo pos (starEach es X.env)).any (·.1) = false := by rfl) : DE X c W (.Call (.Name x p) (a :: es) [] pos) (fBl o m) := pe_weak (pe_callB hc hg hm hv ha hn hdb he hpl) (w_bl ok)
theorem de_bty (hc : CallR X (.type T) r) (ok : OkL X.K c r o) (hg : Gl X x) (hm : X.mg x = none) (hv : bootBuiltins x = some (.type T)) (ha : DA X c W (a :: es) m) (hn : x ≠ "__name__" := by decide) (hdb : (x == ("__debug__" : Str)) = false := by decide)
    (he : starEach (a :: es) X.env = (false, eval a X.env) :: starEach es X.env := by rfl) (hpl : (backTo pos (starEach es X.env)).any (·.1) = false := by rfl) : DE X c W (.Call (.Name x p) (a :: es) [] pos) (fBl o m) := pe_weak (pe_callTy hc hg hm hv ha hn hdb he hpl) (w_bl ok)
theorem EAs.one {G H : Hp} {σ : St} {ρ : DEnv} {vs : List V} {e : Ent} (h : EAs K c G H σ ρ vs [e]) : ∃ v, vs = [v] ∧ EntOk K c G H σ ρ v e := by
  cases h with
  | cons h1 _ h2 =>
    cases h2
    exact ⟨_, rfl, h1⟩
theorem EAs.two {G H : Hp} {σ : St} {ρ : DEnv} {vs : List V} {e e' : Ent} (h : EAs K c G H σ ρ vs [e, e']) : ∃ v v', vs = [v, v'] ∧ EntOk K c G H σ ρ v e ∧ EntOk K c G H σ ρ v' e' := by
  cases h with
  | cons h1 _ h2 =>
    obtain ⟨v', rfl, h3⟩ := h2.one
    exact ⟨_, _, rfl, h1, h3⟩
def oLen : OpL := fun ρ es => match es with
  | [.sh (.scr ns)] => some (py (.int ns.length))
  | [x] => match rd ρ x with
    | some (.list ds) => some (py (.int ds.length))
    | some (.tuple ds) => some (py (.int ds.length))
    | some (.str s) => if s.length ≤ big then some (py (.int s.length)) else none
    | _ => none
  | _ => none
theorem ok_len : OkL K c (fun xs H Q => ∃ x n, xs = [x] ∧ LenV K x H n ∧ Q (.int n) H) oLen := by
  intro G H σ ρ vs es e Q env hx ho k
  unfold oLen at ho
  split at ho
  · rename_i ns
    cases ho
    obtain ⟨v, rfl, h⟩ := hx.one
    simp only [EntOk, RpD] at h
    obtain ⟨a, rfl, sa⟩ := h
    exact ⟨_, _, rfl, .inl ⟨_, env.le.seq sa, rfl⟩, k.flat env (by simp only [Rp, List.length_map])⟩
  · rename_i x _
    obtain ⟨v, rfl, h⟩ := hx.one
    split at ho
    · rename_i ds er
      cases ho
      obtain ⟨a, vs, rfl, ha, ra⟩ := rd_list env h er
      exact ⟨_, _, rfl, .inl ⟨_, SqL.of ha, rfl⟩, k.flat env (by simp only [Rp, ra.length])⟩
    · rename_i ds er
      cases ho
      obtain ⟨a, vs, rfl, ha, ra⟩ := rd_tuple env h er
      exact ⟨_, _, rfl, .inr ⟨_, SqT.of (env.le _ _ ha), rfl⟩, k.flat env (by simp only [Rp, ra.length])⟩
    · rename_i s er
      split at ho
      · rename_i hl
        cases ho
        have := rd_str env h er
        subst this
        exact ⟨_, _, rfl, ⟨small_big hl, rfl⟩, k.flat env (by simp only [Rp])⟩
      · cases ho
    · cases ho
  · cases ho
theorem de_len (hg : Gl X "len") (hm : X.mg "len" = none) (ha : DA X c W (a :: es) m) (he : starEach (a :: es) X.env = (false, eval a X.env) :: starEach es X.env := by rfl) (hpl : (backTo pos (starEach es X.env)).any (·.1) = false := by rfl) : DE X c W (.Call (.Name "len" p) (a :: es) [] pos) (fBl oLen m) :=
  de_blt call_len ok_len hg hm PySem.boot_len ha (by decide) (by decide) he hpl
def oList : OpL := fun ρ es => match es with
  | [x] => match rd ρ x with
    | some (.list ds) => some (.own (.list ds) false)
    | some (.tuple ds) => some (.own (.list ds) false)
    | _ => none
  | _ => none
theorem ok_list : OkL K c (fun xs H Q => ∃ p ys, xs = [.ref p] ∧ (SqL K H p ys ∨ SqT K H p ys) ∧ ∀ l, H l = none → Q (.ref l) (upd H l (.lst ys))) oList := by
  intro G H σ ρ vs es e Q env hx ho k
  unfold oList at ho
  split at ho
  · obtain ⟨v, rfl, h⟩ := hx.one
    split at ho
    · rename_i ds er
      cases ho
      obtain ⟨a, vs, rfl, ha, ra⟩ := rd_list env h er
      exact ⟨_, _, rfl, .inl (SqL.of ha), fun l nl => k.lst env ra nl⟩
    · rename_i ds er
      cases ho
      obtain ⟨a, vs, rfl, ha, ra⟩ := rd_tuple env h er
      exact ⟨_, _, rfl, .inr (SqT.of (env.le _ _ ha)), fun l nl => k.lst env ra nl⟩
    · cases ho
  · cases ho
theorem de_list (hg : Gl X "list") (hm : X.mg "list" = none) (ha : DA X c W (a :: es) m) (he : starEach (a :: es) X.env = (false, eval a X.env) :: starEach es X.env := by rfl) (hpl : (backTo pos (starEach es X.env)).any (·.1) = false := by rfl) : DE X c W (.Call (.Name "list" p) (a :: es) [] pos) (fBl oList m) :=
  de_bty call_list_of ok_list hg hm (by decide +kernel) ha (by decide) (by decide) he hpl
def oTuple : OpL := fun ρ es => match es with
  | [x] => match rd ρ x with
    | some (.list ds) => some (py (.tuple ds))
    | some (.tuple ds) => some (py (.tuple ds))
    | _ => none
  | _ => none
theorem ok_tuple : OkL K c (fun xs H Q => ∃ p ys, xs = [.ref p] ∧ ((SqL K H p ys ∧ ∀ l, H l = none → Q (.ref l) (upd H l (.tup ys))) ∨ (SqT K H p ys ∧ Q (.ref p) H))) oTuple := by
  intro G H σ ρ vs es e Q env hx ho k
  unfold oTuple at ho
  split at ho
  · obtain ⟨v, rfl, h⟩ := hx.one
    split at ho
    · rename_i ds er
      cases ho
      obtain ⟨a, vs, rfl, ha, ra⟩ := rd_list env h er
      exact ⟨_, _, rfl, .inl ⟨SqL.of ha, fun l nl => k.tup env ra nl⟩⟩
    · rename_i ds er
      cases ho
      obtain ⟨a, vs, rfl, ha, ra⟩ := rd_tuple env h er
      exact ⟨_, _, rfl, .inr ⟨SqT.of (env.le _ _ ha), k.flat env (by simp only [Rp]; exact ⟨a, vs, rfl, ha, ra⟩)⟩⟩
    · cases ho
  · cases ho
theorem de_tupleC (hg : Gl X "tuple") (hm : X.mg "tuple" = none) (ha : DA X c W (a :: es) m) (he : starEach (a :: es) X.env = (false, eval a X.env) :: starEach es X.env := by rfl) (hpl : (backTo pos (starEach es X.env)).any (·.1) = false := by rfl) : DE X c W (.Call (.Name "tuple" p) (a :: es) [] pos) (fBl oTuple m) :=
  de_bty call_tuple_of ok_tuple hg hm (by decide +kernel) ha (by decide) (by decide) he hpl
def bools : List PyData → Option (List Bool)
  | [] => some []
  | .bool b :: ds => (bools ds).map (b :: ·)
  | _ :: _ => none
theorem bools_ok {G : Hp} : ∀ {vs : List V} {ds : List PyData} {bs : List Bool}, RpL K G vs ds → bools ds = some bs → vs = bs.map V.bl
  | [], [], bs, _, e => by
    simp only [bools, Option.some.injEq] at e
    subst e
    rfl
  | v :: vs, .bool b :: ds, bs, r, e => by
    simp only [RpL, Rp] at r
    simp only [bools] at e
    obtain ⟨cs, h1, h2⟩ := Option.map_eq_some_iff.mp e
    subst h2
    rw [r.1, bools_ok r.2 h1]
    rfl
  | v :: vs, .none :: _, _, _, e => by simp [bools] at e
  | v :: vs, .int _ :: _, _, _, e => by simp [bools] at e
  | v :: vs, .str _ :: _, _, _, e => by simp [bools] at e
  | v :: vs, .list _ :: _, _, _, e => by simp [bools] at e
  | v :: vs, .tuple _ :: _, _, _, e => by simp [bools] at e
  | v :: vs, .dict _ :: _, _, _, e => by simp [bools] at e
  | [], _ :: _, _, r, _ => by simp only [RpL] at r
  | _ :: _, [], _, r, _ => by simp only [RpL] at r
theorem bools_map (bs : List Bool) : bools (bs.map .bool) = some bs := by
  induction bs with
  | nil => rfl
  | cons b bs ih => simp [bools, ih]
def oQuant (q : List Bool → Bool) : OpL := fun ρ es => match es with
  | [x] => match rd ρ x with
    | some (.list ds) => (bools ds).map fun bs => py (.bool (q bs))
    | _ => none
  | _ => none
theorem ok_quant {q : List Bool → Bool} : OkL K c (fun vs H Q => ∃ (a : Addr) (bs : List Bool), vs = [V.ref a] ∧ SqL K H a (bs.map V.bl) ∧ Q (.bl (q bs)) H) (oQuant q) := by
  intro G H σ ρ vs es e Q env hx ho k
  unfold oQuant at ho
  split at ho
  · obtain ⟨v, rfl, h⟩ := hx.one
    split at ho
    · rename_i ds er
      obtain ⟨bs, hb, he⟩ := Option.map_eq_some_iff.mp ho
      cases he
      obtain ⟨a, vs, rfl, ha, ra⟩ := rd_list env h er
      exact ⟨a, bs, rfl, SqL.of (by rw [ha, bools_ok ra hb]), k.flat env (by simp only [Rp])⟩
    · cases ho
  · cases ho
theorem de_any (hc : X.calm = true) (hg : Gl X "any") (hm : X.mg "any" = none) (ha : DA X c W (a :: es) m) (he : starEach (a :: es) X.env = (false, eval a X.env) :: starEach es X.env := by rfl) (hpl : (backTo pos (starEach es X.env)).any (·.1) = false := by rfl) : DE X c W (.Call (.Name "any" p) (a :: es) [] pos) (fBl (oQuant fun bs => bs.any fun b => b) m) :=
  de_blt (cr_any hc) ok_quant hg hm (by decide +kernel) ha (by decide) (by decide) he hpl
theorem de_all (hc : X.calm = true) (hg : Gl X "all") (hm : X.mg "all" = none) (ha : DA X c W (a :: es) m) (he : starEach (a :: es) X.env = (false, eval a X.env) :: starEach es X.env := by rfl) (hpl : (backTo pos (starEach es X.env)).any (·.1) = false := by rfl) : DE X c W (.Call (.Name "all" p) (a :: es) [] pos) (fBl (oQuant fun bs => bs.all fun b => b) m) :=
  de_blt (cr_all hc) ok_quant hg hm (by decide +kernel) ha (by decide) (by decide) he hpl
/-- a built-in class as a value -/
def fTy (n : String) : M Ent := ret (.sh (.ty n))
theorem de_ty (n : String) {x : Str} (hg : Gl X x) (hm : X.mg x = none) (hv : bootBuiltins x = some (.type n) := by decide +kernel) (hn : x ≠ "__name__" := by decide) (hd : (x == ("__debug__" : Str)) = false := by decide) : DE X c W (.Name x pos) (fTy n) := pe_weak (pe_bltn (v := .ty n) hg hm hv rfl hn hd) fun σ H Q h => by
  obtain ⟨G, ρ, env, h⟩ := h
  exact h (.ty n) G H (.refl env) (by simp only [EntOk, RpD]) trivial
/-- isinstance -/
def tyOf : PyData → String
  | .none => "NoneType"
  | .bool _ => "bool"
  | .int _ => "int"
  | .str _ => "str"
  | .list _ => "list"
  | .tuple _ => "tuple"
  | .dict _ => "dict"
def isiT (p : PyData) (n : String) : Option Bool := match n with
  | "list" => some (match p with | .list _ => true | _ => false)
  | "tuple" => some (match p with | .tuple _ => true | _ => false)
  | "bool" => some (match p with | .bool _ => true | _ => false)
  | "int" => some (match p with | .bool _ => true | .int _ => true | _ => false)
  | "str" => some (match p with | .str _ => true | _ => false)
  | _ => none
def oIsi : OpL := fun ρ es => match es with
  | [x, .sh (.ty n)] => match rd ρ x with
    | some (.dict _) => none
    | some p => (isiT p n).map fun b => py (.bool b)
    | none => none
  | _ => none
theorem Rp.ty {H : Hp} {v : V} {p : PyData} (h : Rp K H v p) : TyX K H v (.type (tyOf p)) := by
  cases p <;> simp only [Rp] at h
  · subst h; exact .base .non
  · subst h; exact .base (.bl _)
  · subst h; exact .base (.int _)
  · subst h; exact .base (.str _)
  · obtain ⟨a, vs, rfl, h, _⟩ := h; exact .base (.lst h)
  · obtain ⟨a, vs, rfl, h, _⟩ := h; exact .base (.tup h)
theorem isiT_ok {p : PyData} {n : String} {b : Bool} (nd : ∀ k, p ≠ .dict k) (h : isiT p n = some b) : PySem.W.kitOne K (.type (tyOf p)) (.type n) = some b := by
  apply kit_ty
  unfold isiT at h
  split at h <;> cases p <;> first | (cases h; done) | (cases h; dsimp only [tyOf]; decide +kernel) | exact absurd rfl (nd _)
theorem ok_isi : OkL K c (rIsi K) oIsi := by
  intro G H σ ρ vs es e Q env hx ho k
  unfold oIsi at ho
  split at ho
  · rename_i x n
    obtain ⟨v, u, rfl, h, hu⟩ := hx.two
    simp only [EntOk, RpD] at hu
    subst hu
    split at ho
    · cases ho
    · rename_i p nd er
      obtain ⟨b, hb, he⟩ := Option.map_eq_some_iff.mp ho
      cases he
      exact ⟨v, .ty n, _, .type n, b, rfl, .ty n, (rd_ok env h er).ty, isiT_ok (fun q z => nd q z) hb, k.flat env (by simp only [Rp])⟩
    · cases ho
  · cases ho
theorem de_isi (hg : Gl X "isinstance") (hm : X.mg "isinstance" = none) (ha : DA X c W (a :: es) m) (he : starEach (a :: es) X.env = (false, eval a X.env) :: starEach es X.env := by rfl) (hpl : (backTo pos (starEach es X.env)).any (·.1) = false := by rfl) : DE X c W (.Call (.Name "isinstance" p) (a :: es) [] pos) (fBl oIsi m) :=
  de_blt call_isi ok_isi hg hm (by decide +kernel) ha (by decide) (by decide) he hpl
end
end VL

set_option linter.all false
set_option autoImplicit false
set_option maxRecDepth 100000
/-! The value layer, part 4: statements, targets, loops. -/
namespace VL
open PySem L2

section
variable {X : Cx} {c : Nat → Addr} {W : WX} {K : PySem.W.Frag}

/-! ### blocks -/
def fNx : S := ret .nx
def sq (f g : S) : S := bnd f fun fl => match fl with
  | .nx => g
  | o => ret o
theorem w_sq {f g : S} (D : Ends) (σ : St) (H : Hp) (h : tS X.K c W (sq f g) D σ H) : tSeq (tS X.K c W f) (tS X.K c W g) D σ H := by
  obtain ⟨G, ρ, env, h⟩ := h
  refine ⟨G, ρ, env, wpM_mono (wpM_bnd.mp h) (fun fl ρ1 h1 => ?_) fun _ _ x => x⟩
  cases fl with
  | nx => exact fun G1 H1 σ1 s1 => ⟨G1, ρ1, s1.env, wpM_mono h1 (fun _ _ k => k.back s1) fun _ _ x => x.back s1⟩
  | rt e => exact h1
  | bk => exact h1
  | ct => exact h1
variable {st : Stmt} {rest : List Stmt} {f g : S} {pos : Pos} {e a : Expr} {fe fa : M Ent}
theorem ds_nil : DSs X c W [] fNx := pss_weak pss_nil fun D σ H h => by
  obtain ⟨G, ρ, env, h⟩ := h
  exact h G H σ (.refl env)
theorem ds_cons (h1 : DS X c W st f) (h2 : DSs X c W rest g) : DSs X c W (st :: rest) (sq f g) := pss_weak (pss_cons h1 h2) w_sq
theorem ds_one (h1 : DS X c W st f) : DSs X c W [st] f := pss_one h1
theorem ds_pass : DS X c W (.Pass pos) fNx := ps_weak ps_pass fun D σ H h => by
  obtain ⟨G, ρ, env, h⟩ := h
  exact h G H σ (.refl env)
theorem ds_doc {x : Str} {j : Nat} {pos' : Pos} : DS X c W (.Expr (.Constant (.str x) j pos) pos') fNx := ps_weak ps_doc fun D σ H h => by
  obtain ⟨G, ρ, env, h⟩ := h
  exact h G H σ (.refl env)
theorem ds_break : DS X c W (.Break pos) (ret .bk) := ps_weak ps_break fun D σ H h => by
  obtain ⟨G, ρ, env, h⟩ := h
  exact h G H σ (.refl env)
theorem ds_continue : DS X c W (.Continue pos) (ret .ct) := ps_weak ps_continue fun D σ H h => by
  obtain ⟨G, ρ, env, h⟩ := h
  exact h G H σ (.refl env)
def fDrop (f : M Ent) : S := bnd f fun _ => ret .nx
theorem ds_expr (he : DE X c W e fe) (hs : swapsWith e none pos.line X.env = pure false := by rfl) : DS X c W (.Expr e pos) (fDrop fe) := ps_weak (ps_expr he hs) fun D σ H h => by
  obtain ⟨G, ρ, env, h⟩ := h
  exact ⟨G, ρ, env, wpM_mono (wpM_bnd.mp h) (fun x ρ1 h1 v G1 H1 s1 e1 _ => h1 G1 H1 σ s1) fun _ _ x => x⟩
def fRet (f : M Ent) : S := bnd f fun x => ret (.rt x)
theorem ds_ret (he : DE X c W e fe) : DS X c W (.Return (some e) pos) (fRet fe) := ps_weak (ps_ret he) fun D σ H h => by
  obtain ⟨G, ρ, env, h⟩ := h
  exact ⟨G, ρ, env, wpM_mono (wpM_bnd.mp h) (fun x ρ1 h1 v G1 H1 s1 e1 f1 => h1 v G1 H1 σ s1 e1 f1) fun _ _ x => x⟩
def fIf (p : M Bool) (f g : S) : S := bnd p fun b => if b = true then f else g
theorem ds_if {ta tb : List Stmt} {p : M Bool} (hc : DT X c W e p) (ha : DSs X c W ta f) (hb : DSs X c W tb g) : DS X c W (.If e ta tb pos) (fIf p f g) := ps_weak (ps_if hc ha hb) fun D σ H h => by
  obtain ⟨G, ρ, env, h⟩ := h
  refine ⟨G, ρ, env, wpM_mono (wpM_bnd.mp h) (fun b ρ1 h1 G1 H1 s1 => ?_) fun _ _ x => x⟩
  cases b with
  | true => exact ⟨G1, ρ1, s1.env, wpM_mono h1 (fun _ _ k => k.back s1) fun _ _ x => x.back s1⟩
  | false => exact ⟨G1, ρ1, s1.env, wpM_mono h1 (fun _ _ k => k.back s1) fun _ _ x => x.back s1⟩

/-! ### names stored -/
def pinned (ρ : DEnv) (i : Nat) : Bool := match ρ[i]? with
  | some (some (.own _ true)) => true
  | _ => false
def setE (i : Nat) (e : Ent) (ρ : DEnv) : Option DEnv := if pinned ρ i = true then none else match e with
  | .sh d => some (ρ.set i (some (.sh d)))
  | .own p _ => some (ρ.set i (some (.own p false)))
  | .lnk _ => none
theorem not_pinned {ρ : DEnv} {i : Nat} (h : ¬ pinned ρ i = true) (p : PyData) : ρ[i]? ≠ some (some (.own p true)) := fun e => by
  unfold pinned at h
  rw [e] at h
  exact h rfl
theorem get_set {α : Type} {l : List α} {i j : Nat} {x y : α} (h : (l.set i x)[j]? = some y) : (j = i ∧ i < l.length ∧ y = x) ∨ (j ≠ i ∧ l[j]? = some y) := by
  by_cases e : i = j
  · subst e
    rw [List.getElem?_set_self'] at h
    cases q : l[i]? with
    | none =>
      rw [q] at h
      cases h
    | some z =>
      rw [q] at h
      refine .inl ⟨rfl, ?_, (Option.some.inj h).symm⟩
      exact (List.getElem?_eq_some_iff.mp q).1
  · rw [List.getElem?_set_ne e] at h
    exact .inr ⟨Ne.symm e, h⟩
/-- the state behind a store at a name -/
theorem Stp.set {G H G1 H1 : Hp} {σ σ1 : St} {ρ ρ1 ρ2 : DEnv} {v : V} {x : Ent} {i : Nat} (s : Stp K c G H σ ρ G1 H1 σ1 ρ1) (ex : EntOk K c G1 H1 σ1 ρ1 v x) (fx : Frs H v x) (hs : setE i x ρ1 = some ρ2) : Stp K c G H σ ρ G1 H1 (σ1.set i (some v)) ρ2 := by
  unfold setE at hs
  split at hs
  · cases hs
  rename_i np
  have np := not_pinned np
  have len := s.env.len
  have key : ∀ y : Ent, (∀ d, y = .sh d → RpD K c G1 v d) → (∀ p b, y = .own p b → b = false ∧ ∃ a, v = .ref a ∧ G1 a = none ∧ OwnAt K G1 H1 a p ∧ ¬ Ow σ1 ρ1 a ∧ H a = none) → (∀ j, y ≠ .lnk j) → Stp K c G H σ ρ G1 H1 (σ1.set i (some v)) (ρ1.set i (some y)) := by
    intro y h1 h2 h3
    refine ⟨⟨s.env.le, by rw [List.length_set, List.length_set]; exact len, fun j d h => ?_, fun j p b h => ?_, fun j k h => ?_, fun j k a p q b d hj hk ej ek => ?_⟩, s.sh, s.keep, fun p h => ?_, s.dom, fun j p h => ?_⟩
    · rcases get_set h with ⟨rfl, hl, e⟩ | ⟨ne, e⟩
      · exact ⟨v, by rw [List.getElem?_set_self (by omega)], h1 d (Option.some.inj e).symm⟩
      · obtain ⟨w, ew, r⟩ := s.env.sh j d e
        exact ⟨w, by rw [List.getElem?_set_ne (Ne.symm ne)]; exact ew, r⟩
    · rcases get_set h with ⟨rfl, hl, e⟩ | ⟨ne, e⟩
      · obtain ⟨_, a, rfl, k1, k2, _⟩ := h2 p b (Option.some.inj e).symm
        exact ⟨a, by rw [List.getElem?_set_self (by omega)], k1, k2⟩
      · obtain ⟨w, ew, r⟩ := s.env.own j p b e
        exact ⟨w, by rw [List.getElem?_set_ne (Ne.symm ne)]; exact ew, r⟩
    · rcases get_set h with ⟨rfl, hl, e⟩ | ⟨ne, e⟩
      · exact h3 k (Option.some.inj e).symm
      · exact s.env.nol j k e
    · rcases get_set hj with ⟨rfl, hl, e⟩ | ⟨ne, e⟩
      · rcases get_set hk with ⟨rfl, _, _⟩ | ⟨ne', e'⟩
        · rfl
        · obtain ⟨_, a', rfl, _, _, k3, _⟩ := h2 p b (Option.some.inj e).symm
          rw [List.getElem?_set_self (by omega)] at ej
          cases ej
          rw [List.getElem?_set_ne (Ne.symm ne')] at ek
          exact (k3 ⟨k, q, d, e', ek⟩).elim
      · rw [List.getElem?_set_ne (Ne.symm ne)] at ej
        rcases get_set hk with ⟨rfl, hl, e'⟩ | ⟨ne', e'⟩
        · obtain ⟨_, a', rfl, _, _, k3, _⟩ := h2 q d (Option.some.inj e').symm
          rw [List.getElem?_set_self (by omega)] at ek
          cases ek
          exact (k3 ⟨j, p, b, e, ej⟩).elim
        · rw [List.getElem?_set_ne (Ne.symm ne')] at ek
          exact s.env.inj j k a p q b d e e' ej ek
    · obtain ⟨j, q, b, hj, ej⟩ := h
      rcases get_set hj with ⟨rfl, hl, e⟩ | ⟨ne, e⟩
      · obtain ⟨_, a', rfl, _, _, _, k4⟩ := h2 q b (Option.some.inj e).symm
        rw [List.getElem?_set_self (by omega)] at ej
        cases ej
        exact .inr k4
      · rw [List.getElem?_set_ne (Ne.symm ne)] at ej
        exact s.own p ⟨j, q, b, e, ej⟩
    · obtain ⟨⟨q, hq⟩, e1⟩ := s.pin j p h
      have ne : i ≠ j := fun z => by
        subst z
        exact np q hq
      rw [List.getElem?_set_ne ne, List.getElem?_set_ne ne]
      exact ⟨⟨q, hq⟩, e1⟩
  cases x with
  | sh d =>
    cases hs
    exact key _ (fun d' e => by cases e; exact ex) (fun p b e => nomatch e) fun j e => nomatch e
  | own p b =>
    cases hs
    obtain ⟨a, rfl, k1, k2, k3⟩ := ex
    exact key _ (fun d' e => nomatch e) (fun q d e => by cases e; exact ⟨rfl, a, rfl, k1, k2, k3, fx a rfl⟩) fun j e => nomatch e
  | lnk j => cases hs
def fSet (i : Nat) (f : M Ent) : S := bnd f fun x ρ => match setE i x ρ with
  | some ρ' => some (.ok .nx ρ')
  | none => none
theorem w_set {i : Nat} {f : M Ent} (D : Ends) (σ : St) (H : Hp) (h : tS X.K c W (fSet i f) D σ H) : tAsg (tD X.K c W f) (gName i) D σ H := by
  obtain ⟨G, ρ, env, h⟩ := h
  refine ⟨G, ρ, env, wpM_mono (wpM_bnd.mp h) (fun x ρ1 h1 v G1 H1 s1 e1 f1 => ?_) fun _ _ x => x⟩
  try dsimp only at h1
  split at h1
  · rename_i ρ2 hs
    exact h1 G1 H1 _ (s1.set e1 f1 hs)
  · exact h1.elim
theorem ds_set (i : Nat) {x : Str} {pos' : Pos} (hN : X.N.Nodup) (hi : X.N[i]? = some x) (hx : Loc X.env.scope x) (he : DE X c W e fe) (hs : swapsWith e (some (.Name x pos')) pos.line X.env = pure false := by rfl) (hf : X.fn x = true ∨ X.env.scope.names.lookup x = some .local := by first | exact .inl rfl | exact .inr rfl | assumption) :
    DS X c W (.Assign [.Name x pos'] e pos) (fSet i fe) := ps_weak (ps_set hN hi hx he hs hf) w_set

/-! ### targets -/
def Agree (vs : List Nat) (σ σ' : St) : Prop := σ'.length = σ.length ∧ ∀ j, j ∉ vs → σ'[j]? = σ[j]?
abbrev Tgt := PyData → DEnv → Option DEnv
abbrev Tgts := List PyData → DEnv → Option DEnv
def tDG (K : PySem.W.Frag) (c : Nat → Addr) (vs : List Nat) (g : Tgt) : TG := fun v σ H Q => ∃ G ρ d, EnvOk K c G H σ ρ ∧ Rp K G v d ∧ ∃ ρ', g d ρ = some ρ' ∧ ∀ G' H' σ', Stp K c G H σ ρ G' H' σ' ρ' → Agree vs σ σ' → Q σ' H'
def tDGs (K : PySem.W.Frag) (c : Nat → Addr) (vs : List Nat) (g : Tgts) : TGs := fun us σ H Q => ∃ G ρ ds, EnvOk K c G H σ ρ ∧ RpL K G us ds ∧ ∃ ρ', g ds ρ = some ρ' ∧ ∀ G' H' σ', Stp K c G H σ ρ G' H' σ' ρ' → Agree vs σ σ' → Q σ' H'
theorem pg_weak {tg : Expr} {t t' : TG} (h : PG X tg t) (w : ∀ v σ H Q, t' v σ H Q → t v σ H Q) : PG X tg t' := ⟨fun pins s σ H v u Q I r q => h.run pins s σ H v u Q I r (w v σ H Q q)⟩
theorem pgs_weak {tg : List Expr} {t t' : TGs} (h : PGs X tg t) (w : ∀ v σ H Q, t' v σ H Q → t v σ H Q) : PGs X tg t' := ⟨fun pins s σ H v u Q I r q => h.run pins s σ H v u Q I r (w v σ H Q q)⟩
def gNm (i : Nat) : Tgt := fun d ρ => setE i (py d) ρ
theorem dg_name (i : Nat) {x : Str} (hN : X.N.Nodup) (hi : X.N[i]? = some x) (hx : Loc X.env.scope x) (hf : X.fn x = true ∨ X.env.scope.names.lookup x = some .local := by first | exact .inl rfl | exact .inr rfl | assumption) : PG X (.Name x pos) (tDG X.K c [i] (gNm i)) := pg_weak (pg_name hN hi hx hf) fun v σ H Q h => by
  obtain ⟨G, ρ, d, env, r, ρ', hg, q⟩ := h
  refine q G H _ ((Stp.refl env).set (x := py d) (by simp only [EntOk, RpD]; exact r) trivial hg) ⟨by rw [List.length_set], fun j hj => ?_⟩
  exact List.getElem?_set_ne (fun z => hj (by simp [z]))
def gsNil : Tgts := fun ds ρ => match ds with
  | [] => some ρ
  | _ => none
def gsCons (g : Tgt) (r : Tgts) : Tgts := fun ds ρ => match ds with
  | d :: ds => match g d ρ with
    | some ρ' => r ds ρ'
    | none => none
  | [] => none
theorem Agree.refl {vs : List Nat} {σ : St} : Agree vs σ σ := ⟨rfl, fun _ _ => rfl⟩
theorem Agree.trans {vs ws : List Nat} {σ σ1 σ2 : St} (a : Agree vs σ σ1) (b : Agree ws σ1 σ2) : Agree (vs ++ ws) σ σ2 := ⟨b.1.trans a.1, fun j hj => (b.2 j fun z => hj (List.mem_append_right _ z)).trans (a.2 j fun z => hj (List.mem_append_left _ z))⟩
theorem dgs_nil : PGs X [] (tDGs X.K c [] gsNil) := pgs_weak pgs_nil fun v σ H Q h => by
  obtain ⟨G, ρ, ds, env, r, ρ', hg, q⟩ := h
  unfold gsNil at hg
  split at hg
  · cases hg
    cases v with
    | nil => exact ⟨rfl, q G H σ (.refl env) .refl⟩
    | cons _ _ => simp only [RpL] at r
  · cases hg
theorem dgs_cons {tg : Expr} {tgs : List Expr} {vs ws : List Nat} {g : Tgt} {r : Tgts} (h1 : PG X tg (tDG X.K c vs g)) (h2 : PGs X tgs (tDGs X.K c ws r)) (hs : (assignEach (tg :: tgs) X.env).map (·.2) = assign tg X.env :: (assignEach tgs X.env).map (·.2) := by rfl) : PGs X (tg :: tgs) (tDGs X.K c (vs ++ ws) (gsCons g r)) := pgs_weak (pgs_cons h1 h2 hs) fun us σ H Q h => by
  obtain ⟨G, ρ, ds, env, rr, ρ', hg, q⟩ := h
  unfold gsCons at hg
  split at hg
  · rename_i d ds
    cases us with
    | nil => simp only [RpL] at rr
    | cons u us =>
      simp only [RpL] at rr
      split at hg
      · rename_i ρ1 hd
        refine ⟨u, us, rfl, G, ρ, d, env, rr.1, ρ1, hd, fun G1 H1 σ1 s1 a1 => ?_⟩
        exact ⟨G1, ρ1, ds, s1.env, rr.2.mono s1.sh, ρ', hg, fun G2 H2 σ2 s2 a2 => q G2 H2 σ2 (s1.trans s2) (a1.trans a2)⟩
      · cases hg
  · cases hg
def gTp (n : Nat) (g : Tgts) : Tgt := fun d ρ => match d with
  | .tuple ds => if ds.length = n then g ds ρ else none
  | _ => none
theorem dg_tup {tgs : List Expr} {k : Nat} {vs : List Nat} {g : Tgts} {n : Nat} (hc : X.calm = true) (h : PGs X tgs (tDGs X.K c vs g)) (hn : (assignEach tgs X.env).length = n := by rfl) (hst : (assignEach tgs X.env).findIdx? (·.1) = none := by rfl) : PG X (.Tuple tgs k pos) (tDG X.K c vs (gTp n g)) := pg_weak (pg_tup hc h hn hst) fun v σ H Q h => by
  obtain ⟨G, ρ, d, env, r, ρ', hg, q⟩ := h
  unfold gTp at hg
  split at hg
  · rename_i ds
    split at hg
    · rename_i hl
      simp only [Rp] at r
      obtain ⟨a, us, rfl, ha, ra⟩ := r
      exact ⟨a, us, rfl, SqT.of (env.le _ _ ha), by rw [ra.length]; exact hl, G, ρ, ds, env, ra, ρ', hg, q⟩
    · cases hg
  · cases hg
/-- target = value, the value given away -/
def fAsg (f : M Ent) (g : Tgt) : S := bnd f fun x ρ => match x with
  | .sh (.py d) => match g d ρ with
    | some ρ' => some (.ok .nx ρ')
    | none => none
  | _ => none
theorem ds_asg {tg : Expr} {g : Tgt} {vs : List Nat} (he : DE X c W e fe) (hg : PG X tg (tDG X.K c vs g)) (hs : swapsWithSole [tg] e pos.line X.env = pure false := by rfl) (hw : swappedStores [tg] e X.env = pure none := by rfl)
    (h1 : (assignEach [tg] X.env).map (·.2) = [assign tg X.env] := by rfl) : DS X c W (.Assign [tg] e pos) (fAsg fe g) := ps_weak (ps_asg he hg hs hw h1) fun D σ H h => by
  obtain ⟨G, ρ, env, h⟩ := h
  refine ⟨G, ρ, env, wpM_mono (wpM_bnd.mp h) (fun x ρ1 h1 v G1 H1 s1 e1 f1 => ?_) fun _ _ x => x⟩
  try dsimp only at h1
  split at h1
  · rename_i d
    split at h1
    · rename_i ρ2 hs
      simp only [EntOk, RpD] at e1
      exact ⟨G1, ρ1, d, s1.env, e1, ρ2, hs, fun G2 H2 σ2 s2 _ => h1 G2 H2 σ2 (s1.trans s2)⟩
    · exact h1.elim
  · exact h1.elim

/-! ### what is owned, changed -/
theorem Stp.mut {G H : Hp} {σ : St} {ρ : DEnv} {i : Nat} {p : PyData} {b : Bool} {a : Addr} {vs : List V} {ds : List PyData} (env : EnvOk K c G H σ ρ) (hi : ρ[i]? = some (some (.own p b))) (ha : σ[i]? = some (some (.ref a))) (r : RpL K G vs ds) :
    Stp K c G H σ ρ G (upd H a (.lst vs)) σ (ρ.set i (some (.own (.list ds) b))) := by
  obtain ⟨a', ea, g0, h0⟩ := env.own i p b hi
  rw [ha] at ea
  cases ea
  have hlt : i < ρ.length := (List.getElem?_eq_some_iff.mp hi).1
  refine ⟨⟨sameUp env.le g0, by rw [List.length_set]; exact env.len, fun j d h => ?_, fun j q d h => ?_, fun j k h => ?_, fun j k u q q' d d' hj hk ej ek => ?_⟩, Same.refl _, fun q o k1 k2 k3 => ⟨?_, k2⟩, fun q h => ?_, fun q h => ?_, fun j q h => ?_⟩
  · rcases get_set h with ⟨rfl, hl, e⟩ | ⟨ne, e⟩
    · cases e
    · exact env.sh j d e
  · rcases get_set h with ⟨rfl, hl, e⟩ | ⟨ne, e⟩
    · cases e
      exact ⟨a, ha, g0, vs, upd_same, r⟩
    · obtain ⟨w, ew, k1, k2⟩ := env.own j q d e
      refine ⟨w, ew, k1, k2.mono (Same.refl _) (upd_ne fun z => ?_)⟩
      subst z
      exact ne (env.inj j i w q p d b e hi ew ha)
  · rcases get_set h with ⟨rfl, hl, e⟩ | ⟨ne, e⟩
    · cases e
    · exact env.nol j k e
  · have old : ∀ {j : Nat} {q : PyData} {d : Bool}, (ρ.set i (some (.own (.list ds) b)))[j]? = some (some (.own q d)) → ∃ q' d', ρ[j]? = some (some (.own q' d')) := fun h => by
      rcases get_set h with ⟨rfl, hl, e⟩ | ⟨ne, e⟩
      · exact ⟨p, b, hi⟩
      · exact ⟨_, _, e⟩
    obtain ⟨_, _, o1⟩ := old hj
    obtain ⟨_, _, o2⟩ := old hk
    exact env.inj j k u _ _ _ _ o1 o2 ej ek
  · rw [upd_ne fun z => k3 ⟨i, p, b, hi, by rw [z]; exact ha⟩]
    exact k1
  · obtain ⟨j, q', d, hj, ej⟩ := h
    rcases get_set hj with ⟨rfl, hl, e⟩ | ⟨ne, e⟩
    · exact .inl ⟨j, p, b, hi, ej⟩
    · exact .inl ⟨j, q', d, e, ej⟩
  · by_cases z : q = a
    · subst z
      rw [upd_same] at h
      cases h
    · rw [upd_ne z] at h
      exact h
  · by_cases z : i = j
    · subst z
      rw [hi] at h
      cases h
      exact ⟨⟨_, List.getElem?_set_self hlt⟩, rfl⟩
    · rw [List.getElem?_set_ne z]
      exact ⟨⟨q, h⟩, rfl⟩
/-- x.append(e), x a name's own list -/
def appE (x : Ent) (es : List Ent) : M Ent := fun ρ => match x, es with
  | .lnk i, [.sh (.py d)] => match ρ[i]? with
    | some (some (.own (.list ds) b)) => if ds.length < big then some (.ok (py .none) (ρ.set i (some (.own (.list (ds ++ [d])) b)))) else none
    | _ => none
  | _, _ => none
def fApp (f : M Ent) (m : M (List Ent)) : M Ent := bnd f fun x => bnd m fun es => appE x es
theorem own_ty {G H : Hp} {σ : St} {ρ : DEnv} {v : V} {i : Nat} {ds : List PyData} {b : Bool} (env : EnvOk K c G H σ ρ) (h : EntOk K c G H σ ρ v (.lnk i)) (e : ρ[i]? = some (some (.own (.list ds) b))) : ∃ a vs, v = .ref a ∧ σ[i]? = some (some (.ref a)) ∧ G a = none ∧ H a = some (.lst vs) ∧ RpL K G vs ds := by
  obtain ⟨a, ea, g0, vs, h1, h2⟩ := env.own i _ b e
  simp only [EntOk] at h
  rw [h] at ea
  cases ea
  exact ⟨a, vs, rfl, h, g0, h1, h2⟩
/-- the receiver is a list: known to the reading before the arguments are reckoned -/
def isLst (x : Ent) : M Unit := fun ρ => match rd ρ x with
  | some (.list _) => some (.ok () ρ)
  | _ => none
def fMet (o : Ent → List Ent → M Ent) (f : M Ent) (m : M (List Ent)) : M Ent := bnd f fun x => bnd (isLst x) fun _ => bnd m fun es => o x es
def OkMt (K : PySem.W.Frag) (c : Nat → Addr) (r : V → List V → Hp → VK → Prop) (o : Ent → List Ent → M Ent) : Prop := ∀ (G H : Hp) (σ : St) (ρ : DEnv) (v : V) (x : Ent) (vs : List V) (es : List Ent) (Q : VK) (E : Nat → DEnv → Prop), EnvOk K c G H σ ρ → EntOk K c G H σ ρ v x → EAs K c G H σ ρ vs es → wpM (o x es ρ) (KD K c G H σ ρ Q) E → r v vs H Q
variable {es : List Expr} {m : M (List Ent)} {id : String} {r : V → List V → Hp → VK → Prop} {o : Ent → List Ent → M Ent} {name : Str} {apos : Pos}
theorem w_met (ok : OkMt X.K c r o) (σ : St) (H : Hp) (Q : VK) (h : tD X.K c W (fMet o fe m) σ H Q) : tBM X.K "list" r (tD X.K c W fe) (tDA X.K c W m) σ H Q := by
  obtain ⟨G, ρ, env, h⟩ := h
  refine ⟨G, ρ, env, wpM_mono (wpM_bnd.mp h) (fun x ρ1 h1 v G1 H1 s1 e1 _ => ?_) fun _ _ x => x⟩
  have h2 := wpM_bnd.mp h1
  unfold isLst at h2
  split at h2
  · rename_i ds er
    obtain ⟨a, vs, rfl, ha, ra⟩ := rd_list s1.env e1 er
    refine ⟨.inl ⟨rfl, _, SqL.of ha⟩, G1, ρ1, s1.env, wpM_mono (wpM_bnd.mp h2) (fun es ρ2 h3 us G2 H2 s2 e2 => ?_) fun _ _ x => x.back s1⟩
    exact ok G2 H2 σ ρ2 _ x us es Q _ s2.env (e1.step s2) e2 (wpM_mono h3 (fun _ _ k => k.back (s1.trans s2)) fun _ _ x => x)
  · exact h2.elim
theorem de_met (pa : PlainAttrs "list") (slot : Slot "list" name id) (hty : typeOf (.builtin id) = pure (.type "method_descriptor")) (hm : MtR X id r) (ok : OkMt X.K c r o) (ho : DE X c W e fe) (ha : DA X c W (a :: es) m) (hbase : attributeBase e name X.env (eval e X.env) = eval e X.env := by rfl)
    (hfew : ((backTo pos (starEach (a :: es) X.env)).all (fun x => !x.1) && (backToKw pos (keywordEach [] X.env)).all (fun x => x.1.isSome)
      && decide ((a :: es).length + ([] : List Keyword).length + (if ([] : List Keyword).isEmpty then 0 else 1) < 30)) = true := by rfl)
    (hline : (apos.endLine == pos.line) = true := by rfl) (hs : starEach (a :: es) X.env = (false, eval a X.env) :: starEach es X.env := by rfl) (hplain : (backTo pos (starEach es X.env)).any (·.1) = false := by rfl) :
    DE X c W (.Call (.Attribute e name apos) (a :: es) [] pos) (fMet o fe m) := pe_weak (pe_bm pa slot hty hm ho ha hbase hfew hline hs hplain) (w_met ok)
theorem ok_append : OkMt K c rAppend appE := by
  intro G H σ ρ v x vs es Q E env hx hes h
  unfold appE at h
  split at h
  · rename_i i d
    split at h
    · rename_i ds b er
      split at h
      · rename_i hl
        obtain ⟨u, rfl, hu⟩ := hes.one
        obtain ⟨a, ws, rfl, ea, g0, ha, ra⟩ := own_ty env hx er
        simp only [EntOk, RpD] at hu
        refine ⟨a, ws, u, rfl, rfl, ha, small_big' (by rw [ra.length]; exact hl), ?_⟩
        exact h .non G _ (Stp.mut env er ea (ra.append (.one hu))) (by simp only [EntOk, RpD, Rp]) trivial
      · exact h.elim
    · exact h.elim
  · exact h.elim
theorem de_append (ho : DE X c W e fe) (ha : DA X c W (a :: es) m) (hbase : attributeBase e "append" X.env (eval e X.env) = eval e X.env := by rfl)
    (hfew : ((backTo pos (starEach (a :: es) X.env)).all (fun x => !x.1) && (backToKw pos (keywordEach [] X.env)).all (fun x => x.1.isSome)
      && decide ((a :: es).length + ([] : List Keyword).length + (if ([] : List Keyword).isEmpty then 0 else 1) < 30)) = true := by rfl)
    (hline : (apos.endLine == pos.line) = true := by rfl) (hs : starEach (a :: es) X.env = (false, eval a X.env) :: starEach es X.env := by rfl) (hplain : (backTo pos (starEach es X.env)).any (·.1) = false := by rfl) :
    DE X c W (.Call (.Attribute e "append" apos) (a :: es) [] pos) (fMet appE fe m) := de_met PySem.F.plainAttrs_list PySem.F.slot_list_append PySem.F.type_list_append mt_append ok_append ho ha hbase hfew hline hs hplain
/-- x[i] = v, x a name's own list -/
def putE (x i v : Ent) : S := fun ρ => match x, rd ρ i, v with
  | .lnk n, some (.int k), .sh (.py d) => match ρ[n]? with
    | some (some (.own (.list ds) b)) => match ixN ds.length k with
      | some j => some (.ok .nx (ρ.set n (some (.own (.list (ds.set j d)) b))))
      | none => none
    | _ => none
  | _, _, _ => none
def fPut (fv fo fi : M Ent) : S := bnd (fSh fv) fun v => bnd fo fun x => bnd fi fun i => putE x i v
theorem ds_put {ov iv : Expr} {fo fi : M Ent} {spos : Pos} (hv : DE X c W e fe) (ho : DE X c W ov fo) (hi : DE X c W iv fi)
    (has : ∀ v, assign (.Subscript ov iv spos) X.env v = (do
      let ov' ← holding [v] (eval ov X.env)
      let iv' ← holding [v, ov'] (eval iv X.env)
      standAt spos
      holding [v, ov', iv'] (setItem ov' iv' v)
      release [v, ov', iv'] []) := by intro _; rfl)
    (hs : swapsWithSole [.Subscript ov iv spos] e pos.line X.env = pure false := by rfl) (hw : swappedStores [.Subscript ov iv spos] e X.env = pure none := by rfl)
    (h1 : (assignEach [.Subscript ov iv spos] X.env).map (·.2) = [assign (.Subscript ov iv spos) X.env] := by rfl) : DS X c W (.Assign [.Subscript ov iv spos] e pos) (fPut fe fo fi) := ps_weak (ps_asg (de_sh hv) (pg_sub ho hi set_list has) hs hw h1) fun D σ H h => by
  obtain ⟨G, ρ, env, h⟩ := h
  refine ⟨G, ρ, env, wpM_mono (wpM_bnd.mp h) (fun xv ρ1 h1 v G1 H1 s1 e1 f1 => ?_) fun _ _ x => x⟩
  refine ⟨G1, ρ1, s1.env, wpM_mono (wpM_bnd.mp h1) (fun xo ρ2 h2 u G2 H2 s2 e2 f2 => ?_) fun _ _ x => x.back s1⟩
  have s12 := s1.trans s2
  refine ⟨G2, ρ2, s2.env, wpM_mono (wpM_bnd.mp h2) (fun xi ρ3 h3 w G3 H3 s3 e3 f3 => ?_) fun _ _ x => x.back s12⟩
  have s := s12.trans s3
  unfold putE at h3
  split at h3
  · rename_i n k d er
    split at h3
    · rename_i ds b eo
      split at h3
      · rename_i j ej
        obtain ⟨a, ws, rfl, ea, g0, ha, ra⟩ := own_ty s.env (e2.step s3) eo
        have ev := (e1.step s2).step s3
        simp only [EntOk, RpD] at ev
        refine ⟨a, ws, k, j, rfl, rd_int s.env e3 er, ha, by rw [ra.length]; exact ej, ?_⟩
        exact h3 G3 _ σ (s.trans (Stp.mut s.env eo ea (RpL.set ev j ra)))
      · exact h3.elim
    · exact h3.elim
  · exact h3.elim
end
end VL

set_option linter.all false
set_option autoImplicit false
set_option maxRecDepth 100000
/-! The value layer, part 5: what is walked, loops, comprehensions. -/
namespace VL
open PySem L2

section
variable {X : Cx} {c : Nat → Addr} {W : WX} {K : PySem.W.Frag}

/-- an iterator that yields the items, from any later heap on -/
def WalkOk (K : PySem.W.Frag) (J : It) (G0 : Hp) (items : List PyData) : Prop := ∀ G H, Same G0 G → Same G H →
  (∀ k, k < items.length → J.go k H) ∧ J.stop items.length H ∧
    ∀ k x H', k < items.length → J.yld k H x H' → ∃ d, items[k]? = some d ∧ ∃ G', ((G' = G ∧ H' = H) ∨ ∃ a o, H a = none ∧ G' = upd G a o ∧ H' = upd H a o) ∧ Rp K G' x d
def tDI (K : PySem.W.Frag) (c : Nat → Addr) (W : WX) (f : M (List PyData)) : TI := fun σ H R => ∃ G ρ, EnvOk K c G H σ ρ ∧ wpM (f ρ) (fun items ρ' => ∀ J G' H', Stp K c G H σ ρ G' H' σ ρ' → WalkOk K J G' items → R J H') (XD K c W G H σ ρ)
abbrev DI (X : Cx) (c : Nat → Addr) (W : WX) (tg e : Expr) (f : M (List PyData)) : Prop := PI X tg e (tDI X.K c W f)
theorem pi_weak {tg e : Expr} {t t' : TI} (h : PI X tg e t) (w : ∀ σ H R, t' σ H R → t σ H R) : PI X tg e t' := ⟨fun pins s σ H R I q => h.run pins s σ H R I (w σ H R q)⟩
theorem yld_step {G H G' H' : Hp} {σ : St} {ρ : DEnv} (env : EnvOk K c G H σ ρ) (h : (G' = G ∧ H' = H) ∨ ∃ a o, H a = none ∧ G' = upd G a o ∧ H' = upd H a o) : Stp K c G H σ ρ G' H' σ ρ := by
  rcases h with ⟨rfl, rfl⟩ | ⟨a, o, na, rfl, rfl⟩
  · exact .refl env
  · exact .newSh env na

/-- a list, a tuple or a text walked -/
def iAny (K : PySem.W.Frag) (tl : TE) : TI := fun σ H R => tl σ H fun x H1 => (∃ a, x = .ref a ∧ (∃ xs, SqL K H1 a xs) ∧ R (Itl K a) H1) ∨ (∃ a, x = .ref a ∧ (∃ xs, SqT K H1 a xs) ∧ R (Itt K a) H1) ∨ ∃ z, x = .str z ∧ R (Its z) H1
theorem pe_given {M : Model} {A : Around} {Q : Value → Shared → Prop} {E : Value → Shared → Prop} {s : Shared} {v : Value} {e : Expr} {env : Env} (h : Q v s) : wpAny M A (pure v) Q E s := wpAny_pure h
theorem pi_anyS {tg l : Expr} {tl : TE} (hl : PE X l tl) : PI X tg l (iAny X.K tl) := by
  refine ⟨fun pins s σ H R I h => ?_⟩
  refine thn (hl.run pins s σ H _ I h) fun v s1 ⟨x, H1, I1, r1, q1⟩ => ?_
  rcases q1 with ⟨a, e, ⟨xs, hq⟩, q⟩ | ⟨a, e, ⟨xs, hq⟩, q⟩ | ⟨z, e, q⟩
  · subst e
    cases r1
    obtain ⟨its, rv, p, hz⟩ := I1.list hq
    refine wpAny_pyIter_list p.isList ?_
    refine ⟨s1.heap.objs.size, [s1.heap.objs.size], _, _, H1, rfl, I1.kept (t' := s1.toks) fun b o e => Heap.get?_push_of_some _ e, turn_list a _, ⟨_, Heap.get?_push_size _ rfl, rfl, rfl⟩, fun b hb => ?_, q⟩
    have e : b = s1.heap.objs.size := by simpa using hb
    subst e
    exact I1.fpOk (Nat.le_refl _) (I1.hok.fresh (Nat.le_refl _))
  · subst e
    cases r1
    obtain ⟨its, rv, p, hz⟩ := I1.tuple hq
    refine wpAny_pyIter_tuple (show s1.heap.IsTuple a its.toArray from p) ?_
    refine ⟨s1.heap.objs.size, [s1.heap.objs.size], _, _, H1, rfl, I1.kept (t' := s1.toks) fun b o e => Heap.get?_push_of_some _ e, turn_tuple a _, ⟨_, Heap.get?_push_size _ rfl, rfl, rfl⟩, fun b hb => ?_, q⟩
    have e : b = s1.heap.objs.size := by simpa using hb
    subst e
    exact I1.fpOk (Nat.le_refl _) (I1.hok.fresh (Nat.le_refl _))
  · subst e
    obtain ⟨t, rfl⟩ := r1
    cases ha : z.cps.all (· < 128)
    · exact wpAny_pyIter_wide ha (pi_one (tk := s1.toks) I1 _ (turn_str _ z t "str_iterator" (.inr rfl)) ⟨_, Heap.get?_push_size _ rfl, rfl, rfl⟩ q)
    · exact wpAny_pyIter_ascii ha (pi_one (tk := s1.toks) I1 _ (turn_str _ z t "str_ascii_iterator" (.inl rfl)) ⟨_, Heap.get?_push_size _ rfl, rfl, rfl⟩ q)
theorem walk_list {G0 : Hp} {a : Addr} {vs : List V} {ds : List PyData} (h : G0 a = some (.lst vs)) (r : RpL K G0 vs ds) : WalkOk K (Itl K a) G0 ds := by
  intro G H sg le
  have hq : SqL K H a vs := SqL.of (le _ _ (sg _ _ h))
  have hl := r.length
  refine ⟨fun k hk => ⟨vs, vs[k], hq, List.getElem?_eq_getElem (by omega)⟩, ⟨vs, hq, by omega⟩, fun k x H' hk y => ?_⟩
  obtain ⟨rfl, y⟩ := y
  obtain ⟨d, hd, rd⟩ := r.getV (y vs hq)
  exact ⟨d, hd, G, .inl ⟨rfl, rfl⟩, rd.mono sg⟩
theorem walk_tup {G0 : Hp} {a : Addr} {vs : List V} {ds : List PyData} (h : G0 a = some (.tup vs)) (r : RpL K G0 vs ds) : WalkOk K (Itt K a) G0 ds := by
  intro G H sg le
  have hq : SqT K H a vs := SqT.of (le _ _ (sg _ _ h))
  have hl := r.length
  refine ⟨fun k hk => ⟨vs, vs[k], hq, List.getElem?_eq_getElem (by omega)⟩, ⟨vs, hq, by omega⟩, fun k x H' hk y => ?_⟩
  obtain ⟨rfl, y⟩ := y
  obtain ⟨d, hd, rd⟩ := r.getV (y vs hq)
  exact ⟨d, hd, G, .inl ⟨rfl, rfl⟩, rd.mono sg⟩
def signs (s : Str) : List PyData := s.cps.toList.map fun n => .str ⟨#[n]⟩
theorem walk_str {G0 : Hp} {s : Str} : WalkOk K (Its s) G0 (signs s) := by
  intro G H sg le
  have hl : (signs s).length = s.cps.size := by simp [signs]
  refine ⟨fun k hk => by show k < s.cps.size; omega, by show s.cps.size ≤ _; omega, fun k x H' hk y => ?_⟩
  obtain ⟨rfl, n, hn, rfl⟩ := y
  refine ⟨.str ⟨#[n]⟩, ?_, G, .inl ⟨rfl, rfl⟩, by simp only [Rp]⟩
  simp only [signs, List.getElem?_map, Array.getElem?_toList, hn, Option.map_some]
variable {tg l a b d : Expr} {f : M Ent} {m : M (List Ent)} {pos p : Pos}
def items : Ent → M (List PyData)
  | .sh (.py (.list ds)) => ret ds
  | .sh (.py (.tuple ds)) => ret ds
  | .sh (.py (.str s)) => ret (signs s)
  | _ => fun _ => none
def fItems (f : M Ent) : M (List PyData) := bnd (fSh f) items
theorem di_any (h : DE X c W l f) : DI X c W tg l (fItems f) := pi_weak (pi_anyS (de_sh h)) fun σ H R h => by
  obtain ⟨G, ρ, env, h⟩ := h
  refine ⟨G, ρ, env, wpM_mono (wpM_bnd.mp h) (fun x ρ1 h1 v G1 H1 s1 e1 _ => ?_) fun _ _ x => x⟩
  unfold items at h1
  split at h1
  · rename_i ds
    simp only [EntOk, RpD, Rp] at e1
    obtain ⟨a, vs, rfl, ha, ra⟩ := e1
    exact .inl ⟨a, rfl, ⟨vs, SqL.of (s1.env.le _ _ ha)⟩, h1 _ G1 H1 s1 (walk_list ha ra)⟩
  · rename_i ds
    simp only [EntOk, RpD, Rp] at e1
    obtain ⟨a, vs, rfl, ha, ra⟩ := e1
    exact .inr (.inl ⟨a, rfl, ⟨vs, SqT.of (s1.env.le _ _ ha)⟩, h1 _ G1 H1 s1 (walk_tup ha ra)⟩)
  · rename_i z
    simp only [EntOk, RpD, Rp] at e1
    exact .inr (.inr ⟨_, e1, h1 _ G1 H1 s1 walk_str⟩)
  · exact h1.elim
/-! ### ranges -/
def intsD (lo step : Int) (n : Nat) : List PyData := (List.range n).map fun i => .int (lo + (i : Nat) * step)
theorem intsD_get {lo step : Int} {n k : Nat} (h : k < n) : (intsD lo step n)[k]? = some (.int (lo + (k : Nat) * step)) := by
  simp [intsD, h]
theorem intsD_length {lo step : Int} {n : Nat} : (intsD lo step n).length = n := by simp [intsD]
theorem walk_rng {G0 : Hp} {lo : Int} {n : Nat} : WalkOk K (Itr lo n) G0 (intsD lo 1 n) := by
  intro G H sg le
  refine ⟨fun k hk => by rw [intsD_length] at hk; exact hk, by rw [intsD_length]; exact Nat.le_refl n, fun k x H' hk y => ?_⟩
  rw [intsD_length] at hk
  obtain ⟨rfl, rfl⟩ := y
  exact ⟨_, intsD_get hk, G, .inl ⟨rfl, rfl⟩, by simp only [Rp, Int.mul_one]⟩
theorem walk_rngC {G0 : Hp} {lo step : Int} {n : Nat} : WalkOk K (Itc lo step n) G0 (intsD lo step n) := by
  intro G H sg le
  refine ⟨fun k hk => by rw [intsD_length] at hk; exact hk, by rw [intsD_length]; exact Nat.le_refl n, fun k x H' hk y => ?_⟩
  rw [intsD_length] at hk
  obtain ⟨rfl, rfl⟩ := y
  exact ⟨_, intsD_get hk, G, .inl ⟨rfl, rfl⟩, by simp only [Rp]⟩
def inRng (i : Int) : Bool := decide (-1000000000000 ≤ i ∧ i ≤ 1000000000000)
def rng1 (es : List Ent) : M (List PyData) := fun ρ => match es with
  | [.sh (.py (.int j))] => if inRng j = true then some (.ok (intsD 0 1 j.toNat) ρ) else none
  | _ => none
def rng2 (es : List Ent) : M (List PyData) := fun ρ => match es with
  | [.sh (.py (.int i)), .sh (.py (.int j))] => if (inRng i && inRng j) = true then some (.ok (intsD i 1 (j - i).toNat) ρ) else none
  | _ => none
def rng3 (es : List Ent) : M (List PyData) := fun ρ => match es with
  | [.sh (.py (.int i)), .sh (.py (.int j)), .sh (.py (.int (-1)))] => if (inRng i && inRng j) = true then some (.ok (intsD i (-1) (i - j).toNat) ρ) else none
  | _ => none
theorem inRng_ok {i : Int} (h : inRng i = true) : -(2 ^ 62) ≤ i ∧ i < 2 ^ 62 := by
  unfold inRng at h
  have := of_decide_eq_true h
  omega
theorem di_range1 (hg : Gl X "range") (hm : X.mg "range" = none) (ha : DA X c W [a] m) (hs : starEach [a] X.env = [(false, eval a X.env)] := by rfl) : DI X c W tg (.Call (.Name "range" p) [a] [] pos) (bnd m rng1) := pi_weak (pi_range1 hg hm ha hs) fun σ H R h => by
  obtain ⟨G, ρ, env, h⟩ := h
  refine ⟨G, ρ, env, wpM_mono (wpM_bnd.mp h) (fun es ρ1 h1 vs G1 H1 s1 e1 => ?_) fun _ _ x => x⟩
  unfold rng1 at h1
  split at h1
  · rename_i j
    split at h1
    · rename_i hj
      obtain ⟨v, rfl, hv⟩ := e1.one
      simp only [EntOk, RpD, Rp] at hv
      subst hv
      obtain ⟨h2, h3⟩ := inRng_ok hj
      exact ⟨j, rfl, h2, h3, h1 _ G1 H1 s1 walk_rng⟩
    · exact h1.elim
  · exact h1.elim
theorem di_range2 (hg : Gl X "range") (hm : X.mg "range" = none) (ha : DA X c W [a, b] m) (hs : starEach [a, b] X.env = [(false, eval a X.env), (false, eval b X.env)] := by rfl) (hs2 : starEach [b] X.env = [(false, eval b X.env)] := by rfl) : DI X c W tg (.Call (.Name "range" p) [a, b] [] pos) (bnd m rng2) := pi_weak (pi_range2 hg hm ha hs hs2) fun σ H R h => by
  obtain ⟨G, ρ, env, h⟩ := h
  refine ⟨G, ρ, env, wpM_mono (wpM_bnd.mp h) (fun es ρ1 h1 vs G1 H1 s1 e1 => ?_) fun _ _ x => x⟩
  unfold rng2 at h1
  split at h1
  · rename_i i j
    split at h1
    · rename_i hj
      obtain ⟨hi, hj⟩ := Bool.and_eq_true_iff.mp hj
      obtain ⟨v, u, rfl, hv, hu⟩ := e1.two
      simp only [EntOk, RpD, Rp] at hv hu
      subst hv hu
      obtain ⟨h2, h3⟩ := inRng_ok hi
      obtain ⟨h4, h5⟩ := inRng_ok hj
      exact ⟨i, j, rfl, ⟨h2, h3, h4, h5⟩, h1 _ G1 H1 s1 walk_rng⟩
    · exact h1.elim
  · exact h1.elim
theorem di_range3 (hg : Gl X "range") (hm : X.mg "range" = none) (ha : DA X c W [a, b, d] m) (hs : starEach [a, b, d] X.env = (false, eval a X.env) :: starEach [b, d] X.env := by rfl) (hpl : (backTo pos (starEach [b, d] X.env)).any (·.1) = false := by rfl) : DI X c W tg (.Call (.Name "range" p) [a, b, d] [] pos) (bnd m rng3) := pi_weak (pi_range3 hg hm ha hs hpl) fun σ H R h => by
  obtain ⟨G, ρ, env, h⟩ := h
  refine ⟨G, ρ, env, wpM_mono (wpM_bnd.mp h) (fun es ρ1 h1 vs G1 H1 s1 e1 => ?_) fun _ _ x => x⟩
  unfold rng3 at h1
  split at h1
  · rename_i i j
    split at h1
    · rename_i hj
      obtain ⟨hi, hj⟩ := Bool.and_eq_true_iff.mp hj
      cases e1 with
      | cons hv _ e1 =>
        obtain ⟨u, w, rfl, hu, hw⟩ := e1.two
        simp only [EntOk, RpD, Rp] at hv hu hw
        subst hv hu hw
        obtain ⟨h2, h3⟩ := inRng_ok hi
        obtain ⟨h4, h5⟩ := inRng_ok hj
        exact ⟨i, j, -1, _, rfl, RgC.neg h2 h3 h4 h5, h1 _ G1 H1 s1 walk_rngC⟩
    · exact h1.elim
  · exact h1.elim
/-! ### zip, enumerate -/
def pairs (xs ys : List PyData) : List PyData := List.zipWith (fun x y => .tuple [x, y]) xs ys
theorem walk_zip {G0 : Hp} {a b : Addr} {vs ws : List V} {xs ys : List PyData} (h : G0 a = some (.lst vs)) (r : RpL K G0 vs xs) (h' : G0 b = some (.lst ws)) (r' : RpL K G0 ws ys) : WalkOk K (Itz K a b) G0 (pairs xs ys) := by
  intro G H sg le
  have hq : SqL K H a vs := SqL.of (le _ _ (sg _ _ h))
  have hq' : SqL K H b ws := SqL.of (le _ _ (sg _ _ h'))
  have hl := r.length
  have hl' := r'.length
  have hp : (pairs xs ys).length = min xs.length ys.length := by simp [pairs]
  refine ⟨fun k hk => ⟨vs, ws, vs[k]'(by omega), ws[k]'(by omega), hq, hq', List.getElem?_eq_getElem (by omega), List.getElem?_eq_getElem (by omega)⟩, ⟨vs, ws, hq, hq', by omega⟩, fun k x H' hk y => ?_⟩
  obtain ⟨T, u, w, rfl, nT, rfl, y1, y2⟩ := y
  obtain ⟨d, hd, rd⟩ := r.getV (y1 vs hq)
  obtain ⟨e, he, re⟩ := r'.getV (y2 ws hq')
  refine ⟨.tuple [d, e], by simp [pairs, List.getElem?_zipWith, hd, he], upd G T (.tup [u, w]), .inr ⟨T, _, nT, rfl, rfl⟩, ?_⟩
  have sG : Same G (upd G T (.tup [u, w])) := same_up (Same.free le nT)
  simp only [Rp]
  refine ⟨T, [u, w], rfl, upd_same, ?_⟩
  simp only [RpL]
  exact ⟨(rd.mono sg).mono sG, (re.mono sg).mono sG, trivial⟩
def zipE (es : List Ent) : M (List PyData) := fun ρ => match es with
  | [.sh (.py (.list xs)), .sh (.py (.list ys))] => some (.ok (pairs xs ys) ρ)
  | _ => none
theorem di_zip {elts : List Expr} {kk : Nat} {tpos : Pos} (hg : Gl X "zip") (hm : X.mg "zip" = none) (ha : DA X c W [a, b] m) (hs : starEach [a, b] X.env = (false, eval a X.env) :: starEach [b] X.env := by rfl) (hpl : (backTo pos (starEach [b] X.env)).any (·.1) = false := by rfl) :
    DI X c W (.Tuple elts kk tpos) (.Call (.Name "zip" p) [a, b] [] pos) (bnd m zipE) := pi_weak (pi_zip hg hm ha hs hpl) fun σ H R h => by
  obtain ⟨G, ρ, env, h⟩ := h
  refine ⟨G, ρ, env, wpM_mono (wpM_bnd.mp h) (fun es ρ1 h1 vs G1 H1 s1 e1 => ?_) fun _ _ x => x⟩
  unfold zipE at h1
  split at h1
  · rename_i xs ys
    obtain ⟨v, u, rfl, hv, hu⟩ := e1.two
    simp only [EntOk, RpD, Rp] at hv hu
    obtain ⟨a, vs, rfl, ha, ra⟩ := hv
    obtain ⟨b, ws, rfl, hb, rb⟩ := hu
    exact ⟨a, b, vs, ws, rfl, SqL.of (s1.env.le _ _ ha), SqL.of (s1.env.le _ _ hb), h1 _ G1 H1 s1 (walk_zip ha ra hb rb)⟩
  · exact h1.elim
def enumD (xs : List PyData) : List PyData := xs.mapIdx fun i x => .tuple [.int (i : Nat), x]
theorem walk_enum {G0 : Hp} {a : Addr} {vs : List V} {xs : List PyData} (h : G0 a = some (.lst vs)) (r : RpL K G0 vs xs) : WalkOk K (Ite K a) G0 (enumD xs) := by
  intro G H sg le
  have hq : SqL K H a vs := SqL.of (le _ _ (sg _ _ h))
  have hl := r.length
  have hp : (enumD xs).length = xs.length := by simp [enumD]
  refine ⟨fun k hk => ⟨vs, vs[k]'(by omega), hq, List.getElem?_eq_getElem (by omega)⟩, ⟨vs, hq, by omega⟩, fun k x H' hk y => ?_⟩
  obtain ⟨T, u, rfl, nT, rfl, y1⟩ := y
  obtain ⟨d, hd, rd⟩ := r.getV (y1 vs hq)
  refine ⟨.tuple [.int (k : Nat), d], by simp [enumD, List.getElem?_mapIdx, hd], upd G T (.tup [.int (k : Nat), u]), .inr ⟨T, _, nT, rfl, rfl⟩, ?_⟩
  have sG : Same G (upd G T (.tup [.int (k : Nat), u])) := same_up (Same.free le nT)
  simp only [Rp]
  refine ⟨T, [.int (k : Nat), u], rfl, upd_same, ?_⟩
  simp only [RpL, Rp]
  exact ⟨trivial, (rd.mono sg).mono sG, trivial⟩
def enumE (es : List Ent) : M (List PyData) := fun ρ => match es with
  | [.sh (.py (.list xs))] => some (.ok (enumD xs) ρ)
  | _ => none
theorem di_enum {elts : List Expr} {kk : Nat} {tpos : Pos} (hg : Gl X "enumerate") (hm : X.mg "enumerate" = none) (ha : DA X c W [a] m) (hs : starEach [a] X.env = [(false, eval a X.env)] := by rfl) :
    DI X c W (.Tuple elts kk tpos) (.Call (.Name "enumerate" p) [a] [] pos) (bnd m enumE) := pi_weak (pi_enum hg hm ha hs) fun σ H R h => by
  obtain ⟨G, ρ, env, h⟩ := h
  refine ⟨G, ρ, env, wpM_mono (wpM_bnd.mp h) (fun es ρ1 h1 vs G1 H1 s1 e1 => ?_) fun _ _ x => x⟩
  unfold enumE at h1
  split at h1
  · rename_i xs
    obtain ⟨v, rfl, hv⟩ := e1.one
    simp only [EntOk, RpD, Rp] at hv
    obtain ⟨a, vs, rfl, ha, ra⟩ := hv
    exact ⟨a, vs, rfl, SqL.of (s1.env.le _ _ ha), h1 _ G1 H1 s1 (walk_enum ha ra)⟩
  · exact h1.elim

/-! ### for -/
def forGo (tg : Tgt) (body : S) : List PyData → S
  | [], ρ => some (.ok .nx ρ)
  | d :: ds, ρ => match tg d ρ with
    | none => none
    | some ρ1 => match body ρ1 with
      | none => none
      | some (.ok .nx ρ2) => forGo tg body ds ρ2
      | some (.ok .ct ρ2) => forGo tg body ds ρ2
      | some (.ok .bk ρ2) => some (.ok .nx ρ2)
      | some (.ok (.rt e) ρ2) => some (.ok (.rt e) ρ2)
      | some (.exc k ρ2) => some (.exc k ρ2)
def fFor (src : M (List PyData)) (tg : Tgt) (body : S) : S := bnd src fun its => forGo tg body its
theorem ds_for {iter : Expr} {body : List Stmt} {src : M (List PyData)} {vs : List Nat} {g : Tgt} {fb : S} (hp : PassesOwn (model X.prog X.w) X.A X.env X.xe) (hc : X.calm = true) (hi : DI X c W tg iter src) (hg : PG X tg (tDG X.K c vs g)) (hb : DSs X c W body fb)
    (hs : ∀ x, foldedSetIterable iter X.env x = pure x := by intro _; rfl) : DS X c W (.For tg iter body [] pos) (fFor src g fb) := ps_weak (ps_for hp hc hi hg hb hs) fun D σ H h => by
  obtain ⟨G, ρ, env, h⟩ := h
  refine ⟨G, ρ, env, wpM_mono (wpM_bnd.mp h) (fun its ρ1 h1 J G1 H1 s1 wk => ?_) fun _ _ x => x⟩
  refine ⟨fun i m σ' H' => m = its.length - i ∧ i ≤ its.length ∧ ∃ G' ρ', Stp X.K c G H σ ρ G' H' σ' ρ' ∧ Same G1 G' ∧ wpM (forGo g fb (its.drop i) ρ') (FD X.K c G H σ ρ D) (XD X.K c W G H σ ρ),
    ⟨_, rfl, Nat.zero_le _, G1, ρ1, s1, Same.refl _, by rw [List.drop_zero]; exact h1⟩, ?_⟩
  rintro i m σ2 H2 ⟨rfl, hi, G2, ρ2, s2, sg, w2⟩
  obtain ⟨k1, k2, k3⟩ := wk G2 H2 sg s2.env.le
  by_cases hlt : i < its.length
  · rw [List.drop_eq_getElem_cons hlt] at w2
    refine .inr ⟨k1 i hlt, fun σ' H' => (its.length - (i + 1) = its.length - (i + 1)) ∧ i + 1 ≤ its.length ∧ ∃ G' ρ', Stp X.K c G H σ ρ G' H' σ' ρ' ∧ Same G1 G' ∧ wpM (forGo g fb (its.drop (i + 1)) ρ') (FD X.K c G H σ ρ D) (XD X.K c W G H σ ρ), fun σ' H' w => ⟨_, by omega, w⟩, fun x H3 y => ?_⟩
    obtain ⟨d, hd, G3, hy, rd⟩ := k3 i x H3 hlt y
    rw [List.getElem?_eq_getElem hlt] at hd
    cases hd
    have s3 := yld_step s2.env hy
    unfold forGo at w2
    split at w2
    · exact w2.elim
    rename_i ρ3 e3
    refine ⟨G3, ρ2, _, s3.env, rd, ρ3, e3, fun G4 H4 σ4 s4 _ => ?_⟩
    have s := (s2.trans s3).trans s4
    refine ⟨G4, ρ3, s.env, ?_⟩
    have sg4 := (sg.trans s3.sh).trans s4.sh
    split at w2
    · exact w2.elim
    · rename_i ρ5 e5
      rw [e5]
      exact fun G5 H5 σ5 s5 => ⟨rfl, hlt, G5, ρ5, s.trans s5, sg4.trans s5.sh, w2⟩
    · rename_i ρ5 e5
      rw [e5]
      exact fun G5 H5 σ5 s5 => ⟨rfl, hlt, G5, ρ5, s.trans s5, sg4.trans s5.sh, w2⟩
    · rename_i ρ5 e5
      rw [e5]
      exact FD.back (f := .nx) w2 s
    · rename_i e ρ5 e5
      rw [e5]
      exact FD.back (f := .rt e) w2 s
    · rename_i k ρ5 e5
      rw [e5]
      exact XD.back w2 s
  · have e : i = its.length := by omega
    subst e
    rw [List.drop_length] at w2
    exact .inl ⟨k2, w2 G2 H2 σ2 s2⟩
/-! ### while -/
def fWhile (p : M Bool) (body : S) : Nat → S
  | 0 => fun _ => none
  | n + 1 => bnd p fun b => if b = true then bnd body fun fl => match fl with
      | .nx => fWhile p body n
      | .ct => fWhile p body n
      | .bk => ret .nx
      | .rt e => ret (.rt e)
    else ret .nx
theorem ds_while (n : Nat) {t : Expr} {body : List Stmt} {q : M Bool} {fb : S} (hp : PassesOwn (model X.prog X.w) X.A X.env X.xe) (hc : DT X c W t q) (hb : DSs X c W body fb) : DS X c W (.While t body [] pos) (fWhile q fb n) := ps_weak (ps_while hp hc hb) fun D σ H h => by
  obtain ⟨G, ρ, env, h⟩ := h
  refine ⟨fun m σ' H' => ∃ G' ρ', Stp X.K c G H σ ρ G' H' σ' ρ' ∧ wpM (fWhile q fb m ρ') (FD X.K c G H σ ρ D) (XD X.K c W G H σ ρ), ⟨n, G, ρ, .refl env, h⟩, ?_⟩
  rintro m σ1 H1 ⟨G1, ρ1, s1, w1⟩
  cases m with
  | zero => exact w1.elim
  | succ m =>
    refine ⟨G1, ρ1, s1.env, wpM_mono (wpM_bnd.mp w1) (fun b ρ2 h2 G2 H2 s2 => ?_) fun _ _ x => x.back s1⟩
    have s := s1.trans s2
    cases b with
    | false => exact h2 G2 H2 σ1 s
    | true =>
      refine ⟨fun σ' H' => ∃ G' ρ', Stp X.K c G H σ ρ G' H' σ' ρ' ∧ wpM (fWhile q fb m ρ') (FD X.K c G H σ ρ D) (XD X.K c W G H σ ρ), fun σ' H' w => ⟨m, Nat.lt_succ_self m, w⟩, G2, ρ2, s.env, wpM_mono (wpM_bnd.mp h2) (fun fl ρ3 h3 => ?_) fun _ _ x => x.back s⟩
      cases fl with
      | nx => exact fun G3 H3 σ3 s3 => ⟨G3, ρ3, s.trans s3, h3⟩
      | ct => exact fun G3 H3 σ3 s3 => ⟨G3, ρ3, s.trans s3, h3⟩
      | bk => exact FD.back (f := .nx) h3 s
      | rt e => exact FD.back (f := .rt e) h3 s
end
end VL

set_option linter.all false
set_option autoImplicit false
set_option maxRecDepth 100000
/-! The value layer, part 6: comprehensions. -/
namespace VL
open PySem L2

section
variable {X : Cx} {c : Nat → Addr} {W : WX} {K : PySem.W.Frag}
abbrev W0 : WX := fun _ _ _ _ => False
def wipeE (ρ : DEnv) : List Nat → DEnv
  | [] => ρ
  | v :: vs => (wipeE ρ vs).set v none
def putBack (ρ0 ρ : DEnv) : List Nat → DEnv
  | [] => ρ
  | v :: vs => (putBack ρ0 ρ vs).set v (match ρ0[v]? with | some o => o | none => none)
def noOwn (ρ : DEnv) (vs : List Nat) : Bool := vs.all fun i => match ρ[i]? with
  | some (some (.own _ _)) => false
  | _ => true
theorem wipe_get {σ : St} {j : Nat} : ∀ {vs : List Nat}, (wipe σ vs)[j]? = if j ∈ vs then (σ[j]?).map fun _ => none else σ[j]?
  | [] => by simp [wipe]
  | v :: vs => by
    simp only [wipe, List.mem_cons]
    by_cases e : v = j
    · subst e
      rw [List.getElem?_set_self', wipe_get (vs := vs)]
      simp only [true_or, if_true]
      split <;> cases σ[v]? <;> rfl
    · rw [List.getElem?_set_ne e, wipe_get (vs := vs)]
      simp only [show ¬ j = v from Ne.symm e, false_or]
theorem wipeE_get {ρ : DEnv} {j : Nat} : ∀ {vs : List Nat}, (wipeE ρ vs)[j]? = if j ∈ vs then (ρ[j]?).map fun _ => none else ρ[j]?
  | [] => by simp [wipeE]
  | v :: vs => by
    simp only [wipeE, List.mem_cons]
    by_cases e : v = j
    · subst e
      rw [List.getElem?_set_self', wipeE_get (vs := vs)]
      simp only [true_or, if_true]
      split <;> cases ρ[v]? <;> rfl
    · rw [List.getElem?_set_ne e, wipeE_get (vs := vs)]
      simp only [show ¬ j = v from Ne.symm e, false_or]
theorem wipeE_length (ρ : DEnv) : ∀ vs : List Nat, (wipeE ρ vs).length = ρ.length
  | [] => rfl
  | v :: vs => by rw [wipeE, List.length_set, wipeE_length ρ vs]
theorem putBack_length (ρ0 ρ : DEnv) : ∀ vs : List Nat, (putBack ρ0 ρ vs).length = ρ.length
  | [] => rfl
  | v :: vs => by rw [putBack, List.length_set, putBack_length ρ0 ρ vs]
theorem putBack_get {ρ0 ρ : DEnv} (hl : ρ0.length = ρ.length) {j : Nat} : ∀ {vs : List Nat}, (putBack ρ0 ρ vs)[j]? = if j ∈ vs then ρ0[j]? else ρ[j]?
  | [] => by simp [putBack]
  | v :: vs => by
    simp only [putBack, List.mem_cons]
    by_cases e : v = j
    · subst e
      rw [List.getElem?_set_self', putBack_get hl (vs := vs)]
      simp only [true_or, if_true]
      by_cases hv : v < ρ0.length
      · have h1 : ρ0[v]? = some ρ0[v] := List.getElem?_eq_getElem hv
        have h2 : ρ[v]? = some (ρ[v]'(by omega)) := List.getElem?_eq_getElem (by omega)
        by_cases q : v ∈ vs <;> simp [h1, h2, q]
      · have h1 : ρ0[v]? = none := List.getElem?_eq_none (by omega)
        have h2 : ρ[v]? = none := List.getElem?_eq_none (by omega)
        by_cases q : v ∈ vs <;> simp [h1, h2, q]
    · rw [List.getElem?_set_ne e, putBack_get hl (vs := vs)]
      simp only [show ¬ j = v from Ne.symm e, false_or]
theorem wipe_agree {ts vs : List Nat} {σ σ' : St} (a : Agree ts σ σ') (h : ∀ i ∈ ts, i ∈ vs) : wipe σ' vs = wipe σ vs := by
  refine List.ext_getElem? fun j => ?_
  rw [wipe_get, wipe_get]
  by_cases hj : j ∈ vs
  · rw [if_pos hj, if_pos hj]
    by_cases hl : j < σ.length
    · have h1 : σ[j]? = some σ[j] := List.getElem?_eq_getElem hl
      have h2 : σ'[j]? = some (σ'[j]'(by rw [a.1]; exact hl)) := List.getElem?_eq_getElem (by rw [a.1]; exact hl)
      rw [h1, h2]
      rfl
    · have h1 : σ[j]? = none := List.getElem?_eq_none (by omega)
      have h2 : σ'[j]? = none := List.getElem?_eq_none (by rw [a.1]; omega)
      rw [h1, h2]
  · rw [if_neg hj, if_neg hj]
    exact a.2 j fun z => hj (h j z)
theorem wipe_wipe {vs : List Nat} {σ : St} : wipe (wipe σ vs) vs = wipe σ vs := by
  refine List.ext_getElem? fun j => ?_
  rw [wipe_get, wipe_get]
  by_cases hj : j ∈ vs
  · rw [if_pos hj, if_pos hj]
    cases σ[j]? <;> rfl
  · rw [if_neg hj, if_neg hj]
/-- into the block: its own names forgotten -/
theorem Stp.wipe {G H G1 H1 : Hp} {σ σ1 : St} {ρ ρ1 : DEnv} {vs : List Nat} (s : Stp K c G H σ ρ G1 H1 σ1 ρ1) (no : ∀ (i : Nat) (p : PyData), i ∈ vs → ρ[i]? ≠ some (some (.own p true))) : Stp K c G H σ ρ G1 H1 (L2.wipe σ1 vs) (wipeE ρ1 vs) := by
  have e := s.env
  have sub : ∀ {j : Nat} {x : Ent}, (wipeE ρ1 vs)[j]? = some (some x) → ρ1[j]? = some (some x) ∧ j ∉ vs := fun {j x} h => by
    rw [wipeE_get] at h
    by_cases hj : j ∈ vs
    · rw [if_pos hj] at h
      cases q : ρ1[j]? <;> rw [q] at h <;> cases h
    · rw [if_neg hj] at h
      exact ⟨h, hj⟩
  have up : ∀ {j : Nat}, j ∉ vs → (L2.wipe σ1 vs)[j]? = σ1[j]? := fun {j} hj => by rw [wipe_get, if_neg hj]
  refine ⟨⟨e.le, by rw [wipeE_length, wipe_length]; exact e.len, fun j d h => ?_, fun j p b h => ?_, fun j k h => ?_, fun j k a p q b d hj hk ej ek => ?_⟩, s.sh, s.keep, fun p h => ?_, s.dom, fun j p h => ?_⟩
  · obtain ⟨h1, h2⟩ := sub h
    rw [up h2]
    exact e.sh j d h1
  · obtain ⟨h1, h2⟩ := sub h
    rw [up h2]
    exact e.own j p b h1
  · exact e.nol j k (sub h).1
  · obtain ⟨h1, h2⟩ := sub hj
    obtain ⟨h3, h4⟩ := sub hk
    rw [up h2] at ej
    rw [up h4] at ek
    exact e.inj j k a p q b d h1 h3 ej ek
  · obtain ⟨j, q, b, hj, ej⟩ := h
    obtain ⟨h1, h2⟩ := sub hj
    rw [up h2] at ej
    exact s.own p ⟨j, q, b, h1, ej⟩
  · have hj : j ∉ vs := fun z => no j p z h
    obtain ⟨⟨q, hq⟩, e1⟩ := s.pin j p h
    rw [up hj, wipeE_get, if_neg hj]
    exact ⟨⟨q, hq⟩, e1⟩
theorem noOwn_ok {ρ : DEnv} {vs : List Nat} (h : noOwn ρ vs = true) (i : Nat) (p : PyData) (b : Bool) (hi : i ∈ vs) : ρ[i]? ≠ some (some (.own p b)) := fun e => by
  have := (List.all_eq_true.mp h) i hi
  rw [e] at this
  cases this
/-- out of the block: the names as they were -/
theorem Stp.back {G H G1 H1 : Hp} {σ : St} {ρ ρ1 : DEnv} {vs : List Nat} (x : EnvOk K c G H σ ρ) (s : Stp K c G H σ ρ G1 H1 (L2.wipe σ vs) ρ1) (no : noOwn ρ vs = true) : Stp K c G H σ ρ G1 H1 σ (putBack ρ ρ1 vs) := by
  have e := s.env
  have hl : ρ.length = ρ1.length := by rw [x.len, e.len, wipe_length]
  have sub : ∀ {j : Nat} {y : Ent}, (putBack ρ ρ1 vs)[j]? = some (some y) → (j ∈ vs ∧ ρ[j]? = some (some y)) ∨ (j ∉ vs ∧ ρ1[j]? = some (some y)) := fun {j y} h => by
    rw [putBack_get hl] at h
    by_cases hj : j ∈ vs
    · rw [if_pos hj] at h
      exact .inl ⟨hj, h⟩
    · rw [if_neg hj] at h
      exact .inr ⟨hj, h⟩
  have up : ∀ {j : Nat}, j ∉ vs → (L2.wipe σ vs)[j]? = σ[j]? := fun {j} hj => by rw [wipe_get, if_neg hj]
  have own : ∀ {j : Nat} {p : PyData} {b : Bool}, (putBack ρ ρ1 vs)[j]? = some (some (.own p b)) → j ∉ vs ∧ ρ1[j]? = some (some (.own p b)) := fun {j p b} h => by
    rcases sub h with ⟨h1, h2⟩ | ⟨h1, h2⟩
    · exact (noOwn_ok no j p b h1 h2).elim
    · exact ⟨h1, h2⟩
  refine ⟨⟨e.le, by rw [putBack_length, ← hl]; exact x.len, fun j d h => ?_, fun j p b h => ?_, fun j k h => ?_, fun j k a p q b d hj hk ej ek => ?_⟩, s.sh, s.keep, fun p h => ?_, s.dom, fun j p h => ?_⟩
  · rcases sub h with ⟨h1, h2⟩ | ⟨h1, h2⟩
    · obtain ⟨w, ew, r⟩ := x.sh j d h2
      exact ⟨w, ew, r.mono s.sh⟩
    · obtain ⟨w, ew, r⟩ := e.sh j d h2
      rw [up h1] at ew
      exact ⟨w, ew, r⟩
  · obtain ⟨h1, h2⟩ := own h
    obtain ⟨w, ew, r⟩ := e.own j p b h2
    rw [up h1] at ew
    exact ⟨w, ew, r⟩
  · rcases sub h with ⟨h1, h2⟩ | ⟨h1, h2⟩
    · exact x.nol j k h2
    · exact e.nol j k h2
  · obtain ⟨h1, h2⟩ := own hj
    obtain ⟨h3, h4⟩ := own hk
    rw [← up h1] at ej
    rw [← up h3] at ek
    exact e.inj j k a p q b d h2 h4 ej ek
  · obtain ⟨j, q, b, hj, ej⟩ := h
    obtain ⟨h1, h2⟩ := own hj
    rw [← up h1] at ej
    exact s.own p ⟨j, q, b, h2, ej⟩
  · have hj : j ∉ vs := fun z => noOwn_ok no j p true z h
    obtain ⟨⟨q, hq⟩, e1⟩ := s.pin j p h
    rw [putBack_get hl, if_neg hj]
    exact ⟨⟨q, hq⟩, rfl⟩
/-- something apart is changed -/
theorem Stp.poke {G H G1 H1 : Hp} {σ σ1 : St} {ρ ρ1 : DEnv} {a : Addr} {o : HO} (s : Stp K c G H σ ρ G1 H1 σ1 ρ1) (h0 : H a = none) (h1 : G1 a = none) (h2 : ¬ Ow σ1 ρ1 a) (h3 : ∃ u, H1 a = some u) : Stp K c G H σ ρ G1 (upd H1 a o) σ1 ρ1 := by
  have e := s.env
  refine ⟨⟨sameUp e.le h1, e.len, e.sh, fun j p b h => ?_, e.nol, e.inj⟩, s.sh, fun q u k1 k2 k3 => ?_, s.own, fun q h => ?_, s.pin⟩
  · obtain ⟨w, ew, k1, k2⟩ := e.own j p b h
    exact ⟨w, ew, k1, k2.mono (Same.refl _) (upd_ne fun z => h2 ⟨j, p, b, h, by rw [← z]; exact ew⟩)⟩
  · rw [upd_ne fun z => by rw [z, h0] at k1; cases k1]
    exact s.keep q u k1 k2 k3
  · by_cases z : q = a
    · subst z
      exact h0
    · rw [upd_ne z] at h
      exact s.dom q h

def compGo (tg : Tgt) (tt : M Bool) (te : M Ent) (vs : List Nat) : List PyData → List PyData → DEnv → Option (List PyData × DEnv)
  | [], acc, ρ => some (acc, ρ)
  | d :: ds, acc, ρ => match tg d ρ with
    | none => none
    | some ρ1 => match tt ρ1 with
      | some (.ok true ρ2) => match fSh te ρ2 with
        | some (.ok (.sh (.py p)) ρ3) => compGo tg tt te vs ds (acc ++ [p]) (wipeE ρ3 vs)
        | _ => none
      | some (.ok false ρ2) => compGo tg tt te vs ds acc (wipeE ρ2 vs)
      | _ => none
def compE (tg : Tgt) (tt : M Bool) (te : M Ent) (vs : List Nat) (its : List PyData) : M Ent := fun ρ =>
  if its.length ≤ big ∧ noOwn ρ vs = true then match compGo tg tt te vs its [] (wipeE ρ vs) with
    | some (acc, ρ') => some (.ok (.own (.list acc) false) (putBack ρ ρ' vs))
    | none => none
  else none
def fComp (src : M (List PyData)) (tg : Tgt) (tt : M Bool) (te : M Ent) (vs : List Nat) : M Ent := bnd src (compE tg tt te vs)
abbrev DTs (X : Cx) (c : Nat → Addr) (es : List Expr) (f : M Bool) : Prop := PTs X es (tDT X.K c W0 f)
theorem dts_nil : DTs X c [] (ret true) := ⟨fun pins s σ H Q I h => pts_nil.run pins s σ H Q I (by
  obtain ⟨G, ρ, env, h⟩ := h
  exact h G H (.refl env))⟩
theorem dts_one {e : Expr} {f : M Bool} (h : DT X c W0 e f) : DTs X c [e] f := pts_one h
theorem w_comp {src : M (List PyData)} {tg : Tgt} {tt : M Bool} {te : M Ent} {vs ts : List Nat} (hts : ∀ i ∈ ts, i ∈ vs) (σ : St) (H : Hp) (Q : VK) (h : tD X.K c W (fComp src tg tt te vs) σ H Q) :
    tLc (tDI X.K c W src) (tDG X.K c ts tg) (tDT X.K c W0 tt) (tD X.K c W0 (fSh te)) vs σ H Q := by
  obtain ⟨G, ρ, env, h⟩ := h
  refine ⟨G, ρ, env, wpM_mono (wpM_bnd.mp h) (fun its ρ1 h1 J G1 H1 s1 wk => ?_) fun _ _ x => x⟩
  unfold compE at h1
  split at h1
  rotate_left
  · exact h1.elim
  rename_i hc
  obtain ⟨hlen, hno⟩ := hc
  split at h1
  rotate_left
  · exact h1.elim
  rename_i accF ρF eF
  intro D nD
  have env1 := s1.env
  have dead : H D = none := s1.dom D nD
  have s0 : Stp X.K c G1 H1 σ ρ1 G1 (upd H1 D (.lst [])) (wipe σ vs) (wipeE ρ1 vs) := (Stp.newOwn (o := .lst []) env1 nD).wipe fun i p hi => noOwn_ok hno i p true hi
  refine ⟨fun i m H' => m = its.length - i ∧ i ≤ its.length ∧ ∃ G' ρ' acc, Stp X.K c G1 H1 σ ρ1 G' H' (wipe σ vs) ρ' ∧ EntOk X.K c G' H' (wipe σ vs) ρ' (.ref D) (.own (.list acc) false) ∧ acc.length ≤ i ∧ compGo tg tt te vs (its.drop i) acc ρ' = some (accF, ρF),
    ⟨_, rfl, Nat.zero_le _, G1, wipeE ρ1 vs, [], s0, ⟨D, rfl, env1.le.free nD, ⟨[], upd_same, by simp only [RpL]⟩, fun o => ?_⟩, Nat.le_refl _, by rw [List.drop_zero]; exact eF⟩, ?_⟩
  · obtain ⟨u, hu⟩ := o.at (Stp.wipe (vs := vs) (Stp.refl env1) fun i p hi => noOwn_ok hno i p true hi).env
    rw [nD] at hu
    cases hu
  rintro i m H2 ⟨rfl, hi, G2, ρ2, acc, s2, eD, hacc, w2⟩
  obtain ⟨k1, k2, k3⟩ := wk G2 H2 s2.sh s2.env.le
  by_cases hlt : i < its.length
  · rw [List.drop_eq_getElem_cons hlt] at w2
    refine .inr ⟨k1 i hlt, fun H' => (its.length - (i + 1) = its.length - (i + 1)) ∧ i + 1 ≤ its.length ∧ ∃ G' ρ' acc, Stp X.K c G1 H1 σ ρ1 G' H' (wipe σ vs) ρ' ∧ EntOk X.K c G' H' (wipe σ vs) ρ' (.ref D) (.own (.list acc) false) ∧ acc.length ≤ i + 1 ∧ compGo tg tt te vs (its.drop (i + 1)) acc ρ' = some (accF, ρF), fun H' w => ⟨_, by omega, w⟩, fun x H3 y => ?_⟩
    obtain ⟨d, hd, G3, hy, rd⟩ := k3 i x H3 hlt y
    rw [List.getElem?_eq_getElem hlt] at hd
    cases hd
    have s3 := yld_step s2.env hy
    unfold compGo at w2
    split at w2
    · cases w2
    rename_i ρ3 e3
    refine ⟨G3, ρ2, _, s3.env, rd, ρ3, e3, fun G4 H4 σ4 s4 ag => ⟨?_, ?_⟩⟩
    · rw [wipe_agree ag hts, wipe_wipe]
    have wip : wipe σ4 vs = wipe σ vs := by rw [wipe_agree ag hts, wipe_wipe]
    have s14 := (s2.trans s3).trans s4
    have eD4 := (eD.pres s3).pres s4
    have pinno : ∀ (i : Nat) (p : PyData), i ∈ vs → ρ1[i]? ≠ some (some (.own p true)) := fun i p hi => noOwn_ok hno i p true hi
    split at w2
    · -- kept
      rename_i ρ4 e4
      refine ⟨G4, ρ3, s4.env, ?_⟩
      rw [e4]
      intro G5 H5 s5
      refine ⟨G5, ρ4, s5.env, ?_⟩
      split at w2
      · rename_i p ρ6 e6
        rw [e6]
        intro v G6 H6 s6 ev _
        have s16 := (s14.trans s5).trans s6
        have eD6 := (eD4.pres s5).pres s6
        obtain ⟨D', eD', g6, ⟨vacc, hv, rv⟩, no6⟩ := eD6
        cases eD'
        have hz : acc.length < big := by omega
        simp only [EntOk, RpD] at ev
        refine ⟨vacc, hv, small_big' (by rw [rv.length]; exact hz), rfl, hlt, G6, wipeE ρ6 vs, acc ++ [p], ?_, ?_, by rw [List.length_append, List.length_singleton]; omega, w2⟩
        · rw [← wip]
          exact (s16.poke nD g6 no6 ⟨_, hv⟩).wipe pinno
        · refine ⟨D, rfl, g6, ⟨_, upd_same, rv.append (.one ev)⟩, fun o => no6 ?_⟩
          rw [← wip] at o
          obtain ⟨j, q, b, hj, ej⟩ := o
          rw [wipeE_get] at hj
          by_cases hjv : j ∈ vs
          · rw [if_pos hjv] at hj
            cases q' : ρ6[j]? <;> rw [q'] at hj <;> cases hj
          · rw [if_neg hjv] at hj
            rw [wipe_get, if_neg hjv] at ej
            exact ⟨j, q, b, hj, ej⟩
      · cases w2
    · -- left out
      rename_i ρ4 e4
      refine ⟨G4, ρ3, s4.env, ?_⟩
      rw [e4]
      intro G5 H5 s5
      have s15 := s14.trans s5
      obtain ⟨D', eD', g5, o5, no5⟩ := eD4.pres s5
      cases eD'
      refine ⟨rfl, hlt, G5, wipeE ρ4 vs, acc, ?_, ?_, by omega, w2⟩
      · rw [← wip]
        exact s15.wipe pinno
      · refine ⟨D, rfl, g5, o5, fun o => no5 ?_⟩
        rw [← wip] at o
        obtain ⟨j, q, b, hj, ej⟩ := o
        rw [wipeE_get] at hj
        by_cases hjv : j ∈ vs
        · rw [if_pos hjv] at hj
          cases q' : ρ4[j]? <;> rw [q'] at hj <;> cases hj
        · rw [if_neg hjv] at hj
          rw [wipe_get, if_neg hjv] at ej
          exact ⟨j, q, b, hj, ej⟩
    · cases w2
  · have e : i = its.length := by omega
    subst e
    rw [List.drop_length] at w2
    cases w2
    refine .inl ⟨k2, ?_⟩
    have sb := Stp.back env1 s2 hno
    obtain ⟨D', eD', g2, o2, no2⟩ := eD
    cases eD'
    refine h1 (.ref D) G2 H2 (s1.trans sb) ⟨D, rfl, g2, o2, fun o => ?_⟩ fun a ea => ?_
    · · obtain ⟨j, q, b, hj, ej⟩ := o
        have hl : ρ1.length = ρF.length := by rw [env1.len, s2.env.len, wipe_length]
        rw [putBack_get hl] at hj
        by_cases hjv : j ∈ vs
        · rw [if_pos hjv] at hj
          exact noOwn_ok hno j q b hjv hj
        · rw [if_neg hjv] at hj
          exact no2 ⟨j, q, b, hj, by rw [wipe_get, if_neg hjv]; exact ej⟩
    · cases ea
      exact dead
variable {elt tg iter : Expr} {ifs : List Expr} {scope : Scope} {own : List (Str × Nat)} {pos spos : Pos} {src : M (List PyData)} {g : Tgt} {tt : M Bool} {te : M Ent} {ts : List Nat}
theorem de_comp (own : List (Str × Nat)) (hc : X.calm = true) (hN : X.N.Nodup) (hi : DI X c W tg iter src) (ok : BlkOk X.N X.env.scope scope own) (hts : ∀ i ∈ ts, i ∈ own.map (·.2))
    (hg : ∀ (s : Shared) (H : Hp) (C : Addr) (cl : List (Str × Addr)) (fp : List Addr), PG (X.blk s H scope (compEnvC scope cl C X.env) fp) tg (tDG X.K c ts g)) (ht : ∀ (s : Shared) (H : Hp) (C : Addr) (cl : List (Str × Addr)) (fp : List Addr), PTs (X.blk s H scope (compEnvC scope cl C X.env) fp) ifs (tDT X.K c W0 tt))
    (he : ∀ (s : Shared) (H : Hp) (C : Addr) (cl : List (Str × Addr)) (fp : List Addr), PE (X.blk s H scope (compEnvC scope cl C X.env) fp) elt (tD X.K c W0 te)) (hs : ∀ x, foldedSetIterable iter X.env x = pure x := by intro _; rfl) :
    DE X c W (.ListComp elt [⟨tg, iter, ifs, 0⟩] scope pos) (fComp src g tt te (own.map (·.2))) :=
  pe_weak (pe_lc hc hN hi ok hg ht (fun s H C cl fp => de_sh (he s H C cl fp)) hs) (w_comp hts)
theorem ds_setComp (i : Nat) (own : List (Str × Nat)) {y : Str} {ppy : Pos} (hc : X.calm = true) (hN : X.N.Nodup) (hy : X.N[i]? = some y) (hyl : X.env.scope.names.lookup y = some .local) (hsw : swapsWith (.ListComp elt [⟨tg, iter, ifs, 0⟩] scope pos) (some (.Name y ppy)) spos.line X.env = pure true) (hi : DI X c W tg iter src) (ok : BlkOk X.N X.env.scope scope own) (hts : ∀ i ∈ ts, i ∈ own.map (·.2))
    (hg : ∀ (s : Shared) (H : Hp) (C : Addr) (cl : List (Str × Addr)) (fp : List Addr), PG (X.blk s H scope (compEnvC scope cl C X.env) fp) tg (tDG X.K c ts g)) (ht : ∀ (s : Shared) (H : Hp) (C : Addr) (cl : List (Str × Addr)) (fp : List Addr), PTs (X.blk s H scope (compEnvC scope cl C X.env) fp) ifs (tDT X.K c W0 tt))
    (he : ∀ (s : Shared) (H : Hp) (C : Addr) (cl : List (Str × Addr)) (fp : List Addr), PE (X.blk s H scope (compEnvC scope cl C X.env) fp) elt (tD X.K c W0 te)) (hs : ∀ x, foldedSetIterable iter X.env x = pure x := by intro _; rfl) :
    DS X c W (.Assign [.Name y ppy] (.ListComp elt [⟨tg, iter, ifs, 0⟩] scope pos) spos) (fSet i (fComp src g tt te (own.map (·.2)))) :=
  ps_weak (ps_setLc hc hN hy hyl hsw hi ok hg ht (fun s H C cl fp => de_sh (he s H C cl fp)) hs) fun D σ H h => w_comp hts σ H _ (w_set D σ H h)
theorem ds_setCompSh (i : Nat) (own : List (Str × Nat)) {y : Str} {ppy : Pos} (hc : X.calm = true) (hN : X.N.Nodup) (hy : X.N[i]? = some y) (hyl : X.env.scope.names.lookup y = some .local) (hsw : swapsWith (.ListComp elt [⟨tg, iter, ifs, 0⟩] scope pos) (some (.Name y ppy)) spos.line X.env = pure true) (hi : DI X c W tg iter src) (ok : BlkOk X.N X.env.scope scope own) (hts : ∀ i ∈ ts, i ∈ own.map (·.2))
    (hg : ∀ (s : Shared) (H : Hp) (C : Addr) (cl : List (Str × Addr)) (fp : List Addr), PG (X.blk s H scope (compEnvC scope cl C X.env) fp) tg (tDG X.K c ts g)) (ht : ∀ (s : Shared) (H : Hp) (C : Addr) (cl : List (Str × Addr)) (fp : List Addr), PTs (X.blk s H scope (compEnvC scope cl C X.env) fp) ifs (tDT X.K c W0 tt))
    (he : ∀ (s : Shared) (H : Hp) (C : Addr) (cl : List (Str × Addr)) (fp : List Addr), PE (X.blk s H scope (compEnvC scope cl C X.env) fp) elt (tD X.K c W0 te)) (hs : ∀ x, foldedSetIterable iter X.env x = pure x := by intro _; rfl) :
    DS X c W (.Assign [.Name y ppy] (.ListComp elt [⟨tg, iter, ifs, 0⟩] scope pos) spos) (fSet i (fSh (fComp src g tt te (own.map (·.2))))) :=
  ps_weak (ps_setLc hc hN hy hyl hsw hi ok hg ht (fun s H C cl fp => de_sh (he s H C cl fp)) hs) fun D σ H h => w_comp hts σ H _ (w_sh σ H _ (w_set D σ H h))
end
end VL

set_option linter.all false
set_option autoImplicit false
set_option maxRecDepth 100000
/-! The value layer, part 7: defs and their calls. -/
namespace VL
open PySem L2 PySem.Spec PyProof.Rows

/-- what a def yields: a value, the data of the argument that it changes; or an exception -/
inductive FR where
  | ok (r : Ent) (o : PyData)
  | exc (k : Nat) (o : PyData)
abbrev Fn := List D → Option FR
def slotO : D → Ent
  | .py p => .own p true
  | d => .sh d
/-- the arguments as an environment; io: the place of the one that is changed -/
def argE : Option Nat → List D → DEnv
  | _, [] => []
  | some 0, d :: ds => some (slotO d) :: argE none ds
  | some (n + 1), d :: ds => some (.sh d) :: argE (some n) ds
  | none, d :: ds => some (.sh d) :: argE none ds
def outD (io : Option Nat) (ds : List D) (o : PyData) : List D := match io with
  | some i => ds.set i (.py o)
  | none => ds
theorem argE_get : ∀ {io : Option Nat} {ds : List D} {i : Nat}, (argE io ds)[i]? = (ds[i]?).map fun d => some (if io = some i then slotO d else .sh d)
  | _, [], i => by cases i <;> simp [argE]
  | some 0, d :: ds, 0 => by simp [argE]
  | some 0, d :: ds, i + 1 => by simp [argE, argE_get]
  | some (n + 1), d :: ds, 0 => by simp [argE]
  | some (n + 1), d :: ds, i + 1 => by simp [argE, argE_get]
  | none, d :: ds, 0 => by simp [argE]
  | none, d :: ds, i + 1 => by simp [argE, argE_get]
theorem argE_length : ∀ {io : Option Nat} {ds : List D}, (argE io ds).length = ds.length
  | _, [] => by simp [argE]
  | some 0, d :: ds => by simp [argE, argE_length]
  | some (n + 1), d :: ds => by simp [argE, argE_length]
  | none, d :: ds => by simp [argE, argE_length]
theorem argE_sh {io : Option Nat} {ds : List D} {i : Nat} {d : D} (h : (argE io ds)[i]? = some (some (.sh d))) : ds[i]? = some d ∧ (io = some i → ∀ p, d ≠ .py p) := by
  rw [argE_get] at h
  obtain ⟨d', h1, h2⟩ := Option.map_eq_some_iff.mp h
  by_cases e : io = some i
  · rw [if_pos e] at h2
    cases d' with
    | py p => cases h2
    | ins k fs => cases h2; exact ⟨h1, fun _ p z => nomatch z⟩
    | scr ns => cases h2; exact ⟨h1, fun _ p z => nomatch z⟩
    | ty n => cases h2; exact ⟨h1, fun _ p z => nomatch z⟩
  · rw [if_neg e] at h2
    cases h2
    exact ⟨h1, fun z => absurd z e⟩
theorem argE_own {io : Option Nat} {ds : List D} {i : Nat} {p : PyData} {b : Bool} (h : (argE io ds)[i]? = some (some (.own p b))) : io = some i ∧ b = true ∧ ds[i]? = some (.py p) := by
  rw [argE_get] at h
  obtain ⟨d', h1, h2⟩ := Option.map_eq_some_iff.mp h
  by_cases e : io = some i
  · rw [if_pos e] at h2
    cases d' with
    | py q => cases h2; exact ⟨e, rfl, h1⟩
    | ins k fs => cases h2
    | scr ns => cases h2
    | ty n => cases h2
  · rw [if_neg e] at h2
    cases h2
theorem argE_nol {io : Option Nat} {ds : List D} {i j : Nat} : (argE io ds)[i]? ≠ some (some (.lnk j)) := fun h => by
  rw [argE_get] at h
  obtain ⟨d', h1, h2⟩ := Option.map_eq_some_iff.mp h
  by_cases e : io = some i
  · rw [if_pos e] at h2
    cases d' <;> cases h2
  · rw [if_neg e] at h2
    cases h2
/-- the promise of a def -/
def spF (K : PySem.W.Frag) (c : Nat → Addr) (n : Nat) (io : Option Nat) (fn : Fn) : Sp := fun vs H Q E => ∃ G ds, ds.length = n ∧ (∀ i, io = some i → ∃ p, ds[i]? = some (.py p)) ∧ EnvOk K c G H (vs.map some) (argE io ds) ∧ match fn ds with
  | none => False
  | some (.ok r o) => ∀ v G' H', Stp K c G H (vs.map some) (argE io ds) G' H' (vs.map some) (argE io (outD io ds o)) → EntOk K c G' H' (vs.map some) (argE io (outD io ds o)) v r → Frs H v r → Q v H'
  | some (.exc k o) => ∀ G' H', Stp K c G H (vs.map some) (argE io ds) G' H' (vs.map some) (argE io (outD io ds o)) → E (.ref (c k)) none H'
theorem spF_len {K : PySem.W.Frag} {c : Nat → Addr} {n : Nat} {io : Option Nat} {fn : Fn} {vs : List V} {H : Hp} {Q : VK} {E : XK} (h : spF K c n io fn vs H Q E) : vs.length = n := by
  obtain ⟨G, ds, hl, _, env, _⟩ := h
  have := env.len
  rw [argE_length, List.length_map, hl] at this
  exact this.symm
def outOf (io : Option Nat) (ρ : DEnv) : Option PyData := match io with
  | none => some .none
  | some i => match ρ[i]? with
    | some (some (.own p true)) => some p
    | _ => none
def resE (ρ : DEnv) : Ent → Option Ent
  | .sh d => some (.sh d)
  | .own p _ => some (.own p false)
  | .lnk i => match ρ[i]? with
    | some (some (.own p false)) => some (.own p false)
    | _ => none
/-- a def, by its body -/
def fnOf (n : Nat) (io : Option Nat) (body : S) : Fn := fun ds => match body (argE io ds ++ List.replicate (n - ds.length) none) with
  | some (.ok .nx ρ) => match outOf io ρ with
    | some o => some (.ok (py .none) o)
    | none => none
  | some (.ok (.rt e) ρ) => match outOf io ρ, resE ρ e with
    | some o, some r => some (.ok r o)
    | _, _ => none
  | some (.exc k ρ) => match outOf io ρ with
    | some o => some (.exc k o)
    | none => none
  | _ => none
section
variable {K : PySem.W.Frag} {c : Nat → Addr}
theorem start_get {N : List Str} {vs : List V} {i : Nat} (h : i < vs.length) : (L2.start N vs)[i]? = (vs.map some)[i]? := by
  unfold L2.start
  rw [List.getElem?_append_left (by rw [List.length_map]; exact h)]
theorem env_in {G H : Hp} {vs : List V} {io : Option Nat} {ds : List D} {N : List Str} (x : EnvOk K c G H (vs.map some) (argE io ds)) : EnvOk K c G H (L2.start N vs) (argE io ds ++ List.replicate (N.length - ds.length) none) := by
  have hl : ds.length = vs.length := by
    have := x.len
    rw [argE_length, List.length_map] at this
    exact this
  have sub : ∀ {i : Nat} {e : Ent}, (argE io ds ++ List.replicate (N.length - ds.length) none)[i]? = some (some e) → (argE io ds)[i]? = some (some e) ∧ i < vs.length := fun {i e} h => by
    by_cases hi : i < ds.length
    · rw [List.getElem?_append_left (by rw [argE_length]; exact hi)] at h
      exact ⟨h, by omega⟩
    · rw [List.getElem?_append_right (by rw [argE_length]; omega)] at h
      rw [List.getElem?_replicate] at h
      split at h <;> cases h
  refine ⟨x.le, ?_, fun i d h => ?_, fun i p b h => ?_, fun i j h => x.nol i j (sub h).1, fun i j a p q b d hi hj ei ej => ?_⟩
  · unfold L2.start
    simp only [List.length_append, List.length_replicate, argE_length, List.length_map, hl]
  · obtain ⟨h1, h2⟩ := sub h
    rw [start_get h2]
    exact x.sh i d h1
  · obtain ⟨h1, h2⟩ := sub h
    rw [start_get h2]
    exact x.own i p b h1
  · obtain ⟨h1, h2⟩ := sub hi
    obtain ⟨h3, h4⟩ := sub hj
    rw [start_get h2] at ei
    rw [start_get h4] at ej
    exact x.inj i j a p q b d h1 h3 ei ej
theorem ow_in {vs : List V} {io : Option Nat} {ds : List D} {N : List Str} {a : Addr} (hl : ds.length = vs.length) : Ow (L2.start N vs) (argE io ds ++ List.replicate (N.length - ds.length) none) a ↔ Ow (vs.map some) (argE io ds) a := by
  constructor
  · rintro ⟨i, p, b, h, e⟩
    by_cases hi : i < ds.length
    · rw [List.getElem?_append_left (by rw [argE_length]; exact hi)] at h
      rw [start_get (by omega)] at e
      exact ⟨i, p, b, h, e⟩
    · rw [List.getElem?_append_right (by rw [argE_length]; omega), List.getElem?_replicate] at h
      split at h <;> cases h
  · rintro ⟨i, p, b, h, e⟩
    have hi : i < vs.length := by
      have := (List.getElem?_eq_some_iff.mp h).1
      rw [argE_length] at this
      omega
    exact ⟨i, p, b, by rw [List.getElem?_append_left (by rw [argE_length]; omega)]; exact h, by rw [start_get hi]; exact e⟩
theorem out_get {io : Option Nat} {ds : List D} {o : PyData} {i : Nat} (h : io ≠ some i) : (outD io ds o)[i]? = ds[i]? := by
  unfold outD
  split
  · rename_i j
    rw [List.getElem?_set_ne fun z => h (congrArg some z)]
  · rfl
/-- from a body's steps to the def's -/
theorem Stp.leave {G H G' H' : Hp} {σ' : L2.St} {ρ' : DEnv} {vs : List V} {io : Option Nat} {ds : List D} {N : List Str} {o : PyData} (hio : ∀ i, io = some i → ∃ p, ds[i]? = some (.py p)) (x : EnvOk K c G H (vs.map some) (argE io ds)) (s : Stp K c G H (L2.start N vs) (argE io ds ++ List.replicate (N.length - ds.length) none) G' H' σ' ρ') (ho : outOf io ρ' = some o) :
    Stp K c G H (vs.map some) (argE io ds) G' H' (vs.map some) (argE io (outD io ds o)) ∧ ∀ a, Ow (vs.map some) (argE io (outD io ds o)) a → ∃ i : Nat, ρ'[i]? = some (some (.own o true)) ∧ σ'[i]? = some (some (.ref a)) := by
  have hl : ds.length = vs.length := by
    have := x.len
    rw [argE_length, List.length_map] at this
    exact this
  -- the changed argument
  have key : ∀ {i : Nat} {p : PyData} {b : Bool}, (argE io (outD io ds o))[i]? = some (some (.own p b)) → b = true ∧ p = o ∧ io = some i ∧ ρ'[i]? = some (some (.own o true)) ∧ σ'[i]? = (vs.map some)[i]? ∧ ∃ q, (argE io ds)[i]? = some (some (.own q true)) := fun {i p b} h => by
    obtain ⟨e1, e2, e3⟩ := argE_own h
    subst e1
    obtain ⟨z, hz⟩ := hio i rfl
    have hi : i < ds.length := (List.getElem?_eq_some_iff.mp hz).1
    simp only [outD, List.getElem?_set_self hi, Option.some.injEq, D.py.injEq] at e3
    subst e3
    have ha : (argE (some i) ds)[i]? = some (some (.own z true)) := by
      rw [argE_get, hz]
      simp [slotO]
    simp only [outOf] at ho
    split at ho
    · rename_i p hp
      cases ho
      have hb : (argE (some i) ds ++ List.replicate (N.length - ds.length) none)[i]? = some (some (.own z true)) := by
        rw [List.getElem?_append_left (by rw [argE_length]; exact hi)]
        exact ha
      exact ⟨e2, rfl, rfl, hp, by rw [(s.pin i z hb).2, start_get (by omega)], z, ha⟩
    · cases ho
  have ow : ∀ a, Ow (vs.map some) (argE io (outD io ds o)) a → (∃ i : Nat, ρ'[i]? = some (some (.own o true)) ∧ σ'[i]? = some (some (.ref a))) ∧ Ow (vs.map some) (argE io ds) a := fun a h => by
    obtain ⟨i, p, b, h, e⟩ := h
    obtain ⟨h1, h2, h3, h4, h5, q, h6⟩ := key h
    exact ⟨⟨i, h4, by rw [h5]; exact e⟩, i, q, true, h6, e⟩
  refine ⟨⟨⟨s.env.le, ?_, fun i d h => ?_, fun i p b h => ?_, fun i j h => argE_nol h, fun i j a p q b d hi hj ei ej => ?_⟩, s.sh, fun p u k1 k2 k3 => s.keep p u k1 k2 fun z => k3 ((ow_in hl).mp z), fun a h => .inl (ow a h).2, s.dom, fun i p h => ?_⟩, fun a h => (ow a h).1⟩
  · rw [argE_length, List.length_map]
    unfold outD
    split
    · rw [List.length_set]
      exact hl
    · exact hl
  · obtain ⟨h1, h2⟩ := argE_sh h
    by_cases e : io = some i
    · subst e
      obtain ⟨z, hz⟩ := hio i rfl
      have hi : i < ds.length := (List.getElem?_eq_some_iff.mp hz).1
      simp only [outD, List.getElem?_set_self hi, Option.some.injEq] at h1
      exact (h2 rfl o h1.symm).elim
    · rw [out_get e] at h1
      have h3 : (argE io ds)[i]? = some (some (.sh d)) := by
        rw [argE_get, h1]
        simp [e]
      obtain ⟨v, ev, r⟩ := x.sh i d h3
      exact ⟨v, ev, r.mono s.sh⟩
  · obtain ⟨h1, h2, h3, h4, h5, q, h6⟩ := key h
    subst h2
    obtain ⟨a, ea, k⟩ := s.env.own i _ _ h4
    exact ⟨a, by rw [← h5]; exact ea, k⟩
  · obtain ⟨_, _, h3, _⟩ := key hi
    obtain ⟨_, _, h4, _⟩ := key hj
    rw [h3] at h4
    exact Option.some.inj h4
  · obtain ⟨h1, h2, h3⟩ := argE_own h
    subst h1
    have hi : i < ds.length := (List.getElem?_eq_some_iff.mp h3).1
    refine ⟨⟨o, ?_⟩, rfl⟩
    rw [argE_get]
    simp [outD, hi, slotO]
end

section
variable {P : Program} {w : World} {K : PySem.W.Frag} {mg : Str → Option Value} {base : Heap} {c : Nat → Addr}
/-- a def at its promise: where it stands, how it is called -/
structure FnAt (P : Program) (w : World) (K : PySem.W.Frag) (mg : Str → Option Value) (base : Heap) (c : Nat → Addr) (k : Nat) (name : Str) (n : Nat) (io : Option Nat) (fn : Fn) : Prop where
  ex : ∃ f fd ps, mg name = some (.ref f) ∧ PySem.W.keepIn K (.ref f) = true ∧ Binds K fd ps [] ∧ ps.length = n ∧ FnOk P w K mg base (L2.CX P w) k f fd ps (spF K c n io fn)
theorem FnAt.mono {j k n : Nat} {name : Str} {io : Option Nat} {fn : Fn} (h : FnAt P w K mg base c j name n io fn) (hk : j ≤ k) : FnAt P w K mg base c k name n io fn := by
  obtain ⟨f, fd, ps, h1, h2, h3, h4, h5⟩ := h.ex
  exact ⟨f, fd, ps, h1, h2, h3, h4, h5.mono hk⟩
abbrev bodyCx (P : Program) (w : World) (K : PySem.W.Frag) (mg : Str → Option Value) (base : Heap) (N : List Str) (qual : Str) (st : Stmt) (f : Addr) (cdv : Value) (A : Around) (outer : List Env) (s : Shared) (H : Hp) (E : XK) : Cx := cxOf (L2.CX P w) P w K mg base N qual (defScope st) f cdv A outer s H E
abbrev WE0 (E : XK) : WX := fun cls d _ H => E cls d H
/-- THE RULE for a def -/
theorem fn_ok {x qual : Str} {st : Stmt} {f : Addr} {fd : FuncData} {N ps : List Str} {k : Nat} (io : Option Nat) {body : S} (F : Fun K x qual st f fd) (Sc : FnScope N ps (defScope st))
    (hb : ∀ (cdv : Value) (A : Around) (outer : List Env) (s : Shared) (H : Hp) (E : XK), Room k (A.deeper (envOfC qual (defScope st) s.heap.objs.size f cdv)) → DSs (bodyCx P w K mg base N qual st f cdv A outer s H E) c (WE0 E) (defBody st) body) :
    FnOk P w K mg base (L2.CX P w) (k + 1) f fd ps (spF K c ps.length io (fnOf N.length io body)) := by
  refine F.okX Sc (fun vs H Q E h => spF_len h) fun cdv A outer s H vs Q E hr h => ⟨_, hb cdv A outer s H E hr, ?_⟩
  obtain ⟨G, ds, hl, hio, env, h⟩ := h
  have hv : ds.length = vs.length := by
    have := env.len
    rw [argE_length, List.length_map] at this
    exact this
  refine ⟨G, argE io ds ++ List.replicate (N.length - ds.length) none, env_in env, ?_⟩
  -- what is returned
  have fin : ∀ {e r : Ent} {o : PyData} {ρ' : DEnv}, outOf io ρ' = some o → resE ρ' e = some r → (∀ v G' H', Stp K c G H (vs.map some) (argE io ds) G' H' (vs.map some) (argE io (outD io ds o)) → EntOk K c G' H' (vs.map some) (argE io (outD io ds o)) v r → Frs H v r → Q v H') →
      ∀ v G' H' σ', Stp K c G H (L2.start N vs) (argE io ds ++ List.replicate (N.length - ds.length) none) G' H' σ' ρ' → EntOk K c G' H' σ' ρ' v e → Frs H v e → Q v H' := by
    intro e r o ρ' ho hr q v G' H' σ' s' ev fv
    obtain ⟨s2, ow⟩ := s'.leave hio env ho
    cases e with
    | sh d =>
      cases hr
      exact q v G' H' s2 ev trivial
    | own p b =>
      cases hr
      obtain ⟨a, rfl, g1, g2, g3⟩ := ev
      refine q _ G' H' s2 ⟨a, rfl, g1, g2, fun z => ?_⟩ fv
      obtain ⟨i, h1, h2⟩ := ow a z
      exact g3 ⟨i, o, true, h1, h2⟩
    | lnk i =>
      simp only [resE] at hr
      split at hr
      · rename_i p hp
        cases hr
        obtain ⟨a, ea, g1, g2⟩ := s'.env.own i _ _ hp
        simp only [EntOk] at ev
        rw [ev] at ea
        cases ea
        refine q _ G' H' s2 ⟨a, rfl, g1, g2, fun z => ?_⟩ fun b eb => ?_
        · obtain ⟨j, h1, h2⟩ := ow a z
          have e := s'.env.inj i j a _ _ _ _ hp h1 ev h2
          subst e
          rw [hp] at h1
          cases h1
        · cases eb
          rcases s'.own a ⟨i, p, false, hp, ev⟩ with z | z
          · obtain ⟨j, q', b', hj, ej⟩ := (ow_in hv).mp z
            obtain ⟨h1, h2, h3⟩ := argE_own hj
            subst h1
            have hjl : j < ds.length := (List.getElem?_eq_some_iff.mp h3).1
            have hj2 : (argE (some j) ds ++ List.replicate (N.length - ds.length) none)[j]? = some (some (.own q' true)) := by
              rw [List.getElem?_append_left (by rw [argE_length]; exact hjl), hj, h2]
            obtain ⟨⟨q2, hq2⟩, e2⟩ := s'.pin j q' hj2
            rw [start_get (by omega), ej] at e2
            have e := s'.env.inj i j a _ _ _ _ hp hq2 ev e2
            subst e
            rw [hp] at hq2
            cases hq2
          · exact z
      · cases hr
  have nx : ∀ {o : PyData} {ρ' : DEnv}, outOf io ρ' = some o → ∀ {G' H' : Hp} {σ' : L2.St}, Stp K c G H (L2.start N vs) (argE io ds ++ List.replicate (N.length - ds.length) none) G' H' σ' ρ' → Stp K c G H (vs.map some) (argE io ds) G' H' (vs.map some) (argE io (outD io ds o)) := fun ho _ _ _ s' => (s'.leave hio env ho).1
  unfold fnOf at h
  split at h
  · exact h.elim
  · rename_i r o hf
    split at hf
    · rename_i ρ' hb'
      split at hf
      · rename_i o' ho
        cases hf
        rw [hb']
        exact fun G' H' σ' s' => h .non G' H' (nx ho s') (by simp only [EntOk, RpD, Rp]) trivial
      · cases hf
    · rename_i e ρ' hb'
      split at hf
      · rename_i o' r' ho hr
        cases hf
        rw [hb']
        exact fin ho hr h
      · cases hf
    · split at hf <;> cases hf
    · cases hf
  · rename_i j o hf
    split at hf
    · split at hf <;> cases hf
    · split at hf <;> cases hf
    · rename_i j' ρ' hb'
      split at hf
      · rename_i o' ho
        cases hf
        rw [hb']
        exact fun G' H' σ' s' => h G' H' (nx ho s')
      · cases hf
    · cases hf
/-- nothing is promised -/
theorem fn_none {k n : Nat} {f : Addr} {fd : FuncData} {ps : List Str} {io : Option Nat} : FnOk P w K mg base (L2.CX P w) k f fd ps (spF K c n io fun _ => none) := by
  have no : ∀ vs H Q E, ¬ spF K c n io (fun _ => none) vs H Q E := fun vs H Q E h => by
    obtain ⟨_, _, _, _, _, z⟩ := h
    exact z
  exact ⟨fun vs H Q E h => absurd h (no vs H Q E), fun A outer s H args us vs Q E _ _ _ _ h => absurd h (no vs H Q E)⟩
/-- a def that calls itself: as many turns as are allowed -/
def recF (n : Nat) (io : Option Nat) (body : Fn → S) : Nat → Fn
  | 0 => fun _ => none
  | m + 1 => fnOf n io (body (recF n io body m))
theorem fn_rec {x qual : Str} {st : Stmt} {f : Addr} {fd : FuncData} {N ps : List Str} {k0 : Nat} (io : Option Nat) {body : Fn → S} (F : Fun K x qual st f fd) (Sc : FnScope N ps (defScope st)) (hm : mg x = some (.ref f)) (bi : Binds K fd ps [])
    (hb : ∀ (fn : Fn) (k : Nat), k0 ≤ k → FnAt P w K mg base c k x ps.length io fn → ∀ (cdv : Value) (A : Around) (outer : List Env) (s : Shared) (H : Hp) (E : XK), Room k (A.deeper (envOfC qual (defScope st) s.heap.objs.size f cdv)) → DSs (bodyCx P w K mg base N qual st f cdv A outer s H E) c (WE0 E) (defBody st) (body fn)) :
    ∀ m : Nat, FnAt P w K mg base c (k0 + m) x ps.length io (recF N.length io body m)
  | 0 => ⟨f, fd, ps, hm, F.kp, bi, rfl, fn_none⟩
  | m + 1 => ⟨f, fd, ps, hm, F.kp, bi, rfl, fn_ok io F Sc fun cdv A outer s H E hr => hb _ (k0 + m) (Nat.le_add_right _ _) (fn_rec io F Sc hm bi hb m) cdv A outer s H E hr⟩
end

/-! ### calls -/
section
variable {X : Cx} {c : Nat → Addr} {W : WX}
def arg1 (io : Option Nat) (ρ : DEnv) (e : Ent) : Option D := match io, e with
  | some 0, .lnk i => match ρ[i]? with
    | some (some (.own p _)) => some (.py p)
    | _ => none
  | some 0, _ => none
  | _, .sh d => some d
  | _, _ => none
def ioTl : Option Nat → Option Nat
  | some (n + 1) => some n
  | _ => none
def callA (io : Option Nat) (ρ : DEnv) : List Ent → Option (List D)
  | [] => some []
  | e :: es => match arg1 io ρ e, callA (ioTl io) ρ es with
    | some d, some ds => some (d :: ds)
    | _, _ => none
def callO (io : Option Nat) (es : List Ent) (o : PyData) (ρ : DEnv) : DEnv := match io with
  | none => ρ
  | some i => match es[i]? with
    | some (.lnk j) => match ρ[j]? with
      | some (some (.own _ b)) => ρ.set j (some (.own o b))
      | _ => ρ
    | _ => ρ
def callE (n : Nat) (io : Option Nat) (fn : Fn) (es : List Ent) : M Ent := fun ρ => match callA io ρ es with
  | none => none
  | some ds => if ds.length = n then match fn ds with
    | none => none
    | some (.ok (.lnk _) _) => none
    | some (.ok r o) => some (.ok r (callO io es o ρ))
    | some (.exc k o) => some (.exc k (callO io es o ρ))
  else none
def fCall (n : Nat) (io : Option Nat) (fn : Fn) (m : M (List Ent)) : M Ent := bnd m (callE n io fn)
/-- the values' link with the arguments -/
theorem callA_ok {K : PySem.W.Frag} {G H : Hp} {σ : L2.St} {ρ : DEnv} (env : EnvOk K c G H σ ρ) : ∀ {io : Option Nat} {vs : List V} {es : List Ent} {ds : List D}, EAs K c G H σ ρ vs es → callA io ρ es = some ds →
    ds.length = vs.length ∧ (∀ (i : Nat) (d : D), io ≠ some i → ds[i]? = some d → ∃ v, vs[i]? = some v ∧ RpD K c G v d) ∧
      ∀ i, io = some i → i < vs.length → ∃ j p b a, es[i]? = some (.lnk j) ∧ ρ[j]? = some (some (.own p b)) ∧ ds[i]? = some (.py p) ∧ vs[i]? = some (.ref a) ∧ σ[j]? = some (some (.ref a)) := by
  intro io vs es
  induction es generalizing io vs with
  | nil =>
    intro ds h e
    cases h
    simp only [callA, Option.some.injEq] at e
    subst e
    exact ⟨rfl, fun i d _ z => by simp at z, fun i _ z => absurd z (Nat.not_lt_zero _)⟩
  | cons e es ih =>
    intro ds h q
    cases h with
    | @cons v _ vs _ h1 h2 h3 =>
      unfold callA at q
      split at q
      · rename_i d ds' q1 q2
        cases q
        obtain ⟨k1, k2, k3⟩ := ih h3 q2
        refine ⟨by rw [List.length_cons, List.length_cons, k1], fun i d' hn hd => ?_, fun i hi hl => ?_⟩
        · cases i with
          | zero =>
            simp only [List.getElem?_cons_zero, Option.some.injEq] at hd
            subst hd
            have : e = .sh d := by
              unfold arg1 at q1
              split at q1
              · exact absurd rfl hn
              · exact absurd rfl hn
              · cases q1
                rfl
              · cases q1
            subst this
            exact ⟨v, rfl, h1⟩
          | succ i =>
            simp only [List.getElem?_cons_succ] at hd ⊢
            refine k2 i d' (fun z => ?_) hd
            unfold ioTl at z
            split at z
            · cases z
              exact hn rfl
            · cases z
        · subst hi
          cases i with
          | zero =>
            unfold arg1 at q1
            split at q1
            · rename_i j _
              split at q1
              · rename_i p b hp
                cases q1
                obtain ⟨a, ea, _⟩ := env.own j p b hp
                simp only [EntOk] at h1
                rw [h1] at ea
                cases ea
                exact ⟨j, p, b, a, rfl, hp, rfl, rfl, h1⟩
              · cases q1
            · cases q1
            · rename_i nz
              first | exact absurd rfl nz | exact absurd rfl ‹_ ≠ _› | exact absurd rfl (by assumption)
            · cases q1
          | succ i =>
            obtain ⟨j, p, b, a, z1, z2, z3, z4, z5⟩ := k3 i rfl (by simpa using hl)
            exact ⟨j, p, b, a, by simpa using z1, z2, by simpa using z3, by simpa using z4, z5⟩
      · cases q
theorem w_call {n : Nat} {io : Option Nat} {fn : Fn} {m : M (List Ent)} (hn : ∀ i, io = some i → i < n) (σ : L2.St) (H : Hp) (Q : VK) (h : tD X.K c W (fCall n io fn m) σ H Q) : tCallS (spF X.K c n io fn) (WE W) (tDA X.K c W m) σ H Q := by
  obtain ⟨G, ρ, env, h⟩ := h
  refine ⟨G, ρ, env, wpM_mono (wpM_bnd.mp h) (fun es ρ1 h1 vs G1 H1 s1 e1 => ?_) fun _ _ x => x⟩
  unfold callE at h1
  split at h1
  · exact h1.elim
  rename_i ds ha
  split at h1
  rotate_left
  · exact h1.elim
  rename_i hl
  have env1 := s1.env
  obtain ⟨k1, k2, k3⟩ := callA_ok env1 e1 ha
  have hio : ∀ i, io = some i → ∃ p, ds[i]? = some (.py p) := fun i hi => by
    obtain ⟨j, p, b, a, _, _, z, _⟩ := k3 i hi (by have := hn i hi; omega)
    exact ⟨p, z⟩
  -- the callee's environment
  have envC : EnvOk X.K c G1 H1 (vs.map some) (argE io ds) := by
    refine ⟨env1.le, by rw [argE_length, List.length_map]; exact k1, fun i d q => ?_, fun i p b q => ?_, fun i j => argE_nol, fun i j a p q b d hi hj _ _ => ?_⟩
    · obtain ⟨q1, q2⟩ := argE_sh q
      by_cases e : io = some i
      · obtain ⟨p, hp⟩ := hio i e
        rw [hp] at q1
        cases q1
        exact (q2 e p rfl).elim
      · obtain ⟨v, z1, z2⟩ := k2 i d e q1
        exact ⟨v, by rw [List.getElem?_map, z1]; rfl, z2⟩
    · obtain ⟨q1, q2, q3⟩ := argE_own q
      obtain ⟨j, p', b', a, z1, z2, z3, z4, z5⟩ := k3 i q1 (by have := hn i q1; omega)
      rw [q3] at z3
      cases z3
      obtain ⟨a', ea, g1, g2⟩ := env1.own j p b' z2
      rw [z5] at ea
      cases ea
      exact ⟨a, by rw [List.getElem?_map, z4]; rfl, g1, g2⟩
    · obtain ⟨z1, _⟩ := argE_own hi
      obtain ⟨z2, _⟩ := argE_own hj
      rw [z1] at z2
      exact Option.some.inj z2
  have owC : ∀ a, Ow (vs.map some) (argE io ds) a → Ow σ ρ1 a := fun a o => by
    obtain ⟨i, p, b, o1, o2⟩ := o
    obtain ⟨q1, q2, q3⟩ := argE_own o1
    obtain ⟨j, p', b', a', z1, z2, z3, z4, z5⟩ := k3 i q1 (by have := hn i q1; omega)
    rw [List.getElem?_map, z4] at o2
    cases o2
    exact ⟨j, p', b', z2, z5⟩
  -- back in the caller
  have back : ∀ {o : PyData} {G' H' : Hp}, Stp X.K c G1 H1 (vs.map some) (argE io ds) G' H' (vs.map some) (argE io (outD io ds o)) → Stp X.K c G1 H1 σ ρ1 G' H' σ (callO io es o ρ1) := by
    intro o G' H' s
    cases io with
    | none =>
      have noO : ∀ a, ¬ Ow (vs.map some) (argE none ds) a := fun a z => by
        obtain ⟨i, p, b, o1, o2⟩ := z
        exact nomatch (argE_own o1).1
      have kp : ∀ a u, H1 a = some u → G1 a = none → H' a = some u ∧ G' a = none := fun a u z1 z2 => s.keep a u z1 z2 (noO a)
      refine ⟨⟨s.env.le, env1.len, fun i d q => ?_, fun i p b q => ?_, env1.nol, env1.inj⟩, s.sh, fun p u z1 z2 _ => kp p u z1 z2, fun a o => .inl o, s.dom, fun i p q => ⟨⟨p, q⟩, rfl⟩⟩
      · obtain ⟨v, ev, r⟩ := env1.sh i d q
        exact ⟨v, ev, r.mono s.sh⟩
      · obtain ⟨a, ea, g1, g2⟩ := env1.own i p b q
        obtain ⟨u, hu⟩ := g2.some
        obtain ⟨z1, z2⟩ := kp a u hu g1
        exact ⟨a, ea, z2, g2.mono s.sh (z1.trans hu.symm)⟩
    | some i =>
      obtain ⟨j, p0, b0, a0, z1, z2, z3, z4, z5⟩ := k3 i rfl (by have := hn i rfl; omega)
      have hj : j < ρ1.length := (List.getElem?_eq_some_iff.mp z2).1
      have eO : callO (some i) es o ρ1 = ρ1.set j (some (.own o b0)) := by
        simp only [callO, z1, z2]
      rw [eO]
      have hi : i < ds.length := (List.getElem?_eq_some_iff.mp z3).1
      have onlyC : ∀ a, Ow (vs.map some) (argE (some i) ds) a → a = a0 := fun a z => by
        obtain ⟨i', p, b, o1, o2⟩ := z
        obtain ⟨q1, _⟩ := argE_own o1
        cases q1
        rw [List.getElem?_map, z4] at o2
        cases o2
        rfl
      have hA : (argE (some i) (outD (some i) ds o))[i]? = some (some (.own o true)) := by
        rw [argE_get]
        simp [outD, hi, slotO]
      obtain ⟨a', ea', g1', g2'⟩ := s.env.own i o true hA
      rw [List.getElem?_map, z4] at ea'
      cases ea'
      have kp : ∀ a u, a ≠ a0 → H1 a = some u → G1 a = none → H' a = some u ∧ G' a = none := fun a u ne z1 z2 => s.keep a u z1 z2 fun z => ne (onlyC a z)
      refine ⟨⟨s.env.le, by rw [List.length_set]; exact env1.len, fun i' d q => ?_, fun i' p b q => ?_, fun i' k q => ?_, fun i' k a p q b d hi' hk ei ek => ?_⟩, s.sh, fun p u y1 y2 y3 => kp p u (fun z => y3 ⟨j, p0, b0, z2, by rw [z]; exact z5⟩) y1 y2, fun a o => ?_, s.dom, fun i' p q => ?_⟩
      · rcases get_set q with ⟨rfl, _, e⟩ | ⟨ne, e⟩
        · cases e
        · obtain ⟨v, ev, r⟩ := env1.sh i' d e
          exact ⟨v, ev, r.mono s.sh⟩
      · rcases get_set q with ⟨rfl, _, e⟩ | ⟨ne, e⟩
        · cases e
          exact ⟨a0, z5, g1', g2'⟩
        · obtain ⟨a, ea, g1, g2⟩ := env1.own i' p b e
          obtain ⟨u, hu⟩ := g2.some
          have na : a ≠ a0 := fun z => by
            subst z
            exact ne (env1.inj i' j a p p0 b b0 e z2 ea z5)
          obtain ⟨y1, y2⟩ := kp a u na hu g1
          exact ⟨a, ea, y2, g2.mono s.sh (y1.trans hu.symm)⟩
      · rcases get_set q with ⟨rfl, _, e⟩ | ⟨ne, e⟩
        · cases e
        · exact env1.nol i' k e
      · have old : ∀ {i' : Nat} {p : PyData} {b : Bool}, (ρ1.set j (some (.own o b0)))[i']? = some (some (.own p b)) → ∃ p' b', ρ1[i']? = some (some (.own p' b')) := fun q => by
          rcases get_set q with ⟨rfl, _, e⟩ | ⟨ne, e⟩
          · exact ⟨p0, b0, z2⟩
          · exact ⟨_, _, e⟩
        obtain ⟨_, _, o1⟩ := old hi'
        obtain ⟨_, _, o2⟩ := old hk
        exact env1.inj i' k a _ _ _ _ o1 o2 ei ek
      · obtain ⟨i', p, b, q, e'⟩ := o
        rcases get_set q with ⟨rfl, _, e⟩ | ⟨ne, e⟩
        · exact .inl ⟨i', p0, b0, z2, e'⟩
        · exact .inl ⟨i', p, b, e, e'⟩
      · by_cases e : j = i'
        · subst e
          rw [z2] at q
          cases q
          exact ⟨⟨o, List.getElem?_set_self hj⟩, rfl⟩
        · rw [List.getElem?_set_ne e]
          exact ⟨⟨p, q⟩, rfl⟩
  refine ⟨G1, ds, hl, hio, envC, ?_⟩
  split at h1
  · exact h1.elim
  · exact h1.elim
  · rename_i r o nl hf
    rw [hf]
    intro v G' H' s ev fv
    have sb := back s
    refine h1 v G' H' (s1.trans sb) ?_ (fv.back s1)
    cases r with
    | sh d => exact ev
    | own p b =>
      obtain ⟨a, rfl, g1, g2, g3⟩ := ev
      refine ⟨a, rfl, g1, g2, fun z => ?_⟩
      have : H1 a = none := fv a rfl
      rcases sb.own a z with z | z
      · obtain ⟨u, hu⟩ := z.at env1
        rw [this] at hu
        cases hu
      · obtain ⟨i, p', b', y1, y2⟩ := ‹Ow σ (callO io es o ρ1) a›
        -- a is new: no name of the caller holds it
        have q := (sb.env.own i p' b' y1)
        obtain ⟨a2, e2, _, _⟩ := q
        rw [y2] at e2
        cases e2
        cases io with
        | none =>
          obtain ⟨u, hu⟩ := Ow.at (σ := σ) (ρ := ρ1) ⟨i, p', b', y1, y2⟩ env1
          rw [this] at hu
          cases hu
        | some i0 =>
          obtain ⟨j, p0, b0, a0, z1, z2, z3, z4, z5⟩ := k3 i0 rfl (by have := hn i0 rfl; omega)
          have eO : callO (some i0) es o ρ1 = ρ1.set j (some (.own o b0)) := by
            simp only [callO, z1, z2]
          rw [eO] at y1
          have : ∃ p b, ρ1[i]? = some (some (.own p b)) := by
            rcases get_set y1 with ⟨rfl, _, e⟩ | ⟨ne, e⟩
            · exact ⟨p0, b0, z2⟩
            · exact ⟨_, _, e⟩
          obtain ⟨p1, b1, q1⟩ := this
          obtain ⟨u, hu⟩ := Ow.at (σ := σ) (ρ := ρ1) ⟨i, p1, b1, q1, y2⟩ env1
          have : H1 a = none := fv a rfl
          rw [this] at hu
          cases hu
    | lnk i => exact absurd rfl (nl i)
  · rename_i k o hf
    rw [hf]
    exact fun G' H' s => h1 G' H' σ (s1.trans (back s))
variable {k n : Nat} {io : Option Nat} {fn : Fn} {x : Str} {p pos : Pos} {e : Expr} {es : List Expr} {m : M (List Ent)}
theorem de_call (F : FnAt X.prog X.w X.K X.mg X.base c k x n io fn) (hn : ∀ i, io = some i → i < n) (hr : Room k X.A) (tk : Takes X W) (hg : Gl X x) (ha : DA X c W (e :: es) m) (hdb : (x == ("__debug__" : Str)) = false := by decide) (he : starEach (e :: es) X.env = (false, eval e X.env) :: starEach es X.env := by rfl) (hpl : (backTo pos (starEach es X.env)).any (·.1) = false := by rfl) :
    DE X c W (.Call (.Name x p) (e :: es) [] pos) (fCall n io fn m) := by
  obtain ⟨f, fd, ps, h1, h2, h3, h4, h5⟩ := F.ex
  exact pe_weak (pe_callS h5 hr hg h1 h2 h3 (passAt tk) ha hdb he hpl) (w_call hn)
/-- raise -/
def fRaise (k : Nat) : S := fun ρ => some (.exc k ρ)
theorem ds_raise (j : Nat) {W : WX} {e : Expr} (hc : X.calm = true) (tk : Takes X W) (he : PMk X e (fun _ H Q => Q (.ref (c j)) none H)) : DS X c W (.Raise (some e) none pos) (fRaise j) := ps_weak (ps_raise hc tk he) fun D σ H h => by
  obtain ⟨G, ρ, env, h⟩ := h
  exact h G H σ (.refl env)
end
end VL

set_option linter.all false
set_option autoImplicit false
set_option maxRecDepth 100000
/-! The value layer, part 8: texts' methods; a few more calls. -/
namespace VL
open PySem L2

section
variable {X : Cx} {c : Nat → Addr} {W : WX} {K : PySem.W.Frag}
def isStr (x : Ent) : M Unit := fun ρ => match rd ρ x with
  | some (.str _) => some (.ok () ρ)
  | _ => none
def fM1 (o : Op2) (f g : M Ent) : M Ent := bnd f fun x => bnd (isStr x) fun _ => bnd g fun y ρ => liftO (o ρ x y) ρ
theorem w_m1 {r : V → List V → Hp → VK → Prop} {o : Op2} {f g : M Ent} (ok : Ok2 X.K c (fun x y H Q => r x [y] H Q) o) (σ : L2.St) (H : Hp) (Q : VK) (h : tD X.K c W (fM1 o f g) σ H Q) : tM1 r (tD X.K c W f) (tD X.K c W g) σ H Q := by
  obtain ⟨G, ρ, env, h⟩ := h
  refine ⟨G, ρ, env, wpM_mono (wpM_bnd.mp h) (fun x ρ1 h1 v G1 H1 s1 e1 _ => ?_) fun _ _ x => x⟩
  have h2 := wpM_bnd.mp h1
  unfold isStr at h2
  split at h2
  · rename_i s er
    refine ⟨⟨s, rd_str s1.env e1 er⟩, G1, ρ1, s1.env, wpM_mono (wpM_bnd.mp h2) (fun y ρ2 h3 u G2 H2 s2 e2 _ => ?_) fun _ _ x => x.back s1⟩
    obtain ⟨e, he, k⟩ := wpM_liftO h3
    exact ok G2 H2 σ ρ2 v u x y e Q s2.env (e1.step s2) e2 he (k.back (s1.trans s2))
  · exact h2.elim
def strsD : List PyData → Option (List Str)
  | [] => some []
  | .str s :: ds => (strsD ds).map (s :: ·)
  | _ :: _ => none
theorem strsD_ok {G : Hp} : ∀ {vs : List V} {ds : List PyData} {ss : List Str}, RpL K G vs ds → strsD ds = some ss → vs = ss.map V.str
  | [], [], ss, _, e => by
    simp only [strsD, Option.some.injEq] at e
    subst e
    rfl
  | v :: vs, .str s :: ds, ss, r, e => by
    simp only [RpL, Rp] at r
    simp only [strsD] at e
    obtain ⟨cs, h1, h2⟩ := Option.map_eq_some_iff.mp e
    subst h2
    rw [r.1, strsD_ok r.2 h1]
    rfl
  | v :: vs, .none :: _, _, _, e => by simp [strsD] at e
  | v :: vs, .int _ :: _, _, _, e => by simp [strsD] at e
  | v :: vs, .bool _ :: _, _, _, e => by simp [strsD] at e
  | v :: vs, .list _ :: _, _, _, e => by simp [strsD] at e
  | v :: vs, .tuple _ :: _, _, _, e => by simp [strsD] at e
  | v :: vs, .dict _ :: _, _, _, e => by simp [strsD] at e
  | [], _ :: _, _, r, _ => by simp only [RpL] at r
  | _ :: _, [], _, r, _ => by simp only [RpL] at r
theorem strsD_map (ss : List Str) : strsD (ss.map .str) = some ss := by
  induction ss with
  | nil => rfl
  | cons b bs ih => simp [strsD, ih]
theorem RpL.strsD {G : Hp} : ∀ ss : List Str, RpL K G (ss.map V.str) (ss.map .str)
  | [] => by simp only [List.map_nil, RpL]
  | s :: ss => by
    simp only [List.map_cons, RpL, Rp]
    exact ⟨trivial, RpL.strsD ss⟩
def oJoin : Op2 := fun ρ x y => match rd ρ x, rd ρ y with
  | some (.str a), some (.list ds) => match strsD ds with
    | some ys => if (ys.map (·.length)).sum + ys.length * a.length ≤ big then some (py (.str (Txt.join a ys))) else none
    | none => none
  | _, _ => none
def oSplit : Op2 := fun ρ x y => match rd ρ x, rd ρ y with
  | some (.str a), some (.str b) => if (b.length == 0) = false ∧ a.length + 2 ≤ big then some (.own (.list ((Txt.split a b).map .str)) false) else none
  | _, _ => none
variable {a e : Expr} {f g : M Ent} {pos apos : Pos}
theorem de_join (ho : DE X c W a f) (he : DE X c W e g) (hs : starEach [e] X.env = [(false, eval e X.env)] := by rfl) (hbase : attributeBase a "join" X.env (eval a X.env) = eval a X.env := by rfl) (hline : (apos.endLine == pos.line) = true := by rfl) :
    DE X c W (.Call (.Attribute a "join" apos) [e] [] pos) (fM1 oJoin f g) := by
  refine pe_weak (pe_join ho he hs hbase hline) (w_m1 ?_)
  intro G H σ ρ v u x y e Q env hx hy ho k
  unfold oJoin at ho
  split at ho
  · rename_i s ds e1 e2
    split at ho
    · rename_i ys hys
      split at ho
      · rename_i hz
        cases ho
        obtain ⟨b, vs, rfl, hb, rb⟩ := rd_list env hy e2
        exact ⟨s, b, ys, rd_str env hx e1, rfl, .inl (SqL.of (by rw [hb, strsD_ok rb hys])), Nat.le_trans hz (by decide), k.flat env (by simp only [Rp])⟩
      · cases ho
    · cases ho
  · cases ho
theorem de_split (ho : DE X c W a f) (he : DE X c W e g) (hs : starEach [e] X.env = [(false, eval e X.env)] := by rfl) (hbase : attributeBase a "split" X.env (eval a X.env) = eval a X.env := by rfl) (hline : (apos.endLine == pos.line) = true := by rfl) :
    DE X c W (.Call (.Attribute a "split" apos) [e] [] pos) (fM1 oSplit f g) := by
  refine pe_weak (pe_split ho he hs hbase hline) (w_m1 ?_)
  intro G H σ ρ v u x y e Q env hx hy ho k
  unfold oSplit at ho
  split at ho
  · rename_i s t e1 e2
    split at ho
    · rename_i hz
      cases ho
      exact ⟨s, t, rd_str env hx e1, by rw [rd_str env hy e2], hz.1, Nat.le_trans hz.2 (by decide), fun p np => k.lst env (RpL.strsD _) np⟩
    · cases ho
  · cases ho
/-- int(x) of a bool or an int -/
def oInt : OpL := fun ρ es => match es with
  | [x] => match rd ρ x with
    | some (.int i) => some (py (.int i))
    | some (.bool b) => some (py (.int (if b then 1 else 0)))
    | _ => none
  | _ => none
theorem ok_int : OkL K c (fun xs H Q => (∃ i, xs = [.int i] ∧ Q (.int i) H) ∨ ∃ k, xs = [.bl k] ∧ Q (.int (if k then 1 else 0)) H) oInt := by
  intro G H σ ρ vs es e Q env hx ho k
  unfold oInt at ho
  split at ho
  · obtain ⟨v, rfl, h⟩ := hx.one
    split at ho
    · rename_i i er
      cases ho
      exact .inl ⟨i, by rw [rd_int env h er], k.flat env (by simp only [Rp])⟩
    · rename_i b er
      cases ho
      exact .inr ⟨b, by rw [rd_bool env h er], k.flat env (by simp only [Rp])⟩
    · cases ho
  · cases ho
variable {es : List Expr} {m : M (List Ent)} {p : Pos}
theorem de_intC (hg : Gl X "int") (hm : X.mg "int" = none) (ha : DA X c W (a :: es) m) (he : starEach (a :: es) X.env = (false, eval a X.env) :: starEach es X.env := by rfl) (hpl : (backTo pos (starEach es X.env)).any (·.1) = false := by rfl) : DE X c W (.Call (.Name "int" p) (a :: es) [] pos) (fBl oInt m) :=
  de_bty call_int1 ok_int hg hm (by decide +kernel) ha (by decide) (by decide) he hpl
/-- max of two ints -/
def oMax2 : OpL := fun ρ es => match es with
  | [x, y] => match rd ρ x, rd ρ y with
    | some (.int i), some (.int j) => some (py (.int (if j > i then j else i)))
    | _, _ => none
  | _ => none
theorem ok_max2 : OkL K c (fun xs H Q => ∃ i j, xs = [.int i, .int j] ∧ Q (.int (if j > i then j else i)) H) oMax2 := by
  intro G H σ ρ vs es e Q env hx ho k
  unfold oMax2 at ho
  split at ho
  · obtain ⟨v, u, rfl, h, h'⟩ := hx.two
    split at ho
    · rename_i i j e1 e2
      cases ho
      exact ⟨i, j, by rw [rd_int env h e1, rd_int env h' e2], k.flat env (by simp only [Rp])⟩
    · cases ho
  · cases ho
theorem de_max2 (hc : X.calm = true) (hg : Gl X "max") (hm : X.mg "max" = none) (ha : DA X c W (a :: es) m) (he : starEach (a :: es) X.env = (false, eval a X.env) :: starEach es X.env := by rfl) (hpl : (backTo pos (starEach es X.env)).any (·.1) = false := by rfl) : DE X c W (.Call (.Name "max" p) (a :: es) [] pos) (fBl oMax2 m) :=
  de_blt (call_max2 hc) ok_max2 hg hm (by decide +kernel) ha (by decide) (by decide) he hpl
end
end VL
namespace VL
open PySem L2
theorem cx_none {P : Program} {w : World} {l : List Env} {H : Hp} {s s' : Shared} {e : Value} (h : L2.CX P w l H s (fun _ _ _ => False) e s') : False := by
  obtain ⟨_, _, _, _, _, _, _, _, _, _, _, _, z⟩ := h
  exact z
/-- the law's promise, from what its def's denotation says -/
theorem law_sp {K : PySem.W.Frag} {c : Nat → Addr} {fn : Fn} (LT : ∀ ns : List Int, ns.length ≤ 63 → fn [.scr ns] = some (.ok (py (.bool true)) .none)) {vs : List V} {H : Hp} {Q : VK} {E : XK} (h : ∃ (a : Addr) (ns : List Int), vs = [.ref a] ∧ SqL K H a (ns.map V.int) ∧ ns.length ≤ 63 ∧ ∀ H', Q (.bl true) H') : spF K c 1 none fn vs H Q E := by
  obtain ⟨a, ns, rfl, hS, hl, q⟩ := h
  refine ⟨H, [.scr ns], rfl, fun i z => (nomatch z), ⟨Same.refl _, rfl, fun i d z => ?_, fun i p b z => ?_, fun i j => argE_nol, fun i j a p q b d hi _ _ _ => nomatch (argE_own hi).1⟩, ?_⟩
  · obtain ⟨z1, _⟩ := argE_sh z
    cases i with
    | zero =>
      cases z1
      exact ⟨.ref a, rfl, by simp only [RpD]; exact ⟨a, rfl, hS⟩⟩
    | succ i => simp at z1
  · exact nomatch (argE_own z).1
  · rw [LT ns hl]
    intro v G' H' s ev _
    simp only [EntOk, RpD, Rp] at ev
    subst ev
    exact q H'
end VL

set_option linter.all false
set_option autoImplicit false
set_option maxRecDepth 100000
/-! The value layer, part 9: how denotations are reckoned. -/
namespace VL
open PySem L2

theorem char_toNat_inj {a b : Char} (h : a.toNat = b.toNat) : a = b := by
  apply Char.ext
  apply UInt32.toNat_inj.mp
  exact h
theorem map_toNat_inj : ∀ {l m : List Char}, l.map Char.toNat = m.map Char.toNat → l = m
  | [], [], _ => rfl
  | [], _ :: _, h => by simp at h
  | _ :: _, [], h => by simp at h
  | a :: l, b :: m, h => by
    simp only [List.map_cons, List.cons.injEq] at h
    rw [char_toNat_inj h.1, map_toNat_inj h.2]
theorem ofString_inj {a b : String} (h : Str.ofString a = Str.ofString b) : a = b := by
  rw [Str.ofString_eq_toList, Str.ofString_eq_toList] at h
  have := congrArg (fun s : Str => s.cps.toList) h
  simp only [List.toList_toArray] at this
  exact String.toList_inj.mp (map_toNat_inj this)
@[simp] theorem ofString_beq (a b : String) : (Str.ofString a == Str.ofString b) = (a == b) := by
  by_cases h : a = b
  · subst h
    simp
  · have : Str.ofString a ≠ Str.ofString b := fun e => h (ofString_inj e)
    rw [beq_eq_false_iff_ne.mpr h, beq_eq_false_iff_ne.mpr this]
@[simp] theorem ofString_eq (a b : String) : (Str.ofString a = Str.ofString b) = (a = b) := propext ⟨ofString_inj, fun h => by rw [h]⟩

/-! ### places -/
theorem atI_nn {α : Type} {xs : List α} {i : Int} (h : 0 ≤ i) : L2.atI xs i = xs[i.toNat]? := by
  unfold L2.atI ixN
  rw [if_pos h]
  by_cases e : i < xs.length
  · rw [if_pos e]
    rfl
  · rw [if_neg e]
    rw [List.getElem?_eq_none (by omega)]
    rfl
@[simp] theorem atI_coe {α : Type} {xs : List α} {n : Nat} : L2.atI xs (n : Int) = xs[n]? := by
  rw [atI_nn (by omega)]
  simp
@[simp] theorem atI_lit {α : Type} {xs : List α} {n : Nat} : L2.atI xs (no_index (OfNat.ofNat n) : Int) = xs[n]? := by
  show L2.atI xs ((n : Nat) : Int) = _
  exact atI_coe
@[simp] theorem atI_zero {α : Type} {xs : List α} : L2.atI xs 0 = xs[0]? := atI_coe (n := 0)
@[simp] theorem atI_one {α : Type} {xs : List α} : L2.atI xs 1 = xs[1]? := atI_coe (n := 1)
theorem atI_neg1 {α : Type} {xs : List α} : L2.atI xs (-1) = xs.getLast? := by
  unfold L2.atI ixN
  rw [if_neg (by decide)]
  cases xs with
  | nil => rfl
  | cons x xs =>
    rw [if_pos (by simp only [List.length_cons]; omega), List.getLast?_eq_getElem?]
    show (x :: xs)[(-1 + ((x :: xs).length : Int)).toNat]? = _
    congr 1
    omega
theorem ixN_nn {n : Nat} {i : Int} (h : 0 ≤ i) (h2 : i < n) : ixN n i = some i.toNat := by
  unfold ixN
  rw [if_pos h, if_pos h2]
theorem ixN_coe {n i : Nat} (h : i < n) : ixN n (i : Int) = some i := by
  rw [ixN_nn (by omega) (by omega)]
  simp
/-! ### slices -/
theorem sIx_nn {n d : Nat} {v : Int} (h : 0 ≤ v) : HT.sIx n d (some v) = min v.toNat n := by
  show (if v < 0 then _ else _) = _
  rw [if_neg (by omega)]
theorem cut_to {α : Type} {xs : List α} {v : Int} (h : 0 ≤ v) : cutL xs none (some v) = xs.take v.toNat := by
  unfold cutL
  rw [HT.sIx_none, sIx_nn h, List.drop_zero, Nat.sub_zero]
  by_cases e : v.toNat ≤ xs.length
  · rw [Nat.min_eq_left e]
  · rw [Nat.min_eq_right (by omega), List.take_length, List.take_of_length_le (by omega)]
theorem cut_from {α : Type} {xs : List α} {v : Int} (h : 0 ≤ v) : cutL xs (some v) none = xs.drop v.toNat := by
  unfold cutL
  rw [HT.sIx_none, sIx_nn h]
  by_cases e : v.toNat ≤ xs.length
  · rw [Nat.min_eq_left e]
    exact List.take_of_length_le (by rw [List.length_drop]; omega)
  · rw [Nat.min_eq_right (by omega), Nat.sub_self, List.take_zero, List.drop_eq_nil_of_le (by omega)]
theorem cut_mid {α : Type} {xs : List α} {u v : Int} (h : 0 ≤ u) (h2 : 0 ≤ v) : cutL xs (some u) (some v) = (xs.take v.toNat).drop u.toNat := by
  unfold cutL
  rw [sIx_nn h, sIx_nn h2, List.drop_take]
  by_cases e : u.toNat ≤ xs.length
  · rw [Nat.min_eq_left e]
    by_cases e2 : v.toNat ≤ xs.length
    · rw [Nat.min_eq_left e2]
    · rw [Nat.min_eq_right (by omega)]
      rw [List.take_of_length_le (l := xs.drop u.toNat) (by rw [List.length_drop]; omega), List.take_of_length_le (l := xs.drop u.toNat) (by rw [List.length_drop]; omega)]
  · rw [Nat.min_eq_right (by omega : xs.length ≤ u.toNat), List.drop_length, List.take_nil, List.drop_eq_nil_of_le (by omega : xs.length ≤ u.toNat), List.take_nil]
/-! ### comprehensions -/
theorem putBack_wipe (ρ : DEnv) (vs : List Nat) : putBack ρ (wipeE ρ vs) vs = ρ := by
  refine List.ext_getElem? fun j => ?_
  rw [putBack_get (by rw [wipeE_length]), wipeE_get]
  split
  · rfl
  · rfl
section
variable {β γ : Type} {tg : Tgt} {tt : M Bool} {te : M Ent} {vs : List Nat}
theorem compGo_map {ρ : DEnv} (g : β → PyData) (h : β → PyData) : ∀ (xs : List β) (acc : List PyData), (∀ x ∈ xs, ∃ ρ2, tg (g x) ρ = some ρ2 ∧ tt ρ2 = some (.ok true ρ2) ∧ fSh te ρ2 = some (.ok (.sh (.py (h x))) ρ2) ∧ wipeE ρ2 vs = ρ) → compGo tg tt te vs (xs.map g) acc ρ = some (acc ++ xs.map h, ρ)
  | [], acc, _ => by simp [compGo]
  | x :: xs, acc, H => by
    obtain ⟨ρ2, h1, h2, h3, h4⟩ := H x List.mem_cons_self
    rw [List.map_cons, compGo, h1]
    simp only [h2, h3, h4]
    rw [compGo_map g h xs (acc ++ [h x]) fun y hy => H y (List.mem_cons_of_mem _ hy)]
    simp
theorem compGo_filter {ρ : DEnv} (g : β → PyData) (p : β → Bool) (h : β → PyData) : ∀ (xs : List β) (acc : List PyData), (∀ x ∈ xs, ∃ ρ2, tg (g x) ρ = some ρ2 ∧ tt ρ2 = some (.ok (p x) ρ2) ∧ (p x = true → fSh te ρ2 = some (.ok (.sh (.py (h x))) ρ2)) ∧ wipeE ρ2 vs = ρ) → compGo tg tt te vs (xs.map g) acc ρ = some (acc ++ (xs.filter p).map h, ρ)
  | [], acc, _ => by simp [compGo]
  | x :: xs, acc, H => by
    obtain ⟨ρ2, h1, h2, h3, h4⟩ := H x List.mem_cons_self
    have ih := fun acc => compGo_filter g p h xs acc fun y hy => H y (List.mem_cons_of_mem _ hy)
    rw [List.map_cons, compGo, h1]
    cases e : p x with
    | true =>
      rw [e] at h2
      simp only [h2, h3 e, h4, ih]
      simp [e]
    | false =>
      rw [e] at h2
      simp only [h2, h4, ih]
      simp [e]
/-- [elt for x in xs]: nothing else changes -/
theorem comp_map {src : M (List PyData)} {ρ ρ1 : DEnv} (xs : List β) (g : β → PyData) (h : β → PyData) (hs : src ρ = some (.ok (xs.map g) ρ1)) (hl : xs.length ≤ big) (hn : noOwn ρ1 vs = true)
    (H : ∀ x ∈ xs, ∃ ρ2, tg (g x) (wipeE ρ1 vs) = some ρ2 ∧ tt ρ2 = some (.ok true ρ2) ∧ fSh te ρ2 = some (.ok (.sh (.py (h x))) ρ2) ∧ wipeE ρ2 vs = wipeE ρ1 vs) :
    fComp src tg tt te vs ρ = some (.ok (.own (.list (xs.map h)) false) ρ1) := by
  unfold fComp
  rw [bnd_ok hs]
  unfold compE
  rw [if_pos ⟨by rw [List.length_map]; exact hl, hn⟩, compGo_map g h xs [] H]
  simp only [List.nil_append, putBack_wipe]
theorem comp_filter {src : M (List PyData)} {ρ ρ1 : DEnv} (xs : List β) (g : β → PyData) (p : β → Bool) (h : β → PyData) (hs : src ρ = some (.ok (xs.map g) ρ1)) (hl : xs.length ≤ big) (hn : noOwn ρ1 vs = true)
    (H : ∀ x ∈ xs, ∃ ρ2, tg (g x) (wipeE ρ1 vs) = some ρ2 ∧ tt ρ2 = some (.ok (p x) ρ2) ∧ (p x = true → fSh te ρ2 = some (.ok (.sh (.py (h x))) ρ2)) ∧ wipeE ρ2 vs = wipeE ρ1 vs) :
    fComp src tg tt te vs ρ = some (.ok (.own (.list ((xs.filter p).map h)) false) ρ1) := by
  unfold fComp
  rw [bnd_ok hs]
  unfold compE
  rw [if_pos ⟨by rw [List.length_map]; exact hl, hn⟩, compGo_filter g p h xs [] H]
  simp only [List.nil_append, putBack_wipe]
/-- a state goes along -/
def mapAcc (f : γ → β → PyData × γ) : γ → List β → List PyData × γ
  | s, [] => ([], s)
  | s, x :: xs => ((f s x).1 :: (mapAcc f (f s x).2 xs).1, (mapAcc f (f s x).2 xs).2)
theorem compGo_acc (env : γ → DEnv) (g : β → PyData) (f : γ → β → PyData × γ) (I : γ → Prop) : ∀ (xs : List β) (acc : List PyData) (s : γ), I s → (∀ x ∈ xs, ∀ s, I s → I (f s x).2 ∧ ∃ ρ2 ρ3, tg (g x) (env s) = some ρ2 ∧ tt ρ2 = some (.ok true ρ2) ∧ fSh te ρ2 = some (.ok (.sh (.py (f s x).1)) ρ3) ∧ wipeE ρ3 vs = env (f s x).2) →
    compGo tg tt te vs (xs.map g) acc (env s) = some (acc ++ (mapAcc f s xs).1, env (mapAcc f s xs).2) ∧ I (mapAcc f s xs).2
  | [], acc, s, i, _ => ⟨by simp [compGo, mapAcc], i⟩
  | x :: xs, acc, s, i, H => by
    obtain ⟨i2, ρ2, ρ3, h1, h2, h3, h4⟩ := H x List.mem_cons_self s i
    obtain ⟨k1, k2⟩ := compGo_acc env g f I xs (acc ++ [(f s x).1]) (f s x).2 i2 fun y hy => H y (List.mem_cons_of_mem _ hy)
    rw [List.map_cons, compGo, h1]
    simp only [h2, h3, h4, k1]
    exact ⟨by simp [mapAcc], k2⟩
/-- .. where the block changes something of the def's -/
theorem comp_acc {src : M (List PyData)} {ρ : DEnv} (env env' : γ → DEnv) (xs : List β) (g : β → PyData) (f : γ → β → PyData × γ) (I : γ → Prop) (s : γ) (i : I s) (hs : src ρ = some (.ok (xs.map g) (env' s))) (hl : xs.length ≤ big) (hn : noOwn (env' s) vs = true) (he : wipeE (env' s) vs = env s)
    (H : ∀ x ∈ xs, ∀ s, I s → I (f s x).2 ∧ ∃ ρ2 ρ3, tg (g x) (env s) = some ρ2 ∧ tt ρ2 = some (.ok true ρ2) ∧ fSh te ρ2 = some (.ok (.sh (.py (f s x).1)) ρ3) ∧ wipeE ρ3 vs = env (f s x).2) (hb : putBack (env' s) (env (mapAcc f s xs).2) vs = env' (mapAcc f s xs).2) :
    fComp src tg tt te vs ρ = some (.ok (.own (.list (mapAcc f s xs).1) false) (env' (mapAcc f s xs).2)) ∧ I (mapAcc f s xs).2 := by
  obtain ⟨k1, k2⟩ := compGo_acc (tg := tg) (tt := tt) (te := te) (vs := vs) env g f I xs [] s i H
  refine ⟨?_, k2⟩
  unfold fComp
  rw [bnd_ok hs]
  unfold compE
  rw [if_pos ⟨by rw [List.length_map]; exact hl, hn⟩, he, k1]
  simp only [List.nil_append, hb]
theorem mapAcc_length (f : γ → β → PyData × γ) : ∀ (xs : List β) (s : γ), (mapAcc f s xs).1.length = xs.length
  | [], _ => rfl
  | x :: xs, s => by simp [mapAcc, mapAcc_length f xs]
/-! ### loops -/
variable {body : S}
/-- a loop whose turns all go on -/
theorem for_fold (env : γ → DEnv) (g : β → PyData) (f : γ → β → γ) (I : γ → Prop) : ∀ (xs : List β) (s : γ), I s → (∀ x ∈ xs, ∀ s, I s → I (f s x) ∧ ∃ ρ2, tg (g x) (env s) = some ρ2 ∧ body ρ2 = some (.ok .nx (env (f s x)))) →
    forGo tg body (xs.map g) (env s) = some (.ok .nx (env (xs.foldl f s))) ∧ I (xs.foldl f s)
  | [], s, i, _ => ⟨rfl, i⟩
  | x :: xs, s, i, H => by
    obtain ⟨i2, ρ2, h1, h2⟩ := H x List.mem_cons_self s i
    obtain ⟨k1, k2⟩ := for_fold env g f I xs (f s x) i2 fun y hy => H y (List.mem_cons_of_mem _ hy)
    rw [List.map_cons, forGo, h1]
    simp only [h2]
    exact ⟨k1, k2⟩
/-- a loop that may end with a return: r tells at which item, and what -/
theorem for_find (env : Option β → DEnv) (g : β → PyData) (r : β → Option Ent) (ρr : β → DEnv) : ∀ (xs : List β) (s : Option β), (∀ x ∈ xs, ∀ s, ∃ ρ2, tg (g x) (env s) = some ρ2 ∧ body ρ2 = match r x with | some e => some (.ok (.rt e) (ρr x)) | none => some (.ok .nx (env (some x)))) →
    forGo tg body (xs.map g) (env s) = match xs.findSome? (fun x => (r x).map fun e => (e, x)) with | some (e, x) => some (.ok (.rt e) (ρr x)) | none => some (.ok .nx (env (match xs.getLast? with | some x => some x | none => s)))
  | [], s, _ => rfl
  | x :: xs, s, H => by
    obtain ⟨ρ2, h1, h2⟩ := H x List.mem_cons_self s
    rw [List.map_cons, forGo, h1]
    cases e : r x with
    | some z =>
      rw [e] at h2
      simp only [h2, List.findSome?_cons, e, Option.map_some]
    | none =>
      rw [e] at h2
      simp only [h2, List.findSome?_cons, e, Option.map_none]
      rw [for_find env g r ρr xs (some x) fun y hy => H y (List.mem_cons_of_mem _ hy)]
      cases xs with
      | nil => rfl
      | cons y ys =>
        obtain ⟨z, hz⟩ : ∃ z, (y :: ys).getLast? = some z := ⟨_, List.getLast?_eq_some_getLast (List.cons_ne_nil y ys)⟩
        rw [List.getLast?_cons_cons, hz]
end
theorem intsD_zero (n : Nat) : intsD 0 1 n = (List.range n).map fun i => .int (i : Nat) := by
  unfold intsD
  refine List.map_congr_left fun i _ => ?_
  simp
@[simp] theorem eqv_str (a b : Str) : PyData.eqv (.str a) (.str b) = (a == b) := by simp only [PyData.eqv]
@[simp] theorem eqv_int (a b : Int) : PyData.eqv (.int a) (.int b) = (a == b) := by simp only [PyData.eqv]
@[simp] theorem eqv_bool (a b : Bool) : PyData.eqv (.bool a) (.bool b) = (a == b) := by simp only [PyData.eqv]
end VL

set_option linter.all false
set_option autoImplicit false
set_option maxRecDepth 100000
/-! The value layer: how simp reckons a denotation, from the left, at a known environment. What waits is a named function, so that nothing in it is looked at too early. -/
namespace VL
open PySem L2
variable {α β : Type}
abbrev OR (α : Type) := Option (Res α)
def evM (r : OR α) (k : α → DEnv → OR β) : OR β := match r with
  | none => none
  | some (.ok a ρ) => k a ρ
  | some (.exc j ρ) => some (.exc j ρ)
@[simp] theorem evM_ok (a : α) (ρ : DEnv) (k : α → DEnv → OR β) : evM (some (.ok a ρ)) k = k a ρ := rfl
@[simp] theorem evM_exc (j : Nat) (ρ : DEnv) (k : α → DEnv → OR β) : evM (some (.exc j ρ)) k = some (.exc j ρ) := rfl
@[simp] theorem evM_none (k : α → DEnv → OR β) : evM none k = none := rfl
theorem bnd_eq (m : M α) (f : α → M β) (ρ : DEnv) : bnd m f ρ = evM (m ρ) fun a ρ' => f a ρ' := by
  unfold bnd evM
  cases m ρ with
  | none => rfl
  | some r => cases r <;> rfl
@[simp ↓] theorem bnd_ap (m : M α) (f : α → M β) (ρ : DEnv) : bnd m f ρ = evM (m ρ) f := bnd_eq m f ρ
@[simp] theorem ret_ap (a : α) (ρ : DEnv) : VL.ret a ρ = some (.ok a ρ) := rfl
def kRet (a : α) (ρ : DEnv) : OR α := some (.ok a ρ)
@[simp] theorem kRet_ap (a : α) (ρ : DEnv) : kRet a ρ = some (.ok a ρ) := rfl
/-- an operation's answer, at the environment -/
def out (ρ : DEnv) (o : Option α) : OR α := match o with
  | some a => some (.ok a ρ)
  | none => none
@[simp] theorem out_some (ρ : DEnv) (a : α) : out ρ (some a) = some (.ok a ρ) := rfl
@[simp] theorem out_none (ρ : DEnv) : out ρ (none : Option α) = none := rfl
theorem liftO_eq (o : Option α) (ρ : DEnv) : liftO o ρ = out ρ o := by cases o <;> rfl
def varE (i : Nat) (ρ : DEnv) : Option (Option Ent) → OR Ent
  | some (some (.sh d)) => some (.ok (.sh d) ρ)
  | some (some (.own _ _)) => some (.ok (.lnk i) ρ)
  | _ => none
@[simp ↓] theorem fVar_ap (i : Nat) (ρ : DEnv) : fVar i ρ = varE i ρ ρ[i]? := rfl
@[simp] theorem varE_sh (i : Nat) (ρ : DEnv) (d : D) : varE i ρ (some (some (.sh d))) = some (.ok (.sh d) ρ) := rfl
@[simp] theorem varE_own (i : Nat) (ρ : DEnv) (p : PyData) (b : Bool) : varE i ρ (some (some (.own p b))) = some (.ok (.lnk i) ρ) := rfl
@[simp] theorem give_sh (d : D) (ρ : DEnv) : give (.sh d) ρ = some (.ok (.sh d) ρ) := rfl
@[simp] theorem give_own (p : PyData) (b : Bool) (ρ : DEnv) : give (.own p b) ρ = some (.ok (py p) ρ) := rfl
@[simp] theorem arg_sh (d : D) (ρ : DEnv) : VL.arg (.sh d) ρ = some (.ok (.sh d) ρ) := rfl
@[simp] theorem arg_own (p : PyData) (b : Bool) (ρ : DEnv) : VL.arg (.own p b) ρ = some (.ok (py p) ρ) := rfl
@[simp] theorem arg_lnk (i : Nat) (ρ : DEnv) : VL.arg (.lnk i) ρ = some (.ok (.lnk i) ρ) := rfl
@[simp ↓] theorem fSh_ap (f : M Ent) (ρ : DEnv) : fSh f ρ = evM (f ρ) give := bnd_eq ..
@[simp ↓] theorem fArg_ap (f : M Ent) (ρ : DEnv) : fArg f ρ = evM (f ρ) VL.arg := bnd_eq ..
def k1 (o : Op1) (x : Ent) (ρ : DEnv) : OR Ent := out ρ (o ρ x)
@[simp ↓] theorem k1_ap (o : Op1) (x : Ent) (ρ : DEnv) : k1 o x ρ = out ρ (o ρ x) := rfl
@[simp ↓] theorem f1_ap (o : Op1) (f : M Ent) (ρ : DEnv) : f1 o f ρ = evM (f ρ) (k1 o) := by
  unfold f1
  rw [bnd_eq]
  congr 1
  funext x ρ'
  exact liftO_eq _ _
def k2b (o : Op2) (x y : Ent) (ρ : DEnv) : OR Ent := out ρ (o ρ x y)
@[simp ↓] theorem k2b_ap (o : Op2) (x y : Ent) (ρ : DEnv) : k2b o x y ρ = out ρ (o ρ x y) := rfl
def k2a (o : Op2) (g : M Ent) (x : Ent) (ρ : DEnv) : OR Ent := evM (g ρ) (k2b o x)
@[simp ↓] theorem k2a_ap (o : Op2) (g : M Ent) (x : Ent) (ρ : DEnv) : k2a o g x ρ = evM (g ρ) (k2b o x) := rfl
@[simp ↓] theorem f2_ap (o : Op2) (f g : M Ent) (ρ : DEnv) : f2 o f g ρ = evM (f ρ) (k2a o g) := by
  unfold f2
  rw [bnd_eq]
  congr 1
  funext x ρ'
  rw [bnd_eq]
  unfold k2a
  congr 1
  funext y ρ''
  exact liftO_eq _ _
/-! what is read -/
@[simp] theorem rd_py (ρ : DEnv) (p : PyData) : rd ρ (.sh (.py p)) = some p := rfl
@[simp] theorem rd_own (ρ : DEnv) (p : PyData) (b : Bool) : rd ρ (.own p b) = some p := rfl
def lnkE : Option (Option Ent) → Option PyData
  | some (some (.own p _)) => some p
  | _ => none
@[simp ↓] theorem rd_lnk (ρ : DEnv) (i : Nat) : rd ρ (.lnk i) = lnkE ρ[i]? := rfl
@[simp] theorem lnkE_own (p : PyData) (b : Bool) : lnkE (some (some (.own p b))) = some p := rfl
/-! tests -/
def boolE (r : Option PyData) (k : Bool → DEnv → OR β) (ρ : DEnv) : OR β := match r with
  | some (.bool b) => k b ρ
  | _ => none
@[simp] theorem boolE_bool (b : Bool) (k : Bool → DEnv → OR β) (ρ : DEnv) : boolE (some (.bool b)) k ρ = k b ρ := rfl
def kB (x : Ent) (ρ : DEnv) : OR Bool := boolE (rd ρ x) kRet ρ
@[simp ↓] theorem kB_ap (x : Ent) (ρ : DEnv) : kB x ρ = boolE (rd ρ x) kRet ρ := rfl
@[simp ↓] theorem fB_ap (f : M Ent) (ρ : DEnv) : fB f ρ = evM (f ρ) kB := by
  unfold fB
  rw [bnd_eq]
  congr 1
def ifM (b : Bool) (m n : M α) (ρ : DEnv) : OR α := if b = true then m ρ else n ρ
@[simp ↓] theorem ifM_true (m n : M α) (ρ : DEnv) : ifM true m n ρ = m ρ := rfl
@[simp ↓] theorem ifM_false (m n : M α) (ρ : DEnv) : ifM false m n ρ = n ρ := rfl
theorem fun_ifM {b : Bool} {m n : M α} {ρ : DEnv} : (if b = true then m else n) ρ = ifM b m n ρ := by cases b <;> rfl
def kAndT (g : M Bool) (b : Bool) (ρ : DEnv) : OR Bool := ifM b g (VL.ret false) ρ
@[simp] theorem kAndT_ap (g : M Bool) (b : Bool) (ρ : DEnv) : kAndT g b ρ = ifM b g (VL.ret false) ρ := rfl
@[simp ↓] theorem fAndT_ap (f g : M Bool) (ρ : DEnv) : fAndT f g ρ = evM (f ρ) (kAndT g) := by
  unfold fAndT
  rw [bnd_eq]
  congr 1
  funext b ρ'
  exact fun_ifM
def kOrT (g : M Bool) (b : Bool) (ρ : DEnv) : OR Bool := ifM b (VL.ret true) g ρ
@[simp] theorem kOrT_ap (g : M Bool) (b : Bool) (ρ : DEnv) : kOrT g b ρ = ifM b (VL.ret true) g ρ := rfl
@[simp ↓] theorem fOrT_ap (f g : M Bool) (ρ : DEnv) : fOrT f g ρ = evM (f ρ) (kOrT g) := by
  unfold fOrT
  rw [bnd_eq]
  congr 1
  funext b ρ'
  exact fun_ifM
def kNotT (b : Bool) (ρ : DEnv) : OR Bool := some (.ok (!b) ρ)
@[simp] theorem kNotT_ap (b : Bool) (ρ : DEnv) : kNotT b ρ = some (.ok (!b) ρ) := rfl
@[simp ↓] theorem fNotT_ap (f : M Bool) (ρ : DEnv) : fNotT f ρ = evM (f ρ) kNotT := bnd_eq ..
def kAnd' (g : M Ent) (b : Bool) (ρ : DEnv) : OR Ent := ifM b g (fC (.bool false)) ρ
@[simp] theorem kAnd'_ap (g : M Ent) (b : Bool) (ρ : DEnv) : kAnd' g b ρ = ifM b g (fC (.bool false)) ρ := rfl
def kAnd (g : M Ent) (x : Ent) (ρ : DEnv) : OR Ent := boolE (rd ρ x) (kAnd' g) ρ
@[simp ↓] theorem kAnd_ap (g : M Ent) (x : Ent) (ρ : DEnv) : kAnd g x ρ = boolE (rd ρ x) (kAnd' g) ρ := rfl
theorem asB_eq (k : Bool → M α) (x : Ent) (ρ : DEnv) : asB k x ρ = boolE (rd ρ x) k ρ := by
  unfold asB boolE
  cases rd ρ x with
  | none => rfl
  | some p => cases p <;> rfl
@[simp ↓] theorem fAnd_ap (f g : M Ent) (ρ : DEnv) : fAnd f g ρ = evM (f ρ) (kAnd g) := by
  unfold fAnd
  rw [bnd_eq]
  congr 1
  funext x ρ'
  rw [asB_eq]
  unfold kAnd
  congr 1
  funext b ρ''
  exact fun_ifM
def kOr' (g : M Ent) (b : Bool) (ρ : DEnv) : OR Ent := ifM b (fC (.bool true)) g ρ
@[simp] theorem kOr'_ap (g : M Ent) (b : Bool) (ρ : DEnv) : kOr' g b ρ = ifM b (fC (.bool true)) g ρ := rfl
def kOr (g : M Ent) (x : Ent) (ρ : DEnv) : OR Ent := boolE (rd ρ x) (kOr' g) ρ
@[simp ↓] theorem kOr_ap (g : M Ent) (x : Ent) (ρ : DEnv) : kOr g x ρ = boolE (rd ρ x) (kOr' g) ρ := rfl
@[simp ↓] theorem fOr_ap (f g : M Ent) (ρ : DEnv) : fOr f g ρ = evM (f ρ) (kOr g) := by
  unfold fOr
  rw [bnd_eq]
  congr 1
  funext x ρ'
  rw [asB_eq]
  unfold kOr
  congr 1
  funext b ρ''
  exact fun_ifM
def kNot' (b : Bool) (ρ : DEnv) : OR Ent := some (.ok (py (.bool (!b))) ρ)
@[simp] theorem kNot'_ap (b : Bool) (ρ : DEnv) : kNot' b ρ = some (.ok (py (.bool (!b))) ρ) := rfl
def kNot (x : Ent) (ρ : DEnv) : OR Ent := boolE (rd ρ x) kNot' ρ
@[simp ↓] theorem kNot_ap (x : Ent) (ρ : DEnv) : kNot x ρ = boolE (rd ρ x) kNot' ρ := rfl
@[simp ↓] theorem fNot_ap (f : M Ent) (ρ : DEnv) : fNot f ρ = evM (f ρ) kNot := by
  unfold fNot
  rw [bnd_eq]
  congr 1
def kIfE (f g : M Ent) (b : Bool) (ρ : DEnv) : OR Ent := ifM b f g ρ
@[simp] theorem kIfE_ap (f g : M Ent) (b : Bool) (ρ : DEnv) : kIfE f g b ρ = ifM b f g ρ := rfl
@[simp ↓] theorem fIfE_ap (p : M Bool) (f g : M Ent) (ρ : DEnv) : fIfE p f g ρ = evM (p ρ) (kIfE f g) := by
  unfold fIfE
  rw [bnd_eq]
  congr 1
  funext b ρ'
  exact fun_ifM
def kCh4 (o' : Op2) (y w : Ent) (ρ : DEnv) : OR Ent := out ρ (o' ρ y w)
@[simp ↓] theorem kCh4_ap (o' : Op2) (y w : Ent) (ρ : DEnv) : kCh4 o' y w ρ = out ρ (o' ρ y w) := rfl
def kCh3t (o' : Op2) (k : M Ent) (y : Ent) : M Ent := fun ρ => evM (k ρ) (kCh4 o' y)
@[simp ↓] theorem kCh3t_ap (o' : Op2) (k : M Ent) (y : Ent) (ρ : DEnv) : kCh3t o' k y ρ = evM (k ρ) (kCh4 o' y) := rfl
def kCh3 (o' : Op2) (k : M Ent) (y : Ent) (b : Bool) (ρ : DEnv) : OR Ent := ifM b (kCh3t o' k y) (fC (.bool false)) ρ
@[simp] theorem kCh3_ap (o' : Op2) (k : M Ent) (y : Ent) (b : Bool) (ρ : DEnv) : kCh3 o' k y b ρ = ifM b (kCh3t o' k y) (fC (.bool false)) ρ := rfl
def chO (o' : Op2) (k : M Ent) (y : Ent) (ρ : DEnv) : Option Ent → OR Ent
  | some z => boolE (rd ρ z) (kCh3 o' k y) ρ
  | none => none
@[simp] theorem chO_some (o' : Op2) (k : M Ent) (y : Ent) (ρ : DEnv) (z : Ent) : chO o' k y ρ (some z) = boolE (rd ρ z) (kCh3 o' k y) ρ := rfl
def kCh2 (o o' : Op2) (k : M Ent) (x y : Ent) (ρ : DEnv) : OR Ent := chO o' k y ρ (o ρ x y)
@[simp ↓] theorem kCh2_ap (o o' : Op2) (k : M Ent) (x y : Ent) (ρ : DEnv) : kCh2 o o' k x y ρ = chO o' k y ρ (o ρ x y) := rfl
def kCh1 (o o' : Op2) (g k : M Ent) (x : Ent) (ρ : DEnv) : OR Ent := evM (g ρ) (kCh2 o o' k x)
@[simp ↓] theorem kCh1_ap (o o' : Op2) (g k : M Ent) (x : Ent) (ρ : DEnv) : kCh1 o o' g k x ρ = evM (g ρ) (kCh2 o o' k x) := rfl
@[simp ↓] theorem fChain_ap (o o' : Op2) (f g k : M Ent) (ρ : DEnv) : fChain o o' f g k ρ = evM (f ρ) (kCh1 o o' g k) := by
  unfold fChain
  rw [bnd_eq]
  congr 1
  funext x ρ1
  rw [bnd_eq]
  unfold kCh1
  congr 1
  funext y ρ2
  unfold kCh2
  cases o ρ2 x y with
  | none => rfl
  | some z =>
    show asB _ z ρ2 = _
    rw [asB_eq]
    show _ = boolE (rd ρ2 z) _ ρ2
    congr 1
    funext b ρ3
    rw [fun_ifM]
    cases b with
    | false => rfl
    | true =>
      show bnd k _ ρ3 = evM (k ρ3) _
      rw [bnd_eq]
      congr 1
      funext w ρ4
      exact liftO_eq _ _
/-! arguments, displays -/
@[simp] theorem fNil_ap (ρ : DEnv) : fNil ρ = some (.ok [] ρ) := rfl
def kC3 (e : Ent) (es : List Ent) (ρ : DEnv) : OR (List Ent) := some (.ok (e :: es) ρ)
@[simp] theorem kC3_ap (e : Ent) (es : List Ent) (ρ : DEnv) : kC3 e es ρ = some (.ok (e :: es) ρ) := rfl
def kC2 (r : M (List Ent)) (e : Ent) (ρ : DEnv) : OR (List Ent) := evM (r ρ) (kC3 e)
@[simp ↓] theorem kC2_ap (r : M (List Ent)) (e : Ent) (ρ : DEnv) : kC2 r e ρ = evM (r ρ) (kC3 e) := rfl
def kC1 (r : M (List Ent)) (e : Ent) (ρ : DEnv) : OR (List Ent) := evM (VL.arg e ρ) (kC2 r)
@[simp ↓] theorem kC1_ap (r : M (List Ent)) (e : Ent) (ρ : DEnv) : kC1 r e ρ = evM (VL.arg e ρ) (kC2 r) := rfl
theorem evM_evM {γ : Type} (r : OR α) (k : α → DEnv → OR β) (k' : β → DEnv → OR γ) : evM (evM r k) k' = evM r fun a ρ => evM (k a ρ) k' := by
  unfold evM
  cases r with
  | none => rfl
  | some x => cases x <;> rfl
@[simp ↓] theorem fCons_ap (f : M Ent) (r : M (List Ent)) (ρ : DEnv) : fCons f r ρ = evM (f ρ) (kC1 r) := by
  unfold fCons
  rw [bnd_eq, fArg_ap, evM_evM]
  congr 1
@[simp] theorem pys_nil : pys [] = some [] := rfl
def consO (p : α) : Option (List α) → Option (List α)
  | some ps => some (p :: ps)
  | none => none
@[simp] theorem consO_some (p : α) (ps : List α) : consO p (some ps) = some (p :: ps) := rfl
@[simp] theorem pys_cons (p : PyData) (es : List Ent) : pys (.sh (.py p) :: es) = consO p (pys es) := by
  show (match pys es with | some ps => some (p :: ps) | none => none) = _
  cases pys es <;> rfl
def tupO (ρ : DEnv) : Option (List PyData) → OR Ent
  | some ps => if ps.length ≤ 1000 then some (.ok (py (.tuple ps)) ρ) else none
  | none => none
@[simp] theorem tupO_some (ρ : DEnv) (ps : List PyData) : tupO ρ (some ps) = if ps.length ≤ 1000 then some (.ok (py (.tuple ps)) ρ) else none := rfl
def kTup (es : List Ent) (ρ : DEnv) : OR Ent := tupO ρ (pys es)
@[simp ↓] theorem kTup_ap (es : List Ent) (ρ : DEnv) : kTup es ρ = tupO ρ (pys es) := rfl
@[simp ↓] theorem fTup_ap (r : M (List Ent)) (ρ : DEnv) : fTup r ρ = evM (r ρ) kTup := by
  unfold fTup
  rw [bnd_eq]
  congr 1
def lstO (ρ : DEnv) : Option (List PyData) → OR Ent
  | some ps => if ps.length ≤ 1000 then some (.ok (.own (.list ps) false) ρ) else none
  | none => none
@[simp] theorem lstO_some (ρ : DEnv) (ps : List PyData) : lstO ρ (some ps) = if ps.length ≤ 1000 then some (.ok (.own (.list ps) false) ρ) else none := rfl
def kLst (es : List Ent) (ρ : DEnv) : OR Ent := lstO ρ (pys es)
@[simp ↓] theorem kLst_ap (es : List Ent) (ρ : DEnv) : kLst es ρ = lstO ρ (pys es) := rfl
@[simp ↓] theorem fLst_ap (r : M (List Ent)) (ρ : DEnv) : fLst r ρ = evM (r ρ) kLst := by
  unfold fLst
  rw [bnd_eq]
  congr 1
/-! operators -/
section
variable (ρ : DEnv) (x y : Ent)
/-- an operation by the data -/
def by2 (k : PyData → PyData → Option Ent) : Option PyData → Option PyData → Option Ent
  | some p, some q => k p q
  | _, _ => none
@[simp] theorem by2_some (k : PyData → PyData → Option Ent) (p q : PyData) : by2 k (some p) (some q) = k p q := rfl
def by1 (k : PyData → Option Ent) : Option PyData → Option Ent
  | some p => k p
  | _ => none
@[simp] theorem by1_some (k : PyData → Option Ent) (p : PyData) : by1 k (some p) = k p := rfl
def dAdd : PyData → PyData → Option Ent
  | .int i, .int j => some (py (.int (i + j)))
  | .str s, .str t => if s.length + t.length ≤ big then some (py (.str (s ++ t))) else none
  | .list xs, .list ys => if xs.length + ys.length ≤ big then some (.own (.list (xs ++ ys)) false) else none
  | .tuple xs, .tuple ys => if xs.length + ys.length ≤ big then some (py (.tuple (xs ++ ys))) else none
  | _, _ => none
@[simp ↓] theorem oAdd_by : oAdd ρ x y = by2 dAdd (rd ρ x) (rd ρ y) := by
  unfold oAdd
  cases rd ρ x with
  | none => rfl
  | some p =>
    cases rd ρ y with
    | none => cases p <;> rfl
    | some q => cases p <;> cases q <;> rfl
@[simp] theorem dAdd_int (i j : Int) : dAdd (.int i) (.int j) = some (py (.int (i + j))) := rfl
@[simp] theorem dAdd_str (s t : Str) : dAdd (.str s) (.str t) = if s.length + t.length ≤ big then some (py (.str (s ++ t))) else none := rfl
@[simp] theorem dAdd_list (s t : List PyData) : dAdd (.list s) (.list t) = if s.length + t.length ≤ big then some (.own (.list (s ++ t)) false) else none := rfl
@[simp] theorem dAdd_tuple (s t : List PyData) : dAdd (.tuple s) (.tuple t) = if s.length + t.length ≤ big then some (py (.tuple (s ++ t))) else none := rfl
def dSub : PyData → PyData → Option Ent
  | .int i, .int j => some (py (.int (i - j)))
  | _, _ => none
@[simp ↓] theorem oSub_by : oSub ρ x y = by2 dSub (rd ρ x) (rd ρ y) := by
  unfold oSub
  cases rd ρ x with
  | none => rfl
  | some p =>
    cases rd ρ y with
    | none => cases p <;> rfl
    | some q => cases p <;> cases q <;> rfl
@[simp] theorem dSub_int (i j : Int) : dSub (.int i) (.int j) = some (py (.int (i - j))) := rfl
def dMul : PyData → PyData → Option Ent
  | .int i, .int j => if (-(2 ^ 64) < i ∧ i < 2 ^ 64) ∨ (-(2 ^ 64) < j ∧ j < 2 ^ 64) then some (py (.int (i * j))) else none
  | .list xs, .int j => if 0 ≤ j ∧ j < 1000000 ∧ xs.length * j.toNat ≤ big then some (.own (.list (List.replicate j.toNat xs).flatten) false) else none
  | _, _ => none
@[simp ↓] theorem oMul_by : oMul ρ x y = by2 dMul (rd ρ x) (rd ρ y) := by
  unfold oMul
  cases rd ρ x with
  | none => rfl
  | some p =>
    cases rd ρ y with
    | none => cases p <;> rfl
    | some q => cases p <;> cases q <;> rfl
@[simp] theorem dMul_int (i j : Int) : dMul (.int i) (.int j) = if (-(2 ^ 64) < i ∧ i < 2 ^ 64) ∨ (-(2 ^ 64) < j ∧ j < 2 ^ 64) then some (py (.int (i * j))) else none := rfl
@[simp] theorem dMul_list (xs : List PyData) (j : Int) : dMul (.list xs) (.int j) = if 0 ≤ j ∧ j < 1000000 ∧ xs.length * j.toNat ≤ big then some (.own (.list (List.replicate j.toNat xs).flatten) false) else none := rfl
def dMod : PyData → PyData → Option Ent
  | .int i, .int j => if 0 < j then some (py (.int (i % j))) else none
  | _, _ => none
@[simp ↓] theorem oMod_by : oMod ρ x y = by2 dMod (rd ρ x) (rd ρ y) := by
  unfold oMod
  cases rd ρ x with
  | none => rfl
  | some p =>
    cases rd ρ y with
    | none => cases p <;> rfl
    | some q => cases p <;> cases q <;> rfl
@[simp] theorem dMod_int (i j : Int) : dMod (.int i) (.int j) = if 0 < j then some (py (.int (i % j))) else none := rfl
def dDiv : PyData → PyData → Option Ent
  | .int i, .int j => if 0 < j ∧ j < 1073741824 then some (py (.int (i / j))) else none
  | _, _ => none
@[simp ↓] theorem oDiv_by : oDiv ρ x y = by2 dDiv (rd ρ x) (rd ρ y) := by
  unfold oDiv
  cases rd ρ x with
  | none => rfl
  | some p =>
    cases rd ρ y with
    | none => cases p <;> rfl
    | some q => cases p <;> cases q <;> rfl
@[simp] theorem dDiv_int (i j : Int) : dDiv (.int i) (.int j) = if 0 < j ∧ j < 1073741824 then some (py (.int (i / j))) else none := rfl
def dNeg : PyData → Option Ent
  | .int i => some (py (.int (-i)))
  | _ => none
@[simp ↓] theorem oNeg_by : oNeg ρ x = by1 dNeg (rd ρ x) := by
  unfold oNeg
  cases rd ρ x with
  | none => rfl
  | some p => cases p <;> rfl
@[simp] theorem dNeg_int (i : Int) : dNeg (.int i) = some (py (.int (-i))) := rfl
def dEq (p q : PyData) : Option Ent := if eqOk p q = true then some (py (.bool (PyData.eqv p q))) else none
def dNe (p q : PyData) : Option Ent := if eqOk p q = true then some (py (.bool (!PyData.eqv p q))) else none
@[simp ↓] theorem oEq_by : oEq ρ x y = by2 dEq (rd ρ x) (rd ρ y) := by
  unfold oEq
  cases rd ρ x with
  | none => rfl
  | some p => cases rd ρ y <;> rfl
@[simp ↓] theorem oNe_by : oNe ρ x y = by2 dNe (rd ρ x) (rd ρ y) := by
  unfold oNe
  cases rd ρ x with
  | none => rfl
  | some p => cases rd ρ y <;> rfl
@[simp] theorem dEq_int (i j : Int) : dEq (.int i) (.int j) = some (py (.bool (i == j))) := by simp [dEq, eqOk, scalP]
@[simp] theorem dEq_str (i j : Str) : dEq (.str i) (.str j) = some (py (.bool (i == j))) := by simp [dEq, eqOk, scalP]
@[simp] theorem dEq_bool (i j : Bool) : dEq (.bool i) (.bool j) = some (py (.bool (i == j))) := by simp [dEq, eqOk, scalP]
@[simp] theorem dNe_int (i j : Int) : dNe (.int i) (.int j) = some (py (.bool (!(i == j)))) := by simp [dNe, eqOk, scalP]
@[simp] theorem dNe_str (i j : Str) : dNe (.str i) (.str j) = some (py (.bool (!(i == j)))) := by simp [dNe, eqOk, scalP]
@[simp] theorem dNe_bool (i j : Bool) : dNe (.bool i) (.bool j) = some (py (.bool (!(i == j)))) := by simp [dNe, eqOk, scalP]
theorem dEq_ok {p q : PyData} (h1 : SeqAt.shaped p = true) (h2 : SeqAt.shaped q = true) : dEq p q = some (py (.bool (PyData.eqv p q))) := by simp [dEq, eqOk, h1, h2]
theorem dNe_ok {p q : PyData} (h1 : SeqAt.shaped p = true) (h2 : SeqAt.shaped q = true) : dNe p q = some (py (.bool (!PyData.eqv p q))) := by simp [dNe, eqOk, h1, h2]
def dI (f : Int → Int → Bool) : PyData → PyData → Option Ent
  | .int i, .int j => some (py (.bool (f i j)))
  | _, _ => none
theorem oI_by (f : Int → Int → Bool) : oI f ρ x y = by2 (dI f) (rd ρ x) (rd ρ y) := by
  unfold oI
  cases rd ρ x with
  | none => rfl
  | some p =>
    cases rd ρ y with
    | none => cases p <;> rfl
    | some q => cases p <;> cases q <;> rfl
@[simp ↓] theorem oLt_by : oLt ρ x y = by2 (dI fun i j => decide (i < j)) (rd ρ x) (rd ρ y) := oI_by ..
@[simp ↓] theorem oLe_by : oLe ρ x y = by2 (dI fun i j => decide (i ≤ j)) (rd ρ x) (rd ρ y) := oI_by ..
@[simp ↓] theorem oGt_by : oGt ρ x y = by2 (dI fun i j => decide (j < i)) (rd ρ x) (rd ρ y) := oI_by ..
@[simp ↓] theorem oGe_by : oGe ρ x y = by2 (dI fun i j => decide (j ≤ i)) (rd ρ x) (rd ρ y) := oI_by ..
@[simp] theorem dI_int (f : Int → Int → Bool) (i j : Int) : dI f (.int i) (.int j) = some (py (.bool (f i j))) := rfl
@[simp] theorem oIsN_py (neg : Bool) (p : PyData) : oIsN neg ρ (.sh (.py p)) = some (py (.bool (isNo p != neg))) := rfl
def dIn (neg : Bool) : PyData → PyData → Option Ent
  | p, .list ds => if inOk p ds true = true then some (py (.bool (memP p ds != neg))) else none
  | p, .tuple ds => if inOk p ds false = true then some (py (.bool (memP p ds != neg))) else none
  | .str s, .str t => match s.cps.toList with
    | [n] => some (py (.bool (decide (n ∈ t.cps.toList) != neg)))
    | _ => none
  | _, _ => none
@[simp ↓] theorem oIn_by (neg : Bool) : oIn neg ρ x y = by2 (dIn neg) (rd ρ x) (rd ρ y) := by
  unfold oIn
  cases rd ρ x with
  | none => cases rd ρ y <;> rfl
  | some p =>
    cases rd ρ y with
    | none => cases p <;> rfl
    | some q => cases q <;> cases p <;> rfl
@[simp] theorem dIn_list (neg : Bool) (p : PyData) (ds : List PyData) : dIn neg p (.list ds) = if inOk p ds true = true then some (py (.bool (memP p ds != neg))) else none := by cases p <;> rfl
@[simp] theorem dIn_tuple (neg : Bool) (p : PyData) (ds : List PyData) : dIn neg p (.tuple ds) = if inOk p ds false = true then some (py (.bool (memP p ds != neg))) else none := by cases p <;> rfl
@[simp] theorem dIn_str (neg : Bool) (n : Nat) (t : Str) : dIn neg (.str ⟨#[n]⟩) (.str t) = some (py (.bool (decide (n ∈ t.cps.toList) != neg))) := rfl
theorem inOk_flat {p : PyData} {ds : List PyData} {l : Bool} (h1 : flatP p = true) (h2 : ds.all flatP = true) : inOk p ds l = true := by simp [inOk, h1, h2]
theorem inOk_shaped {p : PyData} {ds : List PyData} (h1 : SeqAt.shaped p = true) (h2 : SeqAt.shaped (.list ds) = true) : inOk p ds true = true := by simp [inOk, h1, h2]
/-! subscripts -/
def dIx : PyData → PyData → Option Ent
  | .list ds, .int i => (L2.atI ds i).map py
  | .tuple ds, .int i => (L2.atI ds i).map py
  | .str s, .int i => if s.length ≤ big then (L2.atI s.cps.toList i).map fun n => py (.str ⟨#[n]⟩) else none
  | _, _ => none
@[simp ↓] theorem oIx_scr (ns : List Int) (i : Int) : oIx ρ (.sh (.scr ns)) (.sh (.py (.int i))) = (L2.atI ns i).map fun n => py (.int n) := rfl
@[simp ↓] theorem oIx_py (p : PyData) : oIx ρ (.sh (.py p)) y = by2 dIx (some p) (rd ρ y) := by
  unfold oIx
  cases rd ρ y with
  | none => rfl
  | some q => cases q <;> first | rfl | (cases p <;> rfl)
@[simp ↓] theorem oIx_own (p : PyData) (b : Bool) : oIx ρ (.own p b) y = by2 dIx (some p) (rd ρ y) := by
  unfold oIx
  cases rd ρ y with
  | none => rfl
  | some q => cases q <;> first | rfl | (cases p <;> rfl)
@[simp ↓] theorem oIx_lnk (i : Nat) : oIx ρ (.lnk i) y = by2 dIx (lnkE ρ[i]?) (rd ρ y) := by
  rw [← rd_lnk]
  unfold oIx
  cases rd ρ y with
  | none => cases rd ρ (.lnk i) <;> rfl
  | some q =>
    cases rd ρ (.lnk i) with
    | none => cases q <;> rfl
    | some p => cases q <;> cases p <;> rfl
@[simp] theorem dIx_list (ds : List PyData) (i : Int) : dIx (.list ds) (.int i) = (L2.atI ds i).map py := rfl
@[simp] theorem dIx_tuple (ds : List PyData) (i : Int) : dIx (.tuple ds) (.int i) = (L2.atI ds i).map py := rfl
@[simp] theorem dIx_str (s : Str) (i : Int) : dIx (.str s) (.int i) = if s.length ≤ big then (L2.atI s.cps.toList i).map fun n => py (.str ⟨#[n]⟩) else none := rfl
/-! slices -/
@[simp] theorem fNoP_ap : fNoP ρ = some (.ok none ρ) := rfl
def intE (r : Option PyData) (ρ : DEnv) : OR (Option Int) := match r with
  | some (.int b) => some (.ok (some b) ρ)
  | _ => none
@[simp] theorem intE_int (b : Int) : intE (some (.int b)) ρ = some (.ok (some b) ρ) := rfl
def kP (x : Ent) (ρ : DEnv) : OR (Option Int) := intE (rd ρ x) ρ
@[simp ↓] theorem kP_ap : kP x ρ = intE (rd ρ x) ρ := rfl
@[simp ↓] theorem fP_ap (f : M Ent) : fP f ρ = evM (f ρ) kP := by
  unfold fP
  rw [bnd_eq]
  congr 1
def dSl (lo hi : Option Int) : PyData → Option Ent
  | .list ds => some (.own (.list (cutL ds lo hi)) false)
  | .tuple ds => some (py (.tuple (cutL ds lo hi)))
  | .str s => if s.length ≤ big then some (py (.str (cutS s lo hi))) else none
  | _ => none
@[simp ↓] theorem oSl_by (lo hi : Option Int) : oSl ρ x lo hi = by1 (dSl lo hi) (rd ρ x) := by
  unfold oSl
  cases rd ρ x with
  | none => rfl
  | some p => cases p <;> rfl
@[simp] theorem dSl_list (lo hi : Option Int) (ds : List PyData) : dSl lo hi (.list ds) = some (.own (.list (cutL ds lo hi)) false) := rfl
@[simp] theorem dSl_tuple (lo hi : Option Int) (ds : List PyData) : dSl lo hi (.tuple ds) = some (py (.tuple (cutL ds lo hi))) := rfl
@[simp] theorem dSl_str (lo hi : Option Int) (s : Str) : dSl lo hi (.str s) = if s.length ≤ big then some (py (.str (cutS s lo hi))) else none := rfl
def kSl3 (x : Ent) (lo hi : Option Int) (ρ : DEnv) : OR Ent := out ρ (oSl ρ x lo hi)
@[simp ↓] theorem kSl3_ap (lo hi : Option Int) : kSl3 x lo hi ρ = out ρ (oSl ρ x lo hi) := rfl
def kSl2 (h : M (Option Int)) (x : Ent) (lo : Option Int) (ρ : DEnv) : OR Ent := evM (h ρ) (kSl3 x lo)
@[simp ↓] theorem kSl2_ap (h : M (Option Int)) (lo : Option Int) : kSl2 h x lo ρ = evM (h ρ) (kSl3 x lo) := rfl
def kSl1 (l h : M (Option Int)) (x : Ent) (ρ : DEnv) : OR Ent := evM (l ρ) (kSl2 h x)
@[simp ↓] theorem kSl1_ap (l h : M (Option Int)) : kSl1 l h x ρ = evM (l ρ) (kSl2 h x) := rfl
@[simp ↓] theorem fSl_ap (f : M Ent) (l h : M (Option Int)) : fSl f l h ρ = evM (f ρ) (kSl1 l h) := by
  unfold fSl
  rw [bnd_eq]
  congr 1
  funext x ρ1
  rw [bnd_eq]
  unfold kSl1
  congr 1
  funext lo ρ2
  rw [bnd_eq]
  unfold kSl2
  congr 1
  funext hi ρ3
  exact liftO_eq _ _
/-! built-ins -/
def kBl (o : OpL) (es : List Ent) (ρ : DEnv) : OR Ent := out ρ (o ρ es)
@[simp ↓] theorem kBl_ap (o : OpL) (es : List Ent) : kBl o es ρ = out ρ (o ρ es) := rfl
@[simp ↓] theorem fBl_ap (o : OpL) (r : M (List Ent)) : fBl o r ρ = evM (r ρ) (kBl o) := by
  unfold fBl
  rw [bnd_eq]
  congr 1
  funext es ρ'
  exact liftO_eq _ _
def dLen : PyData → Option Ent
  | .list ds => some (py (.int ds.length))
  | .tuple ds => some (py (.int ds.length))
  | .str s => if s.length ≤ big then some (py (.int s.length)) else none
  | _ => none
@[simp ↓] theorem oLen_scr (ns : List Int) : oLen ρ [.sh (.scr ns)] = some (py (.int ns.length)) := rfl
@[simp ↓] theorem oLen_py (p : PyData) : oLen ρ [.sh (.py p)] = dLen p := by cases p <;> rfl
@[simp ↓] theorem oLen_lnk (i : Nat) : oLen ρ [.lnk i] = by1 dLen (lnkE ρ[i]?) := by
  rw [← rd_lnk]
  unfold oLen
  dsimp only
  cases rd ρ (.lnk i) with
  | none => rfl
  | some p => cases p <;> rfl
@[simp] theorem dLen_list (ds : List PyData) : dLen (.list ds) = some (py (.int ds.length)) := rfl
@[simp] theorem dLen_tuple (ds : List PyData) : dLen (.tuple ds) = some (py (.int ds.length)) := rfl
@[simp] theorem dLen_str (s : Str) : dLen (.str s) = if s.length ≤ big then some (py (.int s.length)) else none := rfl
def dList : PyData → Option Ent
  | .list ds => some (.own (.list ds) false)
  | .tuple ds => some (.own (.list ds) false)
  | _ => none
@[simp ↓] theorem oList_by : oList ρ [x] = by1 dList (rd ρ x) := by
  unfold oList
  dsimp only
  cases rd ρ x with
  | none => rfl
  | some p => cases p <;> rfl
@[simp] theorem dList_list (ds : List PyData) : dList (.list ds) = some (.own (.list ds) false) := rfl
@[simp] theorem dList_tuple (ds : List PyData) : dList (.tuple ds) = some (.own (.list ds) false) := rfl
def dTuple : PyData → Option Ent
  | .list ds => some (py (.tuple ds))
  | .tuple ds => some (py (.tuple ds))
  | _ => none
@[simp ↓] theorem oTuple_by : oTuple ρ [x] = by1 dTuple (rd ρ x) := by
  unfold oTuple
  dsimp only
  cases rd ρ x with
  | none => rfl
  | some p => cases p <;> rfl
@[simp] theorem dTuple_list (ds : List PyData) : dTuple (.list ds) = some (py (.tuple ds)) := rfl
@[simp] theorem dTuple_tuple (ds : List PyData) : dTuple (.tuple ds) = some (py (.tuple ds)) := rfl
def dQuant (q : List Bool → Bool) : PyData → Option Ent
  | .list ds => (bools ds).map fun bs => py (.bool (q bs))
  | _ => none
@[simp ↓] theorem oQuant_by (q : List Bool → Bool) : oQuant q ρ [x] = by1 (dQuant q) (rd ρ x) := by
  unfold oQuant
  dsimp only
  cases rd ρ x with
  | none => rfl
  | some p => cases p <;> rfl
@[simp] theorem dQuant_list (q : List Bool → Bool) (bs : List Bool) : dQuant q (.list (bs.map .bool)) = some (py (.bool (q bs))) := by
  unfold dQuant
  simp only
  rw [bools_map]
  rfl
@[simp] theorem fTy_ap (n : String) : fTy n ρ = some (.ok (.sh (.ty n)) ρ) := rfl
def dIsi (n : String) : PyData → Option Ent
  | .dict _ => none
  | p => (isiT p n).map fun b => py (.bool b)
@[simp ↓] theorem oIsi_by (n : String) : oIsi ρ [x, .sh (.ty n)] = by1 (dIsi n) (rd ρ x) := by
  unfold oIsi
  dsimp only
  cases rd ρ x with
  | none => rfl
  | some p => cases p <;> rfl
@[simp] theorem dIsi_bool (n : String) (b : Bool) : dIsi n (.bool b) = (isiT (.bool b) n).map fun b => py (.bool b) := rfl
@[simp] theorem dIsi_int (n : String) (b : Int) : dIsi n (.int b) = (isiT (.int b) n).map fun b => py (.bool b) := rfl
@[simp] theorem dIsi_str (n : String) (b : Str) : dIsi n (.str b) = (isiT (.str b) n).map fun b => py (.bool b) := rfl
@[simp] theorem dIsi_none (n : String) : dIsi n .none = (isiT .none n).map fun b => py (.bool b) := rfl
@[simp] theorem dIsi_list (n : String) (b : List PyData) : dIsi n (.list b) = (isiT (.list b) n).map fun b => py (.bool b) := rfl
@[simp] theorem dIsi_tuple (n : String) (b : List PyData) : dIsi n (.tuple b) = (isiT (.tuple b) n).map fun b => py (.bool b) := rfl
def dInt : PyData → Option Ent
  | .int i => some (py (.int i))
  | .bool b => some (py (.int (if b then 1 else 0)))
  | _ => none
@[simp ↓] theorem oInt_by : oInt ρ [x] = by1 dInt (rd ρ x) := by
  unfold oInt
  dsimp only
  cases rd ρ x with
  | none => rfl
  | some p => cases p <;> rfl
@[simp] theorem dInt_int (i : Int) : dInt (.int i) = some (py (.int i)) := rfl
@[simp] theorem dInt_bool (b : Bool) : dInt (.bool b) = some (py (.int (if b then 1 else 0))) := rfl
def dMax2 : PyData → PyData → Option Ent
  | .int i, .int j => some (py (.int (if j > i then j else i)))
  | _, _ => none
@[simp ↓] theorem oMax2_by : oMax2 ρ [x, y] = by2 dMax2 (rd ρ x) (rd ρ y) := by
  unfold oMax2
  dsimp only
  cases rd ρ x with
  | none => cases rd ρ y <;> rfl
  | some p =>
    cases rd ρ y with
    | none => cases p <;> rfl
    | some q => cases p <;> cases q <;> rfl
@[simp] theorem dMax2_int (i j : Int) : dMax2 (.int i) (.int j) = some (py (.int (if j > i then j else i))) := rfl
/-! texts -/
def kM3 (o : Op2) (x y : Ent) (ρ : DEnv) : OR Ent := out ρ (o ρ x y)
@[simp ↓] theorem kM3_ap (o : Op2) : kM3 o x y ρ = out ρ (o ρ x y) := rfl
def kM2 (o : Op2) (g : M Ent) (x : Ent) (_ : Unit) (ρ : DEnv) : OR Ent := evM (g ρ) (kM3 o x)
@[simp ↓] theorem kM2_ap (o : Op2) (g : M Ent) (u : Unit) : kM2 o g x u ρ = evM (g ρ) (kM3 o x) := rfl
def kM1 (o : Op2) (g : M Ent) (x : Ent) (ρ : DEnv) : OR Ent := evM (isStr x ρ) (kM2 o g x)
@[simp ↓] theorem kM1_ap (o : Op2) (g : M Ent) : kM1 o g x ρ = evM (isStr x ρ) (kM2 o g x) := rfl
@[simp ↓] theorem fM1_ap (o : Op2) (f g : M Ent) : fM1 o f g ρ = evM (f ρ) (kM1 o g) := by
  unfold fM1
  rw [bnd_eq]
  congr 1
  funext x ρ1
  rw [bnd_eq]
  unfold kM1
  congr 1
  funext u ρ2
  rw [bnd_eq]
  unfold kM2
  congr 1
  funext y ρ3
  exact liftO_eq _ _
@[simp] theorem isStr_py (s : Str) : isStr (.sh (.py (.str s))) ρ = some (.ok () ρ) := rfl
def dJoin : PyData → PyData → Option Ent
  | .str a, .list ds => match strsD ds with
    | some ys => if (ys.map (·.length)).sum + ys.length * a.length ≤ big then some (py (.str (Txt.join a ys))) else none
    | none => none
  | _, _ => none
@[simp ↓] theorem oJoin_by : oJoin ρ x y = by2 dJoin (rd ρ x) (rd ρ y) := by
  unfold oJoin
  cases rd ρ x with
  | none => rfl
  | some p =>
    cases rd ρ y with
    | none => cases p <;> rfl
    | some q => cases p <;> cases q <;> rfl
@[simp] theorem dJoin_list (a : Str) (ys : List Str) : dJoin (.str a) (.list (ys.map .str)) = if (ys.map (·.length)).sum + ys.length * a.length ≤ big then some (py (.str (Txt.join a ys))) else none := by
  unfold dJoin
  simp only
  rw [strsD_map]
def dSplit : PyData → PyData → Option Ent
  | .str a, .str b => if (b.length == 0) = false ∧ a.length + 2 ≤ big then some (.own (.list ((Txt.split a b).map .str)) false) else none
  | _, _ => none
@[simp ↓] theorem oSplit_by : oSplit ρ x y = by2 dSplit (rd ρ x) (rd ρ y) := by
  unfold oSplit
  cases rd ρ x with
  | none => rfl
  | some p =>
    cases rd ρ y with
    | none => cases p <;> rfl
    | some q => cases p <;> cases q <;> rfl
@[simp] theorem dSplit_str (a b : Str) : dSplit (.str a) (.str b) = if (b.length == 0) = false ∧ a.length + 2 ≤ big then some (.own (.list ((Txt.split a b).map .str)) false) else none := rfl
end
/-! statements -/
section
variable (ρ : DEnv)
def evS (r : OR Fl) (g : S) : OR Fl := match r with
  | some (.ok .nx ρ) => g ρ
  | r => r
@[simp] theorem evS_nx (ρ : DEnv) (g : S) : evS (some (.ok .nx ρ)) g = g ρ := rfl
@[simp] theorem evS_rt (e : Ent) (ρ : DEnv) (g : S) : evS (some (.ok (.rt e) ρ)) g = some (.ok (.rt e) ρ) := rfl
@[simp] theorem evS_bk (ρ : DEnv) (g : S) : evS (some (.ok .bk ρ)) g = some (.ok .bk ρ) := rfl
@[simp] theorem evS_ct (ρ : DEnv) (g : S) : evS (some (.ok .ct ρ)) g = some (.ok .ct ρ) := rfl
@[simp] theorem evS_exc (j : Nat) (ρ : DEnv) (g : S) : evS (some (.exc j ρ)) g = some (.exc j ρ) := rfl
@[simp] theorem evS_none (g : S) : evS none g = none := rfl
@[simp] theorem fNx_ap : fNx ρ = some (.ok .nx ρ) := rfl
@[simp ↓] theorem sq_ap (f g : S) : sq f g ρ = evS (f ρ) g := by
  unfold sq
  rw [bnd_eq]
  unfold evM evS
  cases f ρ with
  | none => rfl
  | some r =>
    cases r with
    | exc j ρ' => rfl
    | ok fl ρ' => cases fl <;> rfl
def kDrop (_ : Ent) (ρ : DEnv) : OR Fl := some (.ok .nx ρ)
@[simp] theorem kDrop_ap (x : Ent) : kDrop x ρ = some (.ok .nx ρ) := rfl
@[simp ↓] theorem fDrop_ap (f : M Ent) : fDrop f ρ = evM (f ρ) kDrop := bnd_eq ..
def kRt (x : Ent) (ρ : DEnv) : OR Fl := some (.ok (.rt x) ρ)
@[simp] theorem kRt_ap (x : Ent) : kRt x ρ = some (.ok (.rt x) ρ) := rfl
@[simp ↓] theorem fRet_ap (f : M Ent) : fRet f ρ = evM (f ρ) kRt := bnd_eq ..
def kIf (f g : S) (b : Bool) (ρ : DEnv) : OR Fl := ifM b f g ρ
@[simp] theorem kIf_ap (f g : S) (b : Bool) : kIf f g b ρ = ifM b f g ρ := rfl
@[simp ↓] theorem fIf_ap (p : M Bool) (f g : S) : fIf p f g ρ = evM (p ρ) (kIf f g) := by
  unfold fIf
  rw [bnd_eq]
  congr 1
  funext b ρ'
  exact fun_ifM
def pinE : Option (Option Ent) → Bool
  | some (some (.own _ true)) => true
  | _ => false
@[simp] theorem pinE_none : pinE none = false := rfl
@[simp] theorem pinE_nn : pinE (some none) = false := rfl
@[simp] theorem pinE_sh (d : D) : pinE (some (some (.sh d))) = false := rfl
@[simp] theorem pinE_own (p : PyData) (b : Bool) : pinE (some (some (.own p b))) = b := by cases b <;> rfl
def setR (i : Nat) (ρ : DEnv) (b : Bool) (e : Ent) : Option DEnv := if b = true then none else match e with
  | .sh d => some (ρ.set i (some (.sh d)))
  | .own p _ => some (ρ.set i (some (.own p false)))
  | .lnk _ => none
@[simp] theorem setR_sh (i : Nat) (ρ : DEnv) (d : D) : setR i ρ false (.sh d) = some (ρ.set i (some (.sh d))) := rfl
@[simp] theorem setR_own (i : Nat) (ρ : DEnv) (p : PyData) (b : Bool) : setR i ρ false (.own p b) = some (ρ.set i (some (.own p false))) := rfl
@[simp ↓] theorem setE_ap (i : Nat) (e : Ent) : setE i e ρ = setR i ρ (pinE ρ[i]?) e := rfl
def nxO (o : Option DEnv) : OR Fl := match o with
  | some ρ => some (.ok .nx ρ)
  | none => none
@[simp] theorem nxO_some : nxO (some ρ) = some (.ok .nx ρ) := rfl
def kSet (i : Nat) (x : Ent) (ρ : DEnv) : OR Fl := nxO (setE i x ρ)
@[simp ↓] theorem kSet_ap (i : Nat) (x : Ent) : kSet i x ρ = nxO (setE i x ρ) := rfl
@[simp ↓] theorem fSet_ap (i : Nat) (f : M Ent) : fSet i f ρ = evM (f ρ) (kSet i) := by
  unfold fSet
  rw [bnd_eq]
  congr 1
@[simp ↓] theorem gNm_ap (i : Nat) (d : PyData) : gNm i d ρ = setE i (py d) ρ := rfl
@[simp] theorem gsNil_ap : gsNil [] ρ = some ρ := rfl
def evD (r : Tgts) (ds : List PyData) (o : Option DEnv) : Option DEnv := match o with
  | some ρ => r ds ρ
  | none => none
@[simp] theorem evD_some (r : Tgts) (ds : List PyData) : evD r ds (some ρ) = r ds ρ := rfl
@[simp ↓] theorem gsCons_ap (g : Tgt) (r : Tgts) (d : PyData) (ds : List PyData) : gsCons g r (d :: ds) ρ = evD r ds (g d ρ) := by
  unfold gsCons evD
  first
    | (simp only; done)
    | (simp only; cases g d ρ <;> rfl)
@[simp ↓] theorem gTp_ap (n : Nat) (g : Tgts) (ds : List PyData) : gTp n g (.tuple ds) ρ = if ds.length = n then g ds ρ else none := rfl
def kAsg (g : Tgt) (x : Ent) (ρ : DEnv) : OR Fl := match x with
  | .sh (.py d) => nxO (g d ρ)
  | _ => none
@[simp] theorem kAsg_py (g : Tgt) (d : PyData) : kAsg g (.sh (.py d)) ρ = nxO (g d ρ) := rfl
@[simp ↓] theorem fAsg_ap (f : M Ent) (g : Tgt) : fAsg f g ρ = evM (f ρ) (kAsg g) := by
  unfold fAsg
  rw [bnd_eq]
  congr 1
/-! what is owned -/
def lstE (r : Option PyData) (k : M Ent) (ρ : DEnv) : OR Ent := match r with
  | some (.list ds) => k ρ
  | _ => none
@[simp] theorem lstE_list (ds : List PyData) (k : M Ent) : lstE (some (.list ds)) k ρ = k ρ := rfl
def kMet2 (o : Ent → List Ent → M Ent) (m : M (List Ent)) (x : Ent) : M Ent := fun ρ => evM (m ρ) (o x)
@[simp ↓] theorem kMet2_ap (o : Ent → List Ent → M Ent) (m : M (List Ent)) (x : Ent) : kMet2 o m x ρ = evM (m ρ) (o x) := rfl
def kMet1 (o : Ent → List Ent → M Ent) (m : M (List Ent)) (x : Ent) (ρ : DEnv) : OR Ent := lstE (rd ρ x) (kMet2 o m x) ρ
@[simp ↓] theorem kMet1_ap (o : Ent → List Ent → M Ent) (m : M (List Ent)) (x : Ent) : kMet1 o m x ρ = lstE (rd ρ x) (kMet2 o m x) ρ := rfl
@[simp ↓] theorem fMet_ap (o : Ent → List Ent → M Ent) (f : M Ent) (m : M (List Ent)) : fMet o f m ρ = evM (f ρ) (kMet1 o m) := by
  unfold fMet
  rw [bnd_eq]
  congr 1
  funext x ρ1
  rw [bnd_eq]
  unfold kMet1 isLst lstE
  cases rd ρ1 x with
  | none => rfl
  | some p => cases p <;> first | rfl | exact bnd_eq ..
def appL (i : Nat) (d : PyData) (ρ : DEnv) (r : Option (Option Ent)) : OR Ent := match r with
  | some (some (.own (.list ds) b)) => if ds.length < big then some (.ok (py .none) (ρ.set i (some (.own (.list (ds ++ [d])) b)))) else none
  | _ => none
@[simp] theorem appL_own (i : Nat) (d : PyData) (ds : List PyData) (b : Bool) : appL i d ρ (some (some (.own (.list ds) b))) = if ds.length < big then some (.ok (py .none) (ρ.set i (some (.own (.list (ds ++ [d])) b)))) else none := rfl
@[simp ↓] theorem appE_ap (i : Nat) (d : PyData) : appE (.lnk i) [.sh (.py d)] ρ = appL i d ρ ρ[i]? := rfl
def kPut3 (x v i : Ent) (ρ : DEnv) : OR Fl := putE x i v ρ
@[simp ↓] theorem kPut3_ap (x v i : Ent) : kPut3 x v i ρ = putE x i v ρ := rfl
def kPut2 (fi : M Ent) (v x : Ent) (ρ : DEnv) : OR Fl := evM (fi ρ) (kPut3 x v)
@[simp ↓] theorem kPut2_ap (fi : M Ent) (v x : Ent) : kPut2 fi v x ρ = evM (fi ρ) (kPut3 x v) := rfl
def kPut1 (fo fi : M Ent) (v : Ent) (ρ : DEnv) : OR Fl := evM (fo ρ) (kPut2 fi v)
@[simp ↓] theorem kPut1_ap (fo fi : M Ent) (v : Ent) : kPut1 fo fi v ρ = evM (fo ρ) (kPut2 fi v) := rfl
@[simp ↓] theorem fPut_ap (fv fo fi : M Ent) : fPut fv fo fi ρ = evM (fSh fv ρ) (kPut1 fo fi) := by
  unfold fPut
  rw [bnd_eq]
  congr 1
def putL (n : Nat) (k : Int) (d : PyData) (ρ : DEnv) (r : Option (Option Ent)) : OR Fl := match r with
  | some (some (.own (.list ds) b)) => match ixN ds.length k with
    | some j => some (.ok .nx (ρ.set n (some (.own (.list (ds.set j d)) b))))
    | none => none
  | _ => none
theorem putL_own (n : Nat) (k : Int) (d : PyData) (ds : List PyData) (b : Bool) {j : Nat} (h : ixN ds.length k = some j) : putL n k d ρ (some (some (.own (.list ds) b))) = some (.ok .nx (ρ.set n (some (.own (.list (ds.set j d)) b)))) := by
  simp only [putL, h]
@[simp] theorem putL_zero (n : Nat) (d x : PyData) (ds : List PyData) (b : Bool) : putL n 0 d ρ (some (some (.own (.list (x :: ds)) b))) = some (.ok .nx (ρ.set n (some (.own (.list (d :: ds)) b)))) := by
  rw [putL_own (j := 0)]
  · rfl
  · unfold ixN
    rw [if_pos (by decide), if_pos (by simp only [List.length_cons]; omega)]
    rfl
@[simp ↓] theorem putE_ap (n : Nat) (k : Int) (d : PyData) : putE (.lnk n) (.sh (.py (.int k))) (.sh (.py d)) ρ = putL n k d ρ ρ[n]? := rfl
/-! loops -/
@[simp] theorem items_list (ds : List PyData) : items (.sh (.py (.list ds))) ρ = some (.ok ds ρ) := rfl
@[simp] theorem items_tuple (ds : List PyData) : items (.sh (.py (.tuple ds))) ρ = some (.ok ds ρ) := rfl
@[simp] theorem items_str (s : Str) : items (.sh (.py (.str s))) ρ = some (.ok (signs s) ρ) := rfl
@[simp ↓] theorem fItems_ap (f : M Ent) : fItems f ρ = evM (fSh f ρ) items := bnd_eq ..
@[simp ↓] theorem fFor_ap (src : M (List PyData)) (tg : Tgt) (body : S) : fFor src tg body ρ = evM (src ρ) (forGo tg body) := bnd_eq ..
@[simp] theorem rng1_ap (j : Int) : rng1 [.sh (.py (.int j))] ρ = if inRng j = true then some (.ok (intsD 0 1 j.toNat) ρ) else none := rfl
@[simp] theorem rng2_ap (i j : Int) : rng2 [.sh (.py (.int i)), .sh (.py (.int j))] ρ = if (inRng i && inRng j) = true then some (.ok (intsD i 1 (j - i).toNat) ρ) else none := rfl
@[simp] theorem rng3_ap (i j : Int) : rng3 [.sh (.py (.int i)), .sh (.py (.int j)), .sh (.py (.int (-1)))] ρ = if (inRng i && inRng j) = true then some (.ok (intsD i (-1) (i - j).toNat) ρ) else none := rfl
@[simp] theorem zipE_ap (xs ys : List PyData) : zipE [.sh (.py (.list xs)), .sh (.py (.list ys))] ρ = some (.ok (pairs xs ys) ρ) := rfl
@[simp] theorem enumE_ap (xs : List PyData) : enumE [.sh (.py (.list xs))] ρ = some (.ok (enumD xs) ρ) := rfl
/-! defs -/
def rtF (io : Option PyData) (r : Option Ent) : Option FR := match io, r with
  | some o, some r => some (.ok r o)
  | _, _ => none
@[simp] theorem rtF_some (o : PyData) (r : Ent) : rtF (some o) (some r) = some (.ok r o) := rfl
def excF (j : Nat) : Option PyData → Option FR
  | some o => some (.exc j o)
  | _ => none
@[simp] theorem excF_some (j : Nat) (o : PyData) : excF j (some o) = some (.exc j o) := rfl
def finF (io : Option Nat) (r : OR Fl) : Option FR := match r with
  | some (.ok .nx ρ) => rtF (outOf io ρ) (some (py .none))
  | some (.ok (.rt e) ρ) => rtF (outOf io ρ) (resE ρ e)
  | some (.exc k ρ) => excF k (outOf io ρ)
  | _ => none
@[simp] theorem finF_nx (io : Option Nat) : finF io (some (.ok .nx ρ)) = rtF (outOf io ρ) (some (py .none)) := rfl
@[simp] theorem finF_rt (io : Option Nat) (e : Ent) : finF io (some (.ok (.rt e) ρ)) = rtF (outOf io ρ) (resE ρ e) := rfl
@[simp] theorem finF_exc (io : Option Nat) (k : Nat) : finF io (some (.exc k ρ)) = excF k (outOf io ρ) := rfl
theorem fnOf_eq (n : Nat) (io : Option Nat) (body : S) (ds : List D) : fnOf n io body ds = finF io (body (argE io ds ++ List.replicate (n - ds.length) none)) := by
  unfold fnOf finF
  cases body (argE io ds ++ List.replicate (n - ds.length) none) with
  | none => rfl
  | some r =>
    cases r with
    | exc k ρ => cases h : outOf io ρ <;> simp [excF, h]
    | ok fl ρ =>
      cases fl with
      | nx => cases h : outOf io ρ <;> simp [rtF, h]
      | rt e => cases h : outOf io ρ <;> cases h2 : resE ρ e <;> simp [rtF, h, h2]
      | bk => rfl
      | ct => rfl
@[simp] theorem argE_nil (io : Option Nat) : argE io [] = [] := by cases io with
  | none => rfl
  | some n => cases n <;> rfl
@[simp] theorem argE_none (d : D) (ds : List D) : argE none (d :: ds) = some (.sh d) :: argE none ds := rfl
@[simp] theorem argE_zero (p : PyData) (ds : List D) : argE (some 0) (.py p :: ds) = some (.own p true) :: argE none ds := rfl
@[simp] theorem argE_one (d : D) (ds : List D) : argE (some 1) (d :: ds) = some (.sh d) :: argE (some 0) ds := rfl
@[simp] theorem outOf_none : outOf none ρ = some .none := rfl
def outE : Option (Option Ent) → Option PyData
  | some (some (.own p true)) => some p
  | _ => none
@[simp] theorem outE_own (p : PyData) : outE (some (some (.own p true))) = some p := rfl
@[simp ↓] theorem outOf_some (i : Nat) : outOf (some i) ρ = outE ρ[i]? := rfl
@[simp] theorem resE_sh (d : D) : resE ρ (.sh d) = some (.sh d) := rfl
@[simp] theorem resE_own (p : PyData) (b : Bool) : resE ρ (.own p b) = some (.own p false) := rfl
def resL : Option (Option Ent) → Option Ent
  | some (some (.own p false)) => some (.own p false)
  | _ => none
@[simp] theorem resL_own (p : PyData) : resL (some (some (.own p false))) = some (.own p false) := rfl
@[simp ↓] theorem resE_lnk (i : Nat) : resE ρ (.lnk i) = resL ρ[i]? := rfl
/-! calls -/
@[simp] theorem callA_nil (io : Option Nat) : callA io ρ [] = some [] := rfl
@[simp] theorem callA_none (d : D) (es : List Ent) : callA none ρ (.sh d :: es) = consO d (callA none ρ es) := by
  rw [callA]
  simp only [arg1, ioTl]
  cases callA none ρ es <;> rfl
def pyO : Option PyData → Option (List D) → Option (List D)
  | some p, some ds => some (.py p :: ds)
  | _, _ => none
@[simp] theorem pyO_some (p : PyData) (ds : List D) : pyO (some p) (some ds) = some (.py p :: ds) := rfl
@[simp ↓] theorem callA_zero (i : Nat) (es : List Ent) : callA (some 0) ρ (.lnk i :: es) = pyO (lnkE ρ[i]?) (callA none ρ es) := by
  rw [callA]
  simp only [arg1, ioTl]
  cases h : ρ[i]? with
  | none => cases callA none ρ es <;> rfl
  | some o =>
    cases o with
    | none => cases callA none ρ es <;> rfl
    | some e => cases e <;> cases callA none ρ es <;> rfl
@[simp] theorem callA_one (d : D) (es : List Ent) : callA (some 1) ρ (.sh d :: es) = consO d (callA (some 0) ρ es) := by
  rw [callA]
  simp only [arg1, ioTl]
  cases callA (some 0) ρ es <;> rfl
def ownB (o : PyData) (j : Nat) (ρ : DEnv) : Option (Option Ent) → DEnv
  | some (some (.own _ b)) => ρ.set j (some (.own o b))
  | _ => ρ
@[simp] theorem ownB_own (o p : PyData) (j : Nat) (b : Bool) : ownB o j ρ (some (some (.own p b))) = ρ.set j (some (.own o b)) := rfl
@[simp] theorem callO_none (es : List Ent) (o : PyData) : callO none es o ρ = ρ := rfl
@[simp ↓] theorem callO_one (e : Ent) (j : Nat) (es : List Ent) (o : PyData) : callO (some 1) (e :: .lnk j :: es) o ρ = ownB o j ρ ρ[j]? := rfl
@[simp ↓] theorem callO_zero (j : Nat) (es : List Ent) (o : PyData) : callO (some 0) (.lnk j :: es) o ρ = ownB o j ρ ρ[j]? := rfl
/-- what a callee hands back -/
def evF (io : Option Nat) (es : List Ent) (ρ : DEnv) (r : Option FR) : OR Ent := match r with
  | some (.ok (.sh d) o) => some (.ok (.sh d) (callO io es o ρ))
  | some (.ok (.own p b) o) => some (.ok (.own p b) (callO io es o ρ))
  | some (.exc j o) => some (.exc j (callO io es o ρ))
  | _ => none
@[simp] theorem evF_sh (io : Option Nat) (es : List Ent) (d : D) (o : PyData) : evF io es ρ (some (.ok (.sh d) o)) = some (.ok (.sh d) (callO io es o ρ)) := rfl
@[simp] theorem evF_own (io : Option Nat) (es : List Ent) (p : PyData) (b : Bool) (o : PyData) : evF io es ρ (some (.ok (.own p b) o)) = some (.ok (.own p b) (callO io es o ρ)) := rfl
@[simp] theorem evF_exc (io : Option Nat) (es : List Ent) (j : Nat) (o : PyData) : evF io es ρ (some (.exc j o)) = some (.exc j (callO io es o ρ)) := rfl
def caO (n : Nat) (io : Option Nat) (fn : Fn) (es : List Ent) (ρ : DEnv) : Option (List D) → OR Ent
  | some ds => if ds.length = n then evF io es ρ (fn ds) else none
  | none => none
@[simp] theorem caO_some (n : Nat) (io : Option Nat) (fn : Fn) (es : List Ent) (ds : List D) : caO n io fn es ρ (some ds) = if ds.length = n then evF io es ρ (fn ds) else none := rfl
def kCall (n : Nat) (io : Option Nat) (fn : Fn) (es : List Ent) (ρ : DEnv) : OR Ent := caO n io fn es ρ (callA io ρ es)
@[simp ↓] theorem kCall_ap (n : Nat) (io : Option Nat) (fn : Fn) (es : List Ent) : kCall n io fn es ρ = caO n io fn es ρ (callA io ρ es) := rfl
@[simp ↓] theorem fCall_ap (n : Nat) (io : Option Nat) (fn : Fn) (m : M (List Ent)) : fCall n io fn m ρ = evM (m ρ) (kCall n io fn) := by
  unfold fCall
  rw [bnd_eq]
  congr 1
  funext es ρ'
  unfold callE kCall caO
  cases callA io ρ' es with
  | none => rfl
  | some ds =>
    simp only
    split
    · cases fn ds with
      | none => rfl
      | some r =>
        cases r with
        | exc k o => rfl
        | ok r o => cases r <;> rfl
    · rfl
@[simp] theorem fRaise_ap (k : Nat) : fRaise k ρ = some (.exc k ρ) := rfl
def whE (p : M Bool) (body : S) (n : Nat) : OR Fl → OR Fl
  | some (.ok .nx ρ2) => fWhile p body n ρ2
  | some (.ok .ct ρ2) => fWhile p body n ρ2
  | some (.ok .bk ρ2) => some (.ok .nx ρ2)
  | r => r
@[simp] theorem whE_nx (p : M Bool) (body : S) (n : Nat) : whE p body n (some (.ok .nx ρ)) = fWhile p body n ρ := rfl
@[simp] theorem whE_ct (p : M Bool) (body : S) (n : Nat) : whE p body n (some (.ok .ct ρ)) = fWhile p body n ρ := rfl
@[simp] theorem whE_bk (p : M Bool) (body : S) (n : Nat) : whE p body n (some (.ok .bk ρ)) = some (.ok .nx ρ) := rfl
@[simp] theorem whE_rt (p : M Bool) (body : S) (n : Nat) (e : Ent) : whE p body n (some (.ok (.rt e) ρ)) = some (.ok (.rt e) ρ) := rfl
def kWh (p : M Bool) (body : S) (n : Nat) : S := fun ρ => whE p body n (body ρ)
theorem kWh_ap (p : M Bool) (body : S) (n : Nat) : kWh p body n ρ = whE p body n (body ρ) := rfl
theorem fWhile_succ (p : M Bool) (body : S) (n : Nat) : fWhile p body (n + 1) ρ = evM (p ρ) (kIf (kWh p body n) fNx) := by
  rw [fWhile, bnd_eq]
  congr 1
  funext b ρ1
  rw [fun_ifM]
  cases b with
  | false => rfl
  | true =>
    show bnd body _ ρ1 = whE p body n (body ρ1)
    rw [bnd_eq]
    unfold evM whE
    cases body ρ1 with
    | none => rfl
    | some r =>
      cases r with
      | exc j ρ2 => rfl
      | ok fl ρ2 => cases fl <;> rfl
end
end VL
namespace VL
open PySem L2
/-! ### loops and comprehensions at hand -/
section
variable {β : Type} (ρ : DEnv) (tg : Tgt) (body : S)
@[simp] theorem wipeE_nil : wipeE ρ [] = ρ := rfl
@[simp] theorem wipeE_cons (v : Nat) (vs : List Nat) : wipeE ρ (v :: vs) = (wipeE ρ vs).set v none := rfl
def forB (ds : List PyData) : OR Fl → OR Fl
  | some (.ok .nx ρ2) => forGo tg body ds ρ2
  | some (.ok .ct ρ2) => forGo tg body ds ρ2
  | some (.ok .bk ρ2) => some (.ok .nx ρ2)
  | r => r
@[simp] theorem forB_nx (ds : List PyData) : forB tg body ds (some (.ok .nx ρ)) = forGo tg body ds ρ := rfl
@[simp] theorem forB_ct (ds : List PyData) : forB tg body ds (some (.ok .ct ρ)) = forGo tg body ds ρ := rfl
@[simp] theorem forB_bk (ds : List PyData) : forB tg body ds (some (.ok .bk ρ)) = some (.ok .nx ρ) := rfl
@[simp] theorem forB_rt (ds : List PyData) (e : Ent) : forB tg body ds (some (.ok (.rt e) ρ)) = some (.ok (.rt e) ρ) := rfl
@[simp] theorem forB_exc (ds : List PyData) (j : Nat) : forB tg body ds (some (.exc j ρ)) = some (.exc j ρ) := rfl
def forA (ds : List PyData) : Option DEnv → OR Fl
  | some ρ1 => forB tg body ds (body ρ1)
  | none => none
@[simp] theorem forA_some (ds : List PyData) : forA tg body ds (some ρ) = forB tg body ds (body ρ) := rfl
@[simp] theorem forGo_nil : forGo tg body [] ρ = some (.ok .nx ρ) := rfl
@[simp ↓] theorem forGo_cons (d : PyData) (ds : List PyData) : forGo tg body (d :: ds) ρ = forA tg body ds (tg d ρ) := by
  rw [forGo]
  unfold forA
  cases tg d ρ with
  | none => rfl
  | some ρ1 =>
    unfold forB
    simp only
    cases body ρ1 with
    | none => rfl
    | some r =>
      cases r with
      | exc j ρ2 => rfl
      | ok fl ρ2 => cases fl <;> rfl
variable {src : M (List PyData)} {tt : M Bool} {te : M Ent} {vs : List Nat} {tg} {ρ}
/-- a comprehension whose source changes nothing -/
theorem comp_pure (xs : List β) (g : β → PyData) (h : β → PyData) (hs : src ρ = some (.ok (xs.map g) ρ)) (hl : xs.length ≤ big) (hn : noOwn ρ vs = true)
    (H : ∀ x ∈ xs, ∃ ρ2, tg (g x) (wipeE ρ vs) = some ρ2 ∧ tt ρ2 = some (.ok true ρ2) ∧ fSh te ρ2 = some (.ok (.sh (.py (h x))) ρ2) ∧ wipeE ρ2 vs = wipeE ρ vs) :
    fComp src tg tt te vs ρ = some (.ok (.own (.list (xs.map h)) false) ρ) := comp_map xs g h hs hl hn H
theorem comp_pureF (xs : List β) (g : β → PyData) (p : β → Bool) (h : β → PyData) (hs : src ρ = some (.ok (xs.map g) ρ)) (hl : xs.length ≤ big) (hn : noOwn ρ vs = true)
    (H : ∀ x ∈ xs, ∃ ρ2, tg (g x) (wipeE ρ vs) = some ρ2 ∧ tt ρ2 = some (.ok (p x) ρ2) ∧ (p x = true → fSh te ρ2 = some (.ok (.sh (.py (h x))) ρ2)) ∧ wipeE ρ2 vs = wipeE ρ vs) :
    fComp src tg tt te vs ρ = some (.ok (.own (.list ((xs.filter p).map h)) false) ρ) := comp_filter xs g p h hs hl hn H
end
@[simp] theorem intsD_lit0 (lo st : Int) : intsD lo st 0 = [] := rfl
theorem intsD_succ (lo st : Int) (n : Nat) : intsD lo st (n + 1) = .int lo :: intsD (lo + st) st n := by
  unfold intsD
  rw [List.range_succ_eq_map, List.map_cons, List.map_map]
  congr 1
  · simp
  · refine List.map_congr_left fun i _ => ?_
    show PyData.int _ = PyData.int _
    congr 1
    rw [Int.natCast_succ, Int.add_mul]
    omega
/-! ### texts -/
theorem cutS_eq (z : Str) (lo hi : Option Int) : cutS z lo hi = ⟨(cutL z.cps.toList lo hi).toArray⟩ := by
  unfold cutS cutL
  rw [Array.length_toList]
  rfl
theorem Str.ext_list {a b : Str} (h : a.cps.toList = b.cps.toList) : a = b := by
  cases a
  cases b
  congr 1
  exact Array.toList_inj.mp h
theorem join_signs : ∀ l : List Nat, (Str.join (Str.ofString "") (l.map fun n => (⟨#[n]⟩ : Str))).cps.toList = l
  | [] => by decide +kernel
  | [n] => rfl
  | n :: m :: l => by
    have ih := join_signs (m :: l)
    rw [List.map_cons] at ih ⊢
    rw [List.map_cons]
    show ((⟨#[n]⟩ : Str) ++ Str.ofString "" ++ Str.join (Str.ofString "") ((⟨#[m]⟩ : Str) :: l.map fun n => (⟨#[n]⟩ : Str))).cps.toList = _
    have e : (Str.ofString "").cps.toList = [] := by decide +kernel
    show (((#[n] : Array Nat) ++ (Str.ofString "").cps) ++ (Str.join (Str.ofString "") ((⟨#[m]⟩ : Str) :: l.map fun n => (⟨#[n]⟩ : Str))).cps).toList = _
    rw [Array.toList_append, Array.toList_append, e, ih]
    rfl
theorem tjoin_signs (l : List Nat) : Txt.join (Str.ofString "") (l.map fun n => (⟨#[n]⟩ : Str)) = ⟨l.toArray⟩ := by
  refine Str.ext_list ?_
  show (Builtin.Str.glued _ _).cps.toList = _
  rw [PySem.StrLaws.glued_eq_join, join_signs]
end VL

set_option linter.all false
set_option autoImplicit false
set_option maxRecDepth 100000
/-! The value layer, part 6b: comprehensions over a list that is the def's own, and stays as it is. -/
namespace VL
open PySem L2

section
variable {X : Cx} {c : Nat → Addr} {W : WX} {K : PySem.W.Frag}
/-- the list at the i-th name is still these items -/
def stays (i : Nat) (its : List PyData) (ρ : DEnv) : Prop := ∃ b, ρ[i]? = some (some (.own (.list its) b))
open Classical in
noncomputable def compGoO (n : Nat) (its : List PyData) (tg : Tgt) (tt : M Bool) (te : M Ent) (vs : List Nat) : List PyData → List PyData → DEnv → Option (List PyData × DEnv)
  | [], acc, ρ => if stays n its ρ then some (acc, ρ) else none
  | d :: ds, acc, ρ => if stays n its ρ then match tg d ρ with
    | none => none
    | some ρ1 => match tt ρ1 with
      | some (.ok true ρ2) => match fSh te ρ2 with
        | some (.ok (.sh (.py p)) ρ3) => compGoO n its tg tt te vs ds (acc ++ [p]) (wipeE ρ3 vs)
        | _ => none
      | some (.ok false ρ2) => compGoO n its tg tt te vs ds acc (wipeE ρ2 vs)
      | _ => none
    else none
noncomputable def fCompO (n : Nat) (tg : Tgt) (tt : M Bool) (te : M Ent) (vs : List Nat) : M Ent := fun ρ => match ρ[n]? with
  | some (some (.own (.list its) _)) => if its.length ≤ big ∧ noOwn ρ vs = true ∧ n ∉ vs then match compGoO n its tg tt te vs its [] (wipeE ρ vs) with
    | some (acc, ρ') => some (.ok (.own (.list acc) false) (putBack ρ ρ' vs))
    | none => none
    else none
  | _ => none
/-- a name's own list walked -/
def tOwnI (K : PySem.W.Frag) (c : Nat → Addr) (n : Nat) : TI := fun σ H R => ∃ G ρ its b a, EnvOk K c G H σ ρ ∧ ρ[n]? = some (some (.own (.list its) b)) ∧ σ[n]? = some (some (.ref a)) ∧ R (Itl K a) H
theorem di_own {tg : Expr} (n : Nat) {x : Str} {pos : Pos} (hN : X.N[n]? = some x := by rfl) (hv : Vis X.env.scope x := by first | exact Or.inl rfl | exact Or.inr (Or.inl rfl) | exact Or.inr (Or.inr rfl)) (hd : (x == ("__debug__" : Str)) = false := by decide)
    (hcd : (x == ("__classdict__" : Str)) = false := by decide) : PI X tg (.Name x pos) (tOwnI X.K c n) := pi_weak (pi_anyS (pe_var hN hv hd hcd)) fun σ H R h => by
  obtain ⟨G, ρ, its, b, a, env, h1, h2, h3⟩ := h
  obtain ⟨a', e', _, vs, hv, _⟩ := env.own n _ b h1
  rw [h2] at e'
  cases e'
  exact ⟨.ref a, h2, .inl ⟨a, rfl, ⟨vs, SqL.of hv⟩, h3⟩⟩
theorem w_compO {n : Nat} {tg : Tgt} {tt : M Bool} {te : M Ent} {vs ts : List Nat} (hts : ∀ i ∈ ts, i ∈ vs) (σ : St) (H : Hp) (Q : VK) (h : tD X.K c W (fCompO n tg tt te vs) σ H Q) :
    tLc (tOwnI X.K c n) (tDG X.K c ts tg) (tDT X.K c W0 tt) (tD X.K c W0 (fSh te)) vs σ H Q := by
  obtain ⟨G, ρ, env, h⟩ := h
  unfold fCompO at h
  split at h
  rotate_left
  · exact h.elim
  rename_i its b eo
  split at h
  rotate_left
  · exact h.elim
  rename_i hc
  obtain ⟨hlen, hno, hni⟩ := hc
  split at h
  rotate_left
  · exact h.elim
  rename_i accF ρF eF
  obtain ⟨ao, sa, _, vso, hvo, rvo⟩ := env.own n _ b eo
  refine ⟨G, ρ, its, b, ao, env, eo, sa, ?_⟩
  have h1 : ∀ (v : V) (G' H' : Hp), Stp X.K c G H σ ρ G' H' σ (putBack ρ ρF vs) → EntOk X.K c G' H' σ (putBack ρ ρF vs) v (.own (.list accF) false) → Frs H v (.own (.list accF) false) → Q v H' := fun v G' H' s' e' f' => h v G' H' s' e' f'
  intro D nD
  have env1 := env
  have dead : H D = none := nD
  have s0 : Stp X.K c G H σ ρ G (upd H D (.lst [])) (wipe σ vs) (wipeE ρ vs) := (Stp.newOwn (o := .lst []) env1 nD).wipe fun i p hi => noOwn_ok hno i p true hi
  refine ⟨fun i m H' => m = its.length - i ∧ i ≤ its.length ∧ ∃ G' ρ' acc, Stp X.K c G H σ ρ G' H' (wipe σ vs) ρ' ∧ EntOk X.K c G' H' (wipe σ vs) ρ' (.ref D) (.own (.list acc) false) ∧ acc.length ≤ i ∧ compGoO n its tg tt te vs (its.drop i) acc ρ' = some (accF, ρF),
    ⟨_, rfl, Nat.zero_le _, G, wipeE ρ vs, [], s0, ⟨D, rfl, env1.le.free nD, ⟨[], upd_same, by simp only [RpL]⟩, fun o => ?_⟩, Nat.le_refl _, by rw [List.drop_zero]; exact eF⟩, ?_⟩
  · obtain ⟨u, hu⟩ := o.at (Stp.wipe (vs := vs) (Stp.refl env1) fun i p hi => noOwn_ok hno i p true hi).env
    rw [nD] at hu
    cases hu
  rintro i m H2 ⟨rfl, hi, G2, ρ2, acc, s2, eD, hacc, w2⟩
  have est : stays n its ρ2 := by
    cases hd : its.drop i with
    | nil =>
      rw [hd] at w2
      unfold compGoO at w2
      split at w2
      · assumption
      · cases w2
    | cons d ds =>
      rw [hd] at w2
      unfold compGoO at w2
      split at w2
      · assumption
      · cases w2
  obtain ⟨b2, e2o⟩ := est
  have sa2 : (wipe σ vs)[n]? = some (some (.ref ao)) := by rw [wipe_get, if_neg hni]; exact sa
  obtain ⟨ao2, sa3, _, vs2, hv2, rv2⟩ := s2.env.own n _ b2 e2o
  rw [sa2] at sa3
  cases sa3
  have hq2 := SqL.of (K := X.K) hv2
  have hl2 := rv2.length
  have k1 : ∀ k, k < its.length → (Itl X.K ao).go k H2 := fun k hk => ⟨vs2, vs2[k], hq2, List.getElem?_eq_getElem (by omega)⟩
  have k2 : (Itl X.K ao).stop its.length H2 := ⟨vs2, hq2, by omega⟩
  have k3 : ∀ k x H', k < its.length → (Itl X.K ao).yld k H2 x H' → ∃ d, its[k]? = some d ∧ ∃ G', ((G' = G2 ∧ H' = H2) ∨ ∃ a o, H2 a = none ∧ G' = upd G2 a o ∧ H' = upd H2 a o) ∧ Rp X.K G' x d := fun k x H' hk y => by
    obtain ⟨rfl, y⟩ := y
    obtain ⟨d, hd, rd⟩ := rv2.getV (y vs2 hq2)
    exact ⟨d, hd, G2, .inl ⟨rfl, rfl⟩, rd⟩
  by_cases hlt : i < its.length
  · rw [List.drop_eq_getElem_cons hlt] at w2
    refine .inr ⟨k1 i hlt, fun H' => (its.length - (i + 1) = its.length - (i + 1)) ∧ i + 1 ≤ its.length ∧ ∃ G' ρ' acc, Stp X.K c G H σ ρ G' H' (wipe σ vs) ρ' ∧ EntOk X.K c G' H' (wipe σ vs) ρ' (.ref D) (.own (.list acc) false) ∧ acc.length ≤ i + 1 ∧ compGoO n its tg tt te vs (its.drop (i + 1)) acc ρ' = some (accF, ρF), fun H' w => ⟨_, by omega, w⟩, fun x H3 y => ?_⟩
    obtain ⟨d, hd, G3, hy, rd⟩ := k3 i x H3 hlt y
    rw [List.getElem?_eq_getElem hlt] at hd
    cases hd
    have s3 := yld_step s2.env hy
    unfold compGoO at w2
    rw [if_pos ⟨b2, e2o⟩] at w2
    split at w2
    · cases w2
    rename_i ρ3 e3
    refine ⟨G3, ρ2, _, s3.env, rd, ρ3, e3, fun G4 H4 σ4 s4 ag => ⟨?_, ?_⟩⟩
    · rw [wipe_agree ag hts, wipe_wipe]
    have wip : wipe σ4 vs = wipe σ vs := by rw [wipe_agree ag hts, wipe_wipe]
    have s14 := (s2.trans s3).trans s4
    have eD4 := (eD.pres s3).pres s4
    have pinno : ∀ (i : Nat) (p : PyData), i ∈ vs → ρ[i]? ≠ some (some (.own p true)) := fun i p hi => noOwn_ok hno i p true hi
    split at w2
    · -- kept
      rename_i ρ4 e4
      refine ⟨G4, ρ3, s4.env, ?_⟩
      rw [e4]
      intro G5 H5 s5
      refine ⟨G5, ρ4, s5.env, ?_⟩
      split at w2
      · rename_i p ρ6 e6
        rw [e6]
        intro v G6 H6 s6 ev _
        have s16 := (s14.trans s5).trans s6
        have eD6 := (eD4.pres s5).pres s6
        obtain ⟨D', eD', g6, ⟨vacc, hv, rv⟩, no6⟩ := eD6
        cases eD'
        have hz : acc.length < big := by omega
        simp only [EntOk, RpD] at ev
        refine ⟨vacc, hv, small_big' (by rw [rv.length]; exact hz), rfl, hlt, G6, wipeE ρ6 vs, acc ++ [p], ?_, ?_, by rw [List.length_append, List.length_singleton]; omega, w2⟩
        · rw [← wip]
          exact (s16.poke nD g6 no6 ⟨_, hv⟩).wipe pinno
        · refine ⟨D, rfl, g6, ⟨_, upd_same, rv.append (.one ev)⟩, fun o => no6 ?_⟩
          rw [← wip] at o
          obtain ⟨j, q, b, hj, ej⟩ := o
          rw [wipeE_get] at hj
          by_cases hjv : j ∈ vs
          · rw [if_pos hjv] at hj
            cases q' : ρ6[j]? <;> rw [q'] at hj <;> cases hj
          · rw [if_neg hjv] at hj
            rw [wipe_get, if_neg hjv] at ej
            exact ⟨j, q, b, hj, ej⟩
      · cases w2
    · -- left out
      rename_i ρ4 e4
      refine ⟨G4, ρ3, s4.env, ?_⟩
      rw [e4]
      intro G5 H5 s5
      have s15 := s14.trans s5
      obtain ⟨D', eD', g5, o5, no5⟩ := eD4.pres s5
      cases eD'
      refine ⟨rfl, hlt, G5, wipeE ρ4 vs, acc, ?_, ?_, by omega, w2⟩
      · rw [← wip]
        exact s15.wipe pinno
      · refine ⟨D, rfl, g5, o5, fun o => no5 ?_⟩
        rw [← wip] at o
        obtain ⟨j, q, b, hj, ej⟩ := o
        rw [wipeE_get] at hj
        by_cases hjv : j ∈ vs
        · rw [if_pos hjv] at hj
          cases q' : ρ4[j]? <;> rw [q'] at hj <;> cases hj
        · rw [if_neg hjv] at hj
          rw [wipe_get, if_neg hjv] at ej
          exact ⟨j, q, b, hj, ej⟩
    · cases w2
  · have e : i = its.length := by omega
    subst e
    rw [List.drop_length, compGoO, if_pos ⟨b2, e2o⟩] at w2
    cases w2
    refine .inl ⟨k2, ?_⟩
    have sb := Stp.back env1 s2 hno
    obtain ⟨D', eD', g2, o2, no2⟩ := eD
    cases eD'
    refine h1 (.ref D) G2 H2 sb ⟨D, rfl, g2, o2, fun o => ?_⟩ fun a ea => ?_
    · · obtain ⟨j, q, b, hj, ej⟩ := o
        have hl : ρ.length = ρF.length := by rw [env1.len, s2.env.len, wipe_length]
        rw [putBack_get hl] at hj
        by_cases hjv : j ∈ vs
        · rw [if_pos hjv] at hj
          exact noOwn_ok hno j q b hjv hj
        · rw [if_neg hjv] at hj
          exact no2 ⟨j, q, b, hj, by rw [wipe_get, if_neg hjv]; exact ej⟩
    · cases ea
      exact dead
variable {elt tg iter : Expr} {ifs : List Expr} {scope : Scope} {own : List (Str × Nat)} {pos spos : Pos} {g : Tgt} {tt : M Bool} {te : M Ent} {ts : List Nat}
theorem de_compO (n : Nat) (own : List (Str × Nat)) (hc : X.calm = true) (hN : X.N.Nodup) (hi : PI X tg iter (tOwnI X.K c n)) (ok : BlkOk X.N X.env.scope scope own) (hts : ∀ i ∈ ts, i ∈ own.map (·.2))
    (hg : ∀ (s : Shared) (H : Hp) (C : Addr) (cl : List (Str × Addr)) (fp : List Addr), PG (X.blk s H scope (compEnvC scope cl C X.env) fp) tg (tDG X.K c ts g)) (ht : ∀ (s : Shared) (H : Hp) (C : Addr) (cl : List (Str × Addr)) (fp : List Addr), PTs (X.blk s H scope (compEnvC scope cl C X.env) fp) ifs (tDT X.K c W0 tt))
    (he : ∀ (s : Shared) (H : Hp) (C : Addr) (cl : List (Str × Addr)) (fp : List Addr), PE (X.blk s H scope (compEnvC scope cl C X.env) fp) elt (tD X.K c W0 te)) (hs : ∀ x, foldedSetIterable iter X.env x = pure x := by intro _; rfl) :
    DE X c W (.ListComp elt [⟨tg, iter, ifs, 0⟩] scope pos) (fCompO n g tt te (own.map (·.2))) :=
  pe_weak (pe_lc hc hN hi ok hg ht (fun s H C cl fp => de_sh (he s H C cl fp)) hs) (w_compO hts)
theorem stays_wipe {n : Nat} {its : List PyData} {ρ : DEnv} {vs : List Nat} {b : Bool} (h : ρ[n]? = some (some (.own (.list its) b))) (hn : n ∉ vs) : stays n its (wipeE ρ vs) := ⟨b, by rw [wipeE_get, if_neg hn]; exact h⟩
theorem compGoO_map {β : Type} {n : Nat} {its : List PyData} {vs : List Nat} {ρ : DEnv} (st : stays n its ρ) (g' : β → PyData) (h : β → PyData) : ∀ (xs : List β) (acc : List PyData), (∀ x ∈ xs, ∃ ρ2, g (g' x) ρ = some ρ2 ∧ tt ρ2 = some (.ok true ρ2) ∧ fSh te ρ2 = some (.ok (.sh (.py (h x))) ρ2) ∧ wipeE ρ2 vs = ρ) → compGoO n its g tt te vs (xs.map g') acc ρ = some (acc ++ xs.map h, ρ)
  | [], acc, _ => by
    rw [List.map_nil, compGoO, if_pos st]
    simp
  | x :: xs, acc, H => by
    obtain ⟨ρ2, h1, h2, h3, h4⟩ := H x List.mem_cons_self
    rw [List.map_cons, compGoO, if_pos st, h1]
    simp only [h2, h3, h4]
    rw [compGoO_map st g' h xs (acc ++ [h x]) fun y hy => H y (List.mem_cons_of_mem _ hy)]
    simp
theorem compGoO_filter {β : Type} {n : Nat} {its : List PyData} {vs : List Nat} {ρ : DEnv} (st : stays n its ρ) (g' : β → PyData) (p : β → Bool) (h : β → PyData) : ∀ (xs : List β) (acc : List PyData), (∀ x ∈ xs, ∃ ρ2, g (g' x) ρ = some ρ2 ∧ tt ρ2 = some (.ok (p x) ρ2) ∧ (p x = true → fSh te ρ2 = some (.ok (.sh (.py (h x))) ρ2)) ∧ wipeE ρ2 vs = ρ) → compGoO n its g tt te vs (xs.map g') acc ρ = some (acc ++ (xs.filter p).map h, ρ)
  | [], acc, _ => by
    rw [List.map_nil, compGoO, if_pos st]
    simp
  | x :: xs, acc, H => by
    obtain ⟨ρ2, h1, h2, h3, h4⟩ := H x List.mem_cons_self
    have ih := fun acc => compGoO_filter st g' p h xs acc fun y hy => H y (List.mem_cons_of_mem _ hy)
    rw [List.map_cons, compGoO, if_pos st, h1]
    cases e : p x with
    | true =>
      rw [e] at h2
      simp only [h2, h3 e, h4, ih]
      simp [e]
    | false =>
      rw [e] at h2
      simp only [h2, h4, ih]
      simp [e]
theorem compO_pure {β : Type} {n : Nat} {vs : List Nat} {ρ : DEnv} {b : Bool} (xs : List β) (g' : β → PyData) (h : β → PyData) (hs : ρ[n]? = some (some (.own (.list (xs.map g')) b))) (hl : xs.length ≤ big) (hn : noOwn ρ vs = true) (hv : n ∉ vs)
    (H : ∀ x ∈ xs, ∃ ρ2, g (g' x) (wipeE ρ vs) = some ρ2 ∧ tt ρ2 = some (.ok true ρ2) ∧ fSh te ρ2 = some (.ok (.sh (.py (h x))) ρ2) ∧ wipeE ρ2 vs = wipeE ρ vs) :
    fCompO n g tt te vs ρ = some (.ok (.own (.list (xs.map h)) false) ρ) := by
  unfold fCompO
  rw [hs]
  simp only
  rw [if_pos ⟨by rw [List.length_map]; exact hl, hn, hv⟩, compGoO_map (stays_wipe hs hv) g' h xs [] H]
  simp only [List.nil_append, putBack_wipe]
theorem compO_pureF {β : Type} {n : Nat} {vs : List Nat} {ρ : DEnv} {b : Bool} (xs : List β) (g' : β → PyData) (p : β → Bool) (h : β → PyData) (hs : ρ[n]? = some (some (.own (.list (xs.map g')) b))) (hl : xs.length ≤ big) (hn : noOwn ρ vs = true) (hv : n ∉ vs)
    (H : ∀ x ∈ xs, ∃ ρ2, g (g' x) (wipeE ρ vs) = some ρ2 ∧ tt ρ2 = some (.ok (p x) ρ2) ∧ (p x = true → fSh te ρ2 = some (.ok (.sh (.py (h x))) ρ2)) ∧ wipeE ρ2 vs = wipeE ρ vs) :
    fCompO n g tt te vs ρ = some (.ok (.own (.list ((xs.filter p).map h)) false) ρ) := by
  unfold fCompO
  rw [hs]
  simp only
  rw [if_pos ⟨by rw [List.length_map]; exact hl, hn, hv⟩, compGoO_filter (stays_wipe hs hv) g' p h xs [] H]
  simp only [List.nil_append, putBack_wipe]
end
end VL

set_option linter.all false
set_option autoImplicit false
set_option maxRecDepth 100000
/-! The value layer, part 10: is None as a test, list.index of any data, every second item. -/
namespace VL
open PySem L2

section
variable {X : Cx} {c : Nat → Addr} {W : WX} {K : PySem.W.Frag} {a b e : Expr} {f g fe : M Ent} {pos : Pos}
theorem w_isN (neg : Bool) (σ : St) (H : Hp) (Q : VK) (h : tD X.K c W (f1 (oIsN neg) f) σ H Q) : tUn (fun x H Q => Q (.bl (decide (x = .non) != neg)) H) (tD X.K c W f) σ H Q := by
  refine w_f1 (r := fun x H Q => Q (.bl (decide (x = .non) != neg)) H) ?_ σ H Q h
  intro G H σ ρ v x e Q env hx ho k
  unfold oIsN at ho
  split at ho
  · rename_i p
    cases ho
    simp only [EntOk, RpD] at hx
    rw [isN_ok hx]
    exact k.flat env (by simp only [Rp])
  · cases ho
theorem w_isN0 (σ : St) (H : Hp) (Q : VK) (h : tD X.K c W (f1 (oIsN false) f) σ H Q) : tIsN (tD X.K c W f) σ H Q := by
  have := w_isN false σ H Q h
  simp only [Bool.bne_false] at this
  exact this
theorem w_isN1 (σ : St) (H : Hp) (Q : VK) (h : tD X.K c W (f1 (oIsN true) f) σ H Q) : tNotN (tD X.K c W f) σ H Q := by
  have := w_isN true σ H Q h
  simp only [Bool.bne_true] at this
  exact this
theorem de_isNotN {j : Nat} {pos' : Pos} (ha : DE X c W a f) : DE X c W (.Compare a [.IsNot] [.Constant .none j pos'] pos) (f1 (oIsN true) f) := pe_weak (pe_cmp (pc_notN ha) (by rfl)) w_isN1
theorem dt_isN {j : Nat} {pos' : Pos} (ha : DE X c W a f) : DT X c W (.Compare a [.Is] [.Constant .none j pos'] pos) (fB (f1 (oIsN false) f)) := pt_weak (pt_cmp (pc_isN ha) (by rfl)) fun σ H Q h => w_isN0 σ H _ (w_B σ H Q h)
theorem dt_isNotN {j : Nat} {pos' : Pos} (ha : DE X c W a f) : DT X c W (.Compare a [.IsNot] [.Constant .none j pos'] pos) (fB (f1 (oIsN true) f)) := pt_weak (pt_cmp (pc_notN ha) (by rfl)) fun σ H Q h => w_isN1 σ H _ (w_B σ H Q h)

/-! ### l.index(x) -/
def idxP (d : PyData) (ds : List PyData) : Option Nat := ds.findIdx? fun z => PyData.eqv z d
def idxE (x : Ent) (es : List Ent) : M Ent := fun ρ => match rd ρ x, es with
  | some (.list ds), [e] => match rd ρ e with
    | some d => if (SeqAt.shaped (.list ds) && SeqAt.shaped d) = true then match idxP d ds with
      | some j => some (.ok (py (.int (j : Nat))) ρ)
      | none => none
      else none
    | none => none
  | _, _ => none
theorem ok_index : OkMt K c (rIndexD K) idxE := by
  intro G H σ ρ v x vs es Q E env hx hes h
  unfold idxE at h
  split at h
  · rename_i ds e er
    split at h
    · rename_i d ed
      split at h
      · rename_i hc
        split at h
        · rename_i j hj
          obtain ⟨h1, h2⟩ := Bool.and_eq_true_iff.mp hc
          obtain ⟨u, rfl, hu⟩ := hes.one
          have rl := rd_ok env hx er
          have rl' := rl
          simp only [Rp] at rl'
          obtain ⟨a, ws, rfl, ha, ra⟩ := rl'
          have rd' := rd_ok env hu ed
          obtain ⟨hjl, hp, hno⟩ := List.findIdx?_eq_some_iff_getElem.mp hj
          refine ⟨a, u, d, ds, j, ds[j], rfl, rfl, rl.dp (Same.refl _), rd'.dp (Same.refl _), h1, h2, List.getElem?_eq_getElem hjl, hp, fun m z hm hz => ?_, ?_⟩
          · have hml : m < ds.length := by omega
            rw [List.getElem?_eq_getElem hml] at hz
            cases hz
            have := hno m hm
            simpa using this
          · exact h (.int (j : Nat)) G H (.refl env) (by simp only [EntOk, RpD, Rp]) trivial
        · exact h.elim
      · exact h.elim
    · exact h.elim
  · exact h.elim
theorem de_index {es : List Expr} {m : M (List Ent)} {apos : Pos} (hu : X.A.units + 65 < cLine) (ho : DE X c W e fe) (ha : DA X c W (a :: es) m) (hbase : attributeBase e "index" X.env (eval e X.env) = eval e X.env := by rfl)
    (hfew : ((backTo pos (starEach (a :: es) X.env)).all (fun x => !x.1) && (backToKw pos (keywordEach [] X.env)).all (fun x => x.1.isSome)
      && decide ((a :: es).length + ([] : List Keyword).length + (if ([] : List Keyword).isEmpty then 0 else 1) < 30)) = true := by rfl)
    (hline : (apos.endLine == pos.line) = true := by rfl) (hs : starEach (a :: es) X.env = (false, eval a X.env) :: starEach es X.env := by rfl) (hplain : (backTo pos (starEach es X.env)).any (·.1) = false := by rfl) :
    DE X c W (.Call (.Attribute e "index" apos) (a :: es) [] pos) (fMet idxE fe m) := de_met PySem.F.plainAttrs_list PySem.F.slot_list_index PySem.F.type_list_index (mt_indexD hu) ok_index ho ha hbase hfew hline hs hplain

/-! ### x[lo::2] -/
def evens {α : Type} : List α → List α
  | [] => []
  | [x] => [x]
  | x :: _ :: r => x :: evens r
theorem evens_get {α : Type} : ∀ (l : List α) (k : Nat), (evens l)[k]? = l[2 * k]?
  | [], k => by simp [evens]
  | [x], k => by
    cases k with
    | zero => rfl
    | succ k => simp [evens]
  | x :: y :: r, k => by
    cases k with
    | zero => rfl
    | succ k =>
      rw [evens, List.getElem?_cons_succ, evens_get r k, show 2 * (k + 1) = 2 * k + 1 + 1 by omega, List.getElem?_cons_succ, List.getElem?_cons_succ]
theorem evens_length {α : Type} : ∀ l : List α, (evens l).length = (l.length + 1) / 2
  | [] => by simp [evens]
  | [x] => by simp [evens]
  | x :: y :: r => by
    rw [evens, List.length_cons, evens_length r, List.length_cons, List.length_cons]
    omega
theorem evens_pick {α : Type} (xs : Array α) (i k : Nat) (h : k = (xs.size - i + 1) / 2) : ((List.range k).map fun j => i + 2 * j).filterMap (xs[·]?) = evens (xs.toList.drop i) := by
  have aux : ∀ k, k ≤ (xs.size - i + 1) / 2 → ((List.range k).map fun j => i + 2 * j).filterMap (xs[·]?) = (evens (xs.toList.drop i)).take k := by
    intro k
    induction k with
    | zero => intro _; simp
    | succ k ih =>
      intro hk
      rw [List.range_succ, List.map_append, List.filterMap_append, ih (by omega), List.take_add_one, evens_get, List.getElem?_drop]
      congr 1
      simp only [List.map_cons, List.map_nil, Array.getElem?_toList]
      cases h : xs[i + 2 * k]? <;> simp [h]
  rw [aux k (by omega), List.take_of_length_le]
  rw [evens_length, List.length_drop, Array.length_toList]
  omega
theorem pick_two {lo : Nat} (items : Array Value) (hn : lo ≤ items.size) : slicePick items (some (lo : Int)) none (some 2) = (evens (items.toList.drop lo)).toArray := by
  unfold slicePick
  have e : sliceBounds (some (lo : Int)) none (some 2) items.size = ((lo : Int), (items.size : Int), 2) := by
    simp only [sliceBounds, Option.getD_some]
    have h1 : ¬ ((lo : Int) < 0) := by omega
    simp only [h1, if_false, show (2 : Int) > 0 by decide, if_true]
    congr 1
    omega
  rw [e]
  congr 1
  have e2 : sliceRange (lo : Int) (items.size : Int) 2 = (List.range ((items.size - lo + 1) / 2)).map fun j => lo + 2 * j := by
    unfold sliceRange
    by_cases h : (lo : Int) < items.size
    · have e3 : (((items.size : Int) - lo + 2 - 1) / 2).toNat = (items.size - lo + 1) / 2 := by omega
      simp only [show (2 : Int) > 0 by decide, if_true, h, e3]
      apply List.map_congr_left
      intro k _
      omega
    · have e4 : (items.size - lo + 1) / 2 = 0 := by omega
      simp [h, e4]
  show (sliceRange (lo : Int) (items.size : Int) 2).filterMap _ = _
  rw [e2]
  exact evens_pick items lo _ rfl
theorem Vals.evens : ∀ {xs : List V} {us : List Value}, Vals xs us → Vals (evens xs) (evens us)
  | _, _, .nil => .nil
  | _, _, .cons r .nil => .cons r .nil
  | _, _, .cons r (.cons _ t) => .cons r (Vals.evens t)
theorem RpL.evens {G : Hp} : ∀ {vs : List V} {ds : List PyData}, RpL K G vs ds → RpL K G (evens vs) (evens ds)
  | [], [], r => r
  | [v], [d], r => r
  | v :: w :: vs, d :: e :: ds, r => by
    simp only [RpL, VL.evens] at r ⊢
    exact ⟨r.1, RpL.evens r.2.2⟩
  | [], _ :: _, r => by simp only [RpL] at r
  | _ :: _, [], r => by simp only [RpL] at r
  | [v], _ :: _ :: _, r => by simp only [RpL] at r; exact r.2.elim
  | _ :: _ :: _, [d], r => by simp only [RpL] at r; exact r.2.elim
def tSl2 (K : PySem.W.Frag) (te : TE) (tl : TE) : TE := fun σ H Q => te σ H fun x H1 => tl σ H1 fun l H2 => ∃ a xs lo, x = .ref a ∧ l = .int ((lo : Nat) : Int) ∧ lo ≤ xs.length ∧ SqL K H2 a xs ∧ ∀ p, H2 p = none → Q (.ref p) (upd H2 p (.lst (evens (xs.drop lo))))
theorem pe_slice2 {te tl : TE} {p2 : Pos} {j : Nat} {p3 : Pos} (he : PE X a te) (hl : PE X b tl) : PE X (.Subscript a (.Slice (some b) none (some (.Constant (.int 2) j p3)) p2) pos) (tSl2 X.K te tl) := by
  refine ⟨fun pins s σ H Q I h => ?_⟩
  refine PyProof.Rows.Subscript_ (thn (he.run pins s σ H _ I h) fun v s1 ⟨x, H1, I1, r1, q1⟩ => ?_)
  refine wpAny_Slice ?_
  rw [evalPart_some]
  refine thn (hl.run pins s1 σ H1 _ I1 q1) fun vl s2 ⟨l, H2, I2, r2, q2⟩ => ?_
  rw [evalPart_none]
  refine wpAny_pure ?_
  rw [evalPart_some]
  obtain ⟨ad, xs, lo, rfl, rfl, hlo, hq, q⟩ := q2
  refine thn ((pe_int (X := X)).run pins s2 σ H2 (fun x H' => x = .int 2 ∧ H' = H2) I2 ⟨rfl, rfl⟩) fun vs s3 ⟨z, H3, I3, r3, q3⟩ => ?_
  obtain ⟨rfl, rfl⟩ := q3
  cases r1
  obtain ⟨tl', rfl⟩ := r2
  obtain ⟨ts', rfl⟩ := r3
  have I4 : Inv X pins σ H3 { s3 with heap := s3.heap.push { cls := .type "slice", data := .fields #[.int lo tl', .none, .int 2 ts'] } } := I3.kept (t' := s3.toks) fun b ob q => Heap.get?_push_of_some _ q
  obtain ⟨its, r, ht, hz⟩ := I4.list hq
  have hlen := r.length
  show wpAny (model X.prog X.w) X.A (PyProof.Rows.subscriptTail a _ (.ref ad) (.ref s3.heap.objs.size)) (EP X pins σ Q) X.xe { s3 with heap := s3.heap.push { cls := .type "slice", data := .fields #[.int lo tl', .none, .int 2 ts'] } }
  refine PyProof.Rows.tail_any (ops := [.ref ad, .ref s3.heap.objs.size]) ht.isList.typeIs slot_list_getitem.lookup ?_ (by with_unfolding_all rfl)
  refine wpAny_getItem_list_slice ht.isList (Heap.IsSliceOf.new ..) (.int _ _) .none (.int _ _) (by decide) ?_ (by rw [List.size_toArray] <;> omega)
  rw [pick_two its.toArray (by rw [List.size_toArray]; omega)]
  refine ⟨.ref (s3.heap.push { cls := .type "slice", data := .fields #[.int lo tl', .none, .int 2 ts'] }).objs.size, _, I4.laid (o := .lst (evens (xs.drop lo))) (fun b ob q => Heap.get?_push_of_some _ q) (Nat.le_refl _) ?_, rfl, q _ (I4.hok.fresh (Nat.le_refl _))⟩
  refine ⟨?_, _, 0, Vals.evens (r.drop lo), Heap.get?_push_size _ rfl⟩
  rw [evens_length, List.length_drop]
  omega
def oSl2 : Op2 := fun ρ x y => match rd ρ x, rd ρ y with
  | some (.list ds), some (.int i) => if 0 ≤ i ∧ i ≤ ds.length then some (.own (.list (evens (ds.drop i.toNat))) false) else none
  | _, _ => none
theorem de_slice2 {p2 : Pos} {j : Nat} {p3 : Pos} (ha : DE X c W a f) (hb : DE X c W b g) : DE X c W (.Subscript a (.Slice (some b) none (some (.Constant (.int 2) j p3)) p2) pos) (f2 oSl2 f g) := pe_weak (pe_slice2 ha hb) fun σ H Q h => by
  have := w_f2 (r := fun x l H2 Q => ∃ a xs lo, x = .ref a ∧ l = .int ((lo : Nat) : Int) ∧ lo ≤ xs.length ∧ SqL X.K H2 a xs ∧ ∀ p, H2 p = none → Q (.ref p) (upd H2 p (.lst (evens (xs.drop lo))))) ?_ σ H Q h
  · exact this
  · intro G H σ ρ v u x y e Q env hx hy ho k
    unfold oSl2 at ho
    split at ho
    · rename_i ds i e1 e2
      split at ho
      · rename_i hc
        cases ho
        obtain ⟨a, vs, ea, ha, ra⟩ := rd_list env hx e1
        have eu := rd_int env hy e2
        refine ⟨a, vs, i.toNat, ea, by rw [eu]; congr 1; omega, by rw [ra.length]; omega, SqL.of ha, fun p np => k.lst env (RpL.evens (ra.drop _)) np⟩
      · cases ho
    · cases ho
end
/-! ### how it is reckoned -/
section
variable {ρ : DEnv} {x y : Ent}
def idxL (d : Option PyData) (ρ : DEnv) : Option PyData → OR Ent
  | some (.list ds) => match d with
    | some d => if (SeqAt.shaped (.list ds) && SeqAt.shaped d) = true then match idxP d ds with
      | some j => some (.ok (py (.int (j : Nat))) ρ)
      | none => none
      else none
    | none => none
  | _ => none
@[simp ↓] theorem idxE_ap (e : Ent) : idxE x [e] ρ = idxL (rd ρ e) ρ (rd ρ x) := by
  unfold idxE idxL
  cases rd ρ x with
  | none => rfl
  | some p => cases p <;> rfl
theorem idxL_ok {d : PyData} {ds : List PyData} {j : Nat} (h1 : SeqAt.shaped (.list ds) = true) (h2 : SeqAt.shaped d = true) (h : idxP d ds = some j) : idxL (some d) ρ (some (.list ds)) = some (.ok (py (.int (j : Nat))) ρ) := by
  simp [idxL, h1, h2, h]
def dSl2 : PyData → PyData → Option Ent
  | .list ds, .int i => if 0 ≤ i ∧ i ≤ ds.length then some (.own (.list (evens (ds.drop i.toNat))) false) else none
  | _, _ => none
@[simp ↓] theorem oSl2_by : oSl2 ρ x y = by2 dSl2 (rd ρ x) (rd ρ y) := by
  unfold oSl2
  cases rd ρ x with
  | none => rfl
  | some p => cases rd ρ y with
    | none => cases p <;> rfl
    | some q => cases p <;> cases q <;> rfl
@[simp] theorem dSl2_list (ds : List PyData) (i : Int) : dSl2 (.list ds) (.int i) = if 0 ≤ i ∧ i ≤ ds.length then some (.own (.list (evens (ds.drop i.toNat))) false) else none := rfl
end
end VL

set_option linter.all false
set_option autoImplicit false
set_option maxRecDepth 100000
/-! The value layer, part 11: len(set(..)) of rows of truths (what it answers; the walk stands in part 12). -/
namespace VL
open PySem L2
def asBool : PyData → Option Bool
  | .bool b => some b
  | _ => none
def asBools : List PyData → Option (List Bool)
  | [] => some []
  | d :: ds => match asBool d, asBools ds with
    | some b, some bs => some (b :: bs)
    | _, _ => none
def asRow : PyData → Option (List Bool)
  | .tuple ds => asBools ds
  | _ => none
def asRows : List PyData → Option (List (List Bool))
  | [] => some []
  | d :: ds => match asRow d, asRows ds with
    | some b, some bs => some (b :: bs)
    | _, _ => none
/-- all rows of n truths -/
def allB : Nat → List (List Bool)
  | 0 => [[]]
  | n + 1 => (allB n).map (· ++ [false]) ++ (allB n).map (· ++ [true])
def rowsOk (rows : List (List Bool)) : Bool := (List.range 5).any fun n => rows == allB n
def oLenSet : OpL := fun ρ es => match es with
  | [x] => match rd ρ x with
    | some (.list ds) => match asRows ds with
      | some rows => if rowsOk rows = true then some (py (.int ds.length)) else none
      | none => none
    | _ => none
  | _ => none
theorem asBools_map : ∀ bs : List Bool, asBools (bs.map .bool) = some bs
  | [] => rfl
  | b :: bs => by rw [List.map_cons, asBools, asBools_map bs]; rfl
theorem asRows_map : ∀ rows : List (List Bool), asRows (rows.map fun g => .tuple (g.map .bool)) = some rows
  | [] => rfl
  | g :: rows => by
    rw [List.map_cons, asRows, asRows_map rows]
    simp only [asRow, asBools_map]
def dLenSet : PyData → Option Ent
  | .list ds => match asRows ds with
    | some rows => if rowsOk rows = true then some (py (.int ds.length)) else none
    | none => none
  | _ => none
@[simp ↓] theorem oLenSet_by {ρ : DEnv} {x : Ent} : oLenSet ρ [x] = by1 dLenSet (rd ρ x) := by
  unfold oLenSet
  dsimp only
  cases rd ρ x with
  | none => rfl
  | some p => cases p <;> rfl
theorem dLenSet_ok {rows : List (List Bool)} (h : rowsOk rows = true) : dLenSet (.list (rows.map fun g => .tuple (g.map .bool))) = some (py (.int rows.length)) := by
  simp only [dLenSet, asRows_map, h, if_true, List.length_map]
end VL

set_option linter.all false
set_option autoImplicit false
set_option maxRecDepth 100000
/-! The value layer, part 12: set(..) of things whose hashes are all unlike: nothing is ever compared. -/
namespace VL
open PySem L2 PyProof.Rows

section
variable {P : Program} {w : World} {A : Around} {E : Value → Shared → Prop} {s : Shared}
/-- a set at a: rows of hash and value, no two hashes alike -/
structure Uset (h : Heap) (a : Addr) (L : List (Int × Value)) (es : Array (Int × Value)) (ep : Nat) (t : SetTable) : Prop where
  at_ : ∃ o, h.get? a = some o ∧ o.ExactSet ∧ o.data = .set es ep t
  rows : es.toList = L
  tab : TabOk t (L.map Prod.fst)
  nd : (L.map Prod.fst).Nodup
  plain : t.plain = true
  room : L.length * 5 < t.mask * 3
  few : L.length < 64
variable {a : Addr} {L : List (Int × Value)} {es : Array (Int × Value)} {ep : Nat} {t : SetTable}
theorem Uset.size (R : Uset s.heap a L es ep t) : es.size = L.length := by rw [← R.rows, Array.length_toList]
theorem Uset.fits (R : Uset s.heap a L es ep t) : t.fits es.size = true := by
  have h1 := R.tab.sz
  have h2 := R.size
  have h3 := R.room
  rw [List.length_map] at h1
  unfold SetTable.fits SetTable.fill
  rw [R.tab.dm, Bool.and_eq_true, beq_iff_eq, decide_eq_true_eq]
  refine ⟨by omega, ?_⟩
  show t.place.size + 0 ≤ t.mask
  omega
theorem Uset.hash (R : Uset s.heap a L es ep t) {i : Nat} (hi : i < L.length) : (es[i]?.map Prod.fst).getD 0 = (L[i]).1 := by
  rw [← Array.getElem?_toList, R.rows, List.getElem?_eq_getElem hi]
  rfl
/-- the way to a free place -/
theorem uset_search (R : Uset s.heap a L es ep t) {v : Value} {k : Int} (hk : k ∉ L.map Prod.fst) {Q : SetFound → Shared → Prop}
    (h : ∀ K, way t.mask k K ∉ t.place.toList → (∀ c, c < K → way t.mask k c ∈ t.place.toList) → Q (.free (way t.mask k K) false) s) : wpAny (model P w) A (setSearch a v k true) Q E s := by
  have hroom := R.room
  obtain ⟨K, hKf, hK, hKb⟩ := R.tab.first (by rw [List.length_map]; omega) k
  obtain ⟨o, ho, hex, hd⟩ := R.at_
  have hgw : ¬ t.gaveWay = true := by
    unfold SetTable.gaveWay
    rw [mask_odd R.tab.mok]
    decide
  have spec := go_spec t R.tab.ris R.tab.dm (fun i => (es[i]?.map Prod.fst).getD 0) k (10 * SetTable.turns t.mask) K (t.probeStart k) rfl hKf hKb hK
  have hsz : t.place.toList.length = L.length := by
    have := R.tab.sz
    rw [List.length_map] at this
    rw [Array.length_toList, this]
  show wpAny (model P w) A (setSearchFrom a v k true (99999 + 1) none) Q E s
  rw [setSearchFrom_succ]
  refine wpAny_bind (wpAny_setState_of ho hd R.fits ?_)
  dsimp only
  refine wp_if_neg hgw ?_
  rcases spec with ⟨q, i, _, hi, hh, _, _⟩ | ⟨_, hpr⟩
  · exfalso
    have hil : i < L.length := by
      have := (List.getElem?_eq_some_iff.mp hi).1
      omega
    have e := R.hash hil
    refine hk ?_
    rw [← hh]
    show (es[i]?.map Prod.fst).getD 0 ∈ _
    rw [e]
    exact List.mem_map.mpr ⟨L[i], List.getElem_mem hil, rfl⟩
  · have e : t.probe (fun i => (es[i]?.map (·.1)).getD 0) k ((none : Option SetTable.Probe).getD (t.probeStart k)) = some (.empty (way t.mask k K) none) := hpr
    rw [e]
    exact wpAny_pure (h K hK hKb)
theorem pick_rows (L : List (Int × Value)) (es : Array (Int × Value)) (hr : es.toList = L) : ∀ l : List Nat, (∀ i ∈ l, i < L.length) →
    (l.filterMap fun i => es[i]?) = (l.filterMap fun i => L[i]?) ∧ (l.filterMap fun i => L[i]?).map Prod.fst = l.map fun i => (es.map (·.1)).getD i 0
  | [], _ => ⟨rfl, rfl⟩
  | i :: l, h => by
    obtain ⟨e1, e2⟩ := pick_rows L es hr l fun j hj => h j (List.mem_cons_of_mem _ hj)
    have hi := h i List.mem_cons_self
    have x1 : L[i]? = some L[i] := List.getElem?_eq_getElem hi
    have x2 : es[i]? = some L[i] := by rw [← Array.getElem?_toList, hr, x1]
    rw [List.filterMap_cons_some x2, List.filterMap_cons_some x1, e1]
    refine ⟨rfl, ?_⟩
    rw [List.map_cons, List.map_cons, e2]
    congr 1
    have x3 : (es.map (·.1))[i]? = some (L[i]).1 := by rw [Array.getElem?_map, x2]; rfl
    simp [Array.getD_eq_getD_getElem?, x3]
theorem pick_all {α : Type} (L : List α) : (List.range L.length).filterMap (fun i => L[i]?) = L := by
  have h := pick_run L.toArray 0 L.length
  have e : (List.range L.length).map (0 + ·) = List.range L.length := by
    have : (fun x : Nat => 0 + x) = id := funext fun x => Nat.zero_add x
    rw [this, List.map_id]
  rw [e] at h
  simpa using h
/-- laid anew, larger -/
theorem uset_relay {o : Obj} (ho : s.heap.get? a = some o) (hex : o.ExactSet) (hd : o.data = .set es ep t) (rows : es.toList = L) (tab : TabOk t (L.map Prod.fst)) (hfl : L.length ≤ t.mask) (nd : (L.map Prod.fst).Nodup) (pl : t.plain = true) (few : L.length < 64)
    {wanted M : Nat} (hw : SetTable.sizeAbove wanted - 1 = M) (hM : MaskOk M) (hw2 : SetTable.sizeAbove wanted ≤ 128) (hn : L.length * 5 < M * 3) {Q : Unit → Shared → Prop}
    (hQ : ∀ h' L' es' ep' t', Heap.SameBut a s.heap h' → Uset h' a L' es' ep' t' → L'.length = L.length → L'.Perm L → Q () { s with heap := h' }) : wpAny (model P w) A (setRelay a wanted) Q E s := by
  have hsl : es.size = L.length := by rw [← rows, Array.length_toList]
  have hfits : t.fits es.size = true := by
    have h1 := tab.sz
    rw [List.length_map] at h1
    unfold SetTable.fits SetTable.fill
    rw [tab.dm, Bool.and_eq_true, beq_iff_eq, decide_eq_true_eq]
    refine ⟨by omega, ?_⟩
    show t.place.size + 0 ≤ t.mask
    omega
  obtain ⟨t', order, e, hp, T, em, _, ep', _⟩ := relaid_ok t (hs := es.map (·.1)) (wanted := wanted) hw hM (by rw [Array.size_map, hsl]; omega)
  rw [Array.size_map, hsl] at hp
  obtain ⟨r1, r3⟩ := pick_rows L es rows order.toList fun i hi => List.mem_range.mp (hp.mem_iff.mp hi)
  have r2 : (order.toList.filterMap fun i => L[i]?).Perm L := by
    have := hp.filterMap fun i => L[i]?
    rw [pick_all] at this
    exact this
  generalize hL2 : (order.toList.filterMap fun i => L[i]?) = L2 at r1 r2 r3
  rw [← r3] at T
  have ra : (order.filterMap (es[·]?)).toList = L2 := by rw [Array.toList_filterMap]; exact r1
  have hs2 : (order.filterMap (es[·]?)).size = es.size := by rw [← Array.length_toList, ra, r2.length_eq, hsl]
  rw [setRelay_eq]
  refine wpAny_bind (wpAny_setState_of ho hd hfits ?_)
  dsimp only
  refine wp_if_neg (by rw [sizeLine_eq]; omega) ?_
  try refine wpAny_bind (wpAny_pure ?_)
  rw [e]
  dsimp only
  refine wpAny_bind ?_
  refine wp_if_neg (by rw [hs2]; simp) ?_
  try refine wpAny_bind (wpAny_pure ?_)
  refine wpAny_pure ?_
  dsimp only
  refine wpAny_storeSet_of ho hd ?_ (by rw [hs2, hsl, sizeLine_eq]; omega)
  exact hQ _ L2 (order.filterMap (es[·]?)) (ep + 1) t' (Heap.SameBut.update ..) ⟨⟨_, store_at ho hd, ⟨hex.1, hex.2.1, hex.2.2⟩, rfl⟩, ra, T, (r2.map Prod.fst).nodup_iff.mpr nd, by rw [ep']; exact pl, by rw [r2.length_eq, em]; exact hn, by rw [r2.length_eq]; exact few⟩ r2.length_eq r2
/-- one more, of a hash that none has -/
theorem uset_add (R : Uset s.heap a L es ep t) {v : Value} {k : Int} (hk : k ∉ L.map Prod.fst) (hsc : byScan v es = false) (hby : ∀ {Q : Bool → Shared → Prop}, Q true s → wpAny (model P w) A (hashByValue 8 v) Q E s) (hfew : L.length + 1 < 64) {Q : Bool → Shared → Prop}
    (hQ : ∀ h' L' es' ep' t', Heap.SameBut a s.heap h' → Uset h' a L' es' ep' t' → L'.Perm ((k, v) :: L) → Q true { s with heap := h' }) : wpAny (model P w) A (setAddHashed a v k) Q E s := by
  obtain ⟨o, ho, hex, hd⟩ := R.at_
  have hsl := R.size
  have hroom := R.room
  unfold setAddHashed
  refine wpAny_holding ?_
  rw [show (100000 : Nat) = 99999 + 1 from rfl, setAddHashedIn_succ]
  refine wpAny_bind (wpAny_setState_of ho hd R.fits ?_)
  dsimp only
  refine wp_if_neg (by simp [hsc]) ?_
  try refine wpAny_bind (wpAny_pure ?_)
  refine wpAny_bind (uset_search R hk fun K hK hb => ?_)
  dsimp only
  refine wpAny_bind (wpAny_setState_of ho hd R.fits ?_)
  dsimp only
  obtain ⟨q1, q2, q3, q4, _, q6, _, _, q9⟩ := R.tab.put hK hb
  have hp1 : (t.put (way t.mask k K)).1.plain = true := by rw [q6]; exact R.plain
  generalize hpt : t.put (way t.mask k K) = pt at q1 q3 q4 q6 q9 hp1 ⊢
  obtain ⟨t1, p⟩ := pt
  dsimp only at q1 q3 q4 q6 q9 hp1 ⊢
  subst q1
  first
    | (refine wpAny_bind ?_; refine wp_if_pos hp1 ?_; refine hby ?_)
    | refine wp_if_pos hp1 (wpAny_bind (hby ?_))
  simp only [if_true]
  have hin : (SetTable.insertAt es (SetTable.below t.place (way t.mask k K)) (k, v)).toList = L.take (SetTable.below t.place (way t.mask k K)) ++ (k, v) :: L.drop (SetTable.below t.place (way t.mask k K)) := by
    rw [SetTable.toList_insertAt, R.rows]
  generalize SetTable.below t.place (way t.mask k K) = p at q2 q3 hin ⊢
  have pm := put_perm L p (k, v)
  have hlen : (L.take p ++ (k, v) :: L.drop p).length = L.length + 1 := pm.length_eq
  rw [show (L.map Prod.fst).take p ++ k :: (L.map Prod.fst).drop p = (L.take p ++ (k, v) :: L.drop p).map Prod.fst by rw [List.map_append, List.map_cons, List.map_take, List.map_drop]] at q3
  have nd1 : ((L.take p ++ (k, v) :: L.drop p).map Prod.fst).Nodup := (pm.map Prod.fst).nodup_iff.mpr (List.nodup_cons.mpr ⟨hk, R.nd⟩)
  generalize SetTable.insertAt es p (k, v) = es1 at hin ⊢
  generalize L.take p ++ (k, v) :: L.drop p = L1 at pm hlen q3 nd1 hin
  have hes : es1.size = L.length + 1 := by rw [← Array.length_toList, hin, hlen]
  refine wpAny_bind (wpAny_storeSet_of ho hd ?_ (by rw [hes, sizeLine_eq]; omega))
  have sb : Heap.SameBut a s.heap (s.heap.update a (Obj.putSet es1 t1)) := Heap.SameBut.update ..
  have ho1 := store_at (es' := es1) (t' := t1) ho hd
  generalize s.heap.update a (Obj.putSet es1 t1) = h1 at sb ho1 ⊢
  by_cases hf : t1.tooFull = true
  · first
      | (refine wpAny_bind ?_; refine wp_if_pos (by simp [hf]) ?_)
      | (refine wp_if_pos (by simp [hf]) ?_; refine wpAny_bind ?_)
    have hfull := hf
    unfold SetTable.tooFull at hfull
    rw [decide_eq_true_eq, q9, List.length_map] at hfull
    rw [hsl]
    have cases2 : (t.mask = 7 ∧ L.length = 4) ∨ (t.mask = 31 ∧ L.length = 18) := by
      rcases R.tab.mok with e | e | e <;> rw [q4, e] at hfull <;> rw [e] at hroom
      · exact .inl ⟨e, by omega⟩
      · exact .inr ⟨e, by omega⟩
      · omega
    have go : ∀ M, SetTable.sizeAbove (SetTable.grown (L.length + 1)) - 1 = M → MaskOk M → SetTable.sizeAbove (SetTable.grown (L.length + 1)) ≤ 128 → (L.length + 1) * 5 < M * 3 →
        wpAny (model P w) A (setRelay a (SetTable.grown (L.length + 1))) (fun _ s' => wpAny (model P w) A (pure true) Q E s') E { s with heap := h1 } := fun M m1 m2 m3 m4 => by
      refine uset_relay (s := { s with heap := h1 }) ho1 ⟨hex.1, hex.2.1, hex.2.2⟩ rfl hin q3 (by rw [hlen, q4]; rcases cases2 with ⟨e, e2⟩ | ⟨e, e2⟩ <;> omega) nd1 hp1 (by rw [hlen]; exact hfew) m1 m2 m3 (by rw [hlen]; exact m4) fun h2 L2 es2 ep2 t2 sb2 R2 _ pm2 => ?_
      exact wpAny_pure (hQ h2 L2 es2 ep2 t2 (sb.trans sb2) R2 (pm2.trans pm))
    rcases cases2 with ⟨_, e2⟩ | ⟨_, e2⟩
    · exact go 31 (by rw [e2, size_20]) (.inr (.inl rfl)) (by rw [e2, size_20]; decide) (by omega)
    · exact go 127 (by rw [e2, size_76]) (.inr (.inr rfl)) (by rw [e2, size_76]; decide) (by omega)
  · first
      | refine wp_if_neg (by simp [hf]) ?_
      | (refine wpAny_bind ?_; refine wp_if_neg (by simp [hf]) ?_; refine wpAny_pure ?_)
    refine wpAny_pure (hQ h1 L1 es1 (ep + 1) t1 sb ⟨⟨_, ho1, ⟨hex.1, hex.2.1, hex.2.2⟩, rfl⟩, hin, q3, nd1, hp1, ?_, by rw [hlen]; exact hfew⟩ pm)
    have hnot := hf
    unfold SetTable.tooFull at hnot
    rw [decide_eq_true_eq, q9, List.length_map] at hnot
    rw [hlen]
    omega
/-- a thing of which the set asks its hash and no more -/
structure Thing (P : Program) (w : World) (h0 : Heap) (k : Int) (v : Value) : Prop where
  hash : ∀ {A : Around} {E : Value → Shared → Prop} {s : Shared} {Q : Int → Shared → Prop}, A.units < cLine → (∀ b o, h0.get? b = some o → s.heap.get? b = some o) → (∀ tk, Q k { s with toks := s.toks + tk }) → wpAny (model P w) A (pyHash v) Q E s
  by_ : ∀ {A : Around} {E : Value → Shared → Prop} {s : Shared} {Q : Bool → Shared → Prop}, (∀ b o, h0.get? b = some o → s.heap.get? b = some o) → Q true s → wpAny (model P w) A (hashByValue 8 v) Q E s
  far : ∀ es, byScan v es = false
/-- set.update's loop over such things, all of unlike hash -/
theorem uset_update {I : Addr} {fp wr : List Addr} {G : Array GenState → Array GenState → Prop} {n : Nat} {Pv : Nat → Value → Prop} {St : Nat → Shared → Prop} {R : Result → Shared → Prop}
    (W : WalksS P w A.in1 I fp wr G n Pv St) (S : Addr) (hSf : S ∉ fp) (ks : List (Int × Value)) (hn : n = ks.length) (few : ks.length < 64) (nd : (ks.map Prod.fst).Nodup) (hval : ∀ i v, Pv i v → ∃ k, ks[i]? = some (k, v))
    (h0 : Heap) (things : ∀ p ∈ ks, Thing P w h0 p.1 p.2) (hS0 : h0.get? S = none) (hw0 : ∀ b ∈ wr, h0.get? b = none) (hu : A.in1.units < cLine) :
    ∀ (k i : Nat) (s : Shared), n - i = k → i ≤ n → St i s → (∀ b o, h0.get? b = some o → s.heap.get? b = some o) → (∃ L es ep t, Uset s.heap S L es ep t ∧ L.Perm (ks.take i)) →
      (∀ s' L es ep t, Moved (S :: wr) G s s' → Uset s'.heap S L es ep t → L.Perm ks → (∀ b o, h0.get? b = some o → s'.heap.get? b = some o) → R (.ok (.ret .none)) s') →
      codeAny (model P w) A (.builtin "set.update.loop" ⟨[.ref S, .ref I], []⟩) R s := by
  have hSw : S ∉ wr := fun h => hSf (W.sub _ h)
  have wide : ∀ b ∈ wr, b ∈ S :: wr := fun b hb => List.mem_cons_of_mem _ hb
  have still : ∀ {s s' : Shared}, Moved wr G s s' → (∀ b o, h0.get? b = some o → s.heap.get? b = some o) → ∀ b o, h0.get? b = some o → s'.heap.get? b = some o := fun hm hkp b o e =>
    hm.heap b o (fun hb => by rw [hw0 b hb] at e; cases e) (hkp b o e)
  intro k
  induction k with
  | zero =>
    intro i s hk' hi hst hkp ⟨L, es, ep, t, hS, g⟩ hR
    obtain rfl : i = n := by omega
    refine codeAny_builtin F.entry_set_update_loop ?_
    rw [Around.under_plainId F.plain_set_update_loop _]
    show wpAny _ A.in1 (pyNext (.ref I) >>= _) _ _ s
    refine wpAny_bind (W.done s _ _ hst fun s' hm => ?_)
    show wpAny _ A.in1 (PySem.ret Value.none) _ _ s'
    rw [hn, List.take_length] at g
    obtain ⟨o, ho, r⟩ := hS.at_
    exact wpAny_pure (hR s' L es ep t (hm.mono wide) ⟨⟨o, hm.heap S o hSw ho, r⟩, hS.rows, hS.tab, hS.nd, hS.plain, hS.room, hS.few⟩ g (still hm hkp))
  | succ k ih =>
    intro i s hk' hi hst hkp ⟨L, es, ep, t, hS, g⟩ hR
    have hlt : i < n := by omega
    refine codeAny_builtin F.entry_set_update_loop ?_
    rw [Around.under_plainId F.plain_set_update_loop _]
    show wpAny _ A.in1 (pyNext (.ref I) >>= _) _ _ s
    refine wpAny_bind (W.item i s _ _ hlt hst fun v s' hP hst' hm => ?_)
    obtain ⟨kv, hp⟩ := hval i v hP
    have hkp' := still hm hkp
    obtain ⟨o, ho, r⟩ := hS.at_
    have hS' : Uset s'.heap S L es ep t := ⟨⟨o, hm.heap S o hSw ho, r⟩, hS.rows, hS.tab, hS.nd, hS.plain, hS.room, hS.few⟩
    have hil : i < ks.length := by omega
    have hpe : ks[i] = (kv, v) := by
      rw [List.getElem?_eq_getElem hil] at hp
      exact Option.some.inj hp
    have th := things _ (List.mem_of_getElem? hp)
    have hlen : L.length = i := by rw [g.length_eq, List.length_take]; omega
    have hnot : kv ∉ L.map Prod.fst := by
      intro hmem
      rw [(g.map Prod.fst).mem_iff, List.map_take] at hmem
      obtain ⟨j, hj, e⟩ := List.getElem_of_mem hmem
      rw [List.length_take] at hj
      rw [List.getElem_take] at e
      have hj2 : j < (ks.map Prod.fst).length := by omega
      have hi2 : i < (ks.map Prod.fst).length := by rw [List.length_map]; exact hil
      have hne := List.pairwise_iff_getElem.mp nd j i hj2 hi2 (by omega)
      refine hne ?_
      rw [e, List.getElem_map, hpe]
    show wpAny _ A.in1 (holding [v] (setAdd S v) >>= _) _ _ s'
    refine wpAny_bind (wpAny_holding ?_)
    unfold setAdd
    refine wpAny_holding ?_
    refine wpAny_bind (th.hash hu hkp' fun tk => ?_)
    refine uset_add (s := { s' with toks := s'.toks + tk }) hS' hnot (th.far es) (fun q => th.by_ hkp' q) (by omega) fun h' L' es' ep' t' hsb hS2 pm => ?_
    have hkp2 : ∀ b o, h0.get? b = some o → h'.get? b = some o := fun b o e => (hsb.2 b (fun z => by rw [z, hS0] at e; cases e)).trans (hkp' b o e)
    have g' : L'.Perm (ks.take (i + 1)) := by
      rw [List.take_succ, hp]
      exact pm.trans (((List.Perm.cons _ g)).trans (List.perm_append_singleton _ _).symm)
    refine wpAny_pure ⟨plainId_quiet F.plain_set_update_loop _, ih (i + 1) _ (by omega) hlt (W.frame _ s' _ _ hst' (Nat.le_add_right _ _) fun b hb o e => ?_) hkp2 ⟨L', es', ep', t', hS2, g'⟩ fun s'' L2 es2 ep2 t2 hm'' hS'' g'' hkp'' => ?_⟩
    · rw [hsb.2 b (fun h : b = S => hSf (by rw [← h]; exact hb))]; exact e
    · refine hR s'' L2 es2 ep2 t2 (Moved.trans W.gtrans ((hm.mono wide).then_heap (Nat.le_add_right _ _) fun b o hb e => ?_) hm'') hS'' g'' hkp''
      rw [hsb.2 b (fun h : b = S => hb (by rw [h]; exact List.mem_cons_self))]; exact e
abbrev newSet (w : World) : Obj := { cls := .type "set", dict := none, data := .set #[] 0 (.fresh 0 0 (!w.params.followText "set-order")) }
theorem uset_new {h : Heap} {a : Addr} {w : World} (ho : h.get? a = some (newSet w)) : Uset h a [] #[] 0 (.fresh 0 0 (!w.params.followText "set-order")) where
  at_ := ⟨_, ho, ⟨rfl, rfl, rfl⟩, rfl⟩
  rows := rfl
  tab := ⟨List.Pairwise.nil, rfl, rfl, .inl rfl, fun x hx => (by cases hx), fun i h j hi => (by simp at hi)⟩
  nd := List.nodup_nil
  plain := rfl
  room := by
    show 0 * 5 < 7 * 3
    decide
  few := by
    show 0 < 64
    decide
set_option maxRecDepth 100000 in
set_option maxHeartbeats 3200000 in
/-- set(xs), xs a list of such things -/
theorem uset_call {l : Addr} {items : Array Value} (ks : List (Int × Value)) {Q : Value → Shared → Prop} (hh : A.handled = none) (hl : s.heap.IsList l items) (hit : items.toList = ks.map Prod.snd)
    (things : ∀ p ∈ ks, Thing P w s.heap p.1 p.2) (few : ks.length < 64) (nd : (ks.map Prod.fst).Nodup) (hu : A.units + 3 < cLine)
    (h : ∀ (h' : Heap) (tk : Nat) L es ep t, Uset h' s.heap.objs.size L es ep t → L.Perm ks → (∀ b o, s.heap.get? b = some o → h'.get? b = some o) → Q (.ref s.heap.objs.size) { s with heap := h', toks := tk }) :
    wpAny (model P w) A (call (.type "set") [.ref l]) Q E s := by
  have hisz : items.size = ks.length := by
    have q := congrArg List.length hit
    rw [Array.length_toList, List.length_map] at q
    exact q
  obtain ⟨c, tl, hmro⟩ := F.called_set.mro
  have hmade := F.called_set.made
  have hsub := F.called_set.sub
  refine wpAny_call (codeAny_of_tree ?_)
  show wpAny _ _ (callAny (.type "set") _) _ _ _
  refine wpAny_pure ⟨Code.quiet_builtin _ (by decide +kernel), codeAny_builtin F.entry_type_call ?_⟩
  rw [Around.under_plain (weight_type_call_type "set" [.ref l] []) rfl]
  have h1 := F.called_set.notType
  have h2 := F.called_set.canCreate
  have hct := F.typeCall_set_1 (.ref l)
  repeat (any_goals (first | assumption | wp_step))
  refine codeAny_mono (code_set_led1 (.ref l) (E := E) (Q₁ := fun obj s₁ => obj = .ref s.heap.objs.size ∧ s₁ = { s with heap := s.heap.push (newSet w) }) ⟨rfl, rfl⟩) fun r s₁ hr => ?_
  cases r with
  | error e => exact hr
  | ok fl =>
    cases fl with
    | ret obj =>
      obtain ⟨rfl, rfl⟩ := hr
      have hS : (s.heap.push (newSet w)).get? s.heap.objs.size = some (newSet w) := Heap.get?_push_size _ rfl
      have hT : Shared.TypeIs { s with heap := s.heap.push (newSet w) } (.ref s.heap.objs.size) "set" := ⟨_, hS, rfl⟩
      have hli := F.called_set.init.lookup
      have hbi := F.called_set.init.bind (.ref s.heap.objs.size)
      repeat (any_goals (first | assumption | wp_step))
      refine codeAny_mono (codeAny_call_builtin (R := wants (fun r s₂ => r = .none ∧ ∃ h' tk L es ep t, s₂ = { s with heap := h', toks := tk } ∧ Uset h' s.heap.objs.size L es ep t ∧ L.Perm ks ∧
          (∀ b o, s.heap.get? b = some o → h'.get? b = some o)) E) F.called_set.init.plain F.entry_set_init (check_set_init_1 hT ?_)) fun r₂ s₂ hr₂ => ?_
      · obtain ⟨ol, hol, hcl, nl, hdl⟩ := hl
        obtain ⟨ocls, odict, odata, oslots⟩ := ol
        simp only at hcl hdl
        subst hcl; subst hdl
        have hol' : (s.heap.push (newSet w)).get? l = some { cls := .type "list", dict := odict, data := .seq items nl, slots := oslots } := Heap.get?_push_of_some _ hol
        have hsls := F.sub_list_set
        have hslf := F.sub_list_frozenset
        have hne : (Value.type "list" == Value.type "dict") = false := by decide
        have hl1 : (s.heap.push (newSet w)).IsList l items := ⟨_, hol', rfl, nl, rfl⟩
        unfold Builtin.«set.__init__» noKeywords Builtin.Frozenset.updateFrom
        generalize hPI : pyIter = PI
        wp_walk
        subst hPI
        refine wpAny_pyIter_list hl1 ?_
        refine wpAny_bind (wpAny_runValue ?_)
        have hlS : l < s.heap.objs.size := Heap.lt_size hol
        have hh3 : A.in1.in1.in1.handled = none := by simp [hh]
        have hneI : l ≠ (s.heap.push (newSet w)).objs.size := by
          rw [Heap.size_push]; exact Nat.ne_of_lt (Nat.lt_succ_of_lt hlS)
        have hSf : s.heap.objs.size ∉ [(s.heap.push (newSet w)).objs.size, l] := by
          rw [Heap.size_push]; simp only [List.mem_cons, List.mem_singleton, List.not_mem_nil, or_false, not_or]
          exact ⟨Nat.ne_of_lt (Nat.lt_succ_self _), Nat.ne_of_gt hlS⟩
        have hval : ∀ (i : Nat) (v : Value), items[i]? = some v → ∃ k, ks[i]? = some (k, v) := fun i v hv => by
          have q : items.toList[i]? = some v := by rw [Array.getElem?_toList]; exact hv
          rw [hit, List.getElem?_map] at q
          cases hq : ks[i]? with
          | none => rw [hq] at q; cases q
          | some p =>
            rw [hq] at q
            obtain ⟨p1, p2⟩ := p
            cases q
            exact ⟨p1, rfl⟩
        have none_of : ∀ b, s.heap.objs.size ≤ b → s.heap.get? b = none := fun b hb => by
          cases q : s.heap.get? b with
          | none => rfl
          | some o => exact absurd (Nat.lt_of_lt_of_le (Heap.lt_size q) hb) (Nat.lt_irrefl _)
        refine uset_update ((Walks.list hh3 _ l hneI items).toS) s.heap.objs.size
          hSf ks hisz few nd hval s.heap things (none_of _ (Nat.le_refl _)) (fun b hb => none_of b (by
            rw [List.mem_singleton.mp hb, Heap.size_push]
            exact Nat.le_succ _)) hu (items.size - 0) 0 _ (by omega) (Nat.zero_le _)
          ⟨⟨_, Heap.get?_push_size _ rfl, rfl, rfl⟩, (hl1.push _)⟩ (fun b o e => Heap.get?_push_of_some _ (Heap.get?_push_of_some _ e)) ?hS0 ?hR
        case hS0 => exact ⟨[], #[], 0, _, uset_new (Heap.get?_push_of_some _ hS), by simp⟩
        case hR =>
          intro s' L es ep t hm hS' g' hkp
          obtain ⟨h', g2, d', tk', os'⟩ := s'
          have eg : g2 = s.gens := hm.gens
          have ed : d' = s.drawn := hm.drawn
          have eo : os' = s.os := hm.os
          subst eg; subst ed; subst eo
          show wpAny _ _ _ _ _ _
          refine wpAny_pure ?_
          show wpAny _ _ (PySem.ret Value.none) _ _ _
          exact wpAny_pure ⟨rfl, h', tk', L, es, ep, t, rfl, hS', g', hkp⟩
      · cases r₂ with
        | error e => exact hr₂
        | ok fl₂ =>
          cases fl₂ with
          | ret r =>
            obtain ⟨rfl, h', tk, L, es, ep, t, rfl, hS', g', hk'⟩ := hr₂
            repeat (any_goals (first | assumption | wp_step))
            exact h _ _ _ _ _ _ hS' g' hk'
          | _ => exact hr₂.elim
    | _ => exact hr.elim
end
end VL

set_option linter.all false
set_option autoImplicit false
set_option maxRecDepth 100000
/-! The value layer, part 13: len(set(..)) of rows of truths. -/
namespace VL
open PySem L2 PyProof.Rows

section
variable {P : Program} {w : World} {A : Around} {E : Value → Shared → Prop} {s : Shared}
def rowH (g : List Bool) : Int := reduceHash (Builtin.Tuple.tupleHashOf (g.map PpSet.hB))
theorem rowH_eq (g : List Bool) : tupleKeyHash (PpSet.boolK P w) g = rowH g := rfl
theorem rows_unlike : ∀ n, n < 5 → ((allB n).map rowH).Nodup := by decide +kernel
theorem items_bool {k : List Bool} {vs : List Value} (h : ItemsAre (PpSet.boolK P w) k vs) : ∀ v ∈ vs, ∃ b, v = Value.bool b := by
  induction h with
  | nil => intro v hv; cases hv
  | @cons k0 v' ks vs h1 _ ih =>
    intro v hv
    rcases List.mem_cons.mp hv with e | hv
    · exact ⟨k0, e.trans (PpSet.isB_shape h1)⟩
    · exact ih v hv
theorem hashBy_bool (n : Nat) (b : Bool) : hashByValue n (.bool b) = pure true := by
  cases n <;> rfl
theorem row_thing {h0 : Heap} {g : List Bool} {b : Addr} (hk : IsTupleKey (PpSet.boolK P w) h0 g b) : Thing P w h0 (rowH g) (.ref b) := by
  have at_ : ∀ {s : Shared}, (∀ b o, h0.get? b = some o → s.heap.get? b = some o) → IsTupleKey (PpSet.boolK P w) s.heap g b := fun {s} hs => by
    obtain ⟨o, items, n, ho, r⟩ := hk
    exact ⟨o, items, n, hs b o ho, r⟩
  refine ⟨fun {A E s Q} hu hs hq => ?_, fun {A E s Q} hs hq => ?_, fun es => by simp [byScan, Value.scannable]⟩
  · rw [← rowH_eq (P := P) (w := w)] at hq
    exact wpAny_pyHash_tuple hu (at_ hs) (hq _)
  · have hk := at_ hs
    have hT := hk.typeIs
    obtain ⟨o, items, n, ho, _, hd, hi⟩ := hk
    unfold hashByValue
    refine wpAny_bind (wpAny_specialOf hT F.slot_tuple_hash.lookup ?_)
    show wpAny _ _ (seqItems? (.ref b) >>= _) _ _ s
    refine wpAny_bind (wpAny_seqItems ho hd ?_)
    refine wpAny_bind ?_
    show wpAny _ _ (forIn items _ _) _ _ s
    rw [← Array.forIn_toList]
    refine wpAny_forIn_list _ (fun rest r s' => r.1 = none ∧ s' = s ∧ ∀ v ∈ rest, ∃ b, v = Value.bool b) _ ?_ ?_ _ _ ⟨rfl, rfl, items_bool hi⟩
    · rintro v rest r s' ⟨hr, rfl, hall⟩
      obtain ⟨i, rfl⟩ := hall v List.mem_cons_self
      rw [hashBy_bool]
      refine wpAny_bind (wpAny_pure ?_)
      simp only [Bool.not_true, Bool.false_eq_true, if_false]
      exact wpAny_pure ⟨rfl, rfl, fun u hu' => hall u (List.mem_cons_of_mem _ hu')⟩
    · rintro ⟨r1, r2⟩ s' ⟨hr, rfl, _⟩
      simp only at hr
      subst hr
      exact wpAny_pure hq
end
section
variable {X : Cx} {c : Nat → Addr} {W : WX} {K : PySem.W.Frag}
theorem asBool_inv {d : PyData} {b : Bool} (h : asBool d = some b) : d = .bool b := by
  cases d <;> simp only [asBool] at h <;> cases h
  rfl
theorem asBools_inv : ∀ {ds : List PyData} {bs : List Bool}, asBools ds = some bs → ds = bs.map .bool
  | [], bs, h => by cases h; rfl
  | d :: ds, bs, h => by
    unfold asBools at h
    split at h
    · rename_i b bs' e1 e2
      cases h
      rw [asBool_inv e1, asBools_inv e2]
      rfl
    · cases h
theorem asRow_inv {d : PyData} {g : List Bool} (h : asRow d = some g) : d = .tuple (g.map .bool) := by
  cases d <;> simp only [asRow] at h <;> try cases h
  rw [asBools_inv h]
theorem asRows_inv : ∀ {ds : List PyData} {rows : List (List Bool)}, asRows ds = some rows → ds = rows.map fun g => .tuple (g.map .bool)
  | [], rows, h => by cases h; rfl
  | d :: ds, rows, h => by
    unfold asRows at h
    split at h
    · rename_i b bs' e1 e2
      cases h
      rw [asRow_inv e1, asRows_inv e2]
      rfl
    · cases h
theorem rp_bools {G : Hp} : ∀ {vs : List V} {g : List Bool}, RpL K G vs (g.map .bool) → vs = g.map V.bl
  | [], [], _ => rfl
  | v :: vs, b :: g, r => by
    simp only [List.map_cons, RpL, Rp] at r
    rw [r.1, rp_bools r.2, List.map_cons]
  | [], _ :: _, r => by simp only [List.map_cons, RpL] at r
  | _ :: _, [], r => by simp only [List.map_nil, RpL] at r
theorem items_of {P : Program} {w : World} : ∀ {g : List Bool} {us : List Value}, Vals (g.map V.bl) us → ItemsAre (PpSet.boolK P w) g us
  | [], _, r => by cases r; exact .nil
  | b :: g, _, r => by
    rw [List.map_cons] at r
    cases r with
    | cons r1 r2 =>
      cases r1
      exact .cons (PpSet.boolK_is P w b) (items_of r2)
/-- the things of a list of rows -/
theorem things_of {pins : List (Addr × Obj)} {σ : L2.St} {G H : Hp} {s : Shared} (I : L2.Inv X pins σ H s) (le : Same G H) {P : Program} {w : World} : ∀ {vs : List V} {rows : List (List Bool)} {us : List Value}, RpL X.K G vs (rows.map fun g => .tuple (g.map .bool)) → Vals vs us →
    ∃ ks : List (Int × Value), us = ks.map Prod.snd ∧ ks.map Prod.fst = rows.map rowH ∧ ∀ p ∈ ks, Thing P w s.heap p.1 p.2
  | [], [], us, _, r => by
    cases r
    exact ⟨[], rfl, rfl, fun p hp => (by cases hp)⟩
  | v :: vs, g :: rows, us, q, r => by
    simp only [List.map_cons, RpL, Rp] at q
    obtain ⟨⟨a, ws, rfl, ha, ra⟩, q2⟩ := q
    cases r with
    | cons r1 r2 =>
      cases r1
      obtain ⟨ks, e1, e2, e3⟩ := things_of I le q2 r2
      have hw := rp_bools ra
      subst hw
      obtain ⟨its, rv, ht, _⟩ := I.tuple (SqT.of (le _ _ ha))
      obtain ⟨o, ho, hc, n, hd⟩ := ht
      have hk : IsTupleKey (PpSet.boolK P w) s.heap g a := ⟨o, its.toArray, n, ho, hc, hd, items_of rv⟩
      refine ⟨(rowH g, .ref a) :: ks, by rw [e1]; rfl, by rw [List.map_cons, e2]; rfl, fun p hp => ?_⟩
      rcases List.mem_cons.mp hp with rfl | hp
      · exact row_thing hk
      · exact e3 p hp
  | [], _ :: _, _, q, _ => by simp only [List.map_cons, RpL] at q
  | _ :: _, [], _, q, _ => by simp only [List.map_nil, RpL] at q
def rLenSet (K : PySem.W.Frag) : V → Hp → VK → Prop := fun x H Q => ∃ (l : Addr) (vs : List V) (rows : List (List Bool)) (G : Hp), x = .ref l ∧ SqL K H l vs ∧ Same G H ∧ RpL K G vs (rows.map fun g => .tuple (g.map .bool)) ∧ rowsOk rows = true ∧ Q (.int rows.length) H
theorem allB_len : ∀ n, (allB n).length = 2 ^ n
  | 0 => rfl
  | n + 1 => by
    simp only [allB, List.length_append, List.length_map, allB_len n]
    rw [Nat.pow_succ]
    omega
theorem rowsOk_at {rows : List (List Bool)} (h : rowsOk rows = true) : ∃ n, n < 5 ∧ rows = allB n := by
  unfold rowsOk at h
  obtain ⟨n, hn, e⟩ := List.any_eq_true.mp h
  exact ⟨n, List.mem_range.mp hn, eq_of_beq e⟩
theorem pe_lenSetB {a : Expr} {ta : TE} {p p2 q pos : Pos} (hc : X.calm = true) (hu : X.A.units + 64 < cLine) (hg : Gl X "len") (hm : X.mg "len" = none) (hg2 : Gl X "set") (hm2 : X.mg "set" = none) (ha : PE X a ta)
    (na : starEach [a] X.env = (false, eval a X.env) :: starEach [] X.env := by rfl) : PE X (.Call (.Name "len" p) [.Call (.Name "set" p2) [a] [] q] [] pos) (tUn (rLenSet X.K) ta) := by
  refine ⟨fun pins s σ H Q I h => ?_⟩
  refine Call_ (ld_blt I hg hm PySem.boot_len ?_)
  refine callWith_builtin1 (args_cons ?_ rfl) rfl rfl
  refine Call_ (ld_blt I hg2 hm2 PyProof.Rows.boot_set ?_)
  refine callWith_type1 (args_cons (thn (ha.run pins s σ H _ I h) fun v s1 ⟨x, H1, I1, r1, q1⟩ => args_nil ?_) na) na rfl
  obtain ⟨l, vs, rows, G, rfl, hq, le, rp, hok, q1⟩ := q1
  cases r1
  obtain ⟨its, r, pl, hz⟩ := I1.list hq
  obtain ⟨n, hn, rfl⟩ := rowsOk_at hok
  obtain ⟨ks, e1, e2, e3⟩ := things_of (P := X.prog) (w := X.w) I1 le rp r
  have hlen : ks.length = (allB n).length := by
    have := congrArg List.length e2
    rw [List.length_map, List.length_map] at this
    exact this
  have hl16 : (allB n).length ≤ 16 := by
    rw [allB_len]
    have : 2 ^ n ≤ 2 ^ 4 := Nat.pow_le_pow_right (by decide) (by omega)
    omega
  refine uset_call ks (I1.ok.hd hc) pl.isList (by simpa using e1) e3 (by omega) (by rw [e2]; exact rows_unlike n hn) (by omega) fun h' tk L es ep t hS pm hk => ?_
  refine args_nil ?_
  obtain ⟨o, ho, hex, hd⟩ := hS.at_
  have I2 : L2.Inv X pins σ H1 { s1 with heap := h', toks := tk } := I1.kept fun b o e => hk b o e
  have hsz : es.size = (allB n).length := by rw [← Array.length_toList, hS.rows, pm.length_eq, hlen]
  refine call_len_set ho hex hd (Uset.fits (s := { s1 with heap := h', toks := tk }) hS) (by rw [hsz]; omega) ⟨.int (allB n).length, H1, I2.tok _, ⟨_, by rw [hsz]⟩, q1⟩
def oLenS : Op1 := fun ρ x => by1 dLenSet (rd ρ x)
@[simp] theorem oLenS_py (ρ : DEnv) (p : PyData) : oLenS ρ (.sh (.py p)) = dLenSet p := rfl
theorem ok_lenS : Ok1 K c (rLenSet K) oLenS := by
  intro G H σ ρ v x e Q env hx ho k
  unfold oLenS at ho
  cases er : rd ρ x with
  | none => rw [er] at ho; cases ho
  | some p =>
    rw [er, by1_some] at ho
    unfold dLenSet at ho
    split at ho
    · rename_i ds
      split at ho
      · rename_i rows hr
        split at ho
        · rename_i hok
          cases ho
          obtain ⟨a, vs, ea, ha, ra⟩ := rd_list env hx er
          have hds := asRows_inv hr
          subst hds
          refine ⟨a, vs, rows, G, ea, SqL.of ha, env.le, ra, hok, ?_⟩
          rw [List.length_map] at k
          exact k.flat env (by simp only [Rp])
        · cases ho
      · cases ho
    · cases ho
theorem de_lenSet {a : Expr} {f : M Ent} {p p2 q pos : Pos} (hc : X.calm = true) (hu : X.A.units + 64 < cLine) (hg : Gl X "len") (hm : X.mg "len" = none) (hg2 : Gl X "set") (hm2 : X.mg "set" = none) (ha : DE X c W a f)
    (na : starEach [a] X.env = (false, eval a X.env) :: starEach [] X.env := by rfl) : DE X c W (.Call (.Name "len" p) [.Call (.Name "set" p2) [a] [] q] [] pos) (f1 oLenS f) := pe_weak (pe_lenSetB hc hu hg hm hg2 hm2 ha na) (w_f1 ok_lenS)
end
end VL

set_option linter.all false
set_option autoImplicit false
/-! Sayings over endless runs, in plain Lean. -/
namespace Ltl
inductive Say (α : Type) where
  | mark (m : α)
  | yes
  | not (s : Say α)
  | and (s t : Say α)
  | or (s t : Say α)
  | next (s : Say α)
  | till (s t : Say α)
  | always (s : Say α)
  | again (s : Say α)
variable {α : Type}
def Till (A B : Nat → Prop) (i : Nat) : Prop := ∃ j, B (i + j) ∧ ∀ k, k < j → A (i + k)
def sat (w : Nat → α) : Say α → Nat → Prop
  | .mark m, i => w i = m
  | .yes, _ => True
  | .not s, i => ¬ sat w s i
  | .and s t, i => sat w s i ∧ sat w t i
  | .or s t, i => sat w s i ∨ sat w t i
  | .next s, i => sat w s (i + 1)
  | .till s t, i => Till (sat w s) (sat w t) i
  | .always s, i => ∀ j, sat w s (i + j)
  | .again s, _ => ∀ n, ∃ j, sat w s (n + j)
/-- periodic from q on -/
def Per (q p : Nat) (A : Nat → Prop) : Prop := ∀ i, q ≤ i → (A (i + p) ↔ A i)
theorem Per.not {q p : Nat} {A : Nat → Prop} (h : Per q p A) : Per q p fun i => ¬ A i := fun i hi => not_congr (h i hi)
theorem Per.till {q p : Nat} {A B : Nat → Prop} (ha : Per q p A) (hb : Per q p B) : Per q p (Till A B) := fun i hi => by
  constructor
  · rintro ⟨j, h1, h2⟩
    refine ⟨j, (hb (i + j) (by omega)).mp (by rw [show i + j + p = i + p + j by omega]; exact h1), fun k hk => (ha (i + k) (by omega)).mp ?_⟩
    rw [show i + k + p = i + p + k by omega]
    exact h2 k hk
  · rintro ⟨j, h1, h2⟩
    refine ⟨j, ?_, fun k hk => ?_⟩
    · rw [show i + p + j = i + j + p by omega]
      exact (hb (i + j) (by omega)).mpr h1
    · rw [show i + p + k = i + k + p by omega]
      exact (ha (i + k) (by omega)).mpr (h2 k hk)
theorem sat_per {w : Nat → α} {q p : Nat} (hw : ∀ i, q ≤ i → w (i + p) = w i) : ∀ s : Say α, Per q p (sat w s)
  | .mark m => fun i hi => by simp only [sat, hw i hi]
  | .yes => fun i hi => Iff.rfl
  | .not s => (sat_per hw s).not
  | .and s t => fun i hi => and_congr (sat_per hw s i hi) (sat_per hw t i hi)
  | .or s t => fun i hi => or_congr (sat_per hw s i hi) (sat_per hw t i hi)
  | .next s => fun i hi => by
    simp only [sat]
    rw [show i + p + 1 = i + 1 + p by omega]
    exact sat_per hw s (i + 1) (by omega)
  | .till s t => (sat_per hw s).till (sat_per hw t)
  | .always s => fun i hi => by
    simp only [sat]
    refine forall_congr' fun j => ?_
    rw [show i + p + j = i + j + p by omega]
    exact sat_per hw s (i + j) (by omega)
  | .again s => fun i hi => Iff.rfl
theorem per_mul {q p : Nat} {A : Nat → Prop} (h : Per q p A) {i : Nat} (hi : q ≤ i) : ∀ k, A (i + k * p) ↔ A i
  | 0 => by simp
  | k + 1 => by
    rw [show i + (k + 1) * p = i + k * p + p by rw [Nat.succ_mul]; omega]
    exact (h (i + k * p) (by omega)).trans (per_mul h hi k)
/-- the place among the way and one round of the ring -/
def red (q p i : Nat) : Nat := if i < q then i else q + (i - q) % p
theorem red_lt {q p i : Nat} (hp : 0 < p) : red q p i < q + p := by
  unfold red
  split
  · omega
  · have := Nat.mod_lt (i - q) hp
    omega
theorem per_red {q p : Nat} {A : Nat → Prop} (h : Per q p A) (i : Nat) : A (red q p i) ↔ A i := by
  unfold red
  split
  · exact Iff.rfl
  · have e : i = (q + (i - q) % p) + ((i - q) / p) * p := by
      have := Nat.mod_add_div (i - q) p
      rw [Nat.mul_comm] at this
      omega
    have := per_mul h (i := q + (i - q) % p) (by omega) ((i - q) / p)
    rw [← e] at this
    exact this.symm
theorem red_small {q p i : Nat} (h : i < q + p) : red q p i = i := by
  unfold red
  split
  · rfl
  · rw [Nat.mod_eq_of_lt (by omega)]
    omega
def nx (q p i : Nat) : Nat := if i + 1 < q + p then i + 1 else q
theorem nx_per {q p : Nat} {A : Nat → Prop} (h : Per q p A) {i : Nat} (hi : i < q + p) : A (nx q p i) ↔ A (i + 1) := by
  unfold nx
  split
  · exact Iff.rfl
  · have e : i + 1 = q + p := by omega
    rw [e]
    exact (h q (Nat.le_refl q)).symm
theorem nx_lt {q p i : Nat} (hp : 0 < p) : nx q p i < q + p := by
  unfold nx
  split <;> omega
/-- reached within k steps -/
def Dist (A B : Nat → Prop) (k i : Nat) : Prop := ∃ j, j ≤ k ∧ B (i + j) ∧ ∀ m, m < j → A (i + m)
theorem Dist.zero {A B : Nat → Prop} {i : Nat} : Dist A B 0 i ↔ B i := by
  constructor
  · rintro ⟨j, h1, h2, _⟩
    have : j = 0 := by omega
    subst this
    exact h2
  · exact fun h => ⟨0, Nat.le_refl 0, h, fun m hm => absurd hm (Nat.not_lt_zero m)⟩
theorem Dist.succ {A B : Nat → Prop} {k i : Nat} : Dist A B (k + 1) i ↔ B i ∨ (A i ∧ Dist A B k (i + 1)) := by
  constructor
  · rintro ⟨j, h1, h2, h3⟩
    cases j with
    | zero => exact .inl h2
    | succ j => exact .inr ⟨h3 0 (Nat.succ_pos j), j, by omega, by rw [show i + 1 + j = i + (j + 1) by omega]; exact h2, fun m hm => by rw [show i + 1 + m = i + (m + 1) by omega]; exact h3 (m + 1) (by omega)⟩
  · rintro (h | ⟨h1, j, h2, h3, h4⟩)
    · exact ⟨0, Nat.zero_le _, h, fun m hm => absurd hm (Nat.not_lt_zero m)⟩
    · refine ⟨j + 1, by omega, by rw [show i + (j + 1) = i + 1 + j by omega]; exact h3, fun m hm => ?_⟩
      cases m with
      | zero => exact h1
      | succ m => rw [show i + (m + 1) = i + 1 + m by omega]; exact h4 m (by omega)
theorem Dist.till {A B : Nat → Prop} {k i : Nat} (h : Dist A B k i) : Till A B i := by
  obtain ⟨j, _, h2, h3⟩ := h
  exact ⟨j, h2, h3⟩
theorem Dist.per {q p : Nat} {A B : Nat → Prop} (ha : Per q p A) (hb : Per q p B) (k : Nat) : Per q p (Dist A B k) := fun i hi => by
  constructor
  · rintro ⟨j, h0, h1, h2⟩
    refine ⟨j, h0, (hb (i + j) (by omega)).mp (by rw [show i + j + p = i + p + j by omega]; exact h1), fun k hk => (ha (i + k) (by omega)).mp ?_⟩
    rw [show i + k + p = i + p + k by omega]
    exact h2 k hk
  · rintro ⟨j, h0, h1, h2⟩
    refine ⟨j, h0, ?_, fun k hk => ?_⟩
    · rw [show i + p + j = i + j + p by omega]
      exact (hb (i + j) (by omega)).mpr h1
    · rw [show i + p + k = i + k + p by omega]
      exact (ha (i + k) (by omega)).mpr (h2 k hk)
theorem exists_least {P : Nat → Prop} : (∃ j, P j) → ∃ j, P j ∧ ∀ m, m < j → ¬ P m := by
  rintro ⟨j, h⟩
  induction j using Nat.strongRecOn with
  | ind j ih =>
    by_cases e : ∃ m, m < j ∧ P m
    · obtain ⟨m, h1, h2⟩ := e
      exact ih m h1 h2
    · exact ⟨j, h, fun m hm hp => e ⟨m, hm, hp⟩⟩
/-- what is reached at all is reached soon -/
theorem Till.soon {q p : Nat} {A B : Nat → Prop} (ha : Per q p A) (hb : Per q p B) (hp : 0 < p) {i : Nat} (h : Till A B i) : ∃ j, (i + j < q + p ∨ j < p) ∧ B (i + j) ∧ ∀ k, k < j → A (i + k) := by
  obtain ⟨j, ⟨h1, h2⟩, h3⟩ := exists_least (P := fun j => B (i + j) ∧ ∀ k, k < j → A (i + k)) h
  refine ⟨j, ?_, h1, h2⟩
  refine Classical.byContradiction fun hn => ?_
  have e1 : ¬ i + j < q + p := fun z => hn (.inl z)
  have e2 : ¬ j < p := fun z => hn (.inr z)
  refine h3 (j - p) (by omega) ⟨?_, fun k hk => h2 k (by omega)⟩
  have := (hb (i + (j - p)) (by omega)).mp
  rw [show i + (j - p) + p = i + j by omega] at this
  exact this h1
theorem Till.dist {q p : Nat} {A B : Nat → Prop} (ha : Per q p A) (hb : Per q p B) (hp : 0 < p) {i : Nat} (h : Till A B i) : Dist A B (q + p) i := by
  obtain ⟨j, h1, h2, h3⟩ := h.soon ha hb hp
  exact ⟨j, by omega, h2, h3⟩
/-! ### marking from behind, over and over -/
def getB (l : List Bool) (i : Nat) : Bool := l.getD i false
/-- one place: marked v if it may be and the next one is -/
def stepM (v : Bool) (ok : Nat → Bool) (q p : Nat) (found : List Bool) (i : Nat) : List Bool := if ok i && (getB found (nx q p i) == v) then found.set i v else found
def passM (v : Bool) (ok : Nat → Bool) (q p : Nat) (found : List Bool) : List Bool := ((List.range (q + p)).map fun i => q + p - 1 - i).foldl (stepM v ok q p) found
def iter {β : Type} (f : β → β) : Nat → β → β
  | 0, x => x
  | n + 1, x => iter f n (f x)
section
variable {v : Bool} {ok : Nat → Bool} {q p : Nat} {A B : Nat → Prop}
theorem stepM_length (found : List Bool) (i : Nat) : (stepM v ok q p found i).length = found.length := by
  unfold stepM
  split
  · rw [List.length_set]
  · rfl
theorem getB_set {l : List Bool} {i j : Nat} {b : Bool} (h : i < l.length) : getB (l.set i b) j = if j = i then b else getB l j := by
  unfold getB
  rw [List.getD_eq_getElem?_getD, List.getD_eq_getElem?_getD]
  by_cases e : j = i
  · subst e
    rw [if_pos rfl, List.getElem?_set_self h]
    rfl
  · rw [if_neg e, List.getElem?_set_ne (Ne.symm e)]
theorem bne_flip {a b : Bool} : (a = !b) ↔ ¬ a = b := by cases a <;> cases b <;> simp
theorem foldl_inv {β γ : Type} {f : β → γ → β} (I : List γ → β → Prop) (xs : List γ) (b : β) (h0 : I [] b) (hs : ∀ pre x b, (∃ post, xs = pre ++ x :: post) → I pre b → I (pre ++ [x]) (f b x)) : I xs (xs.foldl f b) := by
  have aux : ∀ (pre post : List γ) (b : β), xs = pre ++ post → I pre b → I xs (post.foldl f b) := by
    intro pre post
    induction post generalizing pre with
    | nil =>
      intro b e h
      rw [List.append_nil] at e
      rw [e]
      exact h
    | cons x post ih =>
      intro b e h
      refine ih (pre ++ [x]) (f b x) (by rw [e]; simp) (hs pre x b ⟨post, e⟩ h)
  exact aux [] xs b rfl h0
theorem down_mem {n : Nat} {pre : List Nat} {x : Nat} {post : List Nat} (h : ((List.range n).map fun i => n - 1 - i) = pre ++ x :: post) : x = n - 1 - pre.length ∧ pre.length < n := by
  have hl := congrArg List.length h
  simp only [List.length_map, List.length_range, List.length_append, List.length_cons] at hl
  have hx := congrArg (fun l => l[pre.length]?) h
  simp only [List.getElem?_map] at hx
  rw [List.getElem?_range (by omega)] at hx
  simp at hx
  exact ⟨hx.symm, by omega⟩
theorem passM_ok (hp : 0 < p) (hA : ∀ i, i < q + p → (ok i = true ↔ A i)) (ha : Per q p A) (hb : Per q p B) (k : Nat) {found : List Bool} (hl : found.length = q + p)
    (snd : ∀ i, i < q + p → getB found i = v → Till A B i) (cpl : ∀ i, i < q + p → Dist A B k i → getB found i = v) :
    (passM v ok q p found).length = q + p ∧ (∀ i, i < q + p → getB (passM v ok q p found) i = v → Till A B i) ∧ ∀ i, i < q + p → Dist A B (k + 1) i → getB (passM v ok q p found) i = v := by
  have inv := foldl_inv (f := stepM v ok q p) (fun pre f => f.length = q + p ∧ (∀ i, i < q + p → getB f i = v → Till A B i) ∧ (∀ i, i < q + p → Dist A B k i → getB f i = v) ∧ ∀ i, i < q + p → q + p ≤ i + pre.length → Dist A B (k + 1) i → getB f i = v)
    ((List.range (q + p)).map fun i => q + p - 1 - i) found ⟨hl, snd, cpl, fun i h1 h2 => by simp at h2; omega⟩ ?_
  · obtain ⟨h1, h2, h3, h4⟩ := inv
    refine ⟨h1, h2, fun i hi => h4 i hi ?_⟩
    simp
  · rintro pre x f ⟨post, e⟩ ⟨h1, h2, h3, h4⟩
    obtain ⟨rfl, hx⟩ := down_mem e
    generalize hx0 : q + p - 1 - pre.length = x
    have hxl : x < q + p := by omega
    have nl := nx_lt (q := q) (p := p) (i := x) hp
    rw [List.length_append, List.length_singleton]
    by_cases hc : (ok x && (getB f (nx q p x) == v)) = true
    · have es : stepM v ok q p f x = f.set x v := by
        unfold stepM
        rw [if_pos hc]
      obtain ⟨c1, c2⟩ := Bool.and_eq_true_iff.mp hc
      have c2 := eq_of_beq c2
      rw [es]
      refine ⟨by rw [List.length_set]; exact h1, fun i hi g => ?_, fun i hi d => ?_, fun i hi z d => ?_⟩
      · rw [getB_set (by omega)] at g
        by_cases e : i = x
        · subst e
          have t := h2 (nx q p i) nl c2
          have t := (nx_per (ha.till hb) hi).mp t
          obtain ⟨j, t1, t2⟩ := t
          refine ⟨j + 1, by rw [show i + (j + 1) = i + 1 + j by omega]; exact t1, fun m hm => ?_⟩
          cases m with
          | zero => exact (hA i hi).mp c1
          | succ m => rw [show i + (m + 1) = i + 1 + m by omega]; exact t2 m (by omega)
        · rw [if_neg e] at g
          exact h2 i hi g
      · rw [getB_set (by omega)]
        split
        · rfl
        · exact h3 i hi d
      · rw [getB_set (by omega)]
        split
        · rfl
        · exact h4 i hi (by omega) d
    · have es : stepM v ok q p f x = f := by
        unfold stepM
        rw [if_neg hc]
      rw [es]
      refine ⟨h1, h2, h3, fun i hi z d => ?_⟩
      by_cases e : i = x
      · subst e
        rcases Dist.succ.mp d with d | ⟨d1, d2⟩
        · exact h3 i hi ⟨0, Nat.zero_le _, d, fun m hm => absurd hm (Nat.not_lt_zero m)⟩
        · exfalso
          refine hc (Bool.and_eq_true_iff.mpr ⟨(hA i hi).mpr d1, ?_⟩)
          rw [h3 (nx q p i) nl ((nx_per (Dist.per ha hb k) hi).mpr d2)]
          exact beq_self_eq_true v
      · exact h4 i hi (by omega) d
theorem iterM_ok (hp : 0 < p) (hA : ∀ i, i < q + p → (ok i = true ↔ A i)) (ha : Per q p A) (hb : Per q p B) : ∀ (n k : Nat) {found : List Bool}, found.length = q + p → (∀ i, i < q + p → getB found i = v → Till A B i) → (∀ i, i < q + p → Dist A B k i → getB found i = v) →
    (iter (passM v ok q p) n found).length = q + p ∧ (∀ i, i < q + p → getB (iter (passM v ok q p) n found) i = v → Till A B i) ∧ ∀ i, i < q + p → Dist A B (k + n) i → getB (iter (passM v ok q p) n found) i = v
  | 0, k, found, hl, h1, h2 => ⟨hl, h1, h2⟩
  | n + 1, k, found, hl, h1, h2 => by
    obtain ⟨k1, k2, k3⟩ := passM_ok hp hA ha hb k hl h1 h2
    have := iterM_ok hp hA ha hb n (k + 1) k1 k2 k3
    rw [show k + 1 + n = k + (n + 1) by omega] at this
    exact this
/-- after as many turns as there are places all is marked that is to be -/
theorem mark_ok (hp : 0 < p) (hA : ∀ i, i < q + p → (ok i = true ↔ A i)) (ha : Per q p A) (hb : Per q p B) {found : List Bool} (hl : found.length = q + p) (h0 : ∀ i, i < q + p → (getB found i = v ↔ B i)) :
    (iter (passM v ok q p) (q + p) found).length = q + p ∧ ∀ i, i < q + p → (getB (iter (passM v ok q p) (q + p) found) i = v ↔ Till A B i) := by
  obtain ⟨k1, k2, k3⟩ := iterM_ok (v := v) hp hA ha hb (q + p) 0 hl (fun i hi g => ⟨0, (h0 i hi).mp g, fun m hm => absurd hm (Nat.not_lt_zero m)⟩) fun i hi d => (h0 i hi).mpr (Dist.zero.mp d)
  refine ⟨k1, fun i hi => ⟨k2 i hi, fun t => k3 i hi ?_⟩⟩
  rw [Nat.zero_add]
  exact t.dist ha hb hp
end
/-! ### the run of a way and a ring -/
def word (d : α) (way ring : List α) (i : Nat) : α := (way ++ ring).getD (red way.length ring.length i) d
theorem word_per {d : α} {way ring : List α} (hp : 0 < ring.length) (i : Nat) (hi : way.length ≤ i) : word d way ring (i + ring.length) = word d way ring i := by
  unfold word
  congr 1
  unfold red
  rw [if_neg (by omega), if_neg (by omega), show i + ring.length - way.length = i - way.length + ring.length by omega, Nat.add_mod_right]
theorem word_small {d : α} {way ring : List α} {i : Nat} (h : i < way.length + ring.length) : word d way ring i = (way ++ ring).getD i d := by
  unfold word
  rw [red_small h]
noncomputable def truth (w : Nat → α) (s : Say α) (i : Nat) : Bool := @decide (sat w s i) (Classical.propDecidable _)
theorem truth_iff {w : Nat → α} {s : Say α} {i : Nat} : truth w s i = true ↔ sat w s i := by
  unfold truth
  exact @decide_eq_true_iff _ (Classical.propDecidable _)
/-- the row of a saying -/
noncomputable def row (w : Nat → α) (n : Nat) (s : Say α) : List Bool := (List.range n).map (truth w s)
theorem row_length {w : Nat → α} {n : Nat} {s : Say α} : (row w n s).length = n := by simp [row]
theorem row_get {w : Nat → α} {n : Nat} {s : Say α} {i : Nat} (h : i < n) : getB (row w n s) i = truth w s i := by
  unfold getB row
  rw [List.getD_eq_getElem?_getD, List.getElem?_map, List.getElem?_range h]
  rfl
theorem row_ext {w : Nat → α} {n : Nat} {s : Say α} {l : List Bool} (h1 : l.length = n) (h2 : ∀ i, i < n → (getB l i = true ↔ sat w s i)) : l = row w n s := by
  refine List.ext_getElem (by rw [row_length, h1]) fun i hi hi2 => ?_
  have e := h2 i (by omega)
  have e1 : getB l i = l[i] := by
    unfold getB
    rw [List.getD_eq_getElem?_getD, List.getElem?_eq_getElem hi]
    rfl
  have e2 : (row w n s)[i] = truth w s i := by simp [row]
  rw [e1] at e
  rw [e2]
  cases h : l[i] with
  | true =>
    rw [h] at e
    exact (truth_iff.mpr (e.mp rfl)).symm
  | false =>
    rw [h] at e
    cases t : truth w s i with
    | false => rfl
    | true => exact absurd (e.mpr (truth_iff.mp t)) (by simp)
theorem row_congr {w w' : Nat → α} {n : Nat} {s : Say α} (h : ∀ i, w i = w' i) : row w n s = row w' n s := by
  have : w = w' := funext h
  rw [this]
end Ltl

set_option Elab.async false
set_option linter.all false
set_option autoImplicit false
set_option maxRecDepth 100000
namespace LawX
open PySem L2 VL PySem.Spec PyProof.Rows
def topS (i : Nat) : Stmt := PySem.Challenge.pw_everafter_k05_right_guesses.main.body.getD i (.Pass ⟨0, 0, 0, 0⟩)
theorem hu64 {A : Around} {k : Nat} (h : Room k A) : A.units + 64 < cLine := by have := h.un; omega
theorem hu65 {A : Around} {k : Nat} (h : Room k A) : A.units + 65 < cLine := by have := h.un; omega
noncomputable section
variable {P : Program} {w : World} {K : PySem.W.Frag} {mg : Str → Option Value} {base : Heap} {c : Nat → Addr}

/-! ### _law_names -/
abbrev s_law_names : Stmt := topS 14
theorem sc_law_names : FnScope ["_law_cell", "_law_letters", "_law_rest", "_law_size", "_law_at", "_law_found", "_law_k", "_law_letter", "_law_j"] ["_law_cell"] (defScope s_law_names) := ⟨rfl, rfl, rfl, by decide +kernel, rfl, by decide +kernel, by decide +kernel⟩
def b_law_names : S :=
    (sq (fSet 1 (fSh (fC (.str "abcdefghijklmnopqrstuvwxyz"))))
    (sq (fSet 2 (fSh (fM1 oJoin (fC (.str "")) (fComp (bnd (fCons (fC (.int 6)) fNil) rng1) (gNm 8) (ret true) (f2 oIx (fVar 1) (f2 oMod (f2 oAdd (f2 oDiv (fVar 0) (fC (.int 7))) (f2 oMul (fC (.int 5)) (fVar 8))) (fC (.int 26)))) [8]))))
    (sq (fIf (fB (f2 oEq (f2 oMod (fVar 0) (fC (.int 3))) (fC (.int 2)))) (sq (fSet 3 (fSh (f2 oAdd (fC (.int 1)) (f2 oMod (f2 oDiv (fVar 0) (fC (.int 3))) (fC (.int 4))))))
    (fRet (fComp (bnd (fCons (fC (.int 3)) fNil) rng1) (gNm 6) (ret true) (fSl (fVar 2) fNoP (fP (f2 oAdd (fVar 3) (fVar 6)))) [6]))) fNx)
    (sq (fSet 3 (fSh (f2 oMod (f2 oDiv (fVar 0) (fC (.int 3))) (fC (.int 6)))))
    (sq (fSet 4 (fSh (f2 oMod (f2 oDiv (fVar 0) (fC (.int 18))) (f2 oAdd (fVar 3) (fC (.int 1))))))
    (sq (fSet 5 (fLst fNil))
    (sq (fFor (bnd (fCons (fC (.int 3)) fNil) rng1) (gNm 6) (sq (fSet 7 (fSh (f2 oIx (fVar 1) (f2 oMod (f2 oAdd (f2 oDiv (fVar 0) (fC (.int 90))) (f2 oMul (fC (.int 7)) (fVar 6))) (fC (.int 26))))))
    (fDrop (fMet appE (fVar 5) (fCons (f2 oAdd (f2 oAdd (fSl (fVar 2) fNoP (fP (fVar 4))) (fVar 7)) (fSl (fVar 2) (fP (fVar 4)) (fP (fVar 3)))) fNil)))))
    (fRet (fVar 5)))))))))
def f_law_names : Fn := fnOf 9 none b_law_names
theorem dv_law_names {f : Addr} {cdv : Value} {A : Around} {outer : List Env} {s : Shared} {H : Hp} {E : XK} (hr : Room 0 (A.deeper (envOfC "_law_names" (defScope s_law_names) s.heap.objs.size f cdv))) (z_range : mg "range" = none) :
    DSs (bodyCx P w K mg base ["_law_cell", "_law_letters", "_law_rest", "_law_size", "_law_at", "_law_found", "_law_k", "_law_letter", "_law_j"] "_law_names" s_law_names f cdv A outer s H E) c (WE0 E) (defBody s_law_names) b_law_names :=
    (ds_cons (ds_set 1 sc_law_names.nd rfl (.inr rfl) (de_sh de_str))
    (ds_cons (ds_set 2 sc_law_names.nd rfl (.inr rfl) (de_sh (de_join de_str (de_comp (own := [("_law_j", 8)]) rfl sc_law_names.nd (di_range1 (by rfl) z_range (da_cons de_int da_nil)) (blkOk_by (by kernel_rfl)) (by decide) (fun _ _ _ _ _ => (dg_name 8 sc_law_names.nd rfl (by first | exact Or.inl rfl | exact Or.inr rfl))) (fun _ _ _ _ _ => dts_nil) (fun _ _ _ _ _ => (de_ix (de_var 1) (de_mod (de_add (de_div (de_var 0) de_int) (de_mul de_int (de_var 8))) de_int)))))))
    (ds_cons (ds_if (dt_eq (hu64 hr) (de_mod (de_var 0) de_int) de_int) (ds_cons (ds_set 3 sc_law_names.nd rfl (.inr rfl) (de_sh (de_add de_int (de_mod (de_div (de_var 0) de_int) de_int))))
    (ds_one (ds_ret (de_comp (own := [("_law_k", 6)]) rfl sc_law_names.nd (di_range1 (by rfl) z_range (da_cons de_int da_nil)) (blkOk_by (by kernel_rfl)) (by decide) (fun _ _ _ _ _ => (dg_name 6 sc_law_names.nd rfl (by first | exact Or.inl rfl | exact Or.inr rfl))) (fun _ _ _ _ _ => dts_nil) (fun _ _ _ _ _ => (de_slice (de_var 2) do_none (do_some (de_add (de_var 3) (de_var 6))))))))) ds_nil)
    (ds_cons (ds_set 3 sc_law_names.nd rfl (.inr rfl) (de_sh (de_mod (de_div (de_var 0) de_int) de_int)))
    (ds_cons (ds_set 4 sc_law_names.nd rfl (.inl rfl) (de_sh (de_mod (de_div (de_var 0) de_int) (de_add (de_var 3) de_int))))
    (ds_cons (ds_set 5 sc_law_names.nd rfl (.inl rfl) (de_lst da_nil))
    (ds_cons (ds_for (passes_of rfl) rfl (di_range1 (by rfl) z_range (da_cons de_int da_nil)) (dg_name 6 sc_law_names.nd rfl (.inl rfl)) (ds_cons (ds_set 7 sc_law_names.nd rfl (.inl rfl) (de_sh (de_ix (de_var 1) (de_mod (de_add (de_div (de_var 0) de_int) (de_mul de_int (de_var 6))) de_int))))
    (ds_one (ds_expr (de_append (de_var 5) (da_cons (de_add (de_add (de_slice (de_var 2) do_none (do_some (de_var 4))) (de_var 7)) (de_slice (de_var 2) (do_some (de_var 4)) (do_some (de_var 3)))) da_nil))))))
    (ds_one (ds_ret (de_var 5))))))))))
theorem ok_law_names {f : Addr} {fd : FuncData} (F : Fun K "_law_names" "_law_names" s_law_names f fd) (hm : mg "_law_names" = some (.ref f)) (bi : Binds K fd ["_law_cell"] []) (z_range : mg "range" = none) : FnAt P w K mg base c 1 "_law_names" 1 none f_law_names :=
  ⟨f, fd, ["_law_cell"], hm, F.kp, bi, rfl, fn_ok none F sc_law_names fun cdv A outer s H E hr => dv_law_names hr z_range⟩
/-! ### _law_all -/
abbrev s_law_all : Stmt := topS 16
theorem sc_law_all : FnScope ["_law_saying", "_law_found", "_law_part"] ["_law_saying"] (defScope s_law_all) := ⟨rfl, rfl, rfl, by decide +kernel, rfl, by decide +kernel, by decide +kernel⟩
def b_law_all (self : Fn) : S :=
    (sq (fSet 1 (fSh (fLst (fCons (fVar 0) fNil))))
    (sq (fFor (fItems (fSl (fVar 0) (fP (fC (.int 1))) fNoP)) (gNm 2) (fIf (fB (fBl oIsi (fCons (fVar 2) (fCons (fTy "tuple") fNil)))) (fSet 1 (fSh (f2 oAdd (fVar 1) (fCall 1 none self (fCons (fVar 2) fNil))))) fNx))
    (fRet (fVar 1))))
def f_law_all : Nat → Fn := recF 3 none b_law_all
theorem dv_law_all {f : Addr} {cdv : Value} {A : Around} {outer : List Env} {s : Shared} {H : Hp} {E : XK} {k : Nat} {self : Fn} (hk : 0 ≤ k) (hr : Room k (A.deeper (envOfC "_law_all" (defScope s_law_all) s.heap.objs.size f cdv))) (F_law_all : FnAt P w K mg base c k "_law_all" 1 none self) (z_tuple : mg "tuple" = none) (z_isinstance : mg "isinstance" = none) :
    DSs (bodyCx P w K mg base ["_law_saying", "_law_found", "_law_part"] "_law_all" s_law_all f cdv A outer s H E) c (WE0 E) (defBody s_law_all) (b_law_all self) :=
    (ds_cons (ds_set 1 sc_law_all.nd rfl (.inl rfl) (de_sh (de_lst (da_cons (de_var 0) da_nil))))
    (ds_cons (ds_for (passes_of rfl) rfl (di_any (de_slice (de_var 0) (do_some de_int) do_none)) (dg_name 2 sc_law_all.nd rfl (.inl rfl)) (ds_one (ds_if (dt_val (de_isi (by rfl) z_isinstance (da_cons (de_var 2) (da_cons (de_ty "tuple" (by rfl) z_tuple) da_nil)))) (ds_one (ds_set 1 sc_law_all.nd rfl (.inl rfl) (de_sh (de_add (de_var 1) (de_call F_law_all (fun _ h => nomatch h) hr (takes_of rfl rfl rfl rfl) (by rfl) (da_cons (de_var 2) da_nil)))))) ds_nil)))
    (ds_one (ds_ret (de_var 1)))))
theorem ok_law_all {f : Addr} {fd : FuncData} (F : Fun K "_law_all" "_law_all" s_law_all f fd) (hm : mg "_law_all" = some (.ref f)) (bi : Binds K fd ["_law_saying"] []) (z_tuple : mg "tuple" = none) (z_isinstance : mg "isinstance" = none) : ∀ m, FnAt P w K mg base c (0 + m) "_law_all" 1 none (f_law_all m) :=
  fn_rec (k0 := 0) none F sc_law_all hm bi fun fn k hk F_self cdv A outer s H E hr => dv_law_all hk hr F_self z_tuple z_isinstance
/-! ### _law_bonds -/
abbrev s_law_bonds : Stmt := topS 17
theorem sc_law_bonds : FnScope ["_law_saying", "_law_found", "_law_one", "_law_more", "_law_other"] ["_law_saying"] (defScope s_law_bonds) := ⟨rfl, rfl, rfl, by decide +kernel, rfl, by decide +kernel, by decide +kernel⟩
def b_law_bonds : S :=
    (sq (fSet 1 (fSh (fLst fNil)))
    (sq (fFor (fItems (fCall 1 none (f_law_all 7) (fCons (fVar 0) fNil))) (gNm 2) (sq (fSet 3 (fSh (fLst fNil)))
    (sq (fIf (fB (f2 (oIn false) (f2 oIx (fVar 2) (fC (.int 0))) (fTup (fCons (fC (.str "next")) (fCons (fC (.str "till")) (fCons (fC (.str "always")) fNil)))))) (fSet 3 (fSh (fLst (fCons (fVar 2) fNil)))) (fIf (fB (f2 oEq (f2 oIx (fVar 2) (fC (.int 0))) (fC (.str "again")))) (fSet 3 (fSh (fLst (fCons (fTup (fCons (fC (.str "till")) (fCons (fTup (fCons (fC (.str "yes")) fNil)) (fCons (f2 oIx (fVar 2) (fC (.int 1))) fNil)))) (fCons (fTup (fCons (fC (.str "always")) (fCons (fTup (fCons (fC (.str "till")) (fCons (fTup (fCons (fC (.str "yes")) fNil)) (fCons (f2 oIx (fVar 2) (fC (.int 1))) fNil)))) fNil))) fNil))))) fNx))
    (fSet 1 (fSh (f2 oAdd (fVar 1) (fComp (fItems (fVar 3)) (gNm 4) (fB (f2 (oIn true) (fVar 4) (fVar 1))) (fVar 4) [4])))))))
    (fRet (fVar 1))))
def f_law_bonds : Fn := fnOf 5 none b_law_bonds
theorem dv_law_bonds {f : Addr} {cdv : Value} {A : Around} {outer : List Env} {s : Shared} {H : Hp} {E : XK} (hr : Room 7 (A.deeper (envOfC "_law_bonds" (defScope s_law_bonds) s.heap.objs.size f cdv))) (F_law_all : FnAt P w K mg base c 7 "_law_all" 1 none (f_law_all 7)) :
    DSs (bodyCx P w K mg base ["_law_saying", "_law_found", "_law_one", "_law_more", "_law_other"] "_law_bonds" s_law_bonds f cdv A outer s H E) c (WE0 E) (defBody s_law_bonds) b_law_bonds :=
    (ds_cons (ds_set 1 sc_law_bonds.nd rfl (.inr rfl) (de_sh (de_lst da_nil)))
    (ds_cons (ds_for (passes_of rfl) rfl (di_any (de_call F_law_all (fun _ h => nomatch h) (hr.mono (by decide)) (takes_of rfl rfl rfl rfl) (by rfl) (da_cons (de_var 0) da_nil))) (dg_name 2 sc_law_bonds.nd rfl (.inl rfl)) (ds_cons (ds_set 3 sc_law_bonds.nd rfl (.inl rfl) (de_sh (de_lst da_nil)))
    (ds_cons (ds_if (dt_in (hu65 hr) (de_ix (de_var 2) de_int) (de_tup (da_cons de_str (da_cons de_str (da_cons de_str da_nil))))) (ds_one (ds_set 3 sc_law_bonds.nd rfl (.inl rfl) (de_sh (de_lst (da_cons (de_var 2) da_nil))))) (ds_one (ds_if (dt_eq (hu64 hr) (de_ix (de_var 2) de_int) de_str) (ds_one (ds_set 3 sc_law_bonds.nd rfl (.inl rfl) (de_sh (de_lst (da_cons (de_tup (da_cons de_str (da_cons (de_tup (da_cons de_str da_nil)) (da_cons (de_ix (de_var 2) de_int) da_nil)))) (da_cons (de_tup (da_cons de_str (da_cons (de_tup (da_cons de_str (da_cons (de_tup (da_cons de_str da_nil)) (da_cons (de_ix (de_var 2) de_int) da_nil)))) da_nil))) da_nil)))))) ds_nil)))
    (ds_one (ds_set 1 sc_law_bonds.nd rfl (.inr rfl) (de_sh (de_add (de_var 1) (de_comp (own := [("_law_other", 4)]) rfl sc_law_bonds.nd (di_any (de_var 3)) (blkOk_by (by kernel_rfl)) (by decide) (fun _ _ _ _ _ => (dg_name 4 sc_law_bonds.nd rfl (by first | exact Or.inl rfl | exact Or.inr rfl))) (fun _ _ _ _ _ => (dts_one (dt_notIn (hu65 hr) (de_var 4) (de_var 1)))) (fun _ _ _ _ _ => (de_var 4))))))))))
    (ds_one (ds_ret (de_var 1)))))
theorem ok_law_bonds {f : Addr} {fd : FuncData} (F : Fun K "_law_bonds" "_law_bonds" s_law_bonds f fd) (hm : mg "_law_bonds" = some (.ref f)) (bi : Binds K fd ["_law_saying"] []) (F_law_all : FnAt P w K mg base c 7 "_law_all" 1 none (f_law_all 7)) : FnAt P w K mg base c 8 "_law_bonds" 1 none f_law_bonds :=
  ⟨f, fd, ["_law_saying"], hm, F.kp, bi, rfl, fn_ok none F sc_law_bonds fun cdv A outer s H E hr => dv_law_bonds hr F_law_all⟩
/-! ### _law_fit -/
abbrev s_law_fit : Stmt := topS 18
theorem sc_law_fit : FnScope ["_law_saying", "_law_most"] ["_law_saying", "_law_most"] (defScope s_law_fit) := ⟨rfl, rfl, rfl, by decide +kernel, rfl, by decide +kernel, by decide +kernel⟩
def b_law_fit : S :=
    (sq (fWhile (fB (f2 oGt (fBl oLen (fCons (fCall 1 none f_law_bonds (fCons (fVar 0) fNil)) fNil)) (fVar 1))) (fSet 0 (fSh (f2 oIx (fVar 0) (f1 oNeg (fC (.int 1)))))) 10)
    (fRet (fVar 0)))
def f_law_fit : Fn := fnOf 2 none b_law_fit
theorem dv_law_fit {f : Addr} {cdv : Value} {A : Around} {outer : List Env} {s : Shared} {H : Hp} {E : XK} (hr : Room 8 (A.deeper (envOfC "_law_fit" (defScope s_law_fit) s.heap.objs.size f cdv))) (z_len : mg "len" = none) (F_law_bonds : FnAt P w K mg base c 8 "_law_bonds" 1 none f_law_bonds) :
    DSs (bodyCx P w K mg base ["_law_saying", "_law_most"] "_law_fit" s_law_fit f cdv A outer s H E) c (WE0 E) (defBody s_law_fit) b_law_fit :=
    (ds_cons (ds_while 10 (passes_of rfl) (dt_gt (de_len (by rfl) z_len (da_cons (de_call F_law_bonds (fun _ h => nomatch h) (hr.mono (by decide)) (takes_of rfl rfl rfl rfl) (by rfl) (da_cons (de_var 0) da_nil)) da_nil)) (de_var 1)) (ds_one (ds_set 0 sc_law_fit.nd rfl (.inl rfl) (de_sh (de_ix (de_var 0) (de_neg de_int))))))
    (ds_one (ds_ret (de_var 0))))
theorem ok_law_fit {f : Addr} {fd : FuncData} (F : Fun K "_law_fit" "_law_fit" s_law_fit f fd) (hm : mg "_law_fit" = some (.ref f)) (bi : Binds K fd ["_law_saying", "_law_most"] []) (z_len : mg "len" = none) (F_law_bonds : FnAt P w K mg base c 8 "_law_bonds" 1 none f_law_bonds) : FnAt P w K mg base c 9 "_law_fit" 2 none f_law_fit :=
  ⟨f, fd, ["_law_saying", "_law_most"], hm, F.kp, bi, rfl, fn_ok none F sc_law_fit fun cdv A outer s H E hr => dv_law_fit hr z_len F_law_bonds⟩
/-! ### parts_of -/
abbrev s_parts_of : Stmt := topS 1
theorem sc_parts_of : FnScope ["saying", "part"] ["saying"] (defScope s_parts_of) := ⟨rfl, rfl, rfl, by decide +kernel, rfl, by decide +kernel, by decide +kernel⟩
def b_parts_of : S :=
    (fRet (fComp (fItems (fSl (fVar 0) (fP (fC (.int 1))) fNoP)) (gNm 1) (fB (fBl oIsi (fCons (fVar 1) (fCons (fTy "tuple") fNil)))) (fVar 1) [1]))
def f_parts_of : Fn := fnOf 2 none b_parts_of
theorem dv_parts_of {f : Addr} {cdv : Value} {A : Around} {outer : List Env} {s : Shared} {H : Hp} {E : XK} (hr : Room 0 (A.deeper (envOfC "parts_of" (defScope s_parts_of) s.heap.objs.size f cdv))) (z_tuple : mg "tuple" = none) (z_isinstance : mg "isinstance" = none) :
    DSs (bodyCx P w K mg base ["saying", "part"] "parts_of" s_parts_of f cdv A outer s H E) c (WE0 E) (defBody s_parts_of) b_parts_of :=
    (ds_one (ds_ret (de_comp (own := [("part", 1)]) rfl sc_parts_of.nd (di_any (de_slice (de_var 0) (do_some de_int) do_none)) (blkOk_by (by kernel_rfl)) (by decide) (fun _ _ _ _ _ => (dg_name 1 sc_parts_of.nd rfl (by first | exact Or.inl rfl | exact Or.inr rfl))) (fun _ _ _ _ _ => (dts_one (dt_val (de_isi (by rfl) z_isinstance (da_cons (de_var 1) (da_cons (de_ty "tuple" (by rfl) z_tuple) da_nil)))))) (fun _ _ _ _ _ => (de_var 1)))))
theorem ok_parts_of {f : Addr} {fd : FuncData} (F : Fun K "parts_of" "parts_of" s_parts_of f fd) (hm : mg "parts_of" = some (.ref f)) (bi : Binds K fd ["saying"] []) (z_tuple : mg "tuple" = none) (z_isinstance : mg "isinstance" = none) : FnAt P w K mg base c 1 "parts_of" 1 none f_parts_of :=
  ⟨f, fd, ["saying"], hm, F.kp, bi, rfl, fn_ok none F sc_parts_of fun cdv A outer s H E hr => dv_parts_of hr z_tuple z_isinstance⟩
/-! ### again_as -/
abbrev s_again_as : Stmt := topS 2
theorem sc_again_as : FnScope ["saying", "once"] ["saying"] (defScope s_again_as) := ⟨rfl, rfl, rfl, by decide +kernel, rfl, by decide +kernel, by decide +kernel⟩
def b_again_as : S :=
    (sq (fSet 1 (fSh (fTup (fCons (fC (.str "till")) (fCons (fTup (fCons (fC (.str "yes")) fNil)) (fCons (f2 oIx (fVar 0) (fC (.int 1))) fNil))))))
    (fRet (fLst (fCons (fVar 1) (fCons (fTup (fCons (fC (.str "always")) (fCons (fVar 1) fNil))) fNil)))))
def f_again_as : Fn := fnOf 2 none b_again_as
theorem dv_again_as {f : Addr} {cdv : Value} {A : Around} {outer : List Env} {s : Shared} {H : Hp} {E : XK} (hr : Room 0 (A.deeper (envOfC "again_as" (defScope s_again_as) s.heap.objs.size f cdv)))  :
    DSs (bodyCx P w K mg base ["saying", "once"] "again_as" s_again_as f cdv A outer s H E) c (WE0 E) (defBody s_again_as) b_again_as :=
    (ds_cons (ds_set 1 sc_again_as.nd rfl (.inl rfl) (de_sh (de_tup (da_cons de_str (da_cons (de_tup (da_cons de_str da_nil)) (da_cons (de_ix (de_var 0) de_int) da_nil))))))
    (ds_one (ds_ret (de_lst (da_cons (de_var 1) (da_cons (de_tup (da_cons de_str (da_cons (de_var 1) da_nil))) da_nil))))))
theorem ok_again_as {f : Addr} {fd : FuncData} (F : Fun K "again_as" "again_as" s_again_as f fd) (hm : mg "again_as" = some (.ref f)) (bi : Binds K fd ["saying"] [])  : FnAt P w K mg base c 1 "again_as" 1 none f_again_as :=
  ⟨f, fd, ["saying"], hm, F.kp, bi, rfl, fn_ok none F sc_again_as fun cdv A outer s H E hr => dv_again_as hr ⟩
/-! ### bonds_in -/
abbrev s_bonds_in : Stmt := topS 3
theorem sc_bonds_in : FnScope ["saying", "found", "part", "bond", "own"] ["saying"] (defScope s_bonds_in) := ⟨rfl, rfl, rfl, by decide +kernel, rfl, by decide +kernel, by decide +kernel⟩
def b_bonds_in (self : Fn) : S :=
    (sq (fSet 1 (fLst fNil))
    (sq (fFor (fItems (fCall 1 none f_parts_of (fCons (fVar 0) fNil))) (gNm 2) (fFor (fItems (fCall 1 none self (fCons (fVar 2) fNil))) (gNm 3) (fIf (fB (f2 (oIn true) (fVar 3) (fVar 1))) (fDrop (fMet appE (fVar 1) (fCons (fVar 3) fNil))) fNx)))
    (sq (fSet 4 (fSh (fLst fNil)))
    (sq (fIf (fB (f2 oEq (f2 oIx (fVar 0) (fC (.int 0))) (fC (.str "again")))) (fSet 4 (fSh (fCall 1 none f_again_as (fCons (fVar 0) fNil)))) (fIf (fB (f2 (oIn false) (f2 oIx (fVar 0) (fC (.int 0))) (fTup (fCons (fC (.str "next")) (fCons (fC (.str "till")) (fCons (fC (.str "always")) fNil)))))) (fSet 4 (fSh (fLst (fCons (fVar 0) fNil)))) fNx))
    (fRet (f2 oAdd (fVar 1) (fComp (fItems (fVar 4)) (gNm 3) (fB (f2 (oIn true) (fVar 3) (fVar 1))) (fVar 3) [3])))))))
def f_bonds_in : Nat → Fn := recF 5 none b_bonds_in
theorem dv_bonds_in {f : Addr} {cdv : Value} {A : Around} {outer : List Env} {s : Shared} {H : Hp} {E : XK} {k : Nat} {self : Fn} (hk : 1 ≤ k) (hr : Room k (A.deeper (envOfC "bonds_in" (defScope s_bonds_in) s.heap.objs.size f cdv))) (F_bonds_in : FnAt P w K mg base c k "bonds_in" 1 none self) (F_parts_of : FnAt P w K mg base c 1 "parts_of" 1 none f_parts_of) (F_again_as : FnAt P w K mg base c 1 "again_as" 1 none f_again_as) :
    DSs (bodyCx P w K mg base ["saying", "found", "part", "bond", "own"] "bonds_in" s_bonds_in f cdv A outer s H E) c (WE0 E) (defBody s_bonds_in) (b_bonds_in self) :=
    (ds_cons (ds_set 1 sc_bonds_in.nd rfl (.inr rfl) (de_lst da_nil))
    (ds_cons (ds_for (passes_of rfl) rfl (di_any (de_call F_parts_of (fun _ h => nomatch h) (hr.mono (Nat.le_trans (by decide) hk)) (takes_of rfl rfl rfl rfl) (by rfl) (da_cons (de_var 0) da_nil))) (dg_name 2 sc_bonds_in.nd rfl (.inl rfl)) (ds_one (ds_for (passes_of rfl) rfl (di_any (de_call F_bonds_in (fun _ h => nomatch h) hr (takes_of rfl rfl rfl rfl) (by rfl) (da_cons (de_var 2) da_nil))) (dg_name 3 sc_bonds_in.nd rfl (.inl rfl)) (ds_one (ds_if (dt_notIn (hu65 hr) (de_var 3) (de_var 1)) (ds_one (ds_expr (de_append (de_var 1) (da_cons (de_var 3) da_nil)))) ds_nil)))))
    (ds_cons (ds_set 4 sc_bonds_in.nd rfl (.inl rfl) (de_sh (de_lst da_nil)))
    (ds_cons (ds_if (dt_eq (hu64 hr) (de_ix (de_var 0) de_int) de_str) (ds_one (ds_set 4 sc_bonds_in.nd rfl (.inl rfl) (de_sh (de_call F_again_as (fun _ h => nomatch h) (hr.mono (Nat.le_trans (by decide) hk)) (takes_of rfl rfl rfl rfl) (by rfl) (da_cons (de_var 0) da_nil))))) (ds_one (ds_if (dt_in (hu65 hr) (de_ix (de_var 0) de_int) (de_tup (da_cons de_str (da_cons de_str (da_cons de_str da_nil))))) (ds_one (ds_set 4 sc_bonds_in.nd rfl (.inl rfl) (de_sh (de_lst (da_cons (de_var 0) da_nil))))) ds_nil)))
    (ds_one (ds_ret (de_add (de_var 1) (de_comp (own := [("bond", 3)]) rfl sc_bonds_in.nd (di_any (de_var 4)) (blkOk_by (by kernel_rfl)) (by decide) (fun _ _ _ _ _ => (dg_name 3 sc_bonds_in.nd rfl (by first | exact Or.inl rfl | exact Or.inr rfl))) (fun _ _ _ _ _ => (dts_one (dt_notIn (hu65 hr) (de_var 3) (de_var 1)))) (fun _ _ _ _ _ => (de_var 3))))))))))
theorem ok_bonds_in {f : Addr} {fd : FuncData} (F : Fun K "bonds_in" "bonds_in" s_bonds_in f fd) (hm : mg "bonds_in" = some (.ref f)) (bi : Binds K fd ["saying"] []) (F_parts_of : FnAt P w K mg base c 1 "parts_of" 1 none f_parts_of) (F_again_as : FnAt P w K mg base c 1 "again_as" 1 none f_again_as) : ∀ m, FnAt P w K mg base c (1 + m) "bonds_in" 1 none (f_bonds_in m) :=
  fn_rec (k0 := 1) none F sc_bonds_in hm bi fun fn k hk F_self cdv A outer s H E hr => dv_bonds_in hk hr F_self F_parts_of F_again_as
/-! ### _law_draw -/
abbrev s_law_draw : Stmt := topS 13
theorem sc_law_draw : FnScope ["_law_script", "_law_spot", "_law_k"] ["_law_script", "_law_spot"] (defScope s_law_draw) := ⟨rfl, rfl, rfl, by decide +kernel, rfl, by decide +kernel, by decide +kernel⟩
def b_law_draw : S :=
    (sq (fPut (f2 oAdd (f2 oIx (fVar 1) (fC (.int 0))) (fC (.int 1))) (fVar 1) (fC (.int 0)))
    (sq (fSet 2 (fSh (f2 oSub (f2 oIx (fVar 1) (fC (.int 0))) (fC (.int 1)))))
    (sq (fIf (fB (f2 oLt (fVar 2) (fBl oLen (fCons (fVar 0) fNil)))) (fRet (f2 oIx (fVar 0) (fVar 2))) fNx)
    (sq (fIf (fAndT (fB (f2 oGt (fBl oLen (fCons (fVar 0) fNil)) (fC (.int 4)))) (fB (f2 oLt (fVar 2) (fC (.int 50))))) (fRet (f2 oMod (f2 oMul (f2 oAdd (f2 oIx (fVar 0) (f2 oMod (fVar 2) (fBl oLen (fCons (fVar 0) fNil)))) (f2 oMul (fC (.int 7919)) (fVar 2))) (fC (.int 48271))) (fC (.int 1000003)))) fNx)
    (fRet (fC (.int 0)))))))
def f_law_draw : Fn := fnOf 3 (some 1) b_law_draw
theorem dv_law_draw {f : Addr} {cdv : Value} {A : Around} {outer : List Env} {s : Shared} {H : Hp} {E : XK} (hr : Room 0 (A.deeper (envOfC "_law_draw" (defScope s_law_draw) s.heap.objs.size f cdv))) (z_len : mg "len" = none) :
    DSs (bodyCx P w K mg base ["_law_script", "_law_spot", "_law_k"] "_law_draw" s_law_draw f cdv A outer s H E) c (WE0 E) (defBody s_law_draw) b_law_draw :=
    (ds_cons (ds_put (de_add (de_ix (de_var 1) de_int) de_int) (de_var 1) de_int)
    (ds_cons (ds_set 2 sc_law_draw.nd rfl (.inl rfl) (de_sh (de_sub (de_ix (de_var 1) de_int) de_int)))
    (ds_cons (ds_if (dt_lt (de_var 2) (de_len (by rfl) z_len (da_cons (de_var 0) da_nil))) (ds_one (ds_ret (de_ix (de_var 0) (de_var 2)))) ds_nil)
    (ds_cons (ds_if (dt_w (dw_and (dt_gt (de_len (by rfl) z_len (da_cons (de_var 0) da_nil)) de_int) (dw_and1 (dt_lt (de_var 2) de_int)))) (ds_one (ds_ret (de_mod (de_mul (de_add (de_ix (de_var 0) (de_mod (de_var 2) (de_len (by rfl) z_len (da_cons (de_var 0) da_nil)))) (de_mul de_int (de_var 2))) de_int) de_int))) ds_nil)
    (ds_one (ds_ret de_int))))))
theorem ok_law_draw {f : Addr} {fd : FuncData} (F : Fun K "_law_draw" "_law_draw" s_law_draw f fd) (hm : mg "_law_draw" = some (.ref f)) (bi : Binds K fd ["_law_script", "_law_spot"] []) (z_len : mg "len" = none) : FnAt P w K mg base c 1 "_law_draw" 2 (some 1) f_law_draw :=
  ⟨f, fd, ["_law_script", "_law_spot"], hm, F.kp, bi, rfl, fn_ok (some 1) F sc_law_draw fun cdv A outer s H E hr => dv_law_draw hr z_len⟩
/-! ### _law_marks -/
abbrev s_law_marks : Stmt := topS 25
theorem sc_law_marks : FnScope ["_law_script", "_law_spot", "_law_names_here", "_law_least", "_law_some", "_law_k"] ["_law_script", "_law_spot", "_law_names_here", "_law_least"] (defScope s_law_marks) := ⟨rfl, rfl, rfl, by decide +kernel, rfl, by decide +kernel, by decide +kernel⟩
def b_law_marks : S :=
    (sq (fSet 4 (fSh (f2 oAdd (f2 oAdd (fVar 2) (fLst (fCons (fC (.str "")) (fCons (f2 oAdd (fSl (f2 oIx (fVar 2) (fC (.int 2))) fNoP (fP (fC (.int 1)))) (fC (.str "zq"))) fNil)))) (fVar 2))))
    (fRet (fComp (bnd (fCons (f2 oAdd (fVar 3) (f2 oMod (fCall 2 (some 1) f_law_draw (fCons (fVar 0) (fCons (fVar 1) fNil))) (fC (.int 4)))) fNil) rng1) (gNm 5) (ret true) (f2 oIx (fVar 4) (f2 oMod (fCall 2 (some 1) f_law_draw (fCons (fVar 0) (fCons (fVar 1) fNil))) (fC (.int 8)))) [5])))
def f_law_marks : Fn := fnOf 6 (some 1) b_law_marks
theorem dv_law_marks {f : Addr} {cdv : Value} {A : Around} {outer : List Env} {s : Shared} {H : Hp} {E : XK} (hr : Room 1 (A.deeper (envOfC "_law_marks" (defScope s_law_marks) s.heap.objs.size f cdv))) (z_range : mg "range" = none) (F_law_draw : FnAt P w K mg base c 1 "_law_draw" 2 (some 1) f_law_draw) :
    DSs (bodyCx P w K mg base ["_law_script", "_law_spot", "_law_names_here", "_law_least", "_law_some", "_law_k"] "_law_marks" s_law_marks f cdv A outer s H E) c (WE0 E) (defBody s_law_marks) b_law_marks :=
    (ds_cons (ds_set 4 sc_law_marks.nd rfl (.inr rfl) (de_sh (de_add (de_add (de_var 2) (de_lst (da_cons de_str (da_cons (de_add (de_slice (de_ix (de_var 2) de_int) do_none (do_some de_int)) de_str) da_nil)))) (de_var 2))))
    (ds_one (ds_ret (de_comp (own := [("_law_k", 5)]) rfl sc_law_marks.nd (di_range1 (by rfl) z_range (da_cons (de_add (de_var 3) (de_mod (de_call F_law_draw (fun _ h => by cases h; decide) (hr.mono (by decide)) (takes_of rfl rfl rfl rfl) (by rfl) (da_cons (de_var 0) (da_cons (de_var 1) da_nil))) de_int)) da_nil)) (blkOk_by (by kernel_rfl)) (by decide) (fun _ _ _ _ _ => (dg_name 5 sc_law_marks.nd rfl (by first | exact Or.inl rfl | exact Or.inr rfl))) (fun _ _ _ _ _ => dts_nil) (fun _ _ _ _ _ => (de_ix (de_var 4) (de_mod (de_call F_law_draw (fun _ h => by cases h; decide) (hr.mono (by decide)) takes0 (by rfl) (da_cons (de_var 0) (da_cons (de_var 1) da_nil))) de_int)))))))
theorem ok_law_marks {f : Addr} {fd : FuncData} (F : Fun K "_law_marks" "_law_marks" s_law_marks f fd) (hm : mg "_law_marks" = some (.ref f)) (bi : Binds K fd ["_law_script", "_law_spot", "_law_names_here", "_law_least"] []) (z_range : mg "range" = none) (F_law_draw : FnAt P w K mg base c 1 "_law_draw" 2 (some 1) f_law_draw) : FnAt P w K mg base c 2 "_law_marks" 4 (some 1) f_law_marks :=
  ⟨f, fd, ["_law_script", "_law_spot", "_law_names_here", "_law_least"], hm, F.kp, bi, rfl, fn_ok (some 1) F sc_law_marks fun cdv A outer s H E hr => dv_law_marks hr z_range F_law_draw⟩
/-! ### _law_cell_at -/
abbrev s_law_cell_at : Stmt := topS 12
theorem sc_law_cell_at : FnScope ["_law_script", "_law_k"] ["_law_script", "_law_k"] (defScope s_law_cell_at) := ⟨rfl, rfl, rfl, by decide +kernel, rfl, by decide +kernel, by decide +kernel⟩
def b_law_cell_at : S :=
    (sq (fIf (fB (f2 oLt (fVar 1) (fBl oLen (fCons (fVar 0) fNil)))) (fRet (f2 oIx (fVar 0) (fVar 1))) fNx)
    (fRet (fC (.int 0))))
def f_law_cell_at : Fn := fnOf 2 none b_law_cell_at
theorem dv_law_cell_at {f : Addr} {cdv : Value} {A : Around} {outer : List Env} {s : Shared} {H : Hp} {E : XK} (hr : Room 0 (A.deeper (envOfC "_law_cell_at" (defScope s_law_cell_at) s.heap.objs.size f cdv))) (z_len : mg "len" = none) :
    DSs (bodyCx P w K mg base ["_law_script", "_law_k"] "_law_cell_at" s_law_cell_at f cdv A outer s H E) c (WE0 E) (defBody s_law_cell_at) b_law_cell_at :=
    (ds_cons (ds_if (dt_lt (de_var 1) (de_len (by rfl) z_len (da_cons (de_var 0) da_nil))) (ds_one (ds_ret (de_ix (de_var 0) (de_var 1)))) ds_nil)
    (ds_one (ds_ret de_int)))
theorem ok_law_cell_at {f : Addr} {fd : FuncData} (F : Fun K "_law_cell_at" "_law_cell_at" s_law_cell_at f fd) (hm : mg "_law_cell_at" = some (.ref f)) (bi : Binds K fd ["_law_script", "_law_k"] []) (z_len : mg "len" = none) : FnAt P w K mg base c 1 "_law_cell_at" 2 none f_law_cell_at :=
  ⟨f, fd, ["_law_script", "_law_k"], hm, F.kp, bi, rfl, fn_ok none F sc_law_cell_at fun cdv A outer s H E hr => dv_law_cell_at hr z_len⟩
/-! ### _law_made -/
abbrev s_law_made : Stmt := topS 15
theorem sc_law_made : FnScope ["_law_script", "_law_spot", "_law_names_here", "_law_deep", "_law_cell", "_law_more", "_law_kinds", "_law_kind", "_law_one"] ["_law_script", "_law_spot", "_law_names_here", "_law_deep"] (defScope s_law_made) := ⟨rfl, rfl, rfl, by decide +kernel, rfl, by decide +kernel, by decide +kernel⟩
def b_law_made (self : Fn) : S :=
    (sq (fSet 4 (fSh (fCall 2 (some 1) f_law_draw (fCons (fVar 0) (fCons (fVar 1) fNil)))))
    (sq (fSet 5 (fSh (f2 oDiv (fVar 4) (fC (.int 13)))))
    (sq (fIf (fOrT (fB (f2 oLt (fVar 3) (fC (.int 2)))) (fB (f2 oLt (f2 oMod (fVar 4) (fC (.int 13))) (fC (.int 2))))) (sq (fIf (fB (f2 oEq (f2 oMod (fVar 5) (fC (.int 9))) (fC (.int 4)))) (fRet (fTup (fCons (fC (.str "yes")) fNil))) fNx)
    (fRet (fTup (fCons (fC (.str "mark")) (fCons (f2 oIx (fVar 2) (f2 oMod (fVar 5) (fC (.int 3)))) fNil))))) fNx)
    (sq (fSet 6 (fSh (fC (.str "not and or next till always again till always next not"))))
    (sq (fSet 7 (fSh (f2 oIx (fM1 oSplit (fVar 6) (fC (.str " "))) (f2 oSub (f2 oMod (fVar 4) (fC (.int 13))) (fC (.int 2))))))
    (sq (fSet 8 (fSh (fCall 4 (some 1) self (fCons (fVar 0) (fCons (fVar 1) (fCons (fVar 2) (fCons (f2 oSub (fVar 3) (fC (.int 1))) fNil)))))))
    (sq (fIf (fB (f2 (oIn false) (fVar 7) (fTup (fCons (fC (.str "not")) (fCons (fC (.str "next")) (fCons (fC (.str "always")) (fCons (fC (.str "again")) fNil))))))) (fRet (fTup (fCons (fVar 7) (fCons (fVar 8) fNil)))) fNx)
    (fRet (fTup (fCons (fVar 7) (fCons (fVar 8) (fCons (fCall 4 (some 1) self (fCons (fVar 0) (fCons (fVar 1) (fCons (fVar 2) (fCons (f2 oSub (fVar 3) (fC (.int 1))) fNil))))) fNil))))))))))))
def f_law_made : Nat → Fn := recF 9 (some 1) b_law_made
theorem dv_law_made {f : Addr} {cdv : Value} {A : Around} {outer : List Env} {s : Shared} {H : Hp} {E : XK} {k : Nat} {self : Fn} (hk : 1 ≤ k) (hr : Room k (A.deeper (envOfC "_law_made" (defScope s_law_made) s.heap.objs.size f cdv))) (F_law_made : FnAt P w K mg base c k "_law_made" 4 (some 1) self) (F_law_draw : FnAt P w K mg base c 1 "_law_draw" 2 (some 1) f_law_draw) :
    DSs (bodyCx P w K mg base ["_law_script", "_law_spot", "_law_names_here", "_law_deep", "_law_cell", "_law_more", "_law_kinds", "_law_kind", "_law_one"] "_law_made" s_law_made f cdv A outer s H E) c (WE0 E) (defBody s_law_made) (b_law_made self) :=
    (ds_cons (ds_set 4 sc_law_made.nd rfl (.inl rfl) (de_sh (de_call F_law_draw (fun _ h => by cases h; decide) (hr.mono (Nat.le_trans (by decide) hk)) (takes_of rfl rfl rfl rfl) (by rfl) (da_cons (de_var 0) (da_cons (de_var 1) da_nil)))))
    (ds_cons (ds_set 5 sc_law_made.nd rfl (.inl rfl) (de_sh (de_div (de_var 4) de_int)))
    (ds_cons (ds_if (dt_w (dw_or (dt_lt (de_var 3) de_int) (dw_or1 (dt_lt (de_mod (de_var 4) de_int) de_int)))) (ds_cons (ds_if (dt_eq (hu64 hr) (de_mod (de_var 5) de_int) de_int) (ds_one (ds_ret (de_tup (da_cons de_str da_nil)))) ds_nil)
    (ds_one (ds_ret (de_tup (da_cons de_str (da_cons (de_ix (de_var 2) (de_mod (de_var 5) de_int)) da_nil)))))) ds_nil)
    (ds_cons (ds_set 6 sc_law_made.nd rfl (.inl rfl) (de_sh de_str))
    (ds_cons (ds_set 7 sc_law_made.nd rfl (.inl rfl) (de_sh (de_ix (de_split (de_var 6) de_str) (de_sub (de_mod (de_var 4) de_int) de_int))))
    (ds_cons (ds_set 8 sc_law_made.nd rfl (.inl rfl) (de_sh (de_call F_law_made (fun _ h => by cases h; decide) hr (takes_of rfl rfl rfl rfl) (by rfl) (da_cons (de_var 0) (da_cons (de_var 1) (da_cons (de_var 2) (da_cons (de_sub (de_var 3) de_int) da_nil)))))))
    (ds_cons (ds_if (dt_in (hu65 hr) (de_var 7) (de_tup (da_cons de_str (da_cons de_str (da_cons de_str (da_cons de_str da_nil)))))) (ds_one (ds_ret (de_tup (da_cons (de_var 7) (da_cons (de_var 8) da_nil))))) ds_nil)
    (ds_one (ds_ret (de_tup (da_cons (de_var 7) (da_cons (de_var 8) (da_cons (de_call F_law_made (fun _ h => by cases h; decide) hr (takes_of rfl rfl rfl rfl) (by rfl) (da_cons (de_var 0) (da_cons (de_var 1) (da_cons (de_var 2) (da_cons (de_sub (de_var 3) de_int) da_nil))))) da_nil)))))))))))))
theorem ok_law_made {f : Addr} {fd : FuncData} (F : Fun K "_law_made" "_law_made" s_law_made f fd) (hm : mg "_law_made" = some (.ref f)) (bi : Binds K fd ["_law_script", "_law_spot", "_law_names_here", "_law_deep"] []) (F_law_draw : FnAt P w K mg base c 1 "_law_draw" 2 (some 1) f_law_draw) : ∀ m, FnAt P w K mg base c (1 + m) "_law_made" 4 (some 1) (f_law_made m) :=
  fn_rec (k0 := 1) (some 1) F sc_law_made hm bi fun fn k hk F_self cdv A outer s H E hr => dv_law_made hk hr F_self F_law_draw
/-! ### _law_till -/
abbrev s_law_till : Stmt := topS 20
theorem sc_law_till : FnScope ["_law_ones", "_law_others", "_law_moments", "_law_k"] ["_law_ones", "_law_others", "_law_moments"] (defScope s_law_till) := ⟨rfl, rfl, rfl, by decide +kernel, rfl, by decide +kernel, by decide +kernel⟩
def b_law_till : S :=
    (sq (fFor (fItems (fVar 2)) (gNm 3) (sq (fIf (fB (f2 oIx (fVar 1) (fVar 3))) (fRet (fC (.bool true))) fNx)
    (fIf (fNotT (fB (f2 oIx (fVar 0) (fVar 3)))) (fRet (fC (.bool false))) fNx)))
    (fRet (fC (.bool false))))
def f_law_till : Fn := fnOf 4 none b_law_till
theorem dv_law_till {f : Addr} {cdv : Value} {A : Around} {outer : List Env} {s : Shared} {H : Hp} {E : XK} (hr : Room 0 (A.deeper (envOfC "_law_till" (defScope s_law_till) s.heap.objs.size f cdv)))  :
    DSs (bodyCx P w K mg base ["_law_ones", "_law_others", "_law_moments", "_law_k"] "_law_till" s_law_till f cdv A outer s H E) c (WE0 E) (defBody s_law_till) b_law_till :=
    (ds_cons (ds_for (passes_of rfl) rfl (di_any (de_var 2)) (dg_name 3 sc_law_till.nd rfl (.inl rfl)) (ds_cons (ds_if (dt_val (de_ix (de_var 1) (de_var 3))) (ds_one (ds_ret de_bool)) ds_nil)
    (ds_one (ds_if (dt_not (dt_val (de_ix (de_var 0) (de_var 3)))) (ds_one (ds_ret de_bool)) ds_nil))))
    (ds_one (ds_ret de_bool)))
theorem ok_law_till {f : Addr} {fd : FuncData} (F : Fun K "_law_till" "_law_till" s_law_till f fd) (hm : mg "_law_till" = some (.ref f)) (bi : Binds K fd ["_law_ones", "_law_others", "_law_moments"] [])  : FnAt P w K mg base c 1 "_law_till" 3 none f_law_till :=
  ⟨f, fd, ["_law_ones", "_law_others", "_law_moments"], hm, F.kp, bi, rfl, fn_ok none F sc_law_till fun cdv A outer s H E hr => dv_law_till hr ⟩
/-! ### _law_after -/
abbrev s_law_after : Stmt := topS 19
theorem sc_law_after : FnScope ["_law_way", "_law_ring", "_law_at", "_law_size", "_law_k"] ["_law_way", "_law_ring", "_law_at"] (defScope s_law_after) := ⟨rfl, rfl, rfl, by decide +kernel, rfl, by decide +kernel, by decide +kernel⟩
def b_law_after : S :=
    (sq (fSet 3 (fSh (f2 oAdd (fBl oLen (fCons (fVar 0) fNil)) (fBl oLen (fCons (fVar 1) fNil)))))
    (fRet (f2 oAdd (fComp (bnd (fCons (fVar 2) (fCons (fVar 3) fNil)) rng2) (gNm 4) (ret true) (fVar 4) [4]) (fComp (bnd (fCons (fBl oLen (fCons (fVar 0) fNil)) (fCons (fVar 3) fNil)) rng2) (gNm 4) (ret true) (fVar 4) [4]))))
def f_law_after : Fn := fnOf 5 none b_law_after
theorem dv_law_after {f : Addr} {cdv : Value} {A : Around} {outer : List Env} {s : Shared} {H : Hp} {E : XK} (hr : Room 0 (A.deeper (envOfC "_law_after" (defScope s_law_after) s.heap.objs.size f cdv))) (z_len : mg "len" = none) (z_range : mg "range" = none) :
    DSs (bodyCx P w K mg base ["_law_way", "_law_ring", "_law_at", "_law_size", "_law_k"] "_law_after" s_law_after f cdv A outer s H E) c (WE0 E) (defBody s_law_after) b_law_after :=
    (ds_cons (ds_set 3 sc_law_after.nd rfl (.inl rfl) (de_sh (de_add (de_len (by rfl) z_len (da_cons (de_var 0) da_nil)) (de_len (by rfl) z_len (da_cons (de_var 1) da_nil)))))
    (ds_one (ds_ret (de_add (de_comp (own := [("_law_k", 4)]) rfl sc_law_after.nd (di_range2 (by rfl) z_range (da_cons (de_var 2) (da_cons (de_var 3) da_nil))) (blkOk_by (by kernel_rfl)) (by decide) (fun _ _ _ _ _ => (dg_name 4 sc_law_after.nd rfl (by first | exact Or.inl rfl | exact Or.inr rfl))) (fun _ _ _ _ _ => dts_nil) (fun _ _ _ _ _ => (de_var 4))) (de_comp (own := [("_law_k", 4)]) rfl sc_law_after.nd (di_range2 (by rfl) z_range (da_cons (de_len (by rfl) z_len (da_cons (de_var 0) da_nil)) (da_cons (de_var 3) da_nil))) (blkOk_by (by kernel_rfl)) (by decide) (fun _ _ _ _ _ => (dg_name 4 sc_law_after.nd rfl (by first | exact Or.inl rfl | exact Or.inr rfl))) (fun _ _ _ _ _ => dts_nil) (fun _ _ _ _ _ => (de_var 4)))))))
theorem ok_law_after {f : Addr} {fd : FuncData} (F : Fun K "_law_after" "_law_after" s_law_after f fd) (hm : mg "_law_after" = some (.ref f)) (bi : Binds K fd ["_law_way", "_law_ring", "_law_at"] []) (z_len : mg "len" = none) (z_range : mg "range" = none) : FnAt P w K mg base c 1 "_law_after" 3 none f_law_after :=
  ⟨f, fd, ["_law_way", "_law_ring", "_law_at"], hm, F.kp, bi, rfl, fn_ok none F sc_law_after fun cdv A outer s H E hr => dv_law_after hr z_len z_range⟩
/-! ### _law_means -/
abbrev s_law_means : Stmt := topS 21
theorem sc_law_means : FnScope ["_law_saying", "_law_way", "_law_ring", "_law_word", "_law_run", "_law_rows", "_law_mark", "_law_part", "_law_one", "_law_other", "_law_at", "_law_k"] ["_law_saying", "_law_way", "_law_ring"] (defScope s_law_means) := ⟨rfl, rfl, rfl, by decide +kernel, rfl, by decide +kernel, by decide +kernel⟩
def b_law_means (self : Fn) : S :=
    (sq (fSet 3 (fSh (f2 oIx (fVar 0) (fC (.int 0)))))
    (sq (fSet 4 (fSh (f2 oAdd (fVar 1) (fVar 2))))
    (sq (fIf (fB (f2 oEq (fVar 3) (fC (.str "mark")))) (fRet (fComp (fItems (fVar 4)) (gNm 6) (ret true) (f2 oEq (fVar 6) (f2 oIx (fVar 0) (fC (.int 1)))) [6])) fNx)
    (sq (fIf (fB (f2 oEq (fVar 3) (fC (.str "yes")))) (fRet (fComp (fItems (fVar 4)) (gNm 6) (ret true) (fC (.bool true)) [6])) fNx)
    (sq (fSet 5 (fSh (fComp (fItems (fSl (fVar 0) (fP (fC (.int 1))) fNoP)) (gNm 7) (ret true) (fCall 3 none self (fCons (fVar 7) (fCons (fVar 1) (fCons (fVar 2) fNil)))) [7])))
    (sq (fIf (fB (f2 oEq (fVar 3) (fC (.str "not")))) (fRet (fComp (fItems (f2 oIx (fVar 5) (fC (.int 0)))) (gNm 8) (ret true) (fNot (fVar 8)) [8])) fNx)
    (sq (fIf (fB (f2 oEq (fVar 3) (fC (.str "and")))) (fRet (fComp (bnd (fCons (f2 oIx (fVar 5) (fC (.int 0))) (fCons (f2 oIx (fVar 5) (fC (.int 1))) fNil)) zipE) (gTp 2 (gsCons (gNm 8) (gsCons (gNm 9) gsNil))) (ret true) (fAnd (fVar 8) (fVar 9)) [8, 9])) fNx)
    (sq (fIf (fB (f2 oEq (fVar 3) (fC (.str "or")))) (fRet (fComp (bnd (fCons (f2 oIx (fVar 5) (fC (.int 0))) (fCons (f2 oIx (fVar 5) (fC (.int 1))) fNil)) zipE) (gTp 2 (gsCons (gNm 8) (gsCons (gNm 9) gsNil))) (ret true) (fOr (fVar 8) (fVar 9)) [8, 9])) fNx)
    (sq (fIf (fB (f2 oEq (fVar 3) (fC (.str "next")))) (fRet (fComp (bnd (fCons (fBl oLen (fCons (fVar 4) fNil)) fNil) rng1) (gNm 10) (ret true) (f2 oIx (f2 oIx (fVar 5) (fC (.int 0))) (f2 oIx (fCall 3 none f_law_after (fCons (fVar 1) (fCons (fVar 2) (fCons (fVar 10) fNil)))) (fC (.int 1)))) [10])) fNx)
    (sq (fIf (fB (f2 oEq (fVar 3) (fC (.str "always")))) (fRet (fComp (bnd (fCons (fBl oLen (fCons (fVar 4) fNil)) fNil) rng1) (gNm 10) (ret true) (f2 (oIn true) (fC (.bool false)) (fComp (fItems (fCall 3 none f_law_after (fCons (fVar 1) (fCons (fVar 2) (fCons (fVar 10) fNil))))) (gNm 11) (ret true) (f2 oIx (f2 oIx (fVar 5) (fC (.int 0))) (fVar 11)) [11])) [10])) fNx)
    (sq (fIf (fB (f2 oEq (fVar 3) (fC (.str "again")))) (fRet (fComp (fItems (fVar 4)) (gNm 6) (ret true) (f2 (oIn false) (fC (.bool true)) (fSl (f2 oIx (fVar 5) (fC (.int 0))) (fP (fBl oLen (fCons (fVar 1) fNil))) fNoP)) [6])) fNx)
    (fRet (fComp (bnd (fCons (fBl oLen (fCons (fVar 4) fNil)) fNil) rng1) (gNm 10) (ret true) (fCall 3 none f_law_till (fCons (f2 oIx (fVar 5) (fC (.int 0))) (fCons (f2 oIx (fVar 5) (fC (.int 1))) (fCons (fCall 3 none f_law_after (fCons (fVar 1) (fCons (fVar 2) (fCons (fVar 10) fNil)))) fNil)))) [10])))))))))))))
def f_law_means : Nat → Fn := recF 12 none b_law_means
theorem dv_law_means {f : Addr} {cdv : Value} {A : Around} {outer : List Env} {s : Shared} {H : Hp} {E : XK} {k : Nat} {self : Fn} (hk : 1 ≤ k) (hr : Room k (A.deeper (envOfC "_law_means" (defScope s_law_means) s.heap.objs.size f cdv))) (F_law_means : FnAt P w K mg base c k "_law_means" 3 none self) (z_zip : mg "zip" = none) (z_len : mg "len" = none) (z_range : mg "range" = none) (F_law_after : FnAt P w K mg base c 1 "_law_after" 3 none f_law_after) (F_law_till : FnAt P w K mg base c 1 "_law_till" 3 none f_law_till) :
    DSs (bodyCx P w K mg base ["_law_saying", "_law_way", "_law_ring", "_law_word", "_law_run", "_law_rows", "_law_mark", "_law_part", "_law_one", "_law_other", "_law_at", "_law_k"] "_law_means" s_law_means f cdv A outer s H E) c (WE0 E) (defBody s_law_means) (b_law_means self) :=
    (ds_cons (ds_set 3 sc_law_means.nd rfl (.inl rfl) (de_sh (de_ix (de_var 0) de_int)))
    (ds_cons (ds_set 4 sc_law_means.nd rfl (.inl rfl) (de_sh (de_add (de_var 1) (de_var 2))))
    (ds_cons (ds_if (dt_eq (hu64 hr) (de_var 3) de_str) (ds_one (ds_ret (de_comp (own := [("_law_mark", 6)]) rfl sc_law_means.nd (di_any (de_var 4)) (blkOk_by (by kernel_rfl)) (by decide) (fun _ _ _ _ _ => (dg_name 6 sc_law_means.nd rfl (by first | exact Or.inl rfl | exact Or.inr rfl))) (fun _ _ _ _ _ => dts_nil) (fun _ _ _ _ _ => (de_eq (hu64 hr) (de_var 6) (de_ix (de_var 0) de_int)))))) ds_nil)
    (ds_cons (ds_if (dt_eq (hu64 hr) (de_var 3) de_str) (ds_one (ds_ret (de_comp (own := [("_law_mark", 6)]) rfl sc_law_means.nd (di_any (de_var 4)) (blkOk_by (by kernel_rfl)) (by decide) (fun _ _ _ _ _ => (dg_name 6 sc_law_means.nd rfl (by first | exact Or.inl rfl | exact Or.inr rfl))) (fun _ _ _ _ _ => dts_nil) (fun _ _ _ _ _ => de_bool)))) ds_nil)
    (ds_cons (ds_set 5 sc_law_means.nd rfl (.inr rfl) (de_sh (de_comp (own := [("_law_part", 7)]) rfl sc_law_means.nd (di_any (de_slice (de_var 0) (do_some de_int) do_none)) (blkOk_by (by kernel_rfl)) (by decide) (fun _ _ _ _ _ => (dg_name 7 sc_law_means.nd rfl (by first | exact Or.inl rfl | exact Or.inr rfl))) (fun _ _ _ _ _ => dts_nil) (fun _ _ _ _ _ => (de_call F_law_means (fun _ h => nomatch h) hr takes0 (by rfl) (da_cons (de_var 7) (da_cons (de_var 1) (da_cons (de_var 2) da_nil))))))))
    (ds_cons (ds_if (dt_eq (hu64 hr) (de_var 3) de_str) (ds_one (ds_ret (de_comp (own := [("_law_one", 8)]) rfl sc_law_means.nd (di_any (de_ix (de_var 5) de_int)) (blkOk_by (by kernel_rfl)) (by decide) (fun _ _ _ _ _ => (dg_name 8 sc_law_means.nd rfl (by first | exact Or.inl rfl | exact Or.inr rfl))) (fun _ _ _ _ _ => dts_nil) (fun _ _ _ _ _ => (de_not (de_var 8)))))) ds_nil)
    (ds_cons (ds_if (dt_eq (hu64 hr) (de_var 3) de_str) (ds_one (ds_ret (de_comp (own := [("_law_one", 8), ("_law_other", 9)]) rfl sc_law_means.nd (di_zip (by rfl) z_zip (da_cons (de_ix (de_var 5) de_int) (da_cons (de_ix (de_var 5) de_int) da_nil))) (blkOk_by (by kernel_rfl)) (by decide) (fun _ _ _ _ _ => (dg_tup rfl (dgs_cons (dg_name 8 sc_law_means.nd rfl (by first | exact Or.inl rfl | exact Or.inr rfl)) (dgs_cons (dg_name 9 sc_law_means.nd rfl (by first | exact Or.inl rfl | exact Or.inr rfl)) dgs_nil)))) (fun _ _ _ _ _ => dts_nil) (fun _ _ _ _ _ => (de_and (de_var 8) (de_one (de_var 9))))))) ds_nil)
    (ds_cons (ds_if (dt_eq (hu64 hr) (de_var 3) de_str) (ds_one (ds_ret (de_comp (own := [("_law_one", 8), ("_law_other", 9)]) rfl sc_law_means.nd (di_zip (by rfl) z_zip (da_cons (de_ix (de_var 5) de_int) (da_cons (de_ix (de_var 5) de_int) da_nil))) (blkOk_by (by kernel_rfl)) (by decide) (fun _ _ _ _ _ => (dg_tup rfl (dgs_cons (dg_name 8 sc_law_means.nd rfl (by first | exact Or.inl rfl | exact Or.inr rfl)) (dgs_cons (dg_name 9 sc_law_means.nd rfl (by first | exact Or.inl rfl | exact Or.inr rfl)) dgs_nil)))) (fun _ _ _ _ _ => dts_nil) (fun _ _ _ _ _ => (de_or (de_var 8) (de_one (de_var 9))))))) ds_nil)
    (ds_cons (ds_if (dt_eq (hu64 hr) (de_var 3) de_str) (ds_one (ds_ret (de_comp (own := [("_law_at", 10)]) rfl sc_law_means.nd (di_range1 (by rfl) z_range (da_cons (de_len (by rfl) z_len (da_cons (de_var 4) da_nil)) da_nil)) (blkOk_by (by kernel_rfl)) (by decide) (fun _ _ _ _ _ => (dg_name 10 sc_law_means.nd rfl (by first | exact Or.inl rfl | exact Or.inr rfl))) (fun _ _ _ _ _ => dts_nil) (fun _ _ _ _ _ => (de_ix (de_ix (de_var 5) de_int) (de_ix (de_call F_law_after (fun _ h => nomatch h) (hr.mono (Nat.le_trans (by decide) hk)) takes0 (by rfl) (da_cons (de_var 1) (da_cons (de_var 2) (da_cons (de_var 10) da_nil)))) de_int)))))) ds_nil)
    (ds_cons (ds_if (dt_eq (hu64 hr) (de_var 3) de_str) (ds_one (ds_ret (de_comp (own := [("_law_at", 10)]) rfl sc_law_means.nd (di_range1 (by rfl) z_range (da_cons (de_len (by rfl) z_len (da_cons (de_var 4) da_nil)) da_nil)) (blkOk_by (by kernel_rfl)) (by decide) (fun _ _ _ _ _ => (dg_name 10 sc_law_means.nd rfl (by first | exact Or.inl rfl | exact Or.inr rfl))) (fun _ _ _ _ _ => dts_nil) (fun _ _ _ _ _ => (de_notIn (hu65 hr) de_bool (de_comp (own := [("_law_k", 11)]) rfl sc_law_means.nd (di_any (de_call F_law_after (fun _ h => nomatch h) (hr.mono (Nat.le_trans (by decide) hk)) takes0 (by rfl) (da_cons (de_var 1) (da_cons (de_var 2) (da_cons (de_var 10) da_nil))))) (blkOk_by (by kernel_rfl)) (by decide) (fun _ _ _ _ _ => (dg_name 11 sc_law_means.nd rfl (by first | exact Or.inl rfl | exact Or.inr rfl))) (fun _ _ _ _ _ => dts_nil) (fun _ _ _ _ _ => (de_ix (de_ix (de_var 5) de_int) (de_var 11))))))))) ds_nil)
    (ds_cons (ds_if (dt_eq (hu64 hr) (de_var 3) de_str) (ds_one (ds_ret (de_comp (own := [("_law_mark", 6)]) rfl sc_law_means.nd (di_any (de_var 4)) (blkOk_by (by kernel_rfl)) (by decide) (fun _ _ _ _ _ => (dg_name 6 sc_law_means.nd rfl (by first | exact Or.inl rfl | exact Or.inr rfl))) (fun _ _ _ _ _ => dts_nil) (fun _ _ _ _ _ => (de_in (hu65 hr) de_bool (de_slice (de_ix (de_var 5) de_int) (do_some (de_len (by rfl) z_len (da_cons (de_var 1) da_nil))) do_none)))))) ds_nil)
    (ds_one (ds_ret (de_comp (own := [("_law_at", 10)]) rfl sc_law_means.nd (di_range1 (by rfl) z_range (da_cons (de_len (by rfl) z_len (da_cons (de_var 4) da_nil)) da_nil)) (blkOk_by (by kernel_rfl)) (by decide) (fun _ _ _ _ _ => (dg_name 10 sc_law_means.nd rfl (by first | exact Or.inl rfl | exact Or.inr rfl))) (fun _ _ _ _ _ => dts_nil) (fun _ _ _ _ _ => (de_call F_law_till (fun _ h => nomatch h) (hr.mono (Nat.le_trans (by decide) hk)) takes0 (by rfl) (da_cons (de_ix (de_var 5) de_int) (da_cons (de_ix (de_var 5) de_int) (da_cons (de_call F_law_after (fun _ h => nomatch h) (hr.mono (Nat.le_trans (by decide) hk)) takes0 (by rfl) (da_cons (de_var 1) (da_cons (de_var 2) (da_cons (de_var 10) da_nil)))) da_nil)))))))))))))))))))
theorem ok_law_means {f : Addr} {fd : FuncData} (F : Fun K "_law_means" "_law_means" s_law_means f fd) (hm : mg "_law_means" = some (.ref f)) (bi : Binds K fd ["_law_saying", "_law_way", "_law_ring"] []) (z_zip : mg "zip" = none) (z_len : mg "len" = none) (z_range : mg "range" = none) (F_law_after : FnAt P w K mg base c 1 "_law_after" 3 none f_law_after) (F_law_till : FnAt P w K mg base c 1 "_law_till" 3 none f_law_till) : ∀ m, FnAt P w K mg base c (1 + m) "_law_means" 3 none (f_law_means m) :=
  fn_rec (k0 := 1) none F sc_law_means hm bi fun fn k hk F_self cdv A outer s H E hr => dv_law_means hk hr F_self z_zip z_len z_range F_law_after F_law_till
/-! ### is_so -/
abbrev s_is_so : Stmt := topS 6
theorem sc_is_so : FnScope ["saying", "mark", "bonds", "guess", "word", "one", "other"] ["saying", "mark", "bonds", "guess"] (defScope s_is_so) := ⟨rfl, rfl, rfl, by decide +kernel, rfl, by decide +kernel, by decide +kernel⟩
def b_is_so (self : Fn) : S :=
    (sq (fSet 4 (fSh (f2 oIx (fVar 0) (fC (.int 0)))))
    (sq (fIf (fB (f2 oEq (fVar 4) (fC (.str "mark")))) (fRet (f2 oEq (fVar 1) (f2 oIx (fVar 0) (fC (.int 1))))) fNx)
    (sq (fIf (fB (f2 oEq (fVar 4) (fC (.str "yes")))) (fRet (fC (.bool true))) fNx)
    (sq (fIf (fB (f2 (oIn false) (fVar 4) (fTup (fCons (fC (.str "next")) (fCons (fC (.str "till")) (fCons (fC (.str "always")) fNil)))))) (fRet (f2 oIx (fVar 3) (fMet idxE (fVar 2) (fCons (fVar 0) fNil)))) fNx)
    (sq (fIf (fB (f2 oEq (fVar 4) (fC (.str "again")))) (fRet (f2 oIx (fVar 3) (fMet idxE (fVar 2) (fCons (f2 oIx (fCall 1 none f_again_as (fCons (fVar 0) fNil)) (fC (.int 1))) fNil)))) fNx)
    (sq (fSet 5 (fSh (fCall 4 none self (fCons (f2 oIx (fVar 0) (fC (.int 1))) (fCons (fVar 1) (fCons (fVar 2) (fCons (fVar 3) fNil)))))))
    (sq (fIf (fB (f2 oEq (fVar 4) (fC (.str "not")))) (fRet (fNot (fVar 5))) fNx)
    (sq (fSet 6 (fSh (fCall 4 none self (fCons (f2 oIx (fVar 0) (fC (.int 2))) (fCons (fVar 1) (fCons (fVar 2) (fCons (fVar 3) fNil)))))))
    (sq (fIf (fB (f2 oEq (fVar 4) (fC (.str "and")))) (fRet (fAnd (fVar 5) (fVar 6))) fNx)
    (fRet (fOr (fVar 5) (fVar 6))))))))))))
def f_is_so : Nat → Fn := recF 7 none b_is_so
theorem dv_is_so {f : Addr} {cdv : Value} {A : Around} {outer : List Env} {s : Shared} {H : Hp} {E : XK} {k : Nat} {self : Fn} (hk : 1 ≤ k) (hr : Room k (A.deeper (envOfC "is_so" (defScope s_is_so) s.heap.objs.size f cdv))) (F_is_so : FnAt P w K mg base c k "is_so" 4 none self) (F_again_as : FnAt P w K mg base c 1 "again_as" 1 none f_again_as) :
    DSs (bodyCx P w K mg base ["saying", "mark", "bonds", "guess", "word", "one", "other"] "is_so" s_is_so f cdv A outer s H E) c (WE0 E) (defBody s_is_so) (b_is_so self) :=
    (ds_cons (ds_set 4 sc_is_so.nd rfl (.inl rfl) (de_sh (de_ix (de_var 0) de_int)))
    (ds_cons (ds_if (dt_eq (hu64 hr) (de_var 4) de_str) (ds_one (ds_ret (de_eq (hu64 hr) (de_var 1) (de_ix (de_var 0) de_int)))) ds_nil)
    (ds_cons (ds_if (dt_eq (hu64 hr) (de_var 4) de_str) (ds_one (ds_ret de_bool)) ds_nil)
    (ds_cons (ds_if (dt_in (hu65 hr) (de_var 4) (de_tup (da_cons de_str (da_cons de_str (da_cons de_str da_nil))))) (ds_one (ds_ret (de_ix (de_var 3) (de_index (hu65 hr) (de_var 2) (da_cons (de_var 0) da_nil))))) ds_nil)
    (ds_cons (ds_if (dt_eq (hu64 hr) (de_var 4) de_str) (ds_one (ds_ret (de_ix (de_var 3) (de_index (hu65 hr) (de_var 2) (da_cons (de_ix (de_call F_again_as (fun _ h => nomatch h) (hr.mono (Nat.le_trans (by decide) hk)) (takes_of rfl rfl rfl rfl) (by rfl) (da_cons (de_var 0) da_nil)) de_int) da_nil))))) ds_nil)
    (ds_cons (ds_set 5 sc_is_so.nd rfl (.inl rfl) (de_sh (de_call F_is_so (fun _ h => nomatch h) hr (takes_of rfl rfl rfl rfl) (by rfl) (da_cons (de_ix (de_var 0) de_int) (da_cons (de_var 1) (da_cons (de_var 2) (da_cons (de_var 3) da_nil)))))))
    (ds_cons (ds_if (dt_eq (hu64 hr) (de_var 4) de_str) (ds_one (ds_ret (de_not (de_var 5)))) ds_nil)
    (ds_cons (ds_set 6 sc_is_so.nd rfl (.inl rfl) (de_sh (de_call F_is_so (fun _ h => nomatch h) hr (takes_of rfl rfl rfl rfl) (by rfl) (da_cons (de_ix (de_var 0) de_int) (da_cons (de_var 1) (da_cons (de_var 2) (da_cons (de_var 3) da_nil)))))))
    (ds_cons (ds_if (dt_eq (hu64 hr) (de_var 4) de_str) (ds_one (ds_ret (de_and (de_var 5) (de_one (de_var 6))))) ds_nil)
    (ds_one (ds_ret (de_or (de_var 5) (de_one (de_var 6))))))))))))))
theorem ok_is_so {f : Addr} {fd : FuncData} (F : Fun K "is_so" "is_so" s_is_so f fd) (hm : mg "is_so" = some (.ref f)) (bi : Binds K fd ["saying", "mark", "bonds", "guess"] []) (F_again_as : FnAt P w K mg base c 1 "again_as" 1 none f_again_as) : ∀ m, FnAt P w K mg base c (1 + m) "is_so" 4 none (f_is_so m) :=
  fn_rec (k0 := 1) none F sc_is_so hm bi fun fn k hk F_self cdv A outer s H E hr => dv_is_so hk hr F_self F_again_as
/-! ### is_kept -/
abbrev s_is_kept : Stmt := topS 7
theorem sc_is_kept : FnScope ["bond", "now", "then", "bonds", "k", "one", "other"] ["bond", "now", "then", "bonds", "k"] (defScope s_is_kept) := ⟨rfl, rfl, rfl, by decide +kernel, rfl, by decide +kernel, by decide +kernel⟩
def b_is_kept : S :=
    (sq (fIf (fB (f2 oEq (f2 oIx (fVar 0) (fC (.int 0))) (fC (.str "next")))) (fRet (f2 oEq (f2 oIx (f2 oIx (fVar 1) (fC (.int 1))) (fVar 4)) (fCall 4 none (f_is_so 8) (fCons (f2 oIx (fVar 0) (fC (.int 1))) (fCons (f2 oIx (fVar 2) (fC (.int 0))) (fCons (fVar 3) (fCons (f2 oIx (fVar 2) (fC (.int 1))) fNil))))))) fNx)
    (sq (fSet 5 (fSh (fCall 4 none (f_is_so 8) (fCons (f2 oIx (fVar 0) (fC (.int 1))) (fCons (f2 oIx (fVar 1) (fC (.int 0))) (fCons (fVar 3) (fCons (f2 oIx (fVar 1) (fC (.int 1))) fNil)))))))
    (sq (fIf (fB (f2 oEq (f2 oIx (fVar 0) (fC (.int 0))) (fC (.str "always")))) (fRet (f2 oEq (f2 oIx (f2 oIx (fVar 1) (fC (.int 1))) (fVar 4)) (fAnd (fVar 5) (f2 oIx (f2 oIx (fVar 2) (fC (.int 1))) (fVar 4))))) fNx)
    (sq (fSet 6 (fSh (fCall 4 none (f_is_so 8) (fCons (f2 oIx (fVar 0) (fC (.int 2))) (fCons (f2 oIx (fVar 1) (fC (.int 0))) (fCons (fVar 3) (fCons (f2 oIx (fVar 1) (fC (.int 1))) fNil)))))))
    (fRet (f2 oEq (f2 oIx (f2 oIx (fVar 1) (fC (.int 1))) (fVar 4)) (fOr (fVar 6) (fAnd (fVar 5) (f2 oIx (f2 oIx (fVar 2) (fC (.int 1))) (fVar 4))))))))))
def f_is_kept : Fn := fnOf 7 none b_is_kept
theorem dv_is_kept {f : Addr} {cdv : Value} {A : Around} {outer : List Env} {s : Shared} {H : Hp} {E : XK} (hr : Room 9 (A.deeper (envOfC "is_kept" (defScope s_is_kept) s.heap.objs.size f cdv))) (F_is_so : FnAt P w K mg base c 9 "is_so" 4 none (f_is_so 8)) :
    DSs (bodyCx P w K mg base ["bond", "now", "then", "bonds", "k", "one", "other"] "is_kept" s_is_kept f cdv A outer s H E) c (WE0 E) (defBody s_is_kept) b_is_kept :=
    (ds_cons (ds_if (dt_eq (hu64 hr) (de_ix (de_var 0) de_int) de_str) (ds_one (ds_ret (de_eq (hu64 hr) (de_ix (de_ix (de_var 1) de_int) (de_var 4)) (de_call F_is_so (fun _ h => nomatch h) (hr.mono (by decide)) (takes_of rfl rfl rfl rfl) (by rfl) (da_cons (de_ix (de_var 0) de_int) (da_cons (de_ix (de_var 2) de_int) (da_cons (de_var 3) (da_cons (de_ix (de_var 2) de_int) da_nil)))))))) ds_nil)
    (ds_cons (ds_set 5 sc_is_kept.nd rfl (.inl rfl) (de_sh (de_call F_is_so (fun _ h => nomatch h) (hr.mono (by decide)) (takes_of rfl rfl rfl rfl) (by rfl) (da_cons (de_ix (de_var 0) de_int) (da_cons (de_ix (de_var 1) de_int) (da_cons (de_var 3) (da_cons (de_ix (de_var 1) de_int) da_nil)))))))
    (ds_cons (ds_if (dt_eq (hu64 hr) (de_ix (de_var 0) de_int) de_str) (ds_one (ds_ret (de_eq (hu64 hr) (de_ix (de_ix (de_var 1) de_int) (de_var 4)) (de_and (de_var 5) (de_one (de_ix (de_ix (de_var 2) de_int) (de_var 4))))))) ds_nil)
    (ds_cons (ds_set 6 sc_is_kept.nd rfl (.inl rfl) (de_sh (de_call F_is_so (fun _ h => nomatch h) (hr.mono (by decide)) (takes_of rfl rfl rfl rfl) (by rfl) (da_cons (de_ix (de_var 0) de_int) (da_cons (de_ix (de_var 1) de_int) (da_cons (de_var 3) (da_cons (de_ix (de_var 1) de_int) da_nil)))))))
    (ds_one (ds_ret (de_eq (hu64 hr) (de_ix (de_ix (de_var 1) de_int) (de_var 4)) (de_or (de_var 6) (de_one (de_and (de_var 5) (de_one (de_ix (de_ix (de_var 2) de_int) (de_var 4)))))))))))))
theorem ok_is_kept {f : Addr} {fd : FuncData} (F : Fun K "is_kept" "is_kept" s_is_kept f fd) (hm : mg "is_kept" = some (.ref f)) (bi : Binds K fd ["bond", "now", "then", "bonds", "k"] []) (F_is_so : FnAt P w K mg base c 9 "is_so" 4 none (f_is_so 8)) : FnAt P w K mg base c 10 "is_kept" 5 none f_is_kept :=
  ⟨f, fd, ["bond", "now", "then", "bonds", "k"], hm, F.kp, bi, rfl, fn_ok none F sc_is_kept fun cdv A outer s H E hr => dv_is_kept hr F_is_so⟩
/-! ### goes_on -/
abbrev s_goes_on : Stmt := topS 8
theorem sc_goes_on : FnScope ["bonds", "now", "then", "k", "bond"] ["bonds", "now", "then"] (defScope s_goes_on) := ⟨rfl, rfl, rfl, by decide +kernel, rfl, by decide +kernel, by decide +kernel⟩
def b_goes_on : S :=
    (fRet (fBl (oQuant fun bs => bs.all fun b => b) (fCons (fComp (bnd (fCons (fVar 0) fNil) enumE) (gTp 2 (gsCons (gNm 3) (gsCons (gNm 4) gsNil))) (ret true) (fCall 5 none f_is_kept (fCons (fVar 4) (fCons (fVar 1) (fCons (fVar 2) (fCons (fVar 0) (fCons (fVar 3) fNil)))))) [3, 4]) fNil)))
def f_goes_on : Fn := fnOf 5 none b_goes_on
theorem dv_goes_on {f : Addr} {cdv : Value} {A : Around} {outer : List Env} {s : Shared} {H : Hp} {E : XK} (hr : Room 10 (A.deeper (envOfC "goes_on" (defScope s_goes_on) s.heap.objs.size f cdv))) (z_enumerate : mg "enumerate" = none) (z_all : mg "all" = none) (F_is_kept : FnAt P w K mg base c 10 "is_kept" 5 none f_is_kept) :
    DSs (bodyCx P w K mg base ["bonds", "now", "then", "k", "bond"] "goes_on" s_goes_on f cdv A outer s H E) c (WE0 E) (defBody s_goes_on) b_goes_on :=
    (ds_one (ds_ret (de_all rfl (by rfl) z_all (da_cons (de_comp (own := [("k", 3), ("bond", 4)]) rfl sc_goes_on.nd (di_enum (by rfl) z_enumerate (da_cons (de_var 0) da_nil)) (blkOk_by (by kernel_rfl)) (by decide) (fun _ _ _ _ _ => (dg_tup rfl (dgs_cons (dg_name 3 sc_goes_on.nd rfl (by first | exact Or.inl rfl | exact Or.inr rfl)) (dgs_cons (dg_name 4 sc_goes_on.nd rfl (by first | exact Or.inl rfl | exact Or.inr rfl)) dgs_nil)))) (fun _ _ _ _ _ => dts_nil) (fun _ _ _ _ _ => (de_call F_is_kept (fun _ h => nomatch h) (hr.mono (by decide)) takes0 (by rfl) (da_cons (de_var 4) (da_cons (de_var 1) (da_cons (de_var 2) (da_cons (de_var 0) (da_cons (de_var 3) da_nil)))))))) da_nil))))
theorem ok_goes_on {f : Addr} {fd : FuncData} (F : Fun K "goes_on" "goes_on" s_goes_on f fd) (hm : mg "goes_on" = some (.ref f)) (bi : Binds K fd ["bonds", "now", "then"] []) (z_enumerate : mg "enumerate" = none) (z_all : mg "all" = none) (F_is_kept : FnAt P w K mg base c 10 "is_kept" 5 none f_is_kept) : FnAt P w K mg base c 11 "goes_on" 3 none f_goes_on :=
  ⟨f, fd, ["bonds", "now", "then"], hm, F.kp, bi, rfl, fn_ok none F sc_goes_on fun cdv A outer s H E hr => dv_goes_on hr z_enumerate z_all F_is_kept⟩
/-! ### _law_steps_right -/
abbrev s_law_steps_right : Stmt := topS 28
theorem sc_law_steps_right : FnScope ["_law_bonds_here", "_law_way", "_law_ring", "_law_guesses", "_law_k", "_law_moment", "_law_run", "_law_at", "_law_then", "_law_told", "_law_turned"] ["_law_bonds_here", "_law_way", "_law_ring", "_law_guesses", "_law_k", "_law_moment"] (defScope s_law_steps_right) := ⟨rfl, rfl, rfl, by decide +kernel, rfl, by decide +kernel, by decide +kernel⟩
def b_law_steps_right : S :=
    (sq (fSet 6 (fSh (f2 oAdd (fVar 1) (fVar 2))))
    (sq (fFor (bnd (fCons (fBl oLen (fCons (fVar 6) fNil)) fNil) rng1) (gNm 7) (sq (fSet 8 (fSh (f2 oIx (fCall 3 none f_law_after (fCons (fVar 1) (fCons (fVar 2) (fCons (fVar 7) fNil)))) (fC (.int 1)))))
    (sq (fSet 9 (fSh (fCall 3 none f_goes_on (fCons (fVar 0) (fCons (fTup (fCons (f2 oIx (fVar 6) (fVar 7)) (fCons (f2 oIx (fVar 3) (fVar 7)) fNil))) (fCons (fTup (fCons (f2 oIx (fVar 6) (fVar 8)) (fCons (f2 oIx (fVar 3) (fVar 8)) fNil))) fNil))))))
    (sq (fIf (fOrT (fNotT (fB (fBl oIsi (fCons (fVar 9) (fCons (fTy "bool") fNil))))) (fNotT (fB (fVar 9)))) (fRet (fC (.bool false))) fNx)
    (fIf (fAndT (fB (f2 oEq (fVar 7) (fVar 5))) (fB (f2 oGt (fBl oLen (fCons (fVar 0) fNil)) (fC (.int 0))))) (sq (fSet 10 (fSh (f2 oAdd (f2 oAdd (fSl (f2 oIx (fVar 3) (fVar 7)) fNoP (fP (fVar 4))) (fTup (fCons (fNot (f2 oIx (f2 oIx (fVar 3) (fVar 7)) (fVar 4))) fNil))) (fSl (f2 oIx (fVar 3) (fVar 7)) (fP (f2 oAdd (fVar 4) (fC (.int 1)))) fNoP))))
    (fIf (fB (fCall 3 none f_goes_on (fCons (fVar 0) (fCons (fTup (fCons (f2 oIx (fVar 6) (fVar 7)) (fCons (fVar 10) fNil))) (fCons (fTup (fCons (f2 oIx (fVar 6) (fVar 8)) (fCons (f2 oIx (fVar 3) (fVar 8)) fNil))) fNil))))) (fRet (fC (.bool false))) fNx)) fNx)))))
    (fRet (fC (.bool true)))))
def f_law_steps_right : Fn := fnOf 11 none b_law_steps_right
theorem dv_law_steps_right {f : Addr} {cdv : Value} {A : Around} {outer : List Env} {s : Shared} {H : Hp} {E : XK} (hr : Room 11 (A.deeper (envOfC "_law_steps_right" (defScope s_law_steps_right) s.heap.objs.size f cdv))) (z_len : mg "len" = none) (z_range : mg "range" = none) (z_bool : mg "bool" = none) (z_isinstance : mg "isinstance" = none) (F_law_after : FnAt P w K mg base c 1 "_law_after" 3 none f_law_after) (F_goes_on : FnAt P w K mg base c 11 "goes_on" 3 none f_goes_on) :
    DSs (bodyCx P w K mg base ["_law_bonds_here", "_law_way", "_law_ring", "_law_guesses", "_law_k", "_law_moment", "_law_run", "_law_at", "_law_then", "_law_told", "_law_turned"] "_law_steps_right" s_law_steps_right f cdv A outer s H E) c (WE0 E) (defBody s_law_steps_right) b_law_steps_right :=
    (ds_cons (ds_set 6 sc_law_steps_right.nd rfl (.inl rfl) (de_sh (de_add (de_var 1) (de_var 2))))
    (ds_cons (ds_for (passes_of rfl) rfl (di_range1 (by rfl) z_range (da_cons (de_len (by rfl) z_len (da_cons (de_var 6) da_nil)) da_nil)) (dg_name 7 sc_law_steps_right.nd rfl (.inl rfl)) (ds_cons (ds_set 8 sc_law_steps_right.nd rfl (.inl rfl) (de_sh (de_ix (de_call F_law_after (fun _ h => nomatch h) (hr.mono (by decide)) (takes_of rfl rfl rfl rfl) (by rfl) (da_cons (de_var 1) (da_cons (de_var 2) (da_cons (de_var 7) da_nil)))) de_int)))
    (ds_cons (ds_set 9 sc_law_steps_right.nd rfl (.inl rfl) (de_sh (de_call F_goes_on (fun _ h => nomatch h) (hr.mono (by decide)) (takes_of rfl rfl rfl rfl) (by rfl) (da_cons (de_var 0) (da_cons (de_tup (da_cons (de_ix (de_var 6) (de_var 7)) (da_cons (de_ix (de_var 3) (de_var 7)) da_nil))) (da_cons (de_tup (da_cons (de_ix (de_var 6) (de_var 8)) (da_cons (de_ix (de_var 3) (de_var 8)) da_nil))) da_nil))))))
    (ds_cons (ds_if (dt_w (dw_or (dt_not (dt_val (de_isi (by rfl) z_isinstance (da_cons (de_var 9) (da_cons (de_ty "bool" (by rfl) z_bool) da_nil))))) (dw_or1 (dt_not (dt_val (de_var 9)))))) (ds_one (ds_ret de_bool)) ds_nil)
    (ds_one (ds_if (dt_w (dw_and (dt_eq (hu64 hr) (de_var 7) (de_var 5)) (dw_and1 (dt_gt (de_len (by rfl) z_len (da_cons (de_var 0) da_nil)) de_int)))) (ds_cons (ds_set 10 sc_law_steps_right.nd rfl (.inl rfl) (de_sh (de_add (de_add (de_slice (de_ix (de_var 3) (de_var 7)) do_none (do_some (de_var 4))) (de_tup (da_cons (de_not (de_ix (de_ix (de_var 3) (de_var 7)) (de_var 4))) da_nil))) (de_slice (de_ix (de_var 3) (de_var 7)) (do_some (de_add (de_var 4) de_int)) do_none))))
    (ds_one (ds_if (dt_val (de_call F_goes_on (fun _ h => nomatch h) (hr.mono (by decide)) (takes_of rfl rfl rfl rfl) (by rfl) (da_cons (de_var 0) (da_cons (de_tup (da_cons (de_ix (de_var 6) (de_var 7)) (da_cons (de_var 10) da_nil))) (da_cons (de_tup (da_cons (de_ix (de_var 6) (de_var 8)) (da_cons (de_ix (de_var 3) (de_var 8)) da_nil))) da_nil))))) (ds_one (ds_ret de_bool)) ds_nil))) ds_nil))))))
    (ds_one (ds_ret de_bool))))
theorem ok_law_steps_right {f : Addr} {fd : FuncData} (F : Fun K "_law_steps_right" "_law_steps_right" s_law_steps_right f fd) (hm : mg "_law_steps_right" = some (.ref f)) (bi : Binds K fd ["_law_bonds_here", "_law_way", "_law_ring", "_law_guesses", "_law_k", "_law_moment"] []) (z_len : mg "len" = none) (z_range : mg "range" = none) (z_bool : mg "bool" = none) (z_isinstance : mg "isinstance" = none) (F_law_after : FnAt P w K mg base c 1 "_law_after" 3 none f_law_after) (F_goes_on : FnAt P w K mg base c 11 "goes_on" 3 none f_goes_on) : FnAt P w K mg base c 12 "_law_steps_right" 6 none f_law_steps_right :=
  ⟨f, fd, ["_law_bonds_here", "_law_way", "_law_ring", "_law_guesses", "_law_k", "_law_moment"], hm, F.kp, bi, rfl, fn_ok none F sc_law_steps_right fun cdv A outer s H E hr => dv_law_steps_right hr z_len z_range z_bool z_isinstance F_law_after F_goes_on⟩
/-! ### promises_of -/
abbrev s_promises_of : Stmt := topS 9
theorem sc_promises_of : FnScope ["saying", "bond"] ["saying"] (defScope s_promises_of) := ⟨rfl, rfl, rfl, by decide +kernel, rfl, by decide +kernel, by decide +kernel⟩
def b_promises_of : S :=
    (fRet (f2 oAdd (fLst (fCons (fC .none) fNil)) (fComp (fItems (fCall 1 none (f_bonds_in 7) (fCons (fVar 0) fNil))) (gNm 1) (fB (f2 oNe (f2 oIx (fVar 1) (fC (.int 0))) (fC (.str "next")))) (fVar 1) [1])))
def f_promises_of : Fn := fnOf 2 none b_promises_of
theorem dv_promises_of {f : Addr} {cdv : Value} {A : Around} {outer : List Env} {s : Shared} {H : Hp} {E : XK} (hr : Room 8 (A.deeper (envOfC "promises_of" (defScope s_promises_of) s.heap.objs.size f cdv))) (F_bonds_in : FnAt P w K mg base c 8 "bonds_in" 1 none (f_bonds_in 7)) :
    DSs (bodyCx P w K mg base ["saying", "bond"] "promises_of" s_promises_of f cdv A outer s H E) c (WE0 E) (defBody s_promises_of) b_promises_of :=
    (ds_one (ds_ret (de_add (de_lst (da_cons de_none da_nil)) (de_comp (own := [("bond", 1)]) rfl sc_promises_of.nd (di_any (de_call F_bonds_in (fun _ h => nomatch h) (hr.mono (by decide)) (takes_of rfl rfl rfl rfl) (by rfl) (da_cons (de_var 0) da_nil))) (blkOk_by (by kernel_rfl)) (by decide) (fun _ _ _ _ _ => (dg_name 1 sc_promises_of.nd rfl (by first | exact Or.inl rfl | exact Or.inr rfl))) (fun _ _ _ _ _ => (dts_one (dt_ne (hu64 hr) (de_ix (de_var 1) de_int) de_str))) (fun _ _ _ _ _ => (de_var 1))))))
theorem ok_promises_of {f : Addr} {fd : FuncData} (F : Fun K "promises_of" "promises_of" s_promises_of f fd) (hm : mg "promises_of" = some (.ref f)) (bi : Binds K fd ["saying"] []) (F_bonds_in : FnAt P w K mg base c 8 "bonds_in" 1 none (f_bonds_in 7)) : FnAt P w K mg base c 9 "promises_of" 1 none f_promises_of :=
  ⟨f, fd, ["saying"], hm, F.kp, bi, rfl, fn_ok none F sc_promises_of fun cdv A outer s H E hr => dv_promises_of hr F_bonds_in⟩
/-! ### is_met -/
abbrev s_is_met : Stmt := topS 10
theorem sc_is_met : FnScope ["promise", "mark", "bonds", "guess", "truth"] ["promise", "mark", "bonds", "guess"] (defScope s_is_met) := ⟨rfl, rfl, rfl, by decide +kernel, rfl, by decide +kernel, by decide +kernel⟩
def b_is_met : S :=
    (sq (fIf (fB (f1 (oIsN false) (fVar 0))) (fRet (fC (.bool true))) fNx)
    (sq (fSet 4 (fSh (f2 oIx (fVar 3) (fMet idxE (fVar 2) (fCons (fVar 0) fNil)))))
    (sq (fIf (fB (f2 oEq (f2 oIx (fVar 0) (fC (.int 0))) (fC (.str "till")))) (fRet (fOr (fNot (fVar 4)) (fCall 4 none (f_is_so 8) (fCons (f2 oIx (fVar 0) (fC (.int 2))) (fCons (fVar 1) (fCons (fVar 2) (fCons (fVar 3) fNil))))))) fNx)
    (fRet (fOr (fVar 4) (fNot (fCall 4 none (f_is_so 8) (fCons (f2 oIx (fVar 0) (fC (.int 1))) (fCons (fVar 1) (fCons (fVar 2) (fCons (fVar 3) fNil)))))))))))
def f_is_met : Fn := fnOf 5 none b_is_met
theorem dv_is_met {f : Addr} {cdv : Value} {A : Around} {outer : List Env} {s : Shared} {H : Hp} {E : XK} (hr : Room 9 (A.deeper (envOfC "is_met" (defScope s_is_met) s.heap.objs.size f cdv))) (F_is_so : FnAt P w K mg base c 9 "is_so" 4 none (f_is_so 8)) :
    DSs (bodyCx P w K mg base ["promise", "mark", "bonds", "guess", "truth"] "is_met" s_is_met f cdv A outer s H E) c (WE0 E) (defBody s_is_met) b_is_met :=
    (ds_cons (ds_if (dt_isN (de_var 0)) (ds_one (ds_ret de_bool)) ds_nil)
    (ds_cons (ds_set 4 sc_is_met.nd rfl (.inl rfl) (de_sh (de_ix (de_var 3) (de_index (hu65 hr) (de_var 2) (da_cons (de_var 0) da_nil)))))
    (ds_cons (ds_if (dt_eq (hu64 hr) (de_ix (de_var 0) de_int) de_str) (ds_one (ds_ret (de_or (de_not (de_var 4)) (de_one (de_call F_is_so (fun _ h => nomatch h) (hr.mono (by decide)) (takes_of rfl rfl rfl rfl) (by rfl) (da_cons (de_ix (de_var 0) de_int) (da_cons (de_var 1) (da_cons (de_var 2) (da_cons (de_var 3) da_nil))))))))) ds_nil)
    (ds_one (ds_ret (de_or (de_var 4) (de_one (de_not (de_call F_is_so (fun _ h => nomatch h) (hr.mono (by decide)) (takes_of rfl rfl rfl rfl) (by rfl) (da_cons (de_ix (de_var 0) de_int) (da_cons (de_var 1) (da_cons (de_var 2) (da_cons (de_var 3) da_nil)))))))))))))
theorem ok_is_met {f : Addr} {fd : FuncData} (F : Fun K "is_met" "is_met" s_is_met f fd) (hm : mg "is_met" = some (.ref f)) (bi : Binds K fd ["promise", "mark", "bonds", "guess"] []) (F_is_so : FnAt P w K mg base c 9 "is_so" 4 none (f_is_so 8)) : FnAt P w K mg base c 10 "is_met" 4 none f_is_met :=
  ⟨f, fd, ["promise", "mark", "bonds", "guess"], hm, F.kp, bi, rfl, fn_ok none F sc_is_met fun cdv A outer s H E hr => dv_is_met hr F_is_so⟩
/-! ### _law_so -/
abbrev s_law_so : Stmt := topS 22
theorem sc_law_so : FnScope ["_law_saying", "_law_mark", "_law_bonds_here", "_law_guess", "_law_word", "_law_parts", "_law_part"] ["_law_saying", "_law_mark", "_law_bonds_here", "_law_guess"] (defScope s_law_so) := ⟨rfl, rfl, rfl, by decide +kernel, rfl, by decide +kernel, by decide +kernel⟩
def b_law_so (self : Fn) : S :=
    (sq (fSet 4 (fSh (f2 oIx (fVar 0) (fC (.int 0)))))
    (sq (fIf (fB (f2 oEq (fVar 4) (fC (.str "mark")))) (fRet (f2 oEq (fVar 1) (f2 oIx (fVar 0) (fC (.int 1))))) fNx)
    (sq (fIf (fB (f2 oEq (fVar 4) (fC (.str "yes")))) (fRet (fC (.bool true))) fNx)
    (sq (fIf (fB (f2 oEq (fVar 4) (fC (.str "again")))) (fRet (f2 oIx (fVar 3) (fMet idxE (fVar 2) (fCons (fTup (fCons (fC (.str "always")) (fCons (fTup (fCons (fC (.str "till")) (fCons (fTup (fCons (fC (.str "yes")) fNil)) (fCons (f2 oIx (fVar 0) (fC (.int 1))) fNil)))) fNil))) fNil)))) fNx)
    (sq (fIf (fB (f2 (oIn false) (fVar 0) (fVar 2))) (fRet (f2 oIx (fVar 3) (fMet idxE (fVar 2) (fCons (fVar 0) fNil)))) fNx)
    (sq (fSet 5 (fSh (fComp (fItems (fSl (fVar 0) (fP (fC (.int 1))) fNoP)) (gNm 6) (ret true) (fCall 4 none self (fCons (fVar 6) (fCons (fVar 1) (fCons (fVar 2) (fCons (fVar 3) fNil))))) [6])))
    (sq (fIf (fB (f2 oEq (fVar 4) (fC (.str "not")))) (fRet (fNot (f2 oIx (fVar 5) (fC (.int 0))))) fNx)
    (fRet (f2 oIx (fLst (fCons (fAnd (f2 oIx (fVar 5) (fC (.int 0))) (f2 oIx (fVar 5) (fC (.int 1)))) (fCons (fOr (f2 oIx (fVar 5) (fC (.int 0))) (f2 oIx (fVar 5) (fC (.int 1)))) fNil))) (fBl oInt (fCons (f2 oEq (fVar 4) (fC (.str "or"))) fNil)))))))))))
def f_law_so : Nat → Fn := recF 7 none b_law_so
theorem dv_law_so {f : Addr} {cdv : Value} {A : Around} {outer : List Env} {s : Shared} {H : Hp} {E : XK} {k : Nat} {self : Fn} (hk : 0 ≤ k) (hr : Room k (A.deeper (envOfC "_law_so" (defScope s_law_so) s.heap.objs.size f cdv))) (F_law_so : FnAt P w K mg base c k "_law_so" 4 none self) (z_int : mg "int" = none) :
    DSs (bodyCx P w K mg base ["_law_saying", "_law_mark", "_law_bonds_here", "_law_guess", "_law_word", "_law_parts", "_law_part"] "_law_so" s_law_so f cdv A outer s H E) c (WE0 E) (defBody s_law_so) (b_law_so self) :=
    (ds_cons (ds_set 4 sc_law_so.nd rfl (.inl rfl) (de_sh (de_ix (de_var 0) de_int)))
    (ds_cons (ds_if (dt_eq (hu64 hr) (de_var 4) de_str) (ds_one (ds_ret (de_eq (hu64 hr) (de_var 1) (de_ix (de_var 0) de_int)))) ds_nil)
    (ds_cons (ds_if (dt_eq (hu64 hr) (de_var 4) de_str) (ds_one (ds_ret de_bool)) ds_nil)
    (ds_cons (ds_if (dt_eq (hu64 hr) (de_var 4) de_str) (ds_one (ds_ret (de_ix (de_var 3) (de_index (hu65 hr) (de_var 2) (da_cons (de_tup (da_cons de_str (da_cons (de_tup (da_cons de_str (da_cons (de_tup (da_cons de_str da_nil)) (da_cons (de_ix (de_var 0) de_int) da_nil)))) da_nil))) da_nil))))) ds_nil)
    (ds_cons (ds_if (dt_in (hu65 hr) (de_var 0) (de_var 2)) (ds_one (ds_ret (de_ix (de_var 3) (de_index (hu65 hr) (de_var 2) (da_cons (de_var 0) da_nil))))) ds_nil)
    (ds_cons (ds_setCompSh 5 (own := [("_law_part", 6)]) rfl sc_law_so.nd rfl rfl (sw_true rfl rfl rfl (by decide +kernel)) (di_any (de_slice (de_var 0) (do_some de_int) do_none)) (blkOk_by (by kernel_rfl)) (by decide) (fun _ _ _ _ _ => (dg_name 6 sc_law_so.nd rfl (by first | exact Or.inl rfl | exact Or.inr rfl))) (fun _ _ _ _ _ => dts_nil) (fun _ _ _ _ _ => (de_call F_law_so (fun _ h => nomatch h) hr takes0 (by rfl) (da_cons (de_var 6) (da_cons (de_var 1) (da_cons (de_var 2) (da_cons (de_var 3) da_nil)))))))
    (ds_cons (ds_if (dt_eq (hu64 hr) (de_var 4) de_str) (ds_one (ds_ret (de_not (de_ix (de_var 5) de_int)))) ds_nil)
    (ds_one (ds_ret (de_ix (de_lst (da_cons (de_and (de_ix (de_var 5) de_int) (de_one (de_ix (de_var 5) de_int))) (da_cons (de_or (de_ix (de_var 5) de_int) (de_one (de_ix (de_var 5) de_int))) da_nil))) (de_intC (by rfl) z_int (da_cons (de_eq (hu64 hr) (de_var 4) de_str) da_nil))))))))))))
theorem ok_law_so {f : Addr} {fd : FuncData} (F : Fun K "_law_so" "_law_so" s_law_so f fd) (hm : mg "_law_so" = some (.ref f)) (bi : Binds K fd ["_law_saying", "_law_mark", "_law_bonds_here", "_law_guess"] []) (z_int : mg "int" = none) : ∀ m, FnAt P w K mg base c (0 + m) "_law_so" 4 none (f_law_so m) :=
  fn_rec (k0 := 0) none F sc_law_so hm bi fun fn k hk F_self cdv A outer s H E hr => dv_law_so hk hr F_self z_int
/-! ### _law_meets -/
abbrev s_law_meets : Stmt := topS 24
theorem sc_law_meets : FnScope ["_law_promise", "_law_mark", "_law_bonds_here", "_law_guess", "_law_truth"] ["_law_promise", "_law_mark", "_law_bonds_here", "_law_guess"] (defScope s_law_meets) := ⟨rfl, rfl, rfl, by decide +kernel, rfl, by decide +kernel, by decide +kernel⟩
def b_law_meets : S :=
    (sq (fIf (fB (f1 (oIsN false) (fVar 0))) (fRet (fC (.bool true))) fNx)
    (sq (fSet 4 (fSh (f2 oIx (fVar 3) (fMet idxE (fVar 2) (fCons (fVar 0) fNil)))))
    (sq (fIf (fB (f2 oEq (f2 oIx (fVar 0) (fC (.int 0))) (fC (.str "till")))) (fRet (fOr (fNot (fVar 4)) (fCall 4 none (f_law_so 8) (fCons (f2 oIx (fVar 0) (fC (.int 2))) (fCons (fVar 1) (fCons (fVar 2) (fCons (fVar 3) fNil))))))) fNx)
    (fRet (fOr (fVar 4) (fNot (fCall 4 none (f_law_so 8) (fCons (f2 oIx (fVar 0) (fC (.int 1))) (fCons (fVar 1) (fCons (fVar 2) (fCons (fVar 3) fNil)))))))))))
def f_law_meets : Fn := fnOf 5 none b_law_meets
theorem dv_law_meets {f : Addr} {cdv : Value} {A : Around} {outer : List Env} {s : Shared} {H : Hp} {E : XK} (hr : Room 8 (A.deeper (envOfC "_law_meets" (defScope s_law_meets) s.heap.objs.size f cdv))) (F_law_so : FnAt P w K mg base c 8 "_law_so" 4 none (f_law_so 8)) :
    DSs (bodyCx P w K mg base ["_law_promise", "_law_mark", "_law_bonds_here", "_law_guess", "_law_truth"] "_law_meets" s_law_meets f cdv A outer s H E) c (WE0 E) (defBody s_law_meets) b_law_meets :=
    (ds_cons (ds_if (dt_isN (de_var 0)) (ds_one (ds_ret de_bool)) ds_nil)
    (ds_cons (ds_set 4 sc_law_meets.nd rfl (.inl rfl) (de_sh (de_ix (de_var 3) (de_index (hu65 hr) (de_var 2) (da_cons (de_var 0) da_nil)))))
    (ds_cons (ds_if (dt_eq (hu64 hr) (de_ix (de_var 0) de_int) de_str) (ds_one (ds_ret (de_or (de_not (de_var 4)) (de_one (de_call F_law_so (fun _ h => nomatch h) (hr.mono (by decide)) (takes_of rfl rfl rfl rfl) (by rfl) (da_cons (de_ix (de_var 0) de_int) (da_cons (de_var 1) (da_cons (de_var 2) (da_cons (de_var 3) da_nil))))))))) ds_nil)
    (ds_one (ds_ret (de_or (de_var 4) (de_one (de_not (de_call F_law_so (fun _ h => nomatch h) (hr.mono (by decide)) (takes_of rfl rfl rfl rfl) (by rfl) (da_cons (de_ix (de_var 0) de_int) (da_cons (de_var 1) (da_cons (de_var 2) (da_cons (de_var 3) da_nil)))))))))))))
theorem ok_law_meets {f : Addr} {fd : FuncData} (F : Fun K "_law_meets" "_law_meets" s_law_meets f fd) (hm : mg "_law_meets" = some (.ref f)) (bi : Binds K fd ["_law_promise", "_law_mark", "_law_bonds_here", "_law_guess"] []) (F_law_so : FnAt P w K mg base c 8 "_law_so" 4 none (f_law_so 8)) : FnAt P w K mg base c 9 "_law_meets" 4 none f_law_meets :=
  ⟨f, fd, ["_law_promise", "_law_mark", "_law_bonds_here", "_law_guess"], hm, F.kp, bi, rfl, fn_ok none F sc_law_meets fun cdv A outer s H E hr => dv_law_meets hr F_law_so⟩
/-! ### _law_promises_right -/
abbrev s_law_promises_right : Stmt := topS 29
theorem sc_law_promises_right : FnScope ["_law_saying", "_law_bonds_here", "_law_way", "_law_ring", "_law_guesses", "_law_k", "_law_found", "_law_run", "_law_promise", "_law_told", "_law_at", "_law_turned", "_law_guess", "_law_bond", "_law_one"] ["_law_saying", "_law_bonds_here", "_law_way", "_law_ring", "_law_guesses", "_law_k"] (defScope s_law_promises_right) := ⟨rfl, rfl, rfl, by decide +kernel, rfl, by decide +kernel, by decide +kernel⟩
def b_law_promises_right : S :=
    (sq (fSet 6 (fSh (fCall 1 none f_promises_of (fCons (fVar 0) fNil))))
    (sq (fIf (fOrT (fNotT (fB (fBl oIsi (fCons (fVar 6) (fCons (fTy "list") fNil))))) (fB (f2 oNe (fVar 6) (f2 oAdd (fLst (fCons (fC .none) fNil)) (fComp (fItems (fVar 1)) (gNm 13) (fB (f2 oNe (f2 oIx (fVar 13) (fC (.int 0))) (fC (.str "next")))) (fVar 13) [13]))))) (fRet (fC (.bool false))) fNx)
    (sq (fSet 7 (fSh (f2 oAdd (fVar 2) (fVar 3))))
    (sq (fFor (fItems (fVar 6)) (gNm 8) (sq (fSet 9 (fLst fNil))
    (sq (fFor (bnd (fCons (fBl oLen (fCons (fVar 7) fNil)) fNil) rng1) (gNm 10) (sq (fSet 11 (fSh (f2 oAdd (f2 oAdd (fSl (f2 oIx (fVar 4) (fVar 10)) fNoP (fP (fVar 5))) (fBl oTuple (fCons (fComp (fItems (fSl (f2 oIx (fVar 4) (fVar 10)) (fP (fVar 5)) (fP (f2 oAdd (fVar 5) (fC (.int 1)))))) (gNm 14) (ret true) (fNot (fVar 14)) [14]) fNil))) (fSl (f2 oIx (fVar 4) (fVar 10)) (fP (f2 oAdd (fVar 5) (fC (.int 1)))) fNoP))))
    (fFor (fItems (fTup (fCons (fVar 11) (fCons (f2 oIx (fVar 4) (fVar 10)) fNil)))) (gNm 12) (sq (fDrop (fMet appE (fVar 9) (fCons (fCall 4 none f_is_met (fCons (fVar 8) (fCons (f2 oIx (fVar 7) (fVar 10)) (fCons (fVar 1) (fCons (fVar 12) fNil))))) fNil)))
    (fIf (fOrT (fNotT (fB (fBl oIsi (fCons (f2 oIx (fVar 9) (f1 oNeg (fC (.int 1)))) (fCons (fTy "bool") fNil))))) (fB (f2 oNe (f2 oIx (fVar 9) (f1 oNeg (fC (.int 1)))) (fCall 4 none f_law_meets (fCons (fVar 8) (fCons (f2 oIx (fVar 7) (fVar 10)) (fCons (fVar 1) (fCons (fVar 12) fNil)))))))) (fRet (fC (.bool false))) fNx)))))
    (fIf (fB (f2 (oIn true) (fC (.bool true)) (f2 oSl2 (fVar 9) (f2 oAdd (f2 oMul (fC (.int 2)) (fBl oLen (fCons (fVar 2) fNil))) (fC (.int 1)))))) (fRet (fC (.bool false))) fNx))))
    (fRet (fC (.bool true)))))))
def f_law_promises_right : Fn := fnOf 15 none b_law_promises_right
theorem dv_law_promises_right {f : Addr} {cdv : Value} {A : Around} {outer : List Env} {s : Shared} {H : Hp} {E : XK} (hr : Room 10 (A.deeper (envOfC "_law_promises_right" (defScope s_law_promises_right) s.heap.objs.size f cdv))) (z_list : mg "list" = none) (z_isinstance : mg "isinstance" = none) (z_len : mg "len" = none) (z_range : mg "range" = none) (z_tuple : mg "tuple" = none) (z_bool : mg "bool" = none) (F_promises_of : FnAt P w K mg base c 9 "promises_of" 1 none f_promises_of) (F_is_met : FnAt P w K mg base c 10 "is_met" 4 none f_is_met) (F_law_meets : FnAt P w K mg base c 9 "_law_meets" 4 none f_law_meets) :
    DSs (bodyCx P w K mg base ["_law_saying", "_law_bonds_here", "_law_way", "_law_ring", "_law_guesses", "_law_k", "_law_found", "_law_run", "_law_promise", "_law_told", "_law_at", "_law_turned", "_law_guess", "_law_bond", "_law_one"] "_law_promises_right" s_law_promises_right f cdv A outer s H E) c (WE0 E) (defBody s_law_promises_right) b_law_promises_right :=
    (ds_cons (ds_set 6 sc_law_promises_right.nd rfl (.inl rfl) (de_sh (de_call F_promises_of (fun _ h => nomatch h) (hr.mono (by decide)) (takes_of rfl rfl rfl rfl) (by rfl) (da_cons (de_var 0) da_nil))))
    (ds_cons (ds_if (dt_w (dw_or (dt_not (dt_val (de_isi (by rfl) z_isinstance (da_cons (de_var 6) (da_cons (de_ty "list" (by rfl) z_list) da_nil))))) (dw_or1 (dt_ne (hu64 hr) (de_var 6) (de_add (de_lst (da_cons de_none da_nil)) (de_comp (own := [("_law_bond", 13)]) rfl sc_law_promises_right.nd (di_any (de_var 1)) (blkOk_by (by kernel_rfl)) (by decide) (fun _ _ _ _ _ => (dg_name 13 sc_law_promises_right.nd rfl (by first | exact Or.inl rfl | exact Or.inr rfl))) (fun _ _ _ _ _ => (dts_one (dt_ne (hu64 hr) (de_ix (de_var 13) de_int) de_str))) (fun _ _ _ _ _ => (de_var 13)))))))) (ds_one (ds_ret de_bool)) ds_nil)
    (ds_cons (ds_set 7 sc_law_promises_right.nd rfl (.inl rfl) (de_sh (de_add (de_var 2) (de_var 3))))
    (ds_cons (ds_for (passes_of rfl) rfl (di_any (de_var 6)) (dg_name 8 sc_law_promises_right.nd rfl (.inl rfl)) (ds_cons (ds_set 9 sc_law_promises_right.nd rfl (.inl rfl) (de_lst da_nil))
    (ds_cons (ds_for (passes_of rfl) rfl (di_range1 (by rfl) z_range (da_cons (de_len (by rfl) z_len (da_cons (de_var 7) da_nil)) da_nil)) (dg_name 10 sc_law_promises_right.nd rfl (.inl rfl)) (ds_cons (ds_set 11 sc_law_promises_right.nd rfl (.inl rfl) (de_sh (de_add (de_add (de_slice (de_ix (de_var 4) (de_var 10)) do_none (do_some (de_var 5))) (de_tupleC (by rfl) z_tuple (da_cons (de_comp (own := [("_law_one", 14)]) rfl sc_law_promises_right.nd (di_any (de_slice (de_ix (de_var 4) (de_var 10)) (do_some (de_var 5)) (do_some (de_add (de_var 5) de_int)))) (blkOk_by (by kernel_rfl)) (by decide) (fun _ _ _ _ _ => (dg_name 14 sc_law_promises_right.nd rfl (by first | exact Or.inl rfl | exact Or.inr rfl))) (fun _ _ _ _ _ => dts_nil) (fun _ _ _ _ _ => (de_not (de_var 14)))) da_nil))) (de_slice (de_ix (de_var 4) (de_var 10)) (do_some (de_add (de_var 5) de_int)) do_none))))
    (ds_one (ds_for (passes_of rfl) rfl (di_any (de_tup (da_cons (de_var 11) (da_cons (de_ix (de_var 4) (de_var 10)) da_nil)))) (dg_name 12 sc_law_promises_right.nd rfl (.inl rfl)) (ds_cons (ds_expr (de_append (de_var 9) (da_cons (de_call F_is_met (fun _ h => nomatch h) (hr.mono (by decide)) (takes_of rfl rfl rfl rfl) (by rfl) (da_cons (de_var 8) (da_cons (de_ix (de_var 7) (de_var 10)) (da_cons (de_var 1) (da_cons (de_var 12) da_nil))))) da_nil)))
    (ds_one (ds_if (dt_w (dw_or (dt_not (dt_val (de_isi (by rfl) z_isinstance (da_cons (de_ix (de_var 9) (de_neg de_int)) (da_cons (de_ty "bool" (by rfl) z_bool) da_nil))))) (dw_or1 (dt_ne (hu64 hr) (de_ix (de_var 9) (de_neg de_int)) (de_call F_law_meets (fun _ h => nomatch h) (hr.mono (by decide)) (takes_of rfl rfl rfl rfl) (by rfl) (da_cons (de_var 8) (da_cons (de_ix (de_var 7) (de_var 10)) (da_cons (de_var 1) (da_cons (de_var 12) da_nil))))))))) (ds_one (ds_ret de_bool)) ds_nil)))))))
    (ds_one (ds_if (dt_notIn (hu65 hr) de_bool (de_slice2 (de_var 9) (de_add (de_mul de_int (de_len (by rfl) z_len (da_cons (de_var 2) da_nil))) de_int))) (ds_one (ds_ret de_bool)) ds_nil)))))
    (ds_one (ds_ret de_bool))))))
theorem ok_law_promises_right {f : Addr} {fd : FuncData} (F : Fun K "_law_promises_right" "_law_promises_right" s_law_promises_right f fd) (hm : mg "_law_promises_right" = some (.ref f)) (bi : Binds K fd ["_law_saying", "_law_bonds_here", "_law_way", "_law_ring", "_law_guesses", "_law_k"] []) (z_list : mg "list" = none) (z_isinstance : mg "isinstance" = none) (z_len : mg "len" = none) (z_range : mg "range" = none) (z_tuple : mg "tuple" = none) (z_bool : mg "bool" = none) (F_promises_of : FnAt P w K mg base c 9 "promises_of" 1 none f_promises_of) (F_is_met : FnAt P w K mg base c 10 "is_met" 4 none f_is_met) (F_law_meets : FnAt P w K mg base c 9 "_law_meets" 4 none f_law_meets) : FnAt P w K mg base c 11 "_law_promises_right" 6 none f_law_promises_right :=
  ⟨f, fd, ["_law_saying", "_law_bonds_here", "_law_way", "_law_ring", "_law_guesses", "_law_k"], hm, F.kp, bi, rfl, fn_ok none F sc_law_promises_right fun cdv A outer s H E hr => dv_law_promises_right hr z_list z_isinstance z_len z_range z_tuple z_bool F_promises_of F_is_met F_law_meets⟩
/-! ### _law_guesses_right -/
abbrev s_law_guesses_right : Stmt := topS 26
theorem sc_law_guesses_right : FnScope ["_law_found", "_law_many", "_law_guess", "_law_one"] ["_law_found", "_law_many"] (defScope s_law_guesses_right) := ⟨rfl, rfl, rfl, by decide +kernel, rfl, by decide +kernel, by decide +kernel⟩
def b_law_guesses_right : S :=
    (sq (fIf (fOrT (fNotT (fB (fBl oIsi (fCons (fVar 0) (fCons (fTy "list") fNil))))) (fOrT (fB (f2 oNe (fBl oLen (fCons (fVar 0) fNil)) (f2 oIx (fLst (fCons (fC (.int 1)) (fCons (fC (.int 2)) (fCons (fC (.int 4)) (fCons (fC (.int 8)) (fCons (fC (.int 16)) fNil)))))) (fVar 1)))) (fB (f2 oNe (f1 oLenS (fVar 0)) (fBl oLen (fCons (fVar 0) fNil)))))) (fRet (fC (.bool false))) fNx)
    (sq (fFor (fItems (fVar 0)) (gNm 2) (fIf (fOrT (fNotT (fB (fBl oIsi (fCons (fVar 2) (fCons (fTy "tuple") fNil))))) (fOrT (fB (f2 oNe (fBl oLen (fCons (fVar 2) fNil)) (fVar 1))) (fB (f2 (oIn false) (fC (.bool false)) (fComp (fItems (fVar 2)) (gNm 3) (ret true) (fBl oIsi (fCons (fVar 3) (fCons (fTy "bool") fNil))) [3]))))) (fRet (fC (.bool false))) fNx))
    (fRet (fC (.bool true)))))
def f_law_guesses_right : Fn := fnOf 4 none b_law_guesses_right
theorem dv_law_guesses_right {f : Addr} {cdv : Value} {A : Around} {outer : List Env} {s : Shared} {H : Hp} {E : XK} (hr : Room 0 (A.deeper (envOfC "_law_guesses_right" (defScope s_law_guesses_right) s.heap.objs.size f cdv))) (z_len : mg "len" = none) (z_set : mg "set" = none) (z_list : mg "list" = none) (z_isinstance : mg "isinstance" = none) (z_bool : mg "bool" = none) (z_tuple : mg "tuple" = none) :
    DSs (bodyCx P w K mg base ["_law_found", "_law_many", "_law_guess", "_law_one"] "_law_guesses_right" s_law_guesses_right f cdv A outer s H E) c (WE0 E) (defBody s_law_guesses_right) b_law_guesses_right :=
    (ds_cons (ds_if (dt_w (dw_or (dt_not (dt_val (de_isi (by rfl) z_isinstance (da_cons (de_var 0) (da_cons (de_ty "list" (by rfl) z_list) da_nil))))) (dw_or (dt_ne (hu64 hr) (de_len (by rfl) z_len (da_cons (de_var 0) da_nil)) (de_ix (de_lst (da_cons de_int (da_cons de_int (da_cons de_int (da_cons de_int (da_cons de_int da_nil)))))) (de_var 1))) (dw_or1 (dt_ne (hu64 hr) (de_lenSet rfl (hu64 hr) (by rfl) z_len (by rfl) z_set (de_var 0)) (de_len (by rfl) z_len (da_cons (de_var 0) da_nil))))))) (ds_one (ds_ret de_bool)) ds_nil)
    (ds_cons (ds_for (passes_of rfl) rfl (di_any (de_var 0)) (dg_name 2 sc_law_guesses_right.nd rfl (.inl rfl)) (ds_one (ds_if (dt_w (dw_or (dt_not (dt_val (de_isi (by rfl) z_isinstance (da_cons (de_var 2) (da_cons (de_ty "tuple" (by rfl) z_tuple) da_nil))))) (dw_or (dt_ne (hu64 hr) (de_len (by rfl) z_len (da_cons (de_var 2) da_nil)) (de_var 1)) (dw_or1 (dt_in (hu65 hr) de_bool (de_comp (own := [("_law_one", 3)]) rfl sc_law_guesses_right.nd (di_any (de_var 2)) (blkOk_by (by kernel_rfl)) (by decide) (fun _ _ _ _ _ => (dg_name 3 sc_law_guesses_right.nd rfl (by first | exact Or.inl rfl | exact Or.inr rfl))) (fun _ _ _ _ _ => dts_nil) (fun _ _ _ _ _ => (de_isi (by rfl) z_isinstance (da_cons (de_var 3) (da_cons (de_ty "bool" (by rfl) z_bool) da_nil)))))))))) (ds_one (ds_ret de_bool)) ds_nil)))
    (ds_one (ds_ret de_bool))))
theorem ok_law_guesses_right {f : Addr} {fd : FuncData} (F : Fun K "_law_guesses_right" "_law_guesses_right" s_law_guesses_right f fd) (hm : mg "_law_guesses_right" = some (.ref f)) (bi : Binds K fd ["_law_found", "_law_many"] []) (z_len : mg "len" = none) (z_set : mg "set" = none) (z_list : mg "list" = none) (z_isinstance : mg "isinstance" = none) (z_bool : mg "bool" = none) (z_tuple : mg "tuple" = none) : FnAt P w K mg base c 1 "_law_guesses_right" 2 none f_law_guesses_right :=
  ⟨f, fd, ["_law_found", "_law_many"], hm, F.kp, bi, rfl, fn_ok none F sc_law_guesses_right fun cdv A outer s H E hr => dv_law_guesses_right hr z_len z_set z_list z_isinstance z_bool z_tuple⟩
/-! ### _law_rows_right -/
abbrev s_law_rows_right : Stmt := topS 27
theorem sc_law_rows_right : FnScope ["_law_saying", "_law_bonds_here", "_law_way", "_law_ring", "_law_guesses", "_law_run", "_law_one", "_law_row", "_law_at", "_law_told"] ["_law_saying", "_law_bonds_here", "_law_way", "_law_ring", "_law_guesses"] (defScope s_law_rows_right) := ⟨rfl, rfl, rfl, by decide +kernel, rfl, by decide +kernel, by decide +kernel⟩
def b_law_rows_right : S :=
    (sq (fSet 5 (fSh (f2 oAdd (fVar 2) (fVar 3))))
    (sq (fFor (fItems (fCall 1 none (f_law_all 7) (fCons (fVar 0) fNil))) (gNm 6) (sq (fSet 7 (fSh (fCall 3 none (f_law_means 8) (fCons (fVar 6) (fCons (fVar 2) (fCons (fVar 3) fNil))))))
    (fFor (bnd (fCons (fBl oLen (fCons (fVar 5) fNil)) fNil) rng1) (gNm 8) (sq (fSet 9 (fSh (fCall 4 none (f_is_so 8) (fCons (fVar 6) (fCons (f2 oIx (fVar 5) (fVar 8)) (fCons (fVar 1) (fCons (f2 oIx (fVar 4) (fVar 8)) fNil)))))))
    (fIf (fOrT (fNotT (fB (fBl oIsi (fCons (fVar 9) (fCons (fTy "bool") fNil))))) (fB (f2 oNe (fVar 9) (f2 oIx (fVar 7) (fVar 8))))) (fRet (fC (.bool false))) fNx)))))
    (fRet (fC (.bool true)))))
def f_law_rows_right : Fn := fnOf 10 none b_law_rows_right
theorem dv_law_rows_right {f : Addr} {cdv : Value} {A : Around} {outer : List Env} {s : Shared} {H : Hp} {E : XK} (hr : Room 9 (A.deeper (envOfC "_law_rows_right" (defScope s_law_rows_right) s.heap.objs.size f cdv))) (z_len : mg "len" = none) (z_range : mg "range" = none) (z_bool : mg "bool" = none) (z_isinstance : mg "isinstance" = none) (F_law_all : FnAt P w K mg base c 7 "_law_all" 1 none (f_law_all 7)) (F_law_means : FnAt P w K mg base c 9 "_law_means" 3 none (f_law_means 8)) (F_is_so : FnAt P w K mg base c 9 "is_so" 4 none (f_is_so 8)) :
    DSs (bodyCx P w K mg base ["_law_saying", "_law_bonds_here", "_law_way", "_law_ring", "_law_guesses", "_law_run", "_law_one", "_law_row", "_law_at", "_law_told"] "_law_rows_right" s_law_rows_right f cdv A outer s H E) c (WE0 E) (defBody s_law_rows_right) b_law_rows_right :=
    (ds_cons (ds_set 5 sc_law_rows_right.nd rfl (.inl rfl) (de_sh (de_add (de_var 2) (de_var 3))))
    (ds_cons (ds_for (passes_of rfl) rfl (di_any (de_call F_law_all (fun _ h => nomatch h) (hr.mono (by decide)) (takes_of rfl rfl rfl rfl) (by rfl) (da_cons (de_var 0) da_nil))) (dg_name 6 sc_law_rows_right.nd rfl (.inl rfl)) (ds_cons (ds_set 7 sc_law_rows_right.nd rfl (.inl rfl) (de_sh (de_call F_law_means (fun _ h => nomatch h) (hr.mono (by decide)) (takes_of rfl rfl rfl rfl) (by rfl) (da_cons (de_var 6) (da_cons (de_var 2) (da_cons (de_var 3) da_nil))))))
    (ds_one (ds_for (passes_of rfl) rfl (di_range1 (by rfl) z_range (da_cons (de_len (by rfl) z_len (da_cons (de_var 5) da_nil)) da_nil)) (dg_name 8 sc_law_rows_right.nd rfl (.inl rfl)) (ds_cons (ds_set 9 sc_law_rows_right.nd rfl (.inl rfl) (de_sh (de_call F_is_so (fun _ h => nomatch h) (hr.mono (by decide)) (takes_of rfl rfl rfl rfl) (by rfl) (da_cons (de_var 6) (da_cons (de_ix (de_var 5) (de_var 8)) (da_cons (de_var 1) (da_cons (de_ix (de_var 4) (de_var 8)) da_nil)))))))
    (ds_one (ds_if (dt_w (dw_or (dt_not (dt_val (de_isi (by rfl) z_isinstance (da_cons (de_var 9) (da_cons (de_ty "bool" (by rfl) z_bool) da_nil))))) (dw_or1 (dt_ne (hu64 hr) (de_var 9) (de_ix (de_var 7) (de_var 8)))))) (ds_one (ds_ret de_bool)) ds_nil)))))))
    (ds_one (ds_ret de_bool))))
theorem ok_law_rows_right {f : Addr} {fd : FuncData} (F : Fun K "_law_rows_right" "_law_rows_right" s_law_rows_right f fd) (hm : mg "_law_rows_right" = some (.ref f)) (bi : Binds K fd ["_law_saying", "_law_bonds_here", "_law_way", "_law_ring", "_law_guesses"] []) (z_len : mg "len" = none) (z_range : mg "range" = none) (z_bool : mg "bool" = none) (z_isinstance : mg "isinstance" = none) (F_law_all : FnAt P w K mg base c 7 "_law_all" 1 none (f_law_all 7)) (F_law_means : FnAt P w K mg base c 9 "_law_means" 3 none (f_law_means 8)) (F_is_so : FnAt P w K mg base c 9 "is_so" 4 none (f_is_so 8)) : FnAt P w K mg base c 10 "_law_rows_right" 5 none f_law_rows_right :=
  ⟨f, fd, ["_law_saying", "_law_bonds_here", "_law_way", "_law_ring", "_law_guesses"], hm, F.kp, bi, rfl, fn_ok none F sc_law_rows_right fun cdv A outer s H E hr => dv_law_rows_right hr z_len z_range z_bool z_isinstance F_law_all F_law_means F_is_so⟩
/-! ### all_guesses -/
abbrev s_all_guesses : Stmt := topS 5
theorem sc_all_guesses : FnScope ["bonds", "found", "bond", "row"] ["bonds"] (defScope s_all_guesses) := ⟨rfl, rfl, rfl, by decide +kernel, rfl, by decide +kernel, by decide +kernel⟩
def b_all_guesses : S :=
    (sq (fSet 1 (fSh (fLst (fCons (fTup fNil) fNil))))
    (sq (fFor (fItems (fVar 0)) (gNm 2) (fSet 1 (fSh (f2 oAdd (fComp (fItems (fVar 1)) (gNm 3) (ret true) (f2 oAdd (fVar 3) (fTup (fCons (fC (.bool false)) fNil))) [3]) (fComp (fItems (fVar 1)) (gNm 3) (ret true) (f2 oAdd (fVar 3) (fTup (fCons (fC (.bool true)) fNil))) [3])))))
    (fRet (fVar 1))))
def f_all_guesses : Fn := fnOf 4 none b_all_guesses
theorem dv_all_guesses {f : Addr} {cdv : Value} {A : Around} {outer : List Env} {s : Shared} {H : Hp} {E : XK} (hr : Room 0 (A.deeper (envOfC "all_guesses" (defScope s_all_guesses) s.heap.objs.size f cdv)))  :
    DSs (bodyCx P w K mg base ["bonds", "found", "bond", "row"] "all_guesses" s_all_guesses f cdv A outer s H E) c (WE0 E) (defBody s_all_guesses) b_all_guesses :=
    (ds_cons (ds_set 1 sc_all_guesses.nd rfl (.inl rfl) (de_sh (de_lst (da_cons (de_tup da_nil) da_nil))))
    (ds_cons (ds_for (passes_of rfl) rfl (di_any (de_var 0)) (dg_name 2 sc_all_guesses.nd rfl (.inl rfl)) (ds_one (ds_set 1 sc_all_guesses.nd rfl (.inl rfl) (de_sh (de_add (de_comp (own := [("row", 3)]) rfl sc_all_guesses.nd (di_any (de_var 1)) (blkOk_by (by kernel_rfl)) (by decide) (fun _ _ _ _ _ => (dg_name 3 sc_all_guesses.nd rfl (by first | exact Or.inl rfl | exact Or.inr rfl))) (fun _ _ _ _ _ => dts_nil) (fun _ _ _ _ _ => (de_add (de_var 3) (de_tup (da_cons de_bool da_nil))))) (de_comp (own := [("row", 3)]) rfl sc_all_guesses.nd (di_any (de_var 1)) (blkOk_by (by kernel_rfl)) (by decide) (fun _ _ _ _ _ => (dg_name 3 sc_all_guesses.nd rfl (by first | exact Or.inl rfl | exact Or.inr rfl))) (fun _ _ _ _ _ => dts_nil) (fun _ _ _ _ _ => (de_add (de_var 3) (de_tup (da_cons de_bool da_nil))))))))))
    (ds_one (ds_ret (de_var 1)))))
theorem ok_all_guesses {f : Addr} {fd : FuncData} (F : Fun K "all_guesses" "all_guesses" s_all_guesses f fd) (hm : mg "all_guesses" = some (.ref f)) (bi : Binds K fd ["bonds"] [])  : FnAt P w K mg base c 1 "all_guesses" 1 none f_all_guesses :=
  ⟨f, fd, ["bonds"], hm, F.kp, bi, rfl, fn_ok none F sc_all_guesses fun cdv A outer s H E hr => dv_all_guesses hr ⟩
/-! ### law -/
abbrev s_law : Stmt := topS 30
theorem sc_law : FnScope ["_law_script", "_law_spot", "_law_names_here", "_law_saying", "_law_bonds_here", "_law_way", "_law_ring", "_law_rows", "_law_guesses", "_law_cell", "_law_k", "_law_bond", "_law_at", "_law_row"] ["_law_script"] (defScope s_law) := ⟨rfl, rfl, rfl, by decide +kernel, rfl, by decide +kernel, by decide +kernel⟩
def b_law : S :=
    (sq (fSet 1 (fLst (fCons (fC (.int 1)) fNil)))
    (sq (fSet 2 (fSh (fCall 1 none f_law_names (fCons (fCall 2 none f_law_cell_at (fCons (fVar 0) (fCons (fC (.int 0)) fNil))) fNil))))
    (sq (fSet 3 (fSh (fCall 2 none f_law_fit (fCons (fCall 4 (some 1) (f_law_made 6) (fCons (fVar 0) (fCons (fVar 1) (fCons (fVar 2) (fCons (fC (.int 5)) fNil))))) (fCons (fC (.int 4)) fNil)))))
    (sq (fSet 4 (fSh (fCall 1 none (f_bonds_in 7) (fCons (fVar 3) fNil))))
    (sq (fSet 5 (fSh (fCall 4 (some 1) f_law_marks (fCons (fVar 0) (fCons (fVar 1) (fCons (fVar 2) (fCons (fC (.int 0)) fNil)))))))
    (sq (fSet 6 (fSh (fCall 4 (some 1) f_law_marks (fCons (fVar 0) (fCons (fVar 1) (fCons (fVar 2) (fCons (fC (.int 1)) fNil)))))))
    (sq (fSet 7 (fSh (fComp (fItems (fVar 4)) (gNm 11) (ret true) (fCall 3 none (f_law_means 8) (fCons (fVar 11) (fCons (fVar 5) (fCons (fVar 6) fNil)))) [11])))
    (sq (fSet 8 (fSh (fComp (bnd (fCons (f2 oAdd (fBl oLen (fCons (fVar 5) fNil)) (fBl oLen (fCons (fVar 6) fNil))) fNil) rng1) (gNm 12) (ret true) (fBl oTuple (fCons (fComp (fItems (fVar 7)) (gNm 13) (ret true) (f2 oIx (fVar 13) (fVar 12)) [13]) fNil)) [12])))
    (sq (fIf (fOrT (fNotT (fB (fCall 2 none f_law_guesses_right (fCons (fCall 1 none f_all_guesses (fCons (fVar 4) fNil)) (fCons (fBl oLen (fCons (fVar 4) fNil)) fNil))))) (fNotT (fB (fCall 5 none f_law_rows_right (fCons (fVar 3) (fCons (fVar 4) (fCons (fVar 5) (fCons (fVar 6) (fCons (fVar 8) fNil))))))))) (fRet (fC (.bool false))) fNx)
    (sq (fSet 9 (fSh (fCall 2 (some 1) f_law_draw (fCons (fVar 0) (fCons (fVar 1) fNil)))))
    (sq (fSet 10 (fSh (f2 oMod (fVar 9) (fBl oMax2 (fCons (fC (.int 1)) (fCons (fBl oLen (fCons (fVar 4) fNil)) fNil))))))
    (sq (fIf (fNotT (fB (fCall 6 none f_law_steps_right (fCons (fVar 4) (fCons (fVar 5) (fCons (fVar 6) (fCons (fVar 8) (fCons (fVar 10) (fCons (f2 oMod (f2 oDiv (fVar 9) (fC (.int 4))) (fBl oLen (fCons (fVar 8) fNil))) fNil))))))))) (fRet (fC (.bool false))) fNx)
    (fRet (fAnd (fCall 6 none f_law_promises_right (fCons (fVar 3) (fCons (fVar 4) (fCons (fVar 5) (fCons (fVar 6) (fCons (fVar 8) (fCons (fVar 10) fNil))))))) (f2 oEq (fCall 1 none (f_bonds_in 7) (fCons (fVar 3) fNil)) (fVar 4))))))))))))))))
def f_law : Fn := fnOf 14 none b_law
theorem dv_law {f : Addr} {cdv : Value} {A : Around} {outer : List Env} {s : Shared} {H : Hp} {E : XK} (hr : Room 12 (A.deeper (envOfC "law" (defScope s_law) s.heap.objs.size f cdv))) (z_len : mg "len" = none) (z_range : mg "range" = none) (z_tuple : mg "tuple" = none) (z_max : mg "max" = none) (F_law_cell_at : FnAt P w K mg base c 1 "_law_cell_at" 2 none f_law_cell_at) (F_law_names : FnAt P w K mg base c 1 "_law_names" 1 none f_law_names) (F_law_made : FnAt P w K mg base c 7 "_law_made" 4 (some 1) (f_law_made 6)) (F_law_fit : FnAt P w K mg base c 9 "_law_fit" 2 none f_law_fit) (F_bonds_in : FnAt P w K mg base c 8 "bonds_in" 1 none (f_bonds_in 7)) (F_law_marks : FnAt P w K mg base c 2 "_law_marks" 4 (some 1) f_law_marks) (F_law_means : FnAt P w K mg base c 9 "_law_means" 3 none (f_law_means 8)) (F_law_rows_right : FnAt P w K mg base c 10 "_law_rows_right" 5 none f_law_rows_right) (F_all_guesses : FnAt P w K mg base c 1 "all_guesses" 1 none f_all_guesses) (F_law_guesses_right : FnAt P w K mg base c 1 "_law_guesses_right" 2 none f_law_guesses_right) (F_law_draw : FnAt P w K mg base c 1 "_law_draw" 2 (some 1) f_law_draw) (F_law_steps_right : FnAt P w K mg base c 12 "_law_steps_right" 6 none f_law_steps_right) (F_law_promises_right : FnAt P w K mg base c 11 "_law_promises_right" 6 none f_law_promises_right) :
    DSs (bodyCx P w K mg base ["_law_script", "_law_spot", "_law_names_here", "_law_saying", "_law_bonds_here", "_law_way", "_law_ring", "_law_rows", "_law_guesses", "_law_cell", "_law_k", "_law_bond", "_law_at", "_law_row"] "law" s_law f cdv A outer s H E) c (WE0 E) (defBody s_law) b_law :=
    (ds_cons (ds_set 1 sc_law.nd rfl (.inl rfl) (de_lst (da_cons de_int da_nil)))
    (ds_cons (ds_set 2 sc_law.nd rfl (.inl rfl) (de_sh (de_call F_law_names (fun _ h => nomatch h) (hr.mono (by decide)) (takes_of rfl rfl rfl rfl) (by rfl) (da_cons (de_call F_law_cell_at (fun _ h => nomatch h) (hr.mono (by decide)) (takes_of rfl rfl rfl rfl) (by rfl) (da_cons (de_var 0) (da_cons de_int da_nil))) da_nil))))
    (ds_cons (ds_set 3 sc_law.nd rfl (.inl rfl) (de_sh (de_call F_law_fit (fun _ h => nomatch h) (hr.mono (by decide)) (takes_of rfl rfl rfl rfl) (by rfl) (da_cons (de_call F_law_made (fun _ h => by cases h; decide) (hr.mono (by decide)) (takes_of rfl rfl rfl rfl) (by rfl) (da_cons (de_var 0) (da_cons (de_var 1) (da_cons (de_var 2) (da_cons de_int da_nil))))) (da_cons de_int da_nil)))))
    (ds_cons (ds_set 4 sc_law.nd rfl (.inl rfl) (de_sh (de_call F_bonds_in (fun _ h => nomatch h) (hr.mono (by decide)) (takes_of rfl rfl rfl rfl) (by rfl) (da_cons (de_var 3) da_nil))))
    (ds_cons (ds_set 5 sc_law.nd rfl (.inr rfl) (de_sh (de_call F_law_marks (fun _ h => by cases h; decide) (hr.mono (by decide)) (takes_of rfl rfl rfl rfl) (by rfl) (da_cons (de_var 0) (da_cons (de_var 1) (da_cons (de_var 2) (da_cons de_int da_nil)))))))
    (ds_cons (ds_set 6 sc_law.nd rfl (.inr rfl) (de_sh (de_call F_law_marks (fun _ h => by cases h; decide) (hr.mono (by decide)) (takes_of rfl rfl rfl rfl) (by rfl) (da_cons (de_var 0) (da_cons (de_var 1) (da_cons (de_var 2) (da_cons de_int da_nil)))))))
    (ds_cons (ds_set 7 sc_law.nd rfl (.inr rfl) (de_sh (de_comp (own := [("_law_bond", 11)]) rfl sc_law.nd (di_any (de_var 4)) (blkOk_by (by kernel_rfl)) (by decide) (fun _ _ _ _ _ => (dg_name 11 sc_law.nd rfl (by first | exact Or.inl rfl | exact Or.inr rfl))) (fun _ _ _ _ _ => dts_nil) (fun _ _ _ _ _ => (de_call F_law_means (fun _ h => nomatch h) (hr.mono (by decide)) takes0 (by rfl) (da_cons (de_var 11) (da_cons (de_var 5) (da_cons (de_var 6) da_nil))))))))
    (ds_cons (ds_setCompSh 8 (own := [("_law_at", 12)]) rfl sc_law.nd rfl rfl (sw_true rfl rfl rfl (by decide +kernel)) (di_range1 (by rfl) z_range (da_cons (de_add (de_len (by rfl) z_len (da_cons (de_var 5) da_nil)) (de_len (by rfl) z_len (da_cons (de_var 6) da_nil))) da_nil)) (blkOk_by (by kernel_rfl)) (by decide) (fun _ _ _ _ _ => (dg_name 12 sc_law.nd rfl (by first | exact Or.inl rfl | exact Or.inr rfl))) (fun _ _ _ _ _ => dts_nil) (fun _ _ _ _ _ => (de_tupleC (by rfl) z_tuple (da_cons (de_comp (own := [("_law_row", 13)]) rfl sc_law.nd (di_any (de_var 7)) (blkOk_by (by kernel_rfl)) (by decide) (fun _ _ _ _ _ => (dg_name 13 sc_law.nd rfl (by first | exact Or.inl rfl | exact Or.inr rfl))) (fun _ _ _ _ _ => dts_nil) (fun _ _ _ _ _ => (de_ix (de_var 13) (de_var 12)))) da_nil))))
    (ds_cons (ds_if (dt_w (dw_or (dt_not (dt_val (de_call F_law_guesses_right (fun _ h => nomatch h) (hr.mono (by decide)) (takes_of rfl rfl rfl rfl) (by rfl) (da_cons (de_call F_all_guesses (fun _ h => nomatch h) (hr.mono (by decide)) (takes_of rfl rfl rfl rfl) (by rfl) (da_cons (de_var 4) da_nil)) (da_cons (de_len (by rfl) z_len (da_cons (de_var 4) da_nil)) da_nil))))) (dw_or1 (dt_not (dt_val (de_call F_law_rows_right (fun _ h => nomatch h) (hr.mono (by decide)) (takes_of rfl rfl rfl rfl) (by rfl) (da_cons (de_var 3) (da_cons (de_var 4) (da_cons (de_var 5) (da_cons (de_var 6) (da_cons (de_var 8) da_nil))))))))))) (ds_one (ds_ret de_bool)) ds_nil)
    (ds_cons (ds_set 9 sc_law.nd rfl (.inl rfl) (de_sh (de_call F_law_draw (fun _ h => by cases h; decide) (hr.mono (by decide)) (takes_of rfl rfl rfl rfl) (by rfl) (da_cons (de_var 0) (da_cons (de_var 1) da_nil)))))
    (ds_cons (ds_set 10 sc_law.nd rfl (.inl rfl) (de_sh (de_mod (de_var 9) (de_max2 rfl (by rfl) z_max (da_cons de_int (da_cons (de_len (by rfl) z_len (da_cons (de_var 4) da_nil)) da_nil))))))
    (ds_cons (ds_if (dt_not (dt_val (de_call F_law_steps_right (fun _ h => nomatch h) (hr.mono (by decide)) (takes_of rfl rfl rfl rfl) (by rfl) (da_cons (de_var 4) (da_cons (de_var 5) (da_cons (de_var 6) (da_cons (de_var 8) (da_cons (de_var 10) (da_cons (de_mod (de_div (de_var 9) de_int) (de_len (by rfl) z_len (da_cons (de_var 8) da_nil))) da_nil))))))))) (ds_one (ds_ret de_bool)) ds_nil)
    (ds_one (ds_ret (de_and (de_call F_law_promises_right (fun _ h => nomatch h) (hr.mono (by decide)) (takes_of rfl rfl rfl rfl) (by rfl) (da_cons (de_var 3) (da_cons (de_var 4) (da_cons (de_var 5) (da_cons (de_var 6) (da_cons (de_var 8) (da_cons (de_var 10) da_nil))))))) (de_one (de_eq (hu64 hr) (de_call F_bonds_in (fun _ h => nomatch h) (hr.mono (by decide)) (takes_of rfl rfl rfl rfl) (by rfl) (da_cons (de_var 3) da_nil)) (de_var 4))))))))))))))))))
theorem ok_law {f : Addr} {fd : FuncData} (F : Fun K "law" "law" s_law f fd) (hm : mg "law" = some (.ref f)) (bi : Binds K fd ["_law_script"] []) (z_len : mg "len" = none) (z_range : mg "range" = none) (z_tuple : mg "tuple" = none) (z_max : mg "max" = none) (F_law_cell_at : FnAt P w K mg base c 1 "_law_cell_at" 2 none f_law_cell_at) (F_law_names : FnAt P w K mg base c 1 "_law_names" 1 none f_law_names) (F_law_made : FnAt P w K mg base c 7 "_law_made" 4 (some 1) (f_law_made 6)) (F_law_fit : FnAt P w K mg base c 9 "_law_fit" 2 none f_law_fit) (F_bonds_in : FnAt P w K mg base c 8 "bonds_in" 1 none (f_bonds_in 7)) (F_law_marks : FnAt P w K mg base c 2 "_law_marks" 4 (some 1) f_law_marks) (F_law_means : FnAt P w K mg base c 9 "_law_means" 3 none (f_law_means 8)) (F_law_rows_right : FnAt P w K mg base c 10 "_law_rows_right" 5 none f_law_rows_right) (F_all_guesses : FnAt P w K mg base c 1 "all_guesses" 1 none f_all_guesses) (F_law_guesses_right : FnAt P w K mg base c 1 "_law_guesses_right" 2 none f_law_guesses_right) (F_law_draw : FnAt P w K mg base c 1 "_law_draw" 2 (some 1) f_law_draw) (F_law_steps_right : FnAt P w K mg base c 12 "_law_steps_right" 6 none f_law_steps_right) (F_law_promises_right : FnAt P w K mg base c 11 "_law_promises_right" 6 none f_law_promises_right) : FnAt P w K mg base c 13 "law" 1 none f_law :=
  ⟨f, fd, ["_law_script"], hm, F.kp, bi, rfl, fn_ok none F sc_law fun cdv A outer s H E hr => dv_law hr z_len z_range z_tuple z_max F_law_cell_at F_law_names F_law_made F_law_fit F_bonds_in F_law_marks F_law_means F_law_rows_right F_all_guesses F_law_guesses_right F_law_draw F_law_steps_right F_law_promises_right⟩
end
/-! ### the top -/
def spLaw (K : PySem.W.Frag) : Sp := fun vs H Q _ => ∃ (a : Addr) (ns : List Int), vs = [.ref a] ∧ SqL K H a (ns.map V.int) ∧ ns.length ≤ 63 ∧ ∀ H', Q (.bl true) H'
theorem all_mk (LT : ∀ ns : List Int, ns.length ≤ 63 → f_law [.scr ns] = some (.ok (py (.bool true)) .none)) {l : PySem.W.OpenLaw} {w : World} {K : PySem.W.Frag} {h : Heap} {mg : Str → Option Value} {fa f0 f1 f2 f3 f4 f5 f6 f7 f8 f9 f10 f11 f12 f13 f14 f15 f16 f17 f18 f19 f20 f21 f22 f23 f24 f25 f26 : Addr} (X : K.In h) (G : h.Ns mainGlobals mg) (hfa : mg "law" = some (.ref fa))
    {od0 an0 : Option Addr} {sl0 : Array (Option Value)} {oc0 kV0 dc0 pm0 cd0 ct0 : Value}
    (a0 : PySem.W.nsIn K mainGlobals "_law_names" = some (some (.ref f0))) (l0 : K.lookup f0 = some ⟨oc0, od0, .func (PySem.W.fnOf "_law_names" "_law_names" (defArgs s_law_names) (defBody s_law_names) (defScope s_law_names) .none kV0 dc0 pm0 an0 cd0 ct0), sl0⟩) (c0 : PySem.W.codeIn K cd0 "_law_names" = true) (k0 : PySem.W.keepIn K (.ref f0) = true)
    {od1 an1 : Option Addr} {sl1 : Array (Option Value)} {oc1 kV1 dc1 pm1 cd1 ct1 : Value}
    (a1 : PySem.W.nsIn K mainGlobals "_law_all" = some (some (.ref f1))) (l1 : K.lookup f1 = some ⟨oc1, od1, .func (PySem.W.fnOf "_law_all" "_law_all" (defArgs s_law_all) (defBody s_law_all) (defScope s_law_all) .none kV1 dc1 pm1 an1 cd1 ct1), sl1⟩) (c1 : PySem.W.codeIn K cd1 "_law_all" = true) (k1 : PySem.W.keepIn K (.ref f1) = true)
    {od2 an2 : Option Addr} {sl2 : Array (Option Value)} {oc2 kV2 dc2 pm2 cd2 ct2 : Value}
    (a2 : PySem.W.nsIn K mainGlobals "_law_bonds" = some (some (.ref f2))) (l2 : K.lookup f2 = some ⟨oc2, od2, .func (PySem.W.fnOf "_law_bonds" "_law_bonds" (defArgs s_law_bonds) (defBody s_law_bonds) (defScope s_law_bonds) .none kV2 dc2 pm2 an2 cd2 ct2), sl2⟩) (c2 : PySem.W.codeIn K cd2 "_law_bonds" = true) (k2 : PySem.W.keepIn K (.ref f2) = true)
    {od3 an3 : Option Addr} {sl3 : Array (Option Value)} {oc3 kV3 dc3 pm3 cd3 ct3 : Value}
    (a3 : PySem.W.nsIn K mainGlobals "_law_fit" = some (some (.ref f3))) (l3 : K.lookup f3 = some ⟨oc3, od3, .func (PySem.W.fnOf "_law_fit" "_law_fit" (defArgs s_law_fit) (defBody s_law_fit) (defScope s_law_fit) .none kV3 dc3 pm3 an3 cd3 ct3), sl3⟩) (c3 : PySem.W.codeIn K cd3 "_law_fit" = true) (k3 : PySem.W.keepIn K (.ref f3) = true)
    {od4 an4 : Option Addr} {sl4 : Array (Option Value)} {oc4 kV4 dc4 pm4 cd4 ct4 : Value}
    (a4 : PySem.W.nsIn K mainGlobals "parts_of" = some (some (.ref f4))) (l4 : K.lookup f4 = some ⟨oc4, od4, .func (PySem.W.fnOf "parts_of" "parts_of" (defArgs s_parts_of) (defBody s_parts_of) (defScope s_parts_of) .none kV4 dc4 pm4 an4 cd4 ct4), sl4⟩) (c4 : PySem.W.codeIn K cd4 "parts_of" = true) (k4 : PySem.W.keepIn K (.ref f4) = true)
    {od5 an5 : Option Addr} {sl5 : Array (Option Value)} {oc5 kV5 dc5 pm5 cd5 ct5 : Value}
    (a5 : PySem.W.nsIn K mainGlobals "again_as" = some (some (.ref f5))) (l5 : K.lookup f5 = some ⟨oc5, od5, .func (PySem.W.fnOf "again_as" "again_as" (defArgs s_again_as) (defBody s_again_as) (defScope s_again_as) .none kV5 dc5 pm5 an5 cd5 ct5), sl5⟩) (c5 : PySem.W.codeIn K cd5 "again_as" = true) (k5 : PySem.W.keepIn K (.ref f5) = true)
    {od6 an6 : Option Addr} {sl6 : Array (Option Value)} {oc6 kV6 dc6 pm6 cd6 ct6 : Value}
    (a6 : PySem.W.nsIn K mainGlobals "bonds_in" = some (some (.ref f6))) (l6 : K.lookup f6 = some ⟨oc6, od6, .func (PySem.W.fnOf "bonds_in" "bonds_in" (defArgs s_bonds_in) (defBody s_bonds_in) (defScope s_bonds_in) .none kV6 dc6 pm6 an6 cd6 ct6), sl6⟩) (c6 : PySem.W.codeIn K cd6 "bonds_in" = true) (k6 : PySem.W.keepIn K (.ref f6) = true)
    {od7 an7 : Option Addr} {sl7 : Array (Option Value)} {oc7 kV7 dc7 pm7 cd7 ct7 : Value}
    (a7 : PySem.W.nsIn K mainGlobals "_law_draw" = some (some (.ref f7))) (l7 : K.lookup f7 = some ⟨oc7, od7, .func (PySem.W.fnOf "_law_draw" "_law_draw" (defArgs s_law_draw) (defBody s_law_draw) (defScope s_law_draw) .none kV7 dc7 pm7 an7 cd7 ct7), sl7⟩) (c7 : PySem.W.codeIn K cd7 "_law_draw" = true) (k7 : PySem.W.keepIn K (.ref f7) = true)
    {od8 an8 : Option Addr} {sl8 : Array (Option Value)} {oc8 kV8 dc8 pm8 cd8 ct8 : Value}
    (a8 : PySem.W.nsIn K mainGlobals "_law_marks" = some (some (.ref f8))) (l8 : K.lookup f8 = some ⟨oc8, od8, .func (PySem.W.fnOf "_law_marks" "_law_marks" (defArgs s_law_marks) (defBody s_law_marks) (defScope s_law_marks) .none kV8 dc8 pm8 an8 cd8 ct8), sl8⟩) (c8 : PySem.W.codeIn K cd8 "_law_marks" = true) (k8 : PySem.W.keepIn K (.ref f8) = true)
    {od9 an9 : Option Addr} {sl9 : Array (Option Value)} {oc9 kV9 dc9 pm9 cd9 ct9 : Value}
    (a9 : PySem.W.nsIn K mainGlobals "_law_cell_at" = some (some (.ref f9))) (l9 : K.lookup f9 = some ⟨oc9, od9, .func (PySem.W.fnOf "_law_cell_at" "_law_cell_at" (defArgs s_law_cell_at) (defBody s_law_cell_at) (defScope s_law_cell_at) .none kV9 dc9 pm9 an9 cd9 ct9), sl9⟩) (c9 : PySem.W.codeIn K cd9 "_law_cell_at" = true) (k9 : PySem.W.keepIn K (.ref f9) = true)
    {od10 an10 : Option Addr} {sl10 : Array (Option Value)} {oc10 kV10 dc10 pm10 cd10 ct10 : Value}
    (a10 : PySem.W.nsIn K mainGlobals "_law_made" = some (some (.ref f10))) (l10 : K.lookup f10 = some ⟨oc10, od10, .func (PySem.W.fnOf "_law_made" "_law_made" (defArgs s_law_made) (defBody s_law_made) (defScope s_law_made) .none kV10 dc10 pm10 an10 cd10 ct10), sl10⟩) (c10 : PySem.W.codeIn K cd10 "_law_made" = true) (k10 : PySem.W.keepIn K (.ref f10) = true)
    {od11 an11 : Option Addr} {sl11 : Array (Option Value)} {oc11 kV11 dc11 pm11 cd11 ct11 : Value}
    (a11 : PySem.W.nsIn K mainGlobals "_law_till" = some (some (.ref f11))) (l11 : K.lookup f11 = some ⟨oc11, od11, .func (PySem.W.fnOf "_law_till" "_law_till" (defArgs s_law_till) (defBody s_law_till) (defScope s_law_till) .none kV11 dc11 pm11 an11 cd11 ct11), sl11⟩) (c11 : PySem.W.codeIn K cd11 "_law_till" = true) (k11 : PySem.W.keepIn K (.ref f11) = true)
    {od12 an12 : Option Addr} {sl12 : Array (Option Value)} {oc12 kV12 dc12 pm12 cd12 ct12 : Value}
    (a12 : PySem.W.nsIn K mainGlobals "_law_after" = some (some (.ref f12))) (l12 : K.lookup f12 = some ⟨oc12, od12, .func (PySem.W.fnOf "_law_after" "_law_after" (defArgs s_law_after) (defBody s_law_after) (defScope s_law_after) .none kV12 dc12 pm12 an12 cd12 ct12), sl12⟩) (c12 : PySem.W.codeIn K cd12 "_law_after" = true) (k12 : PySem.W.keepIn K (.ref f12) = true)
    {od13 an13 : Option Addr} {sl13 : Array (Option Value)} {oc13 kV13 dc13 pm13 cd13 ct13 : Value}
    (a13 : PySem.W.nsIn K mainGlobals "_law_means" = some (some (.ref f13))) (l13 : K.lookup f13 = some ⟨oc13, od13, .func (PySem.W.fnOf "_law_means" "_law_means" (defArgs s_law_means) (defBody s_law_means) (defScope s_law_means) .none kV13 dc13 pm13 an13 cd13 ct13), sl13⟩) (c13 : PySem.W.codeIn K cd13 "_law_means" = true) (k13 : PySem.W.keepIn K (.ref f13) = true)
    {od14 an14 : Option Addr} {sl14 : Array (Option Value)} {oc14 kV14 dc14 pm14 cd14 ct14 : Value}
    (a14 : PySem.W.nsIn K mainGlobals "is_so" = some (some (.ref f14))) (l14 : K.lookup f14 = some ⟨oc14, od14, .func (PySem.W.fnOf "is_so" "is_so" (defArgs s_is_so) (defBody s_is_so) (defScope s_is_so) .none kV14 dc14 pm14 an14 cd14 ct14), sl14⟩) (c14 : PySem.W.codeIn K cd14 "is_so" = true) (k14 : PySem.W.keepIn K (.ref f14) = true)
    {od15 an15 : Option Addr} {sl15 : Array (Option Value)} {oc15 kV15 dc15 pm15 cd15 ct15 : Value}
    (a15 : PySem.W.nsIn K mainGlobals "is_kept" = some (some (.ref f15))) (l15 : K.lookup f15 = some ⟨oc15, od15, .func (PySem.W.fnOf "is_kept" "is_kept" (defArgs s_is_kept) (defBody s_is_kept) (defScope s_is_kept) .none kV15 dc15 pm15 an15 cd15 ct15), sl15⟩) (c15 : PySem.W.codeIn K cd15 "is_kept" = true) (k15 : PySem.W.keepIn K (.ref f15) = true)
    {od16 an16 : Option Addr} {sl16 : Array (Option Value)} {oc16 kV16 dc16 pm16 cd16 ct16 : Value}
    (a16 : PySem.W.nsIn K mainGlobals "goes_on" = some (some (.ref f16))) (l16 : K.lookup f16 = some ⟨oc16, od16, .func (PySem.W.fnOf "goes_on" "goes_on" (defArgs s_goes_on) (defBody s_goes_on) (defScope s_goes_on) .none kV16 dc16 pm16 an16 cd16 ct16), sl16⟩) (c16 : PySem.W.codeIn K cd16 "goes_on" = true) (k16 : PySem.W.keepIn K (.ref f16) = true)
    {od17 an17 : Option Addr} {sl17 : Array (Option Value)} {oc17 kV17 dc17 pm17 cd17 ct17 : Value}
    (a17 : PySem.W.nsIn K mainGlobals "_law_steps_right" = some (some (.ref f17))) (l17 : K.lookup f17 = some ⟨oc17, od17, .func (PySem.W.fnOf "_law_steps_right" "_law_steps_right" (defArgs s_law_steps_right) (defBody s_law_steps_right) (defScope s_law_steps_right) .none kV17 dc17 pm17 an17 cd17 ct17), sl17⟩) (c17 : PySem.W.codeIn K cd17 "_law_steps_right" = true) (k17 : PySem.W.keepIn K (.ref f17) = true)
    {od18 an18 : Option Addr} {sl18 : Array (Option Value)} {oc18 kV18 dc18 pm18 cd18 ct18 : Value}
    (a18 : PySem.W.nsIn K mainGlobals "promises_of" = some (some (.ref f18))) (l18 : K.lookup f18 = some ⟨oc18, od18, .func (PySem.W.fnOf "promises_of" "promises_of" (defArgs s_promises_of) (defBody s_promises_of) (defScope s_promises_of) .none kV18 dc18 pm18 an18 cd18 ct18), sl18⟩) (c18 : PySem.W.codeIn K cd18 "promises_of" = true) (k18 : PySem.W.keepIn K (.ref f18) = true)
    {od19 an19 : Option Addr} {sl19 : Array (Option Value)} {oc19 kV19 dc19 pm19 cd19 ct19 : Value}
    (a19 : PySem.W.nsIn K mainGlobals "is_met" = some (some (.ref f19))) (l19 : K.lookup f19 = some ⟨oc19, od19, .func (PySem.W.fnOf "is_met" "is_met" (defArgs s_is_met) (defBody s_is_met) (defScope s_is_met) .none kV19 dc19 pm19 an19 cd19 ct19), sl19⟩) (c19 : PySem.W.codeIn K cd19 "is_met" = true) (k19 : PySem.W.keepIn K (.ref f19) = true)
    {od20 an20 : Option Addr} {sl20 : Array (Option Value)} {oc20 kV20 dc20 pm20 cd20 ct20 : Value}
    (a20 : PySem.W.nsIn K mainGlobals "_law_so" = some (some (.ref f20))) (l20 : K.lookup f20 = some ⟨oc20, od20, .func (PySem.W.fnOf "_law_so" "_law_so" (defArgs s_law_so) (defBody s_law_so) (defScope s_law_so) .none kV20 dc20 pm20 an20 cd20 ct20), sl20⟩) (c20 : PySem.W.codeIn K cd20 "_law_so" = true) (k20 : PySem.W.keepIn K (.ref f20) = true)
    {od21 an21 : Option Addr} {sl21 : Array (Option Value)} {oc21 kV21 dc21 pm21 cd21 ct21 : Value}
    (a21 : PySem.W.nsIn K mainGlobals "_law_meets" = some (some (.ref f21))) (l21 : K.lookup f21 = some ⟨oc21, od21, .func (PySem.W.fnOf "_law_meets" "_law_meets" (defArgs s_law_meets) (defBody s_law_meets) (defScope s_law_meets) .none kV21 dc21 pm21 an21 cd21 ct21), sl21⟩) (c21 : PySem.W.codeIn K cd21 "_law_meets" = true) (k21 : PySem.W.keepIn K (.ref f21) = true)
    {od22 an22 : Option Addr} {sl22 : Array (Option Value)} {oc22 kV22 dc22 pm22 cd22 ct22 : Value}
    (a22 : PySem.W.nsIn K mainGlobals "_law_promises_right" = some (some (.ref f22))) (l22 : K.lookup f22 = some ⟨oc22, od22, .func (PySem.W.fnOf "_law_promises_right" "_law_promises_right" (defArgs s_law_promises_right) (defBody s_law_promises_right) (defScope s_law_promises_right) .none kV22 dc22 pm22 an22 cd22 ct22), sl22⟩) (c22 : PySem.W.codeIn K cd22 "_law_promises_right" = true) (k22 : PySem.W.keepIn K (.ref f22) = true)
    {od23 an23 : Option Addr} {sl23 : Array (Option Value)} {oc23 kV23 dc23 pm23 cd23 ct23 : Value}
    (a23 : PySem.W.nsIn K mainGlobals "_law_guesses_right" = some (some (.ref f23))) (l23 : K.lookup f23 = some ⟨oc23, od23, .func (PySem.W.fnOf "_law_guesses_right" "_law_guesses_right" (defArgs s_law_guesses_right) (defBody s_law_guesses_right) (defScope s_law_guesses_right) .none kV23 dc23 pm23 an23 cd23 ct23), sl23⟩) (c23 : PySem.W.codeIn K cd23 "_law_guesses_right" = true) (k23 : PySem.W.keepIn K (.ref f23) = true)
    {od24 an24 : Option Addr} {sl24 : Array (Option Value)} {oc24 kV24 dc24 pm24 cd24 ct24 : Value}
    (a24 : PySem.W.nsIn K mainGlobals "_law_rows_right" = some (some (.ref f24))) (l24 : K.lookup f24 = some ⟨oc24, od24, .func (PySem.W.fnOf "_law_rows_right" "_law_rows_right" (defArgs s_law_rows_right) (defBody s_law_rows_right) (defScope s_law_rows_right) .none kV24 dc24 pm24 an24 cd24 ct24), sl24⟩) (c24 : PySem.W.codeIn K cd24 "_law_rows_right" = true) (k24 : PySem.W.keepIn K (.ref f24) = true)
    {od25 an25 : Option Addr} {sl25 : Array (Option Value)} {oc25 kV25 dc25 pm25 cd25 ct25 : Value}
    (a25 : PySem.W.nsIn K mainGlobals "all_guesses" = some (some (.ref f25))) (l25 : K.lookup f25 = some ⟨oc25, od25, .func (PySem.W.fnOf "all_guesses" "all_guesses" (defArgs s_all_guesses) (defBody s_all_guesses) (defScope s_all_guesses) .none kV25 dc25 pm25 an25 cd25 ct25), sl25⟩) (c25 : PySem.W.codeIn K cd25 "all_guesses" = true) (k25 : PySem.W.keepIn K (.ref f25) = true)
    {od26 an26 : Option Addr} {sl26 : Array (Option Value)} {oc26 kV26 dc26 pm26 cd26 ct26 : Value}
    (a26 : PySem.W.nsIn K mainGlobals "law" = some (some (.ref f26))) (l26 : K.lookup f26 = some ⟨oc26, od26, .func (PySem.W.fnOf "law" "law" (defArgs s_law) (defBody s_law) (defScope s_law) .none kV26 dc26 pm26 an26 cd26 ct26), sl26⟩) (c26 : PySem.W.codeIn K cd26 "law" = true) (k26 : PySem.W.keepIn K (.ref f26) = true)
    (z0 : PySem.W.nsIn K mainGlobals "range" = some none)
    (z1 : PySem.W.nsIn K mainGlobals "tuple" = some none)
    (z2 : PySem.W.nsIn K mainGlobals "isinstance" = some none)
    (z3 : PySem.W.nsIn K mainGlobals "len" = some none)
    (z4 : PySem.W.nsIn K mainGlobals "zip" = some none)
    (z5 : PySem.W.nsIn K mainGlobals "enumerate" = some none)
    (z6 : PySem.W.nsIn K mainGlobals "all" = some none)
    (z7 : PySem.W.nsIn K mainGlobals "bool" = some none)
    (z8 : PySem.W.nsIn K mainGlobals "int" = some none)
    (z9 : PySem.W.nsIn K mainGlobals "list" = some none)
    (z10 : PySem.W.nsIn K mainGlobals "set" = some none)
    (z11 : PySem.W.nsIn K mainGlobals "max" = some none) :
    ∃ fd : FuncData, (∀ (s : Shared) (v : Value), BindsTo s fd ⟨[v], []⟩ [("_law_script", v)]) ∧ ∀ base : Heap, K.In base → base.Ns mainGlobals mg → FnOk l.prog w K mg base (L2.CX l.prog w) 13 fa fd ["_law_script"] (spLaw K) := by
  have e := hfa.symm.trans (PySem.W.mg_of X G a26)
  cases e
  have z_range := PySem.W.mg_none_of X G z0
  have z_tuple := PySem.W.mg_none_of X G z1
  have z_isinstance := PySem.W.mg_none_of X G z2
  have z_len := PySem.W.mg_none_of X G z3
  have z_zip := PySem.W.mg_none_of X G z4
  have z_enumerate := PySem.W.mg_none_of X G z5
  have z_all := PySem.W.mg_none_of X G z6
  have z_bool := PySem.W.mg_none_of X G z7
  have z_int := PySem.W.mg_none_of X G z8
  have z_list := PySem.W.mg_none_of X G z9
  have z_set := PySem.W.mg_none_of X G z10
  have z_max := PySem.W.mg_none_of X G z11
  have U_law_names := fun_mk (st := s_law_names) l0 c0 k0
  have b_law_names := U_law_names.binds (ps := ["_law_cell"]) fun _ _ _ _ _ _ us hl => match us, hl with | [_], _ => rfl
  have U_law_all := fun_mk (st := s_law_all) l1 c1 k1
  have b_law_all := U_law_all.binds (ps := ["_law_saying"]) fun _ _ _ _ _ _ us hl => match us, hl with | [_], _ => rfl
  have U_law_bonds := fun_mk (st := s_law_bonds) l2 c2 k2
  have b_law_bonds := U_law_bonds.binds (ps := ["_law_saying"]) fun _ _ _ _ _ _ us hl => match us, hl with | [_], _ => rfl
  have U_law_fit := fun_mk (st := s_law_fit) l3 c3 k3
  have b_law_fit := U_law_fit.binds (ps := ["_law_saying", "_law_most"]) fun _ _ _ _ _ _ us hl => match us, hl with | [_, _], _ => rfl
  have U_parts_of := fun_mk (st := s_parts_of) l4 c4 k4
  have b_parts_of := U_parts_of.binds (ps := ["saying"]) fun _ _ _ _ _ _ us hl => match us, hl with | [_], _ => rfl
  have U_again_as := fun_mk (st := s_again_as) l5 c5 k5
  have b_again_as := U_again_as.binds (ps := ["saying"]) fun _ _ _ _ _ _ us hl => match us, hl with | [_], _ => rfl
  have U_bonds_in := fun_mk (st := s_bonds_in) l6 c6 k6
  have b_bonds_in := U_bonds_in.binds (ps := ["saying"]) fun _ _ _ _ _ _ us hl => match us, hl with | [_], _ => rfl
  have U_law_draw := fun_mk (st := s_law_draw) l7 c7 k7
  have b_law_draw := U_law_draw.binds (ps := ["_law_script", "_law_spot"]) fun _ _ _ _ _ _ us hl => match us, hl with | [_, _], _ => rfl
  have U_law_marks := fun_mk (st := s_law_marks) l8 c8 k8
  have b_law_marks := U_law_marks.binds (ps := ["_law_script", "_law_spot", "_law_names_here", "_law_least"]) fun _ _ _ _ _ _ us hl => match us, hl with | [_, _, _, _], _ => rfl
  have U_law_cell_at := fun_mk (st := s_law_cell_at) l9 c9 k9
  have b_law_cell_at := U_law_cell_at.binds (ps := ["_law_script", "_law_k"]) fun _ _ _ _ _ _ us hl => match us, hl with | [_, _], _ => rfl
  have U_law_made := fun_mk (st := s_law_made) l10 c10 k10
  have b_law_made := U_law_made.binds (ps := ["_law_script", "_law_spot", "_law_names_here", "_law_deep"]) fun _ _ _ _ _ _ us hl => match us, hl with | [_, _, _, _], _ => rfl
  have U_law_till := fun_mk (st := s_law_till) l11 c11 k11
  have b_law_till := U_law_till.binds (ps := ["_law_ones", "_law_others", "_law_moments"]) fun _ _ _ _ _ _ us hl => match us, hl with | [_, _, _], _ => rfl
  have U_law_after := fun_mk (st := s_law_after) l12 c12 k12
  have b_law_after := U_law_after.binds (ps := ["_law_way", "_law_ring", "_law_at"]) fun _ _ _ _ _ _ us hl => match us, hl with | [_, _, _], _ => rfl
  have U_law_means := fun_mk (st := s_law_means) l13 c13 k13
  have b_law_means := U_law_means.binds (ps := ["_law_saying", "_law_way", "_law_ring"]) fun _ _ _ _ _ _ us hl => match us, hl with | [_, _, _], _ => rfl
  have U_is_so := fun_mk (st := s_is_so) l14 c14 k14
  have b_is_so := U_is_so.binds (ps := ["saying", "mark", "bonds", "guess"]) fun _ _ _ _ _ _ us hl => match us, hl with | [_, _, _, _], _ => rfl
  have U_is_kept := fun_mk (st := s_is_kept) l15 c15 k15
  have b_is_kept := U_is_kept.binds (ps := ["bond", "now", "then", "bonds", "k"]) fun _ _ _ _ _ _ us hl => match us, hl with | [_, _, _, _, _], _ => rfl
  have U_goes_on := fun_mk (st := s_goes_on) l16 c16 k16
  have b_goes_on := U_goes_on.binds (ps := ["bonds", "now", "then"]) fun _ _ _ _ _ _ us hl => match us, hl with | [_, _, _], _ => rfl
  have U_law_steps_right := fun_mk (st := s_law_steps_right) l17 c17 k17
  have b_law_steps_right := U_law_steps_right.binds (ps := ["_law_bonds_here", "_law_way", "_law_ring", "_law_guesses", "_law_k", "_law_moment"]) fun _ _ _ _ _ _ us hl => match us, hl with | [_, _, _, _, _, _], _ => rfl
  have U_promises_of := fun_mk (st := s_promises_of) l18 c18 k18
  have b_promises_of := U_promises_of.binds (ps := ["saying"]) fun _ _ _ _ _ _ us hl => match us, hl with | [_], _ => rfl
  have U_is_met := fun_mk (st := s_is_met) l19 c19 k19
  have b_is_met := U_is_met.binds (ps := ["promise", "mark", "bonds", "guess"]) fun _ _ _ _ _ _ us hl => match us, hl with | [_, _, _, _], _ => rfl
  have U_law_so := fun_mk (st := s_law_so) l20 c20 k20
  have b_law_so := U_law_so.binds (ps := ["_law_saying", "_law_mark", "_law_bonds_here", "_law_guess"]) fun _ _ _ _ _ _ us hl => match us, hl with | [_, _, _, _], _ => rfl
  have U_law_meets := fun_mk (st := s_law_meets) l21 c21 k21
  have b_law_meets := U_law_meets.binds (ps := ["_law_promise", "_law_mark", "_law_bonds_here", "_law_guess"]) fun _ _ _ _ _ _ us hl => match us, hl with | [_, _, _, _], _ => rfl
  have U_law_promises_right := fun_mk (st := s_law_promises_right) l22 c22 k22
  have b_law_promises_right := U_law_promises_right.binds (ps := ["_law_saying", "_law_bonds_here", "_law_way", "_law_ring", "_law_guesses", "_law_k"]) fun _ _ _ _ _ _ us hl => match us, hl with | [_, _, _, _, _, _], _ => rfl
  have U_law_guesses_right := fun_mk (st := s_law_guesses_right) l23 c23 k23
  have b_law_guesses_right := U_law_guesses_right.binds (ps := ["_law_found", "_law_many"]) fun _ _ _ _ _ _ us hl => match us, hl with | [_, _], _ => rfl
  have U_law_rows_right := fun_mk (st := s_law_rows_right) l24 c24 k24
  have b_law_rows_right := U_law_rows_right.binds (ps := ["_law_saying", "_law_bonds_here", "_law_way", "_law_ring", "_law_guesses"]) fun _ _ _ _ _ _ us hl => match us, hl with | [_, _, _, _, _], _ => rfl
  have U_all_guesses := fun_mk (st := s_all_guesses) l25 c25 k25
  have b_all_guesses := U_all_guesses.binds (ps := ["bonds"]) fun _ _ _ _ _ _ us hl => match us, hl with | [_], _ => rfl
  have U_law := fun_mk (st := s_law) l26 c26 k26
  have b_law := U_law.binds (ps := ["_law_script"]) fun _ _ _ _ _ _ us hl => match us, hl with | [_], _ => rfl
  refine ⟨PySem.W.fnOf "law" "law" (defArgs s_law) (defBody s_law) (defScope s_law) .none kV26 dc26 pm26 an26 cd26 ct26, fun s v => .of_eq rfl, fun base _ _ => ?_⟩
  let cc : Nat → Addr := fun _ => 0
  have F_law_names := ok_law_names (P := l.prog) (w := w) (base := base) (c := cc) U_law_names (PySem.W.mg_of X G a0) b_law_names z_range
  have F_law_all := ok_law_all (P := l.prog) (w := w) (base := base) (c := cc) U_law_all (PySem.W.mg_of X G a1) b_law_all z_tuple z_isinstance 7
  have F_law_bonds := ok_law_bonds (P := l.prog) (w := w) (base := base) (c := cc) U_law_bonds (PySem.W.mg_of X G a2) b_law_bonds F_law_all
  have F_law_fit := ok_law_fit (P := l.prog) (w := w) (base := base) (c := cc) U_law_fit (PySem.W.mg_of X G a3) b_law_fit z_len F_law_bonds
  have F_parts_of := ok_parts_of (P := l.prog) (w := w) (base := base) (c := cc) U_parts_of (PySem.W.mg_of X G a4) b_parts_of z_tuple z_isinstance
  have F_again_as := ok_again_as (P := l.prog) (w := w) (base := base) (c := cc) U_again_as (PySem.W.mg_of X G a5) b_again_as 
  have F_bonds_in := ok_bonds_in (P := l.prog) (w := w) (base := base) (c := cc) U_bonds_in (PySem.W.mg_of X G a6) b_bonds_in F_parts_of F_again_as 7
  have F_law_draw := ok_law_draw (P := l.prog) (w := w) (base := base) (c := cc) U_law_draw (PySem.W.mg_of X G a7) b_law_draw z_len
  have F_law_marks := ok_law_marks (P := l.prog) (w := w) (base := base) (c := cc) U_law_marks (PySem.W.mg_of X G a8) b_law_marks z_range F_law_draw
  have F_law_cell_at := ok_law_cell_at (P := l.prog) (w := w) (base := base) (c := cc) U_law_cell_at (PySem.W.mg_of X G a9) b_law_cell_at z_len
  have F_law_made := ok_law_made (P := l.prog) (w := w) (base := base) (c := cc) U_law_made (PySem.W.mg_of X G a10) b_law_made F_law_draw 6
  have F_law_till := ok_law_till (P := l.prog) (w := w) (base := base) (c := cc) U_law_till (PySem.W.mg_of X G a11) b_law_till 
  have F_law_after := ok_law_after (P := l.prog) (w := w) (base := base) (c := cc) U_law_after (PySem.W.mg_of X G a12) b_law_after z_len z_range
  have F_law_means := ok_law_means (P := l.prog) (w := w) (base := base) (c := cc) U_law_means (PySem.W.mg_of X G a13) b_law_means z_zip z_len z_range F_law_after F_law_till 8
  have F_is_so := ok_is_so (P := l.prog) (w := w) (base := base) (c := cc) U_is_so (PySem.W.mg_of X G a14) b_is_so F_again_as 8
  have F_is_kept := ok_is_kept (P := l.prog) (w := w) (base := base) (c := cc) U_is_kept (PySem.W.mg_of X G a15) b_is_kept F_is_so
  have F_goes_on := ok_goes_on (P := l.prog) (w := w) (base := base) (c := cc) U_goes_on (PySem.W.mg_of X G a16) b_goes_on z_enumerate z_all F_is_kept
  have F_law_steps_right := ok_law_steps_right (P := l.prog) (w := w) (base := base) (c := cc) U_law_steps_right (PySem.W.mg_of X G a17) b_law_steps_right z_len z_range z_bool z_isinstance F_law_after F_goes_on
  have F_promises_of := ok_promises_of (P := l.prog) (w := w) (base := base) (c := cc) U_promises_of (PySem.W.mg_of X G a18) b_promises_of F_bonds_in
  have F_is_met := ok_is_met (P := l.prog) (w := w) (base := base) (c := cc) U_is_met (PySem.W.mg_of X G a19) b_is_met F_is_so
  have F_law_so := ok_law_so (P := l.prog) (w := w) (base := base) (c := cc) U_law_so (PySem.W.mg_of X G a20) b_law_so z_int 8
  have F_law_meets := ok_law_meets (P := l.prog) (w := w) (base := base) (c := cc) U_law_meets (PySem.W.mg_of X G a21) b_law_meets F_law_so
  have F_law_promises_right := ok_law_promises_right (P := l.prog) (w := w) (base := base) (c := cc) U_law_promises_right (PySem.W.mg_of X G a22) b_law_promises_right z_list z_isinstance z_len z_range z_tuple z_bool F_promises_of F_is_met F_law_meets
  have F_law_guesses_right := ok_law_guesses_right (P := l.prog) (w := w) (base := base) (c := cc) U_law_guesses_right (PySem.W.mg_of X G a23) b_law_guesses_right z_len z_set z_list z_isinstance z_bool z_tuple
  have F_law_rows_right := ok_law_rows_right (P := l.prog) (w := w) (base := base) (c := cc) U_law_rows_right (PySem.W.mg_of X G a24) b_law_rows_right z_len z_range z_bool z_isinstance F_law_all F_law_means F_is_so
  have F_all_guesses := ok_all_guesses (P := l.prog) (w := w) (base := base) (c := cc) U_all_guesses (PySem.W.mg_of X G a25) b_all_guesses 
  have FL := fn_ok (P := l.prog) (w := w) (mg := mg) (base := base) (c := cc) none U_law sc_law fun cdv A outer s H E hr => dv_law hr z_len z_range z_tuple z_max F_law_cell_at F_law_names F_law_made F_law_fit F_bonds_in F_law_marks F_law_means F_law_rows_right F_all_guesses F_law_guesses_right F_law_draw F_law_steps_right F_law_promises_right
  exact FL.imp fun vs H Q E hq => law_sp (fn := f_law) LT hq
section

end
end LawX

set_option Elab.async false
set_option linter.all false
set_option autoImplicit false
set_option maxRecDepth 100000
namespace LawX
open PySem L2 VL
/-! ### draws -/
theorem cell_at_eq (ns : List Int) (k : Nat) : f_law_cell_at [.scr ns, .py (.int k)] = some (.ok (py (.int (ns.getD k 0))) .none) := by
  unfold f_law_cell_at b_law_cell_at
  rw [fnOf_eq]
  by_cases h : k < ns.length
  · simp [h]
  · simp [h]
def drawV (ns : List Int) (k : Nat) : Int := if k < ns.length then ns.getD k 0 else if 4 < ns.length ∧ k < 50 then (ns.getD (k % ns.length) 0 + 7919 * k) * 48271 % 1000003 else 0
theorem draw_eq (ns : List Int) (k : Nat) : f_law_draw [.scr ns, .py (.list [.int k])] = some (.ok (py (.int (drawV ns k))) (.list [.int (k + 1 : Nat)])) := by
  unfold f_law_draw b_law_draw
  rw [fnOf_eq]
  by_cases h : k < ns.length
  · simp [h, drawV]
  · by_cases h2 : 4 < ns.length
    · have h2' : (4 : Int) < (ns.length : Int) := by omega
      have hm : k % ns.length < ns.length := Nat.mod_lt _ (by omega)
      have ha : L2.atI ns ((k : Int) % (ns.length : Int)) = some (ns.getD (k % ns.length) 0) := by
        rw [show ((k : Int) % (ns.length : Int)) = ((k % ns.length : Nat) : Int) by omega, atI_coe, List.getElem?_eq_getElem hm]
        simp [hm]
      have hp : 0 < ns.length := by omega
      by_cases h3 : k < 50
      · have h3' : (k : Int) < 50 := by omega
        simp [h, h2, h2', h3, h3', drawV, hp, ha]
      · have h3' : ¬ (k : Int) < 50 := by omega
        simp [h, h2, h2', h3, h3', drawV]
    · have h2' : ¬ (4 : Int) < (ns.length : Int) := by omega
      simp [h, h2, h2', drawV]
/-! ### the three marks -/
def letters : Str := Str.ofString "abcdefghijklmnopqrstuvwxyz"
theorem letters_len : letters.length = 26 := by decide +kernel
theorem letters_len' : letters.cps.toList.length = 26 := by decide +kernel
def lt (i : Int) : Nat := letters.cps.toList.getD (i % 26).toNat 97
theorem lt_at (i : Int) : L2.atI letters.cps.toList (i % 26) = some (lt i) := by
  have h1 : 0 ≤ i % 26 := Int.emod_nonneg i (by decide)
  have h2 : i % 26 < 26 := Int.emod_lt_of_pos i (by decide)
  rw [atI_nn h1, List.getElem?_eq_getElem (by rw [letters_len']; omega)]
  unfold lt
  rw [List.getD_eq_getElem?_getD, List.getElem?_eq_getElem (by rw [letters_len']; omega)]
  rfl
def restOf (c : Int) : Str := ⟨((List.range 6).map fun j : Nat => lt (c / 7 + 5 * j)).toArray⟩
theorem rest_len (c : Int) : (restOf c).length = 6 := by simp [restOf, Str.length]
def cutN (s : Str) (a b : Nat) : Str := ⟨((s.cps.toList.take b).drop a).toArray⟩
def namesOf (c : Int) : List Str :=
  if c % 3 = 2 then [cutN (restOf c) 0 (1 + c / 3 % 4).toNat, cutN (restOf c) 0 (1 + c / 3 % 4 + 1).toNat, cutN (restOf c) 0 (1 + c / 3 % 4 + 2).toNat]
  else [0, 1, 2].map fun k : Int => cutN (restOf c) 0 (c / 18 % (c / 3 % 6 + 1)).toNat ++ ⟨#[lt (c / 90 + 7 * k)]⟩ ++ cutN (restOf c) (c / 18 % (c / 3 % 6 + 1)).toNat (c / 3 % 6).toNat
theorem cutS_to {z : Str} {v : Int} (h : 0 ≤ v) : cutS z none (some v) = cutN z 0 v.toNat := by
  rw [cutS_eq, cut_to h]
  rfl
theorem cutS_mid {z : Str} {u v : Int} (h : 0 ≤ u) (h2 : 0 ≤ v) : cutS z (some u) (some v) = cutN z u.toNat v.toNat := by
  rw [cutS_eq, cut_mid h h2]
  rfl
theorem cutN_len (z : Str) (a b : Nat) : (cutN z a b).length ≤ z.length := by
  unfold cutN Str.length
  rw [List.size_toArray, List.length_drop, List.length_take, Array.length_toList]
  omega
theorem app_len (a b : Str) : (a ++ b).length = a.length + b.length := Str.length_append a b
theorem one_len (n : Nat) : (⟨#[n]⟩ : Str).length = 1 := rfl
theorem names_eq (c : Int) : f_law_names [.py (.int c)] = some (.ok (.own (.list ((namesOf c).map .str)) false) .none) := by
  unfold f_law_names b_law_names
  rw [fnOf_eq]
  have hl : letters.length ≤ big := by rw [letters_len]; decide
  have e0 : Str.ofString "abcdefghijklmnopqrstuvwxyz" = letters := rfl
  rw [e0]
  simp
  rw [comp_pure (List.range 6) (fun i => .int (i : Nat)) (fun i => .str ⟨#[lt (c / 7 + 5 * (i : Nat))]⟩) (by simp [inRng, intsD_zero]) (by decide) rfl (by simp [lt_at, hl])]
  have ej : Txt.join (Str.ofString "") ((List.range 6).map fun i : Nat => (⟨#[lt (c / 7 + 5 * (i : Nat))]⟩ : Str)) = restOf c := by
    have := tjoin_signs ((List.range 6).map fun i : Nat => lt (c / 7 + 5 * (i : Nat)))
    rw [List.map_map] at this
    exact this
  have em : (List.range 6).map (fun i : Nat => PyData.str ⟨#[lt (c / 7 + 5 * (i : Nat))]⟩) = ((List.range 6).map fun i : Nat => (⟨#[lt (c / 7 + 5 * (i : Nat))]⟩ : Str)).map .str := by rw [List.map_map]; rfl
  rw [em]
  have hs : ((((List.range 6).map fun i : Nat => (⟨#[lt (c / 7 + 5 * (i : Nat))]⟩ : Str)).map (·.length)).sum + ((List.range 6).map fun i : Nat => (⟨#[lt (c / 7 + 5 * (i : Nat))]⟩ : Str)).length * (Str.ofString "").length) ≤ big := by
    rw [List.map_map]
    have : (List.range 6).map (Str.length ∘ fun i : Nat => (⟨#[lt (c / 7 + 5 * (i : Nat))]⟩ : Str)) = [1, 1, 1, 1, 1, 1] := rfl
    rw [this, show (Str.ofString "").length = 0 by decide +kernel]
    simp [big]
  simp only [evM_ok, kM3_ap, oJoin_by, rd_py, rd_own, by2_some, dJoin_list, if_pos hs, ej, out_some]
  have hr := rest_len c
  generalize hz : restOf c = z at *
  have hz6 : z.length ≤ big := by rw [hr]; decide
  have p1 : 0 ≤ c / 3 % 4 := Int.emod_nonneg _ (by decide)
  have p2 : 0 ≤ c / 3 % 6 := Int.emod_nonneg _ (by decide)
  have p3 : 0 < c / 3 % 6 + 1 := by omega
  have p4 : 0 ≤ c / 18 % (c / 3 % 6 + 1) := Int.emod_nonneg _ (by omega)
  by_cases h : c % 3 = 2
  · have hb : (c % 3 == 2) = true := by simpa using h
    simp [hb]
    rw [comp_pure (List.range 3) (fun i => .int (i : Nat)) (fun i => .str (cutN z 0 (1 + c / 3 % 4 + (i : Nat)).toNat)) (by simp [inRng, intsD_zero]) (by decide) rfl (by
      intro x hx
      have : (0 : Int) ≤ 1 + c / 3 % 4 + (x : Nat) := by omega
      simp [hz6, cutS_to this])]
    simp [namesOf, h, hz, List.range_succ]
  · have hb : (c % 3 == 2) = false := by simpa using h
    have q1 := cutN_len z 0 (c / 18 % (c / 3 % 6 + 1)).toNat
    have q2 := cutN_len z (c / 18 % (c / 3 % 6 + 1)).toNat (c / 3 % 6).toNat
    have q3 : (cutN z 0 (c / 18 % (c / 3 % 6 + 1)).toNat).length + 1 ≤ big := by simp only [big]; omega
    have q4 : (cutN z 0 (c / 18 % (c / 3 % 6 + 1)).toNat).length + 1 + (cutN z (c / 18 % (c / 3 % 6 + 1)).toNat (c / 3 % 6).toNat).length ≤ big := by simp only [big]; omega
    simp [hb, p3, inRng, intsD_succ, lt_at, hl, hz6, cutS_to p4, cutS_mid p4 p2, app_len, one_len, q3, q4, namesOf, h, hz, big]
end LawX

set_option Elab.async false
set_option linter.all false
set_option autoImplicit false
set_option maxRecDepth 100000
namespace LawX
open PySem L2 VL Ltl
abbrev Sy := Say Str
def enc : Sy → PyData
  | .mark m => .tuple [.str (Str.ofString "mark"), .str m]
  | .yes => .tuple [.str (Str.ofString "yes")]
  | .not s => .tuple [.str (Str.ofString "not"), enc s]
  | .and s t => .tuple [.str (Str.ofString "and"), enc s, enc t]
  | .or s t => .tuple [.str (Str.ofString "or"), enc s, enc t]
  | .next s => .tuple [.str (Str.ofString "next"), enc s]
  | .till s t => .tuple [.str (Str.ofString "till"), enc s, enc t]
  | .always s => .tuple [.str (Str.ofString "always"), enc s]
  | .again s => .tuple [.str (Str.ofString "again"), enc s]
def deep : Sy → Nat
  | .mark _ => 1
  | .yes => 1
  | .not s => deep s + 1
  | .and s t => max (deep s) (deep t) + 1
  | .or s t => max (deep s) (deep t) + 1
  | .next s => deep s + 1
  | .till s t => max (deep s) (deep t) + 1
  | .always s => deep s + 1
  | .again s => deep s + 1
def leafOf (names : List Str) (more : Int) : Sy := if more % 9 = 4 then .yes else .mark (names.getD (more % 3).toNat ⟨#[]⟩)
def kindOf (i : Int) (one two : Sy) : Sy :=
  if i = 2 then .not one else if i = 3 then .and one two else if i = 4 then .or one two else if i = 5 then .next one else if i = 6 then .till one two else if i = 7 then .always one
  else if i = 8 then .again one else if i = 9 then .till one two else if i = 10 then .always one else if i = 11 then .next one else .not one
def isTwo (i : Int) : Bool := decide (i = 3 ∨ i = 4 ∨ i = 6 ∨ i = 9)
def madeS (ns : List Int) (names : List Str) : Nat → Nat → Sy × Nat
  | 0, k => (leafOf names (drawV ns k / 13), k + 1)
  | d + 1, k =>
    if d = 0 ∨ drawV ns k % 13 < 2 then (leafOf names (drawV ns k / 13), k + 1)
    else if isTwo (drawV ns k % 13) = true then (kindOf (drawV ns k % 13) (madeS ns names d (k + 1)).1 (madeS ns names d (madeS ns names d (k + 1)).2).1, (madeS ns names d (madeS ns names d (k + 1)).2).2)
    else (kindOf (drawV ns k % 13) (madeS ns names d (k + 1)).1 .yes, (madeS ns names d (k + 1)).2)
theorem split_eq : Txt.split (Str.ofString "not and or next till always again till always next not") (Str.ofString " ") = [Str.ofString "not", Str.ofString "and", Str.ofString "or", Str.ofString "next", Str.ofString "till", Str.ofString "always", Str.ofString "again", Str.ofString "till", Str.ofString "always", Str.ofString "next", Str.ofString "not"] := by decide +kernel
theorem name_at {names : List Str} (h3 : names.length = 3) (i : Int) : L2.atI (names.map PyData.str) (i % 3) = some (.str (names.getD (i % 3).toNat ⟨#[]⟩)) := by
  have h1 : 0 ≤ i % 3 := Int.emod_nonneg i (by decide)
  have h2 : i % 3 < 3 := Int.emod_lt_of_pos i (by decide)
  rw [atI_nn h1, List.getElem?_map, List.getElem?_eq_getElem (by omega), List.getD_eq_getElem?_getD, List.getElem?_eq_getElem (by omega)]
  rfl
theorem made_eq (ns : List Int) {names : List Str} (h3 : names.length = 3) : ∀ (d n k : Nat), d ≤ n → f_law_made (n + 1) [.scr ns, .py (.list [.int k]), .py (.list (names.map .str)), .py (.int d)] = some (.ok (py (enc (madeS ns names d k).1)) (.list [.int ((madeS ns names d k).2 : Nat)])) := by
  intro d
  induction d with
  | zero =>
    intro n k _
    show fnOf 9 (some 1) (b_law_made (f_law_made n)) _ = _
    rw [fnOf_eq]
    unfold b_law_made
    by_cases h : drawV ns k / 13 % 9 = 4
    · have hb : (drawV ns k / 13 % 9 == 4) = true := by simpa using h
      simp [draw_eq, hb, madeS, leafOf, h, enc]
    · have hb : (drawV ns k / 13 % 9 == 4) = false := by simpa using h
      simp [draw_eq, hb, madeS, leafOf, h, enc, name_at h3]
  | succ d ih =>
    intro n k hn
    show fnOf 9 (some 1) (b_law_made (f_law_made n)) _ = _
    rw [fnOf_eq]
    unfold b_law_made
    by_cases hl : d = 0 ∨ drawV ns k % 13 < 2
    · have hl' : d = 0 ∨ drawV ns k % 13 < 2 := hl
      have hb : ((d : Int) + 1 < 2 ∨ drawV ns k % 13 < 2) := by omega
      by_cases h : drawV ns k / 13 % 9 = 4
      · have hb4 : (drawV ns k / 13 % 9 == 4) = true := by simpa using h
        rcases Int.lt_or_le (↑d + 1) 2 with g | g
        · have g2 : ((d + 1 : Nat) : Int) < 2 := by omega
          simp [draw_eq, hb4, madeS, leafOf, h, enc, hl, g, g2]
        · have g2 : ¬ ((d + 1 : Nat) : Int) < 2 := by omega
          have g3 : ¬ ((d : Int) + 1 < 2) := by omega
          have g4 : drawV ns k % 13 < 2 := by omega
          simp [draw_eq, hb4, madeS, leafOf, h, enc, hl, g, g2, g3, g4]
      · have hb4 : (drawV ns k / 13 % 9 == 4) = false := by simpa using h
        rcases Int.lt_or_le (↑d + 1) 2 with g | g
        · have g2 : ((d + 1 : Nat) : Int) < 2 := by omega
          simp [draw_eq, hb4, madeS, leafOf, h, enc, hl, g, g2, name_at h3]
        · have g2 : ¬ ((d + 1 : Nat) : Int) < 2 := by omega
          have g3 : ¬ ((d : Int) + 1 < 2) := by omega
          have g4 : drawV ns k % 13 < 2 := by omega
          simp [draw_eq, hb4, madeS, leafOf, h, enc, hl, g, g2, g3, g4, name_at h3]
    · obtain ⟨n, rfl⟩ : ∃ m, n = m + 1 := ⟨n - 1, by omega⟩
      have ih1 := ih n (k + 1) (by omega)
      have ih2 := ih n (madeS ns names d (k + 1)).2 (by omega)
      generalize f_law_made (n + 1) = g at ih1 ih2
      generalize e1 : madeS ns names d (k + 1) = r1 at ih1 ih2
      obtain ⟨s1, k1⟩ := r1
      generalize e2 : madeS ns names d k1 = r2 at ih2
      obtain ⟨s2, k2⟩ := r2
      have g1 : ¬ ((d : Int) + 1 < 2) := by omega
      have h0 : ¬ d = 0 := by omega
      have hL : ¬ (Str.ofString " ").length = 0 ∧ (Str.ofString "not and or next till always again till always next not").length + 2 ≤ big := ⟨by decide +kernel, by decide +kernel⟩
      have g2 : ¬ (drawV ns k % 13 < 2) := by omega
      have hd : ((d : Int) + 1 - 1) = d := by omega
      simp at ih1 ih2
      have hr : drawV ns k % 13 = 2 ∨ drawV ns k % 13 = 3 ∨ drawV ns k % 13 = 4 ∨ drawV ns k % 13 = 5 ∨ drawV ns k % 13 = 6 ∨ drawV ns k % 13 = 7 ∨ drawV ns k % 13 = 8 ∨ drawV ns k % 13 = 9 ∨ drawV ns k % 13 = 10 ∨ drawV ns k % 13 = 11 ∨ drawV ns k % 13 = 12 := by omega
      rcases hr with hr | hr | hr | hr | hr | hr | hr | hr | hr | hr | hr <;>
        simp [draw_eq, madeS, h0, e1, e2, g1, hr, hL, hd, ih1, ih2, split_eq, isTwo, kindOf, enc, inOk, memP, flatP, eqv_str]
end LawX

set_option Elab.async false
set_option linter.all false
set_option autoImplicit false
set_option maxRecDepth 100000
namespace LawX
open PySem L2 VL Ltl
def good (s : Str) : Bool := (PyData.str s).canLay0
theorem good_iff {s : Str} : good s = true ↔ ∀ n ∈ s.cps.toList, n < 0x110000 := by
  unfold good
  simp only [PyData.canLay0, PyData.strOk, Array.all_eq_true_iff_forall_mem]
  simp
theorem app_list (a b : Str) : (a ++ b).cps.toList = a.cps.toList ++ b.cps.toList := by
  show (a.cps ++ b.cps).toList = _
  rw [Array.toList_append]
theorem good_app {a b : Str} (h1 : good a = true) (h2 : good b = true) : good (a ++ b) = true := by
  rw [good_iff] at *
  intro n hn
  rw [app_list, List.mem_append] at hn
  exact hn.elim (h1 n) (h2 n)
theorem good_cut {a : Str} {i j : Nat} (h1 : good a = true) : good (cutN a i j) = true := by
  rw [good_iff] at *
  intro n hn
  exact h1 n (List.mem_of_mem_take (List.mem_of_mem_drop hn))
theorem good_lt (i : Int) : lt i < 0x110000 := by
  have h1 : ∀ n ∈ letters.cps.toList, n < 0x110000 := by decide +kernel
  unfold lt
  rw [List.getD_eq_getElem?_getD]
  cases e : letters.cps.toList[(i % 26).toNat]? with
  | none => decide
  | some n => exact h1 n (List.mem_of_getElem? e)
theorem good_rest (c : Int) : good (restOf c) = true := by
  rw [good_iff]
  intro n hn
  simp only [restOf, List.mem_map] at hn
  obtain ⟨j, _, rfl⟩ := hn
  exact good_lt _
theorem good_one (i : Int) : good ⟨#[lt i]⟩ = true := by
  rw [good_iff]
  intro n hn
  simp at hn
  subst hn
  exact good_lt _
theorem names_len (c : Int) : (namesOf c).length = 3 := by
  unfold namesOf
  split <;> rfl
theorem names_good (c : Int) : ∀ s ∈ namesOf c, good s = true ∧ s.length ≤ 100 := by
  have hr := rest_len c
  intro s hs
  unfold namesOf at hs
  split at hs
  · simp only [List.mem_cons, List.not_mem_nil, or_false] at hs
    rcases hs with rfl | rfl | rfl <;> exact ⟨good_cut (good_rest c), Nat.le_trans (cutN_len _ _ _) (by omega)⟩
  · simp only [List.mem_map] at hs
    obtain ⟨j, _, rfl⟩ := hs
    refine ⟨good_app (good_app (good_cut (good_rest c)) (good_one _)) (good_cut (good_rest c)), ?_⟩
    rw [app_len, app_len, one_len]
    have := cutN_len (restOf c) 0 (c / 18 % (c / 3 % 6 + 1)).toNat
    have := cutN_len (restOf c) (c / 18 % (c / 3 % 6 + 1)).toNat (c / 3 % 6).toNat
    omega
theorem some_at {so : List Str} (h8 : so.length = 8) (i : Int) : L2.atI (so.map PyData.str) (i % 8) = some (.str (so.getD (i % 8).toNat ⟨#[]⟩)) := by
  have h1 : 0 ≤ i % 8 := Int.emod_nonneg i (by decide)
  have h2 : i % 8 < 8 := Int.emod_lt_of_pos i (by decide)
  rw [atI_nn h1, List.getElem?_map, List.getElem?_eq_getElem (by omega), List.getD_eq_getElem?_getD, List.getElem?_eq_getElem (by omega)]
  rfl
theorem some_in {so : List Str} (h8 : so.length = 8) (i : Int) : so.getD (i % 8).toNat ⟨#[]⟩ ∈ so := by
  have h1 : 0 ≤ i % 8 := Int.emod_nonneg i (by decide)
  have h2 : i % 8 < 8 := Int.emod_lt_of_pos i (by decide)
  rw [List.getD_eq_getElem?_getD, List.getElem?_eq_getElem (by omega)]
  exact List.getElem_mem _
theorem mapAcc_str {γ β : Type} (f : γ → β → Str × γ) : ∀ (xs : List β) (s : γ), ∃ ms : List Str, (mapAcc (fun s x => (PyData.str (f s x).1, (f s x).2)) s xs).1 = ms.map .str ∧ ms.length = xs.length ∧ ∀ m ∈ ms, ∃ s x, m = (f s x).1
  | [], s => ⟨[], rfl, rfl, by simp⟩
  | x :: xs, s => by
    obtain ⟨ms, h1, h2, h3⟩ := mapAcc_str f xs (f s x).2
    refine ⟨(f s x).1 :: ms, by simp [mapAcc, h1], by simp [h2], ?_⟩
    intro m hm
    rcases List.mem_cons.mp hm with rfl | hm
    · exact ⟨s, x, rfl⟩
    · exact h3 m hm
def so8 (a b z : Str) : List Str := [a, b, z, Str.ofString "", cutN z 0 1 ++ Str.ofString "zq", a, b, z]
theorem so8_good {a b z : Str} (ha : good a = true) (hb : good b = true) (hz : good z = true) : ∀ s ∈ so8 a b z, good s = true := by
  have h1 : good (cutN z 0 1 ++ Str.ofString "zq") = true := good_app (good_cut hz) (by decide +kernel)
  have h0 : good (Str.ofString "") = true := by decide +kernel
  intro s hs
  simp only [so8, List.mem_cons, List.not_mem_nil, or_false] at hs
  rcases hs with rfl | rfl | rfl | rfl | rfl | rfl | rfl | rfl <;> assumption
theorem marks_eq (ns : List Int) {names : List Str} (h3 : names.length = 3) (hg : ∀ s ∈ names, good s = true ∧ s.length ≤ 100) {m : Nat} (hm : m ≤ 1) (k : Nat) :
    ∃ (ms : List Str) (k' : Nat), f_law_marks [.scr ns, .py (.list [.int k]), .py (.list (names.map .str)), .py (.int m)] = some (.ok (.own (.list (ms.map .str)) false) (.list [.int (k' : Nat)])) ∧ m ≤ ms.length ∧ ms.length ≤ m + 3 ∧ ∀ s ∈ ms, good s = true := by
  obtain ⟨a, b, z, rfl⟩ : ∃ a b z, names = [a, b, z] := by
    match names, h3 with
    | [a, b, z], _ => exact ⟨a, b, z, rfl⟩
  have ga := hg a (by simp)
  have gb := hg b (by simp)
  have gz := hg z (by simp)
  have hso : (so8 a b z).length = 8 := rfl
  have hgs := so8_good ga.1 gb.1 gz.1
  have hz : z.length ≤ big := by have := gz.2; simp only [big]; omega
  have hc : (cutN z 0 1).length + (Str.ofString "zq").length ≤ big := by
    have := cutN_len z 0 1
    have h2 : (Str.ofString "zq").length = 2 := by decide +kernel
    have := gz.2
    simp only [big]
    omega
  have c0 : cutS z none (some 1) = cutN z 0 1 := cutS_to (by decide)
  obtain ⟨L, hL⟩ : ∃ L : Nat, (m : Int) + drawV ns k % 4 = L ∧ m ≤ L ∧ L ≤ m + 3 := ⟨m + (drawV ns k % 4).toNat, by omega, by omega, by omega⟩
  unfold f_law_marks b_law_marks
  rw [fnOf_eq]
  let nm : PyData := .list ([a, b, z].map .str)
  let envA : Nat → DEnv := fun k => [some (.sh (.scr ns)), some (.own (.list [.int k]) true), some (.sh (.py nm)), some (.sh (.py (.int m))), some (.sh (.py (.list ((so8 a b z).map .str)))), none]
  let f : Nat → Nat → Str × Nat := fun k _ => ((so8 a b z).getD (drawV ns k % 8).toNat ⟨#[]⟩, k + 1)
  obtain ⟨ms, e1, e2, e3⟩ := mapAcc_str f (List.range L) (k + 1)
  refine ⟨ms, (mapAcc (fun s x => (PyData.str (f s x).1, (f s x).2)) (k + 1) (List.range L)).2, ?_, by rw [e2, List.length_range]; exact hL.2.1, by rw [e2, List.length_range]; exact hL.2.2, fun s hs => by
    obtain ⟨s', x, rfl⟩ := e3 s hs
    exact hgs _ (some_in hso _)⟩
  have e4 : (.str (Str.ofString "") : PyData) = .str (Str.ofString "") := rfl
  simp [hz, hc, c0, big]
  have key := comp_acc (vs := [5]) (tt := ret true) (tg := gNm 5) (te := f2 oIx (fVar 4) (f2 oMod (fCall 2 (some 1) f_law_draw (fCons (fVar 0) (fCons (fVar 1) fNil))) (fC (.int 8)))) (src := bnd (fCons (f2 oAdd (fVar 3) (f2 oMod (fCall 2 (some 1) f_law_draw (fCons (fVar 0) (fCons (fVar 1) fNil))) (fC (.int 4)))) fNil) rng1)
    (ρ := envA k) envA envA (List.range L) (fun i => .int (i : Nat)) (fun s x => (PyData.str (f s x).1, (f s x).2)) (fun _ => True) (k + 1) trivial ?_ ?_ rfl rfl ?_ ?_
  · have key := key.1
    simp only [envA, nm, so8, List.map_cons, List.map_nil] at key
    rw [key]
    simp [e1]
  · simp [envA, draw_eq, hL.1, inRng, intsD_zero]
    omega
  · rw [List.length_range]
    have := hL.2.2
    simp only [big]
    omega
  · intro x hx s _
    refine ⟨trivial, ?_⟩
    simp [envA, draw_eq, some_at hso, f]
  · simp [envA, putBack]
end LawX

set_option Elab.async false
set_option linter.all false
set_option autoImplicit false
set_option maxRecDepth 100000
namespace LawX
open PySem L2 VL Ltl
abbrev strL (l : List Str) : PyData := .list (l.map .str)
abbrev boolL (l : List Bool) : PyData := .list (l.map .bool)
theorem atB {bs : List Bool} {i : Nat} (h : i < bs.length) : (bs.map PyData.bool)[i]? = some (.bool (getB bs i)) := by
  rw [List.getElem?_map, List.getElem?_eq_getElem h]
  unfold getB
  rw [List.getD_eq_getElem?_getD, List.getElem?_eq_getElem h]
  rfl
def loc (o : Option Nat) : Option Ent := o.map fun i => py (.int (i : Nat))
@[simp] theorem loc_none : loc none = none := rfl
@[simp] theorem loc_some (i : Nat) : loc (some i) = some (py (.int i)) := rfl
end LawX

set_option Elab.async false
set_option linter.all false
set_option autoImplicit false
set_option maxRecDepth 100000
namespace LawX
open PySem L2 VL Ltl
theorem getB_map {α : Type} (l : List α) (f : α → Bool) (d : α) {i : Nat} (h : i < l.length) : getB (l.map f) i = f (l.getD i d) := by
  unfold getB
  rw [List.getD_eq_getElem?_getD, List.getElem?_map, List.getD_eq_getElem?_getD, List.getElem?_eq_getElem h]
  rfl
theorem getB_range {n : Nat} (f : Nat → Bool) {i : Nat} (h : i < n) : getB ((List.range n).map f) i = f i := by
  rw [getB_map _ _ 0 (by simpa using h), List.getD_eq_getElem?_getD, List.getElem?_range h]
  rfl
theorem pairs_bool : ∀ a b : List Bool, pairs (a.map .bool) (b.map .bool) = (a.zip b).map fun z => PyData.tuple [.bool z.1, .bool z.2]
  | [], _ => by simp [pairs]
  | _ :: _, [] => by simp [pairs]
  | x :: a, y :: b => by
    have := pairs_bool a b
    unfold pairs at this ⊢
    simp [this]
theorem getB_zip {a b : List Bool} {f : Bool × Bool → Bool} {i : Nat} (h1 : i < a.length) (h2 : i < b.length) : getB ((a.zip b).map f) i = f (getB a i, getB b i) := by
  rw [getB_map _ _ (false, false) (by rw [List.length_zip]; omega)]
  congr 1
  unfold getB
  simp only [List.getD_eq_getElem?_getD]
  rw [List.getElem?_eq_getElem h1, List.getElem?_eq_getElem h2, List.getElem?_eq_getElem (by rw [List.length_zip]; omega)]
  simp
section
variable {W R : List Str} (hp : 0 < R.length)
abbrev wd (W R : List Str) : Nat → Str := word ⟨#[]⟩ W R
noncomputable abbrev rw_ (W R : List Str) (s : Sy) : List Bool := row (wd W R) (W.length + R.length) s
include hp in
theorem w_per (i : Nat) (hi : W.length ≤ i) : wd W R (i + R.length) = wd W R i := word_per hp i hi
theorem row_iff {s : Sy} {i : Nat} (h : i < W.length + R.length) : getB (rw_ W R s) i = true ↔ sat (wd W R) s i := by
  rw [row_get h]
  exact truth_iff
theorem row_mark (m : Str) : (W ++ R).map (fun x => x == m) = rw_ W R (.mark m) := by
  refine row_ext (by simp) fun i hi => ?_
  rw [getB_map _ _ ⟨#[]⟩ (by simpa using hi)]
  simp only [sat, wd]
  rw [word_small hi]
  exact beq_iff_eq
theorem row_yes : (W ++ R).map (fun _ => true) = rw_ W R .yes := by
  refine row_ext (by simp) fun i hi => ?_
  rw [getB_map _ _ ⟨#[]⟩ (by simpa using hi)]
  simp [sat]
theorem row_not (s : Sy) : (rw_ W R s).map (fun b => !b) = rw_ W R (.not s) := by
  refine row_ext (by simp [row_length]) fun i hi => ?_
  rw [getB_map _ _ false (by rw [row_length]; exact hi)]
  have := row_iff (s := s) hi
  unfold getB at this
  simp only [sat]
  rw [← this]
  simp
theorem row_and (s t : Sy) : ((rw_ W R s).zip (rw_ W R t)).map (fun z => z.1 && z.2) = rw_ W R (.and s t) := by
  refine row_ext (by simp [row_length]) fun i hi => ?_
  rw [getB_zip (by rw [row_length]; exact hi) (by rw [row_length]; exact hi)]
  simp only [sat, Bool.and_eq_true, row_iff hi]
theorem row_or (s t : Sy) : ((rw_ W R s).zip (rw_ W R t)).map (fun z => z.1 || z.2) = rw_ W R (.or s t) := by
  refine row_ext (by simp [row_length]) fun i hi => ?_
  rw [getB_zip (by rw [row_length]; exact hi) (by rw [row_length]; exact hi)]
  simp only [sat, Bool.or_eq_true, row_iff hi]
include hp in
theorem row_next (s : Sy) : (List.range (W.length + R.length)).map (fun i => getB (rw_ W R s) (nx W.length R.length i)) = rw_ W R (.next s) := by
  refine row_ext (by simp) fun i hi => ?_
  rw [getB_range _ hi, row_iff (nx_lt hp)]
  exact nx_per (sat_per (w_per hp) s) hi
include hp in
theorem row_till (s t : Sy) : iter (passM true (getB (rw_ W R s)) W.length R.length) (W.length + R.length) (rw_ W R t) = rw_ W R (.till s t) := by
  obtain ⟨h1, h2⟩ := mark_ok (v := true) (ok := getB (rw_ W R s)) (A := sat (wd W R) s) (B := sat (wd W R) t) hp (fun i hi => row_iff hi) (sat_per (w_per hp) s) (sat_per (w_per hp) t) row_length fun i hi => row_iff hi
  exact row_ext h1 h2
include hp in
theorem row_always (s : Sy) : iter (passM false (fun _ => true) W.length R.length) (W.length + R.length) (rw_ W R s) = rw_ W R (.always s) := by
  obtain ⟨h1, h2⟩ := mark_ok (v := false) (ok := fun _ => true) (A := fun _ => True) (B := fun i => ¬ sat (wd W R) s i) hp (fun i hi => by simp) (fun i hi => Iff.rfl) (sat_per (w_per hp) s).not row_length fun i hi => by
    rw [← row_iff hi]
    cases getB (rw_ W R s) i <;> simp
  refine row_ext h1 fun i hi => ?_
  have := h2 i hi
  simp only [sat]
  constructor
  · intro h j
    refine Classical.byContradiction fun hn => ?_
    have z := this.mpr ⟨j, hn, fun _ _ => trivial⟩
    rw [h] at z
    exact absurd z (by decide)
  · intro h
    cases e : getB (iter (passM false (fun _ => true) W.length R.length) (W.length + R.length) (rw_ W R s)) i with
    | true => rfl
    | false =>
      obtain ⟨j, hj, _⟩ := this.mp e
      exact absurd (h j) hj
include hp in
theorem again_iff (s : Sy) : ((rw_ W R s).drop W.length).any (fun b => b) = true ↔ sat (wd W R) (.again s) 0 := by
  have hl : (rw_ W R s).length = W.length + R.length := row_length
  rw [List.any_eq_true]
  constructor
  · rintro ⟨b, hb, e⟩ n
    obtain ⟨i, hi, rfl⟩ := List.getElem_of_mem hb
    rw [List.length_drop, hl] at hi
    rw [List.getElem_drop] at e
    have hs : sat (wd W R) s (W.length + i) := by
      rw [← row_iff (by omega)]
      unfold getB
      rw [List.getD_eq_getElem?_getD, List.getElem?_eq_getElem (by omega)]
      exact e
    have := (per_mul (sat_per (w_per hp) s) (i := W.length + i) (by omega) n).mpr hs
    have hn : n ≤ n * R.length := Nat.le_mul_of_pos_right n hp
    exact ⟨W.length + i + n * R.length - n, by rw [show n + (W.length + i + n * R.length - n) = W.length + i + n * R.length by omega]; exact this⟩
  · intro h
    obtain ⟨j, hj⟩ := h W.length
    have h1 := (per_red (sat_per (w_per hp) s) (W.length + j)).mpr hj
    have h2 := red_lt (q := W.length) (p := R.length) (i := W.length + j) hp
    have h3 : W.length ≤ red W.length R.length (W.length + j) := by
      unfold red
      split <;> omega
    rw [← row_iff h2] at h1
    generalize red W.length R.length (W.length + j) = x at h1 h2 h3
    refine ⟨_, ?_, h1⟩
    unfold getB
    rw [List.getD_eq_getElem?_getD, List.getElem?_eq_getElem (by omega)]
    show (rw_ W R s)[x] ∈ _
    refine List.mem_iff_getElem.mpr ⟨x - W.length, by rw [List.length_drop]; omega, ?_⟩
    rw [List.getElem_drop]
    congr 1
    omega
include hp in
theorem row_again (s : Sy) {α : Type} (l : List α) (hl : l.length = W.length + R.length) : l.map (fun _ => ((rw_ W R s).drop W.length).any fun b => b) = rw_ W R (.again s) := by
  refine row_ext (by simpa using hl) fun i hi => ?_
  have : getB (l.map (fun _ => ((rw_ W R s).drop W.length).any fun b => b)) i = ((rw_ W R s).drop W.length).any fun b => b := by
    unfold getB
    rw [List.getD_eq_getElem?_getD, List.getElem?_map, List.getElem?_eq_getElem (by omega)]
    rfl
  rw [this]
  exact again_iff hp s
end
end LawX

set_option Elab.async false
set_option linter.all false
set_option autoImplicit false
set_option maxRecDepth 100000
namespace LawX
open PySem L2 VL Ltl
def moments (q p a : Nat) : List Nat := (List.range (q + p - a)).map (a + ·) ++ (List.range p).map (q + ·)
theorem intsD_from (a n : Nat) : intsD (a : Int) 1 n = ((List.range n).map (a + ·)).map fun i : Nat => .int i := by
  unfold intsD
  rw [List.map_map]
  refine List.map_congr_left fun i _ => ?_
  show PyData.int _ = PyData.int _
  congr 1
  simp
theorem after_eq (W R : List Str) (a : Nat) (hbig : W.length + R.length ≤ 1000) (ha : a ≤ W.length + R.length) : f_law_after [.py (strL W), .py (strL R), .py (.int a)] = some (.ok (.own (.list ((moments W.length R.length a).map fun i : Nat => .int i)) false) .none) := by
  unfold f_law_after b_law_after
  rw [fnOf_eq]
  have r1 : inRng ((W.length : Int) + R.length) = true := by simp [inRng]; omega
  have r2 : inRng (a : Int) = true := by simp [inRng]; omega
  have r3 : inRng (W.length : Int) = true := by simp [inRng]; omega
  have r4 : ((W.length : Int) + R.length - a).toNat = W.length + R.length - a := by omega
  have r5 : ((W.length : Int) + R.length - W.length).toNat = R.length := by omega
  have b1 : W.length + R.length - a + R.length ≤ big := by simp only [big]; omega
  simp
  rw [comp_pure ((List.range (W.length + R.length - a)).map (a + ·)) (fun i => .int (i : Nat)) (fun i => .int (i : Nat)) (by simp [r1, r2, r4, intsD_from]) (by rw [List.length_map, List.length_range]; simp only [big]; omega) rfl (by simp)]
  simp
  rw [comp_pure ((List.range R.length).map (W.length + ·)) (fun i => .int (i : Nat)) (fun i => .int (i : Nat)) (by simp [r1, r3, r5, intsD_from]) (by rw [List.length_map, List.length_range]; simp only [big]; omega) rfl (by simp)]
  simp [b1, moments]
def tillB (a b : List Bool) : List Nat → Bool
  | [] => false
  | k :: ks => if getB b k then true else if getB a k then tillB a b ks else false
theorem law_till_eq (a b : List Bool) (ms : List Nat) (h : ∀ m ∈ ms, m < a.length ∧ m < b.length) : f_law_till [.py (boolL a), .py (boolL b), .py (.list (ms.map fun i : Nat => .int i))] = some (.ok (py (.bool (tillB a b ms))) .none) := by
  unfold f_law_till b_law_till
  rw [fnOf_eq]
  have key : ∀ (ns : List Nat) (o : Option Nat), (∀ m ∈ ns, m < a.length ∧ m < b.length) → finF none (evS (forGo (gNm 3) (sq (fIf (fB (f2 oIx (fVar 1) (fVar 3))) (fRet (fC (.bool true))) fNx) (fIf (fNotT (fB (f2 oIx (fVar 0) (fVar 3)))) (fRet (fC (.bool false))) fNx)) (ns.map fun i : Nat => .int i)
      [some (.sh (.py (boolL a))), some (.sh (.py (boolL b))), some (.sh (.py (.list (ms.map fun i : Nat => .int i)))), loc o]) (fRet (fC (.bool false)))) = some (.ok (py (.bool (tillB a b ns))) .none) := by
    intro ns
    induction ns with
    | nil =>
      intro o _
      simp [tillB]
    | cons x xs ih =>
      intro o hm
      have hx := hm x List.mem_cons_self
      have e1 := atB hx.1
      have e2 := atB hx.2
      have ih := ih (some x) fun m hm' => hm m (List.mem_cons_of_mem _ hm')
      rw [loc_some] at ih
      rw [List.map_cons]
      cases h2 : getB b x with
      | true => cases o <;> simp [e2, h2, tillB]
      | false =>
        cases h1 : getB a x with
        | false => cases o <;> simp [e1, e2, h1, h2, tillB]
        | true =>
          rw [tillB, h2, h1]
          cases o <;> simp [e1, e2, h1, h2] <;> exact ih
  have := key ms none h
  simp at this
  simp [this]
theorem tillB_iff (a b : List Bool) : ∀ ms : List Nat, tillB a b ms = true ↔ ∃ j, j < ms.length ∧ getB b (ms.getD j 0) = true ∧ ∀ k, k < j → getB a (ms.getD k 0) = true
  | [] => by simp [tillB]
  | x :: xs => by
    have ih := tillB_iff a b xs
    rw [tillB]
    by_cases h2 : getB b x = true
    · rw [if_pos h2]
      simp only [true_iff]
      exact ⟨0, by simp, h2, fun k hk => absurd hk (Nat.not_lt_zero k)⟩
    · rw [if_neg h2]
      by_cases h1 : getB a x = true
      · rw [if_pos h1, ih]
        constructor
        · rintro ⟨j, k1, k2, k3⟩
          refine ⟨j + 1, by simp; omega, by simpa using k2, fun k hk => ?_⟩
          cases k with
          | zero => exact h1
          | succ k => simpa using k3 k (by omega)
        · rintro ⟨j, k1, k2, k3⟩
          cases j with
          | zero => exact absurd k2 h2
          | succ j => exact ⟨j, by simp at k1; omega, by simpa using k2, fun k hk => by simpa using k3 (k + 1) (by omega)⟩
      · rw [if_neg h1]
        constructor
        · intro h
          exact absurd h (by decide)
        · rintro ⟨j, k1, k2, k3⟩
          cases j with
          | zero => exact absurd k2 h2
          | succ j => exact absurd (k3 0 (by omega)) h1
theorem mom_len {q p a : Nat} : (moments q p a).length = q + p - a + p := by simp [moments]
theorem mom_at {q p a j : Nat} (h : j < q + p - a + p) : (moments q p a).getD j 0 = if j < q + p - a then a + j else q + (j - (q + p - a)) := by
  unfold moments
  rw [List.getD_eq_getElem?_getD]
  split
  · rename_i h1
    rw [List.getElem?_append_left (by simpa using h1), List.getElem?_map, List.getElem?_range h1]
    rfl
  · rename_i h1
    rw [List.getElem?_append_right (by simpa using h1), List.getElem?_map, List.length_map, List.length_range, List.getElem?_range (by omega)]
    rfl
theorem mom_lt {q p a : Nat} (ha : a < q + p) : ∀ m ∈ moments q p a, m < q + p := by
  intro m hm
  simp only [moments, List.mem_append, List.mem_map, List.mem_range] at hm
  rcases hm with ⟨i, hi, rfl⟩ | ⟨i, hi, rfl⟩ <;> omega
theorem mom_per {q p a j : Nat} {A : Nat → Prop} (hA : Per q p A) (ha : a < q + p) (h : j < q + p - a + p) : A ((moments q p a).getD j 0) ↔ A (a + j) := by
  rw [mom_at h]
  split
  · exact Iff.rfl
  · rw [← hA _ (by omega)]
    rw [show q + (j - (q + p - a)) + p = a + j by omega]
theorem mom_lt' {q p a j : Nat} (ha : a < q + p) (h : j < q + p - a + p) : (moments q p a).getD j 0 < q + p := by
  rw [mom_at h]
  split <;> omega
theorem mom_one {q p a : Nat} (hp : 0 < p) (ha : a < q + p) : (moments q p a)[1]? = some (nx q p a) := by
  have h1 : 1 < q + p - a + p := by omega
  have := mom_at h1
  rw [List.getD_eq_getElem?_getD, List.getElem?_eq_getElem (by rw [mom_len]; exact h1)] at this
  rw [List.getElem?_eq_getElem (by rw [mom_len]; exact h1)]
  simp only [Option.getD_some] at this
  rw [this]
  congr 1
  unfold nx
  split <;> split <;> omega
section
variable {W R : List Str} (hp : 0 < R.length)
include hp
theorem row_till2 (s t : Sy) : (List.range (W.length + R.length)).map (fun i => tillB (rw_ W R s) (rw_ W R t) (moments W.length R.length i)) = rw_ W R (.till s t) := by
  refine row_ext (by simp) fun i hi => ?_
  have ps := sat_per (w_per (W := W) hp) s
  have pt := sat_per (w_per (W := W) hp) t
  rw [getB_range _ hi, tillB_iff]
  simp only [sat]
  constructor
  · rintro ⟨j, k1, k2, k3⟩
    rw [mom_len] at k1
    refine ⟨j, ?_, fun k hk => ?_⟩
    · rw [row_iff (mom_lt' hi k1), mom_per pt hi k1] at k2
      exact k2
    · have := k3 k hk
      rw [row_iff (mom_lt' hi (by omega)), mom_per ps hi (by omega)] at this
      exact this
  · intro h
    obtain ⟨j, h1, h2, h3⟩ := h.soon ps pt hp
    have hj : j < W.length + R.length - i + R.length := by omega
    refine ⟨j, by rw [mom_len]; exact hj, ?_, fun k hk => ?_⟩
    · rw [row_iff (mom_lt' hi hj), mom_per pt hi hj]
      exact h2
    · rw [row_iff (mom_lt' hi (by omega)), mom_per ps hi (by omega)]
      exact h3 k hk
theorem row_always2 (s : Sy) : (List.range (W.length + R.length)).map (fun i => ((moments W.length R.length i).all fun k => getB (rw_ W R s) k)) = rw_ W R (.always s) := by
  refine row_ext (by simp) fun i hi => ?_
  have ps := sat_per (w_per (W := W) hp) s
  rw [getB_range _ hi, List.all_eq_true]
  simp only [sat]
  constructor
  · intro h j
    refine Classical.byContradiction fun hn => ?_
    obtain ⟨j', h1, h2, _⟩ := Till.soon (A := fun _ => True) (B := fun i => ¬ sat (wd W R) s i) (fun i hi => Iff.rfl) ps.not hp (i := i) ⟨j, hn, fun _ _ => trivial⟩
    have hj : j' < W.length + R.length - i + R.length := by omega
    refine h2 ?_
    rw [← mom_per ps hi hj, ← row_iff (mom_lt' hi hj)]
    refine h _ ?_
    rw [List.getD_eq_getElem?_getD, List.getElem?_eq_getElem (by rw [mom_len]; exact hj)]
    exact List.getElem_mem _
  · intro h m hm
    obtain ⟨j, hj, rfl⟩ := List.getElem_of_mem hm
    rw [mom_len] at hj
    have e : (moments W.length R.length i)[j]'(by rw [mom_len]; exact hj) = (moments W.length R.length i).getD j 0 := by
      rw [List.getD_eq_getElem?_getD, List.getElem?_eq_getElem (by rw [mom_len]; exact hj)]
      rfl
    rw [e, row_iff (mom_lt' hi hj), mom_per ps hi hj]
    exact h j
end
end LawX

set_option Elab.async false
set_option linter.all false
set_option autoImplicit false
set_option maxRecDepth 100000
namespace LawX
open PySem L2 VL Ltl
theorem flat_bools (l : List Bool) : (l.map PyData.bool).all flatP = true := by
  simp [flatP]
theorem inOk_bools (b : Bool) (l : List Bool) (z : Bool) : inOk (.bool b) (l.map .bool) z = true := inOk_flat rfl (flat_bools l)
theorem memP_bools (b : Bool) (l : List Bool) : memP (.bool b) (l.map .bool) = l.any (· == b) := by
  unfold memP
  rw [List.any_map]
  rfl
theorem any_false {f : Nat → Bool} : ∀ (ms : List Nat), ms.any ((fun b => b == false) ∘ fun k => f k) = !(ms.all fun k => f k)
  | [] => rfl
  | x :: xs => by
    have := any_false (f := f) xs
    simp only [List.any_cons, List.all_cons, this]
    cases h : f x <;> simp [h]
section
variable {W R : List Str} (hp : 0 < R.length) (hbig : W.length + R.length ≤ 1000)
include hp hbig
theorem means_eq : ∀ (s : Sy) (n : Nat), deep s ≤ n → f_law_means n [.py (enc s), .py (strL W), .py (strL R)] = some (.ok (.own (boolL (rw_ W R s)) false) .none) := by
  have hN : W.length + R.length ≤ big := by simp only [big]; omega
  have hA : (W ++ R).length ≤ big := by rw [List.length_append]; exact hN
  have hl : ∀ s, (rw_ W R s).length = W.length + R.length := fun s => row_length
  have hl2 : ∀ s, (rw_ W R s).length ≤ big := fun s => by rw [hl]; exact hN
  have hr1 : inRng ((W.length : Int) + R.length) = true := by simp [inRng]; omega
  have hr2 : ((W.length : Int) + R.length).toNat = W.length + R.length := by omega
  have c1 : ∀ (p q : PyData), cutL [p, q] (some 1) none = [q] := fun p q => by rw [cut_from (by decide)]; rfl
  have c2 : ∀ (p q r : PyData), cutL [p, q, r] (some 1) none = [q, r] := fun p q r => by rw [cut_from (by decide)]; rfl
  have b1 : 1 ≤ big := by decide
  have b2 : 2 ≤ big := by decide
  intro s
  induction s with
  | mark m =>
    intro n hn
    obtain ⟨n, rfl⟩ : ∃ k, n = k + 1 := ⟨n - 1, by simp [deep] at hn; omega⟩
    show fnOf 12 none (b_law_means (f_law_means n)) _ = _
    rw [fnOf_eq]
    unfold b_law_means
    simp [enc, hN]
    rw [comp_pure (W ++ R) .str (fun x => .bool (x == m)) (by simp) hA rfl (by simp)]
    rw [← row_mark]
    simp
    rfl
  | yes =>
    intro n hn
    obtain ⟨n, rfl⟩ : ∃ k, n = k + 1 := ⟨n - 1, by simp [deep] at hn; omega⟩
    show fnOf 12 none (b_law_means (f_law_means n)) _ = _
    rw [fnOf_eq]
    unfold b_law_means
    simp [enc, hN]
    rw [comp_pure (W ++ R) .str (fun x => .bool true) (by simp) hA rfl (by simp)]
    rw [← row_yes]
    simp
    rfl
  | not s ih =>
    intro n hn
    obtain ⟨n, rfl⟩ : ∃ k, n = k + 1 := ⟨n - 1, by simp [deep] at hn; omega⟩
    show fnOf 12 none (b_law_means (f_law_means n)) _ = _
    rw [fnOf_eq]
    unfold b_law_means
    have e1 := ih n (by simp [deep] at hn; omega)
    simp [enc, hN]
    rw [comp_pure [s] enc (fun x => boolL (rw_ W R x)) (by simp [c1]) b1 rfl (by simp [e1])]
    simp
    rw [comp_pure (rw_ W R s) .bool (fun x => .bool (!x)) (by simp) (hl2 s) rfl (by simp)]
    rw [← row_not]
    simp
  | and s t ih1 ih2 =>
    intro n hn
    obtain ⟨n, rfl⟩ : ∃ k, n = k + 1 := ⟨n - 1, by simp [deep] at hn; omega⟩
    show fnOf 12 none (b_law_means (f_law_means n)) _ = _
    rw [fnOf_eq]
    unfold b_law_means
    have e1 := ih1 n (by simp [deep] at hn; omega)
    have e2 := ih2 n (by simp [deep] at hn; omega)
    simp [enc, hN]
    rw [comp_pure [s, t] enc (fun x => boolL (rw_ W R x)) (by simp [c2]) b2 rfl (by simp [e1, e2])]
    simp
    rw [comp_pure ((rw_ W R s).zip (rw_ W R t)) (fun z => .tuple [.bool z.1, .bool z.2]) (fun z => .bool (z.1 && z.2)) (by simp [pairs_bool]) (by rw [List.length_zip, hl, hl]; omega) rfl (by
      intro x hx
      obtain ⟨x1, x2⟩ := x
      cases x1 <;> cases x2 <;> simp)]
    rw [← row_and]
    simp
  | or s t ih1 ih2 =>
    intro n hn
    obtain ⟨n, rfl⟩ : ∃ k, n = k + 1 := ⟨n - 1, by simp [deep] at hn; omega⟩
    show fnOf 12 none (b_law_means (f_law_means n)) _ = _
    rw [fnOf_eq]
    unfold b_law_means
    have e1 := ih1 n (by simp [deep] at hn; omega)
    have e2 := ih2 n (by simp [deep] at hn; omega)
    simp [enc, hN]
    rw [comp_pure [s, t] enc (fun x => boolL (rw_ W R x)) (by simp [c2]) b2 rfl (by simp [e1, e2])]
    simp
    rw [comp_pure ((rw_ W R s).zip (rw_ W R t)) (fun z => .tuple [.bool z.1, .bool z.2]) (fun z => .bool (z.1 || z.2)) (by simp [pairs_bool]) (by rw [List.length_zip, hl, hl]; omega) rfl (by
      intro x hx
      obtain ⟨x1, x2⟩ := x
      cases x1 <;> cases x2 <;> simp)]
    rw [← row_or]
    simp
  | next s ih =>
    intro n hn
    obtain ⟨n, rfl⟩ : ∃ k, n = k + 1 := ⟨n - 1, by simp [deep] at hn; omega⟩
    show fnOf 12 none (b_law_means (f_law_means n)) _ = _
    rw [fnOf_eq]
    unfold b_law_means
    have e1 := ih n (by simp [deep] at hn; omega)
    simp [enc, hN]
    rw [comp_pure [s] enc (fun x => boolL (rw_ W R x)) (by simp [c1]) b1 rfl (by simp [e1])]
    simp
    rw [comp_pure (List.range (W.length + R.length)) (fun i => .int (i : Nat)) (fun i => .bool (getB (rw_ W R s) (nx W.length R.length i))) (by simp [hr1, hr2, intsD_zero]) (by rw [List.length_range]; exact hN) rfl (by
      intro x hx
      have hx := List.mem_range.mp hx
      have e3 := after_eq W R x hbig (by omega)
      have e4 := atB (bs := rw_ W R s) (i := nx W.length R.length x) (by rw [hl]; exact nx_lt hp)
      have e5 := mom_one hp hx
      simp [e3, e4, e5])]
    rw [← row_next hp]
    simp
  | till s t ih1 ih2 =>
    intro n hn
    obtain ⟨n, rfl⟩ : ∃ k, n = k + 1 := ⟨n - 1, by simp [deep] at hn; omega⟩
    show fnOf 12 none (b_law_means (f_law_means n)) _ = _
    rw [fnOf_eq]
    unfold b_law_means
    have e1 := ih1 n (by simp [deep] at hn; omega)
    have e2 := ih2 n (by simp [deep] at hn; omega)
    simp [enc, hN]
    rw [comp_pure [s, t] enc (fun x => boolL (rw_ W R x)) (by simp [c2]) b2 rfl (by simp [e1, e2])]
    simp
    rw [comp_pure (List.range (W.length + R.length)) (fun i => .int (i : Nat)) (fun i => .bool (tillB (rw_ W R s) (rw_ W R t) (moments W.length R.length i))) (by simp [hr1, hr2, intsD_zero]) (by rw [List.length_range]; exact hN) rfl (by
      intro x hx
      have hx := List.mem_range.mp hx
      have e3 := after_eq W R x hbig (by omega)
      have e4 := law_till_eq (rw_ W R s) (rw_ W R t) (moments W.length R.length x) (fun m hm => by rw [hl, hl]; exact ⟨mom_lt hx m hm, mom_lt hx m hm⟩)
      simp [e3, e4])]
    rw [← row_till2 hp]
    simp
  | always s ih =>
    intro n hn
    obtain ⟨n, rfl⟩ : ∃ k, n = k + 1 := ⟨n - 1, by simp [deep] at hn; omega⟩
    show fnOf 12 none (b_law_means (f_law_means n)) _ = _
    rw [fnOf_eq]
    unfold b_law_means
    have e1 := ih n (by simp [deep] at hn; omega)
    simp [enc, hN]
    rw [comp_pure [s] enc (fun x => boolL (rw_ W R x)) (by simp [c1]) b1 rfl (by simp [e1])]
    simp
    rw [comp_pure (List.range (W.length + R.length)) (fun i => .int (i : Nat)) (fun i => .bool ((moments W.length R.length i).all fun k => getB (rw_ W R s) k)) (by simp [hr1, hr2, intsD_zero]) (by rw [List.length_range]; exact hN) rfl (by
      intro x hx
      have hx := List.mem_range.mp hx
      have e3 := after_eq W R x hbig (by omega)
      have hm := mom_lt (q := W.length) (p := R.length) (a := x) hx
      have hml := mom_len (q := W.length) (p := R.length) (a := x)
      generalize moments W.length R.length x = ms at *
      simp
      rw [comp_pure ms (fun i => .int (i : Nat)) (fun i => .bool (getB (rw_ W R s) i)) (by simp [e3]) (by rw [hml]; simp only [big]; omega) rfl (by
        intro y hy
        have e4 := atB (bs := rw_ W R s) (i := y) (by rw [hl]; exact hm y hy)
        simp [e4])]
      have i1 : inOk (.bool false) (ms.map fun i => PyData.bool (getB (rw_ W R s) i)) true = true := by
        have := inOk_bools false (ms.map fun i => getB (rw_ W R s) i) true
        rw [List.map_map] at this
        exact this
      have i2 : memP (.bool false) (ms.map fun i => PyData.bool (getB (rw_ W R s) i)) = !(ms.all fun k => getB (rw_ W R s) k) := by
        have := memP_bools false (ms.map fun i => getB (rw_ W R s) i)
        rw [List.map_map] at this
        refine Eq.trans this ?_
        rw [List.any_map]
        exact any_false ms
      simp [i1, i2])]
    rw [← row_always2 hp]
    simp
  | again s ih =>
    intro n hn
    obtain ⟨n, rfl⟩ : ∃ k, n = k + 1 := ⟨n - 1, by simp [deep] at hn; omega⟩
    show fnOf 12 none (b_law_means (f_law_means n)) _ = _
    rw [fnOf_eq]
    unfold b_law_means
    have e1 := ih n (by simp [deep] at hn; omega)
    simp [enc, hN]
    rw [comp_pure [s] enc (fun x => boolL (rw_ W R x)) (by simp [c1]) b1 rfl (by simp [e1])]
    simp
    have hc : cutL ((rw_ W R s).map PyData.bool) (some (W.length : Int)) none = ((rw_ W R s).map .bool).drop W.length := by
      rw [cut_from (by omega)]
      simp
    have i1 : inOk (.bool true) (((rw_ W R s).map .bool).drop W.length) true = true := by
      rw [← List.map_drop]
      exact inOk_bools true _ true
    have i2 : memP (.bool true) (((rw_ W R s).map .bool).drop W.length) = ((rw_ W R s).drop W.length).any fun b => b := by
      rw [← List.map_drop]
      refine (memP_bools true _).trans ?_
      simp
    rw [comp_pure (W ++ R) .str (fun _ => .bool (((rw_ W R s).drop W.length).any fun b => b)) (by simp) hA rfl (by
      intro x hx
      simp [hc, i1, i2])]
    rw [← row_again hp s (W ++ R) (by simp)]
    simp
    rfl
end
end LawX

set_option Elab.async false
set_option linter.all false
set_option autoImplicit false
set_option maxRecDepth 100000
namespace LawX
open PySem L2 VL Ltl
theorem deep_pos : ∀ s : Sy, 0 < deep s
  | .mark _ => by simp [deep]
  | .yes => by simp [deep]
  | .not s => by simp [deep]
  | .and s t => by simp [deep]
  | .or s t => by simp [deep]
  | .next s => by simp [deep]
  | .till s t => by simp [deep]
  | .always s => by simp [deep]
  | .again s => by simp [deep]
def goodS : Sy → Bool
  | .mark m => good m
  | .yes => true
  | .not s => goodS s
  | .and s t => goodS s && goodS t
  | .or s t => goodS s && goodS t
  | .next s => goodS s
  | .till s t => goodS s && goodS t
  | .always s => goodS s
  | .again s => goodS s
theorem kind_deep (i : Int) (s t : Sy) : deep (kindOf i s t) ≤ max (deep s) (deep t) + 1 := by
  unfold kindOf
  repeat' split
  all_goals simp only [deep]; omega
theorem made_deep (ns : List Int) (names : List Str) : ∀ d k, deep (madeS ns names d k).1 ≤ max 1 d
  | 0, k => by
    unfold madeS leafOf
    split <;> simp [deep]
  | d + 1, k => by
    have h1 := made_deep ns names d (k + 1)
    have h2 := made_deep ns names d (madeS ns names d (k + 1)).2
    have p1 := deep_pos (madeS ns names d (k + 1)).1
    rw [madeS]
    split
    · unfold leafOf
      split <;> simp [deep] <;> omega
    · split
      · have := kind_deep (drawV ns k % 13) (madeS ns names d (k + 1)).1 (madeS ns names d (madeS ns names d (k + 1)).2).1
        simp only
        omega
      · have := kind_deep (drawV ns k % 13) (madeS ns names d (k + 1)).1 .yes
        have e : deep (.yes : Sy) = 1 := rfl
        simp only
        omega
theorem canAll : ∀ {ds : List PyData}, (∀ d ∈ ds, d.canLay0 = true) → PyData.canLayAll0 ds = true
  | [], _ => rfl
  | d :: ds, h => by
    simp only [PyData.canLayAll0, h d List.mem_cons_self, canAll fun x hx => h x (List.mem_cons_of_mem _ hx), Bool.and_self]
theorem depthAll_le {n : Nat} : ∀ {ds : List PyData}, (∀ d ∈ ds, d.depth ≤ n) → PyData.depthAll ds ≤ n
  | [], _ => by simp [PyData.depthAll]
  | d :: ds, h => by
    have h1 := h d List.mem_cons_self
    have h2 := depthAll_le (n := n) fun x hx => h x (List.mem_cons_of_mem d hx)
    simp only [PyData.depthAll]
    omega
theorem shaped_list {ds : List PyData} (n : Nat) (hn : n ≤ 60) (h : ∀ d ∈ ds, d.canLay0 = true ∧ d.depth ≤ n) : SeqAt.shaped (.list ds) = true := by
  have h1 := canAll fun d hd => (h d hd).1
  have h2 := depthAll_le fun d hd => (h d hd).2
  unfold SeqAt.shaped
  rw [Bool.and_eq_true]
  refine ⟨by simp only [PyData.canLay0]; exact h1, decide_eq_true ?_⟩
  simp only [PyData.depth]
  omega
theorem shaped_bools (l : List Bool) : SeqAt.shaped (boolL l) = true := shaped_list 1 (by decide) fun d hd => by
  obtain ⟨b, _, rfl⟩ := List.mem_map.mp hd
  exact ⟨rfl, by simp [PyData.depth]⟩
theorem eqv_shaped {d : PyData} (h : SeqAt.shaped d = true) : PyData.eqv d d = true := PySem.SeqAt.eqv_refl d (SeqAt.canLay_of_shaped h)
theorem eqv_tup (a b : List PyData) : PyData.eqv (.tuple a) (.tuple b) = PyData.eqvAll a b := by simp only [PyData.eqv]
theorem eqvAll_cons (a b : PyData) (as bs : List PyData) : PyData.eqvAll (a :: as) (b :: bs) = (PyData.eqv a b && PyData.eqvAll as bs) := by simp only [PyData.eqvAll]
theorem eqvAll_nil : PyData.eqvAll [] [] = true := by simp only [PyData.eqvAll]
theorem eqvAll_nc (b : PyData) (bs : List PyData) : PyData.eqvAll [] (b :: bs) = false := by simp only [PyData.eqvAll]
theorem eqvAll_cn (b : PyData) (bs : List PyData) : PyData.eqvAll (b :: bs) [] = false := by simp only [PyData.eqvAll]
theorem eqv_enc : ∀ a b : Sy, PyData.eqv (enc a) (enc b) = true ↔ a = b := by
  intro a
  induction a with
  | mark m => intro b; cases b <;> simp [enc, eqv_tup, eqvAll_cons, eqvAll_nil, eqvAll_nc, eqvAll_cn]
  | yes => intro b; cases b <;> simp [enc, eqv_tup, eqvAll_cons, eqvAll_nil, eqvAll_nc, eqvAll_cn]
  | not s ih => intro b; cases b <;> simp [enc, eqv_tup, eqvAll_cons, eqvAll_nil, eqvAll_nc, eqvAll_cn, ih]
  | and s t ih1 ih2 => intro b; cases b <;> simp [enc, eqv_tup, eqvAll_cons, eqvAll_nil, eqvAll_nc, eqvAll_cn, ih1, ih2]
  | or s t ih1 ih2 => intro b; cases b <;> simp [enc, eqv_tup, eqvAll_cons, eqvAll_nil, eqvAll_nc, eqvAll_cn, ih1, ih2]
  | next s ih => intro b; cases b <;> simp [enc, eqv_tup, eqvAll_cons, eqvAll_nil, eqvAll_nc, eqvAll_cn, ih]
  | till s t ih1 ih2 => intro b; cases b <;> simp [enc, eqv_tup, eqvAll_cons, eqvAll_nil, eqvAll_nc, eqvAll_cn, ih1, ih2]
  | always s ih => intro b; cases b <;> simp [enc, eqv_tup, eqvAll_cons, eqvAll_nil, eqvAll_nc, eqvAll_cn, ih]
  | again s ih => intro b; cases b <;> simp [enc, eqv_tup, eqvAll_cons, eqvAll_nil, eqvAll_nc, eqvAll_cn, ih]
instance : DecidableEq Sy := fun a b => decidable_of_iff (PyData.eqv (enc a) (enc b) = true) (eqv_enc a b)
theorem eqv_encD (a b : Sy) : PyData.eqv (enc a) (enc b) = decide (a = b) := by
  have := eqv_enc a b
  cases h : PyData.eqv (enc a) (enc b) with
  | true => exact (decide_eq_true (this.mp h)).symm
  | false => exact (decide_eq_false fun e => by rw [this.mpr e] at h; cases h).symm
theorem kw_good : good (Str.ofString "mark") = true ∧ good (Str.ofString "yes") = true ∧ good (Str.ofString "not") = true ∧ good (Str.ofString "and") = true ∧ good (Str.ofString "or") = true ∧ good (Str.ofString "next") = true ∧ good (Str.ofString "till") = true ∧ good (Str.ofString "always") = true ∧ good (Str.ofString "again") = true := by decide +kernel
theorem lay_enc : ∀ s : Sy, goodS s = true → (enc s).canLay0 = true := by
  obtain ⟨k1, k2, k3, k4, k5, k6, k7, k8, k9⟩ := kw_good
  unfold good at k1 k2 k3 k4 k5 k6 k7 k8 k9
  intro s
  induction s with
  | mark m => intro h; unfold goodS good at h; simp only [enc, PyData.canLay0, PyData.canLayAll0] at *; simp [k1, h]
  | yes => intro h; simp only [enc, PyData.canLay0, PyData.canLayAll0] at *; simp [k2]
  | not s ih => intro h; have := ih h; simp only [enc, PyData.canLay0, PyData.canLayAll0] at *; simp [k3, this]
  | and s t ih1 ih2 => intro h; obtain ⟨a, b⟩ := Bool.and_eq_true_iff.mp h; have i1 := ih1 a; have i2 := ih2 b; simp only [enc, PyData.canLay0, PyData.canLayAll0] at *; simp [k4, i1, i2]
  | or s t ih1 ih2 => intro h; obtain ⟨a, b⟩ := Bool.and_eq_true_iff.mp h; have i1 := ih1 a; have i2 := ih2 b; simp only [enc, PyData.canLay0, PyData.canLayAll0] at *; simp [k5, i1, i2]
  | next s ih => intro h; have := ih h; simp only [enc, PyData.canLay0, PyData.canLayAll0] at *; simp [k6, this]
  | till s t ih1 ih2 => intro h; obtain ⟨a, b⟩ := Bool.and_eq_true_iff.mp h; have i1 := ih1 a; have i2 := ih2 b; simp only [enc, PyData.canLay0, PyData.canLayAll0] at *; simp [k7, i1, i2]
  | always s ih => intro h; have := ih h; simp only [enc, PyData.canLay0, PyData.canLayAll0] at *; simp [k8, this]
  | again s ih => intro h; have := ih h; simp only [enc, PyData.canLay0, PyData.canLayAll0] at *; simp [k9, this]
theorem depth_enc : ∀ s : Sy, (enc s).depth = deep s := by
  intro s
  induction s <;> simp only [enc, PyData.depth, PyData.depthAll, deep] <;> omega
/-- a saying that == and in may be asked of -/
structure Ok (s : Sy) : Prop where
  g : goodS s = true
  d : deep s ≤ 20
theorem Ok.shaped {s : Sy} (h : Ok s) : SeqAt.shaped (enc s) = true := by
  unfold SeqAt.shaped
  rw [lay_enc s h.g, depth_enc]
  have := h.d
  simp
  omega
abbrev encL (l : List Sy) : PyData := .list (l.map enc)
theorem shaped_encL {l : List Sy} (h : ∀ s ∈ l, Ok s) : SeqAt.shaped (encL l) = true := shaped_list 20 (by decide) fun d hd => by
  obtain ⟨s, hs, rfl⟩ := List.mem_map.mp hd
  exact ⟨lay_enc s (h s hs).g, by rw [depth_enc]; exact (h s hs).d⟩
theorem inOk_enc {s : Sy} {l : List Sy} (h1 : Ok s) (h : ∀ s ∈ l, Ok s) : inOk (enc s) (l.map enc) true = true := inOk_shaped h1.shaped (shaped_encL h)
theorem memP_enc (s : Sy) (l : List Sy) : memP (enc s) (l.map enc) = decide (s ∈ l) := by
  unfold memP
  induction l with
  | nil => rfl
  | cons x l ih =>
    rw [List.map_cons, List.any_cons, ih, eqv_encD]
    by_cases h1 : x = s
    · subst h1; simp
    · have : ¬ s = x := fun e => h1 e.symm
      simp [h1, this]
theorem idxP_enc (s : Sy) {l : List Sy} (h : s ∈ l) : idxP (enc s) (l.map enc) = some (l.idxOf s) := by
  unfold idxP
  induction l with
  | nil => cases h
  | cons x l ih =>
    rw [List.map_cons, List.findIdx?_cons, eqv_encD, List.idxOf_cons]
    by_cases h1 : x = s
    · subst h1
      simp
    · have h2 : s ∈ l := (List.mem_cons.mp h).resolve_left fun e => h1 e.symm
      have h3 : (x == s) = false := by simpa using h1
      rw [ih h2]
      simp [h1, h3]
/-! ### bonds -/
def partsS : Sy → List Sy
  | .mark _ => []
  | .yes => []
  | .not s => [s]
  | .and s t => [s, t]
  | .or s t => [s, t]
  | .next s => [s]
  | .till s t => [s, t]
  | .always s => [s]
  | .again s => [s]
def onceS (s : Sy) : Sy := .till .yes s
def ownB : Sy → List Sy
  | .next s => [.next s]
  | .till s t => [.till s t]
  | .always s => [.always s]
  | .again s => [onceS s, .always (onceS s)]
  | _ => []
def ins (l : List Sy) (b : Sy) : List Sy := if b ∈ l then l else l ++ [b]
def putOwn (l own : List Sy) : List Sy := l ++ own.filter fun b => decide (b ∉ l)
def bondsS : Sy → List Sy
  | .mark m => putOwn [] (ownB (.mark m))
  | .yes => putOwn [] (ownB .yes)
  | .not s => putOwn ((bondsS s).foldl ins []) (ownB (.not s))
  | .and s t => putOwn ((bondsS t).foldl ins ((bondsS s).foldl ins [])) (ownB (.and s t))
  | .or s t => putOwn ((bondsS t).foldl ins ((bondsS s).foldl ins [])) (ownB (.or s t))
  | .next s => putOwn ((bondsS s).foldl ins []) (ownB (.next s))
  | .till s t => putOwn ((bondsS t).foldl ins ((bondsS s).foldl ins [])) (ownB (.till s t))
  | .always s => putOwn ((bondsS s).foldl ins []) (ownB (.always s))
  | .again s => putOwn ((bondsS s).foldl ins []) (ownB (.again s))
end LawX

set_option Elab.async false
set_option linter.all false
set_option autoImplicit false
set_option maxRecDepth 100000
namespace LawX
open PySem L2 VL Ltl
/-! ### bonds, plainly -/
theorem mem_ins {l : List Sy} {b x : Sy} : x ∈ ins l b ↔ x ∈ l ∨ x = b := by
  unfold ins
  split
  · rename_i h
    constructor
    · exact .inl
    · rintro (h2 | rfl)
      · exact h2
      · exact h
  · simp
theorem mem_insL {x : Sy} : ∀ {l acc : List Sy}, x ∈ l.foldl ins acc ↔ x ∈ acc ∨ x ∈ l
  | [], acc => by simp
  | b :: l, acc => by
    rw [List.foldl_cons, mem_insL, mem_ins]
    simp only [List.mem_cons]
    constructor
    · rintro ((h | h) | h)
      · exact .inl h
      · exact .inr (.inl h)
      · exact .inr (.inr h)
    · rintro (h | h | h)
      · exact .inl (.inl h)
      · exact .inl (.inr h)
      · exact .inr h
theorem nodup_ins {l : List Sy} {b : Sy} (h : l.Nodup) : (ins l b).Nodup := by
  unfold ins
  split
  · exact h
  · rename_i hb
    rw [List.nodup_append]
    refine ⟨h, by simp, fun x hx y hy => ?_⟩
    rw [List.mem_singleton] at hy
    subst hy
    exact fun e => hb (e ▸ hx)
theorem nodup_insL : ∀ {l acc : List Sy}, acc.Nodup → (l.foldl ins acc).Nodup
  | [], acc, h => h
  | b :: l, acc, h => nodup_insL (l := l) (nodup_ins h)
theorem len_ins {l : List Sy} {b : Sy} : (ins l b).length ≤ l.length + 1 := by
  unfold ins
  split
  · omega
  · simp
theorem len_insL : ∀ {l acc : List Sy}, (l.foldl ins acc).length ≤ acc.length + l.length
  | [], acc => by simp
  | b :: l, acc => by
    rw [List.foldl_cons]
    have := len_insL (l := l) (acc := ins acc b)
    have := len_ins (l := acc) (b := b)
    simp
    omega
theorem mem_putOwn {l own : List Sy} {x : Sy} : x ∈ putOwn l own ↔ x ∈ l ∨ x ∈ own := by
  unfold putOwn
  rw [List.mem_append, List.mem_filter]
  by_cases h : x ∈ l <;> simp [h]
theorem nodup_putOwn {l own : List Sy} (h1 : l.Nodup) (h2 : own.Nodup) : (putOwn l own).Nodup := by
  unfold putOwn
  rw [List.nodup_append]
  refine ⟨h1, h2.filter _, fun x hx y hy e => ?_⟩
  subst e
  have := (List.mem_filter.mp hy).2
  simp at this
  exact this hx
theorem len_putOwn {l own : List Sy} : (putOwn l own).length ≤ l.length + own.length := by
  unfold putOwn
  rw [List.length_append]
  have := List.length_filter_le (fun b => decide (b ∉ l)) own
  omega
theorem nodup_own (s : Sy) : (ownB s).Nodup := by
  cases s <;> simp [ownB, onceS]
theorem mem_bonds {s b : Sy} : b ∈ bondsS s ↔ (∃ p ∈ partsS s, b ∈ bondsS p) ∨ b ∈ ownB s := by
  cases s <;> simp [bondsS, partsS, mem_putOwn, mem_insL]
theorem nodup_bonds (s : Sy) : (bondsS s).Nodup := by
  cases s <;> simp only [bondsS] <;> exact nodup_putOwn (by first | exact List.nodup_nil | exact nodup_insL (nodup_insL List.nodup_nil) | exact nodup_insL List.nodup_nil) (nodup_own _)
theorem len_bonds : ∀ s : Sy, (bondsS s).length + 2 ≤ 2 ^ (deep s + 1) := by
  have two : ∀ a b : Nat, 2 ^ (a + 1) ≤ 2 ^ (max a b + 1) ∧ 2 ^ (b + 1) ≤ 2 ^ (max a b + 1) := fun a b => ⟨Nat.pow_le_pow_right (by decide) (by omega), Nat.pow_le_pow_right (by decide) (by omega)⟩
  intro s
  induction s with
  | mark m => simp [bondsS, putOwn, ownB, deep]
  | yes => simp [bondsS, putOwn, ownB, deep]
  | not s ih =>
    have h1 := len_putOwn (l := (bondsS s).foldl ins []) (own := ownB (.not s))
    have h2 := len_insL (l := bondsS s) (acc := [])
    simp [bondsS, deep, ownB] at *
    omega
  | next s ih =>
    have h1 := len_putOwn (l := (bondsS s).foldl ins []) (own := ownB (.next s))
    have h2 := len_insL (l := bondsS s) (acc := [])
    have h3 : 2 ^ (deep s + 1 + 1) = 2 * 2 ^ (deep s + 1) := Nat.pow_succ'
    simp [bondsS, deep, ownB] at *
    omega
  | always s ih =>
    have h1 := len_putOwn (l := (bondsS s).foldl ins []) (own := ownB (.always s))
    have h2 := len_insL (l := bondsS s) (acc := [])
    have h3 : 2 ^ (deep s + 1 + 1) = 2 * 2 ^ (deep s + 1) := Nat.pow_succ'
    simp [bondsS, deep, ownB] at *
    omega
  | again s ih =>
    have h1 := len_putOwn (l := (bondsS s).foldl ins []) (own := ownB (.again s))
    have h2 := len_insL (l := bondsS s) (acc := [])
    have h3 : 2 ^ (deep s + 1 + 1) = 2 * 2 ^ (deep s + 1) := Nat.pow_succ'
    simp [bondsS, deep, ownB] at *
    omega
  | and s t ih1 ih2 =>
    have h1 := len_putOwn (l := (bondsS t).foldl ins ((bondsS s).foldl ins [])) (own := ownB (.and s t))
    have h2 := len_insL (l := bondsS s) (acc := [])
    have h3 := len_insL (l := bondsS t) (acc := (bondsS s).foldl ins [])
    have h4 : 2 ^ (max (deep s) (deep t) + 1 + 1) = 2 * 2 ^ (max (deep s) (deep t) + 1) := Nat.pow_succ'
    obtain ⟨h5, h6⟩ := two (deep s) (deep t)
    simp only [bondsS, deep, ownB, List.length_nil] at *
    omega
  | or s t ih1 ih2 =>
    have h1 := len_putOwn (l := (bondsS t).foldl ins ((bondsS s).foldl ins [])) (own := ownB (.or s t))
    have h2 := len_insL (l := bondsS s) (acc := [])
    have h3 := len_insL (l := bondsS t) (acc := (bondsS s).foldl ins [])
    have h4 : 2 ^ (max (deep s) (deep t) + 1 + 1) = 2 * 2 ^ (max (deep s) (deep t) + 1) := Nat.pow_succ'
    obtain ⟨h5, h6⟩ := two (deep s) (deep t)
    simp only [bondsS, deep, ownB, List.length_nil] at *
    omega
  | till s t ih1 ih2 =>
    have h1 := len_putOwn (l := (bondsS t).foldl ins ((bondsS s).foldl ins [])) (own := ownB (.till s t))
    have h2 := len_insL (l := bondsS s) (acc := [])
    have h3 := len_insL (l := bondsS t) (acc := (bondsS s).foldl ins [])
    have h4 : 2 ^ (max (deep s) (deep t) + 1 + 1) = 2 * 2 ^ (max (deep s) (deep t) + 1) := Nat.pow_succ'
    obtain ⟨h5, h6⟩ := two (deep s) (deep t)
    simp only [bondsS, deep, ownB, List.length_nil, List.length_cons] at *
    omega
theorem goodS_parts {s p : Sy} (h : goodS s = true) (hp : p ∈ partsS s) : goodS p = true := by
  cases s <;> simp [partsS] at hp <;> simp [goodS] at h <;> first | (subst hp; exact h) | (rcases hp with rfl | rfl <;> simp [h])
theorem deep_parts {s p : Sy} (hp : p ∈ partsS s) : deep p < deep s := by
  cases s <;> simp [partsS] at hp <;> simp only [deep] <;> first | (subst hp; omega) | (rcases hp with rfl | rfl <;> omega)
theorem own_ok {s b : Sy} (h : goodS s = true) (hb : b ∈ ownB s) : goodS b = true ∧ deep b ≤ deep s + 1 := by
  cases s <;> simp [ownB] at hb <;> simp [goodS] at h
  · subst hb; simp [goodS, h]
  · subst hb; simp [goodS, h]
  · subst hb; simp [goodS, h]
  · rcases hb with rfl | rfl
    · refine ⟨by simp [goodS, onceS, h], ?_⟩
      simp only [onceS, deep]
      omega
    · refine ⟨by simp [goodS, onceS, h], ?_⟩
      rename_i s
      have := deep_pos s
      simp only [onceS, deep]
      omega
theorem bonds_ok : ∀ (n : Nat) (s b : Sy), deep s ≤ n → goodS s = true → b ∈ bondsS s → goodS b = true ∧ deep b ≤ deep s + 1
  | 0, s, b, hn, _, _ => by have := deep_pos s; omega
  | n + 1, s, b, hn, h, hb => by
    rcases mem_bonds.mp hb with ⟨p, hp, hb⟩ | hb
    · have hd := deep_parts hp
      obtain ⟨h1, h2⟩ := bonds_ok n p b (by omega) (goodS_parts h hp) hb
      exact ⟨h1, by omega⟩
    · exact own_ok h hb
theorem bonds_Ok {s b : Sy} (h : goodS s = true) (hd : deep s ≤ 8) (hb : b ∈ bondsS s) : Ok b := by
  obtain ⟨h1, h2⟩ := bonds_ok _ s b (Nat.le_refl _) h hb
  exact ⟨h1, by omega⟩
/-! ### bonds_in -/
theorem cut1 (p : PyData) (l : List PyData) : cutL (p :: l) (some 1) none = l := by rw [cut_from (by decide)]; rfl
theorem parts_eq (s : Sy) : f_parts_of [.py (enc s)] = some (.ok (.own (encL (partsS s)) false) .none) := by
  have i1 : ∀ ds : List PyData, isiT (.tuple ds) "tuple" = some true := fun _ => rfl
  have i2 : ∀ ds : Str, dIsi "tuple" (.str ds) = some (py (.bool false)) := fun _ => rfl
  have i3 : ∀ s : Sy, dIsi "tuple" (enc s) = some (py (.bool true)) := fun s => by cases s <;> rfl
  unfold f_parts_of b_parts_of
  rw [fnOf_eq]
  have key : ∀ (xs : List PyData) (p : PyData → Bool) (w : PyData), (∀ x ∈ xs, dIsi "tuple" x = some (py (.bool (p x)))) → xs.length ≤ big → fComp (fItems (fSl (fVar 0) (fP (fC (.int 1))) fNoP)) (gNm 1) (fB (fBl oIsi (fCons (fVar 1) (fCons (fTy "tuple") fNil)))) (fVar 1) [1] [some (.sh (.py (.tuple (w :: xs)))), none]
      = some (.ok (.own (.list (xs.filter p)) false) [some (.sh (.py (.tuple (w :: xs)))), none]) := by
    intro xs p w h hl
    rw [comp_pureF xs (fun x => x) p (fun x => x) (by simp [cut1]) hl rfl (by
      intro x hx
      simp [h x hx])]
    simp
  cases s with
  | mark m =>
    simp [enc]
    rw [key [.str m] (fun _ => false) _ (by simp [i2]) (by simp [big])]
    simp [partsS]
  | yes =>
    simp [enc]
    rw [key [] (fun _ => false) _ (by simp) (by decide)]
    simp [partsS]
  | not s =>
    simp [enc]
    rw [key [enc s] (fun _ => true) _ (by simp [i3]) (by simp [big])]
    simp [partsS]
  | and s t =>
    simp [enc]
    rw [key [enc s, enc t] (fun _ => true) _ (by simp [i3]) (by simp [big])]
    simp [partsS]
  | or s t =>
    simp [enc]
    rw [key [enc s, enc t] (fun _ => true) _ (by simp [i3]) (by simp [big])]
    simp [partsS]
  | next s =>
    simp [enc]
    rw [key [enc s] (fun _ => true) _ (by simp [i3]) (by simp [big])]
    simp [partsS]
  | till s t =>
    simp [enc]
    rw [key [enc s, enc t] (fun _ => true) _ (by simp [i3]) (by simp [big])]
    simp [partsS]
  | always s =>
    simp [enc]
    rw [key [enc s] (fun _ => true) _ (by simp [i3]) (by simp [big])]
    simp [partsS]
  | again s =>
    simp [enc]
    rw [key [enc s] (fun _ => true) _ (by simp [i3]) (by simp [big])]
    simp [partsS]
theorem again_as_eq (s : Sy) : f_again_as [.py (enc (.again s))] = some (.ok (.own (encL [onceS s, .always (onceS s)]) false) .none) := by
  unfold f_again_as b_again_as
  rw [fnOf_eq]
  simp [enc, onceS]
end LawX

set_option Elab.async false
set_option linter.all false
set_option autoImplicit false
set_option maxRecDepth 100000
namespace LawX
open PySem L2 VL Ltl
def locS (o : Option Sy) : Option Ent := o.map fun s => py (enc s)
@[simp] theorem locS_none : locS none = none := rfl
@[simp] theorem locS_some (s : Sy) : locS (some s) = some (py (enc s)) := rfl
abbrev envB (s : Sy) (found : List Sy) (p b : Option Sy) : DEnv := [some (.sh (.py (enc s))), some (.own (encL found) false), locS p, locS b, none]
theorem bonds_inner (s : Sy) (p : Option Sy) : ∀ (l found : List Sy) (b : Option Sy), (∀ x ∈ l, Ok x) → (∀ x ∈ found, Ok x) → found.length + l.length ≤ 1000 →
    ∃ b', forGo (gNm 3) (fIf (fB (f2 (oIn true) (fVar 3) (fVar 1))) (fDrop (fMet appE (fVar 1) (fCons (fVar 3) fNil))) fNx) (l.map enc) (envB s found p b) = some (.ok .nx (envB s (l.foldl ins found) p b'))
  | [], found, b, _, _, _ => ⟨b, rfl⟩
  | x :: l, found, b, h1, h2, h3 => by
    have hx := h1 x List.mem_cons_self
    have ih := bonds_inner s p l (ins found x) (some x) (fun y hy => h1 y (List.mem_cons_of_mem _ hy)) (fun y hy => by
      rcases mem_ins.mp hy with h | rfl
      · exact h2 y h
      · exact hx) (by have := len_ins (l := found) (b := x); simp at h3; omega)
    obtain ⟨b', ih⟩ := ih
    refine ⟨b', ?_⟩
    rw [List.map_cons, List.foldl_cons, ← ih]
    have i1 := inOk_enc hx h2
    have i2 := memP_enc x found
    have hlt : found.length < big := by simp at h3; simp only [big]; omega
    unfold ins
    by_cases hm : x ∈ found
    · cases p <;> cases b <;> simp [envB, encL, i1, i2, hm]
    · cases p <;> cases b <;> simp [envB, encL, i1, i2, hm, hlt]
theorem mem_insP {x : Sy} : ∀ {ps acc : List Sy}, x ∈ ps.foldl (fun a p => (bondsS p).foldl ins a) acc ↔ x ∈ acc ∨ ∃ p ∈ ps, x ∈ bondsS p
  | [], acc => by simp
  | q :: ps, acc => by
    rw [List.foldl_cons, mem_insP, mem_insL]
    simp only [List.mem_cons]
    constructor
    · rintro ((h | h) | ⟨p, h1, h2⟩)
      · exact .inl h
      · exact .inr ⟨q, .inl rfl, h⟩
      · exact .inr ⟨p, .inr h1, h2⟩
    · rintro (h | ⟨p, rfl | h1, h2⟩)
      · exact .inl (.inl h)
      · exact .inl (.inr h2)
      · exact .inr ⟨p, h1, h2⟩
theorem len_insP : ∀ {ps acc : List Sy}, (∀ p ∈ ps, (bondsS p).length ≤ 256) → (ps.foldl (fun a p => (bondsS p).foldl ins a) acc).length ≤ acc.length + 256 * ps.length
  | [], acc, _ => by simp
  | q :: ps, acc, h => by
    rw [List.foldl_cons]
    have h1 := len_insP (ps := ps) (acc := (bondsS q).foldl ins acc) fun p hp => h p (List.mem_cons_of_mem _ hp)
    have h2 := len_insL (l := bondsS q) (acc := acc)
    have h3 := h q List.mem_cons_self
    simp
    omega
theorem bonds_in_eq : ∀ (s : Sy) (n : Nat), deep s ≤ n → goodS s = true → deep s ≤ 8 → f_bonds_in n [.py (enc s)] = some (.ok (.own (encL (bondsS s)) false) .none) := by
  have outer : ∀ (s : Sy) (f : Fn), (∀ p ∈ partsS s, f [.py (enc p)] = some (.ok (.own (encL (bondsS p)) false) .none)) → goodS s = true → deep s ≤ 8 →
      fnOf 5 none (b_bonds_in f) [.py (enc s)] = some (.ok (.own (encL (putOwn ((partsS s).foldl (fun a p => (bondsS p).foldl ins a) []) (ownB s))) false) .none) := by
    intro s f hf hg hd
    have hparts := parts_eq s
    have oks : Ok s := ⟨hg, by omega⟩
    have okp : ∀ p ∈ partsS s, ∀ b ∈ bondsS p, Ok b := fun p hp b hb => bonds_Ok (goodS_parts hg hp) (by have := deep_parts hp; omega) hb
    have lenp : ∀ p ∈ partsS s, (bondsS p).length ≤ 256 := fun p hp => by
      have := len_bonds p
      have h2 := deep_parts hp
      have : 2 ^ (deep p + 1) ≤ 2 ^ 8 := Nat.pow_le_pow_right (by decide) (by omega)
      omega
    have loop : ∃ p' b', forGo (gNm 2) (fFor (fItems (fCall 1 none f (fCons (fVar 2) fNil))) (gNm 3) (fIf (fB (f2 (oIn true) (fVar 3) (fVar 1))) (fDrop (fMet appE (fVar 1) (fCons (fVar 3) fNil))) fNx)) ((partsS s).map enc) (envB s [] none none)
        = some (.ok .nx (envB s ((partsS s).foldl (fun a p => (bondsS p).foldl ins a) []) p' b')) := by
      have gen : ∀ (ps : List Sy) (found : List Sy) (p b : Option Sy), (∀ q ∈ ps, q ∈ partsS s) → (∀ x ∈ found, Ok x) → found.length + 256 * ps.length ≤ 1000 →
          ∃ p' b', forGo (gNm 2) (fFor (fItems (fCall 1 none f (fCons (fVar 2) fNil))) (gNm 3) (fIf (fB (f2 (oIn true) (fVar 3) (fVar 1))) (fDrop (fMet appE (fVar 1) (fCons (fVar 3) fNil))) fNx)) (ps.map enc) (envB s found p b)
            = some (.ok .nx (envB s (ps.foldl (fun a p => (bondsS p).foldl ins a) found) p' b')) := by
        intro ps
        induction ps with
        | nil => intro found p b _ _ _; exact ⟨p, b, rfl⟩
        | cons q ps ih =>
          intro found p b hq hfo hl
          have hqm := hq q List.mem_cons_self
          have lq := lenp q hqm
          obtain ⟨b1, e1⟩ := bonds_inner s (some q) (bondsS q) found b (okp q hqm) hfo (by simp at hl; omega)
          obtain ⟨p2, b2, e2⟩ := ih ((bondsS q).foldl ins found) (some q) b1 (fun r hr => hq r (List.mem_cons_of_mem _ hr)) (fun x hx => by
            rcases mem_insL.mp hx with h | h
            · exact hfo x h
            · exact okp q hqm x h) (by
              have := len_insL (l := bondsS q) (acc := found)
              simp at hl
              omega)
          refine ⟨p2, b2, ?_⟩
          rw [List.map_cons, List.foldl_cons, ← e2]
          have e0 := hf q hqm
          simp only [envB, encL] at e1
          cases p <;> cases b <;> simp [envB, encL, e0] at e1 ⊢ <;> rw [e1] <;> rfl
      refine gen (partsS s) [] none none (fun _ h => h) (by simp) ?_
      cases s <;> simp [partsS]
    obtain ⟨p', b', loop⟩ := loop
    have okF : ∀ x ∈ (partsS s).foldl (fun a p => (bondsS p).foldl ins a) [], Ok x := fun x hx => by
      rcases mem_insP.mp hx with h | ⟨p, hp, h⟩
      · cases h
      · exact okp p hp x h
    have lF : ((partsS s).foldl (fun a p => (bondsS p).foldl ins a) []).length ≤ 512 := by
      have h1 := len_insP (ps := partsS s) (acc := []) lenp
      have h2 : (partsS s).length ≤ 2 := by cases s <;> simp [partsS]
      simp at h1
      omega
    generalize hF : (partsS s).foldl (fun a p => (bondsS p).foldl ins a) [] = F at *
    have oko : ∀ x ∈ ownB s, Ok x := fun x hx => by
      obtain ⟨h1, h2⟩ := own_ok hg hx
      exact ⟨h1, by omega⟩
    have lo : (ownB s).length ≤ 2 := by cases s <;> simp [ownB]
    have fin : fComp (fItems (fVar 4)) (gNm 3) (fB (f2 (oIn true) (fVar 3) (fVar 1))) (fVar 3) [3] [some (.sh (.py (enc s))), some (.own (encL F) false), locS p', locS b', some (.sh (.py (encL (ownB s))))] = some (.ok (.own (encL ((ownB s).filter fun b => decide (b ∉ F))) false) [some (.sh (.py (enc s))), some (.own (encL F) false), locS p', locS b', some (.sh (.py (encL (ownB s))))]) := by
      refine comp_pureF (ownB s) enc (fun b => decide (b ∉ F)) enc (by simp [encL]) (by simp only [big]; omega) (by cases b' <;> rfl) fun x hx => ?_
      have i1 := inOk_enc (oko x hx) okF
      have i2 := memP_enc x F
      cases b' <;> cases p' <;> by_cases hm : x ∈ F <;> simp [encL, i1, i2, hm]
    have hl : F.length + ((ownB s).filter fun b => decide (b ∉ F)).length ≤ big := by
      have := List.length_filter_le (fun b => decide (b ∉ F)) (ownB s)
      simp only [big]
      omega
    rw [fnOf_eq]
    unfold b_bonds_in
    simp only [envB, encL, List.map_nil, locS_none] at loop
    have hag := again_as_eq
    simp only [encL] at fin
    simp [hparts, encL, loop]
    have n0 : noOwn [some (Ent.sh (D.py (enc s))), some (.own (encL F) false), locS p', locS b', some (.sh (.py (encL (ownB s))))] [3] = true := by cases b' <;> rfl
    cases s with
    | next s0 => simp [enc, inOk, memP, flatP, ownB] at fin hl ⊢; simp [fin, hl, putOwn]
    | till s0 t0 => simp [enc, inOk, memP, flatP, ownB] at fin hl ⊢; simp [fin, hl, putOwn]
    | always s0 => simp [enc, inOk, memP, flatP, ownB] at fin hl ⊢; simp [fin, hl, putOwn]
    | again s0 =>
      have hag := hag s0
      simp [enc, encL, inOk, memP, flatP, ownB] at fin hag hl ⊢
      simp [fin, hl, hag, putOwn]
    | mark m => simp [enc, inOk, memP, flatP, ownB] at fin hl ⊢; simp [fin, hl, putOwn]
    | yes => simp [enc, inOk, memP, flatP, ownB] at fin hl ⊢; simp [fin, hl, putOwn]
    | not s0 => simp [enc, inOk, memP, flatP, ownB] at fin hl ⊢; simp [fin, hl, putOwn]
    | and s0 t0 => simp [enc, inOk, memP, flatP, ownB] at fin hl ⊢; simp [fin, hl, putOwn]
    | or s0 t0 => simp [enc, inOk, memP, flatP, ownB] at fin hl ⊢; simp [fin, hl, putOwn]
  intro s n
  induction n generalizing s with
  | zero => intro h _ _; have := deep_pos s; omega
  | succ n ih =>
    intro hn hg hd
    have e : bondsS s = putOwn ((partsS s).foldl (fun a p => (bondsS p).foldl ins a) []) (ownB s) := by cases s <;> simp [bondsS, partsS]
    rw [e]
    exact outer s (f_bonds_in n) (fun p hp => ih p (by have := deep_parts hp; omega) (goodS_parts hg hp) (by have := deep_parts hp; omega)) hg hd
end LawX

set_option Elab.async false
set_option linter.all false
set_option autoImplicit false
set_option maxRecDepth 100000
namespace LawX
open PySem L2 VL Ltl
def uses : Sy → List Sy
  | .mark _ => []
  | .yes => []
  | .not s => uses s
  | .and s t => uses s ++ uses t
  | .or s t => uses s ++ uses t
  | .next s => [.next s]
  | .till s t => [.till s t]
  | .always s => [.always s]
  | .again s => [.always (onceS s)]
/-- the saying's truth at a mark, by a guess -/
def soB (m : Str) (bs : List Sy) (g : List Bool) : Sy → Bool
  | .mark a => m == a
  | .yes => true
  | .not s => !soB m bs g s
  | .and s t => soB m bs g s && soB m bs g t
  | .or s t => soB m bs g s || soB m bs g t
  | .next s => getB g (bs.idxOf (.next s))
  | .till s t => getB g (bs.idxOf (.till s t))
  | .always s => getB g (bs.idxOf (.always s))
  | .again s => getB g (bs.idxOf (.always (onceS s)))
abbrev gT (g : List Bool) : PyData := .tuple (g.map .bool)
theorem idx_lt {bs : List Sy} {g : List Bool} {s : Sy} (h : s ∈ bs) (hl : bs.length ≤ g.length) : bs.idxOf s < g.length := Nat.lt_of_lt_of_le (List.idxOf_lt_length_of_mem h) hl
section
variable {m : Str} {bs : List Sy} {g : List Bool} (hb : ∀ b ∈ bs, Ok b) (hl : bs.length ≤ g.length)
include hb hl
theorem at_idx {s : Sy} (h : s ∈ bs) : (g.map PyData.bool)[bs.idxOf s]? = some (.bool (getB g (bs.idxOf s))) := atB (idx_lt h hl)
theorem is_so_eq : ∀ (s : Sy) (n : Nat), deep s ≤ n → (∀ u ∈ uses s, u ∈ bs) → f_is_so n [.py (enc s), .py (.str m), .py (encL bs), .py (gT g)] = some (.ok (py (.bool (soB m bs g s))) .none) := by
  have sl := shaped_encL hb
  intro s
  induction s with
  | mark a =>
    intro n hn hu
    obtain ⟨n, rfl⟩ : ∃ k, n = k + 1 := ⟨n - 1, by simp [deep] at hn; omega⟩
    rw [show f_is_so (n + 1) = fnOf 7 none (b_is_so (f_is_so n)) from rfl, fnOf_eq]
    unfold b_is_so
    simp [enc, soB]
  | yes =>
    intro n hn hu
    obtain ⟨n, rfl⟩ : ∃ k, n = k + 1 := ⟨n - 1, by simp [deep] at hn; omega⟩
    rw [show f_is_so (n + 1) = fnOf 7 none (b_is_so (f_is_so n)) from rfl, fnOf_eq]
    unfold b_is_so
    simp [enc, soB]
  | not s ih =>
    intro n hn hu
    obtain ⟨n, rfl⟩ : ∃ k, n = k + 1 := ⟨n - 1, by simp [deep] at hn; omega⟩
    rw [show f_is_so (n + 1) = fnOf 7 none (b_is_so (f_is_so n)) from rfl, fnOf_eq]
    unfold b_is_so
    have e1 := ih n (by simp [deep] at hn; omega) hu
    simp [enc, e1, soB, inOk, memP, flatP]
  | and s t ih1 ih2 =>
    intro n hn hu
    obtain ⟨n, rfl⟩ : ∃ k, n = k + 1 := ⟨n - 1, by simp [deep] at hn; omega⟩
    rw [show f_is_so (n + 1) = fnOf 7 none (b_is_so (f_is_so n)) from rfl, fnOf_eq]
    unfold b_is_so
    have e1 := ih1 n (by simp [deep] at hn; omega) fun u h => hu u (List.mem_append_left _ h)
    have e2 := ih2 n (by simp [deep] at hn; omega) fun u h => hu u (List.mem_append_right _ h)
    cases h1 : soB m bs g s <;> simp [enc, e1, e2, h1, soB, inOk, memP, flatP]
  | or s t ih1 ih2 =>
    intro n hn hu
    obtain ⟨n, rfl⟩ : ∃ k, n = k + 1 := ⟨n - 1, by simp [deep] at hn; omega⟩
    rw [show f_is_so (n + 1) = fnOf 7 none (b_is_so (f_is_so n)) from rfl, fnOf_eq]
    unfold b_is_so
    have e1 := ih1 n (by simp [deep] at hn; omega) fun u h => hu u (List.mem_append_left _ h)
    have e2 := ih2 n (by simp [deep] at hn; omega) fun u h => hu u (List.mem_append_right _ h)
    cases h1 : soB m bs g s <;> simp [enc, e1, e2, h1, soB, inOk, memP, flatP]
  | next s ih =>
    intro n hn hu
    obtain ⟨n, rfl⟩ : ∃ k, n = k + 1 := ⟨n - 1, by simp [deep] at hn; omega⟩
    rw [show f_is_so (n + 1) = fnOf 7 none (b_is_so (f_is_so n)) from rfl, fnOf_eq]
    unfold b_is_so
    have hm := hu _ (List.mem_singleton.mpr rfl)
    have e1 := fun ρ => idxL_ok (ρ := ρ) sl (hb _ hm).shaped (idxP_enc _ hm)
    have e2 := at_idx hb hl hm
    simp only [enc] at e1
    simp [enc, e1, e2, soB, inOk, memP, flatP]
  | till s t ih1 ih2 =>
    intro n hn hu
    obtain ⟨n, rfl⟩ : ∃ k, n = k + 1 := ⟨n - 1, by simp [deep] at hn; omega⟩
    rw [show f_is_so (n + 1) = fnOf 7 none (b_is_so (f_is_so n)) from rfl, fnOf_eq]
    unfold b_is_so
    have hm := hu _ (List.mem_singleton.mpr rfl)
    have e1 := fun ρ => idxL_ok (ρ := ρ) sl (hb _ hm).shaped (idxP_enc _ hm)
    have e2 := at_idx hb hl hm
    simp only [enc] at e1
    simp [enc, e1, e2, soB, inOk, memP, flatP]
  | always s ih =>
    intro n hn hu
    obtain ⟨n, rfl⟩ : ∃ k, n = k + 1 := ⟨n - 1, by simp [deep] at hn; omega⟩
    rw [show f_is_so (n + 1) = fnOf 7 none (b_is_so (f_is_so n)) from rfl, fnOf_eq]
    unfold b_is_so
    have hm := hu _ (List.mem_singleton.mpr rfl)
    have e1 := fun ρ => idxL_ok (ρ := ρ) sl (hb _ hm).shaped (idxP_enc _ hm)
    have e2 := at_idx hb hl hm
    simp only [enc] at e1
    simp [enc, e1, e2, soB, inOk, memP, flatP]
  | again s ih =>
    intro n hn hu
    obtain ⟨n, rfl⟩ : ∃ k, n = k + 1 := ⟨n - 1, by simp [deep] at hn; omega⟩
    rw [show f_is_so (n + 1) = fnOf 7 none (b_is_so (f_is_so n)) from rfl, fnOf_eq]
    unfold b_is_so
    have hm := hu _ (List.mem_singleton.mpr rfl)
    have e1 := fun ρ => idxL_ok (ρ := ρ) sl (hb _ hm).shaped (idxP_enc _ hm)
    have e2 := at_idx hb hl hm
    have hag := again_as_eq s
    simp only [enc, encL, List.map_cons, List.map_nil] at e1 hag
    simp [enc, e1, e2, hag, soB, inOk, memP, flatP]
end
/-! ### what goes on to what -/
def keptB (bs : List Sy) (m m' : Str) (g g' : List Bool) (k : Nat) : Sy → Bool
  | .next s => getB g k == soB m' bs g' s
  | .always s => getB g k == (soB m bs g s && getB g' k)
  | .till s t => getB g k == (soB m bs g t || (soB m bs g s && getB g' k))
  | _ => false
abbrev nowP (m : Str) (g : List Bool) : PyData := .tuple [.str m, gT g]
def isBond : Sy → Bool
  | .next _ => true
  | .always _ => true
  | .till _ _ => true
  | _ => false
/-- a bond all of whose parts may be asked -/
structure BOk (bs : List Sy) (b : Sy) : Prop where
  is : isBond b = true
  d : deep b ≤ 9
  u : ∀ p ∈ partsS b, ∀ u ∈ uses p, u ∈ bs
section
variable {m m' : Str} {bs : List Sy} {g g' : List Bool} (hb : ∀ b ∈ bs, Ok b) (hl : bs.length ≤ g.length) (hl' : bs.length ≤ g'.length)
include hb hl hl'
theorem is_kept_eq {b : Sy} {k : Nat} (h : BOk bs b) (hk : k < g.length) (hk' : k < g'.length) : f_is_kept [.py (enc b), .py (nowP m g), .py (nowP m' g'), .py (encL bs), .py (.int k)] = some (.ok (py (.bool (keptB bs m m' g g' k b))) .none) := by
  unfold f_is_kept b_is_kept
  rw [fnOf_eq]
  have a1 := atB hk
  have a2 := atB hk'
  obtain ⟨hi, hd, hu⟩ := h
  cases b with
  | next s =>
    have e1 := is_so_eq (m := m') hb hl' s 8 (by simp [deep] at hd; omega) (hu s (by simp [partsS]))
    simp [enc, e1, a1, keptB]
  | always s =>
    have e1 := is_so_eq (m := m) hb hl s 8 (by simp [deep] at hd; omega) (hu s (by simp [partsS]))
    cases h1 : soB m bs g s <;> simp [enc, e1, h1, a1, a2, keptB]
  | till s t =>
    have e1 := is_so_eq (m := m) hb hl s 8 (by simp [deep] at hd; omega) (hu s (by simp [partsS]))
    have e2 := is_so_eq (m := m) hb hl t 8 (by simp [deep] at hd; omega) (hu t (by simp [partsS]))
    cases h1 : soB m bs g s <;> cases h2 : soB m bs g t <;> simp [enc, e1, e2, h1, h2, a1, a2, keptB]
  | mark _ => cases hi
  | yes => cases hi
  | not _ => cases hi
  | and _ _ => cases hi
  | or _ _ => cases hi
  | again _ => cases hi
end
end LawX

set_option Elab.async false
set_option linter.all false
set_option autoImplicit false
set_option maxRecDepth 100000
namespace LawX
open PySem L2 VL Ltl
theorem enumD_enc (l : List Sy) : enumD (l.map enc) = (List.range l.length).map fun k : Nat => PyData.tuple [.int k, enc (l.getD k .yes)] := by
  refine List.ext_getElem (by simp [enumD]) fun k h1 h2 => ?_
  simp only [enumD, List.getElem_mapIdx, List.getElem_map, List.getElem_range]
  have hk : k < l.length := by simpa using h2
  rw [List.getD_eq_getElem?_getD, List.getElem?_eq_getElem hk]
  rfl
def goesB (bs : List Sy) (m m' : Str) (g g' : List Bool) : Bool := (List.range bs.length).all fun k => keptB bs m m' g g' k (bs.getD k .yes)
section
variable {m m' : Str} {bs : List Sy} {g g' : List Bool} (hb : ∀ b ∈ bs, Ok b) (hB : ∀ b ∈ bs, BOk bs b) (hn : bs.length ≤ 1000)
include hb hB hn
theorem goes_on_eq (hl : bs.length = g.length) (hl' : bs.length = g'.length) : f_goes_on [.py (encL bs), .py (nowP m g), .py (nowP m' g')] = some (.ok (py (.bool (goesB bs m m' g g'))) .none) := by
  unfold f_goes_on b_goes_on
  rw [fnOf_eq]
  simp
  rw [comp_pure (List.range bs.length) (fun k : Nat => .tuple [.int k, enc (bs.getD k .yes)]) (fun k => .bool (keptB bs m m' g g' k (bs.getD k .yes))) (by simp [enumD_enc]) (by rw [List.length_range]; simp only [big]; omega) rfl (by
    intro k hk
    have hk := List.mem_range.mp hk
    have hm : bs.getD k .yes ∈ bs := by
      rw [List.getD_eq_getElem?_getD, List.getElem?_eq_getElem hk]
      exact List.getElem_mem _
    have e1 := is_kept_eq (m := m) (m' := m') hb (by omega : bs.length ≤ g.length) (by omega : bs.length ≤ g'.length) (hB _ hm) (k := k) (by omega) (by omega)
    simp only [List.getD_eq_getElem?_getD] at e1 ⊢
    simp [e1])]
  have e2 := dQuant_list (fun bs => bs.all fun b => b) ((List.range bs.length).map fun k => keptB bs m m' g g' k (bs.getD k .yes))
  rw [List.map_map] at e2
  have e3 : (List.range bs.length).map (PyData.bool ∘ fun k => keptB bs m m' g g' k (bs.getD k .yes)) = (List.range bs.length).map fun k => PyData.bool (keptB bs m m' g g' k (bs.getD k .yes)) := rfl
  rw [e3] at e2
  simp only [List.getD_eq_getElem?_getD] at e2 ⊢
  simp [e2, goesB, List.all_map, Function.comp_def]
end
/-! ### promises -/
def notNext : Sy → Bool
  | .next _ => false
  | _ => true
def promP : Option Sy → PyData
  | none => .none
  | some b => enc b
def promsL (bs : List Sy) : List PyData := .none :: (bs.filter notNext).map enc
theorem head_ne {b : Sy} (h : isBond b = true) : ∃ w r, enc b = .tuple (.str w :: r) ∧ (!(w == Str.ofString "next")) = notNext b := by
  cases b <;> simp [isBond] at h <;> exact ⟨_, _, rfl, by simp [notNext]⟩
theorem proms_comp {bs : List Sy} (hB : ∀ b ∈ bs, isBond b = true) (hn : bs.length ≤ 1000) {i : Nat} {src : M (List PyData)} {ρ : DEnv} (hs : src ρ = some (.ok (bs.map enc) ρ)) (hi : i < ρ.length) (he : ρ[i]? = some none) :
    fComp src (gNm i) (fB (f2 oNe (f2 oIx (fVar i) (fC (.int 0))) (fC (.str (Str.ofString "next"))))) (fVar i) [i] ρ = some (.ok (.own (encL (bs.filter notNext)) false) ρ) := by
  refine comp_pureF bs enc notNext enc hs (by simp only [big]; omega) (by simp [noOwn, he]) fun b hb => ?_
  obtain ⟨w, r, e1, e2⟩ := head_ne (hB b hb)
  have e3 : (ρ.set i none)[i]? = some none := List.getElem?_set_self hi
  cases h : w == Str.ofString "next"
  · have : notNext b = true := by rw [← e2, h]; rfl
    simp [e1, hi, h, this]
  · have : notNext b = false := by rw [← e2, h]; rfl
    simp [e1, hi, h, this]
end LawX

set_option Elab.async false
set_option linter.all false
set_option autoImplicit false
set_option maxRecDepth 100000
namespace LawX
open PySem L2 VL Ltl
theorem bonds_are : ∀ (n : Nat) (s b : Sy), deep s ≤ n → b ∈ bondsS s → isBond b = true
  | 0, s, b, hn, _ => by have := deep_pos s; omega
  | n + 1, s, b, hn, hb => by
    rcases mem_bonds.mp hb with ⟨p, hp, hb⟩ | hb
    · exact bonds_are n p b (by have := deep_parts hp; omega) hb
    · cases s <;> simp [ownB] at hb
      · subst hb; rfl
      · subst hb; rfl
      · subst hb; rfl
      · rcases hb with rfl | rfl <;> rfl
theorem bonds_len {s : Sy} (hd : deep s ≤ 8) : (bondsS s).length ≤ 1000 := by
  have := len_bonds s
  have h2 : 2 ^ (deep s + 1) ≤ 2 ^ 9 := Nat.pow_le_pow_right (by decide) (by omega)
  omega
theorem promises_of_eq {s : Sy} (hg : goodS s = true) (hd : deep s ≤ 7) : f_promises_of [.py (enc s)] = some (.ok (.own (.list (promsL (bondsS s))) false) .none) := by
  unfold f_promises_of b_promises_of
  rw [fnOf_eq]
  have e1 := bonds_in_eq s 7 hd hg (by omega)
  have hn := bonds_len (s := s) (by omega)
  simp
  rw [proms_comp (bs := bondsS s) (fun b hb => bonds_are _ s b (Nat.le_refl _) hb) hn (by simp [e1]) (by simp) (by simp)]
  have hl : 1 + ((bondsS s).filter notNext).length ≤ big := by
    have := List.length_filter_le notNext (bondsS s)
    simp only [big]
    omega
  simp [hl, promsL]
/-- is the promise met -/
def metB (m : Str) (bs : List Sy) (g : List Bool) : Option Sy → Bool
  | none => true
  | some (.till a b) => !getB g (bs.idxOf (.till a b)) || soB m bs g b
  | some (.always a) => getB g (bs.idxOf (.always a)) || !soB m bs g a
  | some _ => false
section
variable {m : Str} {bs : List Sy} {g : List Bool} (hb : ∀ b ∈ bs, Ok b) (hl : bs.length ≤ g.length)
include hb hl
theorem is_met_eq {p : Option Sy} (hp : ∀ b, p = some b → b ∈ bs ∧ BOk bs b ∧ notNext b = true) : f_is_met [.py (promP p), .py (.str m), .py (encL bs), .py (gT g)] = some (.ok (py (.bool (metB m bs g p))) .none) := by
  unfold f_is_met b_is_met
  rw [fnOf_eq]
  have sl := shaped_encL hb
  cases p with
  | none => simp [promP, isNo, metB]
  | some b =>
    obtain ⟨hm, ⟨hi, hd, hu⟩, hnn⟩ := hp b rfl
    have e1 := fun ρ => idxL_ok (ρ := ρ) sl (hb _ hm).shaped (idxP_enc _ hm)
    have e2 := at_idx hb hl hm
    cases b with
    | till s t =>
      have e3 := is_so_eq (m := m) hb hl t 8 (by simp [deep] at hd; omega) (hu t (by simp [partsS]))
      simp only [enc] at e1
      cases h1 : getB g (bs.idxOf (.till s t)) <;> simp [h1] at e2 <;> simp [promP, enc, isNo, e1, e2, e3, h1, metB]
    | always s =>
      have e3 := is_so_eq (m := m) hb hl s 8 (by simp [deep] at hd; omega) (hu s (by simp [partsS]))
      simp only [enc] at e1
      cases h1 : getB g (bs.idxOf (.always s)) <;> simp [h1] at e2 <;> simp [promP, enc, isNo, e1, e2, e3, h1, metB]
    | next s => cases hnn
    | mark _ => cases hi
    | yes => cases hi
    | not _ => cases hi
    | and _ _ => cases hi
    | or _ _ => cases hi
    | again _ => cases hi
/-- the law's own -/
theorem law_so_eq (hB : ∀ b ∈ bs, isBond b = true) : ∀ (s : Sy) (n : Nat), deep s ≤ n → (∀ u ∈ uses s, u ∈ bs) → Ok s → f_law_so n [.py (enc s), .py (.str m), .py (encL bs), .py (gT g)] = some (.ok (py (.bool (soB m bs g s))) .none) := by
  have sl := shaped_encL hb
  have i1 : ∀ s, Ok s → inOk (enc s) (bs.map enc) true = true := fun s h => inOk_enc h hb
  have i2 := fun s => memP_enc s bs
  have nb : ∀ s, isBond s = false → decide (s ∈ bs) = false := fun s h => decide_eq_false fun hm => by rw [hB s hm] at h; cases h
  intro s
  induction s with
  | mark a =>
    intro n hn hu ho
    obtain ⟨n, rfl⟩ : ∃ k, n = k + 1 := ⟨n - 1, by simp [deep] at hn; omega⟩
    rw [show f_law_so (n + 1) = fnOf 7 none (b_law_so (f_law_so n)) from rfl, fnOf_eq]
    unfold b_law_so
    simp [enc, soB]
  | yes =>
    intro n hn hu ho
    obtain ⟨n, rfl⟩ : ∃ k, n = k + 1 := ⟨n - 1, by simp [deep] at hn; omega⟩
    rw [show f_law_so (n + 1) = fnOf 7 none (b_law_so (f_law_so n)) from rfl, fnOf_eq]
    unfold b_law_so
    simp [enc, soB]
  | not s ih =>
    intro n hn hu ho
    obtain ⟨n, rfl⟩ : ∃ k, n = k + 1 := ⟨n - 1, by simp [deep] at hn; omega⟩
    rw [show f_law_so (n + 1) = fnOf 7 none (b_law_so (f_law_so n)) from rfl, fnOf_eq]
    unfold b_law_so
    have e1 := ih n (by simp [deep] at hn; omega) hu ⟨ho.g, by have := ho.d; simp [deep] at this; omega⟩
    have j1 := i1 _ ho
    have j2 := (i2 (.not s)).trans (nb _ rfl)
    simp only [enc] at j1 j2
    simp [enc, j1, j2]
    rw [comp_pure [s] enc (fun x => .bool (soB m bs g x)) (by simp [cut1]) (by simp [big]) rfl (by simp [e1])]
    simp [soB]
  | and s t ih1 ih2 =>
    intro n hn hu ho
    obtain ⟨n, rfl⟩ : ∃ k, n = k + 1 := ⟨n - 1, by simp [deep] at hn; omega⟩
    rw [show f_law_so (n + 1) = fnOf 7 none (b_law_so (f_law_so n)) from rfl, fnOf_eq]
    unfold b_law_so
    obtain ⟨g1, g2⟩ := Bool.and_eq_true_iff.mp ho.g
    have e1 := ih1 n (by simp [deep] at hn; omega) (fun u h => hu u (List.mem_append_left _ h)) ⟨g1, by have := ho.d; simp [deep] at this; omega⟩
    have e2 := ih2 n (by simp [deep] at hn; omega) (fun u h => hu u (List.mem_append_right _ h)) ⟨g2, by have := ho.d; simp [deep] at this; omega⟩
    have j1 := i1 _ ho
    have j2 := (i2 (.and s t)).trans (nb _ rfl)
    simp only [enc] at j1 j2
    simp [enc, j1, j2]
    rw [comp_pure [s, t] enc (fun x => .bool (soB m bs g x)) (by simp [cut1]) (by simp [big]) rfl (by simp [e1, e2])]
    cases h1 : soB m bs g s <;> cases h2 : soB m bs g t <;> simp [soB, h1, h2, dInt]
  | or s t ih1 ih2 =>
    intro n hn hu ho
    obtain ⟨n, rfl⟩ : ∃ k, n = k + 1 := ⟨n - 1, by simp [deep] at hn; omega⟩
    rw [show f_law_so (n + 1) = fnOf 7 none (b_law_so (f_law_so n)) from rfl, fnOf_eq]
    unfold b_law_so
    obtain ⟨g1, g2⟩ := Bool.and_eq_true_iff.mp ho.g
    have e1 := ih1 n (by simp [deep] at hn; omega) (fun u h => hu u (List.mem_append_left _ h)) ⟨g1, by have := ho.d; simp [deep] at this; omega⟩
    have e2 := ih2 n (by simp [deep] at hn; omega) (fun u h => hu u (List.mem_append_right _ h)) ⟨g2, by have := ho.d; simp [deep] at this; omega⟩
    have j1 := i1 _ ho
    have j2 := (i2 (.or s t)).trans (nb _ rfl)
    simp only [enc] at j1 j2
    simp [enc, j1, j2]
    rw [comp_pure [s, t] enc (fun x => .bool (soB m bs g x)) (by simp [cut1]) (by simp [big]) rfl (by simp [e1, e2])]
    cases h1 : soB m bs g s <;> cases h2 : soB m bs g t <;> simp [soB, h1, h2, dInt]
  | next s ih =>
    intro n hn hu ho
    obtain ⟨n, rfl⟩ : ∃ k, n = k + 1 := ⟨n - 1, by simp [deep] at hn; omega⟩
    rw [show f_law_so (n + 1) = fnOf 7 none (b_law_so (f_law_so n)) from rfl, fnOf_eq]
    unfold b_law_so
    have hm := hu _ (List.mem_singleton.mpr rfl)
    have e1 := fun ρ => idxL_ok (ρ := ρ) sl (hb _ hm).shaped (idxP_enc _ hm)
    have e2 := at_idx hb hl hm
    have j1 := i1 _ ho
    have j2 := (i2 (.next s)).trans (decide_eq_true hm)
    simp only [enc] at e1 j1 j2
    simp [enc, e1, e2, soB, j1, j2]
  | till s t ih1 ih2 =>
    intro n hn hu ho
    obtain ⟨n, rfl⟩ : ∃ k, n = k + 1 := ⟨n - 1, by simp [deep] at hn; omega⟩
    rw [show f_law_so (n + 1) = fnOf 7 none (b_law_so (f_law_so n)) from rfl, fnOf_eq]
    unfold b_law_so
    have hm := hu _ (List.mem_singleton.mpr rfl)
    have e1 := fun ρ => idxL_ok (ρ := ρ) sl (hb _ hm).shaped (idxP_enc _ hm)
    have e2 := at_idx hb hl hm
    have j1 := i1 _ ho
    have j2 := (i2 (.till s t)).trans (decide_eq_true hm)
    simp only [enc] at e1 j1 j2
    simp [enc, e1, e2, soB, j1, j2]
  | always s ih =>
    intro n hn hu ho
    obtain ⟨n, rfl⟩ : ∃ k, n = k + 1 := ⟨n - 1, by simp [deep] at hn; omega⟩
    rw [show f_law_so (n + 1) = fnOf 7 none (b_law_so (f_law_so n)) from rfl, fnOf_eq]
    unfold b_law_so
    have hm := hu _ (List.mem_singleton.mpr rfl)
    have e1 := fun ρ => idxL_ok (ρ := ρ) sl (hb _ hm).shaped (idxP_enc _ hm)
    have e2 := at_idx hb hl hm
    have j1 := i1 _ ho
    have j2 := (i2 (.always s)).trans (decide_eq_true hm)
    simp only [enc] at e1 j1 j2
    simp [enc, e1, e2, soB, j1, j2]
  | again s ih =>
    intro n hn hu ho
    obtain ⟨n, rfl⟩ : ∃ k, n = k + 1 := ⟨n - 1, by simp [deep] at hn; omega⟩
    rw [show f_law_so (n + 1) = fnOf 7 none (b_law_so (f_law_so n)) from rfl, fnOf_eq]
    unfold b_law_so
    have hm := hu _ (List.mem_singleton.mpr rfl)
    have e1 := fun ρ => idxL_ok (ρ := ρ) sl (hb _ hm).shaped (idxP_enc _ hm)
    have e2 := at_idx hb hl hm
    simp only [enc, onceS] at e1
    simp only [onceS] at e2
    simp [enc, onceS, e1, e2, soB]
theorem meets_eq (hB : ∀ b ∈ bs, isBond b = true) {p : Option Sy} (hp : ∀ b, p = some b → b ∈ bs ∧ BOk bs b ∧ notNext b = true) : f_law_meets [.py (promP p), .py (.str m), .py (encL bs), .py (gT g)] = some (.ok (py (.bool (metB m bs g p))) .none) := by
  unfold f_law_meets b_law_meets
  rw [fnOf_eq]
  have sl := shaped_encL hb
  cases p with
  | none => simp [promP, isNo, metB]
  | some b =>
    obtain ⟨hm, ⟨hi, hd, hu⟩, hnn⟩ := hp b rfl
    have e1 := fun ρ => idxL_ok (ρ := ρ) sl (hb _ hm).shaped (idxP_enc _ hm)
    have e2 := at_idx hb hl hm
    have og := (hb _ hm).g
    cases b with
    | till s t =>
      obtain ⟨g1, g2⟩ := Bool.and_eq_true_iff.mp og
      have e3 := law_so_eq (m := m) hb hl hB t 8 (by simp [deep] at hd; omega) (hu t (by simp [partsS])) ⟨g2, by simp [deep] at hd; omega⟩
      simp only [enc] at e1
      cases h1 : getB g (bs.idxOf (.till s t)) <;> simp [h1] at e2 <;> simp [promP, enc, isNo, e1, e2, e3, h1, metB]
    | always s =>
      have e3 := law_so_eq (m := m) hb hl hB s 8 (by simp [deep] at hd; omega) (hu s (by simp [partsS])) ⟨og, by simp [deep] at hd; omega⟩
      simp only [enc] at e1
      cases h1 : getB g (bs.idxOf (.always s)) <;> simp [h1] at e2 <;> simp [promP, enc, isNo, e1, e2, e3, h1, metB]
    | next s => cases hnn
    | mark _ => cases hi
    | yes => cases hi
    | not _ => cases hi
    | and _ _ => cases hi
    | or _ _ => cases hi
    | again _ => cases hi
end
end LawX

set_option Elab.async false
set_option linter.all false
set_option autoImplicit false
set_option maxRecDepth 100000
namespace LawX
open PySem L2 VL Ltl
/-! ### all guesses -/
def allG : Nat → List (List Bool)
  | 0 => [[]]
  | n + 1 => (allG n).map (· ++ [false]) ++ (allG n).map (· ++ [true])
theorem allG_len : ∀ n, (allG n).length = 2 ^ n
  | 0 => rfl
  | n + 1 => by
    simp only [allG, List.length_append, List.length_map, allG_len n]
    rw [Nat.pow_succ]
    omega
theorem allG_each : ∀ n, ∀ g ∈ allG n, g.length = n
  | 0, g, h => by simp [allG] at h; subst h; rfl
  | n + 1, g, h => by
    simp only [allG, List.mem_append, List.mem_map] at h
    rcases h with ⟨x, hx, rfl⟩ | ⟨x, hx, rfl⟩ <;> simp [allG_each n x hx]
theorem all_guesses_eq {bs : List Sy} (hn : bs.length ≤ 8) : f_all_guesses [.py (encL bs)] = some (.ok (py (.list ((allG bs.length).map gT))) .none) := by
  unfold f_all_guesses b_all_guesses
  rw [fnOf_eq]
  have step : ∀ (L : List (List Bool)) (b : Bool) (o r : Option Ent) (ho : o = none ∨ ∃ d, o = some (py d)), L.length ≤ 256 → (∀ g ∈ L, g.length ≤ 8) →
      fComp (fItems (fVar 1)) (gNm 3) (ret true) (f2 oAdd (fVar 3) (fTup (fCons (fC (.bool b)) fNil))) [3] [some (.sh (.py (encL bs))), some (.sh (.py (.list (L.map gT)))), o, none]
        = some (.ok (.own (.list ((L.map (· ++ [b])).map gT)) false) [some (.sh (.py (encL bs))), some (.sh (.py (.list (L.map gT)))), o, none]) := by
    intro L b o r ho hL hg
    rw [comp_pure L gT (fun g => gT (g ++ [b])) (by simp) (by simp only [big]; omega) rfl (by
      intro g hg'
      have := hg g hg'
      have h2 : g.length + 1 ≤ big := by simp only [big]; omega
      simp [gT, h2])]
    rw [List.map_map]
    rfl
  have loop : ∀ (l : List Sy) (n : Nat) (o : Option Sy), n + l.length ≤ 8 → ∃ o', forGo (gNm 2) (fSet 1 (fSh (f2 oAdd (fComp (fItems (fVar 1)) (gNm 3) (ret true) (f2 oAdd (fVar 3) (fTup (fCons (fC (.bool false)) fNil))) [3]) (fComp (fItems (fVar 1)) (gNm 3) (ret true) (f2 oAdd (fVar 3) (fTup (fCons (fC (.bool true)) fNil))) [3])))) (l.map enc)
      [some (.sh (.py (encL bs))), some (.sh (.py (.list ((allG n).map gT)))), locS o, none] = some (.ok .nx [some (.sh (.py (encL bs))), some (.sh (.py (.list ((allG (n + l.length)).map gT)))), locS o', none]) := by
    intro l
    induction l with
    | nil => intro n o _; exact ⟨o, rfl⟩
    | cons x l ih =>
      intro n o hl
      obtain ⟨o', e⟩ := ih (n + 1) (some x) (by simp at hl; omega)
      refine ⟨o', ?_⟩
      rw [List.map_cons, List.length_cons, show n + (l.length + 1) = n + 1 + l.length by omega, ← e]
      have hG : (allG n).length ≤ 256 := by
        rw [allG_len]
        have : 2 ^ n ≤ 2 ^ 8 := Nat.pow_le_pow_right (by decide) (by simp at hl; omega)
        omega
      have hE : ∀ g ∈ allG n, g.length ≤ 8 := fun g hg => by rw [allG_each n g hg]; simp at hl; omega
      have s1 := step (allG n) false (some (py (enc x))) none (.inr ⟨_, rfl⟩) hG hE
      have s2 := step (allG n) true (some (py (enc x))) none (.inr ⟨_, rfl⟩) hG hE
      have hb : (allG n).length + (allG n).length ≤ big := by simp only [big]; omega
      cases o <;> simp [s1, s2, hb, allG]
  obtain ⟨o', loop⟩ := loop bs 0 none (by omega)
  simp only [locS_none, Nat.zero_add] at loop
  have gn : gT [] = .tuple [] := rfl
  simp [allG, gn] at loop
  simp [loop]
/-! ### the law's bonds -/
def allS : Sy → List Sy
  | .mark m => [.mark m]
  | .yes => [.yes]
  | .not s => .not s :: allS s
  | .and s t => .and s t :: (allS s ++ allS t)
  | .or s t => .or s t :: (allS s ++ allS t)
  | .next s => .next s :: allS s
  | .till s t => .till s t :: (allS s ++ allS t)
  | .always s => .always s :: allS s
  | .again s => .again s :: allS s
theorem allS_len : ∀ s, (allS s).length + 1 ≤ 2 ^ deep s := by
  intro s
  induction s with
  | mark m => simp [allS, deep]
  | yes => simp [allS, deep]
  | not s ih => simp only [allS, deep, List.length_cons, Nat.pow_succ]; omega
  | next s ih => simp only [allS, deep, List.length_cons, Nat.pow_succ]; omega
  | always s ih => simp only [allS, deep, List.length_cons, Nat.pow_succ]; omega
  | again s ih => simp only [allS, deep, List.length_cons, Nat.pow_succ]; omega
  | and s t ih1 ih2 =>
    have h1 : 2 ^ deep s ≤ 2 ^ max (deep s) (deep t) := Nat.pow_le_pow_right (by decide) (by omega)
    have h2 : 2 ^ deep t ≤ 2 ^ max (deep s) (deep t) := Nat.pow_le_pow_right (by decide) (by omega)
    simp only [allS, deep, List.length_cons, List.length_append, Nat.pow_succ]
    omega
  | or s t ih1 ih2 =>
    have h1 : 2 ^ deep s ≤ 2 ^ max (deep s) (deep t) := Nat.pow_le_pow_right (by decide) (by omega)
    have h2 : 2 ^ deep t ≤ 2 ^ max (deep s) (deep t) := Nat.pow_le_pow_right (by decide) (by omega)
    simp only [allS, deep, List.length_cons, List.length_append, Nat.pow_succ]
    omega
  | till s t ih1 ih2 =>
    have h1 : 2 ^ deep s ≤ 2 ^ max (deep s) (deep t) := Nat.pow_le_pow_right (by decide) (by omega)
    have h2 : 2 ^ deep t ≤ 2 ^ max (deep s) (deep t) := Nat.pow_le_pow_right (by decide) (by omega)
    simp only [allS, deep, List.length_cons, List.length_append, Nat.pow_succ]
    omega
theorem isiE (s : Sy) : dIsi "tuple" (enc s) = some (py (.bool true)) := by cases s <;> rfl
theorem isiStr (m : Str) : isiT (.str m) "tuple" = some false := rfl
theorem law_all_eq : ∀ (s : Sy) (n : Nat), deep s ≤ n → deep s ≤ 10 → f_law_all n [.py (enc s)] = some (.ok (py (encL (allS s))) .none) := by
  have hlen : ∀ s : Sy, deep s ≤ 10 → (allS s).length ≤ 1023 := fun s h => by
    have := allS_len s
    have h2 : 2 ^ deep s ≤ 2 ^ 10 := Nat.pow_le_pow_right (by decide) h
    omega
  intro s
  induction s with
  | mark m =>
    intro n hn hd
    obtain ⟨n, rfl⟩ : ∃ k, n = k + 1 := ⟨n - 1, by simp [deep] at hn; omega⟩
    rw [show f_law_all (n + 1) = fnOf 3 none (b_law_all (f_law_all n)) from rfl, fnOf_eq]
    unfold b_law_all
    simp [enc, cut1, isiStr, allS]
  | yes =>
    intro n hn hd
    obtain ⟨n, rfl⟩ : ∃ k, n = k + 1 := ⟨n - 1, by simp [deep] at hn; omega⟩
    rw [show f_law_all (n + 1) = fnOf 3 none (b_law_all (f_law_all n)) from rfl, fnOf_eq]
    unfold b_law_all
    simp [enc, cut1, isiStr, allS]
  | not s ih =>
    intro n hn hd
    obtain ⟨n, rfl⟩ : ∃ k, n = k + 1 := ⟨n - 1, by simp [deep] at hn; omega⟩
    rw [show f_law_all (n + 1) = fnOf 3 none (b_law_all (f_law_all n)) from rfl, fnOf_eq]
    unfold b_law_all
    simp only [deep] at hn hd
    have e1 := ih n (by omega) (by omega)
    have b1 : 1 + (allS s).length ≤ big := by have := hlen s (by omega); simp only [big]; omega
    simp [enc, cut1, isiE, allS, e1, b1]
  | next s ih =>
    intro n hn hd
    obtain ⟨n, rfl⟩ : ∃ k, n = k + 1 := ⟨n - 1, by simp [deep] at hn; omega⟩
    rw [show f_law_all (n + 1) = fnOf 3 none (b_law_all (f_law_all n)) from rfl, fnOf_eq]
    unfold b_law_all
    simp only [deep] at hn hd
    have e1 := ih n (by omega) (by omega)
    have b1 : 1 + (allS s).length ≤ big := by have := hlen s (by omega); simp only [big]; omega
    simp [enc, cut1, isiE, allS, e1, b1]
  | always s ih =>
    intro n hn hd
    obtain ⟨n, rfl⟩ : ∃ k, n = k + 1 := ⟨n - 1, by simp [deep] at hn; omega⟩
    rw [show f_law_all (n + 1) = fnOf 3 none (b_law_all (f_law_all n)) from rfl, fnOf_eq]
    unfold b_law_all
    simp only [deep] at hn hd
    have e1 := ih n (by omega) (by omega)
    have b1 : 1 + (allS s).length ≤ big := by have := hlen s (by omega); simp only [big]; omega
    simp [enc, cut1, isiE, allS, e1, b1]
  | again s ih =>
    intro n hn hd
    obtain ⟨n, rfl⟩ : ∃ k, n = k + 1 := ⟨n - 1, by simp [deep] at hn; omega⟩
    rw [show f_law_all (n + 1) = fnOf 3 none (b_law_all (f_law_all n)) from rfl, fnOf_eq]
    unfold b_law_all
    simp only [deep] at hn hd
    have e1 := ih n (by omega) (by omega)
    have b1 : 1 + (allS s).length ≤ big := by have := hlen s (by omega); simp only [big]; omega
    simp [enc, cut1, isiE, allS, e1, b1]
  | and s t ih1 ih2 =>
    intro n hn hd
    obtain ⟨n, rfl⟩ : ∃ k, n = k + 1 := ⟨n - 1, by simp [deep] at hn; omega⟩
    rw [show f_law_all (n + 1) = fnOf 3 none (b_law_all (f_law_all n)) from rfl, fnOf_eq]
    unfold b_law_all
    simp only [deep] at hn hd
    have e1 := ih1 n (by omega) (by omega)
    have e2 := ih2 n (by omega) (by omega)
    have b1 : 1 + (allS s).length ≤ big := by have := hlen s (by omega); simp only [big]; omega
    have b2 : (allS s).length + 1 + (allS t).length ≤ big := by have := hlen s (by omega); have := hlen t (by omega); simp only [big]; omega
    simp [enc, cut1, isiE, allS, e1, e2, b1, b2]
  | or s t ih1 ih2 =>
    intro n hn hd
    obtain ⟨n, rfl⟩ : ∃ k, n = k + 1 := ⟨n - 1, by simp [deep] at hn; omega⟩
    rw [show f_law_all (n + 1) = fnOf 3 none (b_law_all (f_law_all n)) from rfl, fnOf_eq]
    unfold b_law_all
    simp only [deep] at hn hd
    have e1 := ih1 n (by omega) (by omega)
    have e2 := ih2 n (by omega) (by omega)
    have b1 : 1 + (allS s).length ≤ big := by have := hlen s (by omega); simp only [big]; omega
    have b2 : (allS s).length + 1 + (allS t).length ≤ big := by have := hlen s (by omega); have := hlen t (by omega); simp only [big]; omega
    simp [enc, cut1, isiE, allS, e1, e2, b1, b2]
  | till s t ih1 ih2 =>
    intro n hn hd
    obtain ⟨n, rfl⟩ : ∃ k, n = k + 1 := ⟨n - 1, by simp [deep] at hn; omega⟩
    rw [show f_law_all (n + 1) = fnOf 3 none (b_law_all (f_law_all n)) from rfl, fnOf_eq]
    unfold b_law_all
    simp only [deep] at hn hd
    have e1 := ih1 n (by omega) (by omega)
    have e2 := ih2 n (by omega) (by omega)
    have b1 : 1 + (allS s).length ≤ big := by have := hlen s (by omega); simp only [big]; omega
    have b2 : (allS s).length + 1 + (allS t).length ≤ big := by have := hlen s (by omega); have := hlen t (by omega); simp only [big]; omega
    simp [enc, cut1, isiE, allS, e1, e2, b1, b2]
def lawB (s : Sy) : List Sy := (allS s).foldl (fun a x => putOwn a (ownB x)) []
theorem mem_foldOwn {x : Sy} : ∀ {l acc : List Sy}, x ∈ l.foldl (fun a x => putOwn a (ownB x)) acc ↔ x ∈ acc ∨ ∃ y ∈ l, x ∈ ownB y
  | [], acc => by simp
  | q :: l, acc => by
    rw [List.foldl_cons, mem_foldOwn, mem_putOwn]
    simp only [List.mem_cons]
    constructor
    · rintro ((h | h) | ⟨p, h1, h2⟩)
      · exact .inl h
      · exact .inr ⟨q, .inl rfl, h⟩
      · exact .inr ⟨p, .inr h1, h2⟩
    · rintro (h | ⟨p, rfl | h1, h2⟩)
      · exact .inl (.inl h)
      · exact .inl (.inr h2)
      · exact .inr ⟨p, h1, h2⟩
theorem nodup_foldOwn : ∀ {l acc : List Sy}, acc.Nodup → (l.foldl (fun a x => putOwn a (ownB x)) acc).Nodup
  | [], acc, h => h
  | q :: l, acc, h => nodup_foldOwn (l := l) (nodup_putOwn h (nodup_own q))
theorem own_len (s : Sy) : (ownB s).length ≤ 2 := by cases s <;> simp [ownB]
theorem len_foldOwn : ∀ {l acc : List Sy}, (l.foldl (fun a x => putOwn a (ownB x)) acc).length ≤ acc.length + 2 * l.length
  | [], acc => by simp
  | q :: l, acc => by
    rw [List.foldl_cons]
    have h1 := len_foldOwn (l := l) (acc := putOwn acc (ownB q))
    have h2 := len_putOwn (l := acc) (own := ownB q)
    have h3 := own_len q
    simp only [List.length_cons]
    omega
theorem allS_parts (s : Sy) : ∀ y, y ∈ allS s ↔ y = s ∨ ∃ p ∈ partsS s, y ∈ allS p := by
  intro y
  cases s <;> simp [allS, partsS]
theorem mem_bonds_all : ∀ (n : Nat) (s b : Sy), deep s ≤ n → (b ∈ bondsS s ↔ ∃ y ∈ allS s, b ∈ ownB y)
  | 0, s, b, hn => by have := deep_pos s; omega
  | n + 1, s, b, hn => by
    rw [mem_bonds]
    constructor
    · rintro (⟨p, hp, hb⟩ | hb)
      · have hd := deep_parts hp
        obtain ⟨y, hy, h⟩ := (mem_bonds_all n p b (by omega)).mp hb
        exact ⟨y, (allS_parts s y).mpr (.inr ⟨p, hp, hy⟩), h⟩
      · exact ⟨s, (allS_parts s s).mpr (.inl rfl), hb⟩
    · rintro ⟨y, hy, h⟩
      rcases (allS_parts s y).mp hy with rfl | ⟨p, hp, hy⟩
      · exact .inr h
      · have hd := deep_parts hp
        exact .inl ⟨p, hp, (mem_bonds_all n p b (by omega)).mpr ⟨y, hy, h⟩⟩
theorem lawB_len (s : Sy) : (lawB s).length = (bondsS s).length := by
  have : (lawB s).Perm (bondsS s) := (List.perm_ext_iff_of_nodup (nodup_foldOwn List.nodup_nil) (nodup_bonds s)).mpr fun b => by
    rw [mem_foldOwn, mem_bonds_all _ s b (Nat.le_refl _)]
    simp
  exact this.length_eq
theorem allS_ok : ∀ (n : Nat) (s y : Sy), deep s ≤ n → goodS s = true → y ∈ allS s → goodS y = true ∧ deep y ≤ deep s
  | 0, s, y, hn, _, _ => by have := deep_pos s; omega
  | n + 1, s, y, hn, hg, hy => by
    rcases (allS_parts s y).mp hy with rfl | ⟨p, hp, hy⟩
    · exact ⟨hg, Nat.le_refl _⟩
    · have hd := deep_parts hp
      obtain ⟨h1, h2⟩ := allS_ok n p y (by omega) (goodS_parts hg hp) hy
      exact ⟨h1, by omega⟩
end LawX

set_option Elab.async false
set_option linter.all false
set_option autoImplicit false
set_option maxRecDepth 100000
namespace LawX
open PySem L2 VL Ltl
def locL (o : Option (List Sy)) : Option Ent := o.map fun l => py (encL l)
@[simp] theorem locL_none : locL none = none := rfl
@[simp] theorem locL_some (l : List Sy) : locL (some l) = some (py (encL l)) := rfl
theorem law_bonds_eq {s : Sy} (hg : goodS s = true) (hd : deep s ≤ 7) : f_law_bonds [.py (enc s)] = some (.ok (py (encL (lawB s))) .none) := by
  unfold f_law_bonds b_law_bonds
  rw [fnOf_eq]
  have e1 := law_all_eq s 7 hd (by omega)
  have hlen : (allS s).length ≤ 127 := by
    have := allS_len s
    have h2 : 2 ^ deep s ≤ 2 ^ 7 := Nat.pow_le_pow_right (by decide) hd
    omega
  have fin : ∀ (F : List Sy) (x : Sy), goodS x = true → deep x ≤ 7 → (∀ y ∈ F, Ok y) → F.length ≤ 3000 →
      fComp (fItems (fVar 3)) (gNm 4) (fB (f2 (oIn true) (fVar 4) (fVar 1))) (fVar 4) [4] [some (.sh (.py (enc s))), some (.sh (.py (encL F))), some (.sh (.py (enc x))), some (.sh (.py (encL (ownB x)))), none]
        = some (.ok (.own (encL ((ownB x).filter fun b => decide (b ∉ F))) false) [some (.sh (.py (enc s))), some (.sh (.py (encL F))), some (.sh (.py (enc x))), some (.sh (.py (encL (ownB x)))), none]) := by
    intro F x hgx hdx hF hl
    refine comp_pureF (ownB x) enc (fun b => decide (b ∉ F)) enc (by simp [encL]) (by have := own_len x; simp only [big]; omega) rfl fun b hb => ?_
    obtain ⟨h1, h2⟩ := own_ok hgx hb
    have i1 := inOk_enc (s := b) ⟨h1, by omega⟩ hF
    have i2 := memP_enc b F
    by_cases hm : b ∈ F <;> simp [encL, i1, i2, hm]
  have loop : ∀ (l F : List Sy) (o : Option Sy) (m : Option (List Sy)), (∀ x ∈ l, goodS x = true ∧ deep x ≤ 7) → (∀ y ∈ F, Ok y) → F.length + 2 * l.length ≤ 3000 →
      ∃ o' m', forGo (gNm 2) (sq (fSet 3 (fSh (fLst fNil)))
    (sq (fIf (fB (f2 (oIn false) (f2 oIx (fVar 2) (fC (.int 0))) (fTup (fCons (fC (.str "next")) (fCons (fC (.str "till")) (fCons (fC (.str "always")) fNil)))))) (fSet 3 (fSh (fLst (fCons (fVar 2) fNil)))) (fIf (fB (f2 oEq (f2 oIx (fVar 2) (fC (.int 0))) (fC (.str "again")))) (fSet 3 (fSh (fLst (fCons (fTup (fCons (fC (.str "till")) (fCons (fTup (fCons (fC (.str "yes")) fNil)) (fCons (f2 oIx (fVar 2) (fC (.int 1))) fNil)))) (fCons (fTup (fCons (fC (.str "always")) (fCons (fTup (fCons (fC (.str "till")) (fCons (fTup (fCons (fC (.str "yes")) fNil)) (fCons (f2 oIx (fVar 2) (fC (.int 1))) fNil)))) fNil))) fNil))))) fNx))
    (fSet 1 (fSh (f2 oAdd (fVar 1) (fComp (fItems (fVar 3)) (gNm 4) (fB (f2 (oIn true) (fVar 4) (fVar 1))) (fVar 4) [4])))))) (l.map enc) [some (.sh (.py (enc s))), some (.sh (.py (encL F))), locS o, locL m, none]
        = some (.ok .nx [some (.sh (.py (enc s))), some (.sh (.py (encL (l.foldl (fun a x => putOwn a (ownB x)) F)))), locS o', locL m', none]) := by
    intro l
    induction l with
    | nil => intro F o m _ _ _; exact ⟨o, m, rfl⟩
    | cons x l ih =>
      intro F o m hx hF hl
      obtain ⟨hgx, hdx⟩ := hx x List.mem_cons_self
      have lF2 := len_putOwn (l := F) (own := ownB x)
      have lo := own_len x
      obtain ⟨o', m', e⟩ := ih (putOwn F (ownB x)) (some x) (some (ownB x)) (fun y hy => hx y (List.mem_cons_of_mem _ hy)) (fun y hy => by
        rcases mem_putOwn.mp hy with h | h
        · exact hF y h
        · obtain ⟨h1, h2⟩ := own_ok hgx h
          exact ⟨h1, by omega⟩) (by simp only [List.length_cons] at hl; omega)
      refine ⟨o', m', ?_⟩
      rw [List.map_cons, List.foldl_cons, ← e]
      have f1 := fin F x hgx hdx hF (by omega)
      have hb : F.length + ((ownB x).filter fun b => decide (b ∉ F)).length ≤ big := by
        have := List.length_filter_le (fun b => decide (b ∉ F)) (ownB x)
        simp only [List.length_cons] at hl
        simp only [big]
        omega
      clear ih e hx
      cases o <;> cases m <;> cases x <;> simp [enc, encL, ownB, onceS, inOk, memP, flatP] at f1 hb ⊢ <;> simp [f1, hb, putOwn, enc, encL, ownB, onceS]
  obtain ⟨o', m', loop⟩ := loop (allS s) [] none none (fun y hy => by
    obtain ⟨h1, h2⟩ := allS_ok _ s y (Nat.le_refl _) hg hy
    exact ⟨h1, by omega⟩) (by simp) (by simp; omega)
  simp only [locS_none, locL_none, encL, List.map_nil] at loop
  simp [e1, encL, loop, lawB]
end LawX

set_option Elab.async false
set_option linter.all false
set_option autoImplicit false
set_option maxRecDepth 100000
namespace LawX
open PySem L2 VL Ltl
def lastP : Sy → Sy
  | .mark m => .mark m
  | .yes => .yes
  | .not s => s
  | .and _ t => t
  | .or _ t => t
  | .next s => s
  | .till _ t => t
  | .always s => s
  | .again s => s
theorem last_in {s : Sy} (h : (lawB s).length ≠ 0) : lastP s ∈ partsS s ∧ ∃ ds, enc s = .tuple ds ∧ ds.getLast? = some (enc (lastP s)) := by
  cases s with
  | mark m => exact absurd rfl h
  | yes => exact absurd rfl h
  | _ => exact ⟨by simp [lastP, partsS], _, rfl, by simp [lastP]⟩
theorem law_fit_eq {s : Sy} {k : Nat} (hg : goodS s = true) (hd : deep s ≤ 6) : ∃ s', f_law_fit [.py (enc s), .py (.int k)] = some (.ok (py (enc s')) .none) ∧ goodS s' = true ∧ deep s' ≤ deep s ∧ (bondsS s').length ≤ k := by
  have loop : ∀ (n : Nat) (s : Sy), deep s ≤ n → goodS s = true → deep s ≤ 6 → ∃ s', fWhile (fB (f2 oGt (fBl oLen (fCons (fCall 1 none f_law_bonds (fCons (fVar 0) fNil)) fNil)) (fVar 1))) (fSet 0 (fSh (f2 oIx (fVar 0) (f1 oNeg (fC (.int 1)))))) n [some (.sh (.py (enc s))), some (.sh (.py (.int k)))]
      = some (.ok .nx [some (.sh (.py (enc s'))), some (.sh (.py (.int k)))]) ∧ goodS s' = true ∧ deep s' ≤ deep s ∧ (bondsS s').length ≤ k := by
    intro n
    induction n with
    | zero => intro s h; have := deep_pos s; omega
    | succ n ih =>
      intro s hn hg hd
      have e1 := law_bonds_eq hg (by omega : deep s ≤ 7)
      rw [fWhile_succ]
      by_cases h : (lawB s).length ≤ k
      · have h' : ¬ ((k : Int) < ((lawB s).length : Int)) := by omega
        refine ⟨s, ?_, hg, Nat.le_refl _, by rw [← lawB_len]; exact h⟩
        simp [e1, encL, h']
      · have h' : ((k : Int) < ((lawB s).length : Int)) := by omega
        obtain ⟨hp, ds, ed, hl⟩ := last_in (s := s) (by omega)
        have hdp := deep_parts hp
        obtain ⟨s', e2, h2, h3, h4⟩ := ih (lastP s) (by omega) (goodS_parts hg hp) (by omega)
        refine ⟨s', ?_, h2, by omega, h4⟩
        rw [← e2]
        rw [ed] at e1
        rw [ed]
        simp [e1, encL, h', kWh_ap, atI_neg1, hl]
  obtain ⟨s', e, h1, h2, h3⟩ := loop 10 s (by omega) hg hd
  refine ⟨s', ?_, h1, h2, h3⟩
  unfold f_law_fit b_law_fit
  rw [fnOf_eq]
  simp [e]
end LawX

set_option Elab.async false
set_option linter.all false
set_option autoImplicit false
set_option maxRecDepth 100000
namespace LawX
open PySem L2 VL Ltl
theorem uses_own : ∀ (n : Nat) (s u : Sy), deep s ≤ n → u ∈ uses s → ∃ y ∈ allS s, u ∈ ownB y
  | 0, s, u, hn, _ => by have := deep_pos s; omega
  | n + 1, s, u, hn, hu => by
    have self : ∀ {s : Sy}, s ∈ allS s := fun {s} => (allS_parts s s).mpr (.inl rfl)
    have up : ∀ {s p y : Sy}, p ∈ partsS s → y ∈ allS p → y ∈ allS s := fun {s p y} h1 h2 => (allS_parts s y).mpr (.inr ⟨p, h1, h2⟩)
    cases s with
    | mark m => cases hu
    | yes => cases hu
    | not s =>
      obtain ⟨y, h1, h2⟩ := uses_own n s u (by simp [deep] at hn; omega) hu
      exact ⟨y, up (p := s) (by simp [partsS]) h1, h2⟩
    | and s t =>
      rcases List.mem_append.mp hu with hu | hu
      · obtain ⟨y, h1, h2⟩ := uses_own n s u (by simp [deep] at hn; omega) hu
        exact ⟨y, up (p := s) (by simp [partsS]) h1, h2⟩
      · obtain ⟨y, h1, h2⟩ := uses_own n t u (by simp [deep] at hn; omega) hu
        exact ⟨y, up (p := t) (by simp [partsS]) h1, h2⟩
    | or s t =>
      rcases List.mem_append.mp hu with hu | hu
      · obtain ⟨y, h1, h2⟩ := uses_own n s u (by simp [deep] at hn; omega) hu
        exact ⟨y, up (p := s) (by simp [partsS]) h1, h2⟩
      · obtain ⟨y, h1, h2⟩ := uses_own n t u (by simp [deep] at hn; omega) hu
        exact ⟨y, up (p := t) (by simp [partsS]) h1, h2⟩
    | next s => exact ⟨.next s, self, by simpa [uses, ownB] using hu⟩
    | till s t => exact ⟨.till s t, self, by simpa [uses, ownB] using hu⟩
    | always s => exact ⟨.always s, self, by simpa [uses, ownB] using hu⟩
    | again s => exact ⟨.again s, self, by simp [uses] at hu; subst hu; simp [ownB]⟩
theorem uses_bonds {s y u : Sy} (hy : y ∈ allS s) (hu : u ∈ uses y) : u ∈ bondsS s := by
  obtain ⟨z, h1, h2⟩ := uses_own _ y u (Nat.le_refl _) hu
  refine (mem_bonds_all _ s u (Nat.le_refl _)).mpr ⟨z, ?_, h2⟩
  have tr : ∀ (n : Nat) (s : Sy), deep s ≤ n → y ∈ allS s → z ∈ allS s := by
    intro n
    induction n with
    | zero => intro s hn; have := deep_pos s; omega
    | succ n ih =>
      intro s hn hy
      rcases (allS_parts s y).mp hy with rfl | ⟨p, hp, hy⟩
      · exact h1
      · exact (allS_parts s z).mpr (.inr ⟨p, hp, ih p (by have := deep_parts hp; omega) hy⟩)
  exact tr _ s (Nat.le_refl _) hy
theorem part_all {s y p : Sy} (hy : y ∈ allS s) (hp : p ∈ partsS y) : p ∈ allS s := by
  have tr : ∀ (n : Nat) (s : Sy), deep s ≤ n → y ∈ allS s → p ∈ allS s := by
    intro n
    induction n with
    | zero => intro s hn; have := deep_pos s; omega
    | succ n ih =>
      intro s hn hy
      rcases (allS_parts s y).mp hy with rfl | ⟨q, hq, hy⟩
      · exact (allS_parts y p).mpr (.inr ⟨p, hp, (allS_parts p p).mpr (.inl rfl)⟩)
      · exact (allS_parts s p).mpr (.inr ⟨q, hq, ih q (by have := deep_parts hq; omega) hy⟩)
  exact tr _ s (Nat.le_refl _) hy
theorem bonds_BOk {s b : Sy} (hg : goodS s = true) (hd : deep s ≤ 8) (hb : b ∈ bondsS s) : BOk (bondsS s) b := by
  have hdb := (bonds_ok _ s b (Nat.le_refl _) hg hb).2
  refine ⟨bonds_are _ s b (Nat.le_refl _) hb, by omega, ?_⟩
  obtain ⟨y, hy, ho⟩ := (mem_bonds_all _ s b (Nat.le_refl _)).mp hb
  have hbs : ∀ u ∈ ownB y, u ∈ bondsS s := fun u hu => (mem_bonds_all _ s u (Nat.le_refl _)).mpr ⟨y, hy, hu⟩
  intro p hp u hu
  cases y <;> simp [ownB] at ho
  · subst ho; exact uses_bonds (part_all hy hp) hu
  · subst ho; exact uses_bonds (part_all hy hp) hu
  · subst ho; exact uses_bonds (part_all hy hp) hu
  · rename_i x
    rcases ho with rfl | rfl
    · simp [onceS, partsS] at hp
      rcases hp with rfl | rfl
      · cases hu
      · exact uses_bonds (part_all hy (by simp [partsS])) hu
    · simp [partsS] at hp
      subst hp
      simp [onceS, uses] at hu
      subst hu
      exact hbs _ (by simp [ownB, onceS])
section
variable {w : Nat → Str}
theorem sat_again (s : Sy) (i : Nat) : sat w (.again s) i ↔ sat w (.always (onceS s)) i := by
  simp only [sat, onceS, Till]
  constructor
  · intro h j
    obtain ⟨k, hk⟩ := h (i + j)
    exact ⟨k, hk, fun _ _ => trivial⟩
  · intro h n
    obtain ⟨k, hk, _⟩ := h n
    exact ⟨i + k, by rw [show n + (i + k) = i + n + k by omega]; exact hk⟩
noncomputable def gAt (w : Nat → Str) (bs : List Sy) (i : Nat) : List Bool := bs.map fun b => truth w b i
theorem gAt_len {bs : List Sy} {i : Nat} : (gAt w bs i).length = bs.length := by simp [gAt]
theorem gAt_get {bs : List Sy} {i k : Nat} (h : k < bs.length) : getB (gAt w bs i) k = truth w (bs.getD k .yes) i := getB_map bs _ .yes h
theorem gAt_idx {bs : List Sy} {i : Nat} {b : Sy} (h : b ∈ bs) : getB (gAt w bs i) (bs.idxOf b) = truth w b i := by
  have hl := List.idxOf_lt_length_of_mem h
  rw [gAt_get hl, List.getD_eq_getElem?_getD, List.getElem?_eq_getElem hl]
  congr 1
  exact List.getElem_idxOf hl
theorem truth_eq {s t : Sy} {i j : Nat} (h : sat w s i ↔ sat w t j) : truth w s i = truth w t j := by
  cases h1 : truth w s i with
  | true => exact (truth_iff.mpr (h.mp (truth_iff.mp h1))).symm
  | false =>
    cases h2 : truth w t j with
    | false => rfl
    | true => rw [truth_iff.mpr (h.mpr (truth_iff.mp h2))] at h1; cases h1
theorem truth_b {s : Sy} {i : Nat} {b : Bool} (h : sat w s i ↔ b = true) : truth w s i = b := by
  cases h1 : truth w s i with
  | true => exact (h.mp (truth_iff.mp h1)).symm
  | false =>
    cases b with
    | false => rfl
    | true => rw [truth_iff.mpr (h.mpr rfl)] at h1; cases h1
theorem so_truth {bs : List Sy} {i : Nat} : ∀ (s : Sy), (∀ u ∈ uses s, u ∈ bs) → soB (w i) bs (gAt w bs i) s = truth w s i := by
  intro s
  induction s with
  | mark m => intro _; exact (truth_b (by simp [sat, soB])).symm
  | yes => intro _; exact (truth_b (by simp [sat, soB])).symm
  | not s ih =>
    intro h
    refine (truth_b ?_).symm
    have := ih h
    simp only [sat, soB, this, ← truth_iff]
    cases truth w s i <;> simp
  | and s t ih1 ih2 =>
    intro h
    refine (truth_b ?_).symm
    have h1 := ih1 fun u hu => h u (List.mem_append_left _ hu)
    have h2 := ih2 fun u hu => h u (List.mem_append_right _ hu)
    simp only [sat, soB, h1, h2, ← truth_iff, Bool.and_eq_true]
  | or s t ih1 ih2 =>
    intro h
    refine (truth_b ?_).symm
    have h1 := ih1 fun u hu => h u (List.mem_append_left _ hu)
    have h2 := ih2 fun u hu => h u (List.mem_append_right _ hu)
    simp only [sat, soB, h1, h2, ← truth_iff, Bool.or_eq_true]
  | next s => intro h; exact gAt_idx (h _ (List.mem_singleton.mpr rfl))
  | till s t => intro h; exact gAt_idx (h _ (List.mem_singleton.mpr rfl))
  | always s => intro h; exact gAt_idx (h _ (List.mem_singleton.mpr rfl))
  | again s => intro h; exact (gAt_idx (h _ (List.mem_singleton.mpr rfl))).trans (truth_eq (sat_again s i)).symm
theorem till_step {A B : Nat → Prop} {i : Nat} : Till A B i ↔ B i ∨ (A i ∧ Till A B (i + 1)) := by
  constructor
  · rintro ⟨j, h1, h2⟩
    cases j with
    | zero => exact .inl h1
    | succ j => exact .inr ⟨h2 0 (Nat.succ_pos j), j, by rw [show i + 1 + j = i + (j + 1) by omega]; exact h1, fun k hk => by rw [show i + 1 + k = i + (k + 1) by omega]; exact h2 (k + 1) (by omega)⟩
  · rintro (h | ⟨h, j, h1, h2⟩)
    · exact ⟨0, h, fun k hk => absurd hk (Nat.not_lt_zero k)⟩
    · refine ⟨j + 1, by rw [show i + (j + 1) = i + 1 + j by omega]; exact h1, fun k hk => ?_⟩
      cases k with
      | zero => exact h
      | succ k => rw [show i + (k + 1) = i + 1 + k by omega]; exact h2 k (by omega)
theorem always_step {A : Nat → Prop} {i : Nat} : (∀ j, A (i + j)) ↔ A i ∧ ∀ j, A (i + 1 + j) := by
  constructor
  · intro h
    exact ⟨h 0, fun j => by rw [show i + 1 + j = i + (j + 1) by omega]; exact h (j + 1)⟩
  · rintro ⟨h1, h2⟩ j
    cases j with
    | zero => exact h1
    | succ j => rw [show i + (j + 1) = i + 1 + j by omega]; exact h2 j
end
/-! ### the right guesses go on to one another -/
section
variable {W R : List Str} (hp : 0 < R.length)
include hp
theorem truth_nx (s : Sy) {i : Nat} (h : i < W.length + R.length) : truth (wd W R) s (nx W.length R.length i) = truth (wd W R) s (i + 1) := truth_eq (nx_per (sat_per (w_per hp) s) h)
theorem kept_right {bs : List Sy} {k i : Nat} (hB : ∀ b ∈ bs, BOk bs b) (hk : k < bs.length) (hi : i < W.length + R.length) :
    keptB bs (wd W R i) (wd W R (nx W.length R.length i)) (gAt (wd W R) bs i) (gAt (wd W R) bs (nx W.length R.length i)) k (bs.getD k .yes) = true := by
  have hm : bs.getD k .yes ∈ bs := by
    rw [List.getD_eq_getElem?_getD, List.getElem?_eq_getElem hk]
    exact List.getElem_mem _
  have g1 := gAt_get (w := wd W R) (i := i) hk
  have g2 := gAt_get (w := wd W R) (i := nx W.length R.length i) hk
  rw [truth_nx hp _ hi] at g2
  obtain ⟨his, _, hu⟩ := hB _ hm
  generalize bs.getD k .yes = b at *
  cases b with
  | next s =>
    have h1 := so_truth (w := wd W R) (i := nx W.length R.length i) s (hu s (by simp [partsS]))
    rw [truth_nx hp _ hi] at h1
    simp only [keptB, g1, h1]
    rw [beq_iff_eq]
    exact truth_eq Iff.rfl
  | always s =>
    have h1 := so_truth (w := wd W R) (i := i) s (hu s (by simp [partsS]))
    simp only [keptB, g1, g2, h1]
    rw [beq_iff_eq]
    refine truth_b ?_
    rw [Bool.and_eq_true, truth_iff, truth_iff]
    exact always_step
  | till s t =>
    have h1 := so_truth (w := wd W R) (i := i) s (hu s (by simp [partsS]))
    have h2 := so_truth (w := wd W R) (i := i) t (hu t (by simp [partsS]))
    simp only [keptB, g1, g2, h1, h2]
    rw [beq_iff_eq]
    refine truth_b ?_
    rw [Bool.or_eq_true, Bool.and_eq_true, truth_iff, truth_iff, truth_iff]
    exact till_step
  | mark _ => cases his
  | yes => cases his
  | not _ => cases his
  | and _ _ => cases his
  | or _ _ => cases his
  | again _ => cases his
theorem goes_right {bs : List Sy} {i : Nat} (hB : ∀ b ∈ bs, BOk bs b) (hi : i < W.length + R.length) :
    goesB bs (wd W R i) (wd W R (nx W.length R.length i)) (gAt (wd W R) bs i) (gAt (wd W R) bs (nx W.length R.length i)) = true := by
  unfold goesB
  rw [List.all_eq_true]
  intro k hk
  exact kept_right hp hB (List.mem_range.mp hk) hi
end
end LawX

set_option Elab.async false
set_option linter.all false
set_option autoImplicit false
set_option maxRecDepth 100000
namespace LawX
open PySem L2 VL Ltl
theorem uses_small : ∀ s u : Sy, u ∈ uses s → deep u ≤ deep s ∨ ∃ x, u = .always (onceS x) := by
  intro s
  induction s with
  | mark m => intro u h; cases h
  | yes => intro u h; cases h
  | not s ih =>
    intro u h
    rcases ih u h with h | h
    · left; simp only [deep]; omega
    · exact .inr h
  | and s t ih1 ih2 =>
    intro u h
    rcases List.mem_append.mp h with h | h
    · rcases ih1 u h with h | h
      · left; simp only [deep]; omega
      · exact .inr h
    · rcases ih2 u h with h | h
      · left; simp only [deep]; omega
      · exact .inr h
  | or s t ih1 ih2 =>
    intro u h
    rcases List.mem_append.mp h with h | h
    · rcases ih1 u h with h | h
      · left; simp only [deep]; omega
      · exact .inr h
    · rcases ih2 u h with h | h
      · left; simp only [deep]; omega
      · exact .inr h
  | next s => intro u h; simp [uses] at h; subst h; exact .inl (Nat.le_refl _)
  | till s t => intro u h; simp [uses] at h; subst h; exact .inl (Nat.le_refl _)
  | always s => intro u h; simp [uses] at h; subst h; exact .inl (Nat.le_refl _)
  | again s => intro u h; simp [uses] at h; exact .inr ⟨s, h⟩
theorem not_own_use {b p : Sy} (hi : isBond b = true) (hp : p ∈ partsS b) : b ∉ uses p := by
  intro hu
  have hd := deep_parts hp
  rcases uses_small p b hu with h | ⟨x, rfl⟩
  · omega
  · simp [partsS] at hp
    subst hp
    simp [onceS, uses] at hu
def flipB (g : List Bool) (k : Nat) : List Bool := g.set k (!getB g k)
theorem flip_len {g : List Bool} {k : Nat} : (flipB g k).length = g.length := by simp [flipB]
theorem flip_at {g : List Bool} {k : Nat} (h : k < g.length) : getB (flipB g k) k = !getB g k := by
  unfold flipB
  rw [getB_set h, if_pos rfl]
theorem flip_ne {g : List Bool} {k j : Nat} (h : k < g.length) (hj : j ≠ k) : getB (flipB g k) j = getB g j := by
  unfold flipB
  rw [getB_set h, if_neg hj]
section
variable {bs : List Sy} {g : List Bool} {k : Nat}
theorem so_flip {m : Str} (hk : k < bs.length) (hg : k < g.length) : ∀ s : Sy, bs.getD k .yes ∉ uses s → (∀ u ∈ uses s, u ∈ bs) → soB m bs (flipB g k) s = soB m bs g s := by
  have at_ : ∀ u : Sy, u ∈ bs → bs.getD k .yes ≠ u → getB (flipB g k) (bs.idxOf u) = getB g (bs.idxOf u) := fun u hu hne => flip_ne hg fun e => hne (by
    have hl := List.idxOf_lt_length_of_mem hu
    rw [← e, List.getD_eq_getElem?_getD, List.getElem?_eq_getElem hl]
    exact List.getElem_idxOf hl)
  intro s
  induction s with
  | mark m => intro _ _; rfl
  | yes => intro _ _; rfl
  | not s ih => intro h hu; simp only [soB, ih h hu]
  | and s t ih1 ih2 =>
    intro h hu
    simp only [soB, ih1 (fun z => h (List.mem_append_left _ z)) fun u z => hu u (List.mem_append_left _ z), ih2 (fun z => h (List.mem_append_right _ z)) fun u z => hu u (List.mem_append_right _ z)]
  | or s t ih1 ih2 =>
    intro h hu
    simp only [soB, ih1 (fun z => h (List.mem_append_left _ z)) fun u z => hu u (List.mem_append_left _ z), ih2 (fun z => h (List.mem_append_right _ z)) fun u z => hu u (List.mem_append_right _ z)]
  | next s => intro h hu; exact at_ _ (hu _ (List.mem_singleton.mpr rfl)) fun e => h (by rw [e]; exact List.mem_singleton.mpr rfl)
  | till s t => intro h hu; exact at_ _ (hu _ (List.mem_singleton.mpr rfl)) fun e => h (by rw [e]; exact List.mem_singleton.mpr rfl)
  | always s => intro h hu; exact at_ _ (hu _ (List.mem_singleton.mpr rfl)) fun e => h (by rw [e]; exact List.mem_singleton.mpr rfl)
  | again s => intro h hu; exact at_ _ (hu _ (List.mem_singleton.mpr rfl)) fun e => h (by rw [e]; exact List.mem_singleton.mpr rfl)
theorem goes_turned {m m' : Str} {g' : List Bool} (hB : ∀ b ∈ bs, BOk bs b) (hk : k < bs.length) (hg : bs.length = g.length) (h : goesB bs m m' g g' = true) : goesB bs m m' (flipB g k) g' = false := by
  have hkg : k < g.length := by omega
  have h1 := List.all_eq_true.mp h k (List.mem_range.mpr hk)
  cases e : goesB bs m m' (flipB g k) g' with
  | false => rfl
  | true =>
    exfalso
    have h2 := List.all_eq_true.mp e k (List.mem_range.mpr hk)
    have hm : bs.getD k .yes ∈ bs := by
      rw [List.getD_eq_getElem?_getD, List.getElem?_eq_getElem hk]
      exact List.getElem_mem _
    obtain ⟨his, _, hu⟩ := hB _ hm
    have hf : ∀ p ∈ partsS (bs.getD k .yes), soB m bs (flipB g k) p = soB m bs g p := fun p hp => so_flip hk hkg p (not_own_use his hp) (hu p hp)
    generalize bs.getD k .yes = b at *
    cases b with
    | next s => simp only [keptB, flip_at hkg] at h1 h2; cases h3 : getB g k <;> cases h4 : soB m' bs g' s <;> simp [h3, h4] at h1 h2
    | always s =>
      simp only [keptB, flip_at hkg, hf s (by simp [partsS])] at h1 h2
      generalize (soB m bs g s && getB g' k) = z at h1 h2
      cases h3 : getB g k <;> cases z <;> simp [h3] at h1 h2
    | till s t =>
      simp only [keptB, flip_at hkg, hf s (by simp [partsS]), hf t (by simp [partsS])] at h1 h2
      generalize (soB m bs g t || (soB m bs g s && getB g' k)) = z at h1 h2
      cases h3 : getB g k <;> cases z <;> simp [h3] at h1 h2
    | mark _ => cases his
    | yes => cases his
    | not _ => cases his
    | and _ _ => cases his
    | or _ _ => cases his
    | again _ => cases his
end
section
variable {W R : List Str} (hp : 0 < R.length)
include hp
theorem met_ring {bs : List Sy} {p : Option Sy} (hpr : ∀ b, p = some b → b ∈ bs ∧ BOk bs b ∧ notNext b = true) : ∃ i, W.length ≤ i ∧ i < W.length + R.length ∧ metB (wd W R i) bs (gAt (wd W R) bs i) p = true := by
  cases p with
  | none => exact ⟨W.length, Nat.le_refl _, by omega, rfl⟩
  | some b =>
    obtain ⟨hm, ⟨his, _, hu⟩, hnn⟩ := hpr b rfl
    have back : ∀ (A : Nat → Prop), Per W.length R.length A → ∀ i, W.length ≤ i → A i → ∃ j, W.length ≤ j ∧ j < W.length + R.length ∧ A j := fun A hA i hi h => by
      refine ⟨red W.length R.length i, ?_, red_lt hp, (per_red hA i).mpr h⟩
      unfold red
      split <;> omega
    cases b with
    | till s t =>
      have hut := hu t (by simp [partsS])
      by_cases h : sat (wd W R) (.till s t) W.length
      · obtain ⟨j, h1, _⟩ := h
        obtain ⟨i, k1, k2, k3⟩ := back _ (sat_per (w_per hp) t) (W.length + j) (by omega) h1
        refine ⟨i, k1, k2, ?_⟩
        simp only [metB, so_truth t hut, truth_iff.mpr k3, Bool.or_true]
      · refine ⟨W.length, Nat.le_refl _, by omega, ?_⟩
        have : truth (wd W R) (.till s t) W.length = false := by
          cases e : truth (wd W R) (.till s t) W.length with
          | false => rfl
          | true => exact absurd (truth_iff.mp e) h
        simp only [metB, gAt_idx hm, this, Bool.not_false, Bool.true_or]
    | always s =>
      have hus := hu s (by simp [partsS])
      by_cases h : sat (wd W R) (.always s) W.length
      · refine ⟨W.length, Nat.le_refl _, by omega, ?_⟩
        simp only [metB, gAt_idx hm, truth_iff.mpr h, Bool.true_or]
      · obtain ⟨j, hj⟩ : ∃ j, ¬ sat (wd W R) s (W.length + j) := Classical.not_forall.mp h
        obtain ⟨i, k1, k2, k3⟩ := back _ (sat_per (w_per hp) s).not (W.length + j) (by omega) hj
        refine ⟨i, k1, k2, ?_⟩
        have : truth (wd W R) s i = false := by
          cases e : truth (wd W R) s i with
          | false => rfl
          | true => exact absurd (truth_iff.mp e) k3
        simp only [metB, so_truth s hus, this, Bool.not_false, Bool.or_true]
    | next s => cases hnn
    | mark _ => cases his
    | yes => cases his
    | not _ => cases his
    | and _ _ => cases his
    | or _ _ => cases his
    | again _ => cases his
end
end LawX

set_option Elab.async false
set_option linter.all false
set_option autoImplicit false
set_option maxRecDepth 100000
namespace LawX
open PySem L2 VL Ltl
theorem for_any {β σ : Type} {tg : Tgt} {body : S} (env : σ → DEnv) (g : β → PyData) : ∀ (xs : List β) (s0 : σ), (∀ x ∈ xs, ∀ s, ∃ ρ2, tg (g x) (env s) = some ρ2 ∧ ∃ s', body ρ2 = some (.ok .nx (env s'))) → ∃ s', forGo tg body (xs.map g) (env s0) = some (.ok .nx (env s'))
  | [], s0, _ => ⟨s0, rfl⟩
  | x :: xs, s0, H => by
    obtain ⟨ρ2, h1, s', h2⟩ := H x List.mem_cons_self s0
    obtain ⟨s2, h3⟩ := for_any env g xs s' fun y hy => H y (List.mem_cons_of_mem _ hy)
    refine ⟨s2, ?_⟩
    rw [List.map_cons, forGo, h1]
    simp only [h2]
    exact h3
def locB (o : Option Bool) : Option Ent := o.map fun b => py (.bool b)
@[simp] theorem locB_none : locB none = none := rfl
@[simp] theorem locB_some (b : Bool) : locB (some b) = some (py (.bool b)) := rfl
/-- the guesses, moment by moment -/
noncomputable def gsL (W R : List Str) (bs : List Sy) : PyData := .list ((List.range (W.length + R.length)).map fun i => gT (gAt (wd W R) bs i))
theorem run_at {W R : List Str} {i : Nat} (h : i < W.length + R.length) : (W.map PyData.str ++ R.map PyData.str)[i]? = some (.str (wd W R i)) := by
  rw [← List.map_append, List.getElem?_map, show wd W R i = _ from word_small (d := (⟨#[]⟩ : Str)) h, List.getElem?_eq_getElem (by rw [List.length_append]; exact h), List.getD_eq_getElem?_getD, List.getElem?_eq_getElem (by rw [List.length_append]; exact h)]
  rfl
theorem gs_at {W R : List Str} {bs : List Sy} {i : Nat} (h : i < W.length + R.length) : ((List.range (W.length + R.length)).map fun i => gT (gAt (wd W R) bs i))[i]? = some (gT (gAt (wd W R) bs i)) := by
  rw [List.getElem?_map, List.getElem?_range h]
  rfl
section
variable {W R : List Str} {bs : List Sy} (hp : 0 < R.length) (hbig : W.length + R.length ≤ 1000) (hb : ∀ b ∈ bs, Ok b)
include hp hbig hb
theorem rows_right_eq {s : Sy} (hg : goodS s = true) (hd : deep s ≤ 6) (hs : bs = bondsS s) :
    f_law_rows_right [.py (enc s), .py (encL bs), .py (strL W), .py (strL R), .py (gsL W R bs)] = some (.ok (py (.bool true)) .none) := by
  unfold f_law_rows_right b_law_rows_right
  rw [fnOf_eq]
  have e0 := law_all_eq s 7 (by omega) (by omega)
  have hN : W.length + R.length ≤ big := by simp only [big]; omega
  have hr1 : inRng ((W.length : Int) + R.length) = true := by simp [inRng]; omega
  have hr2 : ((W.length : Int) + R.length).toNat = W.length + R.length := by omega
  let env : (Option Sy × Option (List Bool)) × (Option Nat × Option Bool) → DEnv := fun o => [some (.sh (.py (enc s))), some (.sh (.py (encL bs))), some (.sh (.py (strL W))), some (.sh (.py (strL R))), some (.sh (.py (gsL W R bs))), some (.sh (.py (.list (W.map .str ++ R.map .str)))), locS o.1.1, o.1.2.map (fun l => py (boolL l)), loc o.2.1, locB o.2.2]
  have inner : ∀ (y : Sy) (o : Option Nat × Option Bool), y ∈ allS s → ∃ o', forGo (gNm 8) (sq (fSet 9 (fSh (fCall 4 none (f_is_so 8) (fCons (fVar 6) (fCons (f2 oIx (fVar 5) (fVar 8)) (fCons (fVar 1) (fCons (f2 oIx (fVar 4) (fVar 8)) fNil)))))))
    (fIf (fOrT (fNotT (fB (fBl oIsi (fCons (fVar 9) (fCons (fTy "bool") fNil))))) (fB (f2 oNe (fVar 9) (f2 oIx (fVar 7) (fVar 8))))) (fRet (fC (.bool false))) fNx)) ((List.range (W.length + R.length)).map fun i : Nat => .int i) (env ((some y, some (rw_ W R y)), o)) = some (.ok .nx (env ((some y, some (rw_ W R y)), o'))) := by
    intro y o hy
    obtain ⟨hgy, hdy⟩ := allS_ok _ s y (Nat.le_refl _) hg hy
    have hu : ∀ u ∈ uses y, u ∈ bs := fun u hu => by rw [hs]; exact uses_bonds hy hu
    refine for_any (fun o => env ((some y, some (rw_ W R y)), o)) (fun i : Nat => .int i) _ o fun i hi o => ?_
    have hi := List.mem_range.mp hi
    have e1 := is_so_eq (m := wd W R i) (g := gAt (wd W R) bs i) hb (by rw [gAt_len]; exact Nat.le_refl _) y 8 (by omega) hu
    rw [so_truth y hu] at e1
    have a1 := run_at (W := W) (R := R) hi
    have a2 := gs_at (W := W) (R := R) (bs := bs) hi
    have a3 := atB (bs := rw_ W R y) (i := i) (by rw [row_length]; exact hi)
    rw [row_get hi] at a3
    have i1 : ∀ b : Bool, isiT (.bool b) "bool" = some true := fun _ => rfl
    obtain ⟨o1, o2⟩ := o
    cases o1 <;> cases o2 <;> simp [env, gsL, e1, a1, a2, a3, i1] <;> exact ⟨⟨some i, rfl⟩, ⟨some _, rfl⟩⟩
  obtain ⟨o', loop⟩ := for_any (tg := gNm 6) (body := sq (fSet 7 (fSh (fCall 3 none (f_law_means 8) (fCons (fVar 6) (fCons (fVar 2) (fCons (fVar 3) fNil))))))
    (fFor (bnd (fCons (fBl oLen (fCons (fVar 5) fNil)) fNil) rng1) (gNm 8) (sq (fSet 9 (fSh (fCall 4 none (f_is_so 8) (fCons (fVar 6) (fCons (f2 oIx (fVar 5) (fVar 8)) (fCons (fVar 1) (fCons (f2 oIx (fVar 4) (fVar 8)) fNil)))))))
    (fIf (fOrT (fNotT (fB (fBl oIsi (fCons (fVar 9) (fCons (fTy "bool") fNil))))) (fB (f2 oNe (fVar 9) (f2 oIx (fVar 7) (fVar 8))))) (fRet (fC (.bool false))) fNx)))) env enc (allS s) ((none, none), (none, none)) fun y hy o => by
      obtain ⟨hgy, hdy⟩ := allS_ok _ s y (Nat.le_refl _) hg hy
      have e1 := means_eq hp hbig y 8 (by omega)
      obtain ⟨⟨o1, o2⟩, o3, o4⟩ := o
      obtain ⟨o', e2⟩ := inner y (o3, o4) hy
      simp only [env, gsL] at e2
      cases o1 <;> cases o2 <;> simp [env, gsL, e1, hr1, hr2, intsD_zero] at e2 ⊢ <;> exact ⟨some y, some _, o'.1, o'.2, e2⟩
  simp only [env, gsL, locS_none, Option.map_none, loc_none, locB_none] at loop
  simp [gsL, e0, hN] at loop ⊢
  simp [loop]
end
end LawX

set_option Elab.async false
set_option linter.all false
set_option autoImplicit false
set_option maxRecDepth 100000
namespace LawX
open PySem L2 VL Ltl
theorem flip_split {g : List Bool} {k : Nat} (h : k < g.length) : flipB g k = g.take k ++ [!getB g k] ++ g.drop (k + 1) := by
  unfold flipB
  rw [List.set_eq_take_append_cons_drop, if_pos h]
  simp
section
variable {W R : List Str} {bs : List Sy} (hp : 0 < R.length) (hbig : W.length + R.length ≤ 1000) (hb : ∀ b ∈ bs, Ok b) (hB : ∀ b ∈ bs, BOk bs b) (hn : bs.length ≤ 100)
include hp hbig hb hB hn
set_option maxHeartbeats 0 in
theorem steps_right_eq {k : Nat} {mo : Int} (hk : 0 < bs.length → k < bs.length) :
    f_law_steps_right [.py (encL bs), .py (strL W), .py (strL R), .py (gsL W R bs), .py (.int k), .py (.int mo)] = some (.ok (py (.bool true)) .none) := by
  unfold f_law_steps_right b_law_steps_right
  rw [fnOf_eq]
  have hN : W.length + R.length ≤ big := by simp only [big]; omega
  have hr1 : inRng ((W.length : Int) + R.length) = true := by simp [inRng]; omega
  have hr2 : ((W.length : Int) + R.length).toNat = W.length + R.length := by omega
  let env : (Option Nat × Option Nat) × (Option Bool × Option (List Bool)) → DEnv := fun o => [some (.sh (.py (encL bs))), some (.sh (.py (strL W))), some (.sh (.py (strL R))), some (.sh (.py (gsL W R bs))), some (.sh (.py (.int k))), some (.sh (.py (.int mo))), some (.sh (.py (.list (W.map .str ++ R.map .str)))), loc o.1.1, loc o.1.2, locB o.2.1, o.2.2.map (fun l => py (gT l))]
  obtain ⟨o', loop⟩ := for_any (tg := gNm 7) (body := (sq (fSet 8 (fSh (f2 oIx (fCall 3 none f_law_after (fCons (fVar 1) (fCons (fVar 2) (fCons (fVar 7) fNil)))) (fC (.int 1)))))
    (sq (fSet 9 (fSh (fCall 3 none f_goes_on (fCons (fVar 0) (fCons (fTup (fCons (f2 oIx (fVar 6) (fVar 7)) (fCons (f2 oIx (fVar 3) (fVar 7)) fNil))) (fCons (fTup (fCons (f2 oIx (fVar 6) (fVar 8)) (fCons (f2 oIx (fVar 3) (fVar 8)) fNil))) fNil))))))
    (sq (fIf (fOrT (fNotT (fB (fBl oIsi (fCons (fVar 9) (fCons (fTy "bool") fNil))))) (fNotT (fB (fVar 9)))) (fRet (fC (.bool false))) fNx)
    (fIf (fAndT (fB (f2 oEq (fVar 7) (fVar 5))) (fB (f2 oGt (fBl oLen (fCons (fVar 0) fNil)) (fC (.int 0))))) (sq (fSet 10 (fSh (f2 oAdd (f2 oAdd (fSl (f2 oIx (fVar 3) (fVar 7)) fNoP (fP (fVar 4))) (fTup (fCons (fNot (f2 oIx (f2 oIx (fVar 3) (fVar 7)) (fVar 4))) fNil))) (fSl (f2 oIx (fVar 3) (fVar 7)) (fP (f2 oAdd (fVar 4) (fC (.int 1)))) fNoP))))
    (fIf (fB (fCall 3 none f_goes_on (fCons (fVar 0) (fCons (fTup (fCons (f2 oIx (fVar 6) (fVar 7)) (fCons (fVar 10) fNil))) (fCons (fTup (fCons (f2 oIx (fVar 6) (fVar 8)) (fCons (f2 oIx (fVar 3) (fVar 8)) fNil))) fNil))))) (fRet (fC (.bool false))) fNx)) fNx))))) env (fun i : Nat => .int i) (List.range (W.length + R.length)) ((none, none), (none, none)) fun i hi o => by
    have hi := List.mem_range.mp hi
    have hx := nx_lt (q := W.length) (p := R.length) (i := i) hp
    have e1 := after_eq W R i hbig (by omega)
    have e2 := mom_one (a := i) hp hi
    have a1 := run_at (W := W) (R := R) hi
    have a2 := gs_at (W := W) (R := R) (bs := bs) hi
    have a3 := run_at (W := W) (R := R) hx
    have a4 := gs_at (W := W) (R := R) (bs := bs) hx
    have l1 : bs.length = (gAt (wd W R) bs i).length := gAt_len.symm
    have l2 : bs.length = (gAt (wd W R) bs (nx W.length R.length i)).length := gAt_len.symm
    have g1 := goes_right hp hB hi
    have e3 := goes_on_eq (m := wd W R i) (m' := wd W R (nx W.length R.length i)) hb hB (by omega) l1 l2
    rw [g1] at e3
    have i1 : ∀ b : Bool, isiT (.bool b) "bool" = some true := fun _ => rfl
    obtain ⟨⟨o1, o2⟩, o3, o4⟩ := o
    generalize nx W.length R.length i = j at *
    generalize gAt (wd W R) bs j = gj at *
    generalize hgi : gAt (wd W R) bs i = gi at *
    by_cases hc : (i : Int) = mo ∧ 0 < bs.length
    · obtain ⟨hc1, hc2⟩ := hc
      have hk := hk hc2
      have hkg : k < gi.length := by omega
      have g2 := goes_turned hB hk l1 g1
      have e4 := goes_on_eq (m := wd W R i) (m' := wd W R j) (g := flipB gi k) hb hB (by omega) (by rw [flip_len]; exact l1) l2
      rw [g2, flip_split hkg] at e4
      simp only [nowP] at e3 e4
      generalize gT gj = Gj at *
      simp [gT] at e4
      have c1 : cutL (gi.map PyData.bool) none (some (k : Int)) = (gi.map .bool).take k := by rw [cut_to (by omega)]; simp
      have c2 : cutL (gi.map PyData.bool) (some ((k : Int) + 1)) none = (gi.map .bool).drop (k + 1) := by
        rw [cut_from (by omega)]
        have : ((k : Int) + 1).toNat = k + 1 := by omega
        rw [this]
      have c3 := atB hkg
      have b1 : min k gi.length + 1 ≤ big := by simp only [big]; omega
      have b2 : min k gi.length + 1 + (gi.length - (k + 1)) ≤ big := by simp only [big]; omega
      have hbe : ((i : Int) == mo) = true := by simpa using hc1
      have hlt : (0 : Int) < (bs.length : Int) := by omega
      cases o1 <;> cases o2 <;> cases o3 <;> cases o4 <;> simp [env, gsL, e1, e2, a1, a2, a3, a4, hgi, gT] at e3 ⊢ <;> simp [e3, i1, hbe, hlt, hc2, a2, hgi, c1, c2, c3, b1, b2, e4, a1, a3, a4] <;> exact ⟨⟨some i, rfl⟩, ⟨some j, rfl⟩, ⟨some true, rfl⟩, ⟨some (gi.take k ++ [!getB gi k] ++ gi.drop (k + 1)), by simp⟩⟩
    · simp only [nowP] at e3
      generalize gT gj = Gj at *
      by_cases hc1 : (i : Int) = mo
      · have hc2 : ¬ 0 < bs.length := fun h => hc ⟨hc1, h⟩
        have hbe : ((i : Int) == mo) = true := by simpa using hc1
        have hlt : ¬ (0 : Int) < (bs.length : Int) := by omega
        cases o1 <;> cases o2 <;> cases o3 <;> cases o4 <;> simp [env, gsL, e1, e2, a1, a2, a3, a4, hgi, gT] at e3 ⊢ <;> simp [e3, i1, hbe, hlt, hc2]
        all_goals first | exact ⟨⟨some i, rfl⟩, ⟨some j, rfl⟩, ⟨some true, rfl⟩, ⟨none, rfl⟩⟩ | exact ⟨⟨some i, rfl⟩, ⟨some j, rfl⟩, ⟨some true, rfl⟩, ⟨some _, rfl⟩⟩
      · have hbe : ((i : Int) == mo) = false := by simpa using hc1
        cases o1 <;> cases o2 <;> cases o3 <;> cases o4 <;> simp [env, gsL, e1, e2, a1, a2, a3, a4, hgi, gT] at e3 ⊢ <;> simp [e3, i1, hbe]
        all_goals first | exact ⟨⟨some i, rfl⟩, ⟨some j, rfl⟩, ⟨some true, rfl⟩, ⟨none, rfl⟩⟩ | exact ⟨⟨some i, rfl⟩, ⟨some j, rfl⟩, ⟨some true, rfl⟩, ⟨some _, rfl⟩⟩
  simp only [env, gsL, locS_none, Option.map_none, loc_none, locB_none] at loop
  simp [gsL, hN, hr1, hr2, intsD_zero] at loop ⊢
  simp [loop]
end
end LawX

set_option Elab.async false
set_option linter.all false
set_option autoImplicit false
set_option maxRecDepth 100000
namespace LawX
open PySem L2 VL Ltl
theorem flip_any (g : List Bool) (k : Nat) : flipB g k = g.take k ++ ((g.drop k).take 1).map (fun b => !b) ++ g.drop (k + 1) := by
  by_cases h : k < g.length
  · rw [flip_split h]
    congr 2
    rw [List.drop_eq_getElem_cons h]
    unfold getB
    rw [List.getD_eq_getElem?_getD, List.getElem?_eq_getElem h]
    rfl
  · unfold flipB
    rw [List.set_eq_of_length_le (by omega), List.take_of_length_le (by omega), List.drop_eq_nil_of_le (by omega : g.length ≤ k), List.drop_eq_nil_of_le (by omega : g.length ≤ k + 1)]
    simp
def tl (a b : Nat → Bool) (n : Nat) : List Bool := (List.range n).foldl (fun t i => t ++ [a i, b i]) []
theorem tl_succ (a b : Nat → Bool) (n : Nat) : tl a b (n + 1) = tl a b n ++ [a n, b n] := by
  unfold tl
  rw [List.range_succ, List.foldl_append]
  rfl
theorem tl_len (a b : Nat → Bool) : ∀ n, (tl a b n).length = 2 * n
  | 0 => rfl
  | n + 1 => by
    rw [tl_succ, List.length_append, tl_len a b n]
    simp
    omega
theorem tl_at (a b : Nat → Bool) : ∀ (n i : Nat), i < n → (tl a b n)[2 * i + 1]? = some (b i)
  | 0, i, h => absurd h (Nat.not_lt_zero i)
  | n + 1, i, h => by
    rw [tl_succ]
    by_cases hi : i < n
    · rw [List.getElem?_append_left (by rw [tl_len]; omega)]
      exact tl_at a b n i hi
    · have : i = n := by omega
      subst this
      rw [List.getElem?_append_right (by rw [tl_len]; omega), tl_len, show 2 * i + 1 - 2 * i = 1 by omega]
      rfl
theorem tl_mem (a b : Nat → Bool) {n q i : Nat} (h1 : q ≤ i) (h2 : i < n) (hb : b i = true) : (evens ((tl a b n).drop (2 * q + 1))).any (· == true) = true := by
  rw [List.any_eq_true]
  refine ⟨true, ?_, rfl⟩
  have : (evens ((tl a b n).drop (2 * q + 1)))[i - q]? = some true := by
    rw [evens_get, List.getElem?_drop, show 2 * q + 1 + 2 * (i - q) = 2 * i + 1 by omega, tl_at a b n i h2, hb]
  exact List.mem_of_getElem? this
theorem evens_map {α β : Type} (f : α → β) : ∀ l : List α, evens (l.map f) = (evens l).map f
  | [] => rfl
  | [x] => rfl
  | x :: y :: r => by simp only [List.map_cons, evens, evens_map f r]
def locG (o : Option (List Bool)) : Option Ent := o.map fun l => py (gT l)
@[simp] theorem locG_none : locG none = none := rfl
@[simp] theorem locG_some (l : List Bool) : locG (some l) = some (py (gT l)) := rfl
section
variable {W R : List Str} {bs : List Sy} (hp : 0 < R.length) (hbig : W.length + R.length ≤ 1000) (hb : ∀ b ∈ bs, Ok b) (hB : ∀ b ∈ bs, BOk bs b) (hn : bs.length ≤ 100)
include hp hbig hb hB hn
set_option maxHeartbeats 0 in
theorem met_loop {s : Sy} {fo : PyData} {k : Nat} {p : Option Sy} (hpr : ∀ b, p = some b → b ∈ bs ∧ BOk bs b ∧ notNext b = true) :
    ∀ (l : List Nat) (t : List Bool) (o1 : Option Nat) (o2 o3 : Option (List Bool)), (∀ i ∈ l, i < W.length + R.length) → t.length + 2 * l.length ≤ 3000 →
      ∃ o1' o2' o3', forGo (gNm 10) (sq (fSet 11 (fSh (f2 oAdd (f2 oAdd (fSl (f2 oIx (fVar 4) (fVar 10)) fNoP (fP (fVar 5))) (fBl oTuple (fCons (fComp (fItems (fSl (f2 oIx (fVar 4) (fVar 10)) (fP (fVar 5)) (fP (f2 oAdd (fVar 5) (fC (.int 1)))))) (gNm 14) (ret true) (fNot (fVar 14)) [14]) fNil))) (fSl (f2 oIx (fVar 4) (fVar 10)) (fP (f2 oAdd (fVar 5) (fC (.int 1)))) fNoP))))
    (fFor (fItems (fTup (fCons (fVar 11) (fCons (f2 oIx (fVar 4) (fVar 10)) fNil)))) (gNm 12) (sq (fDrop (fMet appE (fVar 9) (fCons (fCall 4 none f_is_met (fCons (fVar 8) (fCons (f2 oIx (fVar 7) (fVar 10)) (fCons (fVar 1) (fCons (fVar 12) fNil))))) fNil)))
    (fIf (fOrT (fNotT (fB (fBl oIsi (fCons (f2 oIx (fVar 9) (f1 oNeg (fC (.int 1)))) (fCons (fTy "bool") fNil))))) (fB (f2 oNe (f2 oIx (fVar 9) (f1 oNeg (fC (.int 1)))) (fCall 4 none f_law_meets (fCons (fVar 8) (fCons (f2 oIx (fVar 7) (fVar 10)) (fCons (fVar 1) (fCons (fVar 12) fNil)))))))) (fRet (fC (.bool false))) fNx)))) (l.map fun i : Nat => .int i)
        [some (.sh (.py (enc s))), some (.sh (.py (encL bs))), some (.sh (.py (strL W))), some (.sh (.py (strL R))), some (.sh (.py (gsL W R bs))), some (.sh (.py (.int k))), some (.sh (.py fo)), some (.sh (.py (.list (W.map .str ++ R.map .str)))), some (py (promP p)), some (.own (boolL t) false), loc o1, locG o2, locG o3, none, none]
        = some (.ok .nx [some (.sh (.py (enc s))), some (.sh (.py (encL bs))), some (.sh (.py (strL W))), some (.sh (.py (strL R))), some (.sh (.py (gsL W R bs))), some (.sh (.py (.int k))), some (.sh (.py fo)), some (.sh (.py (.list (W.map .str ++ R.map .str)))), some (py (promP p)),
          some (.own (boolL (l.foldl (fun t i => t ++ [metB (wd W R i) bs (flipB (gAt (wd W R) bs i) k) p, metB (wd W R i) bs (gAt (wd W R) bs i) p]) t)) false), loc o1', locG o2', locG o3', none, none]) := by
  intro l
  induction l with
  | nil => intro t o1 o2 o3 _ _; exact ⟨o1, o2, o3, rfl⟩
  | cons i l ih =>
    intro t o1 o2 o3 hl ht
    have hi := hl i List.mem_cons_self
    generalize hgi : gAt (wd W R) bs i = gi
    have lg : gi.length = bs.length := by rw [← hgi, gAt_len]
    obtain ⟨p1, p2, p3, e⟩ := ih (t ++ [metB (wd W R i) bs (flipB gi k) p, metB (wd W R i) bs gi p]) (some i) (some (flipB gi k)) (some gi) (fun j hj => hl j (List.mem_cons_of_mem _ hj)) (by simp at ht ⊢; omega)
    refine ⟨p1, p2, p3, ?_⟩
    rw [List.map_cons, List.foldl_cons, hgi, ← e]
    have a1 := run_at (W := W) (R := R) hi
    have a2 := gs_at (W := W) (R := R) (bs := bs) hi
    rw [hgi] at a2
    have m1 := is_met_eq (m := wd W R i) (g := flipB gi k) hb (by rw [flip_len]; omega) hpr
    have m2 := is_met_eq (m := wd W R i) (g := gi) hb (by omega) hpr
    have m3 := meets_eq (m := wd W R i) (g := flipB gi k) hb (by rw [flip_len]; omega) (fun b hb => (hB b hb).is) hpr
    have m4 := meets_eq (m := wd W R i) (g := gi) hb (by omega) (fun b hb => (hB b hb).is) hpr
    have c1 : cutL (gi.map PyData.bool) none (some (k : Int)) = (gi.map .bool).take k := by rw [cut_to (by omega)]; simp
    have c2 : cutL (gi.map PyData.bool) (some ((k : Int) + 1)) none = (gi.map .bool).drop (k + 1) := by
      rw [cut_from (by omega)]
      have : ((k : Int) + 1).toNat = k + 1 := by omega
      rw [this]
    have c3 : cutL (gi.map PyData.bool) (some (k : Int)) (some ((k : Int) + 1)) = ((gi.drop k).take 1).map .bool := by
      rw [cut_mid (by omega) (by omega)]
      have : ((k : Int) + 1).toNat = k + 1 := by omega
      rw [this, Int.toNat_natCast, List.map_take, List.map_drop, List.take_drop]
    have b1 : min k gi.length + min 1 (gi.length - k) ≤ big := by simp only [big]; omega
    have b2 : min k gi.length + min 1 (gi.length - k) + (gi.length - (k + 1)) ≤ big := by simp only [big]; omega
    have b3 : t.length < big := by simp at ht; simp only [big]; omega
    have b4 : t.length + 1 < big := by simp at ht; simp only [big]; omega
    have i1 : ∀ b : Bool, isiT (.bool b) "bool" = some true := fun _ => rfl
    have hf := flip_any gi k
    generalize hx1 : metB (wd W R i) bs (flipB gi k) p = x1 at *
    generalize hx2 : metB (wd W R i) bs gi p = x2 at *
    rw [hf] at m1 m3 ⊢
    have ht1 : ((gi.drop k).take 1).length ≤ big := by rw [List.length_take, List.length_drop]; simp only [big]; omega
    simp only [gT, boolL] at *
    simp [Function.comp_def] at m1 m3
    cases o1 <;> cases o2 <;> cases o3 <;> simp [gsL, a2, c1, c2, c3] <;> rw [comp_pure ((gi.drop k).take 1) .bool (fun b => .bool (!b)) (by simp [gsL, a2, c3]) ht1 rfl (by simp)] <;> simp [c1, c2, c3, b1, b2, b3, b4, a1, a2, gsL, m1, m2, m3, m4, i1, atI_neg1] <;> simp [locG, gT, boolL, Function.comp_def, gsL]
end
end LawX

set_option Elab.async false
set_option linter.all false
set_option autoImplicit false
set_option maxRecDepth 100000
namespace LawX
open PySem L2 VL Ltl
def promsO (bs : List Sy) : List (Option Sy) := none :: (bs.filter notNext).map some
theorem promsO_map (bs : List Sy) : (promsO bs).map promP = promsL bs := by
  simp [promsO, promsL, promP]
theorem promsO_ok {bs : List Sy} (hB : ∀ b ∈ bs, BOk bs b) {p : Option Sy} (hp : p ∈ promsO bs) : ∀ b, p = some b → b ∈ bs ∧ BOk bs b ∧ notNext b = true := by
  rintro b rfl
  simp [promsO] at hp
  exact ⟨hp.1, hB b hp.1, hp.2⟩
theorem shaped_proms {bs : List Sy} (hb : ∀ b ∈ bs, Ok b) : SeqAt.shaped (.list (promsL bs)) = true := shaped_list 20 (by decide) fun d hd => by
  simp only [promsL, List.mem_cons, List.mem_map] at hd
  rcases hd with rfl | ⟨s, hs, rfl⟩
  · exact ⟨rfl, by simp [PyData.depth]⟩
  · have h := hb s (List.mem_filter.mp hs).1
    exact ⟨lay_enc s h.g, by rw [depth_enc]; exact h.d⟩
def locP (o : Option (Option Sy)) : Option Ent := o.map fun p => py (promP p)
@[simp] theorem locP_none : locP none = none := rfl
@[simp] theorem locP_some (p : Option Sy) : locP (some p) = some (py (promP p)) := rfl
def locO (o : Option (List Bool)) : Option Ent := o.map fun l => .own (boolL l) false
@[simp] theorem locO_none : locO none = none := rfl
@[simp] theorem locO_some (l : List Bool) : locO (some l) = some (.own (boolL l) false) := rfl
section
variable {W R : List Str} {bs : List Sy} (hp : 0 < R.length) (hbig : W.length + R.length ≤ 1000) (hb : ∀ b ∈ bs, Ok b) (hB : ∀ b ∈ bs, BOk bs b) (hn : bs.length ≤ 100)
include hp hbig hb hB hn
set_option maxHeartbeats 0 in
theorem promises_right_eq {s : Sy} {k : Nat} (hg : goodS s = true) (hd : deep s ≤ 7) (hs : bs = bondsS s) :
    f_law_promises_right [.py (enc s), .py (encL bs), .py (strL W), .py (strL R), .py (gsL W R bs), .py (.int k)] = some (.ok (py (.bool true)) .none) := by
  unfold f_law_promises_right b_law_promises_right
  rw [fnOf_eq]
  have hN : W.length + R.length ≤ big := by simp only [big]; omega
  have hr1 : inRng ((W.length : Int) + R.length) = true := by simp [inRng]; omega
  have hr2 : ((W.length : Int) + R.length).toNat = W.length + R.length := by omega
  have e0 := promises_of_eq hg hd
  rw [← hs] at e0
  have sp := shaped_proms hb
  have n1 := dNe_ok sp sp
  rw [eqv_shaped sp] at n1
  let env : Option (Option Sy) × (Option (List Bool) × (Option Nat × (Option (List Bool) × Option (List Bool)))) → DEnv := fun o => [some (.sh (.py (enc s))), some (.sh (.py (encL bs))), some (.sh (.py (strL W))), some (.sh (.py (strL R))), some (.sh (.py (gsL W R bs))), some (.sh (.py (.int k))), some (.sh (.py (.list (promsL bs)))), some (.sh (.py (.list (W.map .str ++ R.map .str)))), locP o.1, locO o.2.1, loc o.2.2.1, locG o.2.2.2.1, locG o.2.2.2.2, none, none]
  obtain ⟨o', loop⟩ := for_any (tg := gNm 8) (body := (sq (fSet 9 (fLst fNil))
    (sq (fFor (bnd (fCons (fBl oLen (fCons (fVar 7) fNil)) fNil) rng1) (gNm 10) (sq (fSet 11 (fSh (f2 oAdd (f2 oAdd (fSl (f2 oIx (fVar 4) (fVar 10)) fNoP (fP (fVar 5))) (fBl oTuple (fCons (fComp (fItems (fSl (f2 oIx (fVar 4) (fVar 10)) (fP (fVar 5)) (fP (f2 oAdd (fVar 5) (fC (.int 1)))))) (gNm 14) (ret true) (fNot (fVar 14)) [14]) fNil))) (fSl (f2 oIx (fVar 4) (fVar 10)) (fP (f2 oAdd (fVar 5) (fC (.int 1)))) fNoP))))
    (fFor (fItems (fTup (fCons (fVar 11) (fCons (f2 oIx (fVar 4) (fVar 10)) fNil)))) (gNm 12) (sq (fDrop (fMet appE (fVar 9) (fCons (fCall 4 none f_is_met (fCons (fVar 8) (fCons (f2 oIx (fVar 7) (fVar 10)) (fCons (fVar 1) (fCons (fVar 12) fNil))))) fNil)))
    (fIf (fOrT (fNotT (fB (fBl oIsi (fCons (f2 oIx (fVar 9) (f1 oNeg (fC (.int 1)))) (fCons (fTy "bool") fNil))))) (fB (f2 oNe (f2 oIx (fVar 9) (f1 oNeg (fC (.int 1)))) (fCall 4 none f_law_meets (fCons (fVar 8) (fCons (f2 oIx (fVar 7) (fVar 10)) (fCons (fVar 1) (fCons (fVar 12) fNil)))))))) (fRet (fC (.bool false))) fNx)))))
    (fIf (fB (f2 (oIn true) (fC (.bool true)) (f2 oSl2 (fVar 9) (f2 oAdd (f2 oMul (fC (.int 2)) (fBl oLen (fCons (fVar 2) fNil))) (fC (.int 1)))))) (fRet (fC (.bool false))) fNx)))) env promP (promsO bs) (none, none, none, none, none) fun p hpm o => by
      have hpr := promsO_ok hB hpm
      obtain ⟨i, hi1, hi2, hi3⟩ := met_ring (W := W) (bs := bs) hp hpr
      obtain ⟨o1, o2, o3, o4, o5⟩ := o
      obtain ⟨p1, p2, p3, e1⟩ := met_loop hp hbig hb hB hn (s := s) (fo := .list (promsL bs)) (k := k) hpr (List.range (W.length + R.length)) [] o3 o4 o5 (fun i hi => List.mem_range.mp hi) (by simp; omega)
      have htl : (List.range (W.length + R.length)).foldl (fun t i => t ++ [metB (wd W R i) bs (flipB (gAt (wd W R) bs i) k) p, metB (wd W R i) bs (gAt (wd W R) bs i) p]) [] = tl (fun i => metB (wd W R i) bs (flipB (gAt (wd W R) bs i) k) p) (fun i => metB (wd W R i) bs (gAt (wd W R) bs i) p) (W.length + R.length) := rfl
      rw [htl] at e1
      have hm := tl_mem (fun i => metB (wd W R i) bs (flipB (gAt (wd W R) bs i) k) p) (fun i => metB (wd W R i) bs (gAt (wd W R) bs i) p) hi1 hi2 hi3
      have hlen := tl_len (fun i => metB (wd W R i) bs (flipB (gAt (wd W R) bs i) k) p) (fun i => metB (wd W R i) bs (gAt (wd W R) bs i) p) (W.length + R.length)
      generalize tl (fun i => metB (wd W R i) bs (flipB (gAt (wd W R) bs i) k) p) (fun i => metB (wd W R i) bs (gAt (wd W R) bs i) p) (W.length + R.length) = T at *
      have hc : (0 : Int) ≤ 2 * (W.length : Int) + 1 ∧ 2 * (W.length : Int) + 1 ≤ (T.length : Int) := by omega
      have hnat : (2 * (W.length : Int) + 1).toNat = 2 * W.length + 1 := by omega
      have j1 : inOk (.bool true) (evens ((T.map PyData.bool).drop (2 * W.length + 1))) true = true := by
        rw [← List.map_drop, evens_map]
        exact inOk_bools true _ true
      have j2 : memP (.bool true) (evens ((T.map PyData.bool).drop (2 * W.length + 1))) = true := by
        rw [← List.map_drop, evens_map, memP_bools]
        exact hm
      simp only [boolL, List.map_nil] at e1
      cases o1 <;> cases o2 <;> simp [env, hr1, hr2, intsD_zero, e1, hc, hnat, j1, j2] <;> exact ⟨⟨some p, rfl⟩, ⟨some T, rfl⟩, ⟨p1, rfl⟩, ⟨p2, rfl⟩, ⟨p3, rfl⟩⟩
  rw [promsO_map] at loop
  simp only [env, locP_none, locO_none, loc_none, locG_none] at loop
  have i1 : ∀ ds : List PyData, isiT (.list ds) "list" = some true := fun _ => rfl
  have hfl : 1 + (bs.filter notNext).length ≤ big := by
    have := List.length_filter_le notNext bs
    simp only [big]
    omega
  have hpl : promsL bs = .none :: (bs.filter notNext).map enc := rfl
  have hbs : bs.length ≤ 1000 := by omega
  simp [e0, i1]
  rw [proms_comp (bs := bs) (fun b hb' => (hB b hb').is) hbs (by simp) (by simp) (by simp)]
  simp [hfl, encL]
  rw [← hpl]
  simp [n1, hN, loop]
end
end LawX

set_option Elab.async false
set_option linter.all false
set_option autoImplicit false
set_option maxRecDepth 100000
namespace LawX
open PySem L2 VL Ltl
theorem allG_allB : ∀ n, allG n = allB n
  | 0 => rfl
  | n + 1 => by simp only [allG, allB, allG_allB n]
theorem rowsOk_allG {n : Nat} (h : n ≤ 4) : rowsOk (allG n) = true := by
  unfold rowsOk
  rw [List.any_eq_true]
  exact ⟨n, List.mem_range.mpr (by omega), by rw [allG_allB]; exact beq_self_eq_true _⟩
theorem pow_at {n : Nat} (h : n ≤ 4) : ([PyData.int 1, .int 2, .int 4, .int 8, .int 16])[n]? = some (.int ((2 ^ n : Nat) : Int)) := by
  have : n = 0 ∨ n = 1 ∨ n = 2 ∨ n = 3 ∨ n = 4 := by omega
  rcases this with rfl | rfl | rfl | rfl | rfl <;> rfl
theorem guesses_right_eq {n : Nat} (h : n ≤ 4) : f_law_guesses_right [.py (.list ((allG n).map gT)), .py (.int n)] = some (.ok (py (.bool true)) .none) := by
  unfold f_law_guesses_right b_law_guesses_right
  rw [fnOf_eq]
  have i1 : ∀ ds : List PyData, isiT (.list ds) "list" = some true := fun _ => rfl
  have i2 : ∀ ds : List PyData, isiT (.tuple ds) "tuple" = some true := fun _ => rfl
  have i3 : ∀ b : Bool, isiT (.bool b) "bool" = some true := fun _ => rfl
  have hl := allG_len n
  have hs : dLenSet (.list ((allG n).map gT)) = some (py (.int (allG n).length)) := dLenSet_ok (rowsOk_allG h)
  have hp := pow_at h
  obtain ⟨o', loop⟩ := for_any (tg := gNm 2) (body := fIf (fOrT (fNotT (fB (fBl oIsi (fCons (fVar 2) (fCons (fTy "tuple") fNil))))) (fOrT (fB (f2 oNe (fBl oLen (fCons (fVar 2) fNil)) (fVar 1))) (fB (f2 (oIn false) (fC (.bool false)) (fComp (fItems (fVar 2)) (gNm 3) (ret true) (fBl oIsi (fCons (fVar 3) (fCons (fTy "bool") fNil))) [3]))))) (fRet (fC (.bool false))) fNx)
    (fun o : Option (List Bool) => [some (.sh (.py (.list ((allG n).map gT)))), some (.sh (.py (.int n))), locG o, none]) gT (allG n) none fun g hg o => by
      have lg := allG_each n g hg
      have lb : g.length ≤ big := by rw [lg]; simp only [big]; omega
      have mt : ∀ l : List Bool, l.map (fun _ => PyData.bool true) = (l.map fun _ => true).map .bool := fun l => by rw [List.map_map]; rfl
      have j1 : inOk (.bool false) (g.map fun _ => PyData.bool true) true = true := by rw [mt]; exact inOk_bools false _ true
      have j2 : memP (.bool false) (g.map fun _ => PyData.bool true) = false := by
        rw [mt]
        refine (memP_bools false _).trans ?_
        simp
      cases o <;> simp [i2, lg] <;> rw [comp_pure g .bool (fun _ => .bool true) (by simp) lb rfl (by simp [i3])] <;> simp [j1, j2] <;> exact ⟨some g, rfl⟩
  simp only [locG_none] at loop
  simp [i1, hl, hs, hp, loop]
theorem rows_at {W R : List Str} {bs : List Sy} {i : Nat} (h : i < W.length + R.length) : (bs.map fun b => rw_ W R b).map (fun r => PyData.bool (getB r i)) = (gAt (wd W R) bs i).map .bool := by
  rw [List.map_map, gAt, List.map_map]
  refine List.map_congr_left fun b _ => ?_
  show PyData.bool _ = PyData.bool _
  rw [row_get h]
theorem leaf_good {names : List Str} (hg : ∀ s ∈ names, good s = true ∧ s.length ≤ 100) (h3 : names.length = 3) (m : Int) : goodS (leafOf names m) = true := by
  unfold leafOf
  split
  · rfl
  · have h1 : 0 ≤ m % 3 := Int.emod_nonneg m (by decide)
    have h2 : m % 3 < 3 := Int.emod_lt_of_pos m (by decide)
    show good _ = true
    rw [List.getD_eq_getElem?_getD, List.getElem?_eq_getElem (by omega)]
    exact (hg _ (List.getElem_mem _)).1
theorem kind_good {i : Int} {s t : Sy} (h1 : goodS s = true) (h2 : goodS t = true) : goodS (kindOf i s t) = true := by
  unfold kindOf
  repeat' split
  all_goals simp [goodS, h1, h2]
theorem made_good (ns : List Int) {names : List Str} (hg : ∀ s ∈ names, good s = true ∧ s.length ≤ 100) (h3 : names.length = 3) : ∀ d k, goodS (madeS ns names d k).1 = true
  | 0, k => leaf_good hg h3 _
  | d + 1, k => by
    have h1 := made_good ns hg h3 d (k + 1)
    have h2 := made_good ns hg h3 d (madeS ns names d (k + 1)).2
    rw [madeS]
    split
    · exact leaf_good hg h3 _
    · split
      · exact kind_good h1 h2
      · exact kind_good h1 rfl
theorem law_true (ns : List Int) (hns : ns.length ≤ 63) : f_law [.scr ns] = some (.ok (py (.bool true)) .none) := by
  unfold f_law b_law
  rw [fnOf_eq]
  have hc := cell_at_eq ns 0
  generalize ns.getD 0 0 = c0 at *
  have hn := names_eq c0
  have h3 := names_len c0
  have hgn := names_good c0
  generalize namesOf c0 = names at *
  have hm := made_eq ns h3 5 5 1 (by decide)
  have hd := made_deep ns names 5 1
  have hgs := made_good ns hgn h3 5 1
  generalize hs : madeS ns names 5 1 = r at *
  obtain ⟨s0, k1⟩ := r
  have hd5 : deep s0 ≤ 5 := by simp at hd; omega
  obtain ⟨s, hf, hg, hds, hlen⟩ := law_fit_eq (k := 4) hgs (by omega)
  obtain ⟨W, k2, hW, _, hW2, hWg⟩ := marks_eq ns h3 hgn (m := 0) (by decide) k1
  obtain ⟨R, k3, hR, hR1, hR2, hRg⟩ := marks_eq ns h3 hgn (m := 1) (by decide) k2
  have hp : 0 < R.length := hR1
  have hbig : W.length + R.length ≤ 1000 := by omega
  have e1 := bonds_in_eq s 7 (by omega) hg (by omega)
  have hb : ∀ b ∈ bondsS s, Ok b := fun b hb => bonds_Ok hg (by omega) hb
  have hB : ∀ b ∈ bondsS s, BOk (bondsS s) b := fun b hb => bonds_BOk hg (by omega) hb
  have hdb : ∀ b ∈ bondsS s, deep b ≤ 8 := fun b hb => by have := (bonds_ok _ s b (Nat.le_refl _) hg hb).2; omega
  have e2 := rows_right_eq hp hbig hb hg (by omega) rfl
  have e3 := guesses_right_eq hlen
  have e4 := all_guesses_eq (bs := bondsS s) (by omega)
  have e5 := draw_eq ns k3
  have e6 : ∀ b ∈ bondsS s, f_law_means 8 [.py (enc b), .py (strL W), .py (strL R)] = some (.ok (.own (boolL (rw_ W R b)) false) .none) := fun b hb => means_eq hp hbig b 8 (hdb b hb)
  have e7 : ∀ (k : Nat) (mo : Int), (0 < (bondsS s).length → k < (bondsS s).length) → _ := fun k mo hk => steps_right_eq hp hbig hb hB (by omega : (bondsS s).length ≤ 100) (k := k) (mo := mo) hk
  have e8 := fun k => promises_right_eq hp hbig hb hB (by omega : (bondsS s).length ≤ 100) (k := k) hg (by omega) rfl
  generalize bondsS s = bs at *
  have hlb : bs.length ≤ big := by simp only [big]; omega
  have hN : W.length + R.length ≤ big := by simp only [big]; omega
  have hr1 : inRng ((W.length : Int) + R.length) = true := by simp [inRng]; omega
  have hr2 : ((W.length : Int) + R.length).toNat = W.length + R.length := by omega
  simp at hc hm hW hR hf
  simp [hc, hn, hm, hf, e1, hW, hR]
  rw [comp_pure bs enc (fun b => boolL (rw_ W R b)) (by simp [encL]) hlb rfl (by
    intro b hb'
    simp [e6 b hb'])]
  simp
  rw [comp_pure (List.range (W.length + R.length)) (fun i : Nat => .int i) (fun i => gT (gAt (wd W R) bs i)) (by simp [hr1, hr2, intsD_zero]) (by rw [List.length_range]; exact hN) rfl (by
    intro i hi
    have hi := List.mem_range.mp hi
    simp
    rw [comp_pure (bs.map fun b => rw_ W R b) boolL (fun r => .bool (getB r i)) (by simp [List.map_map, Function.comp_def]) (by simpa using hlb) rfl (by
      intro r hr
      obtain ⟨b, hb', rfl⟩ := List.mem_map.mp hr
      have a1 := atB (bs := rw_ W R b) (i := i) (by rw [row_length]; exact hi)
      simp [a1])]
    rw [rows_at hi]
    simp)]
  obtain ⟨M, hM, hM0, hMl⟩ : ∃ M : Int, M = (if 1 < (bs.length : Int) then (bs.length : Int) else 1) ∧ 0 < M ∧ (0 < bs.length → M = bs.length) := ⟨_, rfl, by split <;> omega, fun h => by split <;> omega⟩
  have hkk : drawV ns k3 % M = (((drawV ns k3 % M).toNat : Nat) : Int) := by
    have := Int.emod_nonneg (drawV ns k3) (by omega : M ≠ 0)
    omega
  have hkl : 0 < bs.length → (drawV ns k3 % M).toNat < bs.length := fun h => by
    have h1 := Int.emod_nonneg (drawV ns k3) (by omega : M ≠ 0)
    have h2 := Int.emod_lt_of_pos (drawV ns k3) hM0
    have h3 := hMl h
    omega
  have e9 := e7 _ (drawV ns k3 / 4 % ((W.length : Int) + R.length)) hkl
  have e10 := e8 (drawV ns k3 % M).toNat
  rw [← hkk] at e9 e10
  simp only [gsL] at e2 e9 e10
  have sb := shaped_encL hb
  have n1 := dEq_ok sb sb
  rw [eqv_shaped sb] at n1
  have hNp : 0 < (W.length : Int) + R.length := by omega
  simp [e4, e3, e2, e5]
  rw [← hM]
  simp [e9, e10, e1, n1, hM0, hNp]
end LawX

open PySem PySem.W PyProof.Rows
set_option maxRecDepth 100000 in
set_option maxHeartbeats 0 in
theorem PySem.Challenge.cw_everafter_k05_right_guesses_holds : PySem.Challenge.rw_everafter_k05_right_guesses.Holds := by
  w_on; o_law; k_head; (case hw => w_witness2)
  k_fill
  refine L2.walk_of (l := PySem.Challenge.rw_everafter_k05_right_guesses) (n := 63) (k := 13) (x := "_law_script") (CX := fun w => L2.CX PySem.Challenge.rw_everafter_k05_right_guesses.prog w) (sp := fun w => LawX.spLaw _) rfl (by decide) rfl ⟨rfl, by decide, by decide⟩ (fun w h Y => PySem.W.kIn_of Y) ?F (fun _ _ a ns hl _ hS => ⟨a, ns, rfl, hS, hl, fun _ => rfl⟩) (fun _ _ _ _ _ h => VL.cx_none h)
  case F =>
    intro w mg fa h KX G hmg
    refine' LawX.all_mk LawX.law_true KX G hmg ?a0 ?l0 ?c0 ?k0 ?a1 ?l1 ?c1 ?k1 ?a2 ?l2 ?c2 ?k2 ?a3 ?l3 ?c3 ?k3 ?a4 ?l4 ?c4 ?k4 ?a5 ?l5 ?c5 ?k5 ?a6 ?l6 ?c6 ?k6 ?a7 ?l7 ?c7 ?k7 ?a8 ?l8 ?c8 ?k8 ?a9 ?l9 ?c9 ?k9 ?a10 ?l10 ?c10 ?k10 ?a11 ?l11 ?c11 ?k11 ?a12 ?l12 ?c12 ?k12 ?a13 ?l13 ?c13 ?k13 ?a14 ?l14 ?c14 ?k14 ?a15 ?l15 ?c15 ?k15 ?a16 ?l16 ?c16 ?k16 ?a17 ?l17 ?c17 ?k17 ?a18 ?l18 ?c18 ?k18 ?a19 ?l19 ?c19 ?k19 ?a20 ?l20 ?c20 ?k20 ?a21 ?l21 ?c21 ?k21 ?a22 ?l22 ?c22 ?k22 ?a23 ?l23 ?c23 ?k23 ?a24 ?l24 ?c24 ?k24 ?a25 ?l25 ?c25 ?k25 ?a26 ?l26 ?c26 ?k26 ?z0 ?z1 ?z2 ?z3 ?z4 ?z5 ?z6 ?z7 ?z8 ?z9 ?z10 ?z11
    (case a0 => k_is)
    (case l0 => k_is)
    (case c0 => k_is)
    (case k0 => k_is)
    (case a1 => k_is)
    (case l1 => k_is)
    (case c1 => k_is)
    (case k1 => k_is)
    (case a2 => k_is)
    (case l2 => k_is)
    (case c2 => k_is)
    (case k2 => k_is)
    (case a3 => k_is)
    (case l3 => k_is)
    (case c3 => k_is)
    (case k3 => k_is)
    (case a4 => k_is)
    (case l4 => k_is)
    (case c4 => k_is)
    (case k4 => k_is)
    (case a5 => k_is)
    (case l5 => k_is)
    (case c5 => k_is)
    (case k5 => k_is)
    (case a6 => k_is)
    (case l6 => k_is)
    (case c6 => k_is)
    (case k6 => k_is)
    (case a7 => k_is)
    (case l7 => k_is)
    (case c7 => k_is)
    (case k7 => k_is)
    (case a8 => k_is)
    (case l8 => k_is)
    (case c8 => k_is)
    (case k8 => k_is)
    (case a9 => k_is)
    (case l9 => k_is)
    (case c9 => k_is)
    (case k9 => k_is)
    (case a10 => k_is)
    (case l10 => k_is)
    (case c10 => k_is)
    (case k10 => k_is)
    (case a11 => k_is)
    (case l11 => k_is)
    (case c11 => k_is)
    (case k11 => k_is)
    (case a12 => k_is)
    (case l12 => k_is)
    (case c12 => k_is)
    (case k12 => k_is)
    (case a13 => k_is)
    (case l13 => k_is)
    (case c13 => k_is)
    (case k13 => k_is)
    (case a14 => k_is)
    (case l14 => k_is)
    (case c14 => k_is)
    (case k14 => k_is)
    (case a15 => k_is)
    (case l15 => k_is)
    (case c15 => k_is)
    (case k15 => k_is)
    (case a16 => k_is)
    (case l16 => k_is)
    (case c16 => k_is)
    (case k16 => k_is)
    (case a17 => k_is)
    (case l17 => k_is)
    (case c17 => k_is)
    (case k17 => k_is)
    (case a18 => k_is)
    (case l18 => k_is)
    (case c18 => k_is)
    (case k18 => k_is)
    (case a19 => k_is)
    (case l19 => k_is)
    (case c19 => k_is)
    (case k19 => k_is)
    (case a20 => k_is)
    (case l20 => k_is)
    (case c20 => k_is)
    (case k20 => k_is)
    (case a21 => k_is)
    (case l21 => k_is)
    (case c21 => k_is)
    (case k21 => k_is)
    (case a22 => k_is)
    (case l22 => k_is)
    (case c22 => k_is)
    (case k22 => k_is)
    (case a23 => k_is)
    (case l23 => k_is)
    (case c23 => k_is)
    (case k23 => k_is)
    (case a24 => k_is)
    (case l24 => k_is)
    (case c24 => k_is)
    (case k24 => k_is)
    (case a25 => k_is)
    (case l25 => k_is)
    (case c25 => k_is)
    (case k25 => k_is)
    (case a26 => k_is)
    (case l26 => k_is)
    (case c26 => k_is)
    (case k26 => k_is)
    (case z0 => k_is)
    (case z1 => k_is)
    (case z2 => k_is)
    (case z3 => k_is)
    (case z4 => k_is)
    (case z5 => k_is)
    (case z6 => k_is)
    (case z7 => k_is)
    (case z8 => k_is)
    (case z9 => k_is)
    (case z10 => k_is)
    (case z11 => k_is)
