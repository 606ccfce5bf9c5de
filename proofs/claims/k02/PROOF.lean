import PyProof.Rows.All
import Wide.All
import OpenK.AllK
import Wide.FinOn
import HandS.ForMost
import HandS.ForExc
import HandS.Deep
import HandS.IsInst
import HandS.TupAny
import HandS.TupSets
import HandS.SetBool
import HandS.ExcIs
import HandS.SetFor
import HandS.Zip
import PySem.Challenge.RW_everafter_k02_machines
set_option Elab.async false
set_option linter.all false
set_option autoImplicit false
set_option maxRecDepth 100000
/-! The value layer, part 1: data, the local environment, steps of the abstract heap. -/
namespace VL
open PySem L2

/-- what a shared value is: data, an instance of the k-th class, the law's script -/
inductive D where
  | py (p : PyData)
  | ins (k : Nat) (fs : List (Str × D))
  | scr (ns : List Int)
  | ty (n : String)
  | val (u : V)

mutual
/-- the value v is the data d, within the shared part G of the heap -/
def Rp (K : PySem.W.Frag) (G : Hp) : V → PyData → Prop
  | v, .none => v = .non
  | v, .bool b => v = .bl b
  | v, .int i => v = .int i
  | v, .str s => v = .str s
  | v, .list ds => ∃ a vs, v = .ref a ∧ G a = some (.lst vs) ∧ RpL K G vs ds
  | v, .tuple ds => ∃ a vs, v = .ref a ∧ G a = some (.tup vs) ∧ RpL K G vs ds
  | v, .dict kvs => kvs = [] ∧ ∃ a, v = .ref a ∧ G a = some (.dK [])
def RpL (K : PySem.W.Frag) (G : Hp) : List V → List PyData → Prop
  | [], [] => True
  | v :: vs, d :: ds => Rp K G v d ∧ RpL K G vs ds
  | _, _ => False
end

mutual
def RpD (K : PySem.W.Frag) (c : Nat → Addr) (G : Hp) : V → D → Prop
  | v, .py p => Rp K G v p
  | v, .ins k fs => ∃ a dx vs, v = .ref a ∧ G a = some (.ins (c k) dx vs) ∧ RpF K c G vs fs
  | v, .scr ns => ∃ a, v = .ref a ∧ SqL K G a (ns.map V.int)
  | v, .ty n => v = .ty n
  | v, .val u => v = u
def RpF (K : PySem.W.Frag) (c : Nat → Addr) (G : Hp) : List (Str × V) → List (Str × D) → Prop
  | [], [] => True
  | v :: vs, d :: ds => (v.1 = d.1 ∧ RpD K c G v.2 d.2) ∧ RpF K c G vs ds
  | _, _ => False
end

mutual
theorem Rp.mono {K : PySem.W.Frag} {G G' : Hp} (h : Same G G') : ∀ (v : V) (d : PyData), Rp K G v d → Rp K G' v d
  | v, .none, r => by simpa only [Rp] using r
  | v, .bool b, r => by simpa only [Rp] using r
  | v, .int i, r => by simpa only [Rp] using r
  | v, .str s, r => by simpa only [Rp] using r
  | v, .list ds, r => by
    simp only [Rp] at r ⊢
    obtain ⟨a, vs, e, g, q⟩ := r
    exact ⟨a, vs, e, h _ _ g, RpL.mono h vs ds q⟩
  | v, .tuple ds, r => by
    simp only [Rp] at r ⊢
    obtain ⟨a, vs, e, g, q⟩ := r
    exact ⟨a, vs, e, h _ _ g, RpL.mono h vs ds q⟩
  | v, .dict _, r => by
    simp only [Rp] at r ⊢
    obtain ⟨e, a, ea, g⟩ := r
    exact ⟨e, a, ea, h _ _ g⟩
theorem RpL.mono {K : PySem.W.Frag} {G G' : Hp} (h : Same G G') : ∀ (vs : List V) (ds : List PyData), RpL K G vs ds → RpL K G' vs ds
  | [], [], _ => by simp only [RpL]
  | v :: vs, d :: ds, r => by
    simp only [RpL] at r ⊢
    exact ⟨Rp.mono h v d r.1, RpL.mono h vs ds r.2⟩
  | [], _ :: _, r => by simp only [RpL] at r
  | _ :: _, [], r => by simp only [RpL] at r
end
mutual
theorem RpD.mono {K : PySem.W.Frag} {c : Nat → Addr} {G G' : Hp} (h : Same G G') : ∀ (v : V) (d : D), RpD K c G v d → RpD K c G' v d
  | v, .py p, r => by
    simp only [RpD] at r ⊢
    exact Rp.mono h v p r
  | v, .ins k fs, r => by
    simp only [RpD] at r ⊢
    obtain ⟨a, dx, vs, e, g, q⟩ := r
    exact ⟨a, dx, vs, e, h _ _ g, RpF.mono h vs fs q⟩
  | v, .scr ns, r => by
    simp only [RpD] at r ⊢
    obtain ⟨a, e, g⟩ := r
    exact ⟨a, e, h.seq g⟩
  | v, .ty n, r => by simpa only [RpD] using r
  | v, .val u, r => by simpa only [RpD] using r
theorem RpF.mono {K : PySem.W.Frag} {c : Nat → Addr} {G G' : Hp} (h : Same G G') : ∀ (vs : List (Str × V)) (ds : List (Str × D)), RpF K c G vs ds → RpF K c G' vs ds
  | [], [], _ => by simp only [RpF]
  | v :: vs, d :: ds, r => by
    simp only [RpF] at r ⊢
    exact ⟨⟨r.1.1, RpD.mono h v.2 d.2 r.1.2⟩, RpF.mono h vs ds r.2⟩
  | [], _ :: _, r => by simp only [RpF] at r
  | _ :: _, [], r => by simp only [RpF] at r
end
theorem RpL.length {K : PySem.W.Frag} {G : Hp} : ∀ {vs : List V} {ds : List PyData}, RpL K G vs ds → vs.length = ds.length
  | [], [], _ => rfl
  | v :: vs, d :: ds, r => by
    simp only [RpL] at r
    rw [List.length_cons, List.length_cons, RpL.length r.2]
  | [], _ :: _, r => by simp only [RpL] at r
  | _ :: _, [], r => by simp only [RpL] at r
theorem RpL.get {K : PySem.W.Frag} {G : Hp} : ∀ {vs : List V} {ds : List PyData} {i : Nat} {d : PyData}, RpL K G vs ds → ds[i]? = some d → ∃ v, vs[i]? = some v ∧ Rp K G v d
  | v :: vs, d :: ds, 0, d', r, e => by
    simp only [RpL] at r
    simp only [List.getElem?_cons_zero, Option.some.injEq] at e
    subst e
    exact ⟨v, rfl, r.1⟩
  | v :: vs, d :: ds, i + 1, d', r, e => by
    simp only [RpL] at r
    simp only [List.getElem?_cons_succ] at e ⊢
    exact RpL.get r.2 e
  | _, [], i, d', r, e => by simp at e
  | [], _ :: _, _, _, r, _ => by simp only [RpL] at r
theorem RpL.getV {K : PySem.W.Frag} {G : Hp} : ∀ {vs : List V} {ds : List PyData} {i : Nat} {v : V}, RpL K G vs ds → vs[i]? = some v → ∃ d, ds[i]? = some d ∧ Rp K G v d
  | v :: vs, d :: ds, 0, v', r, e => by
    simp only [RpL] at r
    simp only [List.getElem?_cons_zero, Option.some.injEq] at e
    subst e
    exact ⟨d, rfl, r.1⟩
  | v :: vs, d :: ds, i + 1, v', r, e => by
    simp only [RpL] at r
    simp only [List.getElem?_cons_succ] at e ⊢
    exact RpL.getV r.2 e
  | [], _, i, d', r, e => by simp at e
  | _ :: _, [], _, _, r, _ => by simp only [RpL] at r
theorem RpL.append {K : PySem.W.Frag} {G : Hp} : ∀ {vs : List V} {ds : List PyData} {ws : List V} {es : List PyData}, RpL K G vs ds → RpL K G ws es → RpL K G (vs ++ ws) (ds ++ es)
  | [], [], _, _, _, q => q
  | v :: vs, d :: ds, ws, es, r, q => by
    simp only [RpL, List.cons_append] at r ⊢
    exact ⟨r.1, RpL.append r.2 q⟩
  | [], _ :: _, _, _, r, _ => by simp only [RpL] at r
  | _ :: _, [], _, _, r, _ => by simp only [RpL] at r
theorem RpL.drop {K : PySem.W.Frag} {G : Hp} : ∀ (n : Nat) {vs : List V} {ds : List PyData}, RpL K G vs ds → RpL K G (vs.drop n) (ds.drop n)
  | 0, _, _, r => r
  | n + 1, [], [], r => r
  | n + 1, v :: vs, d :: ds, r => by
    simp only [RpL, List.drop_succ_cons] at r ⊢
    exact RpL.drop n r.2
  | _ + 1, [], _ :: _, r => by simp only [RpL] at r
  | _ + 1, _ :: _, [], r => by simp only [RpL] at r
theorem RpL.take {K : PySem.W.Frag} {G : Hp} : ∀ (n : Nat) {vs : List V} {ds : List PyData}, RpL K G vs ds → RpL K G (vs.take n) (ds.take n)
  | 0, _, _, r => by simp only [List.take_zero, RpL]
  | n + 1, [], [], r => r
  | n + 1, v :: vs, d :: ds, r => by
    simp only [RpL, List.take_succ_cons] at r ⊢
    exact ⟨r.1, RpL.take n r.2⟩
  | _ + 1, [], _ :: _, r => by simp only [RpL] at r
  | _ + 1, _ :: _, [], r => by simp only [RpL] at r
theorem RpL.set {K : PySem.W.Frag} {G : Hp} {v : V} {d : PyData} (q : Rp K G v d) : ∀ (n : Nat) {vs : List V} {ds : List PyData}, RpL K G vs ds → RpL K G (vs.set n v) (ds.set n d)
  | _, [], [], r => r
  | 0, w :: vs, e :: ds, r => by
    simp only [RpL, List.set_cons_zero] at r ⊢
    exact ⟨q, r.2⟩
  | n + 1, w :: vs, e :: ds, r => by
    simp only [RpL, List.set_cons_succ] at r ⊢
    exact ⟨r.1, RpL.set q n r.2⟩
  | _, [], _ :: _, r => by simp only [RpL] at r
  | _, _ :: _, [], r => by simp only [RpL] at r
theorem RpL.one {K : PySem.W.Frag} {G : Hp} {v : V} {d : PyData} (q : Rp K G v d) : RpL K G [v] [d] := by
  simp only [RpL]
  exact ⟨q, trivial⟩

mutual
/-- data without dicts -/
def noDict : PyData → Bool
  | .dict _ => false
  | .list ds => noDicts ds
  | .tuple ds => noDicts ds
  | _ => true
def noDicts : List PyData → Bool
  | [] => true
  | d :: ds => noDict d && noDicts ds
end
mutual
/-- the kit's own relation -/
theorem Rp.dp {K : PySem.W.Frag} {G H : Hp} (h : Same G H) : ∀ (v : V) (d : PyData), noDict d = true → Rp K G v d → Dp K H v d
  | v, .none, _, r => by
    simp only [Rp] at r
    subst r
    exact .non
  | v, .bool b, _, r => by
    simp only [Rp] at r
    subst r
    exact .bl b
  | v, .int i, _, r => by
    simp only [Rp] at r
    subst r
    exact .int i
  | v, .str s, _, r => by
    simp only [Rp] at r
    subst r
    exact .str s
  | v, .list ds, nd, r => by
    simp only [Rp] at r
    obtain ⟨a, vs, e, g, q⟩ := r
    subst e
    exact .lst (SqL.of (h _ _ g)) (RpL.dp h vs ds (by simpa only [noDict] using nd) q)
  | v, .tuple ds, nd, r => by
    simp only [Rp] at r
    obtain ⟨a, vs, e, g, q⟩ := r
    subst e
    exact .tup (SqT.of (h _ _ g)) (RpL.dp h vs ds (by simpa only [noDict] using nd) q)
  | v, .dict _, nd, r => by simp only [noDict, Bool.false_eq_true] at nd
theorem RpL.dp {K : PySem.W.Frag} {G H : Hp} (h : Same G H) : ∀ (vs : List V) (ds : List PyData), noDicts ds = true → RpL K G vs ds → DpAll K H vs ds
  | [], [], _, _ => .nil
  | v :: vs, d :: ds, nd, r => by
    simp only [RpL] at r
    simp only [noDicts, Bool.and_eq_true] at nd
    exact .cons (Rp.dp h v d nd.1 r.1) (RpL.dp h vs ds nd.2 r.2)
  | [], _ :: _, _, r => by simp only [RpL] at r
  | _ :: _, [], _, r => by simp only [RpL] at r
end

mutual
theorem lay_noDict : ∀ d : PyData, d.canLay0 = true → noDict d = true
  | .none, _ => rfl
  | .bool _, _ => rfl
  | .int _, _ => rfl
  | .str _, _ => rfl
  | .list ds, h => by
    simp only [noDict]
    exact lay_noDicts ds (by simpa only [PyData.canLay0] using h)
  | .tuple ds, h => by
    simp only [noDict]
    exact lay_noDicts ds (by simpa only [PyData.canLay0] using h)
  | .dict _, h => by simp only [PyData.canLay0, Bool.false_eq_true] at h
theorem lay_noDicts : ∀ ds : List PyData, PyData.canLayAll0 ds = true → noDicts ds = true
  | [], _ => rfl
  | d :: ds, h => by
    simp only [PyData.canLayAll0, Bool.and_eq_true] at h
    simp only [noDicts, Bool.and_eq_true]
    exact ⟨lay_noDict d h.1, lay_noDicts ds h.2⟩
end
theorem shaped_nd {d : PyData} (h : SeqAt.shaped d = true) : noDict d = true := lay_noDict d (SeqAt.canLay_of_shaped h)
/-! ### entries -/
/-- what stands at a name, or is the value of an expression: shared; a list (or dict) that is this def's alone; the thing at the i-th name -/
inductive Ent where
  | sh (d : D)
  | own (p : PyData) (b : Bool)
  | lnk (i : Nat)
abbrev DEnv := List (Option Ent)
abbrev py (p : PyData) : Ent := .sh (.py p)

def OwnAt (K : PySem.W.Frag) (G H : Hp) (a : Addr) : PyData → Prop
  | .list ds => ∃ vs, H a = some (.lst vs) ∧ RpL K G vs ds
  | _ => False
theorem OwnAt.shape {K : PySem.W.Frag} {G H : Hp} {a : Addr} : ∀ {p : PyData}, OwnAt K G H a p → ∃ ds vs, p = .list ds ∧ H a = some (.lst vs) ∧ RpL K G vs ds
  | .list ds, h => by
    obtain ⟨vs, h1, h2⟩ := h
    exact ⟨ds, vs, rfl, h1, h2⟩
  | .none, h => h.elim
  | .bool _, h => h.elim
  | .int _, h => h.elim
  | .str _, h => h.elim
  | .tuple _, h => h.elim
  | .dict _, h => h.elim
theorem OwnAt.some {K : PySem.W.Frag} {G H : Hp} {a : Addr} {p : PyData} (h : OwnAt K G H a p) : ∃ o, H a = some o := by
  obtain ⟨_, vs, _, h1, _⟩ := h.shape
  exact ⟨_, h1⟩
theorem OwnAt.mono {K : PySem.W.Frag} {G H G' H' : Hp} {a : Addr} (s : Same G G') (e : H' a = H a) : ∀ {p : PyData}, OwnAt K G H a p → OwnAt K G' H' a p
  | .list ds, h => by
    obtain ⟨vs, h1, h2⟩ := h
    exact ⟨vs, e.trans h1, h2.mono s⟩
  | .none, h => h.elim
  | .bool _, h => h.elim
  | .int _, h => h.elim
  | .str _, h => h.elim
  | .tuple _, h => h.elim
  | .dict _, h => h.elim
/-- owned by the environment -/
def Ow (σ : St) (ρ : DEnv) (a : Addr) : Prop := ∃ (i : Nat) (p : PyData) (b : Bool), ρ[i]? = some (some (.own p b)) ∧ σ[i]? = some (some (.ref a))

structure EnvOk (K : PySem.W.Frag) (c : Nat → Addr) (G H : Hp) (σ : St) (ρ : DEnv) : Prop where
  le : Same G H
  len : ρ.length = σ.length
  sh : ∀ (i : Nat) (d : D), ρ[i]? = some (some (.sh d)) → ∃ v, σ[i]? = some (some v) ∧ RpD K c G v d
  own : ∀ (i : Nat) (p : PyData) (b : Bool), ρ[i]? = some (some (.own p b)) → ∃ a, σ[i]? = some (some (.ref a)) ∧ G a = none ∧ OwnAt K G H a p
  nol : ∀ (i j : Nat), ρ[i]? ≠ some (some (.lnk j))
  inj : ∀ (i j : Nat) (a : Addr) (p q : PyData) (b d : Bool), ρ[i]? = some (some (.own p b)) → ρ[j]? = some (some (.own q d)) → σ[i]? = some (some (.ref a)) → σ[j]? = some (some (.ref a)) → i = j

def EntOk (K : PySem.W.Frag) (c : Nat → Addr) (G H : Hp) (σ : St) (ρ : DEnv) (v : V) : Ent → Prop
  | .sh d => RpD K c G v d
  | .own p _ => ∃ a, v = .ref a ∧ G a = none ∧ OwnAt K G H a p ∧ ¬ Ow σ ρ a
  | .lnk i => σ[i]? = some (some v)
/-- what is owned is new since H -/
def Frs (H : Hp) (v : V) : Ent → Prop
  | .own _ _ => ∀ a, v = .ref a → H a = none
  | _ => True

/-- a step: from G, H with σ, ρ to G', H' with σ', ρ' -/
structure Stp (K : PySem.W.Frag) (c : Nat → Addr) (G H : Hp) (σ : St) (ρ : DEnv) (G' H' : Hp) (σ' : St) (ρ' : DEnv) : Prop where
  env : EnvOk K c G' H' σ' ρ'
  sh : Same G G'
  keep : ∀ p o, H p = some o → G p = none → ¬ Ow σ ρ p → H' p = some o ∧ G' p = none
  own : ∀ p, Ow σ' ρ' p → Ow σ ρ p ∨ H p = none
  dom : ∀ p, H' p = none → H p = none
  pin : ∀ (i : Nat) (p : PyData), ρ[i]? = some (some (.own p true)) → (∃ q, ρ'[i]? = some (some (.own q true))) ∧ σ'[i]? = σ[i]?

section
variable {K : PySem.W.Frag} {c : Nat → Addr} {G H G1 H1 G2 H2 : Hp} {σ σ1 σ2 : St} {ρ ρ1 ρ2 : DEnv} {v : V} {e : Ent}
theorem Stp.refl (h : EnvOk K c G H σ ρ) : Stp K c G H σ ρ G H σ ρ := ⟨h, Same.refl _, fun _ _ a b _ => ⟨a, b⟩, fun _ h => .inl h, fun _ h => h, fun _ p h => ⟨⟨p, h⟩, rfl⟩⟩
theorem Stp.trans (a : Stp K c G H σ ρ G1 H1 σ1 ρ1) (b : Stp K c G1 H1 σ1 ρ1 G2 H2 σ2 ρ2) : Stp K c G H σ ρ G2 H2 σ2 ρ2 := by
  refine ⟨b.env, a.sh.trans b.sh, fun p o h1 h2 h3 => ?_, fun p h => ?_, fun p h => a.dom p (b.dom p h), fun i p h => ?_⟩
  · obtain ⟨k1, k2⟩ := a.keep p o h1 h2 h3
    refine b.keep p o k1 k2 fun h => ?_
    rcases a.own p h with h | h
    · exact h3 h
    · rw [h] at h1
      cases h1
  · rcases b.own p h with h | h
    · exact a.own p h
    · exact .inr (a.dom p h)
  · obtain ⟨⟨q, hq⟩, e1⟩ := a.pin i p h
    obtain ⟨r, e2⟩ := b.pin i q hq
    exact ⟨r, e2.trans e1⟩
/-- a value that waits while another is reckoned -/
theorem EntOk.step (h : EntOk K c G H σ ρ v e) (s : Stp K c G H σ ρ G1 H1 σ ρ1) : EntOk K c G1 H1 σ ρ1 v e := by
  cases e with
  | sh d => exact RpD.mono s.sh v d h
  | own p b =>
    obtain ⟨a, ev, h1, h2, h3⟩ := h
    obtain ⟨o, ho⟩ := h2.some
    obtain ⟨k1, k2⟩ := s.keep a o ho h1 h3
    refine ⟨a, ev, k2, h2.mono s.sh (k1.trans ho.symm), fun h => ?_⟩
    rcases s.own a h with h | h
    · exact h3 h
    · rw [h] at ho
      cases ho
  | lnk i => exact h
theorem EntOk.pres {p : PyData} {b : Bool} (h : EntOk K c G H σ ρ v (.own p b)) (s : Stp K c G H σ ρ G1 H1 σ1 ρ1) : EntOk K c G1 H1 σ1 ρ1 v (.own p b) := by
  obtain ⟨a, ev, h1, h2, h3⟩ := h
  obtain ⟨o, ho⟩ := h2.some
  obtain ⟨k1, k2⟩ := s.keep a o ho h1 h3
  refine ⟨a, ev, k2, h2.mono s.sh (k1.trans ho.symm), fun h => ?_⟩
  rcases s.own a h with h | h
  · exact h3 h
  · rw [h] at ho
    cases ho
theorem Frs.back (h : Frs H1 v e) (s : Stp K c G H σ ρ G1 H1 σ1 ρ1) : Frs H v e := by
  cases e with
  | own p b => exact fun a ea => s.dom a (h a ea)
  | sh d => trivial
  | lnk i => trivial
theorem Ow.at {p : Addr} (h : Ow σ ρ p) (x : EnvOk K c G H σ ρ) : ∃ o, H p = some o := by
  obtain ⟨i, q, b, h1, h2⟩ := h
  obtain ⟨a, e, _, h3⟩ := x.own i q b h1
  rw [h2] at e
  cases e
  exact h3.some
theorem Ow.no {p : Addr} (h : Ow σ ρ p) (x : EnvOk K c G H σ ρ) : G p = none := by
  obtain ⟨i, q, b, h1, h2⟩ := h
  obtain ⟨a, e, h3, _⟩ := x.own i q b h1
  rw [h2] at e
  cases e
  exact h3
theorem same_up {H : Hp} {p : Addr} {o : HO} (h : H p = none) : Same H (upd H p o) := fun b x e => by
  rw [upd_ne (ne_of_none e h)]
  exact e
theorem sameUp {G H : Hp} {p : Addr} {o : HO} (h : Same G H) (n : G p = none) : Same G (upd H p o) := fun b x e => by
  rw [upd_ne (ne_of_none e n)]
  exact h b x e
theorem sameUp2 {G H : Hp} {p : Addr} {o : HO} (h : Same G H) : Same (upd G p o) (upd H p o) := fun b x e => by
  by_cases hb : b = p
  · subst hb
    rw [upd_same] at e ⊢
    exact e
  · rw [upd_ne hb] at e ⊢
    exact h b x e
/-- a new thing, the def's own for now -/
theorem Stp.newOwn {p : Addr} {o : HO} (x : EnvOk K c G H σ ρ) (n : H p = none) : Stp K c G H σ ρ G (upd H p o) σ ρ := by
  have gn : G p = none := x.le.free n
  have ne : ∀ b u, H b = some u → b ≠ p := fun b u e => ne_of_none e n
  refine ⟨⟨sameUp x.le gn, x.len, x.sh, fun i q b h => ?_, x.nol, x.inj⟩, Same.refl _, fun b u h1 h2 _ => ⟨by rw [upd_ne (ne b u h1)]; exact h1, h2⟩, fun _ h => .inl h, fun b h => ?_, fun _ p h => ⟨⟨p, h⟩, rfl⟩⟩
  · obtain ⟨a, e, h1, h2⟩ := x.own i q b h
    obtain ⟨u, hu⟩ := h2.some
    exact ⟨a, e, h1, h2.mono (Same.refl _) (upd_ne (ne a u hu))⟩
  · by_cases hb : b = p
    · subst hb
      exact n
    · rw [upd_ne hb] at h
      exact h
/-- a new thing, shared at once -/
theorem Stp.newSh {p : Addr} {o : HO} (x : EnvOk K c G H σ ρ) (n : H p = none) : Stp K c G H σ ρ (upd G p o) (upd H p o) σ ρ := by
  have gn : G p = none := x.le.free n
  have ne : ∀ b u, H b = some u → b ≠ p := fun b u e => ne_of_none e n
  have sg : Same G (upd G p o) := same_up gn
  refine ⟨⟨sameUp2 x.le, x.len, fun i d h => ?_, fun i q b h => ?_, x.nol, x.inj⟩, sg, fun b u h1 h2 _ => ?_, fun _ h => .inl h, fun b h => ?_, fun _ p h => ⟨⟨p, h⟩, rfl⟩⟩
  · obtain ⟨w, e, r⟩ := x.sh i d h
    exact ⟨w, e, r.mono sg⟩
  · obtain ⟨a, e, h1, h2⟩ := x.own i q b h
    obtain ⟨u, hu⟩ := h2.some
    exact ⟨a, e, by rw [upd_ne (ne a u hu)]; exact h1, h2.mono sg (upd_ne (ne a u hu))⟩
  · rw [upd_ne (ne b u h1), upd_ne (ne b u h1)]
    exact ⟨h1, h2⟩
  · by_cases hb : b = p
    · subst hb
      exact n
    · rw [upd_ne hb] at h
      exact h
/-- what is owned apart becomes shared -/
theorem Stp.give {a : Addr} {p : PyData} (x : EnvOk K c G H σ ρ) (h1 : G a = none) (h2 : OwnAt K G H a p) (h3 : ¬ Ow σ ρ a) :
    ∃ G', Same G G' ∧ EnvOk K c G' H σ ρ ∧ Rp K G' (.ref a) p ∧ ∀ b, b ≠ a → G' b = G b := by
  obtain ⟨ds, vs, rfl, ho, hr⟩ := h2.shape
  have sg : Same G (upd G a (.lst vs)) := same_up h1
  refine ⟨upd G a (.lst vs), sg, ⟨fun b u e => ?_, x.len, fun i d h => ?_, fun i q d h => ?_, x.nol, x.inj⟩, ?_, fun b hb => upd_ne hb⟩
  · by_cases hb : b = a
    · subst hb
      rw [upd_same] at e
      cases e
      exact ho
    · rw [upd_ne hb] at e
      exact x.le b u e
  · obtain ⟨w, e, r⟩ := x.sh i d h
    exact ⟨w, e, r.mono sg⟩
  · obtain ⟨b, e, k1, k2⟩ := x.own i q d h
    have hb : b ≠ a := fun z => h3 ⟨i, q, d, h, by rw [← z]; exact e⟩
    exact ⟨b, e, by rw [upd_ne hb]; exact k1, k2.mono sg rfl⟩
  · simp only [Rp]
    exact ⟨a, vs, rfl, upd_same, hr.mono sg⟩
end

/-! ### outcomes -/
inductive Res (α : Type) where
  | ok (a : α) (ρ : DEnv)
  | exc (k : Nat) (ρ : DEnv)
abbrev M (α : Type) := DEnv → Option (Res α)
def bnd {α β : Type} (m : M α) (f : α → M β) : M β := fun ρ => match m ρ with
  | none => none
  | some (.ok a ρ') => f a ρ'
  | some (.exc k ρ') => some (.exc k ρ')
def ret {α : Type} (a : α) : M α := fun ρ => some (.ok a ρ)
def liftO {α : Type} (o : Option α) : M α := fun ρ => match o with
  | none => none
  | some a => some (.ok a ρ)
def wpM {α : Type} (m : Option (Res α)) (k : α → DEnv → Prop) (x : Nat → DEnv → Prop) : Prop := match m with
  | none => False
  | some (.ok a ρ) => k a ρ
  | some (.exc j ρ) => x j ρ
theorem wpM_mono {α : Type} {m : Option (Res α)} {k k' : α → DEnv → Prop} {x x' : Nat → DEnv → Prop} (h : wpM m k x) (h1 : ∀ a ρ, k a ρ → k' a ρ) (h2 : ∀ j ρ, x j ρ → x' j ρ) : wpM m k' x' := by
  match m, h with
  | some (.ok a ρ), h => exact h1 a ρ h
  | some (.exc j ρ), h => exact h2 j ρ h
theorem wpM_bnd {α β : Type} {m : M α} {f : α → M β} {ρ : DEnv} {k : β → DEnv → Prop} {x : Nat → DEnv → Prop} : wpM (bnd m f ρ) k x ↔ wpM (m ρ) (fun a ρ1 => wpM (f a ρ1) k x) x := by
  unfold bnd
  cases h : m ρ with
  | none => exact Iff.rfl
  | some r => cases r <;> exact Iff.rfl
theorem wpM_liftO {α : Type} {o : Option α} {ρ : DEnv} {k : α → DEnv → Prop} {x : Nat → DEnv → Prop} (h : wpM (liftO o ρ) k x) : ∃ a, o = some a ∧ k a ρ := by
  cases o with
  | none => exact h.elim
  | some a => exact ⟨a, rfl, h⟩
theorem bnd_ok {α β : Type} {m : M α} {f : α → M β} {ρ ρ1 : DEnv} {a : α} (h : m ρ = some (.ok a ρ1)) : bnd m f ρ = f a ρ1 := by
  unfold bnd
  rw [h]
theorem bnd_exc {α β : Type} {m : M α} {f : α → M β} {ρ ρ1 : DEnv} {k : Nat} (h : m ρ = some (.exc k ρ1)) : bnd m f ρ = some (.exc k ρ1) := by
  unfold bnd
  rw [h]

/-! ### readings -/
def XD (K : PySem.W.Frag) (c : Nat → Addr) (W : WX) (G H : Hp) (σ : St) (ρ : DEnv) : Nat → DEnv → Prop := fun j ρ' => ∀ G' H' σ', Stp K c G H σ ρ G' H' σ' ρ' → W (.ref (c j)) none σ' H'
def KD (K : PySem.W.Frag) (c : Nat → Addr) (G H : Hp) (σ : St) (ρ : DEnv) (Q : VK) : Ent → DEnv → Prop := fun e ρ' => ∀ v G' H', Stp K c G H σ ρ G' H' σ ρ' → EntOk K c G' H' σ ρ' v e → Frs H v e → Q v H'
def tD (K : PySem.W.Frag) (c : Nat → Addr) (W : WX) (f : M Ent) : TE := fun σ H Q => ∃ G ρ, EnvOk K c G H σ ρ ∧ wpM (f ρ) (KD K c G H σ ρ Q) (XD K c W G H σ ρ)
def tDT (K : PySem.W.Frag) (c : Nat → Addr) (W : WX) (f : M Bool) : TT := fun σ H Q => ∃ G ρ, EnvOk K c G H σ ρ ∧ wpM (f ρ) (fun b ρ' => ∀ G' H', Stp K c G H σ ρ G' H' σ ρ' → Q b H') (XD K c W G H σ ρ)
inductive EntsOk (K : PySem.W.Frag) (c : Nat → Addr) (G H : Hp) (σ : St) (ρ : DEnv) : List V → List D → Prop
  | nil : EntsOk K c G H σ ρ [] []
  | cons {v : V} {vs : List V} {d : D} {ds : List D} : RpD K c G v d → EntsOk K c G H σ ρ vs ds → EntsOk K c G H σ ρ (v :: vs) (d :: ds)
inductive Fl where
  | nx
  | rt (e : Ent)
  | bk
  | ct
abbrev S := M Fl
def FD (K : PySem.W.Frag) (c : Nat → Addr) (G H : Hp) (σ : St) (ρ : DEnv) (D : Ends) : Fl → DEnv → Prop
  | .nx => fun ρ' => ∀ G' H' σ', Stp K c G H σ ρ G' H' σ' ρ' → D.nx σ' H'
  | .bk => fun ρ' => ∀ G' H' σ', Stp K c G H σ ρ G' H' σ' ρ' → D.bk σ' H'
  | .ct => fun ρ' => ∀ G' H' σ', Stp K c G H σ ρ G' H' σ' ρ' → D.ct σ' H'
  | .rt e => fun ρ' => ∀ v G' H' σ', Stp K c G H σ ρ G' H' σ' ρ' → EntOk K c G' H' σ' ρ' v e → Frs H v e → D.rt v H'
def tS (K : PySem.W.Frag) (c : Nat → Addr) (W : WX) (f : S) : TS := fun D σ H => ∃ G ρ, EnvOk K c G H σ ρ ∧ wpM (f ρ) (FD K c G H σ ρ D) (XD K c W G H σ ρ)
abbrev DE (X : Cx) (c : Nat → Addr) (W : WX) (e : Expr) (f : M Ent) : Prop := PE X e (tD X.K c W f)
abbrev DT (X : Cx) (c : Nat → Addr) (W : WX) (e : Expr) (f : M Bool) : Prop := PT X e (tDT X.K c W f)
abbrev DW (X : Cx) (c : Nat → Addr) (W : WX) (e : Expr) (f : M Bool) : Prop := PW X e (tDT X.K c W f)
abbrev DS (X : Cx) (c : Nat → Addr) (W : WX) (s : Stmt) (f : S) : Prop := PS X s (tS X.K c W f)
abbrev DSs (X : Cx) (c : Nat → Addr) (W : WX) (s : List Stmt) (f : S) : Prop := PSs X s (tS X.K c W f)
section
variable {X : Cx}
theorem pe_weak {e : Expr} {t t' : TE} (h : PE X e t) (w : ∀ σ H Q, t' σ H Q → t σ H Q) : PE X e t' := ⟨fun pins s σ H Q I q => h.run pins s σ H Q I (w σ H Q q)⟩
theorem pt_weak {e : Expr} {t t' : TT} (h : PT X e t) (w : ∀ σ H Q, t' σ H Q → t σ H Q) : PT X e t' := ⟨fun pins s σ H Q I q => h.run pins s σ H Q I (w σ H Q q)⟩
theorem pw_weak {e : Expr} {t t' : TT} (h : PW X e t) (w : ∀ σ H Q, t' σ H Q → t σ H Q) : PW X e t' := ⟨fun wh pins s σ H Q I q => h.run wh pins s σ H Q I (w σ H Q q)⟩
theorem pa_weak {es : List Expr} {t t' : TA} (h : PA X es t) (w : ∀ σ H Q, t' σ H Q → t σ H Q) : PA X es t' := ⟨fun pos pins s σ H Q I q => h.run pos pins s σ H Q I (w σ H Q q)⟩
theorem ps_weak {st : Stmt} {t t' : TS} (h : PS X st t) (w : ∀ D σ H, t' D σ H → t D σ H) : PS X st t' := ⟨fun pins s σ H D I q => h.run pins s σ H D I (w D σ H q)⟩
theorem pss_weak {st : List Stmt} {t t' : TS} (h : PSs X st t) (w : ∀ D σ H, t' D σ H → t D σ H) : PSs X st t' := ⟨fun pins s σ H D I q => h.run pins s σ H D I (w D σ H q)⟩
end
section
variable {K : PySem.W.Frag} {c : Nat → Addr} {W : WX} {G H G1 H1 : Hp} {σ σ1 : St} {ρ ρ1 : DEnv} {Q : VK}
theorem XD.back {j : Nat} {ρ' : DEnv} (h : XD K c W G H σ ρ j ρ') (s : Stp K c G H σ ρ G1 H1 σ1 ρ1) : XD K c W G1 H1 σ1 ρ1 j ρ' := fun G' H' σ' s' => h G' H' σ' (s.trans s')
theorem KD.back {e : Ent} {ρ' : DEnv} (h : KD K c G H σ ρ Q e ρ') (s : Stp K c G H σ ρ G1 H1 σ ρ1) : KD K c G1 H1 σ ρ1 Q e ρ' := fun v G' H' s' q f => h v G' H' (s.trans s') q (f.back s)
theorem FD.back {D : Ends} {f : Fl} {ρ' : DEnv} (h : FD K c G H σ ρ D f ρ') (s : Stp K c G H σ ρ G1 H1 σ1 ρ1) : FD K c G1 H1 σ1 ρ1 D f ρ' := by
  cases f with
  | nx => exact fun G' H' σ' s' => h G' H' σ' (s.trans s')
  | bk => exact fun G' H' σ' s' => h G' H' σ' (s.trans s')
  | ct => exact fun G' H' σ' s' => h G' H' σ' (s.trans s')
  | rt e => exact fun v G' H' σ' s' q f => h v G' H' σ' (s.trans s') q (f.back s)
end
/-- the data that an entry stands for -/
def rd (ρ : DEnv) : Ent → Option PyData
  | .sh (.py p) => some p
  | .sh _ => none
  | .own p _ => some p
  | .lnk i => match ρ[i]? with
    | some (some (.own p _)) => some p
    | _ => none
section
variable {K : PySem.W.Frag} {c : Nat → Addr} {G H : Hp} {σ : St} {ρ : DEnv} {v : V} {e : Ent} {p : PyData}
theorem own_rp {a : Addr} (le : Same G H) (h : OwnAt K G H a p) : Rp K H (.ref a) p := by
  obtain ⟨ds, vs, rfl, h1, h2⟩ := h.shape
  simp only [Rp]
  exact ⟨a, vs, rfl, h1, h2.mono le⟩
/-- read in the whole heap -/
theorem rd_ok (x : EnvOk K c G H σ ρ) (h : EntOk K c G H σ ρ v e) (r : rd ρ e = some p) : Rp K H v p := by
  cases e with
  | sh d =>
    cases d with
    | py q =>
      simp only [rd, Option.some.injEq] at r
      subst r
      simp only [EntOk, RpD] at h
      exact h.mono x.le
    | ins k fs => simp [rd] at r
    | scr ns => simp [rd] at r
    | ty n => simp [rd] at r
    | val u => simp [rd] at r
  | own q b =>
    simp only [rd, Option.some.injEq] at r
    subst r
    obtain ⟨a, rfl, h1, h2, _⟩ := h
    exact own_rp x.le h2
  | lnk i =>
    simp only [rd] at r
    split at r
    · rename_i q b e
      simp only [Option.some.injEq] at r
      subst r
      obtain ⟨a, e2, h1, h2⟩ := x.own i _ _ e
      simp only [EntOk] at h
      rw [h] at e2
      cases e2
      exact own_rp x.le h2
    · cases r
/-- the items are shared -/
theorem rd_list {ds : List PyData} (x : EnvOk K c G H σ ρ) (h : EntOk K c G H σ ρ v e) (r : rd ρ e = some (.list ds)) : ∃ a vs, v = .ref a ∧ H a = some (.lst vs) ∧ RpL K G vs ds := by
  cases e with
  | sh d =>
    cases d with
    | py q =>
      simp only [rd, Option.some.injEq] at r
      subst r
      simp only [EntOk, RpD, Rp] at h
      obtain ⟨a, vs, e, g, q⟩ := h
      exact ⟨a, vs, e, x.le _ _ g, q⟩
    | ins k fs => simp [rd] at r
    | scr ns => simp [rd] at r
    | ty n => simp [rd] at r
    | val u => simp [rd] at r
  | own q b =>
    simp only [rd, Option.some.injEq] at r
    subst r
    obtain ⟨a, rfl, h1, ⟨vs, h2, h3⟩, _⟩ := h
    exact ⟨a, vs, rfl, h2, h3⟩
  | lnk i =>
    simp only [rd] at r
    split at r
    · rename_i q b e
      simp only [Option.some.injEq] at r
      subst r
      obtain ⟨a, e2, h1, ⟨vs, h2, h3⟩⟩ := x.own i _ _ e
      simp only [EntOk] at h
      rw [h] at e2
      cases e2
      exact ⟨a, vs, rfl, h2, h3⟩
    · cases r
theorem rd_tuple {ds : List PyData} (x : EnvOk K c G H σ ρ) (h : EntOk K c G H σ ρ v e) (r : rd ρ e = some (.tuple ds)) : ∃ a vs, v = .ref a ∧ G a = some (.tup vs) ∧ RpL K G vs ds := by
  cases e with
  | sh d =>
    cases d with
    | py q =>
      simp only [rd, Option.some.injEq] at r
      subst r
      simp only [EntOk, RpD, Rp] at h
      exact h
    | ins k fs => simp [rd] at r
    | scr ns => simp [rd] at r
    | ty n => simp [rd] at r
    | val u => simp [rd] at r
  | own q b =>
    simp only [rd, Option.some.injEq] at r
    subst r
    obtain ⟨a, rfl, h1, h2, _⟩ := h
    obtain ⟨_, _, e, _⟩ := h2.shape
    cases e
  | lnk i =>
    simp only [rd] at r
    split at r
    · rename_i q b e
      simp only [Option.some.injEq] at r
      subst r
      obtain ⟨a, e2, h1, h2⟩ := x.own i _ _ e
      obtain ⟨_, _, e, _⟩ := h2.shape
      cases e
    · cases r
theorem rd_flat {u : V} (x : EnvOk K c G H σ ρ) (h : EntOk K c G H σ ρ v e) (r : rd ρ e = some p) (q : ∀ H, Rp K H v p → v = u) : v = u := q H (rd_ok x h r)
theorem rd_int {i : Int} (x : EnvOk K c G H σ ρ) (h : EntOk K c G H σ ρ v e) (r : rd ρ e = some (.int i)) : v = .int i := by
  have := rd_ok x h r
  simpa only [Rp] using this
theorem rd_bool {b : Bool} (x : EnvOk K c G H σ ρ) (h : EntOk K c G H σ ρ v e) (r : rd ρ e = some (.bool b)) : v = .bl b := by
  have := rd_ok x h r
  simpa only [Rp] using this
theorem rd_str {s : Str} (x : EnvOk K c G H σ ρ) (h : EntOk K c G H σ ρ v e) (r : rd ρ e = some (.str s)) : v = .str s := by
  have := rd_ok x h r
  simpa only [Rp] using this
theorem rd_none (x : EnvOk K c G H σ ρ) (h : EntOk K c G H σ ρ v e) (r : rd ρ e = some .none) : v = .non := by
  have := rd_ok x h r
  simpa only [Rp] using this
end
end VL

set_option linter.all false
set_option autoImplicit false
set_option maxRecDepth 100000
/-! The value layer, part 2: expressions. -/
namespace VL
open PySem L2

section
variable {X : Cx} {c : Nat → Addr} {W : WX}

/-! ### names, constants -/
def fVar (i : Nat) : M Ent := fun ρ => match ρ[i]? with
  | some (some (.sh d)) => some (.ok (.sh d) ρ)
  | some (some (.own _ _)) => some (.ok (.lnk i) ρ)
  | _ => none
theorem w_var {i : Nat} (σ : St) (H : Hp) (Q : VK) (h : tD X.K c W (fVar i) σ H Q) : tVar i σ H Q := by
  obtain ⟨G, ρ, env, h⟩ := h
  unfold fVar at h
  split at h
  · rename_i d e
    obtain ⟨v, e1, r⟩ := env.sh i d e
    exact ⟨v, e1, h v G H (.refl env) r trivial⟩
  · rename_i p b e
    obtain ⟨a, e1, _⟩ := env.own i p b e
    exact ⟨_, e1, h (.ref a) G H (.refl env) e1 trivial⟩
  · exact h.elim
theorem de_var (i : Nat) {x : Str} {pos : Pos} (hN : X.N[i]? = some x := by rfl) (hv : Vis X.env.scope x := by first | exact Or.inl rfl | exact Or.inr (Or.inl rfl) | exact Or.inr (Or.inr rfl)) (hd : (x == ("__debug__" : Str)) = false := by decide)
    (hcd : (x == ("__classdict__" : Str)) = false := by decide) : DE X c W (.Name x pos) (fVar i) := pe_weak (pe_var hN hv hd hcd) w_var
abbrev fC (p : PyData) : M Ent := ret (py p)
theorem w_const {p : PyData} {v : V} (hp : ∀ G, Rp X.K G v p) (σ : St) (H : Hp) (Q : VK) (h : tD X.K c W (fC p) σ H Q) : Q v H := by
  obtain ⟨G, ρ, env, h⟩ := h
  exact h v G H (.refl env) (by simp only [EntOk, RpD]; exact hp G) trivial
theorem de_int {i : Int} {j : Nat} {pos : Pos} : DE X c W (.Constant (.int i) j pos) (fC (.int i)) := pe_weak pe_int (w_const fun _ => by simp only [Rp])
theorem de_bool {b : Bool} {j : Nat} {pos : Pos} : DE X c W (.Constant (.bool b) j pos) (fC (.bool b)) := pe_weak pe_bl (w_const fun _ => by simp only [Rp])
theorem de_none {j : Nat} {pos : Pos} : DE X c W (.Constant .none j pos) (fC .none) := pe_weak pe_non (w_const fun _ => by simp only [Rp])
theorem de_str {s : Str} {j : Nat} {pos : Pos} : DE X c W (.Constant (.str s) j pos) (fC (.str s)) := pe_weak pe_str (w_const fun _ => by simp only [Rp])

/-! ### what is owned is given away -/
def give : Ent → M Ent
  | .sh d => ret (.sh d)
  | .own p _ => ret (py p)
  | .lnk _ => fun _ => none
def fSh (f : M Ent) : M Ent := bnd f give
/-- as an argument: a name's own thing stays the name's -/
def arg : Ent → M Ent
  | .sh d => ret (.sh d)
  | .own p _ => ret (py p)
  | .lnk i => ret (.lnk i)
def fArg (f : M Ent) : M Ent := bnd f arg
theorem give_ok {K : PySem.W.Frag} {G H G1 H1 : Hp} {σ : St} {ρ ρ1 : DEnv} {v : V} {p : PyData} {b : Bool} (s : Stp K c G H σ ρ G1 H1 σ ρ1) (e : EntOk K c G1 H1 σ ρ1 v (.own p b)) (f : Frs H v (.own p b)) :
    ∃ G2, Stp K c G H σ ρ G2 H1 σ ρ1 ∧ EntOk K c G2 H1 σ ρ1 v (py p) := by
  obtain ⟨a, rfl, h1, h2, h3⟩ := e
  obtain ⟨G2, sg, env, r, hb⟩ := Stp.give s.env h1 h2 h3
  refine ⟨G2, ⟨env, s.sh.trans sg, fun q o k1 k2 k3 => ?_, s.own, s.dom, s.pin⟩, by simp only [EntOk, RpD]; exact r⟩
  obtain ⟨m1, m2⟩ := s.keep q o k1 k2 k3
  refine ⟨m1, (hb q fun z => ?_).trans m2⟩
  have : H a = none := f a rfl
  rw [z, this] at k1
  cases k1
theorem w_sh {f : M Ent} (σ : St) (H : Hp) (Q : VK) (h : tD X.K c W (fSh f) σ H Q) : tD X.K c W f σ H Q := by
  obtain ⟨G, ρ, env, h⟩ := h
  refine ⟨G, ρ, env, wpM_mono (wpM_bnd.mp h) (fun e ρ1 h1 v G1 H1 s1 e1 f1 => ?_) fun _ _ x => x⟩
  cases e with
  | sh d => exact h1 v G1 H1 s1 e1 f1
  | own p b =>
    obtain ⟨G2, s2, e2⟩ := give_ok s1 e1 f1
    exact h1 v G2 H1 s2 e2 trivial
  | lnk i => exact h1.elim
theorem w_arg {f : M Ent} (σ : St) (H : Hp) (Q : VK) (h : tD X.K c W (fArg f) σ H Q) : tD X.K c W f σ H Q := by
  obtain ⟨G, ρ, env, h⟩ := h
  refine ⟨G, ρ, env, wpM_mono (wpM_bnd.mp h) (fun e ρ1 h1 v G1 H1 s1 e1 f1 => ?_) fun _ _ x => x⟩
  cases e with
  | sh d => exact h1 v G1 H1 s1 e1 f1
  | own p b =>
    obtain ⟨G2, s2, e2⟩ := give_ok s1 e1 f1
    exact h1 v G2 H1 s2 e2 trivial
  | lnk i => exact h1 v G1 H1 s1 e1 f1
theorem de_sh {e : Expr} {f : M Ent} (h : DE X c W e f) : DE X c W e (fSh f) := pe_weak h w_sh
theorem de_arg {e : Expr} {f : M Ent} (h : DE X c W e f) : DE X c W e (fArg f) := pe_weak h w_arg

/-! ### operations on one, two values -/
abbrev Op1 := DEnv → Ent → Option Ent
abbrev Op2 := DEnv → Ent → Ent → Option Ent
def f1 (o : Op1) (f : M Ent) : M Ent := bnd f fun x ρ => liftO (o ρ x) ρ
def f2 (o : Op2) (f g : M Ent) : M Ent := bnd f fun x => bnd g fun y ρ => liftO (o ρ x y) ρ
def Ok1 (K : PySem.W.Frag) (c : Nat → Addr) (r : V → Hp → VK → Prop) (o : Op1) : Prop := ∀ (G H : Hp) (σ : St) (ρ : DEnv) (v : V) (x e : Ent) (Q : VK), EnvOk K c G H σ ρ → EntOk K c G H σ ρ v x → o ρ x = some e → KD K c G H σ ρ Q e ρ → r v H Q
def Ok2 (K : PySem.W.Frag) (c : Nat → Addr) (r : R2) (o : Op2) : Prop := ∀ (G H : Hp) (σ : St) (ρ : DEnv) (v u : V) (x y e : Ent) (Q : VK), EnvOk K c G H σ ρ → EntOk K c G H σ ρ v x → EntOk K c G H σ ρ u y → o ρ x y = some e → KD K c G H σ ρ Q e ρ → r v u H Q
theorem w_f1 {r : V → Hp → VK → Prop} {o : Op1} {f : M Ent} (ok : Ok1 X.K c r o) (σ : St) (H : Hp) (Q : VK) (h : tD X.K c W (f1 o f) σ H Q) : tUn r (tD X.K c W f) σ H Q := by
  obtain ⟨G, ρ, env, h⟩ := h
  refine ⟨G, ρ, env, wpM_mono (wpM_bnd.mp h) (fun x ρ1 h1 v G1 H1 s1 e1 _ => ?_) fun _ _ x => x⟩
  obtain ⟨e, he, k⟩ := wpM_liftO h1
  exact ok G1 H1 σ ρ1 v x e Q s1.env e1 he (k.back s1)
theorem w_f2 {r : R2} {o : Op2} {f g : M Ent} (ok : Ok2 X.K c r o) (σ : St) (H : Hp) (Q : VK) (h : tD X.K c W (f2 o f g) σ H Q) : tOp r (tD X.K c W f) (tD X.K c W g) σ H Q := by
  obtain ⟨G, ρ, env, h⟩ := h
  refine ⟨G, ρ, env, wpM_mono (wpM_bnd.mp h) (fun x ρ1 h1 v G1 H1 s1 e1 _ => ?_) fun _ _ x => x⟩
  refine ⟨G1, ρ1, s1.env, wpM_mono (wpM_bnd.mp h1) (fun y ρ2 h2 u G2 H2 s2 e2 _ => ?_) fun _ _ x => x.back s1⟩
  obtain ⟨e, he, k⟩ := wpM_liftO h2
  exact ok G2 H2 σ ρ2 v u x y e Q s2.env (e1.step s2) e2 he (k.back (s1.trans s2))
theorem de_bin {op : Operator} {r : R2} {o : Op2} {a b : Expr} {f g : M Ent} {pos : Pos} (ho : OpR X (binaryOp op) r) (ok : Ok2 X.K c r o) (ha : DE X c W a f) (hb : DE X c W b g) : DE X c W (.BinOp a op b pos) (f2 o f g) := pe_weak (pe_op ho ha hb) (w_f2 ok)
theorem de_cmp {op : CmpOp} {r : R2} {o : Op2} {a b : Expr} {f g : M Ent} {pos : Pos} (ho : OpR X (compareOp op) r) (ok : Ok2 X.K c r o) (ha : DE X c W a f) (hb : DE X c W b g) (hm : behindInMarks op b = false := by first | exact nomark _ | with_unfolding_all rfl) : DE X c W (.Compare a [op] [b] pos) (f2 o f g) :=
  pe_weak (pe_cmpR ho ha hb hm) (w_f2 ok)
theorem de_un {op : UnaryOp} {r : V → Hp → VK → Prop} {o : Op1} {a : Expr} {f : M Ent} {pos : Pos} (ho : UnR X (unaryOp op) r) (ok : Ok1 X.K c r o) (ha : DE X c W a f) : DE X c W (.UnaryOp op a pos) (f1 o f) := pe_weak (pe_un ho ha) (w_f1 ok)
/-- as a test -/
def fB (f : M Ent) : M Bool := bnd f fun x ρ => match rd ρ x with
  | some (.bool b) => some (.ok b ρ)
  | _ => none
theorem w_B {f : M Ent} (σ : St) (H : Hp) (Q : Bool → Hp → Prop) (h : tDT X.K c W (fB f) σ H Q) : tD X.K c W f σ H fun x H' => ∃ k, x = .bl k ∧ Q k H' := by
  obtain ⟨G, ρ, env, h⟩ := h
  refine ⟨G, ρ, env, wpM_mono (wpM_bnd.mp h) (fun x ρ1 h1 v G1 H1 s1 e1 _ => ?_) fun _ _ x => x⟩
  try dsimp only at h1
  split at h1
  · rename_i b e
    exact ⟨b, rd_bool s1.env e1 e, h1 G1 H1 s1⟩
  · exact h1.elim
theorem dt_cmp {op : CmpOp} {r : R2} {o : Op2} {a b : Expr} {f g : M Ent} {pos : Pos} (ho : OpR X (compareOp op) r) (ok : Ok2 X.K c r o) (ha : DE X c W a f) (hb : DE X c W b g) (hm : behindInMarks op b = false := by first | exact nomark _ | with_unfolding_all rfl) : DT X c W (.Compare a [op] [b] pos) (fB (f2 o f g)) :=
  pt_weak (pt_cmpR ho ha hb hm) fun σ H Q h => w_f2 ok σ H _ (w_B σ H Q h)
theorem dt_val {e : Expr} {f : M Ent} (h : DE X c W e f) (he : ∀ whole, isTrue e X.env whole = (do let v ← whole; standAt e.pos; holding [v] (truthy v)) := by intro _; rfl) : DT X c W e (fB f) := pt_weak (pt_val h he) w_B

/-! ### and, or, not -/
def fAndT (f g : M Bool) : M Bool := bnd f fun b => if b = true then g else ret false
def fOrT (f g : M Bool) : M Bool := bnd f fun b => if b = true then ret true else g
def fNotT (f : M Bool) : M Bool := bnd f fun b => ret (!b)
theorem w_andT {f g : M Bool} (σ : St) (H : Hp) (Q : Bool → Hp → Prop) (h : tDT X.K c W (fAndT f g) σ H Q) : tAnd (tDT X.K c W f) (tDT X.K c W g) σ H Q := by
  obtain ⟨G, ρ, env, h⟩ := h
  refine ⟨G, ρ, env, wpM_mono (wpM_bnd.mp h) (fun b ρ1 h1 G1 H1 s1 => ?_) fun _ _ x => x⟩
  cases b with
  | true => exact ⟨G1, ρ1, s1.env, wpM_mono h1 (fun d ρ2 h2 G2 H2 s2 => h2 G2 H2 (s1.trans s2)) fun _ _ x => x.back s1⟩
  | false => exact h1 G1 H1 s1
theorem w_orT {f g : M Bool} (σ : St) (H : Hp) (Q : Bool → Hp → Prop) (h : tDT X.K c W (fOrT f g) σ H Q) : tOr (tDT X.K c W f) (tDT X.K c W g) σ H Q := by
  obtain ⟨G, ρ, env, h⟩ := h
  refine ⟨G, ρ, env, wpM_mono (wpM_bnd.mp h) (fun b ρ1 h1 G1 H1 s1 => ?_) fun _ _ x => x⟩
  cases b with
  | false => exact ⟨G1, ρ1, s1.env, wpM_mono h1 (fun d ρ2 h2 G2 H2 s2 => h2 G2 H2 (s1.trans s2)) fun _ _ x => x.back s1⟩
  | true => exact h1 G1 H1 s1
theorem w_notT {f : M Bool} (σ : St) (H : Hp) (Q : Bool → Hp → Prop) (h : tDT X.K c W (fNotT f) σ H Q) : tNot (tDT X.K c W f) σ H Q := by
  obtain ⟨G, ρ, env, h⟩ := h
  exact ⟨G, ρ, env, wpM_mono (wpM_bnd.mp h) (fun b ρ1 h1 => h1) fun _ _ x => x⟩
variable {a b d : Expr} {rest : List Expr} {pos : Pos} {f g : M Ent} {p q : M Bool}
theorem dw_and1 (h : DT X c W a p) : DW X c W (.BoolOp .And [a] pos) p := pw_and1 h
theorem dw_or1 (h : DT X c W a p) : DW X c W (.BoolOp .Or [a] pos) p := pw_or1 h
theorem dw_and (ha : DT X c W a p) (hb : DW X c W (.BoolOp .And (b :: rest) pos) q) : DW X c W (.BoolOp .And (a :: b :: rest) pos) (fAndT p q) := pw_weak (pw_and ha hb) w_andT
theorem dw_or (ha : DT X c W a p) (hb : DW X c W (.BoolOp .Or (b :: rest) pos) q) : DW X c W (.BoolOp .Or (a :: b :: rest) pos) (fOrT p q) := pw_weak (pw_or ha hb) w_orT
theorem dt_w (h : DW X c W a p) : DT X c W a p := PW.pt h
theorem dt_not (h : DT X c W a p) : DT X c W (.UnaryOp .Not a pos) (fNotT p) := pt_weak (pt_not h) w_notT
/-- as values -/
def asB {α : Type} (k : Bool → M α) : Ent → M α := fun x ρ => match rd ρ x with
  | some (.bool b) => k b ρ
  | _ => none
def fAnd (f g : M Ent) : M Ent := bnd f (asB fun b => if b = true then g else fC (.bool false))
def fOr (f g : M Ent) : M Ent := bnd f (asB fun b => if b = true then fC (.bool true) else g)
def fNot (f : M Ent) : M Ent := bnd f (asB fun b => fC (.bool (!b)))
theorem asB_ok {α : Type} {k : Bool → M α} {K : PySem.W.Frag} {G H : Hp} {σ : St} {ρ : DEnv} {v : V} {x : Ent} {y : α → DEnv → Prop} {z : Nat → DEnv → Prop} (env : EnvOk K c G H σ ρ) (e : EntOk K c G H σ ρ v x) (h : wpM (asB k x ρ) y z) : ∃ b, v = .bl b ∧ wpM (k b ρ) y z := by
  unfold asB at h
  split at h
  · rename_i b e1
    exact ⟨b, rd_bool env e e1, h⟩
  · exact h.elim
theorem w_and (σ : St) (H : Hp) (Q : VK) (h : tD X.K c W (fAnd f g) σ H Q) : tAndV (tD X.K c W f) (tD X.K c W g) σ H Q := by
  obtain ⟨G, ρ, env, h⟩ := h
  refine ⟨G, ρ, env, wpM_mono (wpM_bnd.mp h) (fun x ρ1 h1 v G1 H1 s1 e1 _ => ?_) fun _ _ x => x⟩
  obtain ⟨b, e, h2⟩ := asB_ok s1.env e1 h1
  refine ⟨b, e, ?_⟩
  cases b with
  | true => exact ⟨G1, ρ1, s1.env, wpM_mono h2 (fun y ρ2 k => k.back s1) fun _ _ x => x.back s1⟩
  | false => exact h2 (.bl false) G1 H1 s1 (by simp only [EntOk, RpD, Rp]) trivial
theorem w_or (σ : St) (H : Hp) (Q : VK) (h : tD X.K c W (fOr f g) σ H Q) : tOrV (tD X.K c W f) (tD X.K c W g) σ H Q := by
  obtain ⟨G, ρ, env, h⟩ := h
  refine ⟨G, ρ, env, wpM_mono (wpM_bnd.mp h) (fun x ρ1 h1 v G1 H1 s1 e1 _ => ?_) fun _ _ x => x⟩
  obtain ⟨b, e, h2⟩ := asB_ok s1.env e1 h1
  refine ⟨b, e, ?_⟩
  cases b with
  | false => exact ⟨G1, ρ1, s1.env, wpM_mono h2 (fun y ρ2 k => k.back s1) fun _ _ x => x.back s1⟩
  | true => exact h2 (.bl true) G1 H1 s1 (by simp only [EntOk, RpD, Rp]) trivial
theorem w_not (σ : St) (H : Hp) (Q : VK) (h : tD X.K c W (fNot f) σ H Q) : tNotV (tD X.K c W f) σ H Q := by
  obtain ⟨G, ρ, env, h⟩ := h
  refine ⟨G, ρ, env, wpM_mono (wpM_bnd.mp h) (fun x ρ1 h1 v G1 H1 s1 e1 _ => ?_) fun _ _ x => x⟩
  obtain ⟨b, e, h2⟩ := asB_ok s1.env e1 h1
  exact ⟨b, e, h2 (.bl !b) G1 H1 s1 (by simp only [EntOk, RpD, Rp]) trivial⟩
theorem de_one {op : BoolOp} (h : DE X c W a f) : DE X c W (.BoolOp op [a] pos) f := pe_one h
theorem de_and (ha : DE X c W a f) (hb : DE X c W (.BoolOp .And (b :: rest) pos) g) : DE X c W (.BoolOp .And (a :: b :: rest) pos) (fAnd f g) := pe_weak (pe_and ha hb) w_and
theorem de_or (ha : DE X c W a f) (hb : DE X c W (.BoolOp .Or (b :: rest) pos) g) : DE X c W (.BoolOp .Or (a :: b :: rest) pos) (fOr f g) := pe_weak (pe_or ha hb) w_or
theorem de_not (ha : DE X c W a f) : DE X c W (.UnaryOp .Not a pos) (fNot f) := pe_weak (pe_not ha) w_not
def fIfE (p : M Bool) (f g : M Ent) : M Ent := bnd p fun b => if b = true then f else g
theorem w_ifE (σ : St) (H : Hp) (Q : VK) (h : tD X.K c W (fIfE p f g) σ H Q) : tIf (tDT X.K c W p) (tD X.K c W f) (tD X.K c W g) σ H Q := by
  obtain ⟨G, ρ, env, h⟩ := h
  refine ⟨G, ρ, env, wpM_mono (wpM_bnd.mp h) (fun b ρ1 h1 G1 H1 s1 => ?_) fun _ _ x => x⟩
  cases b with
  | true => exact ⟨G1, ρ1, s1.env, wpM_mono h1 (fun y ρ2 k => k.back s1) fun _ _ x => x.back s1⟩
  | false => exact ⟨G1, ρ1, s1.env, wpM_mono h1 (fun y ρ2 k => k.back s1) fun _ _ x => x.back s1⟩
theorem de_ifE (hp : DT X c W d p) (ha : DE X c W a f) (hb : DE X c W b g) : DE X c W (.IfExp d a b pos) (fIfE p f g) := pe_weak (pe_ifExp hp ha hb) w_ifE
/-- a op b op' d -/
def fChain (o o' : Op2) (f g k : M Ent) : M Ent := bnd f fun x => bnd g fun y ρ => match o ρ x y with
  | some z => asB (fun b => if b = true then bnd k fun w ρ' => liftO (o' ρ' y w) ρ' else fC (.bool false)) z ρ
  | none => none
/-- a bool that an operation yields is yielded at once -/
def Ok2B (K : PySem.W.Frag) (c : Nat → Addr) (r : R2) (o : Op2) : Prop := ∀ (G H : Hp) (σ : St) (ρ : DEnv) (v u : V) (x y e : Ent) (Q : VK), EnvOk K c G H σ ρ → EntOk K c G H σ ρ v x → EntOk K c G H σ ρ u y → o ρ x y = some e → ∃ b, e = py (.bool b) ∧ (Q (.bl b) H → r v u H Q)
theorem w_chain {r r' : R2} {o o' : Op2} {k : M Ent} (ok : Ok2B X.K c r o) (ok' : Ok2 X.K c r' o') (σ : St) (H : Hp) (Q : VK) (h : tD X.K c W (fChain o o' f g k) σ H Q) : tChain r r' (tD X.K c W f) (tD X.K c W g) (tD X.K c W k) σ H Q := by
  obtain ⟨G, ρ, env, h⟩ := h
  refine ⟨G, ρ, env, wpM_mono (wpM_bnd.mp h) (fun x ρ1 h1 v G1 H1 s1 e1 _ => ?_) fun _ _ x => x⟩
  refine ⟨G1, ρ1, s1.env, wpM_mono (wpM_bnd.mp h1) (fun y ρ2 h2 u G2 H2 s2 e2 _ => ?_) fun _ _ x => x.back s1⟩
  have s12 := s1.trans s2
  try dsimp only at h2
  split at h2
  · rename_i z hz
    obtain ⟨b, rfl, hr⟩ := ok G2 H2 σ ρ2 v u x y z _ s2.env (e1.step s2) e2 hz
    refine hr ⟨b, rfl, ?_⟩
    have h3 : wpM ((if b = true then bnd k fun w ρ' => liftO (o' ρ' y w) ρ' else fC (.bool false)) ρ2) (KD X.K c G H σ ρ Q) (XD X.K c W G H σ ρ) := h2
    cases b with
    | true =>
      refine ⟨G2, ρ2, s2.env, wpM_mono (wpM_bnd.mp h3) (fun w ρ3 h4 t G3 H3 s3 e3 _ => ?_) fun _ _ x => x.back s12⟩
      obtain ⟨e, he, kk⟩ := wpM_liftO h4
      exact ok' G3 H3 σ ρ3 u t y w e Q s3.env (e2.step s3) e3 he (kk.back (s12.trans s3))
    | false => exact h3 (.bl false) G2 H2 s12 (by simp only [EntOk, RpD, Rp]) trivial
  · exact h2.elim
theorem de_chain {op op' : CmpOp} {r r' : R2} {o o' : Op2} {k : M Ent} (ho : OpR X (compareOp op) r) (ho' : OpR X (compareOp op') r') (ok : Ok2B X.K c r o) (ok' : Ok2 X.K c r' o') (ha : DE X c W a f) (hb : DE X c W b g) (hd : DE X c W d k) (hm : lastMarks [op, op'] [b, d] = false := by with_unfolding_all rfl) :
    DE X c W (.Compare a [op, op'] [b, d] pos) (fChain o o' f g k) := pe_weak (pe_chain ho ho' ha hb hd hm) (w_chain ok ok')
theorem dt_chain {op op' : CmpOp} {r r' : R2} {o o' : Op2} {k : M Ent} (ho : OpR X (compareOp op) r) (ho' : OpR X (compareOp op') r') (ok : Ok2B X.K c r o) (ok' : Ok2 X.K c r' o') (ha : DE X c W a f) (hb : DE X c W b g) (hd : DE X c W d k) (hm : lastMarks [op, op'] [b, d] = false := by with_unfolding_all rfl) :
    DT X c W (.Compare a [op, op'] [b, d] pos) (fB (fChain o o' f g k)) := pt_weak (pt_chain ho ho' ha hb hd hm) fun σ H Q h => w_chain ok ok' σ H _ (w_B σ H Q h)

/-! ### argument lists -/
inductive EAs (K : PySem.W.Frag) (c : Nat → Addr) (G H : Hp) (σ : St) (ρ : DEnv) : List V → List Ent → Prop
  | nil : EAs K c G H σ ρ [] []
  | cons {v : V} {e : Ent} {vs : List V} {es : List Ent} : EntOk K c G H σ ρ v e → (∀ p b, e ≠ .own p b) → EAs K c G H σ ρ vs es → EAs K c G H σ ρ (v :: vs) (e :: es)
theorem EAs.length {K : PySem.W.Frag} {G H : Hp} {σ : St} {ρ : DEnv} {vs : List V} {es : List Ent} (h : EAs K c G H σ ρ vs es) : vs.length = es.length := by
  induction h with
  | nil => rfl
  | cons _ _ _ ih => rw [List.length_cons, List.length_cons, ih]
def tDA (K : PySem.W.Frag) (c : Nat → Addr) (W : WX) (f : M (List Ent)) : TA := fun σ H Q => ∃ G ρ, EnvOk K c G H σ ρ ∧ wpM (f ρ) (fun es ρ' => ∀ vs G' H', Stp K c G H σ ρ G' H' σ ρ' → EAs K c G' H' σ ρ' vs es → Q vs H') (XD K c W G H σ ρ)
abbrev DA (X : Cx) (c : Nat → Addr) (W : WX) (es : List Expr) (f : M (List Ent)) : Prop := PA X es (tDA X.K c W f)
def fNil : M (List Ent) := ret []
def fCons (f : M Ent) (r : M (List Ent)) : M (List Ent) := bnd (fArg f) fun e => bnd r fun es => ret (e :: es)
theorem arg_ok {e e' : Ent} {ρ ρ' : DEnv} (h : arg e ρ = some (.ok e' ρ')) : ρ' = ρ ∧ ∀ p b, e' ≠ .own p b := by
  cases e <;> simp only [arg, ret, Option.some.injEq, Res.ok.injEq] at h <;> obtain ⟨rfl, rfl⟩ := h <;> exact ⟨rfl, fun p b z => (nomatch z)⟩
theorem wpM_arg {e : Ent} {ρ : DEnv} {k : Ent → DEnv → Prop} {x : Nat → DEnv → Prop} (h : wpM (arg e ρ) k x) : wpM (arg e ρ) (fun e' ρ' => (∀ p b, e' ≠ .own p b) ∧ k e' ρ') x := by
  cases e with
  | sh d => exact ⟨fun p b z => (nomatch z), h⟩
  | own p b => exact ⟨fun p b z => (nomatch z), h⟩
  | lnk i => exact ⟨fun p b z => (nomatch z), h⟩
theorem w_cons {r : M (List Ent)} (σ : St) (H : Hp) (Q : List V → Hp → Prop) (h : tDA X.K c W (fCons f r) σ H Q) : tCons (tD X.K c W f) (tDA X.K c W r) σ H Q := by
  obtain ⟨G, ρ, env, h⟩ := h
  have h0 := wpM_bnd.mp h
  have h1 := wpM_bnd.mp h0
  have key : tD X.K c W (fArg f) σ H fun x H1 => tDA X.K c W r σ H1 fun xs H2 => Q (x :: xs) H2 := by
    refine ⟨G, ρ, env, wpM_bnd.mpr (wpM_mono h1 (fun e ρ1 h2 => ?_) fun _ _ x => x)⟩
    refine wpM_mono (wpM_arg h2) (fun e' ρ2 h3 v G1 H1 s1 e1 _ => ?_) fun _ _ x => x
    obtain ⟨no, h3⟩ := h3
    refine ⟨G1, ρ2, s1.env, wpM_mono (wpM_bnd.mp h3) (fun es ρ3 h4 vs G2 H2 s2 e2 => ?_) fun _ _ x => x.back s1⟩
    exact h4 (v :: vs) G2 H2 (s1.trans s2) (.cons (e1.step s2) no e2)
  exact w_arg σ H _ key
theorem da_nil : DA X c W [] fNil := pa_weak pa_nil fun σ H Q h => by
  obtain ⟨G, ρ, env, h⟩ := h
  exact h [] G H (.refl env) .nil
theorem da_cons {e : Expr} {es : List Expr} {r : M (List Ent)} (ha : DE X c W e f) (hr : DA X c W es r) (hs : starEach (e :: es) X.env = (false, eval e X.env) :: starEach es X.env := by rfl) : DA X c W (e :: es) (fCons f r) := pa_weak (pa_cons ha hr hs) w_cons

/-! ### tuples, lists -/
def pys : List Ent → Option (List PyData)
  | [] => some []
  | .sh (.py p) :: es => match pys es with
    | some ps => some (p :: ps)
    | none => none
  | _ :: _ => none
theorem pys_ok {K : PySem.W.Frag} {G H : Hp} {σ : St} {ρ : DEnv} {vs : List V} {es : List Ent} (h : EAs K c G H σ ρ vs es) : ∀ {ps : List PyData}, pys es = some ps → RpL K G vs ps := by
  induction h with
  | nil =>
    intro ps e
    simp only [pys, Option.some.injEq] at e
    subst e
    simp only [RpL]
  | @cons v e vs es h1 h2 _ ih =>
    intro ps q
    cases e with
    | sh d =>
      cases d with
      | py p =>
        simp only [pys] at q
        split at q
        · rename_i ps' q'
          simp only [Option.some.injEq] at q
          subst q
          simp only [RpL]
          simp only [EntOk, RpD] at h1
          exact ⟨h1, ih q'⟩
        · cases q
      | ins k fs => simp [pys] at q
      | scr ns => simp [pys] at q
      | ty n => simp [pys] at q
      | val u => simp [pys] at q
    | own p b => simp [pys] at q
    | lnk i => simp [pys] at q
def mkTup (es : List Ent) : M Ent := fun ρ => match pys es with
  | some ps => if ps.length ≤ 1000 then some (.ok (py (.tuple ps)) ρ) else none
  | none => none
def mkLst (es : List Ent) : M Ent := fun ρ => match pys es with
  | some ps => if ps.length ≤ 1000 then some (.ok (.own (.list ps) false) ρ) else none
  | none => none
def fTup (r : M (List Ent)) : M Ent := bnd r mkTup
def fLst (r : M (List Ent)) : M Ent := bnd r mkLst
theorem small1k {n : Nat} (h : n ≤ 1000) : n ≤ sizeLine := Nat.le_of_lt (small1000 h)
/-- a new shared tuple -/
theorem KD.tup {K : PySem.W.Frag} {G H : Hp} {σ : St} {ρ : DEnv} {Q : VK} {vs : List V} {ps : List PyData} {a : Addr} (env : EnvOk K c G H σ ρ) (h : KD K c G H σ ρ Q (py (.tuple ps)) ρ) (r : RpL K G vs ps) (na : H a = none) : Q (.ref a) (upd H a (.tup vs)) := by
  have s := Stp.newSh (o := .tup vs) env na
  refine h _ _ _ s ?_ trivial
  simp only [EntOk, RpD, Rp]
  exact ⟨a, vs, rfl, upd_same, r.mono s.sh⟩
/-- a new list of the def's own -/
theorem KD.lst {K : PySem.W.Frag} {G H : Hp} {σ : St} {ρ : DEnv} {Q : VK} {vs : List V} {ps : List PyData} {a : Addr} {b : Bool} (env : EnvOk K c G H σ ρ) (h : KD K c G H σ ρ Q (.own (.list ps) b) ρ) (r : RpL K G vs ps) (na : H a = none) : Q (.ref a) (upd H a (.lst vs)) := by
  have s := Stp.newOwn (o := .lst vs) env na
  refine h _ _ _ s ⟨a, rfl, env.le.free na, ⟨vs, upd_same, r⟩, fun o => ?_⟩ fun b e => ?_
  · obtain ⟨u, hu⟩ := o.at env
    rw [hu] at na
    cases na
  · cases e
    exact na
theorem KD.flat {K : PySem.W.Frag} {G H : Hp} {σ : St} {ρ : DEnv} {Q : VK} {p : PyData} {v : V} (env : EnvOk K c G H σ ρ) (h : KD K c G H σ ρ Q (py p) ρ) (r : Rp K G v p) : Q v H := h v G H (.refl env) (by simp only [EntOk, RpD]; exact r) trivial
theorem de_tup {es : List Expr} {r : M (List Ent)} {k : Nat} (h : DA X c W es r) : DE X c W (.Tuple es k pos) (fTup r) := pe_weak (pe_tup h) fun σ H Q h => by
  obtain ⟨G, ρ, env, h⟩ := h
  refine ⟨G, ρ, env, wpM_mono (wpM_bnd.mp h) (fun es ρ1 h1 vs G1 H1 s1 e1 => ?_) fun _ _ x => x⟩
  unfold mkTup at h1
  split at h1
  · rename_i ps hp
    split at h1
    · rename_i hl
      have r := pys_ok e1 hp
      exact ⟨small1k (by rw [r.length]; exact hl), fun a na => KD.tup s1.env (KD.back h1 s1) r na⟩
    · exact h1.elim
  · exact h1.elim
theorem de_lst {es : List Expr} {r : M (List Ent)} (h : DA X c W es r) : DE X c W (.List es pos) (fLst r) := pe_weak (pe_lst h) fun σ H Q h => by
  obtain ⟨G, ρ, env, h⟩ := h
  refine ⟨G, ρ, env, wpM_mono (wpM_bnd.mp h) (fun es ρ1 h1 vs G1 H1 s1 e1 => ?_) fun _ _ x => x⟩
  unfold mkLst at h1
  split at h1
  · rename_i ps hp
    split at h1
    · rename_i hl
      have r := pys_ok e1 hp
      exact ⟨small1k (by rw [r.length]; exact hl), fun a na => KD.lst s1.env (KD.back h1 s1) r na⟩
    · exact h1.elim
  · exact h1.elim
end
end VL

set_option linter.all false
set_option autoImplicit false
set_option maxRecDepth 100000
/-! The value layer, part 3: operators, subscripts, slices, calls of built-ins. -/
namespace VL
open PySem L2

section
variable {X : Cx} {c : Nat → Addr} {W : WX} {K : PySem.W.Frag}
abbrev big : Nat := 1000000
theorem small_big {n : Nat} (h : n ≤ big) : n ≤ sizeLine := Nat.le_trans h (by decide)
theorem small_big' {n : Nat} (h : n < big) : n < sizeLine := Nat.lt_of_lt_of_le h (by decide)

/-! ### + - * // % -/
def rAddAll (K : PySem.W.Frag) : R2 := fun x y H Q => rI0 (fun i j => .int (i + j)) x y H Q ∨ (∃ i j, x = .str i ∧ y = .str j ∧ i.length + j.length ≤ sizeLine ∧ Q (.str (i ++ j)) H) ∨ rCat x y H Q ∨ rCatA K x y H Q
theorem op_addAll : OpR X (binaryOp .Add) (rAddAll X.K) := OpR.or op_add (OpR.or op_add_str (OpR.or op_cat op_catA))
def oAdd : Op2 := fun ρ x y => match rd ρ x, rd ρ y with
  | some (.int i), some (.int j) => some (py (.int (i + j)))
  | some (.str s), some (.str t) => if s.length + t.length ≤ big then some (py (.str (s ++ t))) else none
  | some (.list xs), some (.list ys) => if xs.length + ys.length ≤ big then some (.own (.list (xs ++ ys)) false) else none
  | some (.tuple xs), some (.tuple ys) => if xs.length + ys.length ≤ big then some (py (.tuple (xs ++ ys))) else none
  | _, _ => none
theorem ok_add : Ok2 K c (rAddAll K) oAdd := by
  intro G H σ ρ v u x y e Q env hx hy ho k
  unfold oAdd at ho
  split at ho
  · rename_i i j e1 e2
    cases ho
    exact .inl ⟨i, j, rd_int env hx e1, rd_int env hy e2, k.flat env (by simp only [Rp])⟩
  · rename_i s t e1 e2
    split at ho
    · rename_i hl
      cases ho
      exact .inr (.inl ⟨s, t, rd_str env hx e1, rd_str env hy e2, small_big hl, k.flat env (by simp only [Rp])⟩)
    · cases ho
  · rename_i xs ys e1 e2
    split at ho
    · rename_i hl
      cases ho
      obtain ⟨a, vs, ea, ha, ra⟩ := rd_list env hx e1
      obtain ⟨b, ws, eb, hb, rb⟩ := rd_list env hy e2
      exact .inr (.inr (.inl ⟨a, b, vs, ws, ea, eb, ha, hb, small_big (by rw [ra.length, rb.length]; exact hl), fun p np => k.lst env (ra.append rb) np⟩))
    · cases ho
  · rename_i xs ys e1 e2
    split at ho
    · rename_i hl
      cases ho
      obtain ⟨a, vs, ea, ha, ra⟩ := rd_tuple env hx e1
      obtain ⟨b, ws, eb, hb, rb⟩ := rd_tuple env hy e2
      refine .inr (.inr (.inr ⟨a, b, vs, ws, ea, eb, SqT.of (env.le _ _ ha), SqT.of (env.le _ _ hb), small_big (by rw [ra.length, rb.length]; exact hl), fun z => ?_, fun _ z => ?_, fun _ _ p np => k.tup env (ra.append rb) np⟩))
      · subst z
        refine k.flat env ?_
        simp only [Rp]
        exact ⟨b, ws, rfl, hb, by simpa using ra.append rb⟩
      · subst z
        refine k.flat env ?_
        simp only [Rp]
        exact ⟨a, vs, rfl, ha, by simpa using ra.append rb⟩
    · cases ho
  · cases ho
theorem de_add {a b : Expr} {f g : M Ent} {pos : Pos} (ha : DE X c W a f) (hb : DE X c W b g) : DE X c W (.BinOp a .Add b pos) (f2 oAdd f g) := de_bin op_addAll ok_add ha hb
def oSub : Op2 := fun ρ x y => match rd ρ x, rd ρ y with
  | some (.int i), some (.int j) => some (py (.int (i - j)))
  | _, _ => none
theorem ok_sub : Ok2 K c (rI0 fun i j => .int (i - j)) oSub := by
  intro G H σ ρ v u x y e Q env hx hy ho k
  unfold oSub at ho
  split at ho
  · rename_i i j e1 e2
    cases ho
    exact ⟨i, j, rd_int env hx e1, rd_int env hy e2, k.flat env (by simp only [Rp])⟩
  · cases ho
theorem de_sub {a b : Expr} {f g : M Ent} {pos : Pos} (ha : DE X c W a f) (hb : DE X c W b g) : DE X c W (.BinOp a .Sub b pos) (f2 oSub f g) := de_bin op_sub ok_sub ha hb
def oMul : Op2 := fun ρ x y => match rd ρ x, rd ρ y with
  | some (.int i), some (.int j) => if (-(2 ^ 64) < i ∧ i < 2 ^ 64) ∨ (-(2 ^ 64) < j ∧ j < 2 ^ 64) then some (py (.int (i * j))) else none
  | some (.list xs), some (.int j) => if 0 ≤ j ∧ j < 1000000 ∧ xs.length * j.toNat ≤ big then some (.own (.list (List.replicate j.toNat xs).flatten) false) else none
  | _, _ => none
theorem RpL.rep {G : Hp} {vs : List V} {ds : List PyData} (r : RpL K G vs ds) : ∀ n : Nat, RpL K G (List.replicate n vs).flatten (List.replicate n ds).flatten
  | 0 => by simp only [List.replicate_zero, List.flatten_nil, RpL]
  | n + 1 => by
    simp only [List.replicate_succ, List.flatten_cons]
    exact r.append (r.rep n)
theorem ok_mul : Ok2 K c (fun x y H Q => rI CMul (fun i j => .int (i * j)) x y H Q ∨ rRep x y H Q) oMul := by
  intro G H σ ρ v u x y e Q env hx hy ho k
  unfold oMul at ho
  split at ho
  · rename_i i j e1 e2
    split at ho
    · rename_i hc
      cases ho
      exact .inl ⟨i, j, rd_int env hx e1, rd_int env hy e2, hc, k.flat env (by simp only [Rp])⟩
    · cases ho
  · rename_i xs j e1 e2
    split at ho
    · rename_i hc
      cases ho
      obtain ⟨a, vs, ea, ha, ra⟩ := rd_list env hx e1
      exact .inr ⟨a, j, vs, ea, rd_int env hy e2, ha, by omega, by omega, small_big (by rw [ra.length]; exact hc.2.2), fun p np => k.lst env (ra.rep _) np⟩
    · cases ho
  · cases ho
theorem de_mul {a b : Expr} {f g : M Ent} {pos : Pos} (ha : DE X c W a f) (hb : DE X c W b g) : DE X c W (.BinOp a .Mult b pos) (f2 oMul f g) := de_bin (OpR.or op_mul op_rep) ok_mul ha hb
def oMod : Op2 := fun ρ x y => match rd ρ x, rd ρ y with
  | some (.int i), some (.int j) => if 0 < j then some (py (.int (i % j))) else none
  | _, _ => none
theorem ok_mod : Ok2 K c (rI (fun _ j => 0 < j) fun i j => .int (i % j)) oMod := by
  intro G H σ ρ v u x y e Q env hx hy ho k
  unfold oMod at ho
  split at ho
  · rename_i i j e1 e2
    split at ho
    · rename_i hc
      cases ho
      exact ⟨i, j, rd_int env hx e1, rd_int env hy e2, hc, k.flat env (by simp only [Rp])⟩
    · cases ho
  · cases ho
theorem de_mod {a b : Expr} {f g : M Ent} {pos : Pos} (ha : DE X c W a f) (hb : DE X c W b g) : DE X c W (.BinOp a .Mod b pos) (f2 oMod f g) := de_bin op_mod ok_mod ha hb
def oDiv : Op2 := fun ρ x y => match rd ρ x, rd ρ y with
  | some (.int i), some (.int j) => if 0 < j ∧ j < 1073741824 then some (py (.int (i / j))) else none
  | _, _ => none
theorem ok_div : Ok2 K c (rI CDiv fun i j => .int (i / j)) oDiv := by
  intro G H σ ρ v u x y e Q env hx hy ho k
  unfold oDiv at ho
  split at ho
  · rename_i i j e1 e2
    split at ho
    · rename_i hc
      cases ho
      exact ⟨i, j, rd_int env hx e1, rd_int env hy e2, hc, k.flat env (by simp only [Rp])⟩
    · cases ho
  · cases ho
theorem de_div {a b : Expr} {f g : M Ent} {pos : Pos} (ha : DE X c W a f) (hb : DE X c W b g) : DE X c W (.BinOp a .FloorDiv b pos) (f2 oDiv f g) := de_bin op_fdiv ok_div ha hb
def oNeg : Op1 := fun ρ x => match rd ρ x with
  | some (.int i) => some (py (.int (-i)))
  | _ => none
theorem ok_neg : Ok1 K c (rU fun i => .int (-i)) oNeg := by
  intro G H σ ρ v x e Q env hx ho k
  unfold oNeg at ho
  split at ho
  · rename_i i e1
    cases ho
    exact ⟨i, rd_int env hx e1, k.flat env (by simp only [Rp])⟩
  · cases ho
theorem de_neg {a : Expr} {f : M Ent} {pos : Pos} (ha : DE X c W a f) : DE X c W (.UnaryOp .USub a pos) (f1 oNeg f) := de_un un_neg ok_neg ha

/-! ### comparisons -/
def scalP : PyData → PyData → Bool
  | .none, .none => true | .none, .int _ => true | .int _, .none => true | .none, .bool _ => true | .bool _, .none => true | .none, .str _ => true | .str _, .none => true
  | .int _, .int _ => true | .bool _, .bool _ => true | .str _, .str _ => true
  | .int _, .str _ => true | .str _, .int _ => true | .bool _, .str _ => true | .str _, .bool _ => true
  | _, _ => false
theorem scalP_ok {p q : PyData} {v u : V} {H : Hp} (h : scalP p q = true) (hv : Rp K H v p) (hu : Rp K H u q) : scal v u = true ∧ decide (v = u) = PyData.eqv p q := by
  unfold scalP at h
  split at h <;> first | exact False.elim (Bool.false_ne_true h) | (simp only [Rp] at hv hu; subst hv; subst hu; refine ⟨rfl, ?_⟩; simp only [PyData.eqv, dec_int, dec_bl, dec_str]; try rfl)
def eqOk (p q : PyData) : Bool := scalP p q || (SeqAt.shaped p && SeqAt.shaped q)
def oEq : Op2 := fun ρ x y => match rd ρ x, rd ρ y with
  | some p, some q => if eqOk p q = true then some (py (.bool (PyData.eqv p q))) else none
  | _, _ => none
def oNe : Op2 := fun ρ x y => match rd ρ x, rd ρ y with
  | some p, some q => if eqOk p q = true then some (py (.bool (!PyData.eqv p q))) else none
  | _, _ => none
theorem ok_eq : Ok2 K c (fun x y H Q => rEq x y H Q ∨ rEqD K x y H Q) oEq := by
  intro G H σ ρ v u x y e Q env hx hy ho k
  unfold oEq at ho
  split at ho
  · rename_i p q e1 e2
    split at ho
    · rename_i hc
      cases ho
      have rv := rd_ok env hx e1
      have ru := rd_ok env hy e2
      rcases Bool.or_eq_true_iff.mp hc with h | h
      · obtain ⟨h1, h2⟩ := scalP_ok h rv ru
        exact .inl ⟨h1, by rw [h2]; exact k.flat env (by simp only [Rp])⟩
      · obtain ⟨h1, h2⟩ := Bool.and_eq_true_iff.mp h
        exact .inr ⟨p, q, Rp.dp (Same.refl _) _ _ (shaped_nd h1) rv, Rp.dp (Same.refl _) _ _ (shaped_nd h2) ru, h1, h2, k.flat env (by simp only [Rp])⟩
    · cases ho
  · cases ho
theorem ok_ne : Ok2 K c (fun x y H Q => rNe x y H Q ∨ rNeD K x y H Q) oNe := by
  intro G H σ ρ v u x y e Q env hx hy ho k
  unfold oNe at ho
  split at ho
  · rename_i p q e1 e2
    split at ho
    · rename_i hc
      cases ho
      have rv := rd_ok env hx e1
      have ru := rd_ok env hy e2
      rcases Bool.or_eq_true_iff.mp hc with h | h
      · obtain ⟨h1, h2⟩ := scalP_ok h rv ru
        exact .inl ⟨h1, by rw [h2]; exact k.flat env (by simp only [Rp])⟩
      · obtain ⟨h1, h2⟩ := Bool.and_eq_true_iff.mp h
        exact .inr ⟨p, q, Rp.dp (Same.refl _) _ _ (shaped_nd h1) rv, Rp.dp (Same.refl _) _ _ (shaped_nd h2) ru, h1, h2, k.flat env (by simp only [Rp])⟩
    · cases ho
  · cases ho
def oI (p : Int → Int → Bool) : Op2 := fun ρ x y => match rd ρ x, rd ρ y with
  | some (.int i), some (.int j) => some (py (.bool (p i j)))
  | _, _ => none
theorem ok_I {p : Int → Int → Bool} : Ok2 K c (rI0 fun i j => .bl (p i j)) (oI p) := by
  intro G H σ ρ v u x y e Q env hx hy ho k
  unfold oI at ho
  split at ho
  · rename_i i j e1 e2
    cases ho
    exact ⟨i, j, rd_int env hx e1, rd_int env hy e2, k.flat env (by simp only [Rp])⟩
  · cases ho
theorem ok_IB {p : Int → Int → Bool} : Ok2B K c (rI0 fun i j => .bl (p i j)) (oI p) := by
  intro G H σ ρ v u x y e Q env hx hy ho
  unfold oI at ho
  split at ho
  · rename_i i j e1 e2
    cases ho
    exact ⟨_, rfl, fun q => ⟨i, j, rd_int env hx e1, rd_int env hy e2, q⟩⟩
  · cases ho
abbrev oLt : Op2 := oI fun i j => decide (i < j)
abbrev oLe : Op2 := oI fun i j => decide (i ≤ j)
abbrev oGt : Op2 := oI fun i j => decide (j < i)
abbrev oGe : Op2 := oI fun i j => decide (j ≤ i)
variable {a b d : Expr} {f g k : M Ent} {pos : Pos}
theorem de_eq (hu : X.A.units + 64 < cLine) (ha : DE X c W a f) (hb : DE X c W b g) : DE X c W (.Compare a [.Eq] [b] pos) (f2 oEq f g) := de_cmp (OpR.or op_eq (op_eqD hu)) ok_eq ha hb
theorem de_ne (hu : X.A.units + 64 < cLine) (ha : DE X c W a f) (hb : DE X c W b g) : DE X c W (.Compare a [.NotEq] [b] pos) (f2 oNe f g) := de_cmp (OpR.or op_ne (op_neD hu)) ok_ne ha hb
theorem de_lt (ha : DE X c W a f) (hb : DE X c W b g) : DE X c W (.Compare a [.Lt] [b] pos) (f2 oLt f g) := de_cmp op_lt ok_I ha hb
theorem de_le (ha : DE X c W a f) (hb : DE X c W b g) : DE X c W (.Compare a [.LtE] [b] pos) (f2 oLe f g) := de_cmp op_le ok_I ha hb
theorem de_gt (ha : DE X c W a f) (hb : DE X c W b g) : DE X c W (.Compare a [.Gt] [b] pos) (f2 oGt f g) := de_cmp op_gt ok_I ha hb
theorem de_ge (ha : DE X c W a f) (hb : DE X c W b g) : DE X c W (.Compare a [.GtE] [b] pos) (f2 oGe f g) := de_cmp op_ge ok_I ha hb
theorem dt_eq (hu : X.A.units + 64 < cLine) (ha : DE X c W a f) (hb : DE X c W b g) : DT X c W (.Compare a [.Eq] [b] pos) (fB (f2 oEq f g)) := dt_cmp (OpR.or op_eq (op_eqD hu)) ok_eq ha hb
theorem dt_ne (hu : X.A.units + 64 < cLine) (ha : DE X c W a f) (hb : DE X c W b g) : DT X c W (.Compare a [.NotEq] [b] pos) (fB (f2 oNe f g)) := dt_cmp (OpR.or op_ne (op_neD hu)) ok_ne ha hb
theorem dt_lt (ha : DE X c W a f) (hb : DE X c W b g) : DT X c W (.Compare a [.Lt] [b] pos) (fB (f2 oLt f g)) := dt_cmp op_lt ok_I ha hb
theorem dt_le (ha : DE X c W a f) (hb : DE X c W b g) : DT X c W (.Compare a [.LtE] [b] pos) (fB (f2 oLe f g)) := dt_cmp op_le ok_I ha hb
theorem dt_gt (ha : DE X c W a f) (hb : DE X c W b g) : DT X c W (.Compare a [.Gt] [b] pos) (fB (f2 oGt f g)) := dt_cmp op_gt ok_I ha hb
theorem dt_ge (ha : DE X c W a f) (hb : DE X c W b g) : DT X c W (.Compare a [.GtE] [b] pos) (fB (f2 oGe f g)) := dt_cmp op_ge ok_I ha hb
theorem de_lele (ha : DE X c W a f) (hb : DE X c W b g) (hd : DE X c W d k) (hm : lastMarks [.LtE, .LtE] [b, d] = false := by with_unfolding_all rfl) : DE X c W (.Compare a [.LtE, .LtE] [b, d] pos) (fChain oLe oLe f g k) := de_chain op_le op_le ok_IB ok_I ha hb hd hm
theorem de_lelt (ha : DE X c W a f) (hb : DE X c W b g) (hd : DE X c W d k) (hm : lastMarks [.LtE, .Lt] [b, d] = false := by with_unfolding_all rfl) : DE X c W (.Compare a [.LtE, .Lt] [b, d] pos) (fChain oLe oLt f g k) := de_chain op_le op_lt ok_IB ok_I ha hb hd hm
theorem dt_lele (ha : DE X c W a f) (hb : DE X c W b g) (hd : DE X c W d k) (hm : lastMarks [.LtE, .LtE] [b, d] = false := by with_unfolding_all rfl) : DT X c W (.Compare a [.LtE, .LtE] [b, d] pos) (fB (fChain oLe oLe f g k)) := dt_chain op_le op_le ok_IB ok_I ha hb hd hm
theorem dt_lelt (ha : DE X c W a f) (hb : DE X c W b g) (hd : DE X c W d k) (hm : lastMarks [.LtE, .Lt] [b, d] = false := by with_unfolding_all rfl) : DT X c W (.Compare a [.LtE, .Lt] [b, d] pos) (fB (fChain oLe oLt f g k)) := dt_chain op_le op_lt ok_IB ok_I ha hb hd hm
/-- is None -/
def isNo : PyData → Bool
  | .none => true
  | _ => false
def oIsN (neg : Bool) : Op1 := fun ρ x => match x with
  | .sh (.py p) => some (py (.bool (isNo p != neg)))
  | _ => none
theorem isN_ok {p : PyData} {v : V} {G : Hp} (h : Rp K G v p) : decide (v = .non) = isNo p := by
  cases p <;> simp only [Rp] at h <;> first | (subst h; rfl) | (obtain ⟨a, vs, rfl, _⟩ := h; rfl) | exact h.elim
theorem de_isN {j : Nat} {pos' : Pos} (ha : DE X c W a f) : DE X c W (.Compare a [.Is] [.Constant .none j pos'] pos) (f1 (oIsN false) f) := pe_weak (pe_cmp (pc_isN ha) (by rfl)) fun σ H Q h => by
  refine w_f1 (r := fun x H Q => Q (.bl (decide (x = .non))) H) ?_ σ H Q h
  intro G H σ ρ v x e Q env hx ho k
  unfold oIsN at ho
  split at ho
  · rename_i p
    cases ho
    simp only [EntOk, RpD] at hx
    rw [isN_ok hx]
    exact k.flat env (by simp only [Rp, Bool.bne_false])
  · cases ho

/-! ### in, not in -/
def flatP : PyData → Bool
  | .none => true
  | .bool _ => true
  | .int _ => true
  | .str _ => true
  | _ => false
theorem flat_ok {p : PyData} {v : V} {G : Hp} (f : flatP p = true) (h : Rp K G v p) : flatV v = true := by
  cases p <;> first | exact False.elim (Bool.false_ne_true f) | (simp only [Rp] at h; subst h; rfl)
theorem flat_all {G : Hp} : ∀ {vs : List V} {ds : List PyData}, ds.all flatP = true → RpL K G vs ds → vs.all flatV = true
  | [], [], _, _ => rfl
  | v :: vs, d :: ds, f, r => by
    simp only [RpL] at r
    simp only [List.all_cons, Bool.and_eq_true] at f ⊢
    exact ⟨flat_ok f.1 r.1, flat_all f.2 r.2⟩
  | [], _ :: _, _, r => by simp only [RpL] at r
  | _ :: _, [], _, r => by simp only [RpL] at r
theorem flat_eqv {p q : PyData} {v u : V} {G : Hp} (f1 : flatP p = true) (f2 : flatP q = true) (h1 : Rp K G v p) (h2 : Rp K G u q) : eqV v u = PyData.eqv p q := by
  cases p <;> first | exact False.elim (Bool.false_ne_true f1) | (cases q <;> first | exact False.elim (Bool.false_ne_true f2) | (simp only [Rp] at h1 h2; subst h1; subst h2; simp only [eqV, PyData.eqv]))
def memP (p : PyData) (ds : List PyData) : Bool := ds.any fun z => PyData.eqv z p
theorem inV_ok {G : Hp} {p : PyData} {u : V} (f : flatP p = true) (h : Rp K G u p) : ∀ {vs : List V} {ds : List PyData}, ds.all flatP = true → RpL K G vs ds → inV u vs = memP p ds
  | [], [], _, _ => rfl
  | v :: vs, d :: ds, fs, r => by
    simp only [RpL] at r
    simp only [List.all_cons, Bool.and_eq_true] at fs
    have ih := inV_ok f h fs.2 r.2
    simp only [inV, memP, List.any_cons] at ih ⊢
    rw [flat_eqv fs.1 f r.1 h, ih]
  | [], _ :: _, _, r => by simp only [RpL] at r
  | _ :: _, [], _, r => by simp only [RpL] at r
def inOk (p : PyData) (ds : List PyData) (l : Bool) : Bool := (flatP p && ds.all flatP) || (l && SeqAt.shaped p && SeqAt.shaped (.list ds))
def oIn (neg : Bool) : Op2 := fun ρ x y => match rd ρ x, rd ρ y with
  | some p, some (.list ds) => if inOk p ds true = true then some (py (.bool (memP p ds != neg))) else none
  | some p, some (.tuple ds) => if inOk p ds false = true then some (py (.bool (memP p ds != neg))) else none
  | some (.str s), some (.str t) => match s.cps.toList with
    | [n] => some (py (.bool (decide (n ∈ t.cps.toList) != neg)))
    | _ => none
  | _, _ => none
def rInAll (K : PySem.W.Frag) (neg : Bool) : R2 := fun x y H Q => rIn K neg x y H Q ∨ (∃ d ds, Dp K H x d ∧ Dp K H y (.list ds) ∧ SeqAt.shaped d = true ∧ SeqAt.shaped (.list ds) = true ∧ Q (.bl ((ds.any fun z => PyData.eqv z d) != neg)) H) ∨
  (∃ (n : Nat) (z : Str), x = .str ⟨#[n]⟩ ∧ y = .str z ∧ Q (.bl (decide (n ∈ z.cps.toList) != neg)) H)
theorem ok_in {neg : Bool} : Ok2 K c (rInAll K neg) (oIn neg) := by
  intro G H σ ρ v u x y e Q env hx hy ho k
  unfold oIn at ho
  split at ho
  · rename_i p ds e1 e2
    split at ho
    · rename_i hc
      cases ho
      have rv := rd_ok env hx e1
      obtain ⟨a, vs, ea, ha, ra⟩ := rd_list env hy e2
      rcases Bool.or_eq_true_iff.mp hc with h | h
      · obtain ⟨h1, h2⟩ := Bool.and_eq_true_iff.mp h
        refine .inl ⟨a, vs, ea, .inl (SqL.of ha), flat_ok h1 rv, flat_all h2 ra, ?_⟩
        have ei := inV_ok h1 rv h2 (ra.mono env.le)
        refine k.flat env ?_
        simp only [Rp]
        rw [ei]
        cases neg <;> cases memP p ds <;> rfl
      · obtain ⟨h1, h2⟩ := Bool.and_eq_true_iff.mp h
        obtain ⟨_, h1⟩ := Bool.and_eq_true_iff.mp h1
        refine .inr (.inl ⟨p, ds, Rp.dp (Same.refl _) _ _ (shaped_nd h1) rv, Rp.dp (Same.refl _) _ _ (shaped_nd h2) (rd_ok env hy e2), h1, h2, k.flat env (by simp only [Rp]; rfl)⟩)
    · cases ho
  · rename_i p ds e1 e2
    split at ho
    · rename_i hc
      cases ho
      have rv := rd_ok env hx e1
      obtain ⟨a, vs, ea, ha, ra⟩ := rd_tuple env hy e2
      rcases Bool.or_eq_true_iff.mp hc with h | h
      · obtain ⟨h1, h2⟩ := Bool.and_eq_true_iff.mp h
        refine .inl ⟨a, vs, ea, .inr (SqT.of (env.le _ _ ha)), flat_ok h1 rv, flat_all h2 ra, ?_⟩
        have ei := inV_ok h1 rv h2 (ra.mono env.le)
        refine k.flat env ?_
        simp only [Rp]
        rw [ei]
        cases neg <;> cases memP p ds <;> rfl
      · simp at h
    · cases ho
  · rename_i s t e1 e2
    split at ho
    · rename_i n hn
      cases ho
      refine .inr (.inr ⟨n, t, ?_, rd_str env hy e2, k.flat env (by simp only [Rp])⟩)
      rw [rd_str env hx e1]
      have : s.cps = #[n] := by rw [← Array.toArray_toList (xs := s.cps), hn]
      cases s
      exact congrArg (fun z => V.str ⟨z⟩) this
    · cases ho
  · cases ho
theorem op_inAll (hu : X.A.units + 65 < cLine) : OpR X (compareOp .In) (rInAll X.K false) := by
  refine OpR.or op_in_seq (OpR.or ?_ ?_)
  · intro pins s σ H x y v u Q I rx ry h
    obtain ⟨d, ds, h1, h2, h3, h4, q⟩ := h
    exact op_inD hu pins s σ H x y v u Q I rx ry ⟨d, ds, h1, h2, h3, h4, by simpa using q⟩
  · intro pins s σ H x y v u Q I rx ry h
    obtain ⟨n, z, h1, h2, q⟩ := h
    exact op_in_sign pins s σ H x y v u Q I rx ry ⟨n, z, h1, h2, by simpa using q⟩
theorem op_notInAll (hu : X.A.units + 65 < cLine) : OpR X (compareOp .NotIn) (rInAll X.K true) := by
  refine OpR.or op_notIn_seq (OpR.or ?_ ?_)
  · intro pins s σ H x y v u Q I rx ry h
    obtain ⟨d, ds, h1, h2, h3, h4, q⟩ := h
    refine op_notInD hu pins s σ H x y v u Q I rx ry ⟨d, ds, h1, h2, h3, h4, ?_⟩
    revert q
    cases (ds.any fun z => PyData.eqv z d) <;> exact fun q => q
  · intro pins s σ H x y v u Q I rx ry h
    obtain ⟨n, z, h1, h2, q⟩ := h
    refine op_notIn_sign pins s σ H x y v u Q I rx ry ⟨n, z, h1, h2, ?_⟩
    revert q
    cases decide (n ∈ z.cps.toList) <;> exact fun q => q
theorem de_in (hu : X.A.units + 65 < cLine) (ha : DE X c W a f) (hb : DE X c W b g) (hm : behindInMarks .In b = false := by with_unfolding_all rfl) : DE X c W (.Compare a [.In] [b] pos) (f2 (oIn false) f g) := de_cmp (op_inAll hu) ok_in ha hb hm
theorem de_notIn (hu : X.A.units + 65 < cLine) (ha : DE X c W a f) (hb : DE X c W b g) (hm : behindInMarks .NotIn b = false := by with_unfolding_all rfl) : DE X c W (.Compare a [.NotIn] [b] pos) (f2 (oIn true) f g) := de_cmp (op_notInAll hu) ok_in ha hb hm
theorem dt_in (hu : X.A.units + 65 < cLine) (ha : DE X c W a f) (hb : DE X c W b g) (hm : behindInMarks .In b = false := by with_unfolding_all rfl) : DT X c W (.Compare a [.In] [b] pos) (fB (f2 (oIn false) f g)) := dt_cmp (op_inAll hu) ok_in ha hb hm
theorem dt_notIn (hu : X.A.units + 65 < cLine) (ha : DE X c W a f) (hb : DE X c W b g) (hm : behindInMarks .NotIn b = false := by with_unfolding_all rfl) : DT X c W (.Compare a [.NotIn] [b] pos) (fB (f2 (oIn true) f g)) := dt_cmp (op_notInAll hu) ok_in ha hb hm

/-! ### subscripts -/
theorem RpL.atI {G : Hp} {vs : List V} {ds : List PyData} {i : Int} {d : PyData} (r : RpL K G vs ds) (h : L2.atI ds i = some d) : ∃ v, L2.atI vs i = some v ∧ Rp K G v d := by
  unfold L2.atI at h ⊢
  rw [r.length]
  cases e : ixN ds.length i with
  | none =>
    rw [e] at h
    cases h
  | some j =>
    rw [e] at h
    obtain ⟨v, h1, h2⟩ := r.get (i := j) h
    exact ⟨v, h1, h2⟩
theorem atI_map {α β : Type} (h : α → β) (xs : List α) (i : Int) : L2.atI (xs.map h) i = (L2.atI xs i).map h := by
  unfold L2.atI
  rw [List.length_map]
  cases ixN xs.length i with
  | none => rfl
  | some j => simp
def oIx : Op2 := fun ρ x y => match rd ρ y with
  | some (.int i) => match x with
    | .sh (.scr ns) => (L2.atI ns i).map fun n => py (.int n)
    | _ => match rd ρ x with
      | some (.list ds) => (L2.atI ds i).map py
      | some (.tuple ds) => (L2.atI ds i).map py
      | some (.str s) => if s.length ≤ big then (L2.atI s.cps.toList i).map fun n => py (.str ⟨#[n]⟩) else none
      | _ => none
  | _ => none
theorem ok_ix : Ok2 K c (rIx K) oIx := by
  intro G H σ ρ v u x y e Q env hx hy ho k
  unfold oIx at ho
  split at ho
  · rename_i i e2
    have eu := rd_int env hy e2
    split at ho
    · rename_i ns
      simp only [EntOk, RpD] at hx
      obtain ⟨a, ea, sa⟩ := hx
      obtain ⟨n, hn, he⟩ := Option.map_eq_some_iff.mp ho
      cases he
      exact .inl ⟨a, _, i, .int n, ea, eu, env.le.seq sa, by rw [atI_map, hn]; rfl, k.flat env (by simp only [Rp])⟩
    · split at ho
      · rename_i ds e1
        obtain ⟨d, hd, he⟩ := Option.map_eq_some_iff.mp ho
        cases he
        obtain ⟨a, vs, ea, ha, ra⟩ := rd_list env hx e1
        obtain ⟨w, hw, rw⟩ := ra.atI hd
        exact .inl ⟨a, vs, i, w, ea, eu, SqL.of ha, hw, k.flat env rw⟩
      · rename_i ds e1
        obtain ⟨d, hd, he⟩ := Option.map_eq_some_iff.mp ho
        cases he
        obtain ⟨a, vs, ea, ha, ra⟩ := rd_tuple env hx e1
        obtain ⟨w, hw, rw⟩ := ra.atI hd
        exact .inr (.inl ⟨a, vs, i, w, ea, eu, SqT.of (env.le _ _ ha), hw, k.flat env rw⟩)
      · rename_i s e1
        split at ho
        · rename_i hl
          obtain ⟨n, hn, he⟩ := Option.map_eq_some_iff.mp ho
          cases he
          exact .inr (.inr ⟨s, i, n, rd_str env hx e1, eu, small_big hl, hn, k.flat env (by simp only [Rp])⟩)
        · cases ho
      · cases ho
  · cases ho
theorem de_ix (ha : DE X c W a f) (hb : DE X c W b g) (hs : PlainIx b := by exact fun _ _ => rfl) : DE X c W (.Subscript a b pos) (f2 oIx f g) := pe_weak (pe_ix ix_seq ha hb hs) (w_f2 ok_ix)

/-! ### slices -/
def tDO (K : PySem.W.Frag) (c : Nat → Addr) (W : WX) (f : M (Option Int)) : TO := fun σ H Q => ∃ G ρ, EnvOk K c G H σ ρ ∧ wpM (f ρ) (fun o ρ' => ∀ G' H', Stp K c G H σ ρ G' H' σ ρ' → Q o H') (XD K c W G H σ ρ)
def fNoP : M (Option Int) := ret none
def fP (f : M Ent) : M (Option Int) := bnd f fun x ρ => match rd ρ x with
  | some (.int i) => some (.ok (some i) ρ)
  | _ => none
theorem po_weak {e : Option Expr} {t t' : TO} (h : PO X e t) (w : ∀ σ H Q, t' σ H Q → t σ H Q) : PO X e t' := ⟨fun pins s σ H Q I q => h.run pins s σ H Q I (w σ H Q q)⟩
theorem do_none : PO X none (tDO X.K c W fNoP) := po_weak po_none fun σ H Q h => by
  obtain ⟨G, ρ, env, h⟩ := h
  exact h G H (.refl env)
theorem do_some (ha : DE X c W a f) : PO X (some a) (tDO X.K c W (fP f)) := po_weak (po_some ha) fun σ H Q h => by
  obtain ⟨G, ρ, env, h⟩ := h
  refine ⟨G, ρ, env, wpM_mono (wpM_bnd.mp h) (fun x ρ1 h1 v G1 H1 s1 e1 _ => ?_) fun _ _ x => x⟩
  try dsimp only at h1
  split at h1
  · rename_i i e
    exact ⟨i, rd_int s1.env e1 e, h1 G1 H1 s1⟩
  · exact h1.elim
def cutL {α : Type} (xs : List α) (lo hi : Option Int) : List α := (xs.drop (HT.sIx xs.length 0 lo)).take (HT.sIx xs.length xs.length hi - HT.sIx xs.length 0 lo)
theorem RpL.cut {G : Hp} {vs : List V} {ds : List PyData} (r : RpL K G vs ds) (lo hi : Option Int) : RpL K G (cutV vs lo hi) (cutL ds lo hi) := by
  unfold cutV cutL
  rw [r.length]
  exact (r.drop _).take _
def oSl (ρ : DEnv) (x : Ent) (lo hi : Option Int) : Option Ent := match rd ρ x with
  | some (.list ds) => some (.own (.list (cutL ds lo hi)) false)
  | some (.tuple ds) => some (py (.tuple (cutL ds lo hi)))
  | some (.str s) => if s.length ≤ big then some (py (.str (cutS s lo hi))) else none
  | _ => none
def rSlAll (K : PySem.W.Frag) : V → Option Int → Option Int → Hp → VK → Prop := fun x lo hi H Q => rSlL K x lo hi H Q ∨ rSlA K x lo hi H Q ∨ rSlS x lo hi H Q
theorem sl_all : SlR X (rSlAll X.K) := SlR.or sl_list (SlR.or sl_tupA sl_str)
def fSl (f : M Ent) (l h : M (Option Int)) : M Ent := bnd f fun x => bnd l fun lo => bnd h fun hi ρ => liftO (oSl ρ x lo hi) ρ
theorem de_slice {lo hi : Option Expr} {l h : M (Option Int)} {p2 : Pos} (ha : DE X c W a f) (hl : PO X lo (tDO X.K c W l)) (hh : PO X hi (tDO X.K c W h)) : DE X c W (.Subscript a (.Slice lo hi none p2) pos) (fSl f l h) := pe_weak (pe_slice sl_all ha hl hh) fun σ H Q q => by
  obtain ⟨G, ρ, env, q⟩ := q
  refine ⟨G, ρ, env, wpM_mono (wpM_bnd.mp q) (fun x ρ1 h1 v G1 H1 s1 e1 _ => ?_) fun _ _ x => x⟩
  refine ⟨G1, ρ1, s1.env, wpM_mono (wpM_bnd.mp h1) (fun lo ρ2 h2 G2 H2 s2 => ?_) fun _ _ x => x.back s1⟩
  have s12 := s1.trans s2
  refine ⟨G2, ρ2, s2.env, wpM_mono (wpM_bnd.mp h2) (fun hi ρ3 h3 G3 H3 s3 => ?_) fun _ _ x => x.back s12⟩
  obtain ⟨e, ho, k⟩ := wpM_liftO h3
  have ex := (e1.step s2).step s3
  have k := KD.back k (s12.trans s3)
  have env := s3.env
  unfold oSl at ho
  split at ho
  · rename_i ds er
    cases ho
    obtain ⟨a, vs, ea, ha, ra⟩ := rd_list env ex er
    exact .inl ⟨a, vs, ea, SqL.of ha, fun p np => k.lst env (ra.cut lo hi) np⟩
  · rename_i ds er
    cases ho
    obtain ⟨a, vs, ea, ha, ra⟩ := rd_tuple env ex er
    refine .inr (.inl ⟨a, vs, ea, SqT.of (env.le _ _ ha), fun z => ?_, fun _ p np => k.tup env (ra.cut lo hi) np⟩)
    refine k.flat env ?_
    simp only [Rp]
    refine ⟨a, vs, rfl, ha, ?_⟩
    have := ra.cut lo hi
    unfold cutV at this
    rw [z.1, z.2, List.drop_zero, Nat.sub_zero, List.take_length] at this
    exact this
  · rename_i s er
    split at ho
    · rename_i hl
      cases ho
      exact .inr (.inr ⟨s, rd_str env ex er, small_big hl, k.flat env (by simp only [Rp])⟩)
    · cases ho
  · cases ho

/-! ### built-ins called -/
abbrev OpL := DEnv → List Ent → Option Ent
def fBl (o : OpL) (r : M (List Ent)) : M Ent := bnd r fun es ρ => liftO (o ρ es) ρ
def OkL (K : PySem.W.Frag) (c : Nat → Addr) (r : List V → Hp → VK → Prop) (o : OpL) : Prop := ∀ (G H : Hp) (σ : St) (ρ : DEnv) (vs : List V) (es : List Ent) (e : Ent) (Q : VK), EnvOk K c G H σ ρ → EAs K c G H σ ρ vs es → o ρ es = some e → KD K c G H σ ρ Q e ρ → r vs H Q
theorem w_bl {r : List V → Hp → VK → Prop} {o : OpL} {m : M (List Ent)} (ok : OkL X.K c r o) (σ : St) (H : Hp) (Q : VK) (h : tD X.K c W (fBl o m) σ H Q) : tCB r (tDA X.K c W m) σ H Q := by
  obtain ⟨G, ρ, env, h⟩ := h
  refine ⟨G, ρ, env, wpM_mono (wpM_bnd.mp h) (fun es ρ1 h1 vs G1 H1 s1 e1 => ?_) fun _ _ x => x⟩
  obtain ⟨e, he, k⟩ := wpM_liftO h1
  exact ok G1 H1 σ ρ1 vs es e Q s1.env e1 he (k.back s1)
variable {x : Str} {p : Pos} {es : List Expr} {m : M (List Ent)} {id T : String} {r : List V → Hp → VK → Prop} {o : OpL}
theorem de_blt (hc : CallR X (.builtin id) r) (ok : OkL X.K c r o) (hg : Gl X x) (hm : X.mg x = none) (hv : bootBuiltins x = some (.builtin id)) (ha : DA X c W (a :: es) m) (hn : x ≠ "__name__" := by decide) (hdb : (x == ("__debug__" : Str)) = false := by decide)
    (he : starEach (a :: es) X.env = (false, eval a X.env) :: starEach es X.env := by rfl) (hpl : (backTo pos (starEach es X.env)).any (·.1) = false := by rfl) : DE X c W (.Call (.Name x p) (a :: es) [] pos) (fBl o m) := pe_weak (pe_callB hc hg hm hv ha hn hdb he hpl) (w_bl ok)
theorem de_bty (hc : CallR X (.type T) r) (ok : OkL X.K c r o) (hg : Gl X x) (hm : X.mg x = none) (hv : bootBuiltins x = some (.type T)) (ha : DA X c W (a :: es) m) (hn : x ≠ "__name__" := by decide) (hdb : (x == ("__debug__" : Str)) = false := by decide)
    (he : starEach (a :: es) X.env = (false, eval a X.env) :: starEach es X.env := by rfl) (hpl : (backTo pos (starEach es X.env)).any (·.1) = false := by rfl) : DE X c W (.Call (.Name x p) (a :: es) [] pos) (fBl o m) := pe_weak (pe_callTy hc hg hm hv ha hn hdb he hpl) (w_bl ok)
theorem EAs.one {G H : Hp} {σ : St} {ρ : DEnv} {vs : List V} {e : Ent} (h : EAs K c G H σ ρ vs [e]) : ∃ v, vs = [v] ∧ EntOk K c G H σ ρ v e := by
  cases h with
  | cons h1 _ h2 =>
    cases h2
    exact ⟨_, rfl, h1⟩
theorem EAs.two {G H : Hp} {σ : St} {ρ : DEnv} {vs : List V} {e e' : Ent} (h : EAs K c G H σ ρ vs [e, e']) : ∃ v v', vs = [v, v'] ∧ EntOk K c G H σ ρ v e ∧ EntOk K c G H σ ρ v' e' := by
  cases h with
  | cons h1 _ h2 =>
    obtain ⟨v', rfl, h3⟩ := h2.one
    exact ⟨_, _, rfl, h1, h3⟩
def oLen : OpL := fun ρ es => match es with
  | [.sh (.scr ns)] => some (py (.int ns.length))
  | [x] => match rd ρ x with
    | some (.list ds) => some (py (.int ds.length))
    | some (.tuple ds) => some (py (.int ds.length))
    | some (.str s) => if s.length ≤ big then some (py (.int s.length)) else none
    | _ => none
  | _ => none
theorem ok_len : OkL K c (fun xs H Q => ∃ x n, xs = [x] ∧ LenV K x H n ∧ Q (.int n) H) oLen := by
  intro G H σ ρ vs es e Q env hx ho k
  unfold oLen at ho
  split at ho
  · rename_i ns
    cases ho
    obtain ⟨v, rfl, h⟩ := hx.one
    simp only [EntOk, RpD] at h
    obtain ⟨a, rfl, sa⟩ := h
    exact ⟨_, _, rfl, .inl ⟨_, env.le.seq sa, rfl⟩, k.flat env (by simp only [Rp, List.length_map])⟩
  · rename_i x _
    obtain ⟨v, rfl, h⟩ := hx.one
    split at ho
    · rename_i ds er
      cases ho
      obtain ⟨a, vs, rfl, ha, ra⟩ := rd_list env h er
      exact ⟨_, _, rfl, .inl ⟨_, SqL.of ha, rfl⟩, k.flat env (by simp only [Rp, ra.length])⟩
    · rename_i ds er
      cases ho
      obtain ⟨a, vs, rfl, ha, ra⟩ := rd_tuple env h er
      exact ⟨_, _, rfl, .inr ⟨_, SqT.of (env.le _ _ ha), rfl⟩, k.flat env (by simp only [Rp, ra.length])⟩
    · rename_i s er
      split at ho
      · rename_i hl
        cases ho
        have := rd_str env h er
        subst this
        exact ⟨_, _, rfl, ⟨small_big hl, rfl⟩, k.flat env (by simp only [Rp])⟩
      · cases ho
    · cases ho
  · cases ho
theorem de_len (hg : Gl X "len") (hm : X.mg "len" = none) (ha : DA X c W (a :: es) m) (he : starEach (a :: es) X.env = (false, eval a X.env) :: starEach es X.env := by rfl) (hpl : (backTo pos (starEach es X.env)).any (·.1) = false := by rfl) : DE X c W (.Call (.Name "len" p) (a :: es) [] pos) (fBl oLen m) :=
  de_blt call_len ok_len hg hm PySem.boot_len ha (by decide) (by decide) he hpl
def oList : OpL := fun ρ es => match es with
  | [x] => match rd ρ x with
    | some (.list ds) => some (.own (.list ds) false)
    | some (.tuple ds) => some (.own (.list ds) false)
    | _ => none
  | _ => none
theorem ok_list : OkL K c (fun xs H Q => ∃ p ys, xs = [.ref p] ∧ (SqL K H p ys ∨ SqT K H p ys) ∧ ∀ l, H l = none → Q (.ref l) (upd H l (.lst ys))) oList := by
  intro G H σ ρ vs es e Q env hx ho k
  unfold oList at ho
  split at ho
  · obtain ⟨v, rfl, h⟩ := hx.one
    split at ho
    · rename_i ds er
      cases ho
      obtain ⟨a, vs, rfl, ha, ra⟩ := rd_list env h er
      exact ⟨_, _, rfl, .inl (SqL.of ha), fun l nl => k.lst env ra nl⟩
    · rename_i ds er
      cases ho
      obtain ⟨a, vs, rfl, ha, ra⟩ := rd_tuple env h er
      exact ⟨_, _, rfl, .inr (SqT.of (env.le _ _ ha)), fun l nl => k.lst env ra nl⟩
    · cases ho
  · cases ho
theorem de_list (hg : Gl X "list") (hm : X.mg "list" = none) (ha : DA X c W (a :: es) m) (he : starEach (a :: es) X.env = (false, eval a X.env) :: starEach es X.env := by rfl) (hpl : (backTo pos (starEach es X.env)).any (·.1) = false := by rfl) : DE X c W (.Call (.Name "list" p) (a :: es) [] pos) (fBl oList m) :=
  de_bty call_list_of ok_list hg hm (by decide +kernel) ha (by decide) (by decide) he hpl
def oTuple : OpL := fun ρ es => match es with
  | [x] => match rd ρ x with
    | some (.list ds) => some (py (.tuple ds))
    | some (.tuple ds) => some (py (.tuple ds))
    | _ => none
  | _ => none
theorem ok_tuple : OkL K c (fun xs H Q => ∃ p ys, xs = [.ref p] ∧ ((SqL K H p ys ∧ ∀ l, H l = none → Q (.ref l) (upd H l (.tup ys))) ∨ (SqT K H p ys ∧ Q (.ref p) H))) oTuple := by
  intro G H σ ρ vs es e Q env hx ho k
  unfold oTuple at ho
  split at ho
  · obtain ⟨v, rfl, h⟩ := hx.one
    split at ho
    · rename_i ds er
      cases ho
      obtain ⟨a, vs, rfl, ha, ra⟩ := rd_list env h er
      exact ⟨_, _, rfl, .inl ⟨SqL.of ha, fun l nl => k.tup env ra nl⟩⟩
    · rename_i ds er
      cases ho
      obtain ⟨a, vs, rfl, ha, ra⟩ := rd_tuple env h er
      exact ⟨_, _, rfl, .inr ⟨SqT.of (env.le _ _ ha), k.flat env (by simp only [Rp]; exact ⟨a, vs, rfl, ha, ra⟩)⟩⟩
    · cases ho
  · cases ho
theorem de_tupleC (hg : Gl X "tuple") (hm : X.mg "tuple" = none) (ha : DA X c W (a :: es) m) (he : starEach (a :: es) X.env = (false, eval a X.env) :: starEach es X.env := by rfl) (hpl : (backTo pos (starEach es X.env)).any (·.1) = false := by rfl) : DE X c W (.Call (.Name "tuple" p) (a :: es) [] pos) (fBl oTuple m) :=
  de_bty call_tuple_of ok_tuple hg hm (by decide +kernel) ha (by decide) (by decide) he hpl
def bools : List PyData → Option (List Bool)
  | [] => some []
  | .bool b :: ds => (bools ds).map (b :: ·)
  | _ :: _ => none
theorem bools_ok {G : Hp} : ∀ {vs : List V} {ds : List PyData} {bs : List Bool}, RpL K G vs ds → bools ds = some bs → vs = bs.map V.bl
  | [], [], bs, _, e => by
    simp only [bools, Option.some.injEq] at e
    subst e
    rfl
  | v :: vs, .bool b :: ds, bs, r, e => by
    simp only [RpL, Rp] at r
    simp only [bools] at e
    obtain ⟨cs, h1, h2⟩ := Option.map_eq_some_iff.mp e
    subst h2
    rw [r.1, bools_ok r.2 h1]
    rfl
  | v :: vs, .none :: _, _, _, e => by simp [bools] at e
  | v :: vs, .int _ :: _, _, _, e => by simp [bools] at e
  | v :: vs, .str _ :: _, _, _, e => by simp [bools] at e
  | v :: vs, .list _ :: _, _, _, e => by simp [bools] at e
  | v :: vs, .tuple _ :: _, _, _, e => by simp [bools] at e
  | v :: vs, .dict _ :: _, _, _, e => by simp [bools] at e
  | [], _ :: _, _, r, _ => by simp only [RpL] at r
  | _ :: _, [], _, r, _ => by simp only [RpL] at r
theorem bools_map (bs : List Bool) : bools (bs.map .bool) = some bs := by
  induction bs with
  | nil => rfl
  | cons b bs ih => simp [bools, ih]
def oQuant (q : List Bool → Bool) : OpL := fun ρ es => match es with
  | [x] => match rd ρ x with
    | some (.list ds) => (bools ds).map fun bs => py (.bool (q bs))
    | _ => none
  | _ => none
theorem ok_quant {q : List Bool → Bool} : OkL K c (fun vs H Q => ∃ (a : Addr) (bs : List Bool), vs = [V.ref a] ∧ SqL K H a (bs.map V.bl) ∧ Q (.bl (q bs)) H) (oQuant q) := by
  intro G H σ ρ vs es e Q env hx ho k
  unfold oQuant at ho
  split at ho
  · obtain ⟨v, rfl, h⟩ := hx.one
    split at ho
    · rename_i ds er
      obtain ⟨bs, hb, he⟩ := Option.map_eq_some_iff.mp ho
      cases he
      obtain ⟨a, vs, rfl, ha, ra⟩ := rd_list env h er
      exact ⟨a, bs, rfl, SqL.of (by rw [ha, bools_ok ra hb]), k.flat env (by simp only [Rp])⟩
    · cases ho
  · cases ho
theorem de_any (hc : X.calm = true) (hg : Gl X "any") (hm : X.mg "any" = none) (ha : DA X c W (a :: es) m) (he : starEach (a :: es) X.env = (false, eval a X.env) :: starEach es X.env := by rfl) (hpl : (backTo pos (starEach es X.env)).any (·.1) = false := by rfl) : DE X c W (.Call (.Name "any" p) (a :: es) [] pos) (fBl (oQuant fun bs => bs.any fun b => b) m) :=
  de_blt (cr_any hc) ok_quant hg hm (by decide +kernel) ha (by decide) (by decide) he hpl
theorem de_all (hc : X.calm = true) (hg : Gl X "all") (hm : X.mg "all" = none) (ha : DA X c W (a :: es) m) (he : starEach (a :: es) X.env = (false, eval a X.env) :: starEach es X.env := by rfl) (hpl : (backTo pos (starEach es X.env)).any (·.1) = false := by rfl) : DE X c W (.Call (.Name "all" p) (a :: es) [] pos) (fBl (oQuant fun bs => bs.all fun b => b) m) :=
  de_blt (cr_all hc) ok_quant hg hm (by decide +kernel) ha (by decide) (by decide) he hpl
/-- a built-in class as a value -/
def fTy (n : String) : M Ent := ret (.sh (.ty n))
theorem de_ty (n : String) {x : Str} (hg : Gl X x) (hm : X.mg x = none) (hv : bootBuiltins x = some (.type n) := by decide +kernel) (hn : x ≠ "__name__" := by decide) (hd : (x == ("__debug__" : Str)) = false := by decide) : DE X c W (.Name x pos) (fTy n) := pe_weak (pe_bltn (v := .ty n) hg hm hv rfl hn hd) fun σ H Q h => by
  obtain ⟨G, ρ, env, h⟩ := h
  exact h (.ty n) G H (.refl env) (by simp only [EntOk, RpD]) trivial
/-- isinstance -/
def tyOf : PyData → String
  | .none => "NoneType"
  | .bool _ => "bool"
  | .int _ => "int"
  | .str _ => "str"
  | .list _ => "list"
  | .tuple _ => "tuple"
  | .dict _ => "dict"
def isiT (p : PyData) (n : String) : Option Bool := match n with
  | "list" => some (match p with | .list _ => true | _ => false)
  | "tuple" => some (match p with | .tuple _ => true | _ => false)
  | "bool" => some (match p with | .bool _ => true | _ => false)
  | "int" => some (match p with | .bool _ => true | .int _ => true | _ => false)
  | "str" => some (match p with | .str _ => true | _ => false)
  | _ => none
def oIsi : OpL := fun ρ es => match es with
  | [x, .sh (.ty n)] => match rd ρ x with
    | some p => (isiT p n).map fun b => py (.bool b)
    | none => none
  | _ => none
theorem Rp.ty {H : Hp} {v : V} {p : PyData} (h : Rp K H v p) : TyX K H v (.type (tyOf p)) := by
  cases p <;> simp only [Rp] at h
  · subst h; exact .base .non
  · subst h; exact .base (.bl _)
  · subst h; exact .base (.int _)
  · subst h; exact .base (.str _)
  · obtain ⟨a, vs, rfl, h, _⟩ := h; exact .base (.lst h)
  · obtain ⟨a, vs, rfl, h, _⟩ := h; exact .base (.tup h)
  · obtain ⟨rfl, a, rfl, h⟩ := h; exact .base (.dK h)
theorem isiT_ok {p : PyData} {n : String} {b : Bool} (h : isiT p n = some b) : PySem.W.kitOne K (.type (tyOf p)) (.type n) = some b := by
  apply kit_ty
  unfold isiT at h
  split at h <;> cases p <;> first | (cases h; done) | (cases h; dsimp only [tyOf]; decide +kernel)
theorem ok_isi : OkL K c (rIsi K) oIsi := by
  intro G H σ ρ vs es e Q env hx ho k
  unfold oIsi at ho
  split at ho
  · rename_i x n
    obtain ⟨v, u, rfl, h, hu⟩ := hx.two
    simp only [EntOk, RpD] at hu
    subst hu
    split at ho
    · rename_i p er
      obtain ⟨b, hb, he⟩ := Option.map_eq_some_iff.mp ho
      cases he
      exact ⟨v, .ty n, _, .type n, b, rfl, .ty n, (rd_ok env h er).ty, isiT_ok hb, k.flat env (by simp only [Rp])⟩
    · cases ho
  · cases ho
theorem de_isi (hg : Gl X "isinstance") (hm : X.mg "isinstance" = none) (ha : DA X c W (a :: es) m) (he : starEach (a :: es) X.env = (false, eval a X.env) :: starEach es X.env := by rfl) (hpl : (backTo pos (starEach es X.env)).any (·.1) = false := by rfl) : DE X c W (.Call (.Name "isinstance" p) (a :: es) [] pos) (fBl oIsi m) :=
  de_blt call_isi ok_isi hg hm (by decide +kernel) ha (by decide) (by decide) he hpl
end
end VL

set_option linter.all false
set_option autoImplicit false
set_option maxRecDepth 100000
/-! The value layer, part 4: statements, targets, loops. -/
namespace VL
open PySem L2

section
variable {X : Cx} {c : Nat → Addr} {W : WX} {K : PySem.W.Frag}

/-! ### blocks -/
def fNx : S := ret .nx
def sq (f g : S) : S := bnd f fun fl => match fl with
  | .nx => g
  | o => ret o
theorem w_sq {f g : S} (D : Ends) (σ : St) (H : Hp) (h : tS X.K c W (sq f g) D σ H) : tSeq (tS X.K c W f) (tS X.K c W g) D σ H := by
  obtain ⟨G, ρ, env, h⟩ := h
  refine ⟨G, ρ, env, wpM_mono (wpM_bnd.mp h) (fun fl ρ1 h1 => ?_) fun _ _ x => x⟩
  cases fl with
  | nx => exact fun G1 H1 σ1 s1 => ⟨G1, ρ1, s1.env, wpM_mono h1 (fun _ _ k => k.back s1) fun _ _ x => x.back s1⟩
  | rt e => exact h1
  | bk => exact h1
  | ct => exact h1
variable {st : Stmt} {rest : List Stmt} {f g : S} {pos : Pos} {e a : Expr} {fe fa : M Ent}
theorem ds_nil : DSs X c W [] fNx := pss_weak pss_nil fun D σ H h => by
  obtain ⟨G, ρ, env, h⟩ := h
  exact h G H σ (.refl env)
theorem ds_cons (h1 : DS X c W st f) (h2 : DSs X c W rest g) : DSs X c W (st :: rest) (sq f g) := pss_weak (pss_cons h1 h2) w_sq
theorem ds_one (h1 : DS X c W st f) : DSs X c W [st] f := pss_one h1
theorem ds_pass : DS X c W (.Pass pos) fNx := ps_weak ps_pass fun D σ H h => by
  obtain ⟨G, ρ, env, h⟩ := h
  exact h G H σ (.refl env)
theorem ds_doc {x : Str} {j : Nat} {pos' : Pos} : DS X c W (.Expr (.Constant (.str x) j pos) pos') fNx := ps_weak ps_doc fun D σ H h => by
  obtain ⟨G, ρ, env, h⟩ := h
  exact h G H σ (.refl env)
theorem ds_break : DS X c W (.Break pos) (ret .bk) := ps_weak ps_break fun D σ H h => by
  obtain ⟨G, ρ, env, h⟩ := h
  exact h G H σ (.refl env)
theorem ds_continue : DS X c W (.Continue pos) (ret .ct) := ps_weak ps_continue fun D σ H h => by
  obtain ⟨G, ρ, env, h⟩ := h
  exact h G H σ (.refl env)
def fDrop (f : M Ent) : S := bnd f fun _ => ret .nx
theorem ds_expr (he : DE X c W e fe) (hs : swapsWith e none pos.line X.env = pure false := by rfl) : DS X c W (.Expr e pos) (fDrop fe) := ps_weak (ps_expr he hs) fun D σ H h => by
  obtain ⟨G, ρ, env, h⟩ := h
  exact ⟨G, ρ, env, wpM_mono (wpM_bnd.mp h) (fun x ρ1 h1 v G1 H1 s1 e1 _ => h1 G1 H1 σ s1) fun _ _ x => x⟩
def fRet (f : M Ent) : S := bnd f fun x => ret (.rt x)
theorem ds_ret (he : DE X c W e fe) : DS X c W (.Return (some e) pos) (fRet fe) := ps_weak (ps_ret he) fun D σ H h => by
  obtain ⟨G, ρ, env, h⟩ := h
  exact ⟨G, ρ, env, wpM_mono (wpM_bnd.mp h) (fun x ρ1 h1 v G1 H1 s1 e1 f1 => h1 v G1 H1 σ s1 e1 f1) fun _ _ x => x⟩
def fIf (p : M Bool) (f g : S) : S := bnd p fun b => if b = true then f else g
theorem ds_if {ta tb : List Stmt} {p : M Bool} (hc : DT X c W e p) (ha : DSs X c W ta f) (hb : DSs X c W tb g) : DS X c W (.If e ta tb pos) (fIf p f g) := ps_weak (ps_if hc ha hb) fun D σ H h => by
  obtain ⟨G, ρ, env, h⟩ := h
  refine ⟨G, ρ, env, wpM_mono (wpM_bnd.mp h) (fun b ρ1 h1 G1 H1 s1 => ?_) fun _ _ x => x⟩
  cases b with
  | true => exact ⟨G1, ρ1, s1.env, wpM_mono h1 (fun _ _ k => k.back s1) fun _ _ x => x.back s1⟩
  | false => exact ⟨G1, ρ1, s1.env, wpM_mono h1 (fun _ _ k => k.back s1) fun _ _ x => x.back s1⟩

/-! ### names stored -/
def pinned (ρ : DEnv) (i : Nat) : Bool := match ρ[i]? with
  | some (some (.own _ true)) => true
  | _ => false
def setE (i : Nat) (e : Ent) (ρ : DEnv) : Option DEnv := if pinned ρ i = true then none else match e with
  | .sh d => some (ρ.set i (some (.sh d)))
  | .own p _ => some (ρ.set i (some (.own p false)))
  | .lnk _ => none
theorem not_pinned {ρ : DEnv} {i : Nat} (h : ¬ pinned ρ i = true) (p : PyData) : ρ[i]? ≠ some (some (.own p true)) := fun e => by
  unfold pinned at h
  rw [e] at h
  exact h rfl
theorem get_set {α : Type} {l : List α} {i j : Nat} {x y : α} (h : (l.set i x)[j]? = some y) : (j = i ∧ i < l.length ∧ y = x) ∨ (j ≠ i ∧ l[j]? = some y) := by
  by_cases e : i = j
  · subst e
    rw [List.getElem?_set_self'] at h
    cases q : l[i]? with
    | none =>
      rw [q] at h
      cases h
    | some z =>
      rw [q] at h
      refine .inl ⟨rfl, ?_, (Option.some.inj h).symm⟩
      exact (List.getElem?_eq_some_iff.mp q).1
  · rw [List.getElem?_set_ne e] at h
    exact .inr ⟨Ne.symm e, h⟩
/-- the state behind a store at a name -/
theorem Stp.set {G H G1 H1 : Hp} {σ σ1 : St} {ρ ρ1 ρ2 : DEnv} {v : V} {x : Ent} {i : Nat} (s : Stp K c G H σ ρ G1 H1 σ1 ρ1) (ex : EntOk K c G1 H1 σ1 ρ1 v x) (fx : Frs H v x) (hs : setE i x ρ1 = some ρ2) : Stp K c G H σ ρ G1 H1 (σ1.set i (some v)) ρ2 := by
  unfold setE at hs
  split at hs
  · cases hs
  rename_i np
  have np := not_pinned np
  have len := s.env.len
  have key : ∀ y : Ent, (∀ d, y = .sh d → RpD K c G1 v d) → (∀ p b, y = .own p b → b = false ∧ ∃ a, v = .ref a ∧ G1 a = none ∧ OwnAt K G1 H1 a p ∧ ¬ Ow σ1 ρ1 a ∧ H a = none) → (∀ j, y ≠ .lnk j) → Stp K c G H σ ρ G1 H1 (σ1.set i (some v)) (ρ1.set i (some y)) := by
    intro y h1 h2 h3
    refine ⟨⟨s.env.le, by rw [List.length_set, List.length_set]; exact len, fun j d h => ?_, fun j p b h => ?_, fun j k h => ?_, fun j k a p q b d hj hk ej ek => ?_⟩, s.sh, s.keep, fun p h => ?_, s.dom, fun j p h => ?_⟩
    · rcases get_set h with ⟨rfl, hl, e⟩ | ⟨ne, e⟩
      · exact ⟨v, by rw [List.getElem?_set_self (by omega)], h1 d (Option.some.inj e).symm⟩
      · obtain ⟨w, ew, r⟩ := s.env.sh j d e
        exact ⟨w, by rw [List.getElem?_set_ne (Ne.symm ne)]; exact ew, r⟩
    · rcases get_set h with ⟨rfl, hl, e⟩ | ⟨ne, e⟩
      · obtain ⟨_, a, rfl, k1, k2, _⟩ := h2 p b (Option.some.inj e).symm
        exact ⟨a, by rw [List.getElem?_set_self (by omega)], k1, k2⟩
      · obtain ⟨w, ew, r⟩ := s.env.own j p b e
        exact ⟨w, by rw [List.getElem?_set_ne (Ne.symm ne)]; exact ew, r⟩
    · rcases get_set h with ⟨rfl, hl, e⟩ | ⟨ne, e⟩
      · exact h3 k (Option.some.inj e).symm
      · exact s.env.nol j k e
    · rcases get_set hj with ⟨rfl, hl, e⟩ | ⟨ne, e⟩
      · rcases get_set hk with ⟨rfl, _, _⟩ | ⟨ne', e'⟩
        · rfl
        · obtain ⟨_, a', rfl, _, _, k3, _⟩ := h2 p b (Option.some.inj e).symm
          rw [List.getElem?_set_self (by omega)] at ej
          cases ej
          rw [List.getElem?_set_ne (Ne.symm ne')] at ek
          exact (k3 ⟨k, q, d, e', ek⟩).elim
      · rw [List.getElem?_set_ne (Ne.symm ne)] at ej
        rcases get_set hk with ⟨rfl, hl, e'⟩ | ⟨ne', e'⟩
        · obtain ⟨_, a', rfl, _, _, k3, _⟩ := h2 q d (Option.some.inj e').symm
          rw [List.getElem?_set_self (by omega)] at ek
          cases ek
          exact (k3 ⟨j, p, b, e, ej⟩).elim
        · rw [List.getElem?_set_ne (Ne.symm ne')] at ek
          exact s.env.inj j k a p q b d e e' ej ek
    · obtain ⟨j, q, b, hj, ej⟩ := h
      rcases get_set hj with ⟨rfl, hl, e⟩ | ⟨ne, e⟩
      · obtain ⟨_, a', rfl, _, _, _, k4⟩ := h2 q b (Option.some.inj e).symm
        rw [List.getElem?_set_self (by omega)] at ej
        cases ej
        exact .inr k4
      · rw [List.getElem?_set_ne (Ne.symm ne)] at ej
        exact s.own p ⟨j, q, b, e, ej⟩
    · obtain ⟨⟨q, hq⟩, e1⟩ := s.pin j p h
      have ne : i ≠ j := fun z => by
        subst z
        exact np q hq
      rw [List.getElem?_set_ne ne, List.getElem?_set_ne ne]
      exact ⟨⟨q, hq⟩, e1⟩
  cases x with
  | sh d =>
    cases hs
    exact key _ (fun d' e => by cases e; exact ex) (fun p b e => nomatch e) fun j e => nomatch e
  | own p b =>
    cases hs
    obtain ⟨a, rfl, k1, k2, k3⟩ := ex
    exact key _ (fun d' e => nomatch e) (fun q d e => by cases e; exact ⟨rfl, a, rfl, k1, k2, k3, fx a rfl⟩) fun j e => nomatch e
  | lnk j => cases hs
def fSet (i : Nat) (f : M Ent) : S := bnd f fun x ρ => match setE i x ρ with
  | some ρ' => some (.ok .nx ρ')
  | none => none
theorem w_set {i : Nat} {f : M Ent} (D : Ends) (σ : St) (H : Hp) (h : tS X.K c W (fSet i f) D σ H) : tAsg (tD X.K c W f) (gName i) D σ H := by
  obtain ⟨G, ρ, env, h⟩ := h
  refine ⟨G, ρ, env, wpM_mono (wpM_bnd.mp h) (fun x ρ1 h1 v G1 H1 s1 e1 f1 => ?_) fun _ _ x => x⟩
  try dsimp only at h1
  split at h1
  · rename_i ρ2 hs
    exact h1 G1 H1 _ (s1.set e1 f1 hs)
  · exact h1.elim
theorem ds_set (i : Nat) {x : Str} {pos' : Pos} (hN : X.N.Nodup) (hi : X.N[i]? = some x) (hx : Loc X.env.scope x) (he : DE X c W e fe) (hs : swapsWith e (some (.Name x pos')) pos.line X.env = pure false := by rfl) (hf : X.fn x = true ∨ X.env.scope.names.lookup x = some .local := by first | exact .inl rfl | exact .inr rfl | assumption) :
    DS X c W (.Assign [.Name x pos'] e pos) (fSet i fe) := ps_weak (ps_set hN hi hx he hs hf) w_set

/-! ### targets -/
def Agree (vs : List Nat) (σ σ' : St) : Prop := σ'.length = σ.length ∧ ∀ j, j ∉ vs → σ'[j]? = σ[j]?
abbrev Tgt := PyData → DEnv → Option DEnv
abbrev Tgts := List PyData → DEnv → Option DEnv
def tDG (K : PySem.W.Frag) (c : Nat → Addr) (vs : List Nat) (g : Tgt) : TG := fun v σ H Q => ∃ G ρ d, EnvOk K c G H σ ρ ∧ Rp K G v d ∧ ∃ ρ', g d ρ = some ρ' ∧ ∀ G' H' σ', Stp K c G H σ ρ G' H' σ' ρ' → Agree vs σ σ' → Q σ' H'
def tDGs (K : PySem.W.Frag) (c : Nat → Addr) (vs : List Nat) (g : Tgts) : TGs := fun us σ H Q => ∃ G ρ ds, EnvOk K c G H σ ρ ∧ RpL K G us ds ∧ ∃ ρ', g ds ρ = some ρ' ∧ ∀ G' H' σ', Stp K c G H σ ρ G' H' σ' ρ' → Agree vs σ σ' → Q σ' H'
theorem pg_weak {tg : Expr} {t t' : TG} (h : PG X tg t) (w : ∀ v σ H Q, t' v σ H Q → t v σ H Q) : PG X tg t' := ⟨fun pins s σ H v u Q I r q => h.run pins s σ H v u Q I r (w v σ H Q q)⟩
theorem pgs_weak {tg : List Expr} {t t' : TGs} (h : PGs X tg t) (w : ∀ v σ H Q, t' v σ H Q → t v σ H Q) : PGs X tg t' := ⟨fun pins s σ H v u Q I r q => h.run pins s σ H v u Q I r (w v σ H Q q)⟩
def gNm (i : Nat) : Tgt := fun d ρ => setE i (py d) ρ
theorem dg_name (i : Nat) {x : Str} (hN : X.N.Nodup) (hi : X.N[i]? = some x) (hx : Loc X.env.scope x) (hf : X.fn x = true ∨ X.env.scope.names.lookup x = some .local := by first | exact .inl rfl | exact .inr rfl | assumption) : PG X (.Name x pos) (tDG X.K c [i] (gNm i)) := pg_weak (pg_name hN hi hx hf) fun v σ H Q h => by
  obtain ⟨G, ρ, d, env, r, ρ', hg, q⟩ := h
  refine q G H _ ((Stp.refl env).set (x := py d) (by simp only [EntOk, RpD]; exact r) trivial hg) ⟨by rw [List.length_set], fun j hj => ?_⟩
  exact List.getElem?_set_ne (fun z => hj (by simp [z]))
def gsNil : Tgts := fun ds ρ => match ds with
  | [] => some ρ
  | _ => none
def gsCons (g : Tgt) (r : Tgts) : Tgts := fun ds ρ => match ds with
  | d :: ds => match g d ρ with
    | some ρ' => r ds ρ'
    | none => none
  | [] => none
theorem Agree.refl {vs : List Nat} {σ : St} : Agree vs σ σ := ⟨rfl, fun _ _ => rfl⟩
theorem Agree.trans {vs ws : List Nat} {σ σ1 σ2 : St} (a : Agree vs σ σ1) (b : Agree ws σ1 σ2) : Agree (vs ++ ws) σ σ2 := ⟨b.1.trans a.1, fun j hj => (b.2 j fun z => hj (List.mem_append_right _ z)).trans (a.2 j fun z => hj (List.mem_append_left _ z))⟩
theorem dgs_nil : PGs X [] (tDGs X.K c [] gsNil) := pgs_weak pgs_nil fun v σ H Q h => by
  obtain ⟨G, ρ, ds, env, r, ρ', hg, q⟩ := h
  unfold gsNil at hg
  split at hg
  · cases hg
    cases v with
    | nil => exact ⟨rfl, q G H σ (.refl env) .refl⟩
    | cons _ _ => simp only [RpL] at r
  · cases hg
theorem dgs_cons {tg : Expr} {tgs : List Expr} {vs ws : List Nat} {g : Tgt} {r : Tgts} (h1 : PG X tg (tDG X.K c vs g)) (h2 : PGs X tgs (tDGs X.K c ws r)) (hs : (assignEach (tg :: tgs) X.env).map (·.2) = assign tg X.env :: (assignEach tgs X.env).map (·.2) := by rfl) : PGs X (tg :: tgs) (tDGs X.K c (vs ++ ws) (gsCons g r)) := pgs_weak (pgs_cons h1 h2 hs) fun us σ H Q h => by
  obtain ⟨G, ρ, ds, env, rr, ρ', hg, q⟩ := h
  unfold gsCons at hg
  split at hg
  · rename_i d ds
    cases us with
    | nil => simp only [RpL] at rr
    | cons u us =>
      simp only [RpL] at rr
      split at hg
      · rename_i ρ1 hd
        refine ⟨u, us, rfl, G, ρ, d, env, rr.1, ρ1, hd, fun G1 H1 σ1 s1 a1 => ?_⟩
        exact ⟨G1, ρ1, ds, s1.env, rr.2.mono s1.sh, ρ', hg, fun G2 H2 σ2 s2 a2 => q G2 H2 σ2 (s1.trans s2) (a1.trans a2)⟩
      · cases hg
  · cases hg
def gTp (n : Nat) (g : Tgts) : Tgt := fun d ρ => match d with
  | .tuple ds => if ds.length = n then g ds ρ else none
  | _ => none
theorem dg_tup {tgs : List Expr} {k : Nat} {vs : List Nat} {g : Tgts} {n : Nat} (hc : X.calm = true) (h : PGs X tgs (tDGs X.K c vs g)) (hn : (assignEach tgs X.env).length = n := by rfl) (hst : (assignEach tgs X.env).findIdx? (·.1) = none := by rfl) : PG X (.Tuple tgs k pos) (tDG X.K c vs (gTp n g)) := pg_weak (pg_tup hc h hn hst) fun v σ H Q h => by
  obtain ⟨G, ρ, d, env, r, ρ', hg, q⟩ := h
  unfold gTp at hg
  split at hg
  · rename_i ds
    split at hg
    · rename_i hl
      simp only [Rp] at r
      obtain ⟨a, us, rfl, ha, ra⟩ := r
      exact ⟨a, us, rfl, SqT.of (env.le _ _ ha), by rw [ra.length]; exact hl, G, ρ, ds, env, ra, ρ', hg, q⟩
    · cases hg
  · cases hg
/-- target = value, the value given away -/
def fAsg (f : M Ent) (g : Tgt) : S := bnd f fun x ρ => match x with
  | .sh (.py d) => match g d ρ with
    | some ρ' => some (.ok .nx ρ')
    | none => none
  | _ => none
theorem ds_asg {tg : Expr} {g : Tgt} {vs : List Nat} (he : DE X c W e fe) (hg : PG X tg (tDG X.K c vs g)) (hs : swapsWithSole [tg] e pos.line X.env = pure false := by rfl) (hw : swappedStores [tg] e X.env = pure none := by rfl)
    (h1 : (assignEach [tg] X.env).map (·.2) = [assign tg X.env] := by rfl) : DS X c W (.Assign [tg] e pos) (fAsg fe g) := ps_weak (ps_asg he hg hs hw h1) fun D σ H h => by
  obtain ⟨G, ρ, env, h⟩ := h
  refine ⟨G, ρ, env, wpM_mono (wpM_bnd.mp h) (fun x ρ1 h1 v G1 H1 s1 e1 f1 => ?_) fun _ _ x => x⟩
  try dsimp only at h1
  split at h1
  · rename_i d
    split at h1
    · rename_i ρ2 hs
      simp only [EntOk, RpD] at e1
      exact ⟨G1, ρ1, d, s1.env, e1, ρ2, hs, fun G2 H2 σ2 s2 _ => h1 G2 H2 σ2 (s1.trans s2)⟩
    · exact h1.elim
  · exact h1.elim

/-! ### what is owned, changed -/
theorem Stp.mut {G H : Hp} {σ : St} {ρ : DEnv} {i : Nat} {p : PyData} {b : Bool} {a : Addr} {vs : List V} {ds : List PyData} (env : EnvOk K c G H σ ρ) (hi : ρ[i]? = some (some (.own p b))) (ha : σ[i]? = some (some (.ref a))) (r : RpL K G vs ds) :
    Stp K c G H σ ρ G (upd H a (.lst vs)) σ (ρ.set i (some (.own (.list ds) b))) := by
  obtain ⟨a', ea, g0, h0⟩ := env.own i p b hi
  rw [ha] at ea
  cases ea
  have hlt : i < ρ.length := (List.getElem?_eq_some_iff.mp hi).1
  refine ⟨⟨sameUp env.le g0, by rw [List.length_set]; exact env.len, fun j d h => ?_, fun j q d h => ?_, fun j k h => ?_, fun j k u q q' d d' hj hk ej ek => ?_⟩, Same.refl _, fun q o k1 k2 k3 => ⟨?_, k2⟩, fun q h => ?_, fun q h => ?_, fun j q h => ?_⟩
  · rcases get_set h with ⟨rfl, hl, e⟩ | ⟨ne, e⟩
    · cases e
    · exact env.sh j d e
  · rcases get_set h with ⟨rfl, hl, e⟩ | ⟨ne, e⟩
    · cases e
      exact ⟨a, ha, g0, vs, upd_same, r⟩
    · obtain ⟨w, ew, k1, k2⟩ := env.own j q d e
      refine ⟨w, ew, k1, k2.mono (Same.refl _) (upd_ne fun z => ?_)⟩
      subst z
      exact ne (env.inj j i w q p d b e hi ew ha)
  · rcases get_set h with ⟨rfl, hl, e⟩ | ⟨ne, e⟩
    · cases e
    · exact env.nol j k e
  · have old : ∀ {j : Nat} {q : PyData} {d : Bool}, (ρ.set i (some (.own (.list ds) b)))[j]? = some (some (.own q d)) → ∃ q' d', ρ[j]? = some (some (.own q' d')) := fun h => by
      rcases get_set h with ⟨rfl, hl, e⟩ | ⟨ne, e⟩
      · exact ⟨p, b, hi⟩
      · exact ⟨_, _, e⟩
    obtain ⟨_, _, o1⟩ := old hj
    obtain ⟨_, _, o2⟩ := old hk
    exact env.inj j k u _ _ _ _ o1 o2 ej ek
  · rw [upd_ne fun z => k3 ⟨i, p, b, hi, by rw [z]; exact ha⟩]
    exact k1
  · obtain ⟨j, q', d, hj, ej⟩ := h
    rcases get_set hj with ⟨rfl, hl, e⟩ | ⟨ne, e⟩
    · exact .inl ⟨j, p, b, hi, ej⟩
    · exact .inl ⟨j, q', d, e, ej⟩
  · by_cases z : q = a
    · subst z
      rw [upd_same] at h
      cases h
    · rw [upd_ne z] at h
      exact h
  · by_cases z : i = j
    · subst z
      rw [hi] at h
      cases h
      exact ⟨⟨_, List.getElem?_set_self hlt⟩, rfl⟩
    · rw [List.getElem?_set_ne z]
      exact ⟨⟨q, h⟩, rfl⟩
/-- x.append(e), x a name's own list -/
def appE (x : Ent) (es : List Ent) : M Ent := fun ρ => match x, es with
  | .lnk i, [.sh (.py d)] => match ρ[i]? with
    | some (some (.own (.list ds) b)) => if ds.length < big then some (.ok (py .none) (ρ.set i (some (.own (.list (ds ++ [d])) b)))) else none
    | _ => none
  | _, _ => none
def fApp (f : M Ent) (m : M (List Ent)) : M Ent := bnd f fun x => bnd m fun es => appE x es
theorem own_ty {G H : Hp} {σ : St} {ρ : DEnv} {v : V} {i : Nat} {ds : List PyData} {b : Bool} (env : EnvOk K c G H σ ρ) (h : EntOk K c G H σ ρ v (.lnk i)) (e : ρ[i]? = some (some (.own (.list ds) b))) : ∃ a vs, v = .ref a ∧ σ[i]? = some (some (.ref a)) ∧ G a = none ∧ H a = some (.lst vs) ∧ RpL K G vs ds := by
  obtain ⟨a, ea, g0, vs, h1, h2⟩ := env.own i _ b e
  simp only [EntOk] at h
  rw [h] at ea
  cases ea
  exact ⟨a, vs, rfl, h, g0, h1, h2⟩
/-- the receiver is a list: known to the reading before the arguments are reckoned -/
def isLst (x : Ent) : M Unit := fun ρ => match rd ρ x with
  | some (.list _) => some (.ok () ρ)
  | _ => none
def fMet (o : Ent → List Ent → M Ent) (f : M Ent) (m : M (List Ent)) : M Ent := bnd f fun x => bnd (isLst x) fun _ => bnd m fun es => o x es
def OkMt (K : PySem.W.Frag) (c : Nat → Addr) (r : V → List V → Hp → VK → Prop) (o : Ent → List Ent → M Ent) : Prop := ∀ (G H : Hp) (σ : St) (ρ : DEnv) (v : V) (x : Ent) (vs : List V) (es : List Ent) (Q : VK) (E : Nat → DEnv → Prop), EnvOk K c G H σ ρ → EntOk K c G H σ ρ v x → EAs K c G H σ ρ vs es → wpM (o x es ρ) (KD K c G H σ ρ Q) E → r v vs H Q
variable {es : List Expr} {m : M (List Ent)} {id : String} {r : V → List V → Hp → VK → Prop} {o : Ent → List Ent → M Ent} {name : Str} {apos : Pos}
theorem w_met (ok : OkMt X.K c r o) (σ : St) (H : Hp) (Q : VK) (h : tD X.K c W (fMet o fe m) σ H Q) : tBM X.K "list" r (tD X.K c W fe) (tDA X.K c W m) σ H Q := by
  obtain ⟨G, ρ, env, h⟩ := h
  refine ⟨G, ρ, env, wpM_mono (wpM_bnd.mp h) (fun x ρ1 h1 v G1 H1 s1 e1 _ => ?_) fun _ _ x => x⟩
  have h2 := wpM_bnd.mp h1
  unfold isLst at h2
  split at h2
  · rename_i ds er
    obtain ⟨a, vs, rfl, ha, ra⟩ := rd_list s1.env e1 er
    refine ⟨.inl ⟨rfl, _, SqL.of ha⟩, G1, ρ1, s1.env, wpM_mono (wpM_bnd.mp h2) (fun es ρ2 h3 us G2 H2 s2 e2 => ?_) fun _ _ x => x.back s1⟩
    exact ok G2 H2 σ ρ2 _ x us es Q _ s2.env (e1.step s2) e2 (wpM_mono h3 (fun _ _ k => k.back (s1.trans s2)) fun _ _ x => x)
  · exact h2.elim
theorem de_met (pa : PlainAttrs "list") (slot : Slot "list" name id) (hty : typeOf (.builtin id) = pure (.type "method_descriptor")) (hm : MtR X id r) (ok : OkMt X.K c r o) (ho : DE X c W e fe) (ha : DA X c W (a :: es) m) (hbase : attributeBase e name X.env (eval e X.env) = eval e X.env := by rfl)
    (hfew : ((backTo pos (starEach (a :: es) X.env)).all (fun x => !x.1) && (backToKw pos (keywordEach [] X.env)).all (fun x => x.1.isSome)
      && decide ((a :: es).length + ([] : List Keyword).length + (if ([] : List Keyword).isEmpty then 0 else 1) < 30)) = true := by rfl)
    (hline : (apos.endLine == pos.line) = true := by rfl) (hs : starEach (a :: es) X.env = (false, eval a X.env) :: starEach es X.env := by rfl) (hplain : (backTo pos (starEach es X.env)).any (·.1) = false := by rfl) :
    DE X c W (.Call (.Attribute e name apos) (a :: es) [] pos) (fMet o fe m) := pe_weak (pe_bm pa slot hty hm ho ha hbase hfew hline hs hplain) (w_met ok)
theorem ok_append : OkMt K c rAppend appE := by
  intro G H σ ρ v x vs es Q E env hx hes h
  unfold appE at h
  split at h
  · rename_i i d
    split at h
    · rename_i ds b er
      split at h
      · rename_i hl
        obtain ⟨u, rfl, hu⟩ := hes.one
        obtain ⟨a, ws, rfl, ea, g0, ha, ra⟩ := own_ty env hx er
        simp only [EntOk, RpD] at hu
        refine ⟨a, ws, u, rfl, rfl, ha, small_big' (by rw [ra.length]; exact hl), ?_⟩
        exact h .non G _ (Stp.mut env er ea (ra.append (.one hu))) (by simp only [EntOk, RpD, Rp]) trivial
      · exact h.elim
    · exact h.elim
  · exact h.elim
theorem de_append (ho : DE X c W e fe) (ha : DA X c W (a :: es) m) (hbase : attributeBase e "append" X.env (eval e X.env) = eval e X.env := by rfl)
    (hfew : ((backTo pos (starEach (a :: es) X.env)).all (fun x => !x.1) && (backToKw pos (keywordEach [] X.env)).all (fun x => x.1.isSome)
      && decide ((a :: es).length + ([] : List Keyword).length + (if ([] : List Keyword).isEmpty then 0 else 1) < 30)) = true := by rfl)
    (hline : (apos.endLine == pos.line) = true := by rfl) (hs : starEach (a :: es) X.env = (false, eval a X.env) :: starEach es X.env := by rfl) (hplain : (backTo pos (starEach es X.env)).any (·.1) = false := by rfl) :
    DE X c W (.Call (.Attribute e "append" apos) (a :: es) [] pos) (fMet appE fe m) := de_met PySem.F.plainAttrs_list PySem.F.slot_list_append PySem.F.type_list_append mt_append ok_append ho ha hbase hfew hline hs hplain
/-- x[i] = v, x a name's own list -/
def putE (x i v : Ent) : S := fun ρ => match x, rd ρ i, v with
  | .lnk n, some (.int k), .sh (.py d) => match ρ[n]? with
    | some (some (.own (.list ds) b)) => match ixN ds.length k with
      | some j => some (.ok .nx (ρ.set n (some (.own (.list (ds.set j d)) b))))
      | none => none
    | _ => none
  | _, _, _ => none
def fPut (fv fo fi : M Ent) : S := bnd (fSh fv) fun v => bnd fo fun x => bnd fi fun i => putE x i v
theorem ds_put {ov iv : Expr} {fo fi : M Ent} {spos : Pos} (hv : DE X c W e fe) (ho : DE X c W ov fo) (hi : DE X c W iv fi)
    (has : ∀ v, assign (.Subscript ov iv spos) X.env v = (do
      let ov' ← holding [v] (eval ov X.env)
      let iv' ← holding [v, ov'] (eval iv X.env)
      standAt spos
      holding [v, ov', iv'] (setItem ov' iv' v)
      release [v, ov', iv'] []) := by intro _; rfl)
    (hs : swapsWithSole [.Subscript ov iv spos] e pos.line X.env = pure false := by rfl) (hw : swappedStores [.Subscript ov iv spos] e X.env = pure none := by rfl)
    (h1 : (assignEach [.Subscript ov iv spos] X.env).map (·.2) = [assign (.Subscript ov iv spos) X.env] := by rfl) : DS X c W (.Assign [.Subscript ov iv spos] e pos) (fPut fe fo fi) := ps_weak (ps_asg (de_sh hv) (pg_sub ho hi set_list has) hs hw h1) fun D σ H h => by
  obtain ⟨G, ρ, env, h⟩ := h
  refine ⟨G, ρ, env, wpM_mono (wpM_bnd.mp h) (fun xv ρ1 h1 v G1 H1 s1 e1 f1 => ?_) fun _ _ x => x⟩
  refine ⟨G1, ρ1, s1.env, wpM_mono (wpM_bnd.mp h1) (fun xo ρ2 h2 u G2 H2 s2 e2 f2 => ?_) fun _ _ x => x.back s1⟩
  have s12 := s1.trans s2
  refine ⟨G2, ρ2, s2.env, wpM_mono (wpM_bnd.mp h2) (fun xi ρ3 h3 w G3 H3 s3 e3 f3 => ?_) fun _ _ x => x.back s12⟩
  have s := s12.trans s3
  unfold putE at h3
  split at h3
  · rename_i n k d er
    split at h3
    · rename_i ds b eo
      split at h3
      · rename_i j ej
        obtain ⟨a, ws, rfl, ea, g0, ha, ra⟩ := own_ty s.env (e2.step s3) eo
        have ev := (e1.step s2).step s3
        simp only [EntOk, RpD] at ev
        refine ⟨a, ws, k, j, rfl, rd_int s.env e3 er, ha, by rw [ra.length]; exact ej, ?_⟩
        exact h3 G3 _ σ (s.trans (Stp.mut s.env eo ea (RpL.set ev j ra)))
      · exact h3.elim
    · exact h3.elim
  · exact h3.elim
end
end VL

set_option linter.all false
set_option autoImplicit false
set_option maxRecDepth 100000
/-! The value layer, part 5: what is walked, loops, comprehensions. -/
namespace VL
open PySem L2

section
variable {X : Cx} {c : Nat → Addr} {W : WX} {K : PySem.W.Frag}

/-- an iterator that yields the items, from any later heap on -/
def WalkOk (K : PySem.W.Frag) (J : It) (G0 : Hp) (items : List PyData) : Prop := ∀ G H, Same G0 G → Same G H →
  (∀ k, k < items.length → J.go k H) ∧ J.stop items.length H ∧
    ∀ k x H', k < items.length → J.yld k H x H' → ∃ d, items[k]? = some d ∧ ∃ G', ((G' = G ∧ H' = H) ∨ ∃ a o, H a = none ∧ G' = upd G a o ∧ H' = upd H a o) ∧ Rp K G' x d
def tDI (K : PySem.W.Frag) (c : Nat → Addr) (W : WX) (f : M (List PyData)) : TI := fun σ H R => ∃ G ρ, EnvOk K c G H σ ρ ∧ wpM (f ρ) (fun items ρ' => ∀ J G' H', Stp K c G H σ ρ G' H' σ ρ' → WalkOk K J G' items → R J H') (XD K c W G H σ ρ)
abbrev DI (X : Cx) (c : Nat → Addr) (W : WX) (tg e : Expr) (f : M (List PyData)) : Prop := PI X tg e (tDI X.K c W f)
theorem pi_weak {tg e : Expr} {t t' : TI} (h : PI X tg e t) (w : ∀ σ H R, t' σ H R → t σ H R) : PI X tg e t' := ⟨fun pins s σ H R I q => h.run pins s σ H R I (w σ H R q)⟩
theorem yld_step {G H G' H' : Hp} {σ : St} {ρ : DEnv} (env : EnvOk K c G H σ ρ) (h : (G' = G ∧ H' = H) ∨ ∃ a o, H a = none ∧ G' = upd G a o ∧ H' = upd H a o) : Stp K c G H σ ρ G' H' σ ρ := by
  rcases h with ⟨rfl, rfl⟩ | ⟨a, o, na, rfl, rfl⟩
  · exact .refl env
  · exact .newSh env na

/-- a list, a tuple or a text walked -/
def iAny (K : PySem.W.Frag) (tl : TE) : TI := fun σ H R => tl σ H fun x H1 => (∃ a, x = .ref a ∧ (∃ xs, SqL K H1 a xs) ∧ R (Itl K a) H1) ∨ (∃ a, x = .ref a ∧ (∃ xs, SqT K H1 a xs) ∧ R (Itt K a) H1) ∨ ∃ z, x = .str z ∧ R (Its z) H1
theorem pe_given {M : Model} {A : Around} {Q : Value → Shared → Prop} {E : Value → Shared → Prop} {s : Shared} {v : Value} {e : Expr} {env : Env} (h : Q v s) : wpAny M A (pure v) Q E s := wpAny_pure h
theorem pi_anyS {tg l : Expr} {tl : TE} (hl : PE X l tl) : PI X tg l (iAny X.K tl) := by
  refine ⟨fun pins s σ H R I h => ?_⟩
  refine thn (hl.run pins s σ H _ I h) fun v s1 ⟨x, H1, I1, r1, q1⟩ => ?_
  rcases q1 with ⟨a, e, ⟨xs, hq⟩, q⟩ | ⟨a, e, ⟨xs, hq⟩, q⟩ | ⟨z, e, q⟩
  · subst e
    cases r1
    obtain ⟨its, rv, p, hz⟩ := I1.list hq
    refine wpAny_pyIter_list p.isList ?_
    refine ⟨s1.heap.objs.size, [s1.heap.objs.size], _, _, H1, rfl, I1.kept (t' := s1.toks) fun b o e => Heap.get?_push_of_some _ e, turn_list a _, ⟨_, Heap.get?_push_size _ rfl, rfl, rfl⟩, fun b hb => ?_, q⟩
    have e : b = s1.heap.objs.size := by simpa using hb
    subst e
    exact I1.fpOk (Nat.le_refl _) (I1.hok.fresh (Nat.le_refl _))
  · subst e
    cases r1
    obtain ⟨its, rv, p, hz⟩ := I1.tuple hq
    refine wpAny_pyIter_tuple (show s1.heap.IsTuple a its.toArray from p) ?_
    refine ⟨s1.heap.objs.size, [s1.heap.objs.size], _, _, H1, rfl, I1.kept (t' := s1.toks) fun b o e => Heap.get?_push_of_some _ e, turn_tuple a _, ⟨_, Heap.get?_push_size _ rfl, rfl, rfl⟩, fun b hb => ?_, q⟩
    have e : b = s1.heap.objs.size := by simpa using hb
    subst e
    exact I1.fpOk (Nat.le_refl _) (I1.hok.fresh (Nat.le_refl _))
  · subst e
    obtain ⟨t, rfl⟩ := r1
    cases ha : z.cps.all (· < 128)
    · exact wpAny_pyIter_wide ha (pi_one (tk := s1.toks) I1 _ (turn_str _ z t "str_iterator" (.inr rfl)) ⟨_, Heap.get?_push_size _ rfl, rfl, rfl⟩ q)
    · exact wpAny_pyIter_ascii ha (pi_one (tk := s1.toks) I1 _ (turn_str _ z t "str_ascii_iterator" (.inl rfl)) ⟨_, Heap.get?_push_size _ rfl, rfl, rfl⟩ q)
theorem walk_list {G0 : Hp} {a : Addr} {vs : List V} {ds : List PyData} (h : G0 a = some (.lst vs)) (r : RpL K G0 vs ds) : WalkOk K (Itl K a) G0 ds := by
  intro G H sg le
  have hq : SqL K H a vs := SqL.of (le _ _ (sg _ _ h))
  have hl := r.length
  refine ⟨fun k hk => ⟨vs, vs[k], hq, List.getElem?_eq_getElem (by omega)⟩, ⟨vs, hq, by omega⟩, fun k x H' hk y => ?_⟩
  obtain ⟨rfl, y⟩ := y
  obtain ⟨d, hd, rd⟩ := r.getV (y vs hq)
  exact ⟨d, hd, G, .inl ⟨rfl, rfl⟩, rd.mono sg⟩
theorem walk_tup {G0 : Hp} {a : Addr} {vs : List V} {ds : List PyData} (h : G0 a = some (.tup vs)) (r : RpL K G0 vs ds) : WalkOk K (Itt K a) G0 ds := by
  intro G H sg le
  have hq : SqT K H a vs := SqT.of (le _ _ (sg _ _ h))
  have hl := r.length
  refine ⟨fun k hk => ⟨vs, vs[k], hq, List.getElem?_eq_getElem (by omega)⟩, ⟨vs, hq, by omega⟩, fun k x H' hk y => ?_⟩
  obtain ⟨rfl, y⟩ := y
  obtain ⟨d, hd, rd⟩ := r.getV (y vs hq)
  exact ⟨d, hd, G, .inl ⟨rfl, rfl⟩, rd.mono sg⟩
def signs (s : Str) : List PyData := s.cps.toList.map fun n => .str ⟨#[n]⟩
theorem walk_str {G0 : Hp} {s : Str} : WalkOk K (Its s) G0 (signs s) := by
  intro G H sg le
  have hl : (signs s).length = s.cps.size := by simp [signs]
  refine ⟨fun k hk => by show k < s.cps.size; omega, by show s.cps.size ≤ _; omega, fun k x H' hk y => ?_⟩
  obtain ⟨rfl, n, hn, rfl⟩ := y
  refine ⟨.str ⟨#[n]⟩, ?_, G, .inl ⟨rfl, rfl⟩, by simp only [Rp]⟩
  simp only [signs, List.getElem?_map, Array.getElem?_toList, hn, Option.map_some]
variable {tg l a b d : Expr} {f : M Ent} {m : M (List Ent)} {pos p : Pos}
def items : Ent → M (List PyData)
  | .sh (.py (.list ds)) => ret ds
  | .sh (.py (.tuple ds)) => ret ds
  | .sh (.py (.str s)) => ret (signs s)
  | _ => fun _ => none
def fItems (f : M Ent) : M (List PyData) := bnd (fSh f) items
theorem di_any (h : DE X c W l f) : DI X c W tg l (fItems f) := pi_weak (pi_anyS (de_sh h)) fun σ H R h => by
  obtain ⟨G, ρ, env, h⟩ := h
  refine ⟨G, ρ, env, wpM_mono (wpM_bnd.mp h) (fun x ρ1 h1 v G1 H1 s1 e1 _ => ?_) fun _ _ x => x⟩
  unfold items at h1
  split at h1
  · rename_i ds
    simp only [EntOk, RpD, Rp] at e1
    obtain ⟨a, vs, rfl, ha, ra⟩ := e1
    exact .inl ⟨a, rfl, ⟨vs, SqL.of (s1.env.le _ _ ha)⟩, h1 _ G1 H1 s1 (walk_list ha ra)⟩
  · rename_i ds
    simp only [EntOk, RpD, Rp] at e1
    obtain ⟨a, vs, rfl, ha, ra⟩ := e1
    exact .inr (.inl ⟨a, rfl, ⟨vs, SqT.of (s1.env.le _ _ ha)⟩, h1 _ G1 H1 s1 (walk_tup ha ra)⟩)
  · rename_i z
    simp only [EntOk, RpD, Rp] at e1
    exact .inr (.inr ⟨_, e1, h1 _ G1 H1 s1 walk_str⟩)
  · exact h1.elim
/-! ### ranges -/
def intsD (lo step : Int) (n : Nat) : List PyData := (List.range n).map fun i => .int (lo + (i : Nat) * step)
theorem intsD_get {lo step : Int} {n k : Nat} (h : k < n) : (intsD lo step n)[k]? = some (.int (lo + (k : Nat) * step)) := by
  simp [intsD, h]
theorem intsD_length {lo step : Int} {n : Nat} : (intsD lo step n).length = n := by simp [intsD]
theorem walk_rng {G0 : Hp} {lo : Int} {n : Nat} : WalkOk K (Itr lo n) G0 (intsD lo 1 n) := by
  intro G H sg le
  refine ⟨fun k hk => by rw [intsD_length] at hk; exact hk, by rw [intsD_length]; exact Nat.le_refl n, fun k x H' hk y => ?_⟩
  rw [intsD_length] at hk
  obtain ⟨rfl, rfl⟩ := y
  exact ⟨_, intsD_get hk, G, .inl ⟨rfl, rfl⟩, by simp only [Rp, Int.mul_one]⟩
theorem walk_rngC {G0 : Hp} {lo step : Int} {n : Nat} : WalkOk K (Itc lo step n) G0 (intsD lo step n) := by
  intro G H sg le
  refine ⟨fun k hk => by rw [intsD_length] at hk; exact hk, by rw [intsD_length]; exact Nat.le_refl n, fun k x H' hk y => ?_⟩
  rw [intsD_length] at hk
  obtain ⟨rfl, rfl⟩ := y
  exact ⟨_, intsD_get hk, G, .inl ⟨rfl, rfl⟩, by simp only [Rp]⟩
def inRng (i : Int) : Bool := decide (-1000000000000 ≤ i ∧ i ≤ 1000000000000)
def rng1 (es : List Ent) : M (List PyData) := fun ρ => match es with
  | [.sh (.py (.int j))] => if inRng j = true then some (.ok (intsD 0 1 j.toNat) ρ) else none
  | _ => none
def rng2 (es : List Ent) : M (List PyData) := fun ρ => match es with
  | [.sh (.py (.int i)), .sh (.py (.int j))] => if (inRng i && inRng j) = true then some (.ok (intsD i 1 (j - i).toNat) ρ) else none
  | _ => none
def rng3 (es : List Ent) : M (List PyData) := fun ρ => match es with
  | [.sh (.py (.int i)), .sh (.py (.int j)), .sh (.py (.int (-1)))] => if (inRng i && inRng j) = true then some (.ok (intsD i (-1) (i - j).toNat) ρ) else none
  | _ => none
theorem inRng_ok {i : Int} (h : inRng i = true) : -(2 ^ 62) ≤ i ∧ i < 2 ^ 62 := by
  unfold inRng at h
  have := of_decide_eq_true h
  omega
theorem di_range1 (hg : Gl X "range") (hm : X.mg "range" = none) (ha : DA X c W [a] m) (hs : starEach [a] X.env = [(false, eval a X.env)] := by rfl) : DI X c W tg (.Call (.Name "range" p) [a] [] pos) (bnd m rng1) := pi_weak (pi_range1 hg hm ha hs) fun σ H R h => by
  obtain ⟨G, ρ, env, h⟩ := h
  refine ⟨G, ρ, env, wpM_mono (wpM_bnd.mp h) (fun es ρ1 h1 vs G1 H1 s1 e1 => ?_) fun _ _ x => x⟩
  unfold rng1 at h1
  split at h1
  · rename_i j
    split at h1
    · rename_i hj
      obtain ⟨v, rfl, hv⟩ := e1.one
      simp only [EntOk, RpD, Rp] at hv
      subst hv
      obtain ⟨h2, h3⟩ := inRng_ok hj
      exact ⟨j, rfl, h2, h3, h1 _ G1 H1 s1 walk_rng⟩
    · exact h1.elim
  · exact h1.elim
theorem di_range2 (hg : Gl X "range") (hm : X.mg "range" = none) (ha : DA X c W [a, b] m) (hs : starEach [a, b] X.env = [(false, eval a X.env), (false, eval b X.env)] := by rfl) (hs2 : starEach [b] X.env = [(false, eval b X.env)] := by rfl) : DI X c W tg (.Call (.Name "range" p) [a, b] [] pos) (bnd m rng2) := pi_weak (pi_range2 hg hm ha hs hs2) fun σ H R h => by
  obtain ⟨G, ρ, env, h⟩ := h
  refine ⟨G, ρ, env, wpM_mono (wpM_bnd.mp h) (fun es ρ1 h1 vs G1 H1 s1 e1 => ?_) fun _ _ x => x⟩
  unfold rng2 at h1
  split at h1
  · rename_i i j
    split at h1
    · rename_i hj
      obtain ⟨hi, hj⟩ := Bool.and_eq_true_iff.mp hj
      obtain ⟨v, u, rfl, hv, hu⟩ := e1.two
      simp only [EntOk, RpD, Rp] at hv hu
      subst hv hu
      obtain ⟨h2, h3⟩ := inRng_ok hi
      obtain ⟨h4, h5⟩ := inRng_ok hj
      exact ⟨i, j, rfl, ⟨h2, h3, h4, h5⟩, h1 _ G1 H1 s1 walk_rng⟩
    · exact h1.elim
  · exact h1.elim
theorem di_range3 (hg : Gl X "range") (hm : X.mg "range" = none) (ha : DA X c W [a, b, d] m) (hs : starEach [a, b, d] X.env = (false, eval a X.env) :: starEach [b, d] X.env := by rfl) (hpl : (backTo pos (starEach [b, d] X.env)).any (·.1) = false := by rfl) : DI X c W tg (.Call (.Name "range" p) [a, b, d] [] pos) (bnd m rng3) := pi_weak (pi_range3 hg hm ha hs hpl) fun σ H R h => by
  obtain ⟨G, ρ, env, h⟩ := h
  refine ⟨G, ρ, env, wpM_mono (wpM_bnd.mp h) (fun es ρ1 h1 vs G1 H1 s1 e1 => ?_) fun _ _ x => x⟩
  unfold rng3 at h1
  split at h1
  · rename_i i j
    split at h1
    · rename_i hj
      obtain ⟨hi, hj⟩ := Bool.and_eq_true_iff.mp hj
      cases e1 with
      | cons hv _ e1 =>
        obtain ⟨u, w, rfl, hu, hw⟩ := e1.two
        simp only [EntOk, RpD, Rp] at hv hu hw
        subst hv hu hw
        obtain ⟨h2, h3⟩ := inRng_ok hi
        obtain ⟨h4, h5⟩ := inRng_ok hj
        exact ⟨i, j, -1, _, rfl, RgC.neg h2 h3 h4 h5, h1 _ G1 H1 s1 walk_rngC⟩
    · exact h1.elim
  · exact h1.elim
/-! ### zip, enumerate -/
def pairs (xs ys : List PyData) : List PyData := List.zipWith (fun x y => .tuple [x, y]) xs ys
theorem walk_zip {G0 : Hp} {a b : Addr} {vs ws : List V} {xs ys : List PyData} (h : G0 a = some (.lst vs)) (r : RpL K G0 vs xs) (h' : G0 b = some (.lst ws)) (r' : RpL K G0 ws ys) : WalkOk K (Itz K a b) G0 (pairs xs ys) := by
  intro G H sg le
  have hq : SqL K H a vs := SqL.of (le _ _ (sg _ _ h))
  have hq' : SqL K H b ws := SqL.of (le _ _ (sg _ _ h'))
  have hl := r.length
  have hl' := r'.length
  have hp : (pairs xs ys).length = min xs.length ys.length := by simp [pairs]
  refine ⟨fun k hk => ⟨vs, ws, vs[k]'(by omega), ws[k]'(by omega), hq, hq', List.getElem?_eq_getElem (by omega), List.getElem?_eq_getElem (by omega)⟩, ⟨vs, ws, hq, hq', by omega⟩, fun k x H' hk y => ?_⟩
  obtain ⟨T, u, w, rfl, nT, rfl, y1, y2⟩ := y
  obtain ⟨d, hd, rd⟩ := r.getV (y1 vs hq)
  obtain ⟨e, he, re⟩ := r'.getV (y2 ws hq')
  refine ⟨.tuple [d, e], by simp [pairs, List.getElem?_zipWith, hd, he], upd G T (.tup [u, w]), .inr ⟨T, _, nT, rfl, rfl⟩, ?_⟩
  have sG : Same G (upd G T (.tup [u, w])) := same_up (Same.free le nT)
  simp only [Rp]
  refine ⟨T, [u, w], rfl, upd_same, ?_⟩
  simp only [RpL]
  exact ⟨(rd.mono sg).mono sG, (re.mono sg).mono sG, trivial⟩
def zipE (es : List Ent) : M (List PyData) := fun ρ => match es with
  | [.sh (.py (.list xs)), .sh (.py (.list ys))] => some (.ok (pairs xs ys) ρ)
  | _ => none
theorem di_zip {elts : List Expr} {kk : Nat} {tpos : Pos} (hg : Gl X "zip") (hm : X.mg "zip" = none) (ha : DA X c W [a, b] m) (hs : starEach [a, b] X.env = (false, eval a X.env) :: starEach [b] X.env := by rfl) (hpl : (backTo pos (starEach [b] X.env)).any (·.1) = false := by rfl) :
    DI X c W (.Tuple elts kk tpos) (.Call (.Name "zip" p) [a, b] [] pos) (bnd m zipE) := pi_weak (pi_zip hg hm ha hs hpl) fun σ H R h => by
  obtain ⟨G, ρ, env, h⟩ := h
  refine ⟨G, ρ, env, wpM_mono (wpM_bnd.mp h) (fun es ρ1 h1 vs G1 H1 s1 e1 => ?_) fun _ _ x => x⟩
  unfold zipE at h1
  split at h1
  · rename_i xs ys
    obtain ⟨v, u, rfl, hv, hu⟩ := e1.two
    simp only [EntOk, RpD, Rp] at hv hu
    obtain ⟨a, vs, rfl, ha, ra⟩ := hv
    obtain ⟨b, ws, rfl, hb, rb⟩ := hu
    exact ⟨a, b, vs, ws, rfl, SqL.of (s1.env.le _ _ ha), SqL.of (s1.env.le _ _ hb), h1 _ G1 H1 s1 (walk_zip ha ra hb rb)⟩
  · exact h1.elim
def enumD (xs : List PyData) : List PyData := xs.mapIdx fun i x => .tuple [.int (i : Nat), x]
theorem walk_enum {G0 : Hp} {a : Addr} {vs : List V} {xs : List PyData} (h : G0 a = some (.lst vs)) (r : RpL K G0 vs xs) : WalkOk K (Ite K a) G0 (enumD xs) := by
  intro G H sg le
  have hq : SqL K H a vs := SqL.of (le _ _ (sg _ _ h))
  have hl := r.length
  have hp : (enumD xs).length = xs.length := by simp [enumD]
  refine ⟨fun k hk => ⟨vs, vs[k]'(by omega), hq, List.getElem?_eq_getElem (by omega)⟩, ⟨vs, hq, by omega⟩, fun k x H' hk y => ?_⟩
  obtain ⟨T, u, rfl, nT, rfl, y1⟩ := y
  obtain ⟨d, hd, rd⟩ := r.getV (y1 vs hq)
  refine ⟨.tuple [.int (k : Nat), d], by simp [enumD, List.getElem?_mapIdx, hd], upd G T (.tup [.int (k : Nat), u]), .inr ⟨T, _, nT, rfl, rfl⟩, ?_⟩
  have sG : Same G (upd G T (.tup [.int (k : Nat), u])) := same_up (Same.free le nT)
  simp only [Rp]
  refine ⟨T, [.int (k : Nat), u], rfl, upd_same, ?_⟩
  simp only [RpL, Rp]
  exact ⟨trivial, (rd.mono sg).mono sG, trivial⟩
def enumE (es : List Ent) : M (List PyData) := fun ρ => match es with
  | [.sh (.py (.list xs))] => some (.ok (enumD xs) ρ)
  | _ => none
theorem di_enum {elts : List Expr} {kk : Nat} {tpos : Pos} (hg : Gl X "enumerate") (hm : X.mg "enumerate" = none) (ha : DA X c W [a] m) (hs : starEach [a] X.env = [(false, eval a X.env)] := by rfl) :
    DI X c W (.Tuple elts kk tpos) (.Call (.Name "enumerate" p) [a] [] pos) (bnd m enumE) := pi_weak (pi_enum hg hm ha hs) fun σ H R h => by
  obtain ⟨G, ρ, env, h⟩ := h
  refine ⟨G, ρ, env, wpM_mono (wpM_bnd.mp h) (fun es ρ1 h1 vs G1 H1 s1 e1 => ?_) fun _ _ x => x⟩
  unfold enumE at h1
  split at h1
  · rename_i xs
    obtain ⟨v, rfl, hv⟩ := e1.one
    simp only [EntOk, RpD, Rp] at hv
    obtain ⟨a, vs, rfl, ha, ra⟩ := hv
    exact ⟨a, vs, rfl, SqL.of (s1.env.le _ _ ha), h1 _ G1 H1 s1 (walk_enum ha ra)⟩
  · exact h1.elim

/-! ### for -/
def forGo (tg : Tgt) (body : S) : List PyData → S
  | [], ρ => some (.ok .nx ρ)
  | d :: ds, ρ => match tg d ρ with
    | none => none
    | some ρ1 => match body ρ1 with
      | none => none
      | some (.ok .nx ρ2) => forGo tg body ds ρ2
      | some (.ok .ct ρ2) => forGo tg body ds ρ2
      | some (.ok .bk ρ2) => some (.ok .nx ρ2)
      | some (.ok (.rt e) ρ2) => some (.ok (.rt e) ρ2)
      | some (.exc k ρ2) => some (.exc k ρ2)
def fFor (src : M (List PyData)) (tg : Tgt) (body : S) : S := bnd src fun its => forGo tg body its
theorem ds_for {iter : Expr} {body : List Stmt} {src : M (List PyData)} {vs : List Nat} {g : Tgt} {fb : S} (hp : PassesOwn (model X.prog X.w) X.A X.env X.xe) (hc : X.calm = true) (hi : DI X c W tg iter src) (hg : PG X tg (tDG X.K c vs g)) (hb : DSs X c W body fb)
    (hs : ∀ x, foldedSetIterable iter X.env x = pure x := by intro _; rfl) : DS X c W (.For tg iter body [] pos) (fFor src g fb) := ps_weak (ps_for hp hc hi hg hb hs) fun D σ H h => by
  obtain ⟨G, ρ, env, h⟩ := h
  refine ⟨G, ρ, env, wpM_mono (wpM_bnd.mp h) (fun its ρ1 h1 J G1 H1 s1 wk => ?_) fun _ _ x => x⟩
  refine ⟨fun i m σ' H' => m = its.length - i ∧ i ≤ its.length ∧ ∃ G' ρ', Stp X.K c G H σ ρ G' H' σ' ρ' ∧ Same G1 G' ∧ wpM (forGo g fb (its.drop i) ρ') (FD X.K c G H σ ρ D) (XD X.K c W G H σ ρ),
    ⟨_, rfl, Nat.zero_le _, G1, ρ1, s1, Same.refl _, by rw [List.drop_zero]; exact h1⟩, ?_⟩
  rintro i m σ2 H2 ⟨rfl, hi, G2, ρ2, s2, sg, w2⟩
  obtain ⟨k1, k2, k3⟩ := wk G2 H2 sg s2.env.le
  by_cases hlt : i < its.length
  · rw [List.drop_eq_getElem_cons hlt] at w2
    refine .inr ⟨k1 i hlt, fun σ' H' => (its.length - (i + 1) = its.length - (i + 1)) ∧ i + 1 ≤ its.length ∧ ∃ G' ρ', Stp X.K c G H σ ρ G' H' σ' ρ' ∧ Same G1 G' ∧ wpM (forGo g fb (its.drop (i + 1)) ρ') (FD X.K c G H σ ρ D) (XD X.K c W G H σ ρ), fun σ' H' w => ⟨_, by omega, w⟩, fun x H3 y => ?_⟩
    obtain ⟨d, hd, G3, hy, rd⟩ := k3 i x H3 hlt y
    rw [List.getElem?_eq_getElem hlt] at hd
    cases hd
    have s3 := yld_step s2.env hy
    unfold forGo at w2
    split at w2
    · exact w2.elim
    rename_i ρ3 e3
    refine ⟨G3, ρ2, _, s3.env, rd, ρ3, e3, fun G4 H4 σ4 s4 _ => ?_⟩
    have s := (s2.trans s3).trans s4
    refine ⟨G4, ρ3, s.env, ?_⟩
    have sg4 := (sg.trans s3.sh).trans s4.sh
    split at w2
    · exact w2.elim
    · rename_i ρ5 e5
      rw [e5]
      exact fun G5 H5 σ5 s5 => ⟨rfl, hlt, G5, ρ5, s.trans s5, sg4.trans s5.sh, w2⟩
    · rename_i ρ5 e5
      rw [e5]
      exact fun G5 H5 σ5 s5 => ⟨rfl, hlt, G5, ρ5, s.trans s5, sg4.trans s5.sh, w2⟩
    · rename_i ρ5 e5
      rw [e5]
      exact FD.back (f := .nx) w2 s
    · rename_i e ρ5 e5
      rw [e5]
      exact FD.back (f := .rt e) w2 s
    · rename_i k ρ5 e5
      rw [e5]
      exact XD.back w2 s
  · have e : i = its.length := by omega
    subst e
    rw [List.drop_length] at w2
    exact .inl ⟨k2, w2 G2 H2 σ2 s2⟩
/-! ### while -/
def fWhile (p : M Bool) (body : S) : Nat → S
  | 0 => fun _ => none
  | n + 1 => bnd p fun b => if b = true then bnd body fun fl => match fl with
      | .nx => fWhile p body n
      | .ct => fWhile p body n
      | .bk => ret .nx
      | .rt e => ret (.rt e)
    else ret .nx
theorem ds_while (n : Nat) {t : Expr} {body : List Stmt} {q : M Bool} {fb : S} (hp : PassesOwn (model X.prog X.w) X.A X.env X.xe) (hc : DT X c W t q) (hb : DSs X c W body fb) : DS X c W (.While t body [] pos) (fWhile q fb n) := ps_weak (ps_while hp hc hb) fun D σ H h => by
  obtain ⟨G, ρ, env, h⟩ := h
  refine ⟨fun m σ' H' => ∃ G' ρ', Stp X.K c G H σ ρ G' H' σ' ρ' ∧ wpM (fWhile q fb m ρ') (FD X.K c G H σ ρ D) (XD X.K c W G H σ ρ), ⟨n, G, ρ, .refl env, h⟩, ?_⟩
  rintro m σ1 H1 ⟨G1, ρ1, s1, w1⟩
  cases m with
  | zero => exact w1.elim
  | succ m =>
    refine ⟨G1, ρ1, s1.env, wpM_mono (wpM_bnd.mp w1) (fun b ρ2 h2 G2 H2 s2 => ?_) fun _ _ x => x.back s1⟩
    have s := s1.trans s2
    cases b with
    | false => exact h2 G2 H2 σ1 s
    | true =>
      refine ⟨fun σ' H' => ∃ G' ρ', Stp X.K c G H σ ρ G' H' σ' ρ' ∧ wpM (fWhile q fb m ρ') (FD X.K c G H σ ρ D) (XD X.K c W G H σ ρ), fun σ' H' w => ⟨m, Nat.lt_succ_self m, w⟩, G2, ρ2, s.env, wpM_mono (wpM_bnd.mp h2) (fun fl ρ3 h3 => ?_) fun _ _ x => x.back s⟩
      cases fl with
      | nx => exact fun G3 H3 σ3 s3 => ⟨G3, ρ3, s.trans s3, h3⟩
      | ct => exact fun G3 H3 σ3 s3 => ⟨G3, ρ3, s.trans s3, h3⟩
      | bk => exact FD.back (f := .nx) h3 s
      | rt e => exact FD.back (f := .rt e) h3 s
end
end VL

set_option linter.all false
set_option autoImplicit false
set_option maxRecDepth 100000
/-! The value layer, part 6: comprehensions. -/
namespace VL
open PySem L2

section
variable {X : Cx} {c : Nat → Addr} {W : WX} {K : PySem.W.Frag}
abbrev W0 : WX := fun _ _ _ _ => False
def wipeE (ρ : DEnv) : List Nat → DEnv
  | [] => ρ
  | v :: vs => (wipeE ρ vs).set v none
def putBack (ρ0 ρ : DEnv) : List Nat → DEnv
  | [] => ρ
  | v :: vs => (putBack ρ0 ρ vs).set v (match ρ0[v]? with | some o => o | none => none)
def noOwn (ρ : DEnv) (vs : List Nat) : Bool := vs.all fun i => match ρ[i]? with
  | some (some (.own _ _)) => false
  | _ => true
theorem wipe_get {σ : St} {j : Nat} : ∀ {vs : List Nat}, (wipe σ vs)[j]? = if j ∈ vs then (σ[j]?).map fun _ => none else σ[j]?
  | [] => by simp [wipe]
  | v :: vs => by
    simp only [wipe, List.mem_cons]
    by_cases e : v = j
    · subst e
      rw [List.getElem?_set_self', wipe_get (vs := vs)]
      simp only [true_or, if_true]
      split <;> cases σ[v]? <;> rfl
    · rw [List.getElem?_set_ne e, wipe_get (vs := vs)]
      simp only [show ¬ j = v from Ne.symm e, false_or]
theorem wipeE_get {ρ : DEnv} {j : Nat} : ∀ {vs : List Nat}, (wipeE ρ vs)[j]? = if j ∈ vs then (ρ[j]?).map fun _ => none else ρ[j]?
  | [] => by simp [wipeE]
  | v :: vs => by
    simp only [wipeE, List.mem_cons]
    by_cases e : v = j
    · subst e
      rw [List.getElem?_set_self', wipeE_get (vs := vs)]
      simp only [true_or, if_true]
      split <;> cases ρ[v]? <;> rfl
    · rw [List.getElem?_set_ne e, wipeE_get (vs := vs)]
      simp only [show ¬ j = v from Ne.symm e, false_or]
theorem wipeE_length (ρ : DEnv) : ∀ vs : List Nat, (wipeE ρ vs).length = ρ.length
  | [] => rfl
  | v :: vs => by rw [wipeE, List.length_set, wipeE_length ρ vs]
theorem putBack_length (ρ0 ρ : DEnv) : ∀ vs : List Nat, (putBack ρ0 ρ vs).length = ρ.length
  | [] => rfl
  | v :: vs => by rw [putBack, List.length_set, putBack_length ρ0 ρ vs]
theorem putBack_get {ρ0 ρ : DEnv} (hl : ρ0.length = ρ.length) {j : Nat} : ∀ {vs : List Nat}, (putBack ρ0 ρ vs)[j]? = if j ∈ vs then ρ0[j]? else ρ[j]?
  | [] => by simp [putBack]
  | v :: vs => by
    simp only [putBack, List.mem_cons]
    by_cases e : v = j
    · subst e
      rw [List.getElem?_set_self', putBack_get hl (vs := vs)]
      simp only [true_or, if_true]
      by_cases hv : v < ρ0.length
      · have h1 : ρ0[v]? = some ρ0[v] := List.getElem?_eq_getElem hv
        have h2 : ρ[v]? = some (ρ[v]'(by omega)) := List.getElem?_eq_getElem (by omega)
        by_cases q : v ∈ vs <;> simp [h1, h2, q]
      · have h1 : ρ0[v]? = none := List.getElem?_eq_none (by omega)
        have h2 : ρ[v]? = none := List.getElem?_eq_none (by omega)
        by_cases q : v ∈ vs <;> simp [h1, h2, q]
    · rw [List.getElem?_set_ne e, putBack_get hl (vs := vs)]
      simp only [show ¬ j = v from Ne.symm e, false_or]
theorem wipe_agree {ts vs : List Nat} {σ σ' : St} (a : Agree ts σ σ') (h : ∀ i ∈ ts, i ∈ vs) : wipe σ' vs = wipe σ vs := by
  refine List.ext_getElem? fun j => ?_
  rw [wipe_get, wipe_get]
  by_cases hj : j ∈ vs
  · rw [if_pos hj, if_pos hj]
    by_cases hl : j < σ.length
    · have h1 : σ[j]? = some σ[j] := List.getElem?_eq_getElem hl
      have h2 : σ'[j]? = some (σ'[j]'(by rw [a.1]; exact hl)) := List.getElem?_eq_getElem (by rw [a.1]; exact hl)
      rw [h1, h2]
      rfl
    · have h1 : σ[j]? = none := List.getElem?_eq_none (by omega)
      have h2 : σ'[j]? = none := List.getElem?_eq_none (by rw [a.1]; omega)
      rw [h1, h2]
  · rw [if_neg hj, if_neg hj]
    exact a.2 j fun z => hj (h j z)
theorem wipe_wipe {vs : List Nat} {σ : St} : wipe (wipe σ vs) vs = wipe σ vs := by
  refine List.ext_getElem? fun j => ?_
  rw [wipe_get, wipe_get]
  by_cases hj : j ∈ vs
  · rw [if_pos hj, if_pos hj]
    cases σ[j]? <;> rfl
  · rw [if_neg hj, if_neg hj]
/-- into the block: its own names forgotten -/
theorem Stp.wipe {G H G1 H1 : Hp} {σ σ1 : St} {ρ ρ1 : DEnv} {vs : List Nat} (s : Stp K c G H σ ρ G1 H1 σ1 ρ1) (no : ∀ (i : Nat) (p : PyData), i ∈ vs → ρ[i]? ≠ some (some (.own p true))) : Stp K c G H σ ρ G1 H1 (L2.wipe σ1 vs) (wipeE ρ1 vs) := by
  have e := s.env
  have sub : ∀ {j : Nat} {x : Ent}, (wipeE ρ1 vs)[j]? = some (some x) → ρ1[j]? = some (some x) ∧ j ∉ vs := fun {j x} h => by
    rw [wipeE_get] at h
    by_cases hj : j ∈ vs
    · rw [if_pos hj] at h
      cases q : ρ1[j]? <;> rw [q] at h <;> cases h
    · rw [if_neg hj] at h
      exact ⟨h, hj⟩
  have up : ∀ {j : Nat}, j ∉ vs → (L2.wipe σ1 vs)[j]? = σ1[j]? := fun {j} hj => by rw [wipe_get, if_neg hj]
  refine ⟨⟨e.le, by rw [wipeE_length, wipe_length]; exact e.len, fun j d h => ?_, fun j p b h => ?_, fun j k h => ?_, fun j k a p q b d hj hk ej ek => ?_⟩, s.sh, s.keep, fun p h => ?_, s.dom, fun j p h => ?_⟩
  · obtain ⟨h1, h2⟩ := sub h
    rw [up h2]
    exact e.sh j d h1
  · obtain ⟨h1, h2⟩ := sub h
    rw [up h2]
    exact e.own j p b h1
  · exact e.nol j k (sub h).1
  · obtain ⟨h1, h2⟩ := sub hj
    obtain ⟨h3, h4⟩ := sub hk
    rw [up h2] at ej
    rw [up h4] at ek
    exact e.inj j k a p q b d h1 h3 ej ek
  · obtain ⟨j, q, b, hj, ej⟩ := h
    obtain ⟨h1, h2⟩ := sub hj
    rw [up h2] at ej
    exact s.own p ⟨j, q, b, h1, ej⟩
  · have hj : j ∉ vs := fun z => no j p z h
    obtain ⟨⟨q, hq⟩, e1⟩ := s.pin j p h
    rw [up hj, wipeE_get, if_neg hj]
    exact ⟨⟨q, hq⟩, e1⟩
theorem noOwn_ok {ρ : DEnv} {vs : List Nat} (h : noOwn ρ vs = true) (i : Nat) (p : PyData) (b : Bool) (hi : i ∈ vs) : ρ[i]? ≠ some (some (.own p b)) := fun e => by
  have := (List.all_eq_true.mp h) i hi
  rw [e] at this
  cases this
/-- out of the block: the names as they were -/
theorem Stp.back {G H G1 H1 : Hp} {σ : St} {ρ ρ1 : DEnv} {vs : List Nat} (x : EnvOk K c G H σ ρ) (s : Stp K c G H σ ρ G1 H1 (L2.wipe σ vs) ρ1) (no : noOwn ρ vs = true) : Stp K c G H σ ρ G1 H1 σ (putBack ρ ρ1 vs) := by
  have e := s.env
  have hl : ρ.length = ρ1.length := by rw [x.len, e.len, wipe_length]
  have sub : ∀ {j : Nat} {y : Ent}, (putBack ρ ρ1 vs)[j]? = some (some y) → (j ∈ vs ∧ ρ[j]? = some (some y)) ∨ (j ∉ vs ∧ ρ1[j]? = some (some y)) := fun {j y} h => by
    rw [putBack_get hl] at h
    by_cases hj : j ∈ vs
    · rw [if_pos hj] at h
      exact .inl ⟨hj, h⟩
    · rw [if_neg hj] at h
      exact .inr ⟨hj, h⟩
  have up : ∀ {j : Nat}, j ∉ vs → (L2.wipe σ vs)[j]? = σ[j]? := fun {j} hj => by rw [wipe_get, if_neg hj]
  have own : ∀ {j : Nat} {p : PyData} {b : Bool}, (putBack ρ ρ1 vs)[j]? = some (some (.own p b)) → j ∉ vs ∧ ρ1[j]? = some (some (.own p b)) := fun {j p b} h => by
    rcases sub h with ⟨h1, h2⟩ | ⟨h1, h2⟩
    · exact (noOwn_ok no j p b h1 h2).elim
    · exact ⟨h1, h2⟩
  refine ⟨⟨e.le, by rw [putBack_length, ← hl]; exact x.len, fun j d h => ?_, fun j p b h => ?_, fun j k h => ?_, fun j k a p q b d hj hk ej ek => ?_⟩, s.sh, s.keep, fun p h => ?_, s.dom, fun j p h => ?_⟩
  · rcases sub h with ⟨h1, h2⟩ | ⟨h1, h2⟩
    · obtain ⟨w, ew, r⟩ := x.sh j d h2
      exact ⟨w, ew, r.mono s.sh⟩
    · obtain ⟨w, ew, r⟩ := e.sh j d h2
      rw [up h1] at ew
      exact ⟨w, ew, r⟩
  · obtain ⟨h1, h2⟩ := own h
    obtain ⟨w, ew, r⟩ := e.own j p b h2
    rw [up h1] at ew
    exact ⟨w, ew, r⟩
  · rcases sub h with ⟨h1, h2⟩ | ⟨h1, h2⟩
    · exact x.nol j k h2
    · exact e.nol j k h2
  · obtain ⟨h1, h2⟩ := own hj
    obtain ⟨h3, h4⟩ := own hk
    rw [← up h1] at ej
    rw [← up h3] at ek
    exact e.inj j k a p q b d h2 h4 ej ek
  · obtain ⟨j, q, b, hj, ej⟩ := h
    obtain ⟨h1, h2⟩ := own hj
    rw [← up h1] at ej
    exact s.own p ⟨j, q, b, h2, ej⟩
  · have hj : j ∉ vs := fun z => noOwn_ok no j p true z h
    obtain ⟨⟨q, hq⟩, e1⟩ := s.pin j p h
    rw [putBack_get hl, if_neg hj]
    exact ⟨⟨q, hq⟩, rfl⟩
/-- something apart is changed -/
theorem Stp.poke {G H G1 H1 : Hp} {σ σ1 : St} {ρ ρ1 : DEnv} {a : Addr} {o : HO} (s : Stp K c G H σ ρ G1 H1 σ1 ρ1) (h0 : H a = none) (h1 : G1 a = none) (h2 : ¬ Ow σ1 ρ1 a) (h3 : ∃ u, H1 a = some u) : Stp K c G H σ ρ G1 (upd H1 a o) σ1 ρ1 := by
  have e := s.env
  refine ⟨⟨sameUp e.le h1, e.len, e.sh, fun j p b h => ?_, e.nol, e.inj⟩, s.sh, fun q u k1 k2 k3 => ?_, s.own, fun q h => ?_, s.pin⟩
  · obtain ⟨w, ew, k1, k2⟩ := e.own j p b h
    exact ⟨w, ew, k1, k2.mono (Same.refl _) (upd_ne fun z => h2 ⟨j, p, b, h, by rw [← z]; exact ew⟩)⟩
  · rw [upd_ne fun z => by rw [z, h0] at k1; cases k1]
    exact s.keep q u k1 k2 k3
  · by_cases z : q = a
    · subst z
      exact h0
    · rw [upd_ne z] at h
      exact s.dom q h

def compGo (tg : Tgt) (tt : M Bool) (te : M Ent) (vs : List Nat) : List PyData → List PyData → DEnv → Option (List PyData × DEnv)
  | [], acc, ρ => some (acc, ρ)
  | d :: ds, acc, ρ => match tg d ρ with
    | none => none
    | some ρ1 => match tt ρ1 with
      | some (.ok true ρ2) => match fSh te ρ2 with
        | some (.ok (.sh (.py p)) ρ3) => compGo tg tt te vs ds (acc ++ [p]) (wipeE ρ3 vs)
        | _ => none
      | some (.ok false ρ2) => compGo tg tt te vs ds acc (wipeE ρ2 vs)
      | _ => none
def compE (tg : Tgt) (tt : M Bool) (te : M Ent) (vs : List Nat) (its : List PyData) : M Ent := fun ρ =>
  if its.length ≤ big ∧ noOwn ρ vs = true then match compGo tg tt te vs its [] (wipeE ρ vs) with
    | some (acc, ρ') => some (.ok (.own (.list acc) false) (putBack ρ ρ' vs))
    | none => none
  else none
def fComp (src : M (List PyData)) (tg : Tgt) (tt : M Bool) (te : M Ent) (vs : List Nat) : M Ent := bnd src (compE tg tt te vs)
abbrev DTs (X : Cx) (c : Nat → Addr) (es : List Expr) (f : M Bool) : Prop := PTs X es (tDT X.K c W0 f)
theorem dts_nil : DTs X c [] (ret true) := ⟨fun pins s σ H Q I h => pts_nil.run pins s σ H Q I (by
  obtain ⟨G, ρ, env, h⟩ := h
  exact h G H (.refl env))⟩
theorem dts_one {e : Expr} {f : M Bool} (h : DT X c W0 e f) : DTs X c [e] f := pts_one h
theorem w_comp {src : M (List PyData)} {tg : Tgt} {tt : M Bool} {te : M Ent} {vs ts : List Nat} (hts : ∀ i ∈ ts, i ∈ vs) (σ : St) (H : Hp) (Q : VK) (h : tD X.K c W (fComp src tg tt te vs) σ H Q) :
    tLc (tDI X.K c W src) (tDG X.K c ts tg) (tDT X.K c W0 tt) (tD X.K c W0 (fSh te)) vs σ H Q := by
  obtain ⟨G, ρ, env, h⟩ := h
  refine ⟨G, ρ, env, wpM_mono (wpM_bnd.mp h) (fun its ρ1 h1 J G1 H1 s1 wk => ?_) fun _ _ x => x⟩
  unfold compE at h1
  split at h1
  rotate_left
  · exact h1.elim
  rename_i hc
  obtain ⟨hlen, hno⟩ := hc
  split at h1
  rotate_left
  · exact h1.elim
  rename_i accF ρF eF
  intro D nD
  have env1 := s1.env
  have dead : H D = none := s1.dom D nD
  have s0 : Stp X.K c G1 H1 σ ρ1 G1 (upd H1 D (.lst [])) (wipe σ vs) (wipeE ρ1 vs) := (Stp.newOwn (o := .lst []) env1 nD).wipe fun i p hi => noOwn_ok hno i p true hi
  refine ⟨fun i m H' => m = its.length - i ∧ i ≤ its.length ∧ ∃ G' ρ' acc, Stp X.K c G1 H1 σ ρ1 G' H' (wipe σ vs) ρ' ∧ EntOk X.K c G' H' (wipe σ vs) ρ' (.ref D) (.own (.list acc) false) ∧ acc.length ≤ i ∧ compGo tg tt te vs (its.drop i) acc ρ' = some (accF, ρF),
    ⟨_, rfl, Nat.zero_le _, G1, wipeE ρ1 vs, [], s0, ⟨D, rfl, env1.le.free nD, ⟨[], upd_same, by simp only [RpL]⟩, fun o => ?_⟩, Nat.le_refl _, by rw [List.drop_zero]; exact eF⟩, ?_⟩
  · obtain ⟨u, hu⟩ := o.at (Stp.wipe (vs := vs) (Stp.refl env1) fun i p hi => noOwn_ok hno i p true hi).env
    rw [nD] at hu
    cases hu
  rintro i m H2 ⟨rfl, hi, G2, ρ2, acc, s2, eD, hacc, w2⟩
  obtain ⟨k1, k2, k3⟩ := wk G2 H2 s2.sh s2.env.le
  by_cases hlt : i < its.length
  · rw [List.drop_eq_getElem_cons hlt] at w2
    refine .inr ⟨k1 i hlt, fun H' => (its.length - (i + 1) = its.length - (i + 1)) ∧ i + 1 ≤ its.length ∧ ∃ G' ρ' acc, Stp X.K c G1 H1 σ ρ1 G' H' (wipe σ vs) ρ' ∧ EntOk X.K c G' H' (wipe σ vs) ρ' (.ref D) (.own (.list acc) false) ∧ acc.length ≤ i + 1 ∧ compGo tg tt te vs (its.drop (i + 1)) acc ρ' = some (accF, ρF), fun H' w => ⟨_, by omega, w⟩, fun x H3 y => ?_⟩
    obtain ⟨d, hd, G3, hy, rd⟩ := k3 i x H3 hlt y
    rw [List.getElem?_eq_getElem hlt] at hd
    cases hd
    have s3 := yld_step s2.env hy
    unfold compGo at w2
    split at w2
    · cases w2
    rename_i ρ3 e3
    refine ⟨G3, ρ2, _, s3.env, rd, ρ3, e3, fun G4 H4 σ4 s4 ag => ⟨?_, ?_⟩⟩
    · rw [wipe_agree ag hts, wipe_wipe]
    have wip : wipe σ4 vs = wipe σ vs := by rw [wipe_agree ag hts, wipe_wipe]
    have s14 := (s2.trans s3).trans s4
    have eD4 := (eD.pres s3).pres s4
    have pinno : ∀ (i : Nat) (p : PyData), i ∈ vs → ρ1[i]? ≠ some (some (.own p true)) := fun i p hi => noOwn_ok hno i p true hi
    split at w2
    · -- kept
      rename_i ρ4 e4
      refine ⟨G4, ρ3, s4.env, ?_⟩
      rw [e4]
      intro G5 H5 s5
      refine ⟨G5, ρ4, s5.env, ?_⟩
      split at w2
      · rename_i p ρ6 e6
        rw [e6]
        intro v G6 H6 s6 ev _
        have s16 := (s14.trans s5).trans s6
        have eD6 := (eD4.pres s5).pres s6
        obtain ⟨D', eD', g6, ⟨vacc, hv, rv⟩, no6⟩ := eD6
        cases eD'
        have hz : acc.length < big := by omega
        simp only [EntOk, RpD] at ev
        refine ⟨vacc, hv, small_big' (by rw [rv.length]; exact hz), rfl, hlt, G6, wipeE ρ6 vs, acc ++ [p], ?_, ?_, by rw [List.length_append, List.length_singleton]; omega, w2⟩
        · rw [← wip]
          exact (s16.poke nD g6 no6 ⟨_, hv⟩).wipe pinno
        · refine ⟨D, rfl, g6, ⟨_, upd_same, rv.append (.one ev)⟩, fun o => no6 ?_⟩
          rw [← wip] at o
          obtain ⟨j, q, b, hj, ej⟩ := o
          rw [wipeE_get] at hj
          by_cases hjv : j ∈ vs
          · rw [if_pos hjv] at hj
            cases q' : ρ6[j]? <;> rw [q'] at hj <;> cases hj
          · rw [if_neg hjv] at hj
            rw [wipe_get, if_neg hjv] at ej
            exact ⟨j, q, b, hj, ej⟩
      · cases w2
    · -- left out
      rename_i ρ4 e4
      refine ⟨G4, ρ3, s4.env, ?_⟩
      rw [e4]
      intro G5 H5 s5
      have s15 := s14.trans s5
      obtain ⟨D', eD', g5, o5, no5⟩ := eD4.pres s5
      cases eD'
      refine ⟨rfl, hlt, G5, wipeE ρ4 vs, acc, ?_, ?_, by omega, w2⟩
      · rw [← wip]
        exact s15.wipe pinno
      · refine ⟨D, rfl, g5, o5, fun o => no5 ?_⟩
        rw [← wip] at o
        obtain ⟨j, q, b, hj, ej⟩ := o
        rw [wipeE_get] at hj
        by_cases hjv : j ∈ vs
        · rw [if_pos hjv] at hj
          cases q' : ρ4[j]? <;> rw [q'] at hj <;> cases hj
        · rw [if_neg hjv] at hj
          rw [wipe_get, if_neg hjv] at ej
          exact ⟨j, q, b, hj, ej⟩
    · cases w2
  · have e : i = its.length := by omega
    subst e
    rw [List.drop_length] at w2
    cases w2
    refine .inl ⟨k2, ?_⟩
    have sb := Stp.back env1 s2 hno
    obtain ⟨D', eD', g2, o2, no2⟩ := eD
    cases eD'
    refine h1 (.ref D) G2 H2 (s1.trans sb) ⟨D, rfl, g2, o2, fun o => ?_⟩ fun a ea => ?_
    · · obtain ⟨j, q, b, hj, ej⟩ := o
        have hl : ρ1.length = ρF.length := by rw [env1.len, s2.env.len, wipe_length]
        rw [putBack_get hl] at hj
        by_cases hjv : j ∈ vs
        · rw [if_pos hjv] at hj
          exact noOwn_ok hno j q b hjv hj
        · rw [if_neg hjv] at hj
          exact no2 ⟨j, q, b, hj, by rw [wipe_get, if_neg hjv]; exact ej⟩
    · cases ea
      exact dead
variable {elt tg iter : Expr} {ifs : List Expr} {scope : Scope} {own : List (Str × Nat)} {pos spos : Pos} {src : M (List PyData)} {g : Tgt} {tt : M Bool} {te : M Ent} {ts : List Nat}
theorem de_comp (own : List (Str × Nat)) (hc : X.calm = true) (hN : X.N.Nodup) (hi : DI X c W tg iter src) (ok : BlkOk X.N X.env.scope scope own) (hts : ∀ i ∈ ts, i ∈ own.map (·.2))
    (hg : ∀ (s : Shared) (H : Hp) (C : Addr) (cl : List (Str × Addr)) (fp : List Addr), PG (X.blk s H scope (compEnvC scope cl C X.env) fp) tg (tDG X.K c ts g)) (ht : ∀ (s : Shared) (H : Hp) (C : Addr) (cl : List (Str × Addr)) (fp : List Addr), PTs (X.blk s H scope (compEnvC scope cl C X.env) fp) ifs (tDT X.K c W0 tt))
    (he : ∀ (s : Shared) (H : Hp) (C : Addr) (cl : List (Str × Addr)) (fp : List Addr), PE (X.blk s H scope (compEnvC scope cl C X.env) fp) elt (tD X.K c W0 te)) (hs : ∀ x, foldedSetIterable iter X.env x = pure x := by intro _; rfl) :
    DE X c W (.ListComp elt [⟨tg, iter, ifs, 0⟩] scope pos) (fComp src g tt te (own.map (·.2))) :=
  pe_weak (pe_lc hc hN hi ok hg ht (fun s H C cl fp => de_sh (he s H C cl fp)) hs) (w_comp hts)
theorem ds_setComp (i : Nat) (own : List (Str × Nat)) {y : Str} {ppy : Pos} (hc : X.calm = true) (hN : X.N.Nodup) (hy : X.N[i]? = some y) (hyl : X.env.scope.names.lookup y = some .local) (hsw : swapsWith (.ListComp elt [⟨tg, iter, ifs, 0⟩] scope pos) (some (.Name y ppy)) spos.line X.env = pure true) (hi : DI X c W tg iter src) (ok : BlkOk X.N X.env.scope scope own) (hts : ∀ i ∈ ts, i ∈ own.map (·.2))
    (hg : ∀ (s : Shared) (H : Hp) (C : Addr) (cl : List (Str × Addr)) (fp : List Addr), PG (X.blk s H scope (compEnvC scope cl C X.env) fp) tg (tDG X.K c ts g)) (ht : ∀ (s : Shared) (H : Hp) (C : Addr) (cl : List (Str × Addr)) (fp : List Addr), PTs (X.blk s H scope (compEnvC scope cl C X.env) fp) ifs (tDT X.K c W0 tt))
    (he : ∀ (s : Shared) (H : Hp) (C : Addr) (cl : List (Str × Addr)) (fp : List Addr), PE (X.blk s H scope (compEnvC scope cl C X.env) fp) elt (tD X.K c W0 te)) (hs : ∀ x, foldedSetIterable iter X.env x = pure x := by intro _; rfl) :
    DS X c W (.Assign [.Name y ppy] (.ListComp elt [⟨tg, iter, ifs, 0⟩] scope pos) spos) (fSet i (fComp src g tt te (own.map (·.2)))) :=
  ps_weak (ps_setLc hc hN hy hyl hsw hi ok hg ht (fun s H C cl fp => de_sh (he s H C cl fp)) hs) fun D σ H h => w_comp hts σ H _ (w_set D σ H h)
theorem ds_setCompSh (i : Nat) (own : List (Str × Nat)) {y : Str} {ppy : Pos} (hc : X.calm = true) (hN : X.N.Nodup) (hy : X.N[i]? = some y) (hyl : X.env.scope.names.lookup y = some .local) (hsw : swapsWith (.ListComp elt [⟨tg, iter, ifs, 0⟩] scope pos) (some (.Name y ppy)) spos.line X.env = pure true) (hi : DI X c W tg iter src) (ok : BlkOk X.N X.env.scope scope own) (hts : ∀ i ∈ ts, i ∈ own.map (·.2))
    (hg : ∀ (s : Shared) (H : Hp) (C : Addr) (cl : List (Str × Addr)) (fp : List Addr), PG (X.blk s H scope (compEnvC scope cl C X.env) fp) tg (tDG X.K c ts g)) (ht : ∀ (s : Shared) (H : Hp) (C : Addr) (cl : List (Str × Addr)) (fp : List Addr), PTs (X.blk s H scope (compEnvC scope cl C X.env) fp) ifs (tDT X.K c W0 tt))
    (he : ∀ (s : Shared) (H : Hp) (C : Addr) (cl : List (Str × Addr)) (fp : List Addr), PE (X.blk s H scope (compEnvC scope cl C X.env) fp) elt (tD X.K c W0 te)) (hs : ∀ x, foldedSetIterable iter X.env x = pure x := by intro _; rfl) :
    DS X c W (.Assign [.Name y ppy] (.ListComp elt [⟨tg, iter, ifs, 0⟩] scope pos) spos) (fSet i (fSh (fComp src g tt te (own.map (·.2))))) :=
  ps_weak (ps_setLc hc hN hy hyl hsw hi ok hg ht (fun s H C cl fp => de_sh (he s H C cl fp)) hs) fun D σ H h => w_comp hts σ H _ (w_sh σ H _ (w_set D σ H h))
end
end VL

set_option linter.all false
set_option autoImplicit false
set_option maxRecDepth 100000
/-! The value layer, part 7: defs and their calls. -/
namespace VL
open PySem L2 PySem.Spec PyProof.Rows

/-- what a def yields: a value, the data of the argument that it changes; or an exception -/
inductive FR where
  | ok (r : Ent) (o : PyData)
  | exc (k : Nat) (o : PyData)
abbrev Fn := List D → Option FR
def slotO : D → Ent
  | .py p => .own p true
  | d => .sh d
/-- the arguments as an environment; io: the place of the one that is changed -/
def argE : Option Nat → List D → DEnv
  | _, [] => []
  | some 0, d :: ds => some (slotO d) :: argE none ds
  | some (n + 1), d :: ds => some (.sh d) :: argE (some n) ds
  | none, d :: ds => some (.sh d) :: argE none ds
def outD (io : Option Nat) (ds : List D) (o : PyData) : List D := match io with
  | some i => ds.set i (.py o)
  | none => ds
theorem argE_get : ∀ {io : Option Nat} {ds : List D} {i : Nat}, (argE io ds)[i]? = (ds[i]?).map fun d => some (if io = some i then slotO d else .sh d)
  | _, [], i => by cases i <;> simp [argE]
  | some 0, d :: ds, 0 => by simp [argE]
  | some 0, d :: ds, i + 1 => by simp [argE, argE_get]
  | some (n + 1), d :: ds, 0 => by simp [argE]
  | some (n + 1), d :: ds, i + 1 => by simp [argE, argE_get]
  | none, d :: ds, 0 => by simp [argE]
  | none, d :: ds, i + 1 => by simp [argE, argE_get]
theorem argE_length : ∀ {io : Option Nat} {ds : List D}, (argE io ds).length = ds.length
  | _, [] => by simp [argE]
  | some 0, d :: ds => by simp [argE, argE_length]
  | some (n + 1), d :: ds => by simp [argE, argE_length]
  | none, d :: ds => by simp [argE, argE_length]
theorem argE_sh {io : Option Nat} {ds : List D} {i : Nat} {d : D} (h : (argE io ds)[i]? = some (some (.sh d))) : ds[i]? = some d ∧ (io = some i → ∀ p, d ≠ .py p) := by
  rw [argE_get] at h
  obtain ⟨d', h1, h2⟩ := Option.map_eq_some_iff.mp h
  by_cases e : io = some i
  · rw [if_pos e] at h2
    cases d' with
    | py p => cases h2
    | ins k fs => cases h2; exact ⟨h1, fun _ p z => nomatch z⟩
    | scr ns => cases h2; exact ⟨h1, fun _ p z => nomatch z⟩
    | ty n => cases h2; exact ⟨h1, fun _ p z => nomatch z⟩
    | val u => cases h2; exact ⟨h1, fun _ p z => nomatch z⟩
  · rw [if_neg e] at h2
    cases h2
    exact ⟨h1, fun z => absurd z e⟩
theorem argE_own {io : Option Nat} {ds : List D} {i : Nat} {p : PyData} {b : Bool} (h : (argE io ds)[i]? = some (some (.own p b))) : io = some i ∧ b = true ∧ ds[i]? = some (.py p) := by
  rw [argE_get] at h
  obtain ⟨d', h1, h2⟩ := Option.map_eq_some_iff.mp h
  by_cases e : io = some i
  · rw [if_pos e] at h2
    cases d' with
    | py q => cases h2; exact ⟨e, rfl, h1⟩
    | ins k fs => cases h2
    | scr ns => cases h2
    | ty n => cases h2
    | val u => cases h2
  · rw [if_neg e] at h2
    cases h2
theorem argE_nol {io : Option Nat} {ds : List D} {i j : Nat} : (argE io ds)[i]? ≠ some (some (.lnk j)) := fun h => by
  rw [argE_get] at h
  obtain ⟨d', h1, h2⟩ := Option.map_eq_some_iff.mp h
  by_cases e : io = some i
  · rw [if_pos e] at h2
    cases d' <;> cases h2
  · rw [if_neg e] at h2
    cases h2
/-- the promise of a def -/
def spF (K : PySem.W.Frag) (c : Nat → Addr) (n : Nat) (io : Option Nat) (fn : Fn) : Sp := fun vs H Q E => ∃ G ds, ds.length = n ∧ (∀ i, io = some i → ∃ p, ds[i]? = some (.py p)) ∧ EnvOk K c G H (vs.map some) (argE io ds) ∧ match fn ds with
  | none => False
  | some (.ok r o) => ∀ v G' H', Stp K c G H (vs.map some) (argE io ds) G' H' (vs.map some) (argE io (outD io ds o)) → EntOk K c G' H' (vs.map some) (argE io (outD io ds o)) v r → Frs H v r → Q v H'
  | some (.exc k o) => ∀ G' H', Stp K c G H (vs.map some) (argE io ds) G' H' (vs.map some) (argE io (outD io ds o)) → E (.ref (c k)) none H'
theorem spF_len {K : PySem.W.Frag} {c : Nat → Addr} {n : Nat} {io : Option Nat} {fn : Fn} {vs : List V} {H : Hp} {Q : VK} {E : XK} (h : spF K c n io fn vs H Q E) : vs.length = n := by
  obtain ⟨G, ds, hl, _, env, _⟩ := h
  have := env.len
  rw [argE_length, List.length_map, hl] at this
  exact this.symm
def outOf (io : Option Nat) (ρ : DEnv) : Option PyData := match io with
  | none => some .none
  | some i => match ρ[i]? with
    | some (some (.own p true)) => some p
    | _ => none
def resE (ρ : DEnv) : Ent → Option Ent
  | .sh d => some (.sh d)
  | .own p _ => some (.own p false)
  | .lnk i => match ρ[i]? with
    | some (some (.own p false)) => some (.own p false)
    | _ => none
/-- a def, by its body -/
def fnOf (n : Nat) (io : Option Nat) (body : S) : Fn := fun ds => match body (argE io ds ++ List.replicate (n - ds.length) none) with
  | some (.ok .nx ρ) => match outOf io ρ with
    | some o => some (.ok (py .none) o)
    | none => none
  | some (.ok (.rt e) ρ) => match outOf io ρ, resE ρ e with
    | some o, some r => some (.ok r o)
    | _, _ => none
  | some (.exc k ρ) => match outOf io ρ with
    | some o => some (.exc k o)
    | none => none
  | _ => none
section
variable {K : PySem.W.Frag} {c : Nat → Addr}
theorem start_get {N : List Str} {vs : List V} {i : Nat} (h : i < vs.length) : (L2.start N vs)[i]? = (vs.map some)[i]? := by
  unfold L2.start
  rw [List.getElem?_append_left (by rw [List.length_map]; exact h)]
theorem env_in {G H : Hp} {vs : List V} {io : Option Nat} {ds : List D} {N : List Str} (x : EnvOk K c G H (vs.map some) (argE io ds)) : EnvOk K c G H (L2.start N vs) (argE io ds ++ List.replicate (N.length - ds.length) none) := by
  have hl : ds.length = vs.length := by
    have := x.len
    rw [argE_length, List.length_map] at this
    exact this
  have sub : ∀ {i : Nat} {e : Ent}, (argE io ds ++ List.replicate (N.length - ds.length) none)[i]? = some (some e) → (argE io ds)[i]? = some (some e) ∧ i < vs.length := fun {i e} h => by
    by_cases hi : i < ds.length
    · rw [List.getElem?_append_left (by rw [argE_length]; exact hi)] at h
      exact ⟨h, by omega⟩
    · rw [List.getElem?_append_right (by rw [argE_length]; omega)] at h
      rw [List.getElem?_replicate] at h
      split at h <;> cases h
  refine ⟨x.le, ?_, fun i d h => ?_, fun i p b h => ?_, fun i j h => x.nol i j (sub h).1, fun i j a p q b d hi hj ei ej => ?_⟩
  · unfold L2.start
    simp only [List.length_append, List.length_replicate, argE_length, List.length_map, hl]
  · obtain ⟨h1, h2⟩ := sub h
    rw [start_get h2]
    exact x.sh i d h1
  · obtain ⟨h1, h2⟩ := sub h
    rw [start_get h2]
    exact x.own i p b h1
  · obtain ⟨h1, h2⟩ := sub hi
    obtain ⟨h3, h4⟩ := sub hj
    rw [start_get h2] at ei
    rw [start_get h4] at ej
    exact x.inj i j a p q b d h1 h3 ei ej
theorem ow_in {vs : List V} {io : Option Nat} {ds : List D} {N : List Str} {a : Addr} (hl : ds.length = vs.length) : Ow (L2.start N vs) (argE io ds ++ List.replicate (N.length - ds.length) none) a ↔ Ow (vs.map some) (argE io ds) a := by
  constructor
  · rintro ⟨i, p, b, h, e⟩
    by_cases hi : i < ds.length
    · rw [List.getElem?_append_left (by rw [argE_length]; exact hi)] at h
      rw [start_get (by omega)] at e
      exact ⟨i, p, b, h, e⟩
    · rw [List.getElem?_append_right (by rw [argE_length]; omega), List.getElem?_replicate] at h
      split at h <;> cases h
  · rintro ⟨i, p, b, h, e⟩
    have hi : i < vs.length := by
      have := (List.getElem?_eq_some_iff.mp h).1
      rw [argE_length] at this
      omega
    exact ⟨i, p, b, by rw [List.getElem?_append_left (by rw [argE_length]; omega)]; exact h, by rw [start_get hi]; exact e⟩
theorem out_get {io : Option Nat} {ds : List D} {o : PyData} {i : Nat} (h : io ≠ some i) : (outD io ds o)[i]? = ds[i]? := by
  unfold outD
  split
  · rename_i j
    rw [List.getElem?_set_ne fun z => h (congrArg some z)]
  · rfl
/-- from a body's steps to the def's -/
theorem Stp.leave {G H G' H' : Hp} {σ' : L2.St} {ρ' : DEnv} {vs : List V} {io : Option Nat} {ds : List D} {N : List Str} {o : PyData} (hio : ∀ i, io = some i → ∃ p, ds[i]? = some (.py p)) (x : EnvOk K c G H (vs.map some) (argE io ds)) (s : Stp K c G H (L2.start N vs) (argE io ds ++ List.replicate (N.length - ds.length) none) G' H' σ' ρ') (ho : outOf io ρ' = some o) :
    Stp K c G H (vs.map some) (argE io ds) G' H' (vs.map some) (argE io (outD io ds o)) ∧ ∀ a, Ow (vs.map some) (argE io (outD io ds o)) a → ∃ i : Nat, ρ'[i]? = some (some (.own o true)) ∧ σ'[i]? = some (some (.ref a)) := by
  have hl : ds.length = vs.length := by
    have := x.len
    rw [argE_length, List.length_map] at this
    exact this
  -- the changed argument
  have key : ∀ {i : Nat} {p : PyData} {b : Bool}, (argE io (outD io ds o))[i]? = some (some (.own p b)) → b = true ∧ p = o ∧ io = some i ∧ ρ'[i]? = some (some (.own o true)) ∧ σ'[i]? = (vs.map some)[i]? ∧ ∃ q, (argE io ds)[i]? = some (some (.own q true)) := fun {i p b} h => by
    obtain ⟨e1, e2, e3⟩ := argE_own h
    subst e1
    obtain ⟨z, hz⟩ := hio i rfl
    have hi : i < ds.length := (List.getElem?_eq_some_iff.mp hz).1
    simp only [outD, List.getElem?_set_self hi, Option.some.injEq, D.py.injEq] at e3
    subst e3
    have ha : (argE (some i) ds)[i]? = some (some (.own z true)) := by
      rw [argE_get, hz]
      simp [slotO]
    simp only [outOf] at ho
    split at ho
    · rename_i p hp
      cases ho
      have hb : (argE (some i) ds ++ List.replicate (N.length - ds.length) none)[i]? = some (some (.own z true)) := by
        rw [List.getElem?_append_left (by rw [argE_length]; exact hi)]
        exact ha
      exact ⟨e2, rfl, rfl, hp, by rw [(s.pin i z hb).2, start_get (by omega)], z, ha⟩
    · cases ho
  have ow : ∀ a, Ow (vs.map some) (argE io (outD io ds o)) a → (∃ i : Nat, ρ'[i]? = some (some (.own o true)) ∧ σ'[i]? = some (some (.ref a))) ∧ Ow (vs.map some) (argE io ds) a := fun a h => by
    obtain ⟨i, p, b, h, e⟩ := h
    obtain ⟨h1, h2, h3, h4, h5, q, h6⟩ := key h
    exact ⟨⟨i, h4, by rw [h5]; exact e⟩, i, q, true, h6, e⟩
  refine ⟨⟨⟨s.env.le, ?_, fun i d h => ?_, fun i p b h => ?_, fun i j h => argE_nol h, fun i j a p q b d hi hj ei ej => ?_⟩, s.sh, fun p u k1 k2 k3 => s.keep p u k1 k2 fun z => k3 ((ow_in hl).mp z), fun a h => .inl (ow a h).2, s.dom, fun i p h => ?_⟩, fun a h => (ow a h).1⟩
  · rw [argE_length, List.length_map]
    unfold outD
    split
    · rw [List.length_set]
      exact hl
    · exact hl
  · obtain ⟨h1, h2⟩ := argE_sh h
    by_cases e : io = some i
    · subst e
      obtain ⟨z, hz⟩ := hio i rfl
      have hi : i < ds.length := (List.getElem?_eq_some_iff.mp hz).1
      simp only [outD, List.getElem?_set_self hi, Option.some.injEq] at h1
      exact (h2 rfl o h1.symm).elim
    · rw [out_get e] at h1
      have h3 : (argE io ds)[i]? = some (some (.sh d)) := by
        rw [argE_get, h1]
        simp [e]
      obtain ⟨v, ev, r⟩ := x.sh i d h3
      exact ⟨v, ev, r.mono s.sh⟩
  · obtain ⟨h1, h2, h3, h4, h5, q, h6⟩ := key h
    subst h2
    obtain ⟨a, ea, k⟩ := s.env.own i _ _ h4
    exact ⟨a, by rw [← h5]; exact ea, k⟩
  · obtain ⟨_, _, h3, _⟩ := key hi
    obtain ⟨_, _, h4, _⟩ := key hj
    rw [h3] at h4
    exact Option.some.inj h4
  · obtain ⟨h1, h2, h3⟩ := argE_own h
    subst h1
    have hi : i < ds.length := (List.getElem?_eq_some_iff.mp h3).1
    refine ⟨⟨o, ?_⟩, rfl⟩
    rw [argE_get]
    simp [outD, hi, slotO]
end

section
variable {P : Program} {w : World} {K : PySem.W.Frag} {mg : Str → Option Value} {base : Heap} {c : Nat → Addr}
/-- a def at its promise: where it stands, how it is called -/
structure FnAt (P : Program) (w : World) (K : PySem.W.Frag) (mg : Str → Option Value) (base : Heap) (c : Nat → Addr) (k : Nat) (name : Str) (n : Nat) (io : Option Nat) (fn : Fn) : Prop where
  ex : ∃ f fd ps, mg name = some (.ref f) ∧ PySem.W.keepIn K (.ref f) = true ∧ Binds K fd ps [] ∧ ps.length = n ∧ FnOk P w K mg base (L2.CX P w) k f fd ps (spF K c n io fn)
theorem FnAt.mono {j k n : Nat} {name : Str} {io : Option Nat} {fn : Fn} (h : FnAt P w K mg base c j name n io fn) (hk : j ≤ k) : FnAt P w K mg base c k name n io fn := by
  obtain ⟨f, fd, ps, h1, h2, h3, h4, h5⟩ := h.ex
  exact ⟨f, fd, ps, h1, h2, h3, h4, h5.mono hk⟩
abbrev bodyCx (P : Program) (w : World) (K : PySem.W.Frag) (mg : Str → Option Value) (base : Heap) (N : List Str) (qual : Str) (st : Stmt) (f : Addr) (cdv : Value) (A : Around) (outer : List Env) (s : Shared) (H : Hp) (E : XK) : Cx := cxOf (L2.CX P w) P w K mg base N qual (defScope st) f cdv A outer s H E
abbrev WE0 (E : XK) : WX := fun cls d _ H => E cls d H
/-- THE RULE for a def -/
theorem fn_ok {x qual : Str} {st : Stmt} {f : Addr} {fd : FuncData} {N ps : List Str} {k : Nat} (io : Option Nat) {body : S} (F : Fun K x qual st f fd) (Sc : FnScope N ps (defScope st))
    (hb : ∀ (cdv : Value) (A : Around) (outer : List Env) (s : Shared) (H : Hp) (E : XK), Room k (A.deeper (envOfC qual (defScope st) s.heap.objs.size f cdv)) → DSs (bodyCx P w K mg base N qual st f cdv A outer s H E) c (WE0 E) (defBody st) body) :
    FnOk P w K mg base (L2.CX P w) (k + 1) f fd ps (spF K c ps.length io (fnOf N.length io body)) := by
  refine F.okX Sc (fun vs H Q E h => spF_len h) fun cdv A outer s H vs Q E hr h => ⟨_, hb cdv A outer s H E hr, ?_⟩
  obtain ⟨G, ds, hl, hio, env, h⟩ := h
  have hv : ds.length = vs.length := by
    have := env.len
    rw [argE_length, List.length_map] at this
    exact this
  refine ⟨G, argE io ds ++ List.replicate (N.length - ds.length) none, env_in env, ?_⟩
  -- what is returned
  have fin : ∀ {e r : Ent} {o : PyData} {ρ' : DEnv}, outOf io ρ' = some o → resE ρ' e = some r → (∀ v G' H', Stp K c G H (vs.map some) (argE io ds) G' H' (vs.map some) (argE io (outD io ds o)) → EntOk K c G' H' (vs.map some) (argE io (outD io ds o)) v r → Frs H v r → Q v H') →
      ∀ v G' H' σ', Stp K c G H (L2.start N vs) (argE io ds ++ List.replicate (N.length - ds.length) none) G' H' σ' ρ' → EntOk K c G' H' σ' ρ' v e → Frs H v e → Q v H' := by
    intro e r o ρ' ho hr q v G' H' σ' s' ev fv
    obtain ⟨s2, ow⟩ := s'.leave hio env ho
    cases e with
    | sh d =>
      cases hr
      exact q v G' H' s2 ev trivial
    | own p b =>
      cases hr
      obtain ⟨a, rfl, g1, g2, g3⟩ := ev
      refine q _ G' H' s2 ⟨a, rfl, g1, g2, fun z => ?_⟩ fv
      obtain ⟨i, h1, h2⟩ := ow a z
      exact g3 ⟨i, o, true, h1, h2⟩
    | lnk i =>
      simp only [resE] at hr
      split at hr
      · rename_i p hp
        cases hr
        obtain ⟨a, ea, g1, g2⟩ := s'.env.own i _ _ hp
        simp only [EntOk] at ev
        rw [ev] at ea
        cases ea
        refine q _ G' H' s2 ⟨a, rfl, g1, g2, fun z => ?_⟩ fun b eb => ?_
        · obtain ⟨j, h1, h2⟩ := ow a z
          have e := s'.env.inj i j a _ _ _ _ hp h1 ev h2
          subst e
          rw [hp] at h1
          cases h1
        · cases eb
          rcases s'.own a ⟨i, p, false, hp, ev⟩ with z | z
          · obtain ⟨j, q', b', hj, ej⟩ := (ow_in hv).mp z
            obtain ⟨h1, h2, h3⟩ := argE_own hj
            subst h1
            have hjl : j < ds.length := (List.getElem?_eq_some_iff.mp h3).1
            have hj2 : (argE (some j) ds ++ List.replicate (N.length - ds.length) none)[j]? = some (some (.own q' true)) := by
              rw [List.getElem?_append_left (by rw [argE_length]; exact hjl), hj, h2]
            obtain ⟨⟨q2, hq2⟩, e2⟩ := s'.pin j q' hj2
            rw [start_get (by omega), ej] at e2
            have e := s'.env.inj i j a _ _ _ _ hp hq2 ev e2
            subst e
            rw [hp] at hq2
            cases hq2
          · exact z
      · cases hr
  have nx : ∀ {o : PyData} {ρ' : DEnv}, outOf io ρ' = some o → ∀ {G' H' : Hp} {σ' : L2.St}, Stp K c G H (L2.start N vs) (argE io ds ++ List.replicate (N.length - ds.length) none) G' H' σ' ρ' → Stp K c G H (vs.map some) (argE io ds) G' H' (vs.map some) (argE io (outD io ds o)) := fun ho _ _ _ s' => (s'.leave hio env ho).1
  unfold fnOf at h
  split at h
  · exact h.elim
  · rename_i r o hf
    split at hf
    · rename_i ρ' hb'
      split at hf
      · rename_i o' ho
        cases hf
        rw [hb']
        exact fun G' H' σ' s' => h .non G' H' (nx ho s') (by simp only [EntOk, RpD, Rp]) trivial
      · cases hf
    · rename_i e ρ' hb'
      split at hf
      · rename_i o' r' ho hr
        cases hf
        rw [hb']
        exact fin ho hr h
      · cases hf
    · split at hf <;> cases hf
    · cases hf
  · rename_i j o hf
    split at hf
    · split at hf <;> cases hf
    · split at hf <;> cases hf
    · rename_i j' ρ' hb'
      split at hf
      · rename_i o' ho
        cases hf
        rw [hb']
        exact fun G' H' σ' s' => h G' H' (nx ho s')
      · cases hf
    · cases hf
/-- nothing is promised -/
theorem fn_none {k n : Nat} {f : Addr} {fd : FuncData} {ps : List Str} {io : Option Nat} : FnOk P w K mg base (L2.CX P w) k f fd ps (spF K c n io fun _ => none) := by
  have no : ∀ vs H Q E, ¬ spF K c n io (fun _ => none) vs H Q E := fun vs H Q E h => by
    obtain ⟨_, _, _, _, _, z⟩ := h
    exact z
  exact ⟨fun vs H Q E h => absurd h (no vs H Q E), fun A outer s H args us vs Q E _ _ _ _ h => absurd h (no vs H Q E)⟩
/-- a def that calls itself: as many turns as are allowed -/
def recF (n : Nat) (io : Option Nat) (body : Fn → S) : Nat → Fn
  | 0 => fun _ => none
  | m + 1 => fnOf n io (body (recF n io body m))
theorem fn_rec {x qual : Str} {st : Stmt} {f : Addr} {fd : FuncData} {N ps : List Str} {k0 : Nat} (io : Option Nat) {body : Fn → S} (F : Fun K x qual st f fd) (Sc : FnScope N ps (defScope st)) (hm : mg x = some (.ref f)) (bi : Binds K fd ps [])
    (hb : ∀ (fn : Fn) (k : Nat), k0 ≤ k → FnAt P w K mg base c k x ps.length io fn → ∀ (cdv : Value) (A : Around) (outer : List Env) (s : Shared) (H : Hp) (E : XK), Room k (A.deeper (envOfC qual (defScope st) s.heap.objs.size f cdv)) → DSs (bodyCx P w K mg base N qual st f cdv A outer s H E) c (WE0 E) (defBody st) (body fn)) :
    ∀ m : Nat, FnAt P w K mg base c (k0 + m) x ps.length io (recF N.length io body m)
  | 0 => ⟨f, fd, ps, hm, F.kp, bi, rfl, fn_none⟩
  | m + 1 => ⟨f, fd, ps, hm, F.kp, bi, rfl, fn_ok io F Sc fun cdv A outer s H E hr => hb _ (k0 + m) (Nat.le_add_right _ _) (fn_rec io F Sc hm bi hb m) cdv A outer s H E hr⟩
end

/-! ### calls -/
section
variable {X : Cx} {c : Nat → Addr} {W : WX}
def arg1 (io : Option Nat) (ρ : DEnv) (e : Ent) : Option D := match io, e with
  | some 0, .lnk i => match ρ[i]? with
    | some (some (.own p _)) => some (.py p)
    | _ => none
  | some 0, _ => none
  | _, .sh d => some d
  | _, _ => none
def ioTl : Option Nat → Option Nat
  | some (n + 1) => some n
  | _ => none
def callA (io : Option Nat) (ρ : DEnv) : List Ent → Option (List D)
  | [] => some []
  | e :: es => match arg1 io ρ e, callA (ioTl io) ρ es with
    | some d, some ds => some (d :: ds)
    | _, _ => none
def callO (io : Option Nat) (es : List Ent) (o : PyData) (ρ : DEnv) : DEnv := match io with
  | none => ρ
  | some i => match es[i]? with
    | some (.lnk j) => match ρ[j]? with
      | some (some (.own _ b)) => ρ.set j (some (.own o b))
      | _ => ρ
    | _ => ρ
def callE (n : Nat) (io : Option Nat) (fn : Fn) (es : List Ent) : M Ent := fun ρ => match callA io ρ es with
  | none => none
  | some ds => if ds.length = n then match fn ds with
    | none => none
    | some (.ok (.lnk _) _) => none
    | some (.ok r o) => some (.ok r (callO io es o ρ))
    | some (.exc k o) => some (.exc k (callO io es o ρ))
  else none
def fCall (n : Nat) (io : Option Nat) (fn : Fn) (m : M (List Ent)) : M Ent := bnd m (callE n io fn)
/-- the values' link with the arguments -/
theorem callA_ok {K : PySem.W.Frag} {G H : Hp} {σ : L2.St} {ρ : DEnv} (env : EnvOk K c G H σ ρ) : ∀ {io : Option Nat} {vs : List V} {es : List Ent} {ds : List D}, EAs K c G H σ ρ vs es → callA io ρ es = some ds →
    ds.length = vs.length ∧ (∀ (i : Nat) (d : D), io ≠ some i → ds[i]? = some d → ∃ v, vs[i]? = some v ∧ RpD K c G v d) ∧
      ∀ i, io = some i → i < vs.length → ∃ j p b a, es[i]? = some (.lnk j) ∧ ρ[j]? = some (some (.own p b)) ∧ ds[i]? = some (.py p) ∧ vs[i]? = some (.ref a) ∧ σ[j]? = some (some (.ref a)) := by
  intro io vs es
  induction es generalizing io vs with
  | nil =>
    intro ds h e
    cases h
    simp only [callA, Option.some.injEq] at e
    subst e
    exact ⟨rfl, fun i d _ z => by simp at z, fun i _ z => absurd z (Nat.not_lt_zero _)⟩
  | cons e es ih =>
    intro ds h q
    cases h with
    | @cons v _ vs _ h1 h2 h3 =>
      unfold callA at q
      split at q
      · rename_i d ds' q1 q2
        cases q
        obtain ⟨k1, k2, k3⟩ := ih h3 q2
        refine ⟨by rw [List.length_cons, List.length_cons, k1], fun i d' hn hd => ?_, fun i hi hl => ?_⟩
        · cases i with
          | zero =>
            simp only [List.getElem?_cons_zero, Option.some.injEq] at hd
            subst hd
            have : e = .sh d := by
              unfold arg1 at q1
              split at q1
              · exact absurd rfl hn
              · exact absurd rfl hn
              · cases q1
                rfl
              · cases q1
            subst this
            exact ⟨v, rfl, h1⟩
          | succ i =>
            simp only [List.getElem?_cons_succ] at hd ⊢
            refine k2 i d' (fun z => ?_) hd
            unfold ioTl at z
            split at z
            · cases z
              exact hn rfl
            · cases z
        · subst hi
          cases i with
          | zero =>
            unfold arg1 at q1
            split at q1
            · rename_i j _
              split at q1
              · rename_i p b hp
                cases q1
                obtain ⟨a, ea, _⟩ := env.own j p b hp
                simp only [EntOk] at h1
                rw [h1] at ea
                cases ea
                exact ⟨j, p, b, a, rfl, hp, rfl, rfl, h1⟩
              · cases q1
            · cases q1
            · rename_i nz
              first | exact absurd rfl nz | exact absurd rfl ‹_ ≠ _› | exact absurd rfl (by assumption)
            · cases q1
          | succ i =>
            obtain ⟨j, p, b, a, z1, z2, z3, z4, z5⟩ := k3 i rfl (by simpa using hl)
            exact ⟨j, p, b, a, by simpa using z1, z2, by simpa using z3, by simpa using z4, z5⟩
      · cases q
theorem w_call {n : Nat} {io : Option Nat} {fn : Fn} {m : M (List Ent)} (hn : ∀ i, io = some i → i < n) (σ : L2.St) (H : Hp) (Q : VK) (h : tD X.K c W (fCall n io fn m) σ H Q) : tCallS (spF X.K c n io fn) (WE W) (tDA X.K c W m) σ H Q := by
  obtain ⟨G, ρ, env, h⟩ := h
  refine ⟨G, ρ, env, wpM_mono (wpM_bnd.mp h) (fun es ρ1 h1 vs G1 H1 s1 e1 => ?_) fun _ _ x => x⟩
  unfold callE at h1
  split at h1
  · exact h1.elim
  rename_i ds ha
  split at h1
  rotate_left
  · exact h1.elim
  rename_i hl
  have env1 := s1.env
  obtain ⟨k1, k2, k3⟩ := callA_ok env1 e1 ha
  have hio : ∀ i, io = some i → ∃ p, ds[i]? = some (.py p) := fun i hi => by
    obtain ⟨j, p, b, a, _, _, z, _⟩ := k3 i hi (by have := hn i hi; omega)
    exact ⟨p, z⟩
  -- the callee's environment
  have envC : EnvOk X.K c G1 H1 (vs.map some) (argE io ds) := by
    refine ⟨env1.le, by rw [argE_length, List.length_map]; exact k1, fun i d q => ?_, fun i p b q => ?_, fun i j => argE_nol, fun i j a p q b d hi hj _ _ => ?_⟩
    · obtain ⟨q1, q2⟩ := argE_sh q
      by_cases e : io = some i
      · obtain ⟨p, hp⟩ := hio i e
        rw [hp] at q1
        cases q1
        exact (q2 e p rfl).elim
      · obtain ⟨v, z1, z2⟩ := k2 i d e q1
        exact ⟨v, by rw [List.getElem?_map, z1]; rfl, z2⟩
    · obtain ⟨q1, q2, q3⟩ := argE_own q
      obtain ⟨j, p', b', a, z1, z2, z3, z4, z5⟩ := k3 i q1 (by have := hn i q1; omega)
      rw [q3] at z3
      cases z3
      obtain ⟨a', ea, g1, g2⟩ := env1.own j p b' z2
      rw [z5] at ea
      cases ea
      exact ⟨a, by rw [List.getElem?_map, z4]; rfl, g1, g2⟩
    · obtain ⟨z1, _⟩ := argE_own hi
      obtain ⟨z2, _⟩ := argE_own hj
      rw [z1] at z2
      exact Option.some.inj z2
  have owC : ∀ a, Ow (vs.map some) (argE io ds) a → Ow σ ρ1 a := fun a o => by
    obtain ⟨i, p, b, o1, o2⟩ := o
    obtain ⟨q1, q2, q3⟩ := argE_own o1
    obtain ⟨j, p', b', a', z1, z2, z3, z4, z5⟩ := k3 i q1 (by have := hn i q1; omega)
    rw [List.getElem?_map, z4] at o2
    cases o2
    exact ⟨j, p', b', z2, z5⟩
  -- back in the caller
  have back : ∀ {o : PyData} {G' H' : Hp}, Stp X.K c G1 H1 (vs.map some) (argE io ds) G' H' (vs.map some) (argE io (outD io ds o)) → Stp X.K c G1 H1 σ ρ1 G' H' σ (callO io es o ρ1) := by
    intro o G' H' s
    cases io with
    | none =>
      have noO : ∀ a, ¬ Ow (vs.map some) (argE none ds) a := fun a z => by
        obtain ⟨i, p, b, o1, o2⟩ := z
        exact nomatch (argE_own o1).1
      have kp : ∀ a u, H1 a = some u → G1 a = none → H' a = some u ∧ G' a = none := fun a u z1 z2 => s.keep a u z1 z2 (noO a)
      refine ⟨⟨s.env.le, env1.len, fun i d q => ?_, fun i p b q => ?_, env1.nol, env1.inj⟩, s.sh, fun p u z1 z2 _ => kp p u z1 z2, fun a o => .inl o, s.dom, fun i p q => ⟨⟨p, q⟩, rfl⟩⟩
      · obtain ⟨v, ev, r⟩ := env1.sh i d q
        exact ⟨v, ev, r.mono s.sh⟩
      · obtain ⟨a, ea, g1, g2⟩ := env1.own i p b q
        obtain ⟨u, hu⟩ := g2.some
        obtain ⟨z1, z2⟩ := kp a u hu g1
        exact ⟨a, ea, z2, g2.mono s.sh (z1.trans hu.symm)⟩
    | some i =>
      obtain ⟨j, p0, b0, a0, z1, z2, z3, z4, z5⟩ := k3 i rfl (by have := hn i rfl; omega)
      have hj : j < ρ1.length := (List.getElem?_eq_some_iff.mp z2).1
      have eO : callO (some i) es o ρ1 = ρ1.set j (some (.own o b0)) := by
        simp only [callO, z1, z2]
      rw [eO]
      have hi : i < ds.length := (List.getElem?_eq_some_iff.mp z3).1
      have onlyC : ∀ a, Ow (vs.map some) (argE (some i) ds) a → a = a0 := fun a z => by
        obtain ⟨i', p, b, o1, o2⟩ := z
        obtain ⟨q1, _⟩ := argE_own o1
        cases q1
        rw [List.getElem?_map, z4] at o2
        cases o2
        rfl
      have hA : (argE (some i) (outD (some i) ds o))[i]? = some (some (.own o true)) := by
        rw [argE_get]
        simp [outD, hi, slotO]
      obtain ⟨a', ea', g1', g2'⟩ := s.env.own i o true hA
      rw [List.getElem?_map, z4] at ea'
      cases ea'
      have kp : ∀ a u, a ≠ a0 → H1 a = some u → G1 a = none → H' a = some u ∧ G' a = none := fun a u ne z1 z2 => s.keep a u z1 z2 fun z => ne (onlyC a z)
      refine ⟨⟨s.env.le, by rw [List.length_set]; exact env1.len, fun i' d q => ?_, fun i' p b q => ?_, fun i' k q => ?_, fun i' k a p q b d hi' hk ei ek => ?_⟩, s.sh, fun p u y1 y2 y3 => kp p u (fun z => y3 ⟨j, p0, b0, z2, by rw [z]; exact z5⟩) y1 y2, fun a o => ?_, s.dom, fun i' p q => ?_⟩
      · rcases get_set q with ⟨rfl, _, e⟩ | ⟨ne, e⟩
        · cases e
        · obtain ⟨v, ev, r⟩ := env1.sh i' d e
          exact ⟨v, ev, r.mono s.sh⟩
      · rcases get_set q with ⟨rfl, _, e⟩ | ⟨ne, e⟩
        · cases e
          exact ⟨a0, z5, g1', g2'⟩
        · obtain ⟨a, ea, g1, g2⟩ := env1.own i' p b e
          obtain ⟨u, hu⟩ := g2.some
          have na : a ≠ a0 := fun z => by
            subst z
            exact ne (env1.inj i' j a p p0 b b0 e z2 ea z5)
          obtain ⟨y1, y2⟩ := kp a u na hu g1
          exact ⟨a, ea, y2, g2.mono s.sh (y1.trans hu.symm)⟩
      · rcases get_set q with ⟨rfl, _, e⟩ | ⟨ne, e⟩
        · cases e
        · exact env1.nol i' k e
      · have old : ∀ {i' : Nat} {p : PyData} {b : Bool}, (ρ1.set j (some (.own o b0)))[i']? = some (some (.own p b)) → ∃ p' b', ρ1[i']? = some (some (.own p' b')) := fun q => by
          rcases get_set q with ⟨rfl, _, e⟩ | ⟨ne, e⟩
          · exact ⟨p0, b0, z2⟩
          · exact ⟨_, _, e⟩
        obtain ⟨_, _, o1⟩ := old hi'
        obtain ⟨_, _, o2⟩ := old hk
        exact env1.inj i' k a _ _ _ _ o1 o2 ei ek
      · obtain ⟨i', p, b, q, e'⟩ := o
        rcases get_set q with ⟨rfl, _, e⟩ | ⟨ne, e⟩
        · exact .inl ⟨i', p0, b0, z2, e'⟩
        · exact .inl ⟨i', p, b, e, e'⟩
      · by_cases e : j = i'
        · subst e
          rw [z2] at q
          cases q
          exact ⟨⟨o, List.getElem?_set_self hj⟩, rfl⟩
        · rw [List.getElem?_set_ne e]
          exact ⟨⟨p, q⟩, rfl⟩
  refine ⟨G1, ds, hl, hio, envC, ?_⟩
  split at h1
  · exact h1.elim
  · exact h1.elim
  · rename_i r o nl hf
    rw [hf]
    intro v G' H' s ev fv
    have sb := back s
    refine h1 v G' H' (s1.trans sb) ?_ (fv.back s1)
    cases r with
    | sh d => exact ev
    | own p b =>
      obtain ⟨a, rfl, g1, g2, g3⟩ := ev
      refine ⟨a, rfl, g1, g2, fun z => ?_⟩
      have : H1 a = none := fv a rfl
      rcases sb.own a z with z | z
      · obtain ⟨u, hu⟩ := z.at env1
        rw [this] at hu
        cases hu
      · obtain ⟨i, p', b', y1, y2⟩ := ‹Ow σ (callO io es o ρ1) a›
        -- a is new: no name of the caller holds it
        have q := (sb.env.own i p' b' y1)
        obtain ⟨a2, e2, _, _⟩ := q
        rw [y2] at e2
        cases e2
        cases io with
        | none =>
          obtain ⟨u, hu⟩ := Ow.at (σ := σ) (ρ := ρ1) ⟨i, p', b', y1, y2⟩ env1
          rw [this] at hu
          cases hu
        | some i0 =>
          obtain ⟨j, p0, b0, a0, z1, z2, z3, z4, z5⟩ := k3 i0 rfl (by have := hn i0 rfl; omega)
          have eO : callO (some i0) es o ρ1 = ρ1.set j (some (.own o b0)) := by
            simp only [callO, z1, z2]
          rw [eO] at y1
          have : ∃ p b, ρ1[i]? = some (some (.own p b)) := by
            rcases get_set y1 with ⟨rfl, _, e⟩ | ⟨ne, e⟩
            · exact ⟨p0, b0, z2⟩
            · exact ⟨_, _, e⟩
          obtain ⟨p1, b1, q1⟩ := this
          obtain ⟨u, hu⟩ := Ow.at (σ := σ) (ρ := ρ1) ⟨i, p1, b1, q1, y2⟩ env1
          have : H1 a = none := fv a rfl
          rw [this] at hu
          cases hu
    | lnk i => exact absurd rfl (nl i)
  · rename_i k o hf
    rw [hf]
    exact fun G' H' s => h1 G' H' σ (s1.trans (back s))
variable {k n : Nat} {io : Option Nat} {fn : Fn} {x : Str} {p pos : Pos} {e : Expr} {es : List Expr} {m : M (List Ent)}
theorem de_call (F : FnAt X.prog X.w X.K X.mg X.base c k x n io fn) (hn : ∀ i, io = some i → i < n) (hr : Room k X.A) (tk : Takes X W) (hg : Gl X x) (ha : DA X c W (e :: es) m) (hdb : (x == ("__debug__" : Str)) = false := by decide) (he : starEach (e :: es) X.env = (false, eval e X.env) :: starEach es X.env := by rfl) (hpl : (backTo pos (starEach es X.env)).any (·.1) = false := by rfl) :
    DE X c W (.Call (.Name x p) (e :: es) [] pos) (fCall n io fn m) := by
  obtain ⟨f, fd, ps, h1, h2, h3, h4, h5⟩ := F.ex
  exact pe_weak (pe_callS h5 hr hg h1 h2 h3 (passAt tk) ha hdb he hpl) (w_call hn)
/-- raise -/
def fRaise (k : Nat) : S := fun ρ => some (.exc k ρ)
theorem ds_raise (j : Nat) {W : WX} {e : Expr} (hc : X.calm = true) (tk : Takes X W) (he : PMk X e (fun _ H Q => Q (.ref (c j)) none H)) : DS X c W (.Raise (some e) none pos) (fRaise j) := ps_weak (ps_raise hc tk he) fun D σ H h => by
  obtain ⟨G, ρ, env, h⟩ := h
  exact h G H σ (.refl env)
end
end VL

set_option linter.all false
set_option autoImplicit false
set_option maxRecDepth 100000
/-! The value layer, part 8: texts' methods; a few more calls. -/
namespace VL
open PySem L2

section
variable {X : Cx} {c : Nat → Addr} {W : WX} {K : PySem.W.Frag}
def isStr (x : Ent) : M Unit := fun ρ => match rd ρ x with
  | some (.str _) => some (.ok () ρ)
  | _ => none
def fM1 (o : Op2) (f g : M Ent) : M Ent := bnd f fun x => bnd (isStr x) fun _ => bnd g fun y ρ => liftO (o ρ x y) ρ
theorem w_m1 {r : V → List V → Hp → VK → Prop} {o : Op2} {f g : M Ent} (ok : Ok2 X.K c (fun x y H Q => r x [y] H Q) o) (σ : L2.St) (H : Hp) (Q : VK) (h : tD X.K c W (fM1 o f g) σ H Q) : tM1 r (tD X.K c W f) (tD X.K c W g) σ H Q := by
  obtain ⟨G, ρ, env, h⟩ := h
  refine ⟨G, ρ, env, wpM_mono (wpM_bnd.mp h) (fun x ρ1 h1 v G1 H1 s1 e1 _ => ?_) fun _ _ x => x⟩
  have h2 := wpM_bnd.mp h1
  unfold isStr at h2
  split at h2
  · rename_i s er
    refine ⟨⟨s, rd_str s1.env e1 er⟩, G1, ρ1, s1.env, wpM_mono (wpM_bnd.mp h2) (fun y ρ2 h3 u G2 H2 s2 e2 _ => ?_) fun _ _ x => x.back s1⟩
    obtain ⟨e, he, k⟩ := wpM_liftO h3
    exact ok G2 H2 σ ρ2 v u x y e Q s2.env (e1.step s2) e2 he (k.back (s1.trans s2))
  · exact h2.elim
def strsD : List PyData → Option (List Str)
  | [] => some []
  | .str s :: ds => (strsD ds).map (s :: ·)
  | _ :: _ => none
theorem strsD_ok {G : Hp} : ∀ {vs : List V} {ds : List PyData} {ss : List Str}, RpL K G vs ds → strsD ds = some ss → vs = ss.map V.str
  | [], [], ss, _, e => by
    simp only [strsD, Option.some.injEq] at e
    subst e
    rfl
  | v :: vs, .str s :: ds, ss, r, e => by
    simp only [RpL, Rp] at r
    simp only [strsD] at e
    obtain ⟨cs, h1, h2⟩ := Option.map_eq_some_iff.mp e
    subst h2
    rw [r.1, strsD_ok r.2 h1]
    rfl
  | v :: vs, .none :: _, _, _, e => by simp [strsD] at e
  | v :: vs, .int _ :: _, _, _, e => by simp [strsD] at e
  | v :: vs, .bool _ :: _, _, _, e => by simp [strsD] at e
  | v :: vs, .list _ :: _, _, _, e => by simp [strsD] at e
  | v :: vs, .tuple _ :: _, _, _, e => by simp [strsD] at e
  | v :: vs, .dict _ :: _, _, _, e => by simp [strsD] at e
  | [], _ :: _, _, r, _ => by simp only [RpL] at r
  | _ :: _, [], _, r, _ => by simp only [RpL] at r
theorem strsD_map (ss : List Str) : strsD (ss.map .str) = some ss := by
  induction ss with
  | nil => rfl
  | cons b bs ih => simp [strsD, ih]
theorem RpL.strsD {G : Hp} : ∀ ss : List Str, RpL K G (ss.map V.str) (ss.map .str)
  | [] => by simp only [List.map_nil, RpL]
  | s :: ss => by
    simp only [List.map_cons, RpL, Rp]
    exact ⟨trivial, RpL.strsD ss⟩
def oJoin : Op2 := fun ρ x y => match rd ρ x, rd ρ y with
  | some (.str a), some (.list ds) => match strsD ds with
    | some ys => if (ys.map (·.length)).sum + ys.length * a.length ≤ big then some (py (.str (Txt.join a ys))) else none
    | none => none
  | _, _ => none
def oSplit : Op2 := fun ρ x y => match rd ρ x, rd ρ y with
  | some (.str a), some (.str b) => if (b.length == 0) = false ∧ a.length + 2 ≤ big then some (.own (.list ((Txt.split a b).map .str)) false) else none
  | _, _ => none
variable {a e : Expr} {f g : M Ent} {pos apos : Pos}
theorem de_join (ho : DE X c W a f) (he : DE X c W e g) (hs : starEach [e] X.env = [(false, eval e X.env)] := by rfl) (hbase : attributeBase a "join" X.env (eval a X.env) = eval a X.env := by rfl) (hline : (apos.endLine == pos.line) = true := by rfl) :
    DE X c W (.Call (.Attribute a "join" apos) [e] [] pos) (fM1 oJoin f g) := by
  refine pe_weak (pe_join ho he hs hbase hline) (w_m1 ?_)
  intro G H σ ρ v u x y e Q env hx hy ho k
  unfold oJoin at ho
  split at ho
  · rename_i s ds e1 e2
    split at ho
    · rename_i ys hys
      split at ho
      · rename_i hz
        cases ho
        obtain ⟨b, vs, rfl, hb, rb⟩ := rd_list env hy e2
        exact ⟨s, b, ys, rd_str env hx e1, rfl, .inl (SqL.of (by rw [hb, strsD_ok rb hys])), Nat.le_trans hz (by decide), k.flat env (by simp only [Rp])⟩
      · cases ho
    · cases ho
  · cases ho
theorem de_split (ho : DE X c W a f) (he : DE X c W e g) (hs : starEach [e] X.env = [(false, eval e X.env)] := by rfl) (hbase : attributeBase a "split" X.env (eval a X.env) = eval a X.env := by rfl) (hline : (apos.endLine == pos.line) = true := by rfl) :
    DE X c W (.Call (.Attribute a "split" apos) [e] [] pos) (fM1 oSplit f g) := by
  refine pe_weak (pe_split ho he hs hbase hline) (w_m1 ?_)
  intro G H σ ρ v u x y e Q env hx hy ho k
  unfold oSplit at ho
  split at ho
  · rename_i s t e1 e2
    split at ho
    · rename_i hz
      cases ho
      exact ⟨s, t, rd_str env hx e1, by rw [rd_str env hy e2], hz.1, Nat.le_trans hz.2 (by decide), fun p np => k.lst env (RpL.strsD _) np⟩
    · cases ho
  · cases ho
/-- int(x) of a bool or an int -/
def oInt : OpL := fun ρ es => match es with
  | [x] => match rd ρ x with
    | some (.int i) => some (py (.int i))
    | some (.bool b) => some (py (.int (if b then 1 else 0)))
    | _ => none
  | _ => none
theorem ok_int : OkL K c (fun xs H Q => (∃ i, xs = [.int i] ∧ Q (.int i) H) ∨ ∃ k, xs = [.bl k] ∧ Q (.int (if k then 1 else 0)) H) oInt := by
  intro G H σ ρ vs es e Q env hx ho k
  unfold oInt at ho
  split at ho
  · obtain ⟨v, rfl, h⟩ := hx.one
    split at ho
    · rename_i i er
      cases ho
      exact .inl ⟨i, by rw [rd_int env h er], k.flat env (by simp only [Rp])⟩
    · rename_i b er
      cases ho
      exact .inr ⟨b, by rw [rd_bool env h er], k.flat env (by simp only [Rp])⟩
    · cases ho
  · cases ho
variable {es : List Expr} {m : M (List Ent)} {p : Pos}
theorem de_intC (hg : Gl X "int") (hm : X.mg "int" = none) (ha : DA X c W (a :: es) m) (he : starEach (a :: es) X.env = (false, eval a X.env) :: starEach es X.env := by rfl) (hpl : (backTo pos (starEach es X.env)).any (·.1) = false := by rfl) : DE X c W (.Call (.Name "int" p) (a :: es) [] pos) (fBl oInt m) :=
  de_bty call_int1 ok_int hg hm (by decide +kernel) ha (by decide) (by decide) he hpl
/-- max of two ints -/
def oMax2 : OpL := fun ρ es => match es with
  | [x, y] => match rd ρ x, rd ρ y with
    | some (.int i), some (.int j) => some (py (.int (if j > i then j else i)))
    | _, _ => none
  | _ => none
theorem ok_max2 : OkL K c (fun xs H Q => ∃ i j, xs = [.int i, .int j] ∧ Q (.int (if j > i then j else i)) H) oMax2 := by
  intro G H σ ρ vs es e Q env hx ho k
  unfold oMax2 at ho
  split at ho
  · obtain ⟨v, u, rfl, h, h'⟩ := hx.two
    split at ho
    · rename_i i j e1 e2
      cases ho
      exact ⟨i, j, by rw [rd_int env h e1, rd_int env h' e2], k.flat env (by simp only [Rp])⟩
    · cases ho
  · cases ho
theorem de_max2 (hc : X.calm = true) (hg : Gl X "max") (hm : X.mg "max" = none) (ha : DA X c W (a :: es) m) (he : starEach (a :: es) X.env = (false, eval a X.env) :: starEach es X.env := by rfl) (hpl : (backTo pos (starEach es X.env)).any (·.1) = false := by rfl) : DE X c W (.Call (.Name "max" p) (a :: es) [] pos) (fBl oMax2 m) :=
  de_blt (call_max2 hc) ok_max2 hg hm (by decide +kernel) ha (by decide) (by decide) he hpl
end
end VL
namespace VL
open PySem L2
theorem cx_none {P : Program} {w : World} {l : List Env} {H : Hp} {s s' : Shared} {e : Value} (h : L2.CX P w l H s (fun _ _ _ => False) e s') : False := by
  obtain ⟨_, _, _, _, _, _, _, _, _, _, _, _, z⟩ := h
  exact z
/-- the law's promise, from what its def's denotation says -/
theorem law_sp {K : PySem.W.Frag} {c : Nat → Addr} {fn : Fn} (LT : ∀ ns : List Int, ns.length ≤ 63 → fn [.scr ns] = some (.ok (py (.bool true)) .none)) {vs : List V} {H : Hp} {Q : VK} {E : XK} (h : ∃ (a : Addr) (ns : List Int), vs = [.ref a] ∧ SqL K H a (ns.map V.int) ∧ ns.length ≤ 63 ∧ ∀ H', Q (.bl true) H') : spF K c 1 none fn vs H Q E := by
  obtain ⟨a, ns, rfl, hS, hl, q⟩ := h
  refine ⟨H, [.scr ns], rfl, fun i z => (nomatch z), ⟨Same.refl _, rfl, fun i d z => ?_, fun i p b z => ?_, fun i j => argE_nol, fun i j a p q b d hi _ _ _ => nomatch (argE_own hi).1⟩, ?_⟩
  · obtain ⟨z1, _⟩ := argE_sh z
    cases i with
    | zero =>
      cases z1
      exact ⟨.ref a, rfl, by simp only [RpD]; exact ⟨a, rfl, hS⟩⟩
    | succ i => simp at z1
  · exact nomatch (argE_own z).1
  · rw [LT ns hl]
    intro v G' H' s ev _
    simp only [EntOk, RpD, Rp] at ev
    subst ev
    exact q H'
end VL

set_option linter.all false
set_option autoImplicit false
set_option maxRecDepth 100000
/-! The value layer, part 9: how denotations are reckoned. -/
namespace VL
open PySem L2

theorem char_toNat_inj {a b : Char} (h : a.toNat = b.toNat) : a = b := by
  apply Char.ext
  apply UInt32.toNat_inj.mp
  exact h
theorem map_toNat_inj : ∀ {l m : List Char}, l.map Char.toNat = m.map Char.toNat → l = m
  | [], [], _ => rfl
  | [], _ :: _, h => by simp at h
  | _ :: _, [], h => by simp at h
  | a :: l, b :: m, h => by
    simp only [List.map_cons, List.cons.injEq] at h
    rw [char_toNat_inj h.1, map_toNat_inj h.2]
theorem ofString_inj {a b : String} (h : Str.ofString a = Str.ofString b) : a = b := by
  rw [Str.ofString_eq_toList, Str.ofString_eq_toList] at h
  have := congrArg (fun s : Str => s.cps.toList) h
  simp only [List.toList_toArray] at this
  exact String.toList_inj.mp (map_toNat_inj this)
@[simp] theorem ofString_beq (a b : String) : (Str.ofString a == Str.ofString b) = (a == b) := by
  by_cases h : a = b
  · subst h
    simp
  · have : Str.ofString a ≠ Str.ofString b := fun e => h (ofString_inj e)
    rw [beq_eq_false_iff_ne.mpr h, beq_eq_false_iff_ne.mpr this]
@[simp] theorem ofString_eq (a b : String) : (Str.ofString a = Str.ofString b) = (a = b) := propext ⟨ofString_inj, fun h => by rw [h]⟩

/-! ### places -/
theorem atI_nn {α : Type} {xs : List α} {i : Int} (h : 0 ≤ i) : L2.atI xs i = xs[i.toNat]? := by
  unfold L2.atI ixN
  rw [if_pos h]
  by_cases e : i < xs.length
  · rw [if_pos e]
    rfl
  · rw [if_neg e]
    rw [List.getElem?_eq_none (by omega)]
    rfl
@[simp] theorem atI_coe {α : Type} {xs : List α} {n : Nat} : L2.atI xs (n : Int) = xs[n]? := by
  rw [atI_nn (by omega)]
  simp
@[simp] theorem atI_lit {α : Type} {xs : List α} {n : Nat} : L2.atI xs (no_index (OfNat.ofNat n) : Int) = xs[n]? := by
  show L2.atI xs ((n : Nat) : Int) = _
  exact atI_coe
@[simp] theorem atI_zero {α : Type} {xs : List α} : L2.atI xs 0 = xs[0]? := atI_coe (n := 0)
@[simp] theorem atI_one {α : Type} {xs : List α} : L2.atI xs 1 = xs[1]? := atI_coe (n := 1)
theorem atI_neg1 {α : Type} {xs : List α} : L2.atI xs (-1) = xs.getLast? := by
  unfold L2.atI ixN
  rw [if_neg (by decide)]
  cases xs with
  | nil => rfl
  | cons x xs =>
    rw [if_pos (by simp only [List.length_cons]; omega), List.getLast?_eq_getElem?]
    show (x :: xs)[(-1 + ((x :: xs).length : Int)).toNat]? = _
    congr 1
    omega
theorem ixN_nn {n : Nat} {i : Int} (h : 0 ≤ i) (h2 : i < n) : ixN n i = some i.toNat := by
  unfold ixN
  rw [if_pos h, if_pos h2]
theorem ixN_coe {n i : Nat} (h : i < n) : ixN n (i : Int) = some i := by
  rw [ixN_nn (by omega) (by omega)]
  simp
/-! ### slices -/
theorem sIx_nn {n d : Nat} {v : Int} (h : 0 ≤ v) : HT.sIx n d (some v) = min v.toNat n := by
  show (if v < 0 then _ else _) = _
  rw [if_neg (by omega)]
theorem cut_to {α : Type} {xs : List α} {v : Int} (h : 0 ≤ v) : cutL xs none (some v) = xs.take v.toNat := by
  unfold cutL
  rw [HT.sIx_none, sIx_nn h, List.drop_zero, Nat.sub_zero]
  by_cases e : v.toNat ≤ xs.length
  · rw [Nat.min_eq_left e]
  · rw [Nat.min_eq_right (by omega), List.take_length, List.take_of_length_le (by omega)]
theorem cut_from {α : Type} {xs : List α} {v : Int} (h : 0 ≤ v) : cutL xs (some v) none = xs.drop v.toNat := by
  unfold cutL
  rw [HT.sIx_none, sIx_nn h]
  by_cases e : v.toNat ≤ xs.length
  · rw [Nat.min_eq_left e]
    exact List.take_of_length_le (by rw [List.length_drop]; omega)
  · rw [Nat.min_eq_right (by omega), Nat.sub_self, List.take_zero, List.drop_eq_nil_of_le (by omega)]
theorem cut_mid {α : Type} {xs : List α} {u v : Int} (h : 0 ≤ u) (h2 : 0 ≤ v) : cutL xs (some u) (some v) = (xs.take v.toNat).drop u.toNat := by
  unfold cutL
  rw [sIx_nn h, sIx_nn h2, List.drop_take]
  by_cases e : u.toNat ≤ xs.length
  · rw [Nat.min_eq_left e]
    by_cases e2 : v.toNat ≤ xs.length
    · rw [Nat.min_eq_left e2]
    · rw [Nat.min_eq_right (by omega)]
      rw [List.take_of_length_le (l := xs.drop u.toNat) (by rw [List.length_drop]; omega), List.take_of_length_le (l := xs.drop u.toNat) (by rw [List.length_drop]; omega)]
  · rw [Nat.min_eq_right (by omega : xs.length ≤ u.toNat), List.drop_length, List.take_nil, List.drop_eq_nil_of_le (by omega : xs.length ≤ u.toNat), List.take_nil]
/-! ### comprehensions -/
theorem putBack_wipe (ρ : DEnv) (vs : List Nat) : putBack ρ (wipeE ρ vs) vs = ρ := by
  refine List.ext_getElem? fun j => ?_
  rw [putBack_get (by rw [wipeE_length]), wipeE_get]
  split
  · rfl
  · rfl
section
variable {β γ : Type} {tg : Tgt} {tt : M Bool} {te : M Ent} {vs : List Nat}
theorem compGo_map {ρ : DEnv} (g : β → PyData) (h : β → PyData) : ∀ (xs : List β) (acc : List PyData), (∀ x ∈ xs, ∃ ρ2, tg (g x) ρ = some ρ2 ∧ tt ρ2 = some (.ok true ρ2) ∧ fSh te ρ2 = some (.ok (.sh (.py (h x))) ρ2) ∧ wipeE ρ2 vs = ρ) → compGo tg tt te vs (xs.map g) acc ρ = some (acc ++ xs.map h, ρ)
  | [], acc, _ => by simp [compGo]
  | x :: xs, acc, H => by
    obtain ⟨ρ2, h1, h2, h3, h4⟩ := H x List.mem_cons_self
    rw [List.map_cons, compGo, h1]
    simp only [h2, h3, h4]
    rw [compGo_map g h xs (acc ++ [h x]) fun y hy => H y (List.mem_cons_of_mem _ hy)]
    simp
theorem compGo_filter {ρ : DEnv} (g : β → PyData) (p : β → Bool) (h : β → PyData) : ∀ (xs : List β) (acc : List PyData), (∀ x ∈ xs, ∃ ρ2, tg (g x) ρ = some ρ2 ∧ tt ρ2 = some (.ok (p x) ρ2) ∧ (p x = true → fSh te ρ2 = some (.ok (.sh (.py (h x))) ρ2)) ∧ wipeE ρ2 vs = ρ) → compGo tg tt te vs (xs.map g) acc ρ = some (acc ++ (xs.filter p).map h, ρ)
  | [], acc, _ => by simp [compGo]
  | x :: xs, acc, H => by
    obtain ⟨ρ2, h1, h2, h3, h4⟩ := H x List.mem_cons_self
    have ih := fun acc => compGo_filter g p h xs acc fun y hy => H y (List.mem_cons_of_mem _ hy)
    rw [List.map_cons, compGo, h1]
    cases e : p x with
    | true =>
      rw [e] at h2
      simp only [h2, h3 e, h4, ih]
      simp [e]
    | false =>
      rw [e] at h2
      simp only [h2, h4, ih]
      simp [e]
/-- [elt for x in xs]: nothing else changes -/
theorem comp_map {src : M (List PyData)} {ρ ρ1 : DEnv} (xs : List β) (g : β → PyData) (h : β → PyData) (hs : src ρ = some (.ok (xs.map g) ρ1)) (hl : xs.length ≤ big) (hn : noOwn ρ1 vs = true)
    (H : ∀ x ∈ xs, ∃ ρ2, tg (g x) (wipeE ρ1 vs) = some ρ2 ∧ tt ρ2 = some (.ok true ρ2) ∧ fSh te ρ2 = some (.ok (.sh (.py (h x))) ρ2) ∧ wipeE ρ2 vs = wipeE ρ1 vs) :
    fComp src tg tt te vs ρ = some (.ok (.own (.list (xs.map h)) false) ρ1) := by
  unfold fComp
  rw [bnd_ok hs]
  unfold compE
  rw [if_pos ⟨by rw [List.length_map]; exact hl, hn⟩, compGo_map g h xs [] H]
  simp only [List.nil_append, putBack_wipe]
theorem comp_filter {src : M (List PyData)} {ρ ρ1 : DEnv} (xs : List β) (g : β → PyData) (p : β → Bool) (h : β → PyData) (hs : src ρ = some (.ok (xs.map g) ρ1)) (hl : xs.length ≤ big) (hn : noOwn ρ1 vs = true)
    (H : ∀ x ∈ xs, ∃ ρ2, tg (g x) (wipeE ρ1 vs) = some ρ2 ∧ tt ρ2 = some (.ok (p x) ρ2) ∧ (p x = true → fSh te ρ2 = some (.ok (.sh (.py (h x))) ρ2)) ∧ wipeE ρ2 vs = wipeE ρ1 vs) :
    fComp src tg tt te vs ρ = some (.ok (.own (.list ((xs.filter p).map h)) false) ρ1) := by
  unfold fComp
  rw [bnd_ok hs]
  unfold compE
  rw [if_pos ⟨by rw [List.length_map]; exact hl, hn⟩, compGo_filter g p h xs [] H]
  simp only [List.nil_append, putBack_wipe]
/-- a state goes along -/
def mapAcc (f : γ → β → PyData × γ) : γ → List β → List PyData × γ
  | s, [] => ([], s)
  | s, x :: xs => ((f s x).1 :: (mapAcc f (f s x).2 xs).1, (mapAcc f (f s x).2 xs).2)
theorem compGo_acc (env : γ → DEnv) (g : β → PyData) (f : γ → β → PyData × γ) (I : γ → Prop) : ∀ (xs : List β) (acc : List PyData) (s : γ), I s → (∀ x ∈ xs, ∀ s, I s → I (f s x).2 ∧ ∃ ρ2 ρ3, tg (g x) (env s) = some ρ2 ∧ tt ρ2 = some (.ok true ρ2) ∧ fSh te ρ2 = some (.ok (.sh (.py (f s x).1)) ρ3) ∧ wipeE ρ3 vs = env (f s x).2) →
    compGo tg tt te vs (xs.map g) acc (env s) = some (acc ++ (mapAcc f s xs).1, env (mapAcc f s xs).2) ∧ I (mapAcc f s xs).2
  | [], acc, s, i, _ => ⟨by simp [compGo, mapAcc], i⟩
  | x :: xs, acc, s, i, H => by
    obtain ⟨i2, ρ2, ρ3, h1, h2, h3, h4⟩ := H x List.mem_cons_self s i
    obtain ⟨k1, k2⟩ := compGo_acc env g f I xs (acc ++ [(f s x).1]) (f s x).2 i2 fun y hy => H y (List.mem_cons_of_mem _ hy)
    rw [List.map_cons, compGo, h1]
    simp only [h2, h3, h4, k1]
    exact ⟨by simp [mapAcc], k2⟩
/-- .. where the block changes something of the def's -/
theorem comp_acc {src : M (List PyData)} {ρ : DEnv} (env env' : γ → DEnv) (xs : List β) (g : β → PyData) (f : γ → β → PyData × γ) (I : γ → Prop) (s : γ) (i : I s) (hs : src ρ = some (.ok (xs.map g) (env' s))) (hl : xs.length ≤ big) (hn : noOwn (env' s) vs = true) (he : wipeE (env' s) vs = env s)
    (H : ∀ x ∈ xs, ∀ s, I s → I (f s x).2 ∧ ∃ ρ2 ρ3, tg (g x) (env s) = some ρ2 ∧ tt ρ2 = some (.ok true ρ2) ∧ fSh te ρ2 = some (.ok (.sh (.py (f s x).1)) ρ3) ∧ wipeE ρ3 vs = env (f s x).2) (hb : putBack (env' s) (env (mapAcc f s xs).2) vs = env' (mapAcc f s xs).2) :
    fComp src tg tt te vs ρ = some (.ok (.own (.list (mapAcc f s xs).1) false) (env' (mapAcc f s xs).2)) ∧ I (mapAcc f s xs).2 := by
  obtain ⟨k1, k2⟩ := compGo_acc (tg := tg) (tt := tt) (te := te) (vs := vs) env g f I xs [] s i H
  refine ⟨?_, k2⟩
  unfold fComp
  rw [bnd_ok hs]
  unfold compE
  rw [if_pos ⟨by rw [List.length_map]; exact hl, hn⟩, he, k1]
  simp only [List.nil_append, hb]
theorem mapAcc_length (f : γ → β → PyData × γ) : ∀ (xs : List β) (s : γ), (mapAcc f s xs).1.length = xs.length
  | [], _ => rfl
  | x :: xs, s => by simp [mapAcc, mapAcc_length f xs]
/-! ### loops -/
variable {body : S}
/-- a loop whose turns all go on -/
theorem for_fold (env : γ → DEnv) (g : β → PyData) (f : γ → β → γ) (I : γ → Prop) : ∀ (xs : List β) (s : γ), I s → (∀ x ∈ xs, ∀ s, I s → I (f s x) ∧ ∃ ρ2, tg (g x) (env s) = some ρ2 ∧ body ρ2 = some (.ok .nx (env (f s x)))) →
    forGo tg body (xs.map g) (env s) = some (.ok .nx (env (xs.foldl f s))) ∧ I (xs.foldl f s)
  | [], s, i, _ => ⟨rfl, i⟩
  | x :: xs, s, i, H => by
    obtain ⟨i2, ρ2, h1, h2⟩ := H x List.mem_cons_self s i
    obtain ⟨k1, k2⟩ := for_fold env g f I xs (f s x) i2 fun y hy => H y (List.mem_cons_of_mem _ hy)
    rw [List.map_cons, forGo, h1]
    simp only [h2]
    exact ⟨k1, k2⟩
/-- a loop that may end with a return: r tells at which item, and what -/
theorem for_find (env : Option β → DEnv) (g : β → PyData) (r : β → Option Ent) (ρr : β → DEnv) : ∀ (xs : List β) (s : Option β), (∀ x ∈ xs, ∀ s, ∃ ρ2, tg (g x) (env s) = some ρ2 ∧ body ρ2 = match r x with | some e => some (.ok (.rt e) (ρr x)) | none => some (.ok .nx (env (some x)))) →
    forGo tg body (xs.map g) (env s) = match xs.findSome? (fun x => (r x).map fun e => (e, x)) with | some (e, x) => some (.ok (.rt e) (ρr x)) | none => some (.ok .nx (env (match xs.getLast? with | some x => some x | none => s)))
  | [], s, _ => rfl
  | x :: xs, s, H => by
    obtain ⟨ρ2, h1, h2⟩ := H x List.mem_cons_self s
    rw [List.map_cons, forGo, h1]
    cases e : r x with
    | some z =>
      rw [e] at h2
      simp only [h2, List.findSome?_cons, e, Option.map_some]
    | none =>
      rw [e] at h2
      simp only [h2, List.findSome?_cons, e, Option.map_none]
      rw [for_find env g r ρr xs (some x) fun y hy => H y (List.mem_cons_of_mem _ hy)]
      cases xs with
      | nil => rfl
      | cons y ys =>
        obtain ⟨z, hz⟩ : ∃ z, (y :: ys).getLast? = some z := ⟨_, List.getLast?_eq_some_getLast (List.cons_ne_nil y ys)⟩
        rw [List.getLast?_cons_cons, hz]
end
theorem intsD_zero (n : Nat) : intsD 0 1 n = (List.range n).map fun i => .int (i : Nat) := by
  unfold intsD
  refine List.map_congr_left fun i _ => ?_
  simp
@[simp] theorem eqv_str (a b : Str) : PyData.eqv (.str a) (.str b) = (a == b) := by simp only [PyData.eqv]
@[simp] theorem eqv_int (a b : Int) : PyData.eqv (.int a) (.int b) = (a == b) := by simp only [PyData.eqv]
@[simp] theorem eqv_bool (a b : Bool) : PyData.eqv (.bool a) (.bool b) = (a == b) := by simp only [PyData.eqv]
end VL

set_option linter.all false
set_option autoImplicit false
set_option maxRecDepth 100000
/-! The value layer: how simp reckons a denotation, from the left, at a known environment. What waits is a named function, so that nothing in it is looked at too early. -/
namespace VL
open PySem L2
variable {α β : Type}
abbrev OR (α : Type) := Option (Res α)
def evM (r : OR α) (k : α → DEnv → OR β) : OR β := match r with
  | none => none
  | some (.ok a ρ) => k a ρ
  | some (.exc j ρ) => some (.exc j ρ)
@[simp] theorem evM_ok (a : α) (ρ : DEnv) (k : α → DEnv → OR β) : evM (some (.ok a ρ)) k = k a ρ := rfl
@[simp] theorem evM_exc (j : Nat) (ρ : DEnv) (k : α → DEnv → OR β) : evM (some (.exc j ρ)) k = some (.exc j ρ) := rfl
@[simp] theorem evM_none (k : α → DEnv → OR β) : evM none k = none := rfl
theorem bnd_eq (m : M α) (f : α → M β) (ρ : DEnv) : bnd m f ρ = evM (m ρ) fun a ρ' => f a ρ' := by
  unfold bnd evM
  cases m ρ with
  | none => rfl
  | some r => cases r <;> rfl
@[simp ↓] theorem bnd_ap (m : M α) (f : α → M β) (ρ : DEnv) : bnd m f ρ = evM (m ρ) f := bnd_eq m f ρ
@[simp] theorem ret_ap (a : α) (ρ : DEnv) : VL.ret a ρ = some (.ok a ρ) := rfl
def kRet (a : α) (ρ : DEnv) : OR α := some (.ok a ρ)
@[simp] theorem kRet_ap (a : α) (ρ : DEnv) : kRet a ρ = some (.ok a ρ) := rfl
/-- an operation's answer, at the environment -/
def out (ρ : DEnv) (o : Option α) : OR α := match o with
  | some a => some (.ok a ρ)
  | none => none
@[simp] theorem out_some (ρ : DEnv) (a : α) : out ρ (some a) = some (.ok a ρ) := rfl
@[simp] theorem out_none (ρ : DEnv) : out ρ (none : Option α) = none := rfl
theorem liftO_eq (o : Option α) (ρ : DEnv) : liftO o ρ = out ρ o := by cases o <;> rfl
def varE (i : Nat) (ρ : DEnv) : Option (Option Ent) → OR Ent
  | some (some (.sh d)) => some (.ok (.sh d) ρ)
  | some (some (.own _ _)) => some (.ok (.lnk i) ρ)
  | _ => none
@[simp ↓] theorem fVar_ap (i : Nat) (ρ : DEnv) : fVar i ρ = varE i ρ ρ[i]? := rfl
@[simp] theorem varE_sh (i : Nat) (ρ : DEnv) (d : D) : varE i ρ (some (some (.sh d))) = some (.ok (.sh d) ρ) := rfl
@[simp] theorem varE_own (i : Nat) (ρ : DEnv) (p : PyData) (b : Bool) : varE i ρ (some (some (.own p b))) = some (.ok (.lnk i) ρ) := rfl
@[simp] theorem give_sh (d : D) (ρ : DEnv) : give (.sh d) ρ = some (.ok (.sh d) ρ) := rfl
@[simp] theorem give_own (p : PyData) (b : Bool) (ρ : DEnv) : give (.own p b) ρ = some (.ok (py p) ρ) := rfl
@[simp] theorem arg_sh (d : D) (ρ : DEnv) : VL.arg (.sh d) ρ = some (.ok (.sh d) ρ) := rfl
@[simp] theorem arg_own (p : PyData) (b : Bool) (ρ : DEnv) : VL.arg (.own p b) ρ = some (.ok (py p) ρ) := rfl
@[simp] theorem arg_lnk (i : Nat) (ρ : DEnv) : VL.arg (.lnk i) ρ = some (.ok (.lnk i) ρ) := rfl
@[simp ↓] theorem fSh_ap (f : M Ent) (ρ : DEnv) : fSh f ρ = evM (f ρ) give := bnd_eq ..
@[simp ↓] theorem fArg_ap (f : M Ent) (ρ : DEnv) : fArg f ρ = evM (f ρ) VL.arg := bnd_eq ..
def k1 (o : Op1) (x : Ent) (ρ : DEnv) : OR Ent := out ρ (o ρ x)
@[simp ↓] theorem k1_ap (o : Op1) (x : Ent) (ρ : DEnv) : k1 o x ρ = out ρ (o ρ x) := rfl
@[simp ↓] theorem f1_ap (o : Op1) (f : M Ent) (ρ : DEnv) : f1 o f ρ = evM (f ρ) (k1 o) := by
  unfold f1
  rw [bnd_eq]
  congr 1
  funext x ρ'
  exact liftO_eq _ _
def k2b (o : Op2) (x y : Ent) (ρ : DEnv) : OR Ent := out ρ (o ρ x y)
@[simp ↓] theorem k2b_ap (o : Op2) (x y : Ent) (ρ : DEnv) : k2b o x y ρ = out ρ (o ρ x y) := rfl
def k2a (o : Op2) (g : M Ent) (x : Ent) (ρ : DEnv) : OR Ent := evM (g ρ) (k2b o x)
@[simp ↓] theorem k2a_ap (o : Op2) (g : M Ent) (x : Ent) (ρ : DEnv) : k2a o g x ρ = evM (g ρ) (k2b o x) := rfl
@[simp ↓] theorem f2_ap (o : Op2) (f g : M Ent) (ρ : DEnv) : f2 o f g ρ = evM (f ρ) (k2a o g) := by
  unfold f2
  rw [bnd_eq]
  congr 1
  funext x ρ'
  rw [bnd_eq]
  unfold k2a
  congr 1
  funext y ρ''
  exact liftO_eq _ _
/-! what is read -/
@[simp] theorem rd_py (ρ : DEnv) (p : PyData) : rd ρ (.sh (.py p)) = some p := rfl
@[simp] theorem rd_own (ρ : DEnv) (p : PyData) (b : Bool) : rd ρ (.own p b) = some p := rfl
def lnkE : Option (Option Ent) → Option PyData
  | some (some (.own p _)) => some p
  | _ => none
@[simp ↓] theorem rd_lnk (ρ : DEnv) (i : Nat) : rd ρ (.lnk i) = lnkE ρ[i]? := rfl
@[simp] theorem lnkE_own (p : PyData) (b : Bool) : lnkE (some (some (.own p b))) = some p := rfl
/-! tests -/
def boolE (r : Option PyData) (k : Bool → DEnv → OR β) (ρ : DEnv) : OR β := match r with
  | some (.bool b) => k b ρ
  | _ => none
@[simp] theorem boolE_bool (b : Bool) (k : Bool → DEnv → OR β) (ρ : DEnv) : boolE (some (.bool b)) k ρ = k b ρ := rfl
def kB (x : Ent) (ρ : DEnv) : OR Bool := boolE (rd ρ x) kRet ρ
@[simp ↓] theorem kB_ap (x : Ent) (ρ : DEnv) : kB x ρ = boolE (rd ρ x) kRet ρ := rfl
@[simp ↓] theorem fB_ap (f : M Ent) (ρ : DEnv) : fB f ρ = evM (f ρ) kB := by
  unfold fB
  rw [bnd_eq]
  congr 1
def ifM (b : Bool) (m n : M α) (ρ : DEnv) : OR α := if b = true then m ρ else n ρ
@[simp ↓] theorem ifM_true (m n : M α) (ρ : DEnv) : ifM true m n ρ = m ρ := rfl
@[simp ↓] theorem ifM_false (m n : M α) (ρ : DEnv) : ifM false m n ρ = n ρ := rfl
theorem fun_ifM {b : Bool} {m n : M α} {ρ : DEnv} : (if b = true then m else n) ρ = ifM b m n ρ := by cases b <;> rfl
def kAndT (g : M Bool) (b : Bool) (ρ : DEnv) : OR Bool := ifM b g (VL.ret false) ρ
@[simp] theorem kAndT_ap (g : M Bool) (b : Bool) (ρ : DEnv) : kAndT g b ρ = ifM b g (VL.ret false) ρ := rfl
@[simp ↓] theorem fAndT_ap (f g : M Bool) (ρ : DEnv) : fAndT f g ρ = evM (f ρ) (kAndT g) := by
  unfold fAndT
  rw [bnd_eq]
  congr 1
  funext b ρ'
  exact fun_ifM
def kOrT (g : M Bool) (b : Bool) (ρ : DEnv) : OR Bool := ifM b (VL.ret true) g ρ
@[simp] theorem kOrT_ap (g : M Bool) (b : Bool) (ρ : DEnv) : kOrT g b ρ = ifM b (VL.ret true) g ρ := rfl
@[simp ↓] theorem fOrT_ap (f g : M Bool) (ρ : DEnv) : fOrT f g ρ = evM (f ρ) (kOrT g) := by
  unfold fOrT
  rw [bnd_eq]
  congr 1
  funext b ρ'
  exact fun_ifM
def kNotT (b : Bool) (ρ : DEnv) : OR Bool := some (.ok (!b) ρ)
@[simp] theorem kNotT_ap (b : Bool) (ρ : DEnv) : kNotT b ρ = some (.ok (!b) ρ) := rfl
@[simp ↓] theorem fNotT_ap (f : M Bool) (ρ : DEnv) : fNotT f ρ = evM (f ρ) kNotT := bnd_eq ..
def kAnd' (g : M Ent) (b : Bool) (ρ : DEnv) : OR Ent := ifM b g (fC (.bool false)) ρ
@[simp] theorem kAnd'_ap (g : M Ent) (b : Bool) (ρ : DEnv) : kAnd' g b ρ = ifM b g (fC (.bool false)) ρ := rfl
def kAnd (g : M Ent) (x : Ent) (ρ : DEnv) : OR Ent := boolE (rd ρ x) (kAnd' g) ρ
@[simp ↓] theorem kAnd_ap (g : M Ent) (x : Ent) (ρ : DEnv) : kAnd g x ρ = boolE (rd ρ x) (kAnd' g) ρ := rfl
theorem asB_eq (k : Bool → M α) (x : Ent) (ρ : DEnv) : asB k x ρ = boolE (rd ρ x) k ρ := by
  unfold asB boolE
  cases rd ρ x with
  | none => rfl
  | some p => cases p <;> rfl
@[simp ↓] theorem fAnd_ap (f g : M Ent) (ρ : DEnv) : fAnd f g ρ = evM (f ρ) (kAnd g) := by
  unfold fAnd
  rw [bnd_eq]
  congr 1
  funext x ρ'
  rw [asB_eq]
  unfold kAnd
  congr 1
  funext b ρ''
  exact fun_ifM
def kOr' (g : M Ent) (b : Bool) (ρ : DEnv) : OR Ent := ifM b (fC (.bool true)) g ρ
@[simp] theorem kOr'_ap (g : M Ent) (b : Bool) (ρ : DEnv) : kOr' g b ρ = ifM b (fC (.bool true)) g ρ := rfl
def kOr (g : M Ent) (x : Ent) (ρ : DEnv) : OR Ent := boolE (rd ρ x) (kOr' g) ρ
@[simp ↓] theorem kOr_ap (g : M Ent) (x : Ent) (ρ : DEnv) : kOr g x ρ = boolE (rd ρ x) (kOr' g) ρ := rfl
@[simp ↓] theorem fOr_ap (f g : M Ent) (ρ : DEnv) : fOr f g ρ = evM (f ρ) (kOr g) := by
  unfold fOr
  rw [bnd_eq]
  congr 1
  funext x ρ'
  rw [asB_eq]
  unfold kOr
  congr 1
  funext b ρ''
  exact fun_ifM
def kNot' (b : Bool) (ρ : DEnv) : OR Ent := some (.ok (py (.bool (!b))) ρ)
@[simp] theorem kNot'_ap (b : Bool) (ρ : DEnv) : kNot' b ρ = some (.ok (py (.bool (!b))) ρ) := rfl
def kNot (x : Ent) (ρ : DEnv) : OR Ent := boolE (rd ρ x) kNot' ρ
@[simp ↓] theorem kNot_ap (x : Ent) (ρ : DEnv) : kNot x ρ = boolE (rd ρ x) kNot' ρ := rfl
@[simp ↓] theorem fNot_ap (f : M Ent) (ρ : DEnv) : fNot f ρ = evM (f ρ) kNot := by
  unfold fNot
  rw [bnd_eq]
  congr 1
def kIfE (f g : M Ent) (b : Bool) (ρ : DEnv) : OR Ent := ifM b f g ρ
@[simp] theorem kIfE_ap (f g : M Ent) (b : Bool) (ρ : DEnv) : kIfE f g b ρ = ifM b f g ρ := rfl
@[simp ↓] theorem fIfE_ap (p : M Bool) (f g : M Ent) (ρ : DEnv) : fIfE p f g ρ = evM (p ρ) (kIfE f g) := by
  unfold fIfE
  rw [bnd_eq]
  congr 1
  funext b ρ'
  exact fun_ifM
def kCh4 (o' : Op2) (y w : Ent) (ρ : DEnv) : OR Ent := out ρ (o' ρ y w)
@[simp ↓] theorem kCh4_ap (o' : Op2) (y w : Ent) (ρ : DEnv) : kCh4 o' y w ρ = out ρ (o' ρ y w) := rfl
def kCh3t (o' : Op2) (k : M Ent) (y : Ent) : M Ent := fun ρ => evM (k ρ) (kCh4 o' y)
@[simp ↓] theorem kCh3t_ap (o' : Op2) (k : M Ent) (y : Ent) (ρ : DEnv) : kCh3t o' k y ρ = evM (k ρ) (kCh4 o' y) := rfl
def kCh3 (o' : Op2) (k : M Ent) (y : Ent) (b : Bool) (ρ : DEnv) : OR Ent := ifM b (kCh3t o' k y) (fC (.bool false)) ρ
@[simp] theorem kCh3_ap (o' : Op2) (k : M Ent) (y : Ent) (b : Bool) (ρ : DEnv) : kCh3 o' k y b ρ = ifM b (kCh3t o' k y) (fC (.bool false)) ρ := rfl
def chO (o' : Op2) (k : M Ent) (y : Ent) (ρ : DEnv) : Option Ent → OR Ent
  | some z => boolE (rd ρ z) (kCh3 o' k y) ρ
  | none => none
@[simp] theorem chO_some (o' : Op2) (k : M Ent) (y : Ent) (ρ : DEnv) (z : Ent) : chO o' k y ρ (some z) = boolE (rd ρ z) (kCh3 o' k y) ρ := rfl
def kCh2 (o o' : Op2) (k : M Ent) (x y : Ent) (ρ : DEnv) : OR Ent := chO o' k y ρ (o ρ x y)
@[simp ↓] theorem kCh2_ap (o o' : Op2) (k : M Ent) (x y : Ent) (ρ : DEnv) : kCh2 o o' k x y ρ = chO o' k y ρ (o ρ x y) := rfl
def kCh1 (o o' : Op2) (g k : M Ent) (x : Ent) (ρ : DEnv) : OR Ent := evM (g ρ) (kCh2 o o' k x)
@[simp ↓] theorem kCh1_ap (o o' : Op2) (g k : M Ent) (x : Ent) (ρ : DEnv) : kCh1 o o' g k x ρ = evM (g ρ) (kCh2 o o' k x) := rfl
@[simp ↓] theorem fChain_ap (o o' : Op2) (f g k : M Ent) (ρ : DEnv) : fChain o o' f g k ρ = evM (f ρ) (kCh1 o o' g k) := by
  unfold fChain
  rw [bnd_eq]
  congr 1
  funext x ρ1
  rw [bnd_eq]
  unfold kCh1
  congr 1
  funext y ρ2
  unfold kCh2
  cases o ρ2 x y with
  | none => rfl
  | some z =>
    show asB _ z ρ2 = _
    rw [asB_eq]
    show _ = boolE (rd ρ2 z) _ ρ2
    congr 1
    funext b ρ3
    rw [fun_ifM]
    cases b with
    | false => rfl
    | true =>
      show bnd k _ ρ3 = evM (k ρ3) _
      rw [bnd_eq]
      congr 1
      funext w ρ4
      exact liftO_eq _ _
/-! arguments, displays -/
@[simp] theorem fNil_ap (ρ : DEnv) : fNil ρ = some (.ok [] ρ) := rfl
def kC3 (e : Ent) (es : List Ent) (ρ : DEnv) : OR (List Ent) := some (.ok (e :: es) ρ)
@[simp] theorem kC3_ap (e : Ent) (es : List Ent) (ρ : DEnv) : kC3 e es ρ = some (.ok (e :: es) ρ) := rfl
def kC2 (r : M (List Ent)) (e : Ent) (ρ : DEnv) : OR (List Ent) := evM (r ρ) (kC3 e)
@[simp ↓] theorem kC2_ap (r : M (List Ent)) (e : Ent) (ρ : DEnv) : kC2 r e ρ = evM (r ρ) (kC3 e) := rfl
def kC1 (r : M (List Ent)) (e : Ent) (ρ : DEnv) : OR (List Ent) := evM (VL.arg e ρ) (kC2 r)
@[simp ↓] theorem kC1_ap (r : M (List Ent)) (e : Ent) (ρ : DEnv) : kC1 r e ρ = evM (VL.arg e ρ) (kC2 r) := rfl
theorem evM_evM {γ : Type} (r : OR α) (k : α → DEnv → OR β) (k' : β → DEnv → OR γ) : evM (evM r k) k' = evM r fun a ρ => evM (k a ρ) k' := by
  unfold evM
  cases r with
  | none => rfl
  | some x => cases x <;> rfl
@[simp ↓] theorem fCons_ap (f : M Ent) (r : M (List Ent)) (ρ : DEnv) : fCons f r ρ = evM (f ρ) (kC1 r) := by
  unfold fCons
  rw [bnd_eq, fArg_ap, evM_evM]
  congr 1
@[simp] theorem pys_nil : pys [] = some [] := rfl
def consO (p : α) : Option (List α) → Option (List α)
  | some ps => some (p :: ps)
  | none => none
@[simp] theorem consO_some (p : α) (ps : List α) : consO p (some ps) = some (p :: ps) := rfl
@[simp] theorem pys_cons (p : PyData) (es : List Ent) : pys (.sh (.py p) :: es) = consO p (pys es) := by
  show (match pys es with | some ps => some (p :: ps) | none => none) = _
  cases pys es <;> rfl
def tupO (ρ : DEnv) : Option (List PyData) → OR Ent
  | some ps => if ps.length ≤ 1000 then some (.ok (py (.tuple ps)) ρ) else none
  | none => none
@[simp] theorem tupO_some (ρ : DEnv) (ps : List PyData) : tupO ρ (some ps) = if ps.length ≤ 1000 then some (.ok (py (.tuple ps)) ρ) else none := rfl
def kTup (es : List Ent) (ρ : DEnv) : OR Ent := tupO ρ (pys es)
@[simp ↓] theorem kTup_ap (es : List Ent) (ρ : DEnv) : kTup es ρ = tupO ρ (pys es) := rfl
@[simp ↓] theorem fTup_ap (r : M (List Ent)) (ρ : DEnv) : fTup r ρ = evM (r ρ) kTup := by
  unfold fTup
  rw [bnd_eq]
  congr 1
def lstO (ρ : DEnv) : Option (List PyData) → OR Ent
  | some ps => if ps.length ≤ 1000 then some (.ok (.own (.list ps) false) ρ) else none
  | none => none
@[simp] theorem lstO_some (ρ : DEnv) (ps : List PyData) : lstO ρ (some ps) = if ps.length ≤ 1000 then some (.ok (.own (.list ps) false) ρ) else none := rfl
def kLst (es : List Ent) (ρ : DEnv) : OR Ent := lstO ρ (pys es)
@[simp ↓] theorem kLst_ap (es : List Ent) (ρ : DEnv) : kLst es ρ = lstO ρ (pys es) := rfl
@[simp ↓] theorem fLst_ap (r : M (List Ent)) (ρ : DEnv) : fLst r ρ = evM (r ρ) kLst := by
  unfold fLst
  rw [bnd_eq]
  congr 1
/-! operators -/
section
variable (ρ : DEnv) (x y : Ent)
/-- an operation by the data -/
def by2 (k : PyData → PyData → Option Ent) : Option PyData → Option PyData → Option Ent
  | some p, some q => k p q
  | _, _ => none
@[simp] theorem by2_some (k : PyData → PyData → Option Ent) (p q : PyData) : by2 k (some p) (some q) = k p q := rfl
def by1 (k : PyData → Option Ent) : Option PyData → Option Ent
  | some p => k p
  | _ => none
@[simp] theorem by1_some (k : PyData → Option Ent) (p : PyData) : by1 k (some p) = k p := rfl
def dAdd : PyData → PyData → Option Ent
  | .int i, .int j => some (py (.int (i + j)))
  | .str s, .str t => if s.length + t.length ≤ big then some (py (.str (s ++ t))) else none
  | .list xs, .list ys => if xs.length + ys.length ≤ big then some (.own (.list (xs ++ ys)) false) else none
  | .tuple xs, .tuple ys => if xs.length + ys.length ≤ big then some (py (.tuple (xs ++ ys))) else none
  | _, _ => none
@[simp ↓] theorem oAdd_by : oAdd ρ x y = by2 dAdd (rd ρ x) (rd ρ y) := by
  unfold oAdd
  cases rd ρ x with
  | none => rfl
  | some p =>
    cases rd ρ y with
    | none => cases p <;> rfl
    | some q => cases p <;> cases q <;> rfl
@[simp] theorem dAdd_int (i j : Int) : dAdd (.int i) (.int j) = some (py (.int (i + j))) := rfl
@[simp] theorem dAdd_str (s t : Str) : dAdd (.str s) (.str t) = if s.length + t.length ≤ big then some (py (.str (s ++ t))) else none := rfl
@[simp] theorem dAdd_list (s t : List PyData) : dAdd (.list s) (.list t) = if s.length + t.length ≤ big then some (.own (.list (s ++ t)) false) else none := rfl
@[simp] theorem dAdd_tuple (s t : List PyData) : dAdd (.tuple s) (.tuple t) = if s.length + t.length ≤ big then some (py (.tuple (s ++ t))) else none := rfl
def dSub : PyData → PyData → Option Ent
  | .int i, .int j => some (py (.int (i - j)))
  | _, _ => none
@[simp ↓] theorem oSub_by : oSub ρ x y = by2 dSub (rd ρ x) (rd ρ y) := by
  unfold oSub
  cases rd ρ x with
  | none => rfl
  | some p =>
    cases rd ρ y with
    | none => cases p <;> rfl
    | some q => cases p <;> cases q <;> rfl
@[simp] theorem dSub_int (i j : Int) : dSub (.int i) (.int j) = some (py (.int (i - j))) := rfl
def dMul : PyData → PyData → Option Ent
  | .int i, .int j => if (-(2 ^ 64) < i ∧ i < 2 ^ 64) ∨ (-(2 ^ 64) < j ∧ j < 2 ^ 64) then some (py (.int (i * j))) else none
  | .list xs, .int j => if 0 ≤ j ∧ j < 1000000 ∧ xs.length * j.toNat ≤ big then some (.own (.list (List.replicate j.toNat xs).flatten) false) else none
  | _, _ => none
@[simp ↓] theorem oMul_by : oMul ρ x y = by2 dMul (rd ρ x) (rd ρ y) := by
  unfold oMul
  cases rd ρ x with
  | none => rfl
  | some p =>
    cases rd ρ y with
    | none => cases p <;> rfl
    | some q => cases p <;> cases q <;> rfl
@[simp] theorem dMul_int (i j : Int) : dMul (.int i) (.int j) = if (-(2 ^ 64) < i ∧ i < 2 ^ 64) ∨ (-(2 ^ 64) < j ∧ j < 2 ^ 64) then some (py (.int (i * j))) else none := rfl
@[simp] theorem dMul_list (xs : List PyData) (j : Int) : dMul (.list xs) (.int j) = if 0 ≤ j ∧ j < 1000000 ∧ xs.length * j.toNat ≤ big then some (.own (.list (List.replicate j.toNat xs).flatten) false) else none := rfl
def dMod : PyData → PyData → Option Ent
  | .int i, .int j => if 0 < j then some (py (.int (i % j))) else none
  | _, _ => none
@[simp ↓] theorem oMod_by : oMod ρ x y = by2 dMod (rd ρ x) (rd ρ y) := by
  unfold oMod
  cases rd ρ x with
  | none => rfl
  | some p =>
    cases rd ρ y with
    | none => cases p <;> rfl
    | some q => cases p <;> cases q <;> rfl
@[simp] theorem dMod_int (i j : Int) : dMod (.int i) (.int j) = if 0 < j then some (py (.int (i % j))) else none := rfl
def dDiv : PyData → PyData → Option Ent
  | .int i, .int j => if 0 < j ∧ j < 1073741824 then some (py (.int (i / j))) else none
  | _, _ => none
@[simp ↓] theorem oDiv_by : oDiv ρ x y = by2 dDiv (rd ρ x) (rd ρ y) := by
  unfold oDiv
  cases rd ρ x with
  | none => rfl
  | some p =>
    cases rd ρ y with
    | none => cases p <;> rfl
    | some q => cases p <;> cases q <;> rfl
@[simp] theorem dDiv_int (i j : Int) : dDiv (.int i) (.int j) = if 0 < j ∧ j < 1073741824 then some (py (.int (i / j))) else none := rfl
def dNeg : PyData → Option Ent
  | .int i => some (py (.int (-i)))
  | _ => none
@[simp ↓] theorem oNeg_by : oNeg ρ x = by1 dNeg (rd ρ x) := by
  unfold oNeg
  cases rd ρ x with
  | none => rfl
  | some p => cases p <;> rfl
@[simp] theorem dNeg_int (i : Int) : dNeg (.int i) = some (py (.int (-i))) := rfl
def dEq (p q : PyData) : Option Ent := if eqOk p q = true then some (py (.bool (PyData.eqv p q))) else none
def dNe (p q : PyData) : Option Ent := if eqOk p q = true then some (py (.bool (!PyData.eqv p q))) else none
@[simp ↓] theorem oEq_by : oEq ρ x y = by2 dEq (rd ρ x) (rd ρ y) := by
  unfold oEq
  cases rd ρ x with
  | none => rfl
  | some p => cases rd ρ y <;> rfl
@[simp ↓] theorem oNe_by : oNe ρ x y = by2 dNe (rd ρ x) (rd ρ y) := by
  unfold oNe
  cases rd ρ x with
  | none => rfl
  | some p => cases rd ρ y <;> rfl
@[simp] theorem dEq_int (i j : Int) : dEq (.int i) (.int j) = some (py (.bool (i == j))) := by simp [dEq, eqOk, scalP]
@[simp] theorem dEq_str (i j : Str) : dEq (.str i) (.str j) = some (py (.bool (i == j))) := by simp [dEq, eqOk, scalP]
@[simp] theorem dEq_bool (i j : Bool) : dEq (.bool i) (.bool j) = some (py (.bool (i == j))) := by simp [dEq, eqOk, scalP]
@[simp] theorem dNe_int (i j : Int) : dNe (.int i) (.int j) = some (py (.bool (!(i == j)))) := by simp [dNe, eqOk, scalP]
@[simp] theorem dNe_str (i j : Str) : dNe (.str i) (.str j) = some (py (.bool (!(i == j)))) := by simp [dNe, eqOk, scalP]
@[simp] theorem dNe_bool (i j : Bool) : dNe (.bool i) (.bool j) = some (py (.bool (!(i == j)))) := by simp [dNe, eqOk, scalP]
theorem dEq_ok {p q : PyData} (h1 : SeqAt.shaped p = true) (h2 : SeqAt.shaped q = true) : dEq p q = some (py (.bool (PyData.eqv p q))) := by simp [dEq, eqOk, h1, h2]
theorem dNe_ok {p q : PyData} (h1 : SeqAt.shaped p = true) (h2 : SeqAt.shaped q = true) : dNe p q = some (py (.bool (!PyData.eqv p q))) := by simp [dNe, eqOk, h1, h2]
def dI (f : Int → Int → Bool) : PyData → PyData → Option Ent
  | .int i, .int j => some (py (.bool (f i j)))
  | _, _ => none
theorem oI_by (f : Int → Int → Bool) : oI f ρ x y = by2 (dI f) (rd ρ x) (rd ρ y) := by
  unfold oI
  cases rd ρ x with
  | none => rfl
  | some p =>
    cases rd ρ y with
    | none => cases p <;> rfl
    | some q => cases p <;> cases q <;> rfl
@[simp ↓] theorem oLt_by : oLt ρ x y = by2 (dI fun i j => decide (i < j)) (rd ρ x) (rd ρ y) := oI_by ..
@[simp ↓] theorem oLe_by : oLe ρ x y = by2 (dI fun i j => decide (i ≤ j)) (rd ρ x) (rd ρ y) := oI_by ..
@[simp ↓] theorem oGt_by : oGt ρ x y = by2 (dI fun i j => decide (j < i)) (rd ρ x) (rd ρ y) := oI_by ..
@[simp ↓] theorem oGe_by : oGe ρ x y = by2 (dI fun i j => decide (j ≤ i)) (rd ρ x) (rd ρ y) := oI_by ..
@[simp] theorem dI_int (f : Int → Int → Bool) (i j : Int) : dI f (.int i) (.int j) = some (py (.bool (f i j))) := rfl
@[simp] theorem oIsN_py (neg : Bool) (p : PyData) : oIsN neg ρ (.sh (.py p)) = some (py (.bool (isNo p != neg))) := rfl
def dIn (neg : Bool) : PyData → PyData → Option Ent
  | p, .list ds => if inOk p ds true = true then some (py (.bool (memP p ds != neg))) else none
  | p, .tuple ds => if inOk p ds false = true then some (py (.bool (memP p ds != neg))) else none
  | .str s, .str t => match s.cps.toList with
    | [n] => some (py (.bool (decide (n ∈ t.cps.toList) != neg)))
    | _ => none
  | _, _ => none
@[simp ↓] theorem oIn_by (neg : Bool) : oIn neg ρ x y = by2 (dIn neg) (rd ρ x) (rd ρ y) := by
  unfold oIn
  cases rd ρ x with
  | none => cases rd ρ y <;> rfl
  | some p =>
    cases rd ρ y with
    | none => cases p <;> rfl
    | some q => cases q <;> cases p <;> rfl
@[simp] theorem dIn_list (neg : Bool) (p : PyData) (ds : List PyData) : dIn neg p (.list ds) = if inOk p ds true = true then some (py (.bool (memP p ds != neg))) else none := by cases p <;> rfl
@[simp] theorem dIn_tuple (neg : Bool) (p : PyData) (ds : List PyData) : dIn neg p (.tuple ds) = if inOk p ds false = true then some (py (.bool (memP p ds != neg))) else none := by cases p <;> rfl
@[simp] theorem dIn_str (neg : Bool) (n : Nat) (t : Str) : dIn neg (.str ⟨#[n]⟩) (.str t) = some (py (.bool (decide (n ∈ t.cps.toList) != neg))) := rfl
theorem inOk_flat {p : PyData} {ds : List PyData} {l : Bool} (h1 : flatP p = true) (h2 : ds.all flatP = true) : inOk p ds l = true := by simp [inOk, h1, h2]
theorem inOk_shaped {p : PyData} {ds : List PyData} (h1 : SeqAt.shaped p = true) (h2 : SeqAt.shaped (.list ds) = true) : inOk p ds true = true := by simp [inOk, h1, h2]
/-! subscripts -/
def dIx : PyData → PyData → Option Ent
  | .list ds, .int i => (L2.atI ds i).map py
  | .tuple ds, .int i => (L2.atI ds i).map py
  | .str s, .int i => if s.length ≤ big then (L2.atI s.cps.toList i).map fun n => py (.str ⟨#[n]⟩) else none
  | _, _ => none
@[simp ↓] theorem oIx_scr (ns : List Int) (i : Int) : oIx ρ (.sh (.scr ns)) (.sh (.py (.int i))) = (L2.atI ns i).map fun n => py (.int n) := rfl
@[simp ↓] theorem oIx_py (p : PyData) : oIx ρ (.sh (.py p)) y = by2 dIx (some p) (rd ρ y) := by
  unfold oIx
  cases rd ρ y with
  | none => rfl
  | some q => cases q <;> first | rfl | (cases p <;> rfl)
@[simp ↓] theorem oIx_own (p : PyData) (b : Bool) : oIx ρ (.own p b) y = by2 dIx (some p) (rd ρ y) := by
  unfold oIx
  cases rd ρ y with
  | none => rfl
  | some q => cases q <;> first | rfl | (cases p <;> rfl)
@[simp ↓] theorem oIx_lnk (i : Nat) : oIx ρ (.lnk i) y = by2 dIx (lnkE ρ[i]?) (rd ρ y) := by
  rw [← rd_lnk]
  unfold oIx
  cases rd ρ y with
  | none => cases rd ρ (.lnk i) <;> rfl
  | some q =>
    cases rd ρ (.lnk i) with
    | none => cases q <;> rfl
    | some p => cases q <;> cases p <;> rfl
@[simp] theorem dIx_list (ds : List PyData) (i : Int) : dIx (.list ds) (.int i) = (L2.atI ds i).map py := rfl
@[simp] theorem dIx_tuple (ds : List PyData) (i : Int) : dIx (.tuple ds) (.int i) = (L2.atI ds i).map py := rfl
@[simp] theorem dIx_str (s : Str) (i : Int) : dIx (.str s) (.int i) = if s.length ≤ big then (L2.atI s.cps.toList i).map fun n => py (.str ⟨#[n]⟩) else none := rfl
/-! slices -/
@[simp] theorem fNoP_ap : fNoP ρ = some (.ok none ρ) := rfl
def intE (r : Option PyData) (ρ : DEnv) : OR (Option Int) := match r with
  | some (.int b) => some (.ok (some b) ρ)
  | _ => none
@[simp] theorem intE_int (b : Int) : intE (some (.int b)) ρ = some (.ok (some b) ρ) := rfl
def kP (x : Ent) (ρ : DEnv) : OR (Option Int) := intE (rd ρ x) ρ
@[simp ↓] theorem kP_ap : kP x ρ = intE (rd ρ x) ρ := rfl
@[simp ↓] theorem fP_ap (f : M Ent) : fP f ρ = evM (f ρ) kP := by
  unfold fP
  rw [bnd_eq]
  congr 1
def dSl (lo hi : Option Int) : PyData → Option Ent
  | .list ds => some (.own (.list (cutL ds lo hi)) false)
  | .tuple ds => some (py (.tuple (cutL ds lo hi)))
  | .str s => if s.length ≤ big then some (py (.str (cutS s lo hi))) else none
  | _ => none
@[simp ↓] theorem oSl_by (lo hi : Option Int) : oSl ρ x lo hi = by1 (dSl lo hi) (rd ρ x) := by
  unfold oSl
  cases rd ρ x with
  | none => rfl
  | some p => cases p <;> rfl
@[simp] theorem dSl_list (lo hi : Option Int) (ds : List PyData) : dSl lo hi (.list ds) = some (.own (.list (cutL ds lo hi)) false) := rfl
@[simp] theorem dSl_tuple (lo hi : Option Int) (ds : List PyData) : dSl lo hi (.tuple ds) = some (py (.tuple (cutL ds lo hi))) := rfl
@[simp] theorem dSl_str (lo hi : Option Int) (s : Str) : dSl lo hi (.str s) = if s.length ≤ big then some (py (.str (cutS s lo hi))) else none := rfl
def kSl3 (x : Ent) (lo hi : Option Int) (ρ : DEnv) : OR Ent := out ρ (oSl ρ x lo hi)
@[simp ↓] theorem kSl3_ap (lo hi : Option Int) : kSl3 x lo hi ρ = out ρ (oSl ρ x lo hi) := rfl
def kSl2 (h : M (Option Int)) (x : Ent) (lo : Option Int) (ρ : DEnv) : OR Ent := evM (h ρ) (kSl3 x lo)
@[simp ↓] theorem kSl2_ap (h : M (Option Int)) (lo : Option Int) : kSl2 h x lo ρ = evM (h ρ) (kSl3 x lo) := rfl
def kSl1 (l h : M (Option Int)) (x : Ent) (ρ : DEnv) : OR Ent := evM (l ρ) (kSl2 h x)
@[simp ↓] theorem kSl1_ap (l h : M (Option Int)) : kSl1 l h x ρ = evM (l ρ) (kSl2 h x) := rfl
@[simp ↓] theorem fSl_ap (f : M Ent) (l h : M (Option Int)) : fSl f l h ρ = evM (f ρ) (kSl1 l h) := by
  unfold fSl
  rw [bnd_eq]
  congr 1
  funext x ρ1
  rw [bnd_eq]
  unfold kSl1
  congr 1
  funext lo ρ2
  rw [bnd_eq]
  unfold kSl2
  congr 1
  funext hi ρ3
  exact liftO_eq _ _
/-! built-ins -/
def kBl (o : OpL) (es : List Ent) (ρ : DEnv) : OR Ent := out ρ (o ρ es)
@[simp ↓] theorem kBl_ap (o : OpL) (es : List Ent) : kBl o es ρ = out ρ (o ρ es) := rfl
@[simp ↓] theorem fBl_ap (o : OpL) (r : M (List Ent)) : fBl o r ρ = evM (r ρ) (kBl o) := by
  unfold fBl
  rw [bnd_eq]
  congr 1
  funext es ρ'
  exact liftO_eq _ _
def dLen : PyData → Option Ent
  | .list ds => some (py (.int ds.length))
  | .tuple ds => some (py (.int ds.length))
  | .str s => if s.length ≤ big then some (py (.int s.length)) else none
  | _ => none
@[simp ↓] theorem oLen_scr (ns : List Int) : oLen ρ [.sh (.scr ns)] = some (py (.int ns.length)) := rfl
@[simp ↓] theorem oLen_py (p : PyData) : oLen ρ [.sh (.py p)] = dLen p := by cases p <;> rfl
@[simp ↓] theorem oLen_lnk (i : Nat) : oLen ρ [.lnk i] = by1 dLen (lnkE ρ[i]?) := by
  rw [← rd_lnk]
  unfold oLen
  dsimp only
  cases rd ρ (.lnk i) with
  | none => rfl
  | some p => cases p <;> rfl
@[simp] theorem dLen_list (ds : List PyData) : dLen (.list ds) = some (py (.int ds.length)) := rfl
@[simp] theorem dLen_tuple (ds : List PyData) : dLen (.tuple ds) = some (py (.int ds.length)) := rfl
@[simp] theorem dLen_str (s : Str) : dLen (.str s) = if s.length ≤ big then some (py (.int s.length)) else none := rfl
def dList : PyData → Option Ent
  | .list ds => some (.own (.list ds) false)
  | .tuple ds => some (.own (.list ds) false)
  | _ => none
@[simp ↓] theorem oList_by : oList ρ [x] = by1 dList (rd ρ x) := by
  unfold oList
  dsimp only
  cases rd ρ x with
  | none => rfl
  | some p => cases p <;> rfl
@[simp] theorem dList_list (ds : List PyData) : dList (.list ds) = some (.own (.list ds) false) := rfl
@[simp] theorem dList_tuple (ds : List PyData) : dList (.tuple ds) = some (.own (.list ds) false) := rfl
def dTuple : PyData → Option Ent
  | .list ds => some (py (.tuple ds))
  | .tuple ds => some (py (.tuple ds))
  | _ => none
@[simp ↓] theorem oTuple_by : oTuple ρ [x] = by1 dTuple (rd ρ x) := by
  unfold oTuple
  dsimp only
  cases rd ρ x with
  | none => rfl
  | some p => cases p <;> rfl
@[simp] theorem dTuple_list (ds : List PyData) : dTuple (.list ds) = some (py (.tuple ds)) := rfl
@[simp] theorem dTuple_tuple (ds : List PyData) : dTuple (.tuple ds) = some (py (.tuple ds)) := rfl
def dQuant (q : List Bool → Bool) : PyData → Option Ent
  | .list ds => (bools ds).map fun bs => py (.bool (q bs))
  | _ => none
@[simp ↓] theorem oQuant_by (q : List Bool → Bool) : oQuant q ρ [x] = by1 (dQuant q) (rd ρ x) := by
  unfold oQuant
  dsimp only
  cases rd ρ x with
  | none => rfl
  | some p => cases p <;> rfl
@[simp] theorem dQuant_list (q : List Bool → Bool) (bs : List Bool) : dQuant q (.list (bs.map .bool)) = some (py (.bool (q bs))) := by
  unfold dQuant
  simp only
  rw [bools_map]
  rfl
@[simp] theorem fTy_ap (n : String) : fTy n ρ = some (.ok (.sh (.ty n)) ρ) := rfl
def dIsi (n : String) (p : PyData) : Option Ent := (isiT p n).map fun b => py (.bool b)
@[simp ↓] theorem oIsi_by (n : String) : oIsi ρ [x, .sh (.ty n)] = by1 (dIsi n) (rd ρ x) := by
  unfold oIsi
  dsimp only
  cases rd ρ x with
  | none => rfl
  | some p => cases p <;> rfl
@[simp] theorem dIsi_dict (n : String) (b : List (PyData × PyData)) : dIsi n (.dict b) = (isiT (.dict b) n).map fun b => py (.bool b) := rfl
@[simp] theorem dIsi_bool (n : String) (b : Bool) : dIsi n (.bool b) = (isiT (.bool b) n).map fun b => py (.bool b) := rfl
@[simp] theorem dIsi_int (n : String) (b : Int) : dIsi n (.int b) = (isiT (.int b) n).map fun b => py (.bool b) := rfl
@[simp] theorem dIsi_str (n : String) (b : Str) : dIsi n (.str b) = (isiT (.str b) n).map fun b => py (.bool b) := rfl
@[simp] theorem dIsi_none (n : String) : dIsi n .none = (isiT .none n).map fun b => py (.bool b) := rfl
@[simp] theorem dIsi_list (n : String) (b : List PyData) : dIsi n (.list b) = (isiT (.list b) n).map fun b => py (.bool b) := rfl
@[simp] theorem dIsi_tuple (n : String) (b : List PyData) : dIsi n (.tuple b) = (isiT (.tuple b) n).map fun b => py (.bool b) := rfl
def dInt : PyData → Option Ent
  | .int i => some (py (.int i))
  | .bool b => some (py (.int (if b then 1 else 0)))
  | _ => none
@[simp ↓] theorem oInt_by : oInt ρ [x] = by1 dInt (rd ρ x) := by
  unfold oInt
  dsimp only
  cases rd ρ x with
  | none => rfl
  | some p => cases p <;> rfl
@[simp] theorem dInt_int (i : Int) : dInt (.int i) = some (py (.int i)) := rfl
@[simp] theorem dInt_bool (b : Bool) : dInt (.bool b) = some (py (.int (if b then 1 else 0))) := rfl
def dMax2 : PyData → PyData → Option Ent
  | .int i, .int j => some (py (.int (if j > i then j else i)))
  | _, _ => none
@[simp ↓] theorem oMax2_by : oMax2 ρ [x, y] = by2 dMax2 (rd ρ x) (rd ρ y) := by
  unfold oMax2
  dsimp only
  cases rd ρ x with
  | none => cases rd ρ y <;> rfl
  | some p =>
    cases rd ρ y with
    | none => cases p <;> rfl
    | some q => cases p <;> cases q <;> rfl
@[simp] theorem dMax2_int (i j : Int) : dMax2 (.int i) (.int j) = some (py (.int (if j > i then j else i))) := rfl
/-! texts -/
def kM3 (o : Op2) (x y : Ent) (ρ : DEnv) : OR Ent := out ρ (o ρ x y)
@[simp ↓] theorem kM3_ap (o : Op2) : kM3 o x y ρ = out ρ (o ρ x y) := rfl
def kM2 (o : Op2) (g : M Ent) (x : Ent) (_ : Unit) (ρ : DEnv) : OR Ent := evM (g ρ) (kM3 o x)
@[simp ↓] theorem kM2_ap (o : Op2) (g : M Ent) (u : Unit) : kM2 o g x u ρ = evM (g ρ) (kM3 o x) := rfl
def kM1 (o : Op2) (g : M Ent) (x : Ent) (ρ : DEnv) : OR Ent := evM (isStr x ρ) (kM2 o g x)
@[simp ↓] theorem kM1_ap (o : Op2) (g : M Ent) : kM1 o g x ρ = evM (isStr x ρ) (kM2 o g x) := rfl
@[simp ↓] theorem fM1_ap (o : Op2) (f g : M Ent) : fM1 o f g ρ = evM (f ρ) (kM1 o g) := by
  unfold fM1
  rw [bnd_eq]
  congr 1
  funext x ρ1
  rw [bnd_eq]
  unfold kM1
  congr 1
  funext u ρ2
  rw [bnd_eq]
  unfold kM2
  congr 1
  funext y ρ3
  exact liftO_eq _ _
@[simp] theorem isStr_py (s : Str) : isStr (.sh (.py (.str s))) ρ = some (.ok () ρ) := rfl
def dJoin : PyData → PyData → Option Ent
  | .str a, .list ds => match strsD ds with
    | some ys => if (ys.map (·.length)).sum + ys.length * a.length ≤ big then some (py (.str (Txt.join a ys))) else none
    | none => none
  | _, _ => none
@[simp ↓] theorem oJoin_by : oJoin ρ x y = by2 dJoin (rd ρ x) (rd ρ y) := by
  unfold oJoin
  cases rd ρ x with
  | none => rfl
  | some p =>
    cases rd ρ y with
    | none => cases p <;> rfl
    | some q => cases p <;> cases q <;> rfl
@[simp] theorem dJoin_list (a : Str) (ys : List Str) : dJoin (.str a) (.list (ys.map .str)) = if (ys.map (·.length)).sum + ys.length * a.length ≤ big then some (py (.str (Txt.join a ys))) else none := by
  unfold dJoin
  simp only
  rw [strsD_map]
def dSplit : PyData → PyData → Option Ent
  | .str a, .str b => if (b.length == 0) = false ∧ a.length + 2 ≤ big then some (.own (.list ((Txt.split a b).map .str)) false) else none
  | _, _ => none
@[simp ↓] theorem oSplit_by : oSplit ρ x y = by2 dSplit (rd ρ x) (rd ρ y) := by
  unfold oSplit
  cases rd ρ x with
  | none => rfl
  | some p =>
    cases rd ρ y with
    | none => cases p <;> rfl
    | some q => cases p <;> cases q <;> rfl
@[simp] theorem dSplit_str (a b : Str) : dSplit (.str a) (.str b) = if (b.length == 0) = false ∧ a.length + 2 ≤ big then some (.own (.list ((Txt.split a b).map .str)) false) else none := rfl
end
/-! statements -/
section
variable (ρ : DEnv)
def evS (r : OR Fl) (g : S) : OR Fl := match r with
  | some (.ok .nx ρ) => g ρ
  | r => r
@[simp] theorem evS_nx (ρ : DEnv) (g : S) : evS (some (.ok .nx ρ)) g = g ρ := rfl
@[simp] theorem evS_rt (e : Ent) (ρ : DEnv) (g : S) : evS (some (.ok (.rt e) ρ)) g = some (.ok (.rt e) ρ) := rfl
@[simp] theorem evS_bk (ρ : DEnv) (g : S) : evS (some (.ok .bk ρ)) g = some (.ok .bk ρ) := rfl
@[simp] theorem evS_ct (ρ : DEnv) (g : S) : evS (some (.ok .ct ρ)) g = some (.ok .ct ρ) := rfl
@[simp] theorem evS_exc (j : Nat) (ρ : DEnv) (g : S) : evS (some (.exc j ρ)) g = some (.exc j ρ) := rfl
@[simp] theorem evS_none (g : S) : evS none g = none := rfl
@[simp] theorem fNx_ap : fNx ρ = some (.ok .nx ρ) := rfl
@[simp ↓] theorem sq_ap (f g : S) : sq f g ρ = evS (f ρ) g := by
  unfold sq
  rw [bnd_eq]
  unfold evM evS
  cases f ρ with
  | none => rfl
  | some r =>
    cases r with
    | exc j ρ' => rfl
    | ok fl ρ' => cases fl <;> rfl
def kDrop (_ : Ent) (ρ : DEnv) : OR Fl := some (.ok .nx ρ)
@[simp] theorem kDrop_ap (x : Ent) : kDrop x ρ = some (.ok .nx ρ) := rfl
@[simp ↓] theorem fDrop_ap (f : M Ent) : fDrop f ρ = evM (f ρ) kDrop := bnd_eq ..
def kRt (x : Ent) (ρ : DEnv) : OR Fl := some (.ok (.rt x) ρ)
@[simp] theorem kRt_ap (x : Ent) : kRt x ρ = some (.ok (.rt x) ρ) := rfl
@[simp ↓] theorem fRet_ap (f : M Ent) : fRet f ρ = evM (f ρ) kRt := bnd_eq ..
def kIf (f g : S) (b : Bool) (ρ : DEnv) : OR Fl := ifM b f g ρ
@[simp] theorem kIf_ap (f g : S) (b : Bool) : kIf f g b ρ = ifM b f g ρ := rfl
@[simp ↓] theorem fIf_ap (p : M Bool) (f g : S) : fIf p f g ρ = evM (p ρ) (kIf f g) := by
  unfold fIf
  rw [bnd_eq]
  congr 1
  funext b ρ'
  exact fun_ifM
def pinE : Option (Option Ent) → Bool
  | some (some (.own _ true)) => true
  | _ => false
@[simp] theorem pinE_none : pinE none = false := rfl
@[simp] theorem pinE_nn : pinE (some none) = false := rfl
@[simp] theorem pinE_sh (d : D) : pinE (some (some (.sh d))) = false := rfl
@[simp] theorem pinE_own (p : PyData) (b : Bool) : pinE (some (some (.own p b))) = b := by cases b <;> rfl
def setR (i : Nat) (ρ : DEnv) (b : Bool) (e : Ent) : Option DEnv := if b = true then none else match e with
  | .sh d => some (ρ.set i (some (.sh d)))
  | .own p _ => some (ρ.set i (some (.own p false)))
  | .lnk _ => none
@[simp] theorem setR_sh (i : Nat) (ρ : DEnv) (d : D) : setR i ρ false (.sh d) = some (ρ.set i (some (.sh d))) := rfl
@[simp] theorem setR_own (i : Nat) (ρ : DEnv) (p : PyData) (b : Bool) : setR i ρ false (.own p b) = some (ρ.set i (some (.own p false))) := rfl
@[simp ↓] theorem setE_ap (i : Nat) (e : Ent) : setE i e ρ = setR i ρ (pinE ρ[i]?) e := rfl
def nxO (o : Option DEnv) : OR Fl := match o with
  | some ρ => some (.ok .nx ρ)
  | none => none
@[simp] theorem nxO_some : nxO (some ρ) = some (.ok .nx ρ) := rfl
def kSet (i : Nat) (x : Ent) (ρ : DEnv) : OR Fl := nxO (setE i x ρ)
@[simp ↓] theorem kSet_ap (i : Nat) (x : Ent) : kSet i x ρ = nxO (setE i x ρ) := rfl
@[simp ↓] theorem fSet_ap (i : Nat) (f : M Ent) : fSet i f ρ = evM (f ρ) (kSet i) := by
  unfold fSet
  rw [bnd_eq]
  congr 1
@[simp ↓] theorem gNm_ap (i : Nat) (d : PyData) : gNm i d ρ = setE i (py d) ρ := rfl
@[simp] theorem gsNil_ap : gsNil [] ρ = some ρ := rfl
def evD (r : Tgts) (ds : List PyData) (o : Option DEnv) : Option DEnv := match o with
  | some ρ => r ds ρ
  | none => none
@[simp] theorem evD_some (r : Tgts) (ds : List PyData) : evD r ds (some ρ) = r ds ρ := rfl
@[simp ↓] theorem gsCons_ap (g : Tgt) (r : Tgts) (d : PyData) (ds : List PyData) : gsCons g r (d :: ds) ρ = evD r ds (g d ρ) := by
  unfold gsCons evD
  first
    | (simp only; done)
    | (simp only; cases g d ρ <;> rfl)
@[simp ↓] theorem gTp_ap (n : Nat) (g : Tgts) (ds : List PyData) : gTp n g (.tuple ds) ρ = if ds.length = n then g ds ρ else none := rfl
def kAsg (g : Tgt) (x : Ent) (ρ : DEnv) : OR Fl := match x with
  | .sh (.py d) => nxO (g d ρ)
  | _ => none
@[simp] theorem kAsg_py (g : Tgt) (d : PyData) : kAsg g (.sh (.py d)) ρ = nxO (g d ρ) := rfl
@[simp ↓] theorem fAsg_ap (f : M Ent) (g : Tgt) : fAsg f g ρ = evM (f ρ) (kAsg g) := by
  unfold fAsg
  rw [bnd_eq]
  congr 1
/-! what is owned -/
def lstE (r : Option PyData) (k : M Ent) (ρ : DEnv) : OR Ent := match r with
  | some (.list ds) => k ρ
  | _ => none
@[simp] theorem lstE_list (ds : List PyData) (k : M Ent) : lstE (some (.list ds)) k ρ = k ρ := rfl
def kMet2 (o : Ent → List Ent → M Ent) (m : M (List Ent)) (x : Ent) : M Ent := fun ρ => evM (m ρ) (o x)
@[simp ↓] theorem kMet2_ap (o : Ent → List Ent → M Ent) (m : M (List Ent)) (x : Ent) : kMet2 o m x ρ = evM (m ρ) (o x) := rfl
def kMet1 (o : Ent → List Ent → M Ent) (m : M (List Ent)) (x : Ent) (ρ : DEnv) : OR Ent := lstE (rd ρ x) (kMet2 o m x) ρ
@[simp ↓] theorem kMet1_ap (o : Ent → List Ent → M Ent) (m : M (List Ent)) (x : Ent) : kMet1 o m x ρ = lstE (rd ρ x) (kMet2 o m x) ρ := rfl
@[simp ↓] theorem fMet_ap (o : Ent → List Ent → M Ent) (f : M Ent) (m : M (List Ent)) : fMet o f m ρ = evM (f ρ) (kMet1 o m) := by
  unfold fMet
  rw [bnd_eq]
  congr 1
  funext x ρ1
  rw [bnd_eq]
  unfold kMet1 isLst lstE
  cases rd ρ1 x with
  | none => rfl
  | some p => cases p <;> first | rfl | exact bnd_eq ..
def appL (i : Nat) (d : PyData) (ρ : DEnv) (r : Option (Option Ent)) : OR Ent := match r with
  | some (some (.own (.list ds) b)) => if ds.length < big then some (.ok (py .none) (ρ.set i (some (.own (.list (ds ++ [d])) b)))) else none
  | _ => none
@[simp] theorem appL_own (i : Nat) (d : PyData) (ds : List PyData) (b : Bool) : appL i d ρ (some (some (.own (.list ds) b))) = if ds.length < big then some (.ok (py .none) (ρ.set i (some (.own (.list (ds ++ [d])) b)))) else none := rfl
@[simp ↓] theorem appE_ap (i : Nat) (d : PyData) : appE (.lnk i) [.sh (.py d)] ρ = appL i d ρ ρ[i]? := rfl
def kPut3 (x v i : Ent) (ρ : DEnv) : OR Fl := putE x i v ρ
@[simp ↓] theorem kPut3_ap (x v i : Ent) : kPut3 x v i ρ = putE x i v ρ := rfl
def kPut2 (fi : M Ent) (v x : Ent) (ρ : DEnv) : OR Fl := evM (fi ρ) (kPut3 x v)
@[simp ↓] theorem kPut2_ap (fi : M Ent) (v x : Ent) : kPut2 fi v x ρ = evM (fi ρ) (kPut3 x v) := rfl
def kPut1 (fo fi : M Ent) (v : Ent) (ρ : DEnv) : OR Fl := evM (fo ρ) (kPut2 fi v)
@[simp ↓] theorem kPut1_ap (fo fi : M Ent) (v : Ent) : kPut1 fo fi v ρ = evM (fo ρ) (kPut2 fi v) := rfl
@[simp ↓] theorem fPut_ap (fv fo fi : M Ent) : fPut fv fo fi ρ = evM (fSh fv ρ) (kPut1 fo fi) := by
  unfold fPut
  rw [bnd_eq]
  congr 1
def putL (n : Nat) (k : Int) (d : PyData) (ρ : DEnv) (r : Option (Option Ent)) : OR Fl := match r with
  | some (some (.own (.list ds) b)) => match ixN ds.length k with
    | some j => some (.ok .nx (ρ.set n (some (.own (.list (ds.set j d)) b))))
    | none => none
  | _ => none
theorem putL_own (n : Nat) (k : Int) (d : PyData) (ds : List PyData) (b : Bool) {j : Nat} (h : ixN ds.length k = some j) : putL n k d ρ (some (some (.own (.list ds) b))) = some (.ok .nx (ρ.set n (some (.own (.list (ds.set j d)) b)))) := by
  simp only [putL, h]
@[simp] theorem putL_zero (n : Nat) (d x : PyData) (ds : List PyData) (b : Bool) : putL n 0 d ρ (some (some (.own (.list (x :: ds)) b))) = some (.ok .nx (ρ.set n (some (.own (.list (d :: ds)) b)))) := by
  rw [putL_own (j := 0)]
  · rfl
  · unfold ixN
    rw [if_pos (by decide), if_pos (by simp only [List.length_cons]; omega)]
    rfl
@[simp ↓] theorem putE_ap (n : Nat) (k : Int) (d : PyData) : putE (.lnk n) (.sh (.py (.int k))) (.sh (.py d)) ρ = putL n k d ρ ρ[n]? := rfl
/-! loops -/
@[simp] theorem items_list (ds : List PyData) : items (.sh (.py (.list ds))) ρ = some (.ok ds ρ) := rfl
@[simp] theorem items_tuple (ds : List PyData) : items (.sh (.py (.tuple ds))) ρ = some (.ok ds ρ) := rfl
@[simp] theorem items_str (s : Str) : items (.sh (.py (.str s))) ρ = some (.ok (signs s) ρ) := rfl
@[simp ↓] theorem fItems_ap (f : M Ent) : fItems f ρ = evM (fSh f ρ) items := bnd_eq ..
@[simp ↓] theorem fFor_ap (src : M (List PyData)) (tg : Tgt) (body : S) : fFor src tg body ρ = evM (src ρ) (forGo tg body) := bnd_eq ..
@[simp] theorem rng1_ap (j : Int) : rng1 [.sh (.py (.int j))] ρ = if inRng j = true then some (.ok (intsD 0 1 j.toNat) ρ) else none := rfl
@[simp] theorem rng2_ap (i j : Int) : rng2 [.sh (.py (.int i)), .sh (.py (.int j))] ρ = if (inRng i && inRng j) = true then some (.ok (intsD i 1 (j - i).toNat) ρ) else none := rfl
@[simp] theorem rng3_ap (i j : Int) : rng3 [.sh (.py (.int i)), .sh (.py (.int j)), .sh (.py (.int (-1)))] ρ = if (inRng i && inRng j) = true then some (.ok (intsD i (-1) (i - j).toNat) ρ) else none := rfl
@[simp] theorem zipE_ap (xs ys : List PyData) : zipE [.sh (.py (.list xs)), .sh (.py (.list ys))] ρ = some (.ok (pairs xs ys) ρ) := rfl
@[simp] theorem enumE_ap (xs : List PyData) : enumE [.sh (.py (.list xs))] ρ = some (.ok (enumD xs) ρ) := rfl
/-! defs -/
def rtF (io : Option PyData) (r : Option Ent) : Option FR := match io, r with
  | some o, some r => some (.ok r o)
  | _, _ => none
@[simp] theorem rtF_some (o : PyData) (r : Ent) : rtF (some o) (some r) = some (.ok r o) := rfl
def excF (j : Nat) : Option PyData → Option FR
  | some o => some (.exc j o)
  | _ => none
@[simp] theorem excF_some (j : Nat) (o : PyData) : excF j (some o) = some (.exc j o) := rfl
def finF (io : Option Nat) (r : OR Fl) : Option FR := match r with
  | some (.ok .nx ρ) => rtF (outOf io ρ) (some (py .none))
  | some (.ok (.rt e) ρ) => rtF (outOf io ρ) (resE ρ e)
  | some (.exc k ρ) => excF k (outOf io ρ)
  | _ => none
@[simp] theorem finF_nx (io : Option Nat) : finF io (some (.ok .nx ρ)) = rtF (outOf io ρ) (some (py .none)) := rfl
@[simp] theorem finF_rt (io : Option Nat) (e : Ent) : finF io (some (.ok (.rt e) ρ)) = rtF (outOf io ρ) (resE ρ e) := rfl
@[simp] theorem finF_exc (io : Option Nat) (k : Nat) : finF io (some (.exc k ρ)) = excF k (outOf io ρ) := rfl
theorem fnOf_eq (n : Nat) (io : Option Nat) (body : S) (ds : List D) : fnOf n io body ds = finF io (body (argE io ds ++ List.replicate (n - ds.length) none)) := by
  unfold fnOf finF
  cases body (argE io ds ++ List.replicate (n - ds.length) none) with
  | none => rfl
  | some r =>
    cases r with
    | exc k ρ => cases h : outOf io ρ <;> simp [excF, h]
    | ok fl ρ =>
      cases fl with
      | nx => cases h : outOf io ρ <;> simp [rtF, h]
      | rt e => cases h : outOf io ρ <;> cases h2 : resE ρ e <;> simp [rtF, h, h2]
      | bk => rfl
      | ct => rfl
@[simp] theorem argE_nil (io : Option Nat) : argE io [] = [] := by cases io with
  | none => rfl
  | some n => cases n <;> rfl
@[simp] theorem argE_none (d : D) (ds : List D) : argE none (d :: ds) = some (.sh d) :: argE none ds := rfl
@[simp] theorem argE_zero (p : PyData) (ds : List D) : argE (some 0) (.py p :: ds) = some (.own p true) :: argE none ds := rfl
@[simp] theorem argE_one (d : D) (ds : List D) : argE (some 1) (d :: ds) = some (.sh d) :: argE (some 0) ds := rfl
@[simp] theorem outOf_none : outOf none ρ = some .none := rfl
def outE : Option (Option Ent) → Option PyData
  | some (some (.own p true)) => some p
  | _ => none
@[simp] theorem outE_own (p : PyData) : outE (some (some (.own p true))) = some p := rfl
@[simp ↓] theorem outOf_some (i : Nat) : outOf (some i) ρ = outE ρ[i]? := rfl
@[simp] theorem resE_sh (d : D) : resE ρ (.sh d) = some (.sh d) := rfl
@[simp] theorem resE_own (p : PyData) (b : Bool) : resE ρ (.own p b) = some (.own p false) := rfl
def resL : Option (Option Ent) → Option Ent
  | some (some (.own p false)) => some (.own p false)
  | _ => none
@[simp] theorem resL_own (p : PyData) : resL (some (some (.own p false))) = some (.own p false) := rfl
@[simp ↓] theorem resE_lnk (i : Nat) : resE ρ (.lnk i) = resL ρ[i]? := rfl
/-! calls -/
@[simp] theorem callA_nil (io : Option Nat) : callA io ρ [] = some [] := rfl
@[simp] theorem callA_none (d : D) (es : List Ent) : callA none ρ (.sh d :: es) = consO d (callA none ρ es) := by
  rw [callA]
  simp only [arg1, ioTl]
  cases callA none ρ es <;> rfl
def pyO : Option PyData → Option (List D) → Option (List D)
  | some p, some ds => some (.py p :: ds)
  | _, _ => none
@[simp] theorem pyO_some (p : PyData) (ds : List D) : pyO (some p) (some ds) = some (.py p :: ds) := rfl
@[simp ↓] theorem callA_zero (i : Nat) (es : List Ent) : callA (some 0) ρ (.lnk i :: es) = pyO (lnkE ρ[i]?) (callA none ρ es) := by
  rw [callA]
  simp only [arg1, ioTl]
  cases h : ρ[i]? with
  | none => cases callA none ρ es <;> rfl
  | some o =>
    cases o with
    | none => cases callA none ρ es <;> rfl
    | some e => cases e <;> cases callA none ρ es <;> rfl
@[simp] theorem callA_one (d : D) (es : List Ent) : callA (some 1) ρ (.sh d :: es) = consO d (callA (some 0) ρ es) := by
  rw [callA]
  simp only [arg1, ioTl]
  cases callA (some 0) ρ es <;> rfl
def ownB (o : PyData) (j : Nat) (ρ : DEnv) : Option (Option Ent) → DEnv
  | some (some (.own _ b)) => ρ.set j (some (.own o b))
  | _ => ρ
@[simp] theorem ownB_own (o p : PyData) (j : Nat) (b : Bool) : ownB o j ρ (some (some (.own p b))) = ρ.set j (some (.own o b)) := rfl
@[simp] theorem callO_none (es : List Ent) (o : PyData) : callO none es o ρ = ρ := rfl
@[simp ↓] theorem callO_one (e : Ent) (j : Nat) (es : List Ent) (o : PyData) : callO (some 1) (e :: .lnk j :: es) o ρ = ownB o j ρ ρ[j]? := rfl
@[simp ↓] theorem callO_zero (j : Nat) (es : List Ent) (o : PyData) : callO (some 0) (.lnk j :: es) o ρ = ownB o j ρ ρ[j]? := rfl
/-- what a callee hands back -/
def evF (io : Option Nat) (es : List Ent) (ρ : DEnv) (r : Option FR) : OR Ent := match r with
  | some (.ok (.sh d) o) => some (.ok (.sh d) (callO io es o ρ))
  | some (.ok (.own p b) o) => some (.ok (.own p b) (callO io es o ρ))
  | some (.exc j o) => some (.exc j (callO io es o ρ))
  | _ => none
@[simp] theorem evF_sh (io : Option Nat) (es : List Ent) (d : D) (o : PyData) : evF io es ρ (some (.ok (.sh d) o)) = some (.ok (.sh d) (callO io es o ρ)) := rfl
@[simp] theorem evF_own (io : Option Nat) (es : List Ent) (p : PyData) (b : Bool) (o : PyData) : evF io es ρ (some (.ok (.own p b) o)) = some (.ok (.own p b) (callO io es o ρ)) := rfl
@[simp] theorem evF_exc (io : Option Nat) (es : List Ent) (j : Nat) (o : PyData) : evF io es ρ (some (.exc j o)) = some (.exc j (callO io es o ρ)) := rfl
def caO (n : Nat) (io : Option Nat) (fn : Fn) (es : List Ent) (ρ : DEnv) : Option (List D) → OR Ent
  | some ds => if ds.length = n then evF io es ρ (fn ds) else none
  | none => none
@[simp] theorem caO_some (n : Nat) (io : Option Nat) (fn : Fn) (es : List Ent) (ds : List D) : caO n io fn es ρ (some ds) = if ds.length = n then evF io es ρ (fn ds) else none := rfl
def kCall (n : Nat) (io : Option Nat) (fn : Fn) (es : List Ent) (ρ : DEnv) : OR Ent := caO n io fn es ρ (callA io ρ es)
@[simp ↓] theorem kCall_ap (n : Nat) (io : Option Nat) (fn : Fn) (es : List Ent) : kCall n io fn es ρ = caO n io fn es ρ (callA io ρ es) := rfl
@[simp ↓] theorem fCall_ap (n : Nat) (io : Option Nat) (fn : Fn) (m : M (List Ent)) : fCall n io fn m ρ = evM (m ρ) (kCall n io fn) := by
  unfold fCall
  rw [bnd_eq]
  congr 1
  funext es ρ'
  unfold callE kCall caO
  cases callA io ρ' es with
  | none => rfl
  | some ds =>
    simp only
    split
    · cases fn ds with
      | none => rfl
      | some r =>
        cases r with
        | exc k o => rfl
        | ok r o => cases r <;> rfl
    · rfl
@[simp] theorem fRaise_ap (k : Nat) : fRaise k ρ = some (.exc k ρ) := rfl
def whE (p : M Bool) (body : S) (n : Nat) : OR Fl → OR Fl
  | some (.ok .nx ρ2) => fWhile p body n ρ2
  | some (.ok .ct ρ2) => fWhile p body n ρ2
  | some (.ok .bk ρ2) => some (.ok .nx ρ2)
  | r => r
@[simp] theorem whE_nx (p : M Bool) (body : S) (n : Nat) : whE p body n (some (.ok .nx ρ)) = fWhile p body n ρ := rfl
@[simp] theorem whE_ct (p : M Bool) (body : S) (n : Nat) : whE p body n (some (.ok .ct ρ)) = fWhile p body n ρ := rfl
@[simp] theorem whE_bk (p : M Bool) (body : S) (n : Nat) : whE p body n (some (.ok .bk ρ)) = some (.ok .nx ρ) := rfl
@[simp] theorem whE_rt (p : M Bool) (body : S) (n : Nat) (e : Ent) : whE p body n (some (.ok (.rt e) ρ)) = some (.ok (.rt e) ρ) := rfl
def kWh (p : M Bool) (body : S) (n : Nat) : S := fun ρ => whE p body n (body ρ)
theorem kWh_ap (p : M Bool) (body : S) (n : Nat) : kWh p body n ρ = whE p body n (body ρ) := rfl
theorem fWhile_succ (p : M Bool) (body : S) (n : Nat) : fWhile p body (n + 1) ρ = evM (p ρ) (kIf (kWh p body n) fNx) := by
  rw [fWhile, bnd_eq]
  congr 1
  funext b ρ1
  rw [fun_ifM]
  cases b with
  | false => rfl
  | true =>
    show bnd body _ ρ1 = whE p body n (body ρ1)
    rw [bnd_eq]
    unfold evM whE
    cases body ρ1 with
    | none => rfl
    | some r =>
      cases r with
      | exc j ρ2 => rfl
      | ok fl ρ2 => cases fl <;> rfl
end
end VL
namespace VL
open PySem L2
/-! ### loops and comprehensions at hand -/
section
variable {β : Type} (ρ : DEnv) (tg : Tgt) (body : S)
@[simp] theorem wipeE_nil : wipeE ρ [] = ρ := rfl
@[simp] theorem wipeE_cons (v : Nat) (vs : List Nat) : wipeE ρ (v :: vs) = (wipeE ρ vs).set v none := rfl
def forB (ds : List PyData) : OR Fl → OR Fl
  | some (.ok .nx ρ2) => forGo tg body ds ρ2
  | some (.ok .ct ρ2) => forGo tg body ds ρ2
  | some (.ok .bk ρ2) => some (.ok .nx ρ2)
  | r => r
@[simp] theorem forB_nx (ds : List PyData) : forB tg body ds (some (.ok .nx ρ)) = forGo tg body ds ρ := rfl
@[simp] theorem forB_ct (ds : List PyData) : forB tg body ds (some (.ok .ct ρ)) = forGo tg body ds ρ := rfl
@[simp] theorem forB_bk (ds : List PyData) : forB tg body ds (some (.ok .bk ρ)) = some (.ok .nx ρ) := rfl
@[simp] theorem forB_rt (ds : List PyData) (e : Ent) : forB tg body ds (some (.ok (.rt e) ρ)) = some (.ok (.rt e) ρ) := rfl
@[simp] theorem forB_exc (ds : List PyData) (j : Nat) : forB tg body ds (some (.exc j ρ)) = some (.exc j ρ) := rfl
def forA (ds : List PyData) : Option DEnv → OR Fl
  | some ρ1 => forB tg body ds (body ρ1)
  | none => none
@[simp] theorem forA_some (ds : List PyData) : forA tg body ds (some ρ) = forB tg body ds (body ρ) := rfl
@[simp] theorem forGo_nil : forGo tg body [] ρ = some (.ok .nx ρ) := rfl
@[simp ↓] theorem forGo_cons (d : PyData) (ds : List PyData) : forGo tg body (d :: ds) ρ = forA tg body ds (tg d ρ) := by
  rw [forGo]
  unfold forA
  cases tg d ρ with
  | none => rfl
  | some ρ1 =>
    unfold forB
    simp only
    cases body ρ1 with
    | none => rfl
    | some r =>
      cases r with
      | exc j ρ2 => rfl
      | ok fl ρ2 => cases fl <;> rfl
variable {src : M (List PyData)} {tt : M Bool} {te : M Ent} {vs : List Nat} {tg} {ρ}
/-- a comprehension whose source changes nothing -/
theorem comp_pure (xs : List β) (g : β → PyData) (h : β → PyData) (hs : src ρ = some (.ok (xs.map g) ρ)) (hl : xs.length ≤ big) (hn : noOwn ρ vs = true)
    (H : ∀ x ∈ xs, ∃ ρ2, tg (g x) (wipeE ρ vs) = some ρ2 ∧ tt ρ2 = some (.ok true ρ2) ∧ fSh te ρ2 = some (.ok (.sh (.py (h x))) ρ2) ∧ wipeE ρ2 vs = wipeE ρ vs) :
    fComp src tg tt te vs ρ = some (.ok (.own (.list (xs.map h)) false) ρ) := comp_map xs g h hs hl hn H
theorem comp_pureF (xs : List β) (g : β → PyData) (p : β → Bool) (h : β → PyData) (hs : src ρ = some (.ok (xs.map g) ρ)) (hl : xs.length ≤ big) (hn : noOwn ρ vs = true)
    (H : ∀ x ∈ xs, ∃ ρ2, tg (g x) (wipeE ρ vs) = some ρ2 ∧ tt ρ2 = some (.ok (p x) ρ2) ∧ (p x = true → fSh te ρ2 = some (.ok (.sh (.py (h x))) ρ2)) ∧ wipeE ρ2 vs = wipeE ρ vs) :
    fComp src tg tt te vs ρ = some (.ok (.own (.list ((xs.filter p).map h)) false) ρ) := comp_filter xs g p h hs hl hn H
end
@[simp] theorem intsD_lit0 (lo st : Int) : intsD lo st 0 = [] := rfl
theorem intsD_succ (lo st : Int) (n : Nat) : intsD lo st (n + 1) = .int lo :: intsD (lo + st) st n := by
  unfold intsD
  rw [List.range_succ_eq_map, List.map_cons, List.map_map]
  congr 1
  · simp
  · refine List.map_congr_left fun i _ => ?_
    show PyData.int _ = PyData.int _
    congr 1
    rw [Int.natCast_succ, Int.add_mul]
    omega
/-! ### texts -/
theorem cutS_eq (z : Str) (lo hi : Option Int) : cutS z lo hi = ⟨(cutL z.cps.toList lo hi).toArray⟩ := by
  unfold cutS cutL
  rw [Array.length_toList]
  rfl
theorem Str.ext_list {a b : Str} (h : a.cps.toList = b.cps.toList) : a = b := by
  cases a
  cases b
  congr 1
  exact Array.toList_inj.mp h
theorem join_signs : ∀ l : List Nat, (Str.join (Str.ofString "") (l.map fun n => (⟨#[n]⟩ : Str))).cps.toList = l
  | [] => by decide +kernel
  | [n] => rfl
  | n :: m :: l => by
    have ih := join_signs (m :: l)
    rw [List.map_cons] at ih ⊢
    rw [List.map_cons]
    show ((⟨#[n]⟩ : Str) ++ Str.ofString "" ++ Str.join (Str.ofString "") ((⟨#[m]⟩ : Str) :: l.map fun n => (⟨#[n]⟩ : Str))).cps.toList = _
    have e : (Str.ofString "").cps.toList = [] := by decide +kernel
    show (((#[n] : Array Nat) ++ (Str.ofString "").cps) ++ (Str.join (Str.ofString "") ((⟨#[m]⟩ : Str) :: l.map fun n => (⟨#[n]⟩ : Str))).cps).toList = _
    rw [Array.toList_append, Array.toList_append, e, ih]
    rfl
theorem tjoin_signs (l : List Nat) : Txt.join (Str.ofString "") (l.map fun n => (⟨#[n]⟩ : Str)) = ⟨l.toArray⟩ := by
  refine Str.ext_list ?_
  show (Builtin.Str.glued _ _).cps.toList = _
  rw [PySem.StrLaws.glued_eq_join, join_signs]
end VL

set_option linter.all false
set_option autoImplicit false
set_option maxRecDepth 100000
/-! The value layer, part 6b: comprehensions over a list that is the def's own, and stays as it is. -/
namespace VL
open PySem L2

section
variable {X : Cx} {c : Nat → Addr} {W : WX} {K : PySem.W.Frag}
/-- the list at the i-th name is still these items -/
def stays (i : Nat) (its : List PyData) (ρ : DEnv) : Prop := ∃ b, ρ[i]? = some (some (.own (.list its) b))
open Classical in
noncomputable def compGoO (n : Nat) (its : List PyData) (tg : Tgt) (tt : M Bool) (te : M Ent) (vs : List Nat) : List PyData → List PyData → DEnv → Option (List PyData × DEnv)
  | [], acc, ρ => if stays n its ρ then some (acc, ρ) else none
  | d :: ds, acc, ρ => if stays n its ρ then match tg d ρ with
    | none => none
    | some ρ1 => match tt ρ1 with
      | some (.ok true ρ2) => match fSh te ρ2 with
        | some (.ok (.sh (.py p)) ρ3) => compGoO n its tg tt te vs ds (acc ++ [p]) (wipeE ρ3 vs)
        | _ => none
      | some (.ok false ρ2) => compGoO n its tg tt te vs ds acc (wipeE ρ2 vs)
      | _ => none
    else none
noncomputable def fCompO (n : Nat) (tg : Tgt) (tt : M Bool) (te : M Ent) (vs : List Nat) : M Ent := fun ρ => match ρ[n]? with
  | some (some (.own (.list its) _)) => if its.length ≤ big ∧ noOwn ρ vs = true ∧ n ∉ vs then match compGoO n its tg tt te vs its [] (wipeE ρ vs) with
    | some (acc, ρ') => some (.ok (.own (.list acc) false) (putBack ρ ρ' vs))
    | none => none
    else none
  | _ => none
/-- a name's own list walked -/
def tOwnI (K : PySem.W.Frag) (c : Nat → Addr) (n : Nat) : TI := fun σ H R => ∃ G ρ its b a, EnvOk K c G H σ ρ ∧ ρ[n]? = some (some (.own (.list its) b)) ∧ σ[n]? = some (some (.ref a)) ∧ R (Itl K a) H
theorem di_own {tg : Expr} (n : Nat) {x : Str} {pos : Pos} (hN : X.N[n]? = some x := by rfl) (hv : Vis X.env.scope x := by first | exact Or.inl rfl | exact Or.inr (Or.inl rfl) | exact Or.inr (Or.inr rfl)) (hd : (x == ("__debug__" : Str)) = false := by decide)
    (hcd : (x == ("__classdict__" : Str)) = false := by decide) : PI X tg (.Name x pos) (tOwnI X.K c n) := pi_weak (pi_anyS (pe_var hN hv hd hcd)) fun σ H R h => by
  obtain ⟨G, ρ, its, b, a, env, h1, h2, h3⟩ := h
  obtain ⟨a', e', _, vs, hv, _⟩ := env.own n _ b h1
  rw [h2] at e'
  cases e'
  exact ⟨.ref a, h2, .inl ⟨a, rfl, ⟨vs, SqL.of hv⟩, h3⟩⟩
theorem w_compO {n : Nat} {tg : Tgt} {tt : M Bool} {te : M Ent} {vs ts : List Nat} (hts : ∀ i ∈ ts, i ∈ vs) (σ : St) (H : Hp) (Q : VK) (h : tD X.K c W (fCompO n tg tt te vs) σ H Q) :
    tLc (tOwnI X.K c n) (tDG X.K c ts tg) (tDT X.K c W0 tt) (tD X.K c W0 (fSh te)) vs σ H Q := by
  obtain ⟨G, ρ, env, h⟩ := h
  unfold fCompO at h
  split at h
  rotate_left
  · exact h.elim
  rename_i its b eo
  split at h
  rotate_left
  · exact h.elim
  rename_i hc
  obtain ⟨hlen, hno, hni⟩ := hc
  split at h
  rotate_left
  · exact h.elim
  rename_i accF ρF eF
  obtain ⟨ao, sa, _, vso, hvo, rvo⟩ := env.own n _ b eo
  refine ⟨G, ρ, its, b, ao, env, eo, sa, ?_⟩
  have h1 : ∀ (v : V) (G' H' : Hp), Stp X.K c G H σ ρ G' H' σ (putBack ρ ρF vs) → EntOk X.K c G' H' σ (putBack ρ ρF vs) v (.own (.list accF) false) → Frs H v (.own (.list accF) false) → Q v H' := fun v G' H' s' e' f' => h v G' H' s' e' f'
  intro D nD
  have env1 := env
  have dead : H D = none := nD
  have s0 : Stp X.K c G H σ ρ G (upd H D (.lst [])) (wipe σ vs) (wipeE ρ vs) := (Stp.newOwn (o := .lst []) env1 nD).wipe fun i p hi => noOwn_ok hno i p true hi
  refine ⟨fun i m H' => m = its.length - i ∧ i ≤ its.length ∧ ∃ G' ρ' acc, Stp X.K c G H σ ρ G' H' (wipe σ vs) ρ' ∧ EntOk X.K c G' H' (wipe σ vs) ρ' (.ref D) (.own (.list acc) false) ∧ acc.length ≤ i ∧ compGoO n its tg tt te vs (its.drop i) acc ρ' = some (accF, ρF),
    ⟨_, rfl, Nat.zero_le _, G, wipeE ρ vs, [], s0, ⟨D, rfl, env1.le.free nD, ⟨[], upd_same, by simp only [RpL]⟩, fun o => ?_⟩, Nat.le_refl _, by rw [List.drop_zero]; exact eF⟩, ?_⟩
  · obtain ⟨u, hu⟩ := o.at (Stp.wipe (vs := vs) (Stp.refl env1) fun i p hi => noOwn_ok hno i p true hi).env
    rw [nD] at hu
    cases hu
  rintro i m H2 ⟨rfl, hi, G2, ρ2, acc, s2, eD, hacc, w2⟩
  have est : stays n its ρ2 := by
    cases hd : its.drop i with
    | nil =>
      rw [hd] at w2
      unfold compGoO at w2
      split at w2
      · assumption
      · cases w2
    | cons d ds =>
      rw [hd] at w2
      unfold compGoO at w2
      split at w2
      · assumption
      · cases w2
  obtain ⟨b2, e2o⟩ := est
  have sa2 : (wipe σ vs)[n]? = some (some (.ref ao)) := by rw [wipe_get, if_neg hni]; exact sa
  obtain ⟨ao2, sa3, _, vs2, hv2, rv2⟩ := s2.env.own n _ b2 e2o
  rw [sa2] at sa3
  cases sa3
  have hq2 := SqL.of (K := X.K) hv2
  have hl2 := rv2.length
  have k1 : ∀ k, k < its.length → (Itl X.K ao).go k H2 := fun k hk => ⟨vs2, vs2[k], hq2, List.getElem?_eq_getElem (by omega)⟩
  have k2 : (Itl X.K ao).stop its.length H2 := ⟨vs2, hq2, by omega⟩
  have k3 : ∀ k x H', k < its.length → (Itl X.K ao).yld k H2 x H' → ∃ d, its[k]? = some d ∧ ∃ G', ((G' = G2 ∧ H' = H2) ∨ ∃ a o, H2 a = none ∧ G' = upd G2 a o ∧ H' = upd H2 a o) ∧ Rp X.K G' x d := fun k x H' hk y => by
    obtain ⟨rfl, y⟩ := y
    obtain ⟨d, hd, rd⟩ := rv2.getV (y vs2 hq2)
    exact ⟨d, hd, G2, .inl ⟨rfl, rfl⟩, rd⟩
  by_cases hlt : i < its.length
  · rw [List.drop_eq_getElem_cons hlt] at w2
    refine .inr ⟨k1 i hlt, fun H' => (its.length - (i + 1) = its.length - (i + 1)) ∧ i + 1 ≤ its.length ∧ ∃ G' ρ' acc, Stp X.K c G H σ ρ G' H' (wipe σ vs) ρ' ∧ EntOk X.K c G' H' (wipe σ vs) ρ' (.ref D) (.own (.list acc) false) ∧ acc.length ≤ i + 1 ∧ compGoO n its tg tt te vs (its.drop (i + 1)) acc ρ' = some (accF, ρF), fun H' w => ⟨_, by omega, w⟩, fun x H3 y => ?_⟩
    obtain ⟨d, hd, G3, hy, rd⟩ := k3 i x H3 hlt y
    rw [List.getElem?_eq_getElem hlt] at hd
    cases hd
    have s3 := yld_step s2.env hy
    unfold compGoO at w2
    rw [if_pos ⟨b2, e2o⟩] at w2
    split at w2
    · cases w2
    rename_i ρ3 e3
    refine ⟨G3, ρ2, _, s3.env, rd, ρ3, e3, fun G4 H4 σ4 s4 ag => ⟨?_, ?_⟩⟩
    · rw [wipe_agree ag hts, wipe_wipe]
    have wip : wipe σ4 vs = wipe σ vs := by rw [wipe_agree ag hts, wipe_wipe]
    have s14 := (s2.trans s3).trans s4
    have eD4 := (eD.pres s3).pres s4
    have pinno : ∀ (i : Nat) (p : PyData), i ∈ vs → ρ[i]? ≠ some (some (.own p true)) := fun i p hi => noOwn_ok hno i p true hi
    split at w2
    · -- kept
      rename_i ρ4 e4
      refine ⟨G4, ρ3, s4.env, ?_⟩
      rw [e4]
      intro G5 H5 s5
      refine ⟨G5, ρ4, s5.env, ?_⟩
      split at w2
      · rename_i p ρ6 e6
        rw [e6]
        intro v G6 H6 s6 ev _
        have s16 := (s14.trans s5).trans s6
        have eD6 := (eD4.pres s5).pres s6
        obtain ⟨D', eD', g6, ⟨vacc, hv, rv⟩, no6⟩ := eD6
        cases eD'
        have hz : acc.length < big := by omega
        simp only [EntOk, RpD] at ev
        refine ⟨vacc, hv, small_big' (by rw [rv.length]; exact hz), rfl, hlt, G6, wipeE ρ6 vs, acc ++ [p], ?_, ?_, by rw [List.length_append, List.length_singleton]; omega, w2⟩
        · rw [← wip]
          exact (s16.poke nD g6 no6 ⟨_, hv⟩).wipe pinno
        · refine ⟨D, rfl, g6, ⟨_, upd_same, rv.append (.one ev)⟩, fun o => no6 ?_⟩
          rw [← wip] at o
          obtain ⟨j, q, b, hj, ej⟩ := o
          rw [wipeE_get] at hj
          by_cases hjv : j ∈ vs
          · rw [if_pos hjv] at hj
            cases q' : ρ6[j]? <;> rw [q'] at hj <;> cases hj
          · rw [if_neg hjv] at hj
            rw [wipe_get, if_neg hjv] at ej
            exact ⟨j, q, b, hj, ej⟩
      · cases w2
    · -- left out
      rename_i ρ4 e4
      refine ⟨G4, ρ3, s4.env, ?_⟩
      rw [e4]
      intro G5 H5 s5
      have s15 := s14.trans s5
      obtain ⟨D', eD', g5, o5, no5⟩ := eD4.pres s5
      cases eD'
      refine ⟨rfl, hlt, G5, wipeE ρ4 vs, acc, ?_, ?_, by omega, w2⟩
      · rw [← wip]
        exact s15.wipe pinno
      · refine ⟨D, rfl, g5, o5, fun o => no5 ?_⟩
        rw [← wip] at o
        obtain ⟨j, q, b, hj, ej⟩ := o
        rw [wipeE_get] at hj
        by_cases hjv : j ∈ vs
        · rw [if_pos hjv] at hj
          cases q' : ρ4[j]? <;> rw [q'] at hj <;> cases hj
        · rw [if_neg hjv] at hj
          rw [wipe_get, if_neg hjv] at ej
          exact ⟨j, q, b, hj, ej⟩
    · cases w2
  · have e : i = its.length := by omega
    subst e
    rw [List.drop_length, compGoO, if_pos ⟨b2, e2o⟩] at w2
    cases w2
    refine .inl ⟨k2, ?_⟩
    have sb := Stp.back env1 s2 hno
    obtain ⟨D', eD', g2, o2, no2⟩ := eD
    cases eD'
    refine h1 (.ref D) G2 H2 sb ⟨D, rfl, g2, o2, fun o => ?_⟩ fun a ea => ?_
    · · obtain ⟨j, q, b, hj, ej⟩ := o
        have hl : ρ.length = ρF.length := by rw [env1.len, s2.env.len, wipe_length]
        rw [putBack_get hl] at hj
        by_cases hjv : j ∈ vs
        · rw [if_pos hjv] at hj
          exact noOwn_ok hno j q b hjv hj
        · rw [if_neg hjv] at hj
          exact no2 ⟨j, q, b, hj, by rw [wipe_get, if_neg hjv]; exact ej⟩
    · cases ea
      exact dead
variable {elt tg iter : Expr} {ifs : List Expr} {scope : Scope} {own : List (Str × Nat)} {pos spos : Pos} {g : Tgt} {tt : M Bool} {te : M Ent} {ts : List Nat}
theorem de_compO (n : Nat) (own : List (Str × Nat)) (hc : X.calm = true) (hN : X.N.Nodup) (hi : PI X tg iter (tOwnI X.K c n)) (ok : BlkOk X.N X.env.scope scope own) (hts : ∀ i ∈ ts, i ∈ own.map (·.2))
    (hg : ∀ (s : Shared) (H : Hp) (C : Addr) (cl : List (Str × Addr)) (fp : List Addr), PG (X.blk s H scope (compEnvC scope cl C X.env) fp) tg (tDG X.K c ts g)) (ht : ∀ (s : Shared) (H : Hp) (C : Addr) (cl : List (Str × Addr)) (fp : List Addr), PTs (X.blk s H scope (compEnvC scope cl C X.env) fp) ifs (tDT X.K c W0 tt))
    (he : ∀ (s : Shared) (H : Hp) (C : Addr) (cl : List (Str × Addr)) (fp : List Addr), PE (X.blk s H scope (compEnvC scope cl C X.env) fp) elt (tD X.K c W0 te)) (hs : ∀ x, foldedSetIterable iter X.env x = pure x := by intro _; rfl) :
    DE X c W (.ListComp elt [⟨tg, iter, ifs, 0⟩] scope pos) (fCompO n g tt te (own.map (·.2))) :=
  pe_weak (pe_lc hc hN hi ok hg ht (fun s H C cl fp => de_sh (he s H C cl fp)) hs) (w_compO hts)
theorem stays_wipe {n : Nat} {its : List PyData} {ρ : DEnv} {vs : List Nat} {b : Bool} (h : ρ[n]? = some (some (.own (.list its) b))) (hn : n ∉ vs) : stays n its (wipeE ρ vs) := ⟨b, by rw [wipeE_get, if_neg hn]; exact h⟩
theorem compGoO_map {β : Type} {n : Nat} {its : List PyData} {vs : List Nat} {ρ : DEnv} (st : stays n its ρ) (g' : β → PyData) (h : β → PyData) : ∀ (xs : List β) (acc : List PyData), (∀ x ∈ xs, ∃ ρ2, g (g' x) ρ = some ρ2 ∧ tt ρ2 = some (.ok true ρ2) ∧ fSh te ρ2 = some (.ok (.sh (.py (h x))) ρ2) ∧ wipeE ρ2 vs = ρ) → compGoO n its g tt te vs (xs.map g') acc ρ = some (acc ++ xs.map h, ρ)
  | [], acc, _ => by
    rw [List.map_nil, compGoO, if_pos st]
    simp
  | x :: xs, acc, H => by
    obtain ⟨ρ2, h1, h2, h3, h4⟩ := H x List.mem_cons_self
    rw [List.map_cons, compGoO, if_pos st, h1]
    simp only [h2, h3, h4]
    rw [compGoO_map st g' h xs (acc ++ [h x]) fun y hy => H y (List.mem_cons_of_mem _ hy)]
    simp
theorem compGoO_filter {β : Type} {n : Nat} {its : List PyData} {vs : List Nat} {ρ : DEnv} (st : stays n its ρ) (g' : β → PyData) (p : β → Bool) (h : β → PyData) : ∀ (xs : List β) (acc : List PyData), (∀ x ∈ xs, ∃ ρ2, g (g' x) ρ = some ρ2 ∧ tt ρ2 = some (.ok (p x) ρ2) ∧ (p x = true → fSh te ρ2 = some (.ok (.sh (.py (h x))) ρ2)) ∧ wipeE ρ2 vs = ρ) → compGoO n its g tt te vs (xs.map g') acc ρ = some (acc ++ (xs.filter p).map h, ρ)
  | [], acc, _ => by
    rw [List.map_nil, compGoO, if_pos st]
    simp
  | x :: xs, acc, H => by
    obtain ⟨ρ2, h1, h2, h3, h4⟩ := H x List.mem_cons_self
    have ih := fun acc => compGoO_filter st g' p h xs acc fun y hy => H y (List.mem_cons_of_mem _ hy)
    rw [List.map_cons, compGoO, if_pos st, h1]
    cases e : p x with
    | true =>
      rw [e] at h2
      simp only [h2, h3 e, h4, ih]
      simp [e]
    | false =>
      rw [e] at h2
      simp only [h2, h4, ih]
      simp [e]
theorem compO_pure {β : Type} {n : Nat} {vs : List Nat} {ρ : DEnv} {b : Bool} (xs : List β) (g' : β → PyData) (h : β → PyData) (hs : ρ[n]? = some (some (.own (.list (xs.map g')) b))) (hl : xs.length ≤ big) (hn : noOwn ρ vs = true) (hv : n ∉ vs)
    (H : ∀ x ∈ xs, ∃ ρ2, g (g' x) (wipeE ρ vs) = some ρ2 ∧ tt ρ2 = some (.ok true ρ2) ∧ fSh te ρ2 = some (.ok (.sh (.py (h x))) ρ2) ∧ wipeE ρ2 vs = wipeE ρ vs) :
    fCompO n g tt te vs ρ = some (.ok (.own (.list (xs.map h)) false) ρ) := by
  unfold fCompO
  rw [hs]
  simp only
  rw [if_pos ⟨by rw [List.length_map]; exact hl, hn, hv⟩, compGoO_map (stays_wipe hs hv) g' h xs [] H]
  simp only [List.nil_append, putBack_wipe]
theorem compO_pureF {β : Type} {n : Nat} {vs : List Nat} {ρ : DEnv} {b : Bool} (xs : List β) (g' : β → PyData) (p : β → Bool) (h : β → PyData) (hs : ρ[n]? = some (some (.own (.list (xs.map g')) b))) (hl : xs.length ≤ big) (hn : noOwn ρ vs = true) (hv : n ∉ vs)
    (H : ∀ x ∈ xs, ∃ ρ2, g (g' x) (wipeE ρ vs) = some ρ2 ∧ tt ρ2 = some (.ok (p x) ρ2) ∧ (p x = true → fSh te ρ2 = some (.ok (.sh (.py (h x))) ρ2)) ∧ wipeE ρ2 vs = wipeE ρ vs) :
    fCompO n g tt te vs ρ = some (.ok (.own (.list ((xs.filter p).map h)) false) ρ) := by
  unfold fCompO
  rw [hs]
  simp only
  rw [if_pos ⟨by rw [List.length_map]; exact hl, hn, hv⟩, compGoO_filter (stays_wipe hs hv) g' p h xs [] H]
  simp only [List.nil_append, putBack_wipe]
end
end VL

set_option linter.all false
set_option autoImplicit false
set_option maxRecDepth 100000
/-! The value layer, part 10: is None as a test, list.index of any data, every second item. -/
namespace VL
open PySem L2

section
variable {X : Cx} {c : Nat → Addr} {W : WX} {K : PySem.W.Frag} {a b e : Expr} {f g fe : M Ent} {pos : Pos}
theorem w_isN (neg : Bool) (σ : St) (H : Hp) (Q : VK) (h : tD X.K c W (f1 (oIsN neg) f) σ H Q) : tUn (fun x H Q => Q (.bl (decide (x = .non) != neg)) H) (tD X.K c W f) σ H Q := by
  refine w_f1 (r := fun x H Q => Q (.bl (decide (x = .non) != neg)) H) ?_ σ H Q h
  intro G H σ ρ v x e Q env hx ho k
  unfold oIsN at ho
  split at ho
  · rename_i p
    cases ho
    simp only [EntOk, RpD] at hx
    rw [isN_ok hx]
    exact k.flat env (by simp only [Rp])
  · cases ho
theorem w_isN0 (σ : St) (H : Hp) (Q : VK) (h : tD X.K c W (f1 (oIsN false) f) σ H Q) : tIsN (tD X.K c W f) σ H Q := by
  have := w_isN false σ H Q h
  simp only [Bool.bne_false] at this
  exact this
theorem w_isN1 (σ : St) (H : Hp) (Q : VK) (h : tD X.K c W (f1 (oIsN true) f) σ H Q) : tNotN (tD X.K c W f) σ H Q := by
  have := w_isN true σ H Q h
  simp only [Bool.bne_true] at this
  exact this
theorem de_isNotN {j : Nat} {pos' : Pos} (ha : DE X c W a f) : DE X c W (.Compare a [.IsNot] [.Constant .none j pos'] pos) (f1 (oIsN true) f) := pe_weak (pe_cmp (pc_notN ha) (by rfl)) w_isN1
theorem dt_isN {j : Nat} {pos' : Pos} (ha : DE X c W a f) : DT X c W (.Compare a [.Is] [.Constant .none j pos'] pos) (fB (f1 (oIsN false) f)) := pt_weak (pt_cmp (pc_isN ha) (by rfl)) fun σ H Q h => w_isN0 σ H _ (w_B σ H Q h)
theorem dt_isNotN {j : Nat} {pos' : Pos} (ha : DE X c W a f) : DT X c W (.Compare a [.IsNot] [.Constant .none j pos'] pos) (fB (f1 (oIsN true) f)) := pt_weak (pt_cmp (pc_notN ha) (by rfl)) fun σ H Q h => w_isN1 σ H _ (w_B σ H Q h)

/-! ### l.index(x) -/
def idxP (d : PyData) (ds : List PyData) : Option Nat := ds.findIdx? fun z => PyData.eqv z d
def idxE (x : Ent) (es : List Ent) : M Ent := fun ρ => match rd ρ x, es with
  | some (.list ds), [e] => match rd ρ e with
    | some d => if (SeqAt.shaped (.list ds) && SeqAt.shaped d) = true then match idxP d ds with
      | some j => some (.ok (py (.int (j : Nat))) ρ)
      | none => none
      else none
    | none => none
  | _, _ => none
theorem ok_index : OkMt K c (rIndexD K) idxE := by
  intro G H σ ρ v x vs es Q E env hx hes h
  unfold idxE at h
  split at h
  · rename_i ds e er
    split at h
    · rename_i d ed
      split at h
      · rename_i hc
        split at h
        · rename_i j hj
          obtain ⟨h1, h2⟩ := Bool.and_eq_true_iff.mp hc
          obtain ⟨u, rfl, hu⟩ := hes.one
          have rl := rd_ok env hx er
          have rl' := rl
          simp only [Rp] at rl'
          obtain ⟨a, ws, rfl, ha, ra⟩ := rl'
          have rd' := rd_ok env hu ed
          obtain ⟨hjl, hp, hno⟩ := List.findIdx?_eq_some_iff_getElem.mp hj
          refine ⟨a, u, d, ds, j, ds[j], rfl, rfl, Rp.dp (Same.refl _) _ _ (shaped_nd h1) rl, Rp.dp (Same.refl _) _ _ (shaped_nd h2) rd', h1, h2, List.getElem?_eq_getElem hjl, hp, fun m z hm hz => ?_, ?_⟩
          · have hml : m < ds.length := by omega
            rw [List.getElem?_eq_getElem hml] at hz
            cases hz
            have := hno m hm
            simpa using this
          · exact h (.int (j : Nat)) G H (.refl env) (by simp only [EntOk, RpD, Rp]) trivial
        · exact h.elim
      · exact h.elim
    · exact h.elim
  · exact h.elim
theorem de_index {es : List Expr} {m : M (List Ent)} {apos : Pos} (hu : X.A.units + 65 < cLine) (ho : DE X c W e fe) (ha : DA X c W (a :: es) m) (hbase : attributeBase e "index" X.env (eval e X.env) = eval e X.env := by rfl)
    (hfew : ((backTo pos (starEach (a :: es) X.env)).all (fun x => !x.1) && (backToKw pos (keywordEach [] X.env)).all (fun x => x.1.isSome)
      && decide ((a :: es).length + ([] : List Keyword).length + (if ([] : List Keyword).isEmpty then 0 else 1) < 30)) = true := by rfl)
    (hline : (apos.endLine == pos.line) = true := by rfl) (hs : starEach (a :: es) X.env = (false, eval a X.env) :: starEach es X.env := by rfl) (hplain : (backTo pos (starEach es X.env)).any (·.1) = false := by rfl) :
    DE X c W (.Call (.Attribute e "index" apos) (a :: es) [] pos) (fMet idxE fe m) := de_met PySem.F.plainAttrs_list PySem.F.slot_list_index PySem.F.type_list_index (mt_indexD hu) ok_index ho ha hbase hfew hline hs hplain

/-! ### x[lo::2] -/
def evens {α : Type} : List α → List α
  | [] => []
  | [x] => [x]
  | x :: _ :: r => x :: evens r
theorem evens_get {α : Type} : ∀ (l : List α) (k : Nat), (evens l)[k]? = l[2 * k]?
  | [], k => by simp [evens]
  | [x], k => by
    cases k with
    | zero => rfl
    | succ k => simp [evens]
  | x :: y :: r, k => by
    cases k with
    | zero => rfl
    | succ k =>
      rw [evens, List.getElem?_cons_succ, evens_get r k, show 2 * (k + 1) = 2 * k + 1 + 1 by omega, List.getElem?_cons_succ, List.getElem?_cons_succ]
theorem evens_length {α : Type} : ∀ l : List α, (evens l).length = (l.length + 1) / 2
  | [] => by simp [evens]
  | [x] => by simp [evens]
  | x :: y :: r => by
    rw [evens, List.length_cons, evens_length r, List.length_cons, List.length_cons]
    omega
theorem evens_pick {α : Type} (xs : Array α) (i k : Nat) (h : k = (xs.size - i + 1) / 2) : ((List.range k).map fun j => i + 2 * j).filterMap (xs[·]?) = evens (xs.toList.drop i) := by
  have aux : ∀ k, k ≤ (xs.size - i + 1) / 2 → ((List.range k).map fun j => i + 2 * j).filterMap (xs[·]?) = (evens (xs.toList.drop i)).take k := by
    intro k
    induction k with
    | zero => intro _; simp
    | succ k ih =>
      intro hk
      rw [List.range_succ, List.map_append, List.filterMap_append, ih (by omega), List.take_add_one, evens_get, List.getElem?_drop]
      congr 1
      simp only [List.map_cons, List.map_nil, Array.getElem?_toList]
      cases h : xs[i + 2 * k]? <;> simp [h]
  rw [aux k (by omega), List.take_of_length_le]
  rw [evens_length, List.length_drop, Array.length_toList]
  omega
theorem pick_two {lo : Nat} (items : Array Value) (hn : lo ≤ items.size) : slicePick items (some (lo : Int)) none (some 2) = (evens (items.toList.drop lo)).toArray := by
  unfold slicePick
  have e : sliceBounds (some (lo : Int)) none (some 2) items.size = ((lo : Int), (items.size : Int), 2) := by
    simp only [sliceBounds, Option.getD_some]
    have h1 : ¬ ((lo : Int) < 0) := by omega
    simp only [h1, if_false, show (2 : Int) > 0 by decide, if_true]
    congr 1
    omega
  rw [e]
  congr 1
  have e2 : sliceRange (lo : Int) (items.size : Int) 2 = (List.range ((items.size - lo + 1) / 2)).map fun j => lo + 2 * j := by
    unfold sliceRange
    by_cases h : (lo : Int) < items.size
    · have e3 : (((items.size : Int) - lo + 2 - 1) / 2).toNat = (items.size - lo + 1) / 2 := by omega
      simp only [show (2 : Int) > 0 by decide, if_true, h, e3]
      apply List.map_congr_left
      intro k _
      omega
    · have e4 : (items.size - lo + 1) / 2 = 0 := by omega
      simp [h, e4]
  show (sliceRange (lo : Int) (items.size : Int) 2).filterMap _ = _
  rw [e2]
  exact evens_pick items lo _ rfl
theorem Vals.evens : ∀ {xs : List V} {us : List Value}, Vals xs us → Vals (evens xs) (evens us)
  | _, _, .nil => .nil
  | _, _, .cons r .nil => .cons r .nil
  | _, _, .cons r (.cons _ t) => .cons r (Vals.evens t)
theorem RpL.evens {G : Hp} : ∀ {vs : List V} {ds : List PyData}, RpL K G vs ds → RpL K G (evens vs) (evens ds)
  | [], [], r => r
  | [v], [d], r => r
  | v :: w :: vs, d :: e :: ds, r => by
    simp only [RpL, VL.evens] at r ⊢
    exact ⟨r.1, RpL.evens r.2.2⟩
  | [], _ :: _, r => by simp only [RpL] at r
  | _ :: _, [], r => by simp only [RpL] at r
  | [v], _ :: _ :: _, r => by simp only [RpL] at r; exact r.2.elim
  | _ :: _ :: _, [d], r => by simp only [RpL] at r; exact r.2.elim
def tSl2 (K : PySem.W.Frag) (te : TE) (tl : TE) : TE := fun σ H Q => te σ H fun x H1 => tl σ H1 fun l H2 => ∃ a xs lo, x = .ref a ∧ l = .int ((lo : Nat) : Int) ∧ lo ≤ xs.length ∧ SqL K H2 a xs ∧ ∀ p, H2 p = none → Q (.ref p) (upd H2 p (.lst (evens (xs.drop lo))))
theorem pe_slice2 {te tl : TE} {p2 : Pos} {j : Nat} {p3 : Pos} (he : PE X a te) (hl : PE X b tl) : PE X (.Subscript a (.Slice (some b) none (some (.Constant (.int 2) j p3)) p2) pos) (tSl2 X.K te tl) := by
  refine ⟨fun pins s σ H Q I h => ?_⟩
  refine PyProof.Rows.Subscript_ (thn (he.run pins s σ H _ I h) fun v s1 ⟨x, H1, I1, r1, q1⟩ => ?_)
  refine wpAny_Slice ?_
  rw [evalPart_some]
  refine thn (hl.run pins s1 σ H1 _ I1 q1) fun vl s2 ⟨l, H2, I2, r2, q2⟩ => ?_
  rw [evalPart_none]
  refine wpAny_pure ?_
  rw [evalPart_some]
  obtain ⟨ad, xs, lo, rfl, rfl, hlo, hq, q⟩ := q2
  refine thn ((pe_int (X := X)).run pins s2 σ H2 (fun x H' => x = .int 2 ∧ H' = H2) I2 ⟨rfl, rfl⟩) fun vs s3 ⟨z, H3, I3, r3, q3⟩ => ?_
  obtain ⟨rfl, rfl⟩ := q3
  cases r1
  obtain ⟨tl', rfl⟩ := r2
  obtain ⟨ts', rfl⟩ := r3
  have I4 : Inv X pins σ H3 { s3 with heap := s3.heap.push { cls := .type "slice", data := .fields #[.int lo tl', .none, .int 2 ts'] } } := I3.kept (t' := s3.toks) fun b ob q => Heap.get?_push_of_some _ q
  obtain ⟨its, r, ht, hz⟩ := I4.list hq
  have hlen := r.length
  show wpAny (model X.prog X.w) X.A (PyProof.Rows.subscriptTail a _ (.ref ad) (.ref s3.heap.objs.size)) (EP X pins σ Q) X.xe { s3 with heap := s3.heap.push { cls := .type "slice", data := .fields #[.int lo tl', .none, .int 2 ts'] } }
  refine PyProof.Rows.tail_any (ops := [.ref ad, .ref s3.heap.objs.size]) ht.isList.typeIs slot_list_getitem.lookup ?_ (by with_unfolding_all rfl)
  refine wpAny_getItem_list_slice ht.isList (Heap.IsSliceOf.new ..) (.int _ _) .none (.int _ _) (by decide) ?_ (by rw [List.size_toArray] <;> omega)
  rw [pick_two its.toArray (by rw [List.size_toArray]; omega)]
  refine ⟨.ref (s3.heap.push { cls := .type "slice", data := .fields #[.int lo tl', .none, .int 2 ts'] }).objs.size, _, I4.laid (o := .lst (evens (xs.drop lo))) (fun b ob q => Heap.get?_push_of_some _ q) (Nat.le_refl _) ?_, rfl, q _ (I4.hok.fresh (Nat.le_refl _))⟩
  refine ⟨?_, _, 0, Vals.evens (r.drop lo), Heap.get?_push_size _ rfl⟩
  rw [evens_length, List.length_drop]
  omega
def oSl2 : Op2 := fun ρ x y => match rd ρ x, rd ρ y with
  | some (.list ds), some (.int i) => if 0 ≤ i ∧ i ≤ ds.length then some (.own (.list (evens (ds.drop i.toNat))) false) else none
  | _, _ => none
theorem de_slice2 {p2 : Pos} {j : Nat} {p3 : Pos} (ha : DE X c W a f) (hb : DE X c W b g) : DE X c W (.Subscript a (.Slice (some b) none (some (.Constant (.int 2) j p3)) p2) pos) (f2 oSl2 f g) := pe_weak (pe_slice2 ha hb) fun σ H Q h => by
  have := w_f2 (r := fun x l H2 Q => ∃ a xs lo, x = .ref a ∧ l = .int ((lo : Nat) : Int) ∧ lo ≤ xs.length ∧ SqL X.K H2 a xs ∧ ∀ p, H2 p = none → Q (.ref p) (upd H2 p (.lst (evens (xs.drop lo))))) ?_ σ H Q h
  · exact this
  · intro G H σ ρ v u x y e Q env hx hy ho k
    unfold oSl2 at ho
    split at ho
    · rename_i ds i e1 e2
      split at ho
      · rename_i hc
        cases ho
        obtain ⟨a, vs, ea, ha, ra⟩ := rd_list env hx e1
        have eu := rd_int env hy e2
        refine ⟨a, vs, i.toNat, ea, by rw [eu]; congr 1; omega, by rw [ra.length]; omega, SqL.of ha, fun p np => k.lst env (RpL.evens (ra.drop _)) np⟩
      · cases ho
    · cases ho
end
/-! ### how it is reckoned -/
section
variable {ρ : DEnv} {x y : Ent}
def idxL (d : Option PyData) (ρ : DEnv) : Option PyData → OR Ent
  | some (.list ds) => match d with
    | some d => if (SeqAt.shaped (.list ds) && SeqAt.shaped d) = true then match idxP d ds with
      | some j => some (.ok (py (.int (j : Nat))) ρ)
      | none => none
      else none
    | none => none
  | _ => none
@[simp ↓] theorem idxE_ap (e : Ent) : idxE x [e] ρ = idxL (rd ρ e) ρ (rd ρ x) := by
  unfold idxE idxL
  cases rd ρ x with
  | none => rfl
  | some p => cases p <;> rfl
theorem idxL_ok {d : PyData} {ds : List PyData} {j : Nat} (h1 : SeqAt.shaped (.list ds) = true) (h2 : SeqAt.shaped d = true) (h : idxP d ds = some j) : idxL (some d) ρ (some (.list ds)) = some (.ok (py (.int (j : Nat))) ρ) := by
  simp [idxL, h1, h2, h]
def dSl2 : PyData → PyData → Option Ent
  | .list ds, .int i => if 0 ≤ i ∧ i ≤ ds.length then some (.own (.list (evens (ds.drop i.toNat))) false) else none
  | _, _ => none
@[simp ↓] theorem oSl2_by : oSl2 ρ x y = by2 dSl2 (rd ρ x) (rd ρ y) := by
  unfold oSl2
  cases rd ρ x with
  | none => rfl
  | some p => cases rd ρ y with
    | none => cases p <;> rfl
    | some q => cases p <;> cases q <;> rfl
@[simp] theorem dSl2_list (ds : List PyData) (i : Int) : dSl2 (.list ds) (.int i) = if 0 ≤ i ∧ i ≤ ds.length then some (.own (.list (evens (ds.drop i.toNat))) false) else none := rfl
end
end VL

set_option linter.all false
set_option autoImplicit false
set_option maxRecDepth 100000
/-! The value layer, part 11: len(set(..)) of rows of truths (what it answers; the walk stands in part 12). -/
namespace VL
open PySem L2
def asBool : PyData → Option Bool
  | .bool b => some b
  | _ => none
def asBools : List PyData → Option (List Bool)
  | [] => some []
  | d :: ds => match asBool d, asBools ds with
    | some b, some bs => some (b :: bs)
    | _, _ => none
def asRow : PyData → Option (List Bool)
  | .tuple ds => asBools ds
  | _ => none
def asRows : List PyData → Option (List (List Bool))
  | [] => some []
  | d :: ds => match asRow d, asRows ds with
    | some b, some bs => some (b :: bs)
    | _, _ => none
/-- all rows of n truths -/
def allB : Nat → List (List Bool)
  | 0 => [[]]
  | n + 1 => (allB n).map (· ++ [false]) ++ (allB n).map (· ++ [true])
def rowsOk (rows : List (List Bool)) : Bool := (List.range 5).any fun n => rows == allB n
def oLenSet : OpL := fun ρ es => match es with
  | [x] => match rd ρ x with
    | some (.list ds) => match asRows ds with
      | some rows => if rowsOk rows = true then some (py (.int ds.length)) else none
      | none => none
    | _ => none
  | _ => none
theorem asBools_map : ∀ bs : List Bool, asBools (bs.map .bool) = some bs
  | [] => rfl
  | b :: bs => by rw [List.map_cons, asBools, asBools_map bs]; rfl
theorem asRows_map : ∀ rows : List (List Bool), asRows (rows.map fun g => .tuple (g.map .bool)) = some rows
  | [] => rfl
  | g :: rows => by
    rw [List.map_cons, asRows, asRows_map rows]
    simp only [asRow, asBools_map]
def dLenSet : PyData → Option Ent
  | .list ds => match asRows ds with
    | some rows => if rowsOk rows = true then some (py (.int ds.length)) else none
    | none => none
  | _ => none
@[simp ↓] theorem oLenSet_by {ρ : DEnv} {x : Ent} : oLenSet ρ [x] = by1 dLenSet (rd ρ x) := by
  unfold oLenSet
  dsimp only
  cases rd ρ x with
  | none => rfl
  | some p => cases p <;> rfl
theorem dLenSet_ok {rows : List (List Bool)} (h : rowsOk rows = true) : dLenSet (.list (rows.map fun g => .tuple (g.map .bool))) = some (py (.int rows.length)) := by
  simp only [dLenSet, asRows_map, h, if_true, List.length_map]
end VL

set_option linter.all false
set_option autoImplicit false
set_option maxRecDepth 100000
/-! The value layer, part 12: set(..) of things whose hashes are all unlike: nothing is ever compared. -/
namespace VL
open PySem L2 PyProof.Rows

section
variable {P : Program} {w : World} {A : Around} {E : Value → Shared → Prop} {s : Shared}
/-- a set at a: rows of hash and value, no two hashes alike -/
structure Uset (h : Heap) (a : Addr) (L : List (Int × Value)) (es : Array (Int × Value)) (ep : Nat) (t : SetTable) : Prop where
  at_ : ∃ o, h.get? a = some o ∧ o.ExactSet ∧ o.data = .set es ep t
  rows : es.toList = L
  tab : TabOk t (L.map Prod.fst)
  nd : (L.map Prod.fst).Nodup
  plain : t.plain = true
  room : L.length * 5 < t.mask * 3
  few : L.length < 64
variable {a : Addr} {L : List (Int × Value)} {es : Array (Int × Value)} {ep : Nat} {t : SetTable}
theorem Uset.size (R : Uset s.heap a L es ep t) : es.size = L.length := by rw [← R.rows, Array.length_toList]
theorem Uset.fits (R : Uset s.heap a L es ep t) : t.fits es.size = true := by
  have h1 := R.tab.sz
  have h2 := R.size
  have h3 := R.room
  rw [List.length_map] at h1
  unfold SetTable.fits SetTable.fill
  rw [R.tab.dm, Bool.and_eq_true, beq_iff_eq, decide_eq_true_eq]
  refine ⟨by omega, ?_⟩
  show t.place.size + 0 ≤ t.mask
  omega
theorem Uset.hash (R : Uset s.heap a L es ep t) {i : Nat} (hi : i < L.length) : (es[i]?.map Prod.fst).getD 0 = (L[i]).1 := by
  rw [← Array.getElem?_toList, R.rows, List.getElem?_eq_getElem hi]
  rfl
/-- the way to a free place -/
theorem uset_search (R : Uset s.heap a L es ep t) {v : Value} {k : Int} (hk : k ∉ L.map Prod.fst) {Q : SetFound → Shared → Prop}
    (h : ∀ K, way t.mask k K ∉ t.place.toList → (∀ c, c < K → way t.mask k c ∈ t.place.toList) → Q (.free (way t.mask k K) false) s) : wpAny (model P w) A (setSearch a v k true) Q E s := by
  have hroom := R.room
  obtain ⟨K, hKf, hK, hKb⟩ := R.tab.first (by rw [List.length_map]; omega) k
  obtain ⟨o, ho, hex, hd⟩ := R.at_
  have hgw : ¬ t.gaveWay = true := by
    unfold SetTable.gaveWay
    rw [mask_odd R.tab.mok]
    decide
  have spec := go_spec t R.tab.ris R.tab.dm (fun i => (es[i]?.map Prod.fst).getD 0) k (10 * SetTable.turns t.mask) K (t.probeStart k) rfl hKf hKb hK
  have hsz : t.place.toList.length = L.length := by
    have := R.tab.sz
    rw [List.length_map] at this
    rw [Array.length_toList, this]
  show wpAny (model P w) A (setSearchFrom a v k true (99999 + 1) none) Q E s
  rw [setSearchFrom_succ]
  refine wpAny_bind (wpAny_setState_of ho hd R.fits ?_)
  dsimp only
  refine wp_if_neg hgw ?_
  rcases spec with ⟨q, i, _, hi, hh, _, _⟩ | ⟨_, hpr⟩
  · exfalso
    have hil : i < L.length := by
      have := (List.getElem?_eq_some_iff.mp hi).1
      omega
    have e := R.hash hil
    refine hk ?_
    rw [← hh]
    show (es[i]?.map Prod.fst).getD 0 ∈ _
    rw [e]
    exact List.mem_map.mpr ⟨L[i], List.getElem_mem hil, rfl⟩
  · have e : t.probe (fun i => (es[i]?.map (·.1)).getD 0) k ((none : Option SetTable.Probe).getD (t.probeStart k)) = some (.empty (way t.mask k K) none) := hpr
    rw [e]
    exact wpAny_pure (h K hK hKb)
theorem pick_rows (L : List (Int × Value)) (es : Array (Int × Value)) (hr : es.toList = L) : ∀ l : List Nat, (∀ i ∈ l, i < L.length) →
    (l.filterMap fun i => es[i]?) = (l.filterMap fun i => L[i]?) ∧ (l.filterMap fun i => L[i]?).map Prod.fst = l.map fun i => (es.map (·.1)).getD i 0
  | [], _ => ⟨rfl, rfl⟩
  | i :: l, h => by
    obtain ⟨e1, e2⟩ := pick_rows L es hr l fun j hj => h j (List.mem_cons_of_mem _ hj)
    have hi := h i List.mem_cons_self
    have x1 : L[i]? = some L[i] := List.getElem?_eq_getElem hi
    have x2 : es[i]? = some L[i] := by rw [← Array.getElem?_toList, hr, x1]
    rw [List.filterMap_cons_some x2, List.filterMap_cons_some x1, e1]
    refine ⟨rfl, ?_⟩
    rw [List.map_cons, List.map_cons, e2]
    congr 1
    have x3 : (es.map (·.1))[i]? = some (L[i]).1 := by rw [Array.getElem?_map, x2]; rfl
    simp [Array.getD_eq_getD_getElem?, x3]
theorem pick_all {α : Type} (L : List α) : (List.range L.length).filterMap (fun i => L[i]?) = L := by
  have h := pick_run L.toArray 0 L.length
  have e : (List.range L.length).map (0 + ·) = List.range L.length := by
    have : (fun x : Nat => 0 + x) = id := funext fun x => Nat.zero_add x
    rw [this, List.map_id]
  rw [e] at h
  simpa using h
/-- laid anew, larger -/
theorem uset_relay {o : Obj} (ho : s.heap.get? a = some o) (hex : o.ExactSet) (hd : o.data = .set es ep t) (rows : es.toList = L) (tab : TabOk t (L.map Prod.fst)) (hfl : L.length ≤ t.mask) (nd : (L.map Prod.fst).Nodup) (pl : t.plain = true) (few : L.length < 64)
    {wanted M : Nat} (hw : SetTable.sizeAbove wanted - 1 = M) (hM : MaskOk M) (hw2 : SetTable.sizeAbove wanted ≤ 128) (hn : L.length * 5 < M * 3) {Q : Unit → Shared → Prop}
    (hQ : ∀ h' L' es' ep' t', Heap.SameBut a s.heap h' → Uset h' a L' es' ep' t' → L'.length = L.length → L'.Perm L → Q () { s with heap := h' }) : wpAny (model P w) A (setRelay a wanted) Q E s := by
  have hsl : es.size = L.length := by rw [← rows, Array.length_toList]
  have hfits : t.fits es.size = true := by
    have h1 := tab.sz
    rw [List.length_map] at h1
    unfold SetTable.fits SetTable.fill
    rw [tab.dm, Bool.and_eq_true, beq_iff_eq, decide_eq_true_eq]
    refine ⟨by omega, ?_⟩
    show t.place.size + 0 ≤ t.mask
    omega
  obtain ⟨t', order, e, hp, T, em, _, ep', _⟩ := relaid_ok t (hs := es.map (·.1)) (wanted := wanted) hw hM (by rw [Array.size_map, hsl]; omega)
  rw [Array.size_map, hsl] at hp
  obtain ⟨r1, r3⟩ := pick_rows L es rows order.toList fun i hi => List.mem_range.mp (hp.mem_iff.mp hi)
  have r2 : (order.toList.filterMap fun i => L[i]?).Perm L := by
    have := hp.filterMap fun i => L[i]?
    rw [pick_all] at this
    exact this
  generalize hL2 : (order.toList.filterMap fun i => L[i]?) = L2 at r1 r2 r3
  rw [← r3] at T
  have ra : (order.filterMap (es[·]?)).toList = L2 := by rw [Array.toList_filterMap]; exact r1
  have hs2 : (order.filterMap (es[·]?)).size = es.size := by rw [← Array.length_toList, ra, r2.length_eq, hsl]
  rw [setRelay_eq]
  refine wpAny_bind (wpAny_setState_of ho hd hfits ?_)
  dsimp only
  refine wp_if_neg (by rw [sizeLine_eq]; omega) ?_
  try refine wpAny_bind (wpAny_pure ?_)
  rw [e]
  dsimp only
  refine wpAny_bind ?_
  refine wp_if_neg (by rw [hs2]; simp) ?_
  try refine wpAny_bind (wpAny_pure ?_)
  refine wpAny_pure ?_
  dsimp only
  refine wpAny_storeSet_of ho hd ?_ (by rw [hs2, hsl, sizeLine_eq]; omega)
  exact hQ _ L2 (order.filterMap (es[·]?)) (ep + 1) t' (Heap.SameBut.update ..) ⟨⟨_, store_at ho hd, ⟨hex.1, hex.2.1, hex.2.2⟩, rfl⟩, ra, T, (r2.map Prod.fst).nodup_iff.mpr nd, by rw [ep']; exact pl, by rw [r2.length_eq, em]; exact hn, by rw [r2.length_eq]; exact few⟩ r2.length_eq r2
/-- one more, of a hash that none has -/
theorem uset_add (R : Uset s.heap a L es ep t) {v : Value} {k : Int} (hk : k ∉ L.map Prod.fst) (hsc : byScan v es = false) (hby : ∀ {Q : Bool → Shared → Prop}, Q true s → wpAny (model P w) A (hashByValue 8 v) Q E s) (hfew : L.length + 1 < 64) {Q : Bool → Shared → Prop}
    (hQ : ∀ h' L' es' ep' t', Heap.SameBut a s.heap h' → Uset h' a L' es' ep' t' → L'.Perm ((k, v) :: L) → Q true { s with heap := h' }) : wpAny (model P w) A (setAddHashed a v k) Q E s := by
  obtain ⟨o, ho, hex, hd⟩ := R.at_
  have hsl := R.size
  have hroom := R.room
  unfold setAddHashed
  refine wpAny_holding ?_
  rw [show (100000 : Nat) = 99999 + 1 from rfl, setAddHashedIn_succ]
  refine wpAny_bind (wpAny_setState_of ho hd R.fits ?_)
  dsimp only
  refine wp_if_neg (by simp [hsc]) ?_
  try refine wpAny_bind (wpAny_pure ?_)
  refine wpAny_bind (uset_search R hk fun K hK hb => ?_)
  dsimp only
  refine wpAny_bind (wpAny_setState_of ho hd R.fits ?_)
  dsimp only
  obtain ⟨q1, q2, q3, q4, _, q6, _, _, q9⟩ := R.tab.put hK hb
  have hp1 : (t.put (way t.mask k K)).1.plain = true := by rw [q6]; exact R.plain
  generalize hpt : t.put (way t.mask k K) = pt at q1 q3 q4 q6 q9 hp1 ⊢
  obtain ⟨t1, p⟩ := pt
  dsimp only at q1 q3 q4 q6 q9 hp1 ⊢
  subst q1
  first
    | (refine wpAny_bind ?_; refine wp_if_pos hp1 ?_; refine hby ?_)
    | refine wp_if_pos hp1 (wpAny_bind (hby ?_))
  simp only [if_true]
  have hin : (SetTable.insertAt es (SetTable.below t.place (way t.mask k K)) (k, v)).toList = L.take (SetTable.below t.place (way t.mask k K)) ++ (k, v) :: L.drop (SetTable.below t.place (way t.mask k K)) := by
    rw [SetTable.toList_insertAt, R.rows]
  generalize SetTable.below t.place (way t.mask k K) = p at q2 q3 hin ⊢
  have pm := put_perm L p (k, v)
  have hlen : (L.take p ++ (k, v) :: L.drop p).length = L.length + 1 := pm.length_eq
  rw [show (L.map Prod.fst).take p ++ k :: (L.map Prod.fst).drop p = (L.take p ++ (k, v) :: L.drop p).map Prod.fst by rw [List.map_append, List.map_cons, List.map_take, List.map_drop]] at q3
  have nd1 : ((L.take p ++ (k, v) :: L.drop p).map Prod.fst).Nodup := (pm.map Prod.fst).nodup_iff.mpr (List.nodup_cons.mpr ⟨hk, R.nd⟩)
  generalize SetTable.insertAt es p (k, v) = es1 at hin ⊢
  generalize L.take p ++ (k, v) :: L.drop p = L1 at pm hlen q3 nd1 hin
  have hes : es1.size = L.length + 1 := by rw [← Array.length_toList, hin, hlen]
  refine wpAny_bind (wpAny_storeSet_of ho hd ?_ (by rw [hes, sizeLine_eq]; omega))
  have sb : Heap.SameBut a s.heap (s.heap.update a (Obj.putSet es1 t1)) := Heap.SameBut.update ..
  have ho1 := store_at (es' := es1) (t' := t1) ho hd
  generalize s.heap.update a (Obj.putSet es1 t1) = h1 at sb ho1 ⊢
  by_cases hf : t1.tooFull = true
  · first
      | (refine wpAny_bind ?_; refine wp_if_pos (by simp [hf]) ?_)
      | (refine wp_if_pos (by simp [hf]) ?_; refine wpAny_bind ?_)
    have hfull := hf
    unfold SetTable.tooFull at hfull
    rw [decide_eq_true_eq, q9, List.length_map] at hfull
    rw [hsl]
    have cases2 : (t.mask = 7 ∧ L.length = 4) ∨ (t.mask = 31 ∧ L.length = 18) := by
      rcases R.tab.mok with e | e | e <;> rw [q4, e] at hfull <;> rw [e] at hroom
      · exact .inl ⟨e, by omega⟩
      · exact .inr ⟨e, by omega⟩
      · omega
    have go : ∀ M, SetTable.sizeAbove (SetTable.grown (L.length + 1)) - 1 = M → MaskOk M → SetTable.sizeAbove (SetTable.grown (L.length + 1)) ≤ 128 → (L.length + 1) * 5 < M * 3 →
        wpAny (model P w) A (setRelay a (SetTable.grown (L.length + 1))) (fun _ s' => wpAny (model P w) A (pure true) Q E s') E { s with heap := h1 } := fun M m1 m2 m3 m4 => by
      refine uset_relay (s := { s with heap := h1 }) ho1 ⟨hex.1, hex.2.1, hex.2.2⟩ rfl hin q3 (by rw [hlen, q4]; rcases cases2 with ⟨e, e2⟩ | ⟨e, e2⟩ <;> omega) nd1 hp1 (by rw [hlen]; exact hfew) m1 m2 m3 (by rw [hlen]; exact m4) fun h2 L2 es2 ep2 t2 sb2 R2 _ pm2 => ?_
      exact wpAny_pure (hQ h2 L2 es2 ep2 t2 (sb.trans sb2) R2 (pm2.trans pm))
    rcases cases2 with ⟨_, e2⟩ | ⟨_, e2⟩
    · exact go 31 (by rw [e2, size_20]) (.inr (.inl rfl)) (by rw [e2, size_20]; decide) (by omega)
    · exact go 127 (by rw [e2, size_76]) (.inr (.inr rfl)) (by rw [e2, size_76]; decide) (by omega)
  · first
      | refine wp_if_neg (by simp [hf]) ?_
      | (refine wpAny_bind ?_; refine wp_if_neg (by simp [hf]) ?_; refine wpAny_pure ?_)
    refine wpAny_pure (hQ h1 L1 es1 (ep + 1) t1 sb ⟨⟨_, ho1, ⟨hex.1, hex.2.1, hex.2.2⟩, rfl⟩, hin, q3, nd1, hp1, ?_, by rw [hlen]; exact hfew⟩ pm)
    have hnot := hf
    unfold SetTable.tooFull at hnot
    rw [decide_eq_true_eq, q9, List.length_map] at hnot
    rw [hlen]
    omega
/-- a thing of which the set asks its hash and no more -/
structure Thing (P : Program) (w : World) (h0 : Heap) (k : Int) (v : Value) : Prop where
  hash : ∀ {A : Around} {E : Value → Shared → Prop} {s : Shared} {Q : Int → Shared → Prop}, A.units < cLine → (∀ b o, h0.get? b = some o → s.heap.get? b = some o) → (∀ tk, Q k { s with toks := s.toks + tk }) → wpAny (model P w) A (pyHash v) Q E s
  by_ : ∀ {A : Around} {E : Value → Shared → Prop} {s : Shared} {Q : Bool → Shared → Prop}, (∀ b o, h0.get? b = some o → s.heap.get? b = some o) → Q true s → wpAny (model P w) A (hashByValue 8 v) Q E s
  far : ∀ es, byScan v es = false
/-- set.update's loop over such things, all of unlike hash -/
theorem uset_update {I : Addr} {fp wr : List Addr} {G : Array GenState → Array GenState → Prop} {n : Nat} {Pv : Nat → Value → Prop} {St : Nat → Shared → Prop} {R : Result → Shared → Prop}
    (W : WalksS P w A.in1 I fp wr G n Pv St) (S : Addr) (hSf : S ∉ fp) (ks : List (Int × Value)) (hn : n = ks.length) (few : ks.length < 64) (nd : (ks.map Prod.fst).Nodup) (hval : ∀ i v, Pv i v → ∃ k, ks[i]? = some (k, v))
    (h0 : Heap) (things : ∀ p ∈ ks, Thing P w h0 p.1 p.2) (hS0 : h0.get? S = none) (hw0 : ∀ b ∈ wr, h0.get? b = none) (hu : A.in1.units < cLine) :
    ∀ (k i : Nat) (s : Shared), n - i = k → i ≤ n → St i s → (∀ b o, h0.get? b = some o → s.heap.get? b = some o) → (∃ L es ep t, Uset s.heap S L es ep t ∧ L.Perm (ks.take i)) →
      (∀ s' L es ep t, Moved (S :: wr) G s s' → Uset s'.heap S L es ep t → L.Perm ks → (∀ b o, h0.get? b = some o → s'.heap.get? b = some o) → R (.ok (.ret .none)) s') →
      codeAny (model P w) A (.builtin "set.update.loop" ⟨[.ref S, .ref I], []⟩) R s := by
  have hSw : S ∉ wr := fun h => hSf (W.sub _ h)
  have wide : ∀ b ∈ wr, b ∈ S :: wr := fun b hb => List.mem_cons_of_mem _ hb
  have still : ∀ {s s' : Shared}, Moved wr G s s' → (∀ b o, h0.get? b = some o → s.heap.get? b = some o) → ∀ b o, h0.get? b = some o → s'.heap.get? b = some o := fun hm hkp b o e =>
    hm.heap b o (fun hb => by rw [hw0 b hb] at e; cases e) (hkp b o e)
  intro k
  induction k with
  | zero =>
    intro i s hk' hi hst hkp ⟨L, es, ep, t, hS, g⟩ hR
    obtain rfl : i = n := by omega
    refine codeAny_builtin F.entry_set_update_loop ?_
    rw [Around.under_plainId F.plain_set_update_loop _]
    show wpAny _ A.in1 (pyNext (.ref I) >>= _) _ _ s
    refine wpAny_bind (W.done s _ _ hst fun s' hm => ?_)
    show wpAny _ A.in1 (PySem.ret Value.none) _ _ s'
    rw [hn, List.take_length] at g
    obtain ⟨o, ho, r⟩ := hS.at_
    exact wpAny_pure (hR s' L es ep t (hm.mono wide) ⟨⟨o, hm.heap S o hSw ho, r⟩, hS.rows, hS.tab, hS.nd, hS.plain, hS.room, hS.few⟩ g (still hm hkp))
  | succ k ih =>
    intro i s hk' hi hst hkp ⟨L, es, ep, t, hS, g⟩ hR
    have hlt : i < n := by omega
    refine codeAny_builtin F.entry_set_update_loop ?_
    rw [Around.under_plainId F.plain_set_update_loop _]
    show wpAny _ A.in1 (pyNext (.ref I) >>= _) _ _ s
    refine wpAny_bind (W.item i s _ _ hlt hst fun v s' hP hst' hm => ?_)
    obtain ⟨kv, hp⟩ := hval i v hP
    have hkp' := still hm hkp
    obtain ⟨o, ho, r⟩ := hS.at_
    have hS' : Uset s'.heap S L es ep t := ⟨⟨o, hm.heap S o hSw ho, r⟩, hS.rows, hS.tab, hS.nd, hS.plain, hS.room, hS.few⟩
    have hil : i < ks.length := by omega
    have hpe : ks[i] = (kv, v) := by
      rw [List.getElem?_eq_getElem hil] at hp
      exact Option.some.inj hp
    have th := things _ (List.mem_of_getElem? hp)
    have hlen : L.length = i := by rw [g.length_eq, List.length_take]; omega
    have hnot : kv ∉ L.map Prod.fst := by
      intro hmem
      rw [(g.map Prod.fst).mem_iff, List.map_take] at hmem
      obtain ⟨j, hj, e⟩ := List.getElem_of_mem hmem
      rw [List.length_take] at hj
      rw [List.getElem_take] at e
      have hj2 : j < (ks.map Prod.fst).length := by omega
      have hi2 : i < (ks.map Prod.fst).length := by rw [List.length_map]; exact hil
      have hne := List.pairwise_iff_getElem.mp nd j i hj2 hi2 (by omega)
      refine hne ?_
      rw [e, List.getElem_map, hpe]
    show wpAny _ A.in1 (holding [v] (setAdd S v) >>= _) _ _ s'
    refine wpAny_bind (wpAny_holding ?_)
    unfold setAdd
    refine wpAny_holding ?_
    refine wpAny_bind (th.hash hu hkp' fun tk => ?_)
    refine uset_add (s := { s' with toks := s'.toks + tk }) hS' hnot (th.far es) (fun q => th.by_ hkp' q) (by omega) fun h' L' es' ep' t' hsb hS2 pm => ?_
    have hkp2 : ∀ b o, h0.get? b = some o → h'.get? b = some o := fun b o e => (hsb.2 b (fun z => by rw [z, hS0] at e; cases e)).trans (hkp' b o e)
    have g' : L'.Perm (ks.take (i + 1)) := by
      rw [List.take_succ, hp]
      exact pm.trans (((List.Perm.cons _ g)).trans (List.perm_append_singleton _ _).symm)
    refine wpAny_pure ⟨plainId_quiet F.plain_set_update_loop _, ih (i + 1) _ (by omega) hlt (W.frame _ s' _ _ hst' (Nat.le_add_right _ _) fun b hb o e => ?_) hkp2 ⟨L', es', ep', t', hS2, g'⟩ fun s'' L2 es2 ep2 t2 hm'' hS'' g'' hkp'' => ?_⟩
    · rw [hsb.2 b (fun h : b = S => hSf (by rw [← h]; exact hb))]; exact e
    · refine hR s'' L2 es2 ep2 t2 (Moved.trans W.gtrans ((hm.mono wide).then_heap (Nat.le_add_right _ _) fun b o hb e => ?_) hm'') hS'' g'' hkp''
      rw [hsb.2 b (fun h : b = S => hb (by rw [h]; exact List.mem_cons_self))]; exact e
abbrev newSet (w : World) : Obj := { cls := .type "set", dict := none, data := .set #[] 0 (.fresh 0 0 (!w.params.followText "set-order")) }
theorem uset_new {h : Heap} {a : Addr} {w : World} (ho : h.get? a = some (newSet w)) : Uset h a [] #[] 0 (.fresh 0 0 (!w.params.followText "set-order")) where
  at_ := ⟨_, ho, ⟨rfl, rfl, rfl⟩, rfl⟩
  rows := rfl
  tab := ⟨List.Pairwise.nil, rfl, rfl, .inl rfl, fun x hx => (by cases hx), fun i h j hi => (by simp at hi)⟩
  nd := List.nodup_nil
  plain := rfl
  room := by
    show 0 * 5 < 7 * 3
    decide
  few := by
    show 0 < 64
    decide
set_option maxRecDepth 100000 in
set_option maxHeartbeats 3200000 in
/-- set(xs), xs a list of such things -/
theorem uset_call {l : Addr} {items : Array Value} (ks : List (Int × Value)) {Q : Value → Shared → Prop} (hh : A.handled = none) (hl : s.heap.IsList l items) (hit : items.toList = ks.map Prod.snd)
    (things : ∀ p ∈ ks, Thing P w s.heap p.1 p.2) (few : ks.length < 64) (nd : (ks.map Prod.fst).Nodup) (hu : A.units + 3 < cLine)
    (h : ∀ (h' : Heap) (tk : Nat) L es ep t, Uset h' s.heap.objs.size L es ep t → L.Perm ks → (∀ b o, s.heap.get? b = some o → h'.get? b = some o) → Q (.ref s.heap.objs.size) { s with heap := h', toks := tk }) :
    wpAny (model P w) A (call (.type "set") [.ref l]) Q E s := by
  have hisz : items.size = ks.length := by
    have q := congrArg List.length hit
    rw [Array.length_toList, List.length_map] at q
    exact q
  obtain ⟨c, tl, hmro⟩ := F.called_set.mro
  have hmade := F.called_set.made
  have hsub := F.called_set.sub
  refine wpAny_call (codeAny_of_tree ?_)
  show wpAny _ _ (callAny (.type "set") _) _ _ _
  refine wpAny_pure ⟨Code.quiet_builtin _ (by decide +kernel), codeAny_builtin F.entry_type_call ?_⟩
  rw [Around.under_plain (weight_type_call_type "set" [.ref l] []) rfl]
  have h1 := F.called_set.notType
  have h2 := F.called_set.canCreate
  have hct := F.typeCall_set_1 (.ref l)
  repeat (any_goals (first | assumption | wp_step))
  refine codeAny_mono (code_set_led1 (.ref l) (E := E) (Q₁ := fun obj s₁ => obj = .ref s.heap.objs.size ∧ s₁ = { s with heap := s.heap.push (newSet w) }) ⟨rfl, rfl⟩) fun r s₁ hr => ?_
  cases r with
  | error e => exact hr
  | ok fl =>
    cases fl with
    | ret obj =>
      obtain ⟨rfl, rfl⟩ := hr
      have hS : (s.heap.push (newSet w)).get? s.heap.objs.size = some (newSet w) := Heap.get?_push_size _ rfl
      have hT : Shared.TypeIs { s with heap := s.heap.push (newSet w) } (.ref s.heap.objs.size) "set" := ⟨_, hS, rfl⟩
      have hli := F.called_set.init.lookup
      have hbi := F.called_set.init.bind (.ref s.heap.objs.size)
      repeat (any_goals (first | assumption | wp_step))
      refine codeAny_mono (codeAny_call_builtin (R := wants (fun r s₂ => r = .none ∧ ∃ h' tk L es ep t, s₂ = { s with heap := h', toks := tk } ∧ Uset h' s.heap.objs.size L es ep t ∧ L.Perm ks ∧
          (∀ b o, s.heap.get? b = some o → h'.get? b = some o)) E) F.called_set.init.plain F.entry_set_init (check_set_init_1 hT ?_)) fun r₂ s₂ hr₂ => ?_
      · obtain ⟨ol, hol, hcl, nl, hdl⟩ := hl
        obtain ⟨ocls, odict, odata, oslots⟩ := ol
        simp only at hcl hdl
        subst hcl; subst hdl
        have hol' : (s.heap.push (newSet w)).get? l = some { cls := .type "list", dict := odict, data := .seq items nl, slots := oslots } := Heap.get?_push_of_some _ hol
        have hsls := F.sub_list_set
        have hslf := F.sub_list_frozenset
        have hne : (Value.type "list" == Value.type "dict") = false := by decide
        have hl1 : (s.heap.push (newSet w)).IsList l items := ⟨_, hol', rfl, nl, rfl⟩
        unfold Builtin.«set.__init__» noKeywords Builtin.Frozenset.updateFrom
        generalize hPI : pyIter = PI
        wp_walk
        subst hPI
        refine wpAny_pyIter_list hl1 ?_
        refine wpAny_bind (wpAny_runValue ?_)
        have hlS : l < s.heap.objs.size := Heap.lt_size hol
        have hh3 : A.in1.in1.in1.handled = none := by simp [hh]
        have hneI : l ≠ (s.heap.push (newSet w)).objs.size := by
          rw [Heap.size_push]; exact Nat.ne_of_lt (Nat.lt_succ_of_lt hlS)
        have hSf : s.heap.objs.size ∉ [(s.heap.push (newSet w)).objs.size, l] := by
          rw [Heap.size_push]; simp only [List.mem_cons, List.mem_singleton, List.not_mem_nil, or_false, not_or]
          exact ⟨Nat.ne_of_lt (Nat.lt_succ_self _), Nat.ne_of_gt hlS⟩
        have hval : ∀ (i : Nat) (v : Value), items[i]? = some v → ∃ k, ks[i]? = some (k, v) := fun i v hv => by
          have q : items.toList[i]? = some v := by rw [Array.getElem?_toList]; exact hv
          rw [hit, List.getElem?_map] at q
          cases hq : ks[i]? with
          | none => rw [hq] at q; cases q
          | some p =>
            rw [hq] at q
            obtain ⟨p1, p2⟩ := p
            cases q
            exact ⟨p1, rfl⟩
        have none_of : ∀ b, s.heap.objs.size ≤ b → s.heap.get? b = none := fun b hb => by
          cases q : s.heap.get? b with
          | none => rfl
          | some o => exact absurd (Nat.lt_of_lt_of_le (Heap.lt_size q) hb) (Nat.lt_irrefl _)
        refine uset_update ((Walks.list hh3 _ l hneI items).toS) s.heap.objs.size
          hSf ks hisz few nd hval s.heap things (none_of _ (Nat.le_refl _)) (fun b hb => none_of b (by
            rw [List.mem_singleton.mp hb, Heap.size_push]
            exact Nat.le_succ _)) hu (items.size - 0) 0 _ (by omega) (Nat.zero_le _)
          ⟨⟨_, Heap.get?_push_size _ rfl, rfl, rfl⟩, (hl1.push _)⟩ (fun b o e => Heap.get?_push_of_some _ (Heap.get?_push_of_some _ e)) ?hS0 ?hR
        case hS0 => exact ⟨[], #[], 0, _, uset_new (Heap.get?_push_of_some _ hS), by simp⟩
        case hR =>
          intro s' L es ep t hm hS' g' hkp
          obtain ⟨h', g2, d', tk', os'⟩ := s'
          have eg : g2 = s.gens := hm.gens
          have ed : d' = s.drawn := hm.drawn
          have eo : os' = s.os := hm.os
          subst eg; subst ed; subst eo
          show wpAny _ _ _ _ _ _
          refine wpAny_pure ?_
          show wpAny _ _ (PySem.ret Value.none) _ _ _
          exact wpAny_pure ⟨rfl, h', tk', L, es, ep, t, rfl, hS', g', hkp⟩
      · cases r₂ with
        | error e => exact hr₂
        | ok fl₂ =>
          cases fl₂ with
          | ret r =>
            obtain ⟨rfl, h', tk, L, es, ep, t, rfl, hS', g', hk'⟩ := hr₂
            repeat (any_goals (first | assumption | wp_step))
            exact h _ _ _ _ _ _ hS' g' hk'
          | _ => exact hr₂.elim
    | _ => exact hr.elim
end
end VL

set_option linter.all false
set_option autoImplicit false
set_option maxRecDepth 100000
/-! The value layer, part 13: len(set(..)) of rows of truths. -/
namespace VL
open PySem L2 PyProof.Rows

section
variable {P : Program} {w : World} {A : Around} {E : Value → Shared → Prop} {s : Shared}
def rowH (g : List Bool) : Int := reduceHash (Builtin.Tuple.tupleHashOf (g.map PpSet.hB))
theorem rowH_eq (g : List Bool) : tupleKeyHash (PpSet.boolK P w) g = rowH g := rfl
theorem rows_unlike : ∀ n, n < 5 → ((allB n).map rowH).Nodup := by decide +kernel
theorem items_bool {k : List Bool} {vs : List Value} (h : ItemsAre (PpSet.boolK P w) k vs) : ∀ v ∈ vs, ∃ b, v = Value.bool b := by
  induction h with
  | nil => intro v hv; cases hv
  | @cons k0 v' ks vs h1 _ ih =>
    intro v hv
    rcases List.mem_cons.mp hv with e | hv
    · exact ⟨k0, e.trans (PpSet.isB_shape h1)⟩
    · exact ih v hv
theorem hashBy_bool (n : Nat) (b : Bool) : hashByValue n (.bool b) = pure true := by
  cases n <;> rfl
theorem row_thing {h0 : Heap} {g : List Bool} {b : Addr} (hk : IsTupleKey (PpSet.boolK P w) h0 g b) : Thing P w h0 (rowH g) (.ref b) := by
  have at_ : ∀ {s : Shared}, (∀ b o, h0.get? b = some o → s.heap.get? b = some o) → IsTupleKey (PpSet.boolK P w) s.heap g b := fun {s} hs => by
    obtain ⟨o, items, n, ho, r⟩ := hk
    exact ⟨o, items, n, hs b o ho, r⟩
  refine ⟨fun {A E s Q} hu hs hq => ?_, fun {A E s Q} hs hq => ?_, fun es => by simp [byScan, Value.scannable]⟩
  · rw [← rowH_eq (P := P) (w := w)] at hq
    exact wpAny_pyHash_tuple hu (at_ hs) (hq _)
  · have hk := at_ hs
    have hT := hk.typeIs
    obtain ⟨o, items, n, ho, _, hd, hi⟩ := hk
    unfold hashByValue
    refine wpAny_bind (wpAny_specialOf hT F.slot_tuple_hash.lookup ?_)
    show wpAny _ _ (seqItems? (.ref b) >>= _) _ _ s
    refine wpAny_bind (wpAny_seqItems ho hd ?_)
    refine wpAny_bind ?_
    show wpAny _ _ (forIn items _ _) _ _ s
    rw [← Array.forIn_toList]
    refine wpAny_forIn_list _ (fun rest r s' => r.1 = none ∧ s' = s ∧ ∀ v ∈ rest, ∃ b, v = Value.bool b) _ ?_ ?_ _ _ ⟨rfl, rfl, items_bool hi⟩
    · rintro v rest r s' ⟨hr, rfl, hall⟩
      obtain ⟨i, rfl⟩ := hall v List.mem_cons_self
      rw [hashBy_bool]
      refine wpAny_bind (wpAny_pure ?_)
      simp only [Bool.not_true, Bool.false_eq_true, if_false]
      exact wpAny_pure ⟨rfl, rfl, fun u hu' => hall u (List.mem_cons_of_mem _ hu')⟩
    · rintro ⟨r1, r2⟩ s' ⟨hr, rfl, _⟩
      simp only at hr
      subst hr
      exact wpAny_pure hq
end
section
variable {X : Cx} {c : Nat → Addr} {W : WX} {K : PySem.W.Frag}
theorem asBool_inv {d : PyData} {b : Bool} (h : asBool d = some b) : d = .bool b := by
  cases d <;> simp only [asBool] at h <;> cases h
  rfl
theorem asBools_inv : ∀ {ds : List PyData} {bs : List Bool}, asBools ds = some bs → ds = bs.map .bool
  | [], bs, h => by cases h; rfl
  | d :: ds, bs, h => by
    unfold asBools at h
    split at h
    · rename_i b bs' e1 e2
      cases h
      rw [asBool_inv e1, asBools_inv e2]
      rfl
    · cases h
theorem asRow_inv {d : PyData} {g : List Bool} (h : asRow d = some g) : d = .tuple (g.map .bool) := by
  cases d <;> simp only [asRow] at h <;> try cases h
  rw [asBools_inv h]
theorem asRows_inv : ∀ {ds : List PyData} {rows : List (List Bool)}, asRows ds = some rows → ds = rows.map fun g => .tuple (g.map .bool)
  | [], rows, h => by cases h; rfl
  | d :: ds, rows, h => by
    unfold asRows at h
    split at h
    · rename_i b bs' e1 e2
      cases h
      rw [asRow_inv e1, asRows_inv e2]
      rfl
    · cases h
theorem rp_bools {G : Hp} : ∀ {vs : List V} {g : List Bool}, RpL K G vs (g.map .bool) → vs = g.map V.bl
  | [], [], _ => rfl
  | v :: vs, b :: g, r => by
    simp only [List.map_cons, RpL, Rp] at r
    rw [r.1, rp_bools r.2, List.map_cons]
  | [], _ :: _, r => by simp only [List.map_cons, RpL] at r
  | _ :: _, [], r => by simp only [List.map_nil, RpL] at r
theorem items_of {P : Program} {w : World} : ∀ {g : List Bool} {us : List Value}, Vals (g.map V.bl) us → ItemsAre (PpSet.boolK P w) g us
  | [], _, r => by cases r; exact .nil
  | b :: g, _, r => by
    rw [List.map_cons] at r
    cases r with
    | cons r1 r2 =>
      cases r1
      exact .cons (PpSet.boolK_is P w b) (items_of r2)
/-- the things of a list of rows -/
theorem things_of {pins : List (Addr × Obj)} {σ : L2.St} {G H : Hp} {s : Shared} (I : L2.Inv X pins σ H s) (le : Same G H) {P : Program} {w : World} : ∀ {vs : List V} {rows : List (List Bool)} {us : List Value}, RpL X.K G vs (rows.map fun g => .tuple (g.map .bool)) → Vals vs us →
    ∃ ks : List (Int × Value), us = ks.map Prod.snd ∧ ks.map Prod.fst = rows.map rowH ∧ ∀ p ∈ ks, Thing P w s.heap p.1 p.2
  | [], [], us, _, r => by
    cases r
    exact ⟨[], rfl, rfl, fun p hp => (by cases hp)⟩
  | v :: vs, g :: rows, us, q, r => by
    simp only [List.map_cons, RpL, Rp] at q
    obtain ⟨⟨a, ws, rfl, ha, ra⟩, q2⟩ := q
    cases r with
    | cons r1 r2 =>
      cases r1
      obtain ⟨ks, e1, e2, e3⟩ := things_of I le q2 r2
      have hw := rp_bools ra
      subst hw
      obtain ⟨its, rv, ht, _⟩ := I.tuple (SqT.of (le _ _ ha))
      obtain ⟨o, ho, hc, n, hd⟩ := ht
      have hk : IsTupleKey (PpSet.boolK P w) s.heap g a := ⟨o, its.toArray, n, ho, hc, hd, items_of rv⟩
      refine ⟨(rowH g, .ref a) :: ks, by rw [e1]; rfl, by rw [List.map_cons, e2]; rfl, fun p hp => ?_⟩
      rcases List.mem_cons.mp hp with rfl | hp
      · exact row_thing hk
      · exact e3 p hp
  | [], _ :: _, _, q, _ => by simp only [List.map_cons, RpL] at q
  | _ :: _, [], _, q, _ => by simp only [List.map_nil, RpL] at q
def rLenSet (K : PySem.W.Frag) : V → Hp → VK → Prop := fun x H Q => ∃ (l : Addr) (vs : List V) (rows : List (List Bool)) (G : Hp), x = .ref l ∧ SqL K H l vs ∧ Same G H ∧ RpL K G vs (rows.map fun g => .tuple (g.map .bool)) ∧ rowsOk rows = true ∧ Q (.int rows.length) H
theorem allB_len : ∀ n, (allB n).length = 2 ^ n
  | 0 => rfl
  | n + 1 => by
    simp only [allB, List.length_append, List.length_map, allB_len n]
    rw [Nat.pow_succ]
    omega
theorem rowsOk_at {rows : List (List Bool)} (h : rowsOk rows = true) : ∃ n, n < 5 ∧ rows = allB n := by
  unfold rowsOk at h
  obtain ⟨n, hn, e⟩ := List.any_eq_true.mp h
  exact ⟨n, List.mem_range.mp hn, eq_of_beq e⟩
theorem pe_lenSetB {a : Expr} {ta : TE} {p p2 q pos : Pos} (hc : X.calm = true) (hu : X.A.units + 64 < cLine) (hg : Gl X "len") (hm : X.mg "len" = none) (hg2 : Gl X "set") (hm2 : X.mg "set" = none) (ha : PE X a ta)
    (na : starEach [a] X.env = (false, eval a X.env) :: starEach [] X.env := by rfl) : PE X (.Call (.Name "len" p) [.Call (.Name "set" p2) [a] [] q] [] pos) (tUn (rLenSet X.K) ta) := by
  refine ⟨fun pins s σ H Q I h => ?_⟩
  refine Call_ (ld_blt I hg hm PySem.boot_len ?_)
  refine callWith_builtin1 (args_cons ?_ rfl) rfl rfl
  refine Call_ (ld_blt I hg2 hm2 PyProof.Rows.boot_set ?_)
  refine callWith_type1 (args_cons (thn (ha.run pins s σ H _ I h) fun v s1 ⟨x, H1, I1, r1, q1⟩ => args_nil ?_) na) na rfl
  obtain ⟨l, vs, rows, G, rfl, hq, le, rp, hok, q1⟩ := q1
  cases r1
  obtain ⟨its, r, pl, hz⟩ := I1.list hq
  obtain ⟨n, hn, rfl⟩ := rowsOk_at hok
  obtain ⟨ks, e1, e2, e3⟩ := things_of (P := X.prog) (w := X.w) I1 le rp r
  have hlen : ks.length = (allB n).length := by
    have := congrArg List.length e2
    rw [List.length_map, List.length_map] at this
    exact this
  have hl16 : (allB n).length ≤ 16 := by
    rw [allB_len]
    have : 2 ^ n ≤ 2 ^ 4 := Nat.pow_le_pow_right (by decide) (by omega)
    omega
  refine uset_call ks (I1.ok.hd hc) pl.isList (by simpa using e1) e3 (by omega) (by rw [e2]; exact rows_unlike n hn) (by omega) fun h' tk L es ep t hS pm hk => ?_
  refine args_nil ?_
  obtain ⟨o, ho, hex, hd⟩ := hS.at_
  have I2 : L2.Inv X pins σ H1 { s1 with heap := h', toks := tk } := I1.kept fun b o e => hk b o e
  have hsz : es.size = (allB n).length := by rw [← Array.length_toList, hS.rows, pm.length_eq, hlen]
  refine call_len_set ho hex hd (Uset.fits (s := { s1 with heap := h', toks := tk }) hS) (by rw [hsz]; omega) ⟨.int (allB n).length, H1, I2.tok _, ⟨_, by rw [hsz]⟩, q1⟩
def oLenS : Op1 := fun ρ x => by1 dLenSet (rd ρ x)
@[simp] theorem oLenS_py (ρ : DEnv) (p : PyData) : oLenS ρ (.sh (.py p)) = dLenSet p := rfl
theorem ok_lenS : Ok1 K c (rLenSet K) oLenS := by
  intro G H σ ρ v x e Q env hx ho k
  unfold oLenS at ho
  cases er : rd ρ x with
  | none => rw [er] at ho; cases ho
  | some p =>
    rw [er, by1_some] at ho
    unfold dLenSet at ho
    split at ho
    · rename_i ds
      split at ho
      · rename_i rows hr
        split at ho
        · rename_i hok
          cases ho
          obtain ⟨a, vs, ea, ha, ra⟩ := rd_list env hx er
          have hds := asRows_inv hr
          subst hds
          refine ⟨a, vs, rows, G, ea, SqL.of ha, env.le, ra, hok, ?_⟩
          rw [List.length_map] at k
          exact k.flat env (by simp only [Rp])
        · cases ho
      · cases ho
    · cases ho
theorem de_lenSet {a : Expr} {f : M Ent} {p p2 q pos : Pos} (hc : X.calm = true) (hu : X.A.units + 64 < cLine) (hg : Gl X "len") (hm : X.mg "len" = none) (hg2 : Gl X "set") (hm2 : X.mg "set" = none) (ha : DE X c W a f)
    (na : starEach [a] X.env = (false, eval a X.env) :: starEach [] X.env := by rfl) : DE X c W (.Call (.Name "len" p) [.Call (.Name "set" p2) [a] [] q] [] pos) (f1 oLenS f) := pe_weak (pe_lenSetB hc hu hg hm hg2 hm2 ha na) (w_f1 ok_lenS)
end
end VL

set_option linter.all false
set_option autoImplicit false
set_option maxRecDepth 100000
/-! The value layer, part 14: fields of instances. -/
namespace VL
open PySem L2

section
variable {X : Cx} {c : Nat → Addr} {W : WX} {K : PySem.W.Frag} {e : Expr} {fe : M Ent} {pos : Pos}
def oFld (k : Nat) (f : Str) : Op1 := fun ρ x => match x with
  | .sh (.ins j fs) => if j = k then (fs.lookup f).map .sh else none
  | _ => none
theorem RpF.look {G : Hp} {f : Str} {d : D} : ∀ {vs : List (Str × V)} {fs : List (Str × D)}, RpF K c G vs fs → fs.lookup f = some d → ∃ v, vs.lookup f = some v ∧ RpD K c G v d
  | [], [], _, h => by simp at h
  | (n, v) :: vs, (m, d') :: fs, r, h => by
    simp only [RpF] at r
    obtain ⟨⟨hn, rd⟩, r2⟩ := r
    have hn : n = m := hn
    subst hn
    rw [List.lookup_cons] at h ⊢
    by_cases hf : f == n
    · rw [hf] at h ⊢
      cases h
      exact ⟨v, rfl, rd⟩
    · have hf : (f == n) = false := by simpa using hf
      rw [hf] at h ⊢
      exact RpF.look r2 h
  | [], _ :: _, r, _ => by simp only [RpF] at r
  | _ :: _, [], r, _ => by simp only [RpF] at r
theorem de_fld (k : Nat) {f : Str} (hc : Cls X.K (c k)) (hn : NoAttr X.K (c k) f) (he : DE X c W e fe) (hb : attributeBase e f X.env (eval e X.env) = eval e X.env := by rfl) : DE X c W (.Attribute e f pos) (f1 (oFld k f) fe) := pe_weak (pe_fld he hb) fun σ H Q h => by
  have := w_f1 (r := fun x H1 Q => ∃ a C dx fs v, x = .ref a ∧ H1 a = some (.ins C dx fs) ∧ Cls X.K C ∧ NoAttr X.K C f ∧ fs.lookup f = some v ∧ Q v H1) ?_ σ H Q h
  · exact this
  · intro G H σ ρ v x e Q env hx ho k'
    unfold oFld at ho
    split at ho
    · rename_i j fs
      split at ho
      · rename_i hj
        subst hj
        obtain ⟨d, hd, rfl⟩ := Option.map_eq_some_iff.mp ho
        simp only [EntOk, RpD] at hx
        obtain ⟨a, dx, vs, rfl, ha, rf⟩ := hx
        obtain ⟨u, hu, ru⟩ := RpF.look rf hd
        exact ⟨a, _, dx, vs, u, rfl, env.le _ _ ha, hc, hn, hu, k' u G H (.refl env) ru trivial⟩
      · cases ho
    · cases ho
end
end VL

set_option linter.all false
set_option autoImplicit false
set_option maxRecDepth 100000
/-! The value layer, part 15: methods called. -/
namespace VL
open PySem L2 PySem.Spec PyProof.Rows

section
variable {X : Cx} {CX : CXT} {k : Nat} {f C : Addr} {fd : FuncData} {ps : List Str} {sp : Sp} {E : L2.St → XK} {x m : Str} {p pos apos : Pos} {e o : Expr} {es : List Expr} {ta : TE} {t : TA}
def tMethA (C : Addr) (m : Str) (sp : Sp) (E : L2.St → XK) (ta : TE) (t : TA) : TE := fun σ H Q => ta σ H fun x H1 => ∃ a dx fs, x = .ref a ∧ H1 a = some (.ins C dx fs) ∧ fs.lookup m = none ∧ t σ H1 fun vs H2 => sp (x :: vs) H2 Q (E σ)
/-- o.m(e, ..), what it raises passed on as this body stands -/
theorem pe_methA {pl : Sem Bool} (he : PE X o ta) (c : Cls X.K C) (hm : Meth X.K C m f) (F : FnOk X.prog X.w X.K X.mg X.base CX k f fd ps sp) (hr : Room k X.A) (hb : Binds X.K fd ps []) (hx : ∀ σ, PassesAt CX X σ (E σ)) (ha : PA X (e :: es) t)
    (hst : starEach (e :: es) X.env = (false, eval e X.env) :: starEach es X.env := by rfl) (hpl : (backTo pos (starEach es X.env)).any (·.1) = false := by rfl)
    (ht : eval (.Call (.Attribute o m apos) (e :: es) [] pos) X.env = (do
      let ov ← eval o X.env
      standAt apos.atName
      let (f, first) ← holding [ov] (getMethod ov m pl)
      callWith pos f first (backTo pos (starEach (e :: es) X.env)) (backToKw pos (keywordEach [] X.env))) := by rfl) :
    PE X (.Call (.Attribute o m apos) (e :: es) [] pos) (tMethA C m sp E ta t) := by
  refine ⟨fun pins s σ H Q I h => PySem.W.methodCall_KW (pl := pl) (thn (he.run pins s σ H _ I h) fun u s1 ⟨x, H1, I1, rx, a, dx, fs, ex, ea, l, q⟩ => ?_) ht⟩
  subst ex
  obtain rfl : u = Value.ref a := rx
  exact getmeth_ok I1 ea c hm l (PySem.W.callWith_K (first := [.ref a]) (h₀ := X.base) I.ok.mod.kin hm.kp (thn (ha.run pos pins s1 σ H1 _ I1 q) fun us s2 ⟨vs, H2, I2, r, q2⟩ => ⟨I2.kIn, run_fnS (us := .ref a :: us) (vs := .ref a :: vs) F hr hb (hx σ) I2 (.cons rfl r) q2⟩) hst hpl)
theorem pe_methA0 {pl : Sem Bool} (he : PE X o ta) (c : Cls X.K C) (hm : Meth X.K C m f) (F : FnOk X.prog X.w X.K X.mg X.base CX k f fd ps sp) (hr : Room k X.A) (hb : Binds X.K fd ps []) (hx : ∀ σ, PassesAt CX X σ (E σ))
    (ht : eval (.Call (.Attribute o m apos) [] [] pos) X.env = (do
      let ov ← eval o X.env
      standAt apos.atName
      let (f, first) ← holding [ov] (getMethod ov m pl)
      callWith pos f first (backTo pos (starEach [] X.env)) (backToKw pos (keywordEach [] X.env))) := by rfl) :
    PE X (.Call (.Attribute o m apos) [] [] pos) (tMethA C m sp E ta (fun _ H Q => Q [] H)) := by
  refine ⟨fun pins s σ H Q I h => PySem.W.methodCall_KW (pl := pl) (thn (he.run pins s σ H _ I h) fun u s1 ⟨x, H1, I1, rx, a, dx, fs, ex, ea, l, q⟩ => ?_) ht⟩
  subst ex
  obtain rfl : u = Value.ref a := rx
  exact getmeth_ok I1 ea c hm l (PySem.W.callWith_K0 (first := [.ref a]) I1.kIn hm.kp (run_fnS (us := [.ref a]) (vs := [.ref a]) F hr hb (hx σ) I1 (.cons rfl .nil) q))
end
section
variable {X : Cx} {c : Nat → Addr} {W : WX} {K : PySem.W.Frag} {e o : Expr} {es : List Expr} {fo : M Ent} {mm : M (List Ent)} {pos apos : Pos}
/-- an instance of the k-th class that has no such field -/
def insO (k : Nat) (m : Str) (x : Ent) : M Ent := fun ρ => match x with
  | .sh (.ins j fs) => if j = k ∧ fs.lookup m = none then some (.ok x ρ) else none
  | _ => none
def fIns (k : Nat) (m : Str) (fo : M Ent) : M Ent := bnd fo (insO k m)
theorem RpF.lookN {G : Hp} {f : Str} : ∀ {vs : List (Str × V)} {fs : List (Str × D)}, RpF K c G vs fs → fs.lookup f = none → vs.lookup f = none
  | [], [], _, _ => rfl
  | (n, v) :: vs, (m, d') :: fs, r, h => by
    simp only [RpF] at r
    obtain ⟨⟨hn, rd⟩, r2⟩ := r
    have hn : n = m := hn
    subst hn
    rw [List.lookup_cons] at h ⊢
    by_cases hf : f == n
    · rw [hf] at h
      cases h
    · have hf : (f == n) = false := by simpa using hf
      rw [hf] at h ⊢
      exact RpF.lookN r2 h
  | [], _ :: _, r, _ => by simp only [RpF] at r
  | _ :: _, [], r, _ => by simp only [RpF] at r
theorem w_ins {k : Nat} {m : Str} (σ : L2.St) (H : Hp) (R : VK) (h : tD X.K c W (fIns k m fo) σ H R) : tD X.K c W fo σ H fun x H1 => (∃ a dx fs, x = .ref a ∧ H1 a = some (.ins (c k) dx fs) ∧ fs.lookup m = none) ∧ R x H1 := by
  obtain ⟨G, ρ, env, h⟩ := h
  refine ⟨G, ρ, env, wpM_mono (wpM_bnd.mp h) (fun x ρ1 h1 v G1 H1 s1 e1 fr => ?_) fun _ _ x => x⟩
  unfold insO at h1
  split at h1
  · rename_i j fs
    split at h1
    · rename_i hj
      obtain ⟨rfl, hl⟩ := hj
      have e1' := e1
      simp only [EntOk, RpD] at e1'
      obtain ⟨a, dx, vs, rfl, ha, rf⟩ := e1'
      exact ⟨⟨a, dx, vs, rfl, s1.env.le _ _ ha, RpF.lookN rf hl⟩, h1 _ G1 H1 s1 e1 fr⟩
    · exact h1.elim
  · exact h1.elim
/-- a method at its promise -/
structure MethAt (P : Program) (w : World) (K : PySem.W.Frag) (mg : Str → Option Value) (base : Heap) (c : Nat → Addr) (j k : Nat) (name : Str) (n : Nat) (io : Option Nat) (fn : Fn) : Prop where
  cls : Cls K (c j)
  ex : ∃ f fd ps, Meth K (c j) name f ∧ Binds K fd ps [] ∧ ps.length = n ∧ FnOk P w K mg base (L2.CX P w) k f fd ps (spF K c n io fn)
def fMeth (j : Nat) (name : Str) (n : Nat) (io : Option Nat) (fn : Fn) (fo : M Ent) (mm : M (List Ent)) : M Ent := fCall n io fn (fCons (fIns j name fo) mm)
theorem de_meth {j k n : Nat} {name : Str} {io : Option Nat} {fn : Fn} (F : MethAt X.prog X.w X.K X.mg X.base c j k name n io fn) (hn : ∀ i, io = some i → i < n) (hr : Room k X.A) (tk : Takes X W) (ho : DE X c W o fo) (ha : DA X c W (e :: es) mm)
    (pl : Sem Bool) (hst : starEach (e :: es) X.env = (false, eval e X.env) :: starEach es X.env := by rfl) (hpl : (backTo pos (starEach es X.env)).any (·.1) = false := by rfl)
    (ht : eval (.Call (.Attribute o name apos) (e :: es) [] pos) X.env = (do
      let ov ← eval o X.env
      standAt apos.atName
      let (f, first) ← holding [ov] (getMethod ov name pl)
      callWith pos f first (backTo pos (starEach (e :: es) X.env)) (backToKw pos (keywordEach [] X.env))) := by rfl) :
    DE X c W (.Call (.Attribute o name apos) (e :: es) [] pos) (fMeth j name n io fn fo mm) := by
  obtain ⟨f, fd, ps, h1, h2, h3, h4⟩ := F.ex
  refine pe_weak (pe_methA (E := WE W) ho F.cls h1 h4 hr h2 (passAt tk) ha hst hpl ht) fun σ H Q h => ?_
  have q := w_ins σ H _ (w_cons σ H _ (w_call hn σ H Q h))
  obtain ⟨G, ρ, env, q⟩ := q
  exact ⟨G, ρ, env, wpM_mono q (fun x ρ1 q1 v G1 H1 s1 e1 fr => by
    obtain ⟨⟨a, dx, fs, ea, hf, hl⟩, q2⟩ := q1 v G1 H1 s1 e1 fr
    exact ⟨a, dx, fs, ea, hf, hl, q2⟩) fun _ _ x => x⟩
theorem de_meth0 {j k n : Nat} {name : Str} {io : Option Nat} {fn : Fn} (F : MethAt X.prog X.w X.K X.mg X.base c j k name n io fn) (hn : ∀ i, io = some i → i < n) (hr : Room k X.A) (tk : Takes X W) (ho : DE X c W o fo)
    (pl : Sem Bool)
    (ht : eval (.Call (.Attribute o name apos) [] [] pos) X.env = (do
      let ov ← eval o X.env
      standAt apos.atName
      let (f, first) ← holding [ov] (getMethod ov name pl)
      callWith pos f first (backTo pos (starEach [] X.env)) (backToKw pos (keywordEach [] X.env))) := by rfl) :
    DE X c W (.Call (.Attribute o name apos) [] [] pos) (fMeth j name n io fn fo fNil) := by
  obtain ⟨f, fd, ps, h1, h2, h3, h4⟩ := F.ex
  refine pe_weak (pe_methA0 (E := WE W) ho F.cls h1 h4 hr h2 (passAt tk) ht) fun σ H Q h => ?_
  have q := w_ins σ H _ (w_cons σ H _ (w_call hn σ H Q h))
  obtain ⟨G, ρ, env, q⟩ := q
  exact ⟨G, ρ, env, wpM_mono q (fun x ρ1 q1 v G1 H1 s1 e1 fr => by
    obtain ⟨⟨a, dx, fs, ea, hf, hl⟩, q2⟩ := q1 v G1 H1 s1 e1 fr
    obtain ⟨G2, ρ2, env2, q3⟩ := q2
    exact ⟨a, dx, fs, ea, hf, hl, q3 [] G2 H1 (.refl env2) .nil⟩) fun _ _ x => x⟩
end
end VL

set_option linter.all false
set_option autoImplicit false
set_option maxRecDepth 100000
/-! The value layer, part 16: the module's constants. -/
namespace VL
open PySem L2

section
variable {X : Cx} {c : Nat → Addr} {W : WX} {x : Str} {pos : Pos}
theorem de_globI {i : Int} {t : Tok} (hg : Gl X x) (hm : X.mg x = some (.int i t)) (hd : (x == ("__debug__" : Str)) = false := by decide) : DE X c W (.Name x pos) (fC (.int i)) := pe_weak (pe_glob (v := .int i) hg hm ⟨t, rfl⟩ hd) (w_const fun _ => by simp only [Rp])
theorem de_globS {z : Str} {t : Tok} (hg : Gl X x) (hm : X.mg x = some (.str z t)) (hd : (x == ("__debug__" : Str)) = false := by decide) : DE X c W (.Name x pos) (fC (.str z)) := pe_weak (pe_glob (v := .str z) hg hm ⟨t, rfl⟩ hd) (w_const fun _ => by simp only [Rp])
end
end VL

set_option linter.all false
set_option autoImplicit false
set_option maxRecDepth 100000
/-! The value layer, part 17: instances made; what __init__ raises is passed on as the body stands. -/
namespace VL
open PySem L2 PySem.Spec PyProof.Rows

section
variable {X : Cx} {CX : CXT} {k : Nat} {f C : Addr} {fd : FuncData} {ps : List Str} {sp : Sp} {E : L2.St → XK} {x : Str} {p pos : Pos} {e : Expr} {es : List Expr} {t : TA}
def tMakeA (C : Addr) (sp : Sp) (E : L2.St → XK) (t : TA) : TE := fun σ H Q => t σ H fun vs H1 => ∀ x dx, H1 x = none → H1 dx = none → dx ≠ x → sp (.ref x :: vs) (upd (upd H1 dx (.own x)) x (.ins C dx [])) (fun v H2 => v = .non ∧ Q (.ref x) H2) (E σ)
theorem pe_makeA (M : Mk X.K C f) (F : FnOk X.prog X.w X.K X.mg X.base CX k f fd ps sp) (hr : Room (k + 1) X.A) (hg : Gl X x) (hm : X.mg x = some (.ref C)) (hb : Binds X.K fd ps []) (hx : ∀ σ, PassesAt CX X σ (E σ))
    (ha : PA X (e :: es) t) (hdb : (x == ("__debug__" : Str)) = false := by decide) (he : starEach (e :: es) X.env = (false, eval e X.env) :: starEach es X.env := by rfl) (hpl : (backTo pos (starEach es X.env)).any (·.1) = false := by rfl) :
    PE X (.Call (.Name x p) (e :: es) [] pos) (tMakeA C sp E t) := by
  refine ⟨fun pins s0 σ H0 Q I0 h0 => wpAny_Call_Name_kw (ld_glob I0 hg hm ?_ hdb)⟩
  refine PySem.W.callWith_K (h₀ := X.base) I0.ok.mod.kin M.kp (thn (ha.run pos pins s0 σ H0 _ I0 h0) fun us s ⟨vs, H, I, r, h⟩ => ⟨I.kIn, ?_⟩) he hpl
  have hq := h (s.heap.objs.size + 1) s.heap.objs.size (I.hok.fresh (Nat.le_succ _)) (I.hok.fresh (Nat.le_refl _)) (Nat.ne_of_lt (Nat.lt_succ_self _))
  have I2 := Inv.made (C := C) I
  have r2 : Vals (V.ref (s.heap.objs.size + 1) :: vs) (Value.ref (s.heap.objs.size + 1) :: us) := .cons rfl r
  have hl : (Value.ref (s.heap.objs.size + 1) :: us).length = ps.length := by
    have e := r2.length
    rw [F.len _ _ _ _ hq] at e
    exact e.symm
  have hbb := hb _ (Value.ref (s.heap.objs.size + 1) :: us) I2.kIn (by rw [List.append_nil]; exact hl)
  rw [List.append_nil] at hbb
  refine wpAny_call (make_map (f := f) I.kIn M.makes M.init (beq_iff_eq.mp M.fn) (codeAny_mono (F.run _ X.stack _ _ ⟨Value.ref (s.heap.objs.size + 1) :: us, []⟩ (Value.ref (s.heap.objs.size + 1) :: us) _ _ (E σ) (hr.make C us [])
    (I2.env0.make C us []) hbb r2 hq) fun r' s' hq' => ?_))
  cases r' with
  | error e => exact hx σ pins _ _ e s' I2 hq'
  | ok fl =>
    cases fl with
    | ret u =>
      obtain ⟨v, H', I3, rv, ev, q3⟩ := I2.after hq'
      subst ev
      exact ⟨rv, ⟨V.ref (s.heap.objs.size + 1), H', I3, rfl, q3⟩⟩
    | next => exact False.elim hq'
    | brk => exact False.elim hq'
    | cont => exact False.elim hq'
end
end VL

set_option linter.all false
set_option autoImplicit false
set_option maxRecDepth 100000
/-! The value layer, part 18: where no name has a thing of its own, the heap only grows; what is wholly new; instances made. -/
namespace VL
open PySem L2 PySem.Spec PyProof.Rows

section
variable {K : PySem.W.Frag} {c : Nat → Addr} {W : WX} {G G' H H' H1 H2 : Hp} {σ σ' : L2.St} {ρ ρ' : DEnv} {Q : VK}
def NoOw (ρ : DEnv) : Prop := ∀ (i : Nat) (p : PyData) (b : Bool), ρ[i]? ≠ some (some (.own p b))
theorem NoOw.ow (h : NoOw ρ) (a : Addr) : ¬ Ow σ ρ a := fun ⟨i, p, b, h1, _⟩ => h i p b h1
def noOw : DEnv → Bool
  | [] => true
  | some (.own _ _) :: _ => false
  | _ :: r => noOw r
theorem noOw_ok : ∀ {ρ : DEnv}, noOw ρ = true → NoOw ρ
  | [], _ => fun i p b h => by simp at h
  | none :: r, h => fun i p b e => by
    cases i with
    | zero => simp at e
    | succ i => exact noOw_ok (ρ := r) h i p b (by simpa using e)
  | some (.sh _) :: r, h => fun i p b e => by
    cases i with
    | zero => simp at e
    | succ i => exact noOw_ok (ρ := r) h i p b (by simpa using e)
  | some (.lnk _) :: r, h => fun i p b e => by
    cases i with
    | zero => simp at e
    | succ i => exact noOw_ok (ρ := r) h i p b (by simpa using e)
  | some (.own _ _) :: r, h => by cases h
theorem argE_noOw {ds : List D} : NoOw (argE none ds) := fun i p b h => nomatch (argE_own h).1
theorem Stp.grow (x : EnvOk K c G H σ ρ) (n : NoOw ρ) (s : Stp K c G H σ ρ G' H' σ' ρ') : Same H H' := fun p o h => by
  cases hg : G p with
  | none => exact (s.keep p o h hg (n.ow p)).1
  | some u =>
    have e := x.le p u hg
    rw [h] at e
    cases e
    exact s.env.le p _ (s.sh p _ hg)
theorem EnvOk.grow (x : EnvOk K c G H σ ρ) (n : NoOw ρ) (h : Same H H') : EnvOk K c G H' σ ρ := ⟨x.le.trans h, x.len, x.sh, fun i p b e => (n i p b e).elim, x.nol, x.inj⟩
theorem EnvOk.up (x : EnvOk K c G H σ ρ) (n : NoOw ρ) (h1 : Same G G') (h2 : Same G' H') : EnvOk K c G' H' σ ρ := ⟨h2, x.len, fun i d e => by
  obtain ⟨v, ev, r⟩ := x.sh i d e
  exact ⟨v, ev, r.mono h1⟩, fun i p b e => (n i p b e).elim, x.nol, x.inj⟩
theorem Stp.ofGrow (x : EnvOk K c G H σ ρ) (n : NoOw ρ) (h1 : Same G G') (h2 : Same G' H') (h3 : Same H H') (k : ∀ p o, H p = some o → G p = none → G' p = none) : Stp K c G H σ ρ G' H' σ ρ :=
  ⟨x.up n h1 h2, h1, fun p o e1 e2 _ => ⟨h3 p o e1, k p o e1 e2⟩, fun p h => .inl h, fun p h => h3.free h, fun i p h => (n i p true h).elim⟩
/-- what a reading without effects asks -/
theorem tD_pure {f : M Ent} {e : Ent} (x : EnvOk K c G H σ ρ) (n : NoOw ρ) (hf : f ρ = some (.ok e ρ)) (q : ∀ v G' H', Same G G' → Same H H' → (∀ p o, H p = some o → G p = none → G' p = none) → EnvOk K c G' H' σ ρ → EntOk K c G' H' σ ρ v e → Frs H v e → Q v H') : tD K c W f σ H Q :=
  ⟨G, ρ, x, by
    rw [hf]
    exact fun v G' H' s ev fv => q v G' H' s.sh (s.grow x n) (fun p o h1 h2 => (s.keep p o h1 h2 (n.ow p)).2) s.env ev fv⟩
theorem tDT_pure {f : M Bool} {b : Bool} {R : Bool → Hp → Prop} (x : EnvOk K c G H σ ρ) (n : NoOw ρ) (hf : f ρ = some (.ok b ρ)) (q : ∀ H', Same H H' → R b H') : tDT K c W f σ H R :=
  ⟨G, ρ, x, by
    rw [hf]
    exact fun G' H' s => q H' (s.grow x n)⟩
theorem tDA_pure {f : M (List Ent)} {es : List Ent} {R : List V → Hp → Prop} (x : EnvOk K c G H σ ρ) (n : NoOw ρ) (hf : f ρ = some (.ok es ρ)) (q : ∀ vs G' H', Same G G' → Same H H' → (∀ p o, H p = some o → G p = none → G' p = none) → EnvOk K c G' H' σ ρ → EAs K c G' H' σ ρ vs es → R vs H') : tDA K c W f σ H R :=
  ⟨G, ρ, x, by
    rw [hf]
    exact fun vs G' H' s ev => q vs G' H' s.sh (s.grow x n) (fun p o h1 h2 => (s.keep p o h1 h2 (n.ow p)).2) s.env ev⟩
theorem tDA_mono {f : M (List Ent)} {R R' : List V → Hp → Prop} (h : tDA K c W f σ H R) (q : ∀ vs H', R vs H' → R' vs H') : tDA K c W f σ H R' := by
  obtain ⟨G, ρ, x, h⟩ := h
  exact ⟨G, ρ, x, wpM_mono h (fun es ρ1 k vs G' H' s e => q vs H' (k vs G' H' s e)) fun _ _ x => x⟩
theorem tD_mono {f : M Ent} {Q' : VK} (h : tD K c W f σ H Q) (q : ∀ v H', Q v H' → Q' v H') : tD K c W f σ H Q' := by
  obtain ⟨G, ρ, x, h⟩ := h
  exact ⟨G, ρ, x, wpM_mono h (fun e ρ1 k v G' H' s e1 f1 => q v H' (k v G' H' s e1 f1)) fun _ _ x => x⟩

/-! ### what is new -/
def nw (H H' : Hp) : Hp := fun a => match H a with
  | none => H' a
  | some _ => none
def mrg (G N : Hp) : Hp := fun a => match N a with
  | some o => some o
  | none => G a
theorem nw_new {a : Addr} (h : H a = none) : nw H H' a = H' a := by
  unfold nw
  rw [h]
theorem nw_old {a : Addr} {o : HO} (h : H a = some o) : nw H H' a = none := by
  unfold nw
  rw [h]
theorem nw_at {a : Addr} {o : HO} (h : nw H H' a = some o) : H a = none ∧ H' a = some o := by
  unfold nw at h
  split at h
  · rename_i e
    exact ⟨e, h⟩
  · cases h
theorem nw_le : Same (nw H H') H' := fun a o h => (nw_at h).2
theorem nw_mono (h : Same H1 H2) : Same (nw H H1) (nw H H2) := fun a o e => by
  obtain ⟨h1, h2⟩ := nw_at e
  rw [nw_new h1]
  exact h a o h2
theorem nw_pre (h : Same H H1) : Same (nw H1 H2) (nw H H2) := fun a o e => by
  obtain ⟨h1, h2⟩ := nw_at e
  rw [nw_new (h.free h1)]
  exact h2
theorem mrg_l (h : Same G H) : Same G (mrg G (nw H H')) := fun a o e => by
  unfold mrg
  rw [nw_old (h a o e)]
  exact e
theorem mrg_r : Same (nw H H') (mrg G (nw H H')) := fun a o e => by
  unfold mrg
  rw [e]
theorem mrg_le (h : Same G H') : Same (mrg G (nw H H')) H' := fun a o e => by
  unfold mrg at e
  split at e
  · rename_i u hu
    cases e
    exact nw_le a _ hu
  · exact h a o e
theorem mrg_keep {p : Addr} {o : HO} (h : H p = some o) (g : G p = none) : mrg G (nw H H') p = none := by
  unfold mrg
  rw [nw_old h]
  exact g

/-! ### data without parts -/
def flatD : PyData → Bool
  | .none => true
  | .bool _ => true
  | .int _ => true
  | .str _ => true
  | _ => false
theorem flat_rp {v : V} : ∀ {d : PyData}, flatD d = true → Rp K G v d → Rp K G' v d
  | .none, _, h => by simpa only [Rp] using h
  | .bool _, _, h => by simpa only [Rp] using h
  | .int _, _, h => by simpa only [Rp] using h
  | .str _, _, h => by simpa only [Rp] using h
  | .list _, h, _ => by cases h
  | .tuple _, h, _ => by cases h
  | .dict _, h, _ => by cases h
theorem flat_rpl : ∀ {vs : List V} {ds : List PyData}, ds.all flatD = true → RpL K G vs ds → RpL K G' vs ds
  | [], [], _, _ => by simp only [RpL]
  | v :: vs, d :: ds, h, r => by
    simp only [RpL] at r ⊢
    rw [List.all_cons, Bool.and_eq_true] at h
    exact ⟨flat_rp h.1 r.1, flat_rpl h.2 r.2⟩
  | [], _ :: _, _, r => by simp only [RpL] at r
  | _ :: _, [], _, r => by simp only [RpL] at r
/-- a new list of such -/
theorem new_flat {v : V} {ds : List PyData} {b : Bool} (hf : ds.all flatD = true) (e : EntOk K c G' H' σ ρ v (.own (.list ds) b)) (f : Frs H v (.own (.list ds) b)) : ∃ a ws, v = .ref a ∧ H a = none ∧ H' a = some (.lst ws) ∧ ∀ G, RpL K G ws ds := by
  obtain ⟨a, rfl, _, ⟨ws, h1, h2⟩, _⟩ := e
  exact ⟨a, ws, rfl, f a rfl, h1, fun G => flat_rpl hf h2⟩

/-! ### promises -/
/-- a def that answers something wholly new -/
def AnsN (K : PySem.W.Frag) (c : Nat → Addr) (H : Hp) (Q : VK) (E : XK) : Option FR → Prop
  | some (.ok (.sh d) _) => ∀ v H', Same H H' → RpD K c (nw H H') v d → Q v H'
  | some (.exc k _) => ∀ H', Same H H' → E (.ref (c k)) none H'
  | _ => False
def spN (K : PySem.W.Frag) (c : Nat → Addr) (n : Nat) (fn : Fn) : Sp := fun vs H Q E => ∃ G ds, ds.length = n ∧ EnvOk K c G H (vs.map some) (argE none ds) ∧ AnsN K c H Q E (fn ds)
/-- a def that answers shared data alone -/
def ShFn (fn : Fn) : Prop := ∀ ds r o, fn ds = some (.ok r o) → ∃ d, r = .sh d
theorem outD_none {ds : List D} {o : PyData} : outD none ds o = ds := rfl
theorem spF_spN {n : Nat} {fn : Fn} {vs : List V} {H : Hp} {E : XK} (hsh : ShFn fn) (h : spF K c n none fn vs H Q E) : spN K c n fn vs H Q E := by
  obtain ⟨G, ds, hl, _, env, h⟩ := h
  refine ⟨G, ds, hl, env, ?_⟩
  have st : ∀ {H' : Hp}, Same H H' → Stp K c G H (vs.map some) (argE none ds) (mrg G (nw H H')) H' (vs.map some) (argE none ds) := fun h => Stp.ofGrow env argE_noOw (mrg_l env.le) (mrg_le (env.le.trans h)) h fun p o h1 h2 => mrg_keep h1 h2
  split at h
  · exact h.elim
  · rename_i r o hf
    obtain ⟨d, rfl⟩ := hsh ds r o hf
    rw [hf]
    exact fun v H' s r => h v _ H' (st s) (RpD.mono mrg_r v d r) trivial
  · rename_i k o hf
    rw [hf]
    exact fun H' s => h _ H' (st s)
def AnsI (K : PySem.W.Frag) (c : Nat → Addr) (H0 : Hp) (x : Addr) (Q : VK) (E : XK) : Option FR → Prop
  | some (.ok (.sh d) _) => ∀ H', Same H0 H' → RpD K c (nw H0 H') (.ref x) d → Q .non H'
  | some (.exc k _) => ∀ H', Same H0 H' → E (.ref (c k)) none H'
  | _ => False
/-- an __init__ whose instance is wholly new behind it -/
def spI (K : PySem.W.Frag) (c : Nat → Addr) (j n : Nat) (fn : Fn) : Sp := fun vs H Q E => ∃ (x dx : Addr) (H0 G : Hp) (ds : List D) (us : List V), vs = .ref x :: us ∧ H0 x = none ∧ H0 dx = none ∧ dx ≠ x ∧ H = upd (upd H0 dx (.own x)) x (.ins (c j) dx []) ∧ ds.length = n ∧ EnvOk K c G H0 (us.map some) (argE none ds) ∧ AnsI K c H0 x Q E (fn ds)
theorem spI_len {j n : Nat} {fn : Fn} {vs : List V} {H : Hp} {E : XK} (h : spI K c j n fn vs H Q E) : vs.length = n + 1 := by
  obtain ⟨x, dx, H0, G, ds, us, rfl, _, _, _, _, hl, env, _⟩ := h
  have := env.len
  rw [argE_length, List.length_map, hl] at this
  rw [List.length_cons, this]
theorem spN_spI {j n : Nat} {fn : Fn} {vs : List V} {H : Hp} {E : XK} {x dx : Addr} (h : spN K c n fn vs H Q E) (h1 : H x = none) (h2 : H dx = none) (h3 : dx ≠ x) : spI K c j n fn (.ref x :: vs) (upd (upd H dx (.own x)) x (.ins (c j) dx [])) (fun v H2 => v = .non ∧ Q (.ref x) H2) E := by
  obtain ⟨G, ds, hl, env, h⟩ := h
  refine ⟨x, dx, H, G, ds, vs, rfl, h1, h2, h3, rfl, hl, env, ?_⟩
  cases hf : fn ds with
  | none =>
    rw [hf] at h
    exact h.elim
  | some r =>
    rw [hf] at h
    cases r with
    | ok e o =>
      cases e with
      | sh d => exact fun H' s r => ⟨rfl, h _ H' s r⟩
      | own p b => exact h.elim
      | lnk i => exact h.elim
    | exc k o => exact h
/-- where a class stands, how it is made -/
structure MkAt (P : Program) (w : World) (K : PySem.W.Frag) (mg : Str → Option Value) (base : Heap) (c : Nat → Addr) (k : Nat) (name : Str) (j n : Nat) (fn : Fn) : Prop where
  sh : ShFn fn
  ex : ∃ f fd ps, Mk K (c j) f ∧ mg name = some (.ref (c j)) ∧ Binds K fd ps [] ∧ FnOk P w K mg base (L2.CX P w) k f fd ps (spI K c j n fn)
end
section
variable {X : Cx} {c : Nat → Addr} {W : WX} {x : Str} {p pos : Pos} {e : Expr} {es : List Expr} {m : M (List Ent)} {k j n : Nat} {fn : Fn}
theorem de_make (F : MkAt X.prog X.w X.K X.mg X.base c k x j n fn) (hr : Room (k + 1) X.A) (tk : Takes X W) (hg : Gl X x) (ha : DA X c W (e :: es) m) (hdb : (x == ("__debug__" : Str)) = false := by decide) (he : starEach (e :: es) X.env = (false, eval e X.env) :: starEach es X.env := by rfl) (hpl : (backTo pos (starEach es X.env)).any (·.1) = false := by rfl) :
    DE X c W (.Call (.Name x p) (e :: es) [] pos) (fCall n none fn m) := by
  obtain ⟨f, fd, ps, h1, h2, h3, h4⟩ := F.ex
  exact pe_weak (pe_makeA (E := WE W) h1 h4 hr hg h2 h3 (passAt tk) ha hdb he hpl) fun σ H Q h => tDA_mono (w_call (io := none) (fun i h => by cases h) σ H Q h) fun vs H1 h1 x dx n1 n2 n3 => spN_spI (spF_spN F.sh h1) n1 n2 n3
end
end VL

set_option linter.all false
set_option autoImplicit false
set_option maxRecDepth 100000
/-! The value layer, part 19: exceptions: their classes, try .. except X as e, isinstance of what is caught. -/
namespace VL
open PySem L2 PySem.Spec PyProof.Rows

/-- a class of exceptions, as the text has it -/
structure ExcAt (K : PySem.W.Frag) (mg : Str → Option Value) (name : Str) (C : Addr) : Prop where
  x : PySem.W.excIn K C [.type "ValueError", .type "Exception", .type "BaseException", .type "object"] "ValueError.__new__" = true
  g : mg name = some (.ref C)
  k : PySem.W.keepIn K (.ref C) = true
  b : PySem.W.subIn K (.ref C) (.type "BaseException") = some true
  t : PySem.W.typeIn K (.ref C) = some (.type "type")

section
variable {K : PySem.W.Frag} {c : Nat → Addr} {G H G1 H1 G2 H2 : Hp} {σ σ1 : L2.St} {ρ ρ1 : DEnv}
theorem wipe_one {i : Nat} {σ : L2.St} : L2.wipe σ [i] = σ.set i none := rfl
theorem wipeE_one {i : Nat} {ρ : DEnv} : wipeE ρ [i] = ρ.set i none := by
  refine List.ext_getElem? fun j => ?_
  rw [wipeE_get]
  by_cases h : i = j
  · subst h
    rw [List.getElem?_set_self', if_pos (by simp)]
    cases ρ[i]? <;> rfl
  · rw [List.getElem?_set_ne h, if_neg (by simpa using fun z => h z.symm)]
theorem Stp.unset {i : Nat} (s : Stp K c G H σ ρ G1 H1 σ1 ρ1) (no : ∀ p, ρ[i]? ≠ some (some (.own p true))) : Stp K c G H σ ρ G1 H1 (σ1.set i none) (ρ1.set i none) := by
  have := s.wipe (vs := [i]) fun j p hj => by
    simp only [List.mem_singleton] at hj
    subst hj
    exact no p
  rwa [wipe_one, wipeE_one] at this
/-- behind a suite its name is gone -/
def fGone (i : Nat) : Option (Res Fl) → Option (Res Fl)
  | some (.ok .nx ρ) => some (.ok .nx (ρ.set i none))
  | some (.ok (.rt (.sh d)) ρ) => some (.ok (.rt (.sh d)) (ρ.set i none))
  | _ => none
open Classical in
noncomputable def fSuite (i : Nat) (g : V → S) (ρ : DEnv) : Option (Res Fl) := if h : ∃ r, ∀ u, fGone i (g u (ρ.set i (some (.sh (.val u))))) = some r then some h.choose else none
theorem fSuite_eq {i : Nat} {g : V → S} {ρ : DEnv} {r : Res Fl} (h : ∀ u, fGone i (g u (ρ.set i (some (.sh (.val u))))) = some r) : fSuite i g ρ = some r := by
  unfold fSuite
  have hx : ∃ r, ∀ u, fGone i (g u (ρ.set i (some (.sh (.val u))))) = some r := ⟨r, h⟩
  rw [dif_pos hx]
  have := hx.choose_spec .non
  rw [h .non] at this
  exact this.symm
theorem fSuite_inv {i : Nat} {g : V → S} {ρ : DEnv} {r : Res Fl} (h : fSuite i g ρ = some r) (u : V) : fGone i (g u (ρ.set i (some (.sh (.val u))))) = some r := by
  unfold fSuite at h
  split at h
  · rename_i hx
    cases h
    exact hx.choose_spec u
  · cases h
noncomputable def fTry (i : Nat) (f : S) (ex : Nat → Option Bool) (su : Nat → V → S) : S := fun ρ => match f ρ with
  | some (.exc k ρ1) => match ex k with
    | some true => match ρ1[i]? with
      | some none => fSuite i (su k) ρ1
      | _ => none
    | some false => some (.exc k ρ1)
    | none => none
  | r => r
theorem fTry_ok {i : Nat} {f : S} {ex : Nat → Option Bool} {su : Nat → V → S} {ρ ρ' : DEnv} {fl : Fl} (h : f ρ = some (.ok fl ρ')) : fTry i f ex su ρ = some (.ok fl ρ') := by
  unfold fTry
  rw [h]
theorem fTry_exc {i k : Nat} {f : S} {ex : Nat → Option Bool} {su : Nat → V → S} {ρ ρ' : DEnv} {r : Res Fl} (h : f ρ = some (.exc k ρ')) (hk : ex k = some true) (hi : ρ'[i]? = some none) (hs : ∀ u, fGone i (su k u (ρ'.set i (some (.sh (.val u))))) = some r) : fTry i f ex su ρ = some r := by
  unfold fTry
  rw [h]
  simp only [hk, hi]
  exact fSuite_eq hs
end
abbrev WN : WX := fun _ _ _ _ => False
section
variable {X : Cx} {c : Nat → Addr} {W : WX} {x n : Str} {cv : Value} {i : Nat} {body suite : List Stmt} {b₀ : Stmt} {np pos pos' : Pos} {f : S} {ex : Nat → Option Bool} {su : Nat → V → S}
theorem ds_try (i : Nat) (hs : X.stack = X.env :: X.outer) (hf : X.env.frame = some X.env.locals) (hN : X.N.Nodup) (hi : X.N[i]? = some n) (hln : X.env.kindOf n = some .local) (hc : Names X x cv) (tk : Takes X W) (hex : ∀ k b, ex k = some b → PySem.W.exmOne X.K (.ref (c k)) cv = some b)
    (hb : ∀ (W' : WX) (pn : List (Addr × Obj)) (xe : Value → Shared → Prop), Takes (X.tr pn xe) W' → PassesOwn (model X.prog X.w) X.A X.env xe → DSs (X.tr pn xe) c W' body f)
    (hsu : ∀ (k : Nat) (a : Addr) (oe : Obj) (pn : List (Addr × Obj)), Zc (.ref (c k)) none oe → (∃ vs, oe.data = .fields vs) → DSs (X.suite a ((a, oe) :: pn)) c WN (b₀ :: suite) (su k (.ref a))) :
    DS X c W (.Try body [.ExceptHandler (some (.Name x np)) (some n) (b₀ :: suite) pos'] [] [] pos) (fTry i f ex su) := by
  refine ps_weak (ps_try_as (tb := fun W' => tS X.K c W' f) (ts := fun a cls d D σ H => ∃ k, cls = .ref (c k) ∧ d = none ∧ tS X.K c WN (su k (.ref a)) D σ H) hs hf hN hi hln hc tk hb fun a oe cls d pn hz hfl => ?_) fun D σ H h => ?_
  · refine ⟨fun pins s σ H D I h => ?_⟩
    obtain ⟨k, rfl, rfl, h⟩ := h
    exact (hsu k a oe pn hz hfl).run pins s σ H D I h
  · obtain ⟨G, ρ, env, h⟩ := h
    refine ⟨G, ρ, env, ?_⟩
    unfold fTry at h
    split at h
    · rename_i k ρ1 hk
      rw [hk]
      intro G1 H1 σ1 s1
      split at h
      · rename_i he
        refine ⟨true, hex _ _ he, fun _ a na => ?_, (fun z => Bool.noConfusion z)⟩
        split at h
        rotate_left
        · exact h.elim
        rename_i hi1
        have lt : i < ρ1.length := (List.getElem?_eq_some_iff.mp hi1).1
        have nop : ∀ p, ρ[i]? ≠ some (some (.own p true)) := fun p z => by
          obtain ⟨⟨q, hq⟩, _⟩ := s1.pin i p z
          rw [hi1] at hq
          cases hq
        have s2 := s1.set (v := .ref a) (x := .sh (.val (.ref a))) (i := i) (ρ2 := ρ1.set i (some (.sh (.val (.ref a))))) (by simp only [EntOk, RpD]) trivial (by
          unfold setE
          rw [if_neg (by unfold pinned; rw [hi1]; exact fun z => nomatch z)])
        refine ⟨k, rfl, rfl, G1, _, s2.env, ?_⟩
        cases hr : fSuite i (su k) ρ1 with
        | none =>
          rw [hr] at h
          exact h.elim
        | some r =>
          rw [hr] at h
          have hg := fSuite_inv hr (.ref a)
          unfold fGone at hg
          split at hg
          · rename_i ρ3 e3
            cases hg
            rw [e3]
            exact fun G4 H4 σ4 s4 => h G4 H4 _ ((s2.trans s4).unset nop)
          · rename_i d ρ3 e3
            cases hg
            rw [e3]
            intro v G4 H4 σ4 s4 ev fv
            exact h v G4 H4 _ ((s2.trans s4).unset nop) ev trivial
          · cases hg
      · rename_i he
        exact ⟨false, hex _ _ he, (fun z => Bool.noConfusion z), fun _ => h G1 H1 σ1 s1⟩
      · exact h.elim
    · rename_i r hne
      cases hr : f ρ with
      | none =>
        rw [hr] at h
        exact h
      | some q =>
        cases q with
        | ok fl ρ1 =>
          rw [hr] at h
          exact h
        | exc k ρ1 => exact absurd hr (hne k ρ1)
end

/-! ### isinstance of what the suite holds -/
section
open Classical
noncomputable def fIsE (u : V) (i : Nat) (b : Bool) : M Ent := fun ρ => if ρ[i]? = some (some (.sh (.val u))) then some (.ok (py (.bool b)) ρ) else none
theorem fIsE_at {u : V} {i : Nat} {b : Bool} {ρ : DEnv} (h : ρ[i]? = some (some (.sh (.val u)))) : fIsE u i b ρ = some (.ok (py (.bool b)) ρ) := by
  unfold fIsE
  rw [if_pos h]
def rIsET (K : PySem.W.Frag) (D a : Addr) : List V → Hp → VK → Prop := fun xs H Q => ∃ (tp : Addr) (cs : List V) (us : List Value) (b : Bool), xs = [.ref a, .ref tp] ∧ H tp = some (.tup cs) ∧ Paired ClsV cs us ∧ PySem.W.kitAny K (.ref D) us = some b ∧ Q (.bl b) H
theorem call_isET {X : Cx} {a D : Addr} {oe : Obj} {pn : List (Addr × Obj)} (C : ExcC X.K D) (hz : Zc (.ref D) none oe) (hf : ∃ vs, oe.data = .fields vs) : CallR (X.suite a ((a, oe) :: pn)) (.builtin "isinstance") (rIsET X.K D a) := by
  intro pins s σ H xs us Q I r h
  obtain ⟨tp, cs, ws, b, rfl, hT, k, e, q⟩ := h
  obtain ⟨u1, u2, rfl, r1, r2⟩ := vals2 r
  cases (show u1 = Value.ref a from r1)
  cases (show u2 = Value.ref tp from r2)
  obtain ⟨hget, _⟩ := I.pin (a, oe) (List.mem_append.mpr (.inl List.mem_cons_self))
  obtain ⟨vs, hv⟩ := hf
  have J : PySem.W.InstAt s.heap a oe D none := by
    obtain ⟨oc, od, oda, osl⟩ := oe
    obtain ⟨h1, h2⟩ := hz
    dsimp only at h1 h2 hv
    subst h1 h2 hv
    exact ⟨hget, rfl, rfl, trivial⟩
  obtain ⟨_, its, rv, o, h1, h2, n, h3⟩ := (show ObjOk X.prog X.w H s.heap tp (.tup cs) from I.hok tp _ hT)
  have e3 := ClsV.all k rv
  subst e3
  obtain ⟨oc, od, dt, sl⟩ := o
  simp only at h2 h3
  subst h2 h3
  exact PySem.W.kia_tup (PySem.W.handS_kitx_exc C.hg C.hk C.hs C.hd C.ha C.hn C.ht C.hm) I.kIn J h1 e (fun z => nomatch z) fun tk => ⟨.bl b, H, I.tok tk, rfl, q⟩
variable {X : Cx} {c : Nat → Addr} {W : WX} {a D : Addr} {oe : Obj} {pn : List (Addr × Obj)} {i : Nat} {y : Str} {p p2 p3 p4 pos : Pos} {e2 : Expr} {b : Bool}
theorem var_val {K : PySem.W.Frag} {σ : L2.St} {H : Hp} {R : VK} {u : V} (h : tD K c W (fIsE u i b) σ H R) : tVar i σ H fun v H1 => v = u ∧ H1 = H ∧ R (.bl b) H := by
  obtain ⟨G, ρ, env, h⟩ := h
  unfold fIsE at h
  split at h
  · rename_i e
    obtain ⟨v, e1, r⟩ := env.sh i _ e
    simp only [RpD] at r
    exact ⟨v, e1, r, rfl, h (.bl b) G H (.refl env) (by simp only [EntOk, RpD, Rp]) trivial⟩
  · exact h.elim
/-- isinstance(e, C) -/
theorem de_isE {cv : Value} {cw : V} (C : ExcC X.K D) (hz : Zc (.ref D) none oe) (hf : ∃ vs, oe.data = .fields vs) (hN : X.N[i]? = some y) (hv : Vis X.env.scope y) (hd : (y == ("__debug__" : Str)) = false) (hcd : (y == ("__classdict__" : Str)) = false) (hg : Gl X "isinstance") (hm : X.mg "isinstance" = none)
    (h2 : PE (X.suite a ((a, oe) :: pn)) e2 (fun _ H Q => Q cw H)) (hcv : ∀ u, RelV cw u → u = cv) (hk : PySem.W.kitOne X.K (.ref D) cv = some b)
    (he : starEach [.Name y p2, e2] (X.suite a ((a, oe) :: pn)).env = (false, eval (.Name y p2) (X.suite a ((a, oe) :: pn)).env) :: starEach [e2] (X.suite a ((a, oe) :: pn)).env := by rfl) (he2 : starEach [e2] (X.suite a ((a, oe) :: pn)).env = (false, eval e2 (X.suite a ((a, oe) :: pn)).env) :: starEach [] (X.suite a ((a, oe) :: pn)).env := by rfl) (hpl : (backTo pos (starEach [e2] (X.suite a ((a, oe) :: pn)).env)).any (·.1) = false := by rfl) :
    DE (X.suite a ((a, oe) :: pn)) c W (.Call (.Name "isinstance" p) [.Name y p2, e2] [] pos) (fIsE (.ref a) i b) :=
  pe_weak (pe_callB (X := X.suite a ((a, oe) :: pn)) (call_isE C hz hf) hg hm PyProof.Rows.boot_isinstance (pa_cons (pe_var (i := i) hN hv hd hcd) (pa_cons h2 pa_nil he2) he) (by decide) (by decide) he hpl) fun σ H Q h => by
    obtain ⟨v, e1, rfl, _, q⟩ := var_val h
    exact ⟨_, e1, cw, cv, b, rfl, hcv, hk, q⟩
/-- isinstance(e, (C1, ..)) -/
theorem de_isET {es : List Expr} {cws : List V} {us : List Value} {kk : Nat} (C : ExcC X.K D) (hz : Zc (.ref D) none oe) (hf : ∃ vs, oe.data = .fields vs) (hN : X.N[i]? = some y) (hv : Vis X.env.scope y) (hd : (y == ("__debug__" : Str)) = false) (hcd : (y == ("__classdict__" : Str)) = false) (hg : Gl X "isinstance") (hm : X.mg "isinstance" = none)
    (h2 : PA (X.suite a ((a, oe) :: pn)) es (fun _ H Q => Q cws H)) (hl : cws.length ≤ 1000) (hcv : Paired ClsV cws us) (hk : PySem.W.kitAny X.K (.ref D) us = some b)
    (he : starEach [.Name y p2, .Tuple es kk p3] (X.suite a ((a, oe) :: pn)).env = (false, eval (.Name y p2) (X.suite a ((a, oe) :: pn)).env) :: starEach [.Tuple es kk p3] (X.suite a ((a, oe) :: pn)).env := by rfl) (he2 : starEach [.Tuple es kk p3] (X.suite a ((a, oe) :: pn)).env = (false, eval (.Tuple es kk p3) (X.suite a ((a, oe) :: pn)).env) :: starEach [] (X.suite a ((a, oe) :: pn)).env := by rfl) (hpl : (backTo pos (starEach [.Tuple es kk p3] (X.suite a ((a, oe) :: pn)).env)).any (·.1) = false := by rfl) :
    DE (X.suite a ((a, oe) :: pn)) c W (.Call (.Name "isinstance" p) [.Name y p2, .Tuple es kk p3] [] pos) (fIsE (.ref a) i b) :=
  pe_weak (pe_callB (X := X.suite a ((a, oe) :: pn)) (call_isET C hz hf) hg hm PyProof.Rows.boot_isinstance (pa_cons (pe_var (i := i) hN hv hd hcd) (pa_cons (pe_tup h2) pa_nil he2) he) (by decide) (by decide) he hpl) fun σ H Q h => by
    obtain ⟨G, ρ, env, h⟩ := h
    unfold fIsE at h
    split at h
    · rename_i e
      obtain ⟨v, e1, r⟩ := env.sh i _ e
      simp only [RpD] at r
      subst r
      refine ⟨_, e1, small1k hl, fun tp ntp => ⟨tp, cws, us, b, rfl, upd_same, hcv, hk, ?_⟩⟩
      exact h (.bl b) _ _ (Stp.newSh env ntp) (by simp only [EntOk, RpD, Rp]) trivial
    · exact h.elim
end
end VL

set_option linter.all false
set_option autoImplicit false
set_option maxRecDepth 100000
/-! The value layer, part 20: whole numbers in lists: count, index from a place on, len(set(..)). -/
namespace PySem.SeqAt
open AutoSeq1 (wpAny_loadPart')
open MeetsSeq MeetsSeq2 MeetsSeq3 SeqRoads2
theorem list_indexFromAt (l : Addr) (items : Array Value) (n : Nat) (dd : Option Addr) (sl : Array (Option Value)) (x : Value) (e : Value → Bool) (j i : Nat) (t : Tok) (hj : j < items.size) (hij : i ≤ j) (hsmall : (j : Int) < 2 ^ 63 - 1)
    (hit : e items[j] = true) (hno : ∀ m (hm : m < items.size), i ≤ m → m < j → e items[m] = false) :
    Meets (Builtin.«list.index» ⟨[.ref l, x, .int (i : Nat) t], []⟩)
      (fun A R s => s.heap.get? l = some { cls := .type "list", dict := dd, data := .seq items n, slots := sl } ∧ (∀ y, y ∈ items → EqAt A.in1 s y x (e y)) ∧ R (.ok (.ret (.int j s.toks))) { s with toks := s.toks + 1 }) := by
  intro prog w A R s h
  obtain ⟨hp, g, d, tk, os⟩ := s; obtain ⟨hl, he, h⟩ := h
  wp_walk using wpAny_loadPart' hl
  have a1 : ((fun i : Int => if i < 0 then max 0 (i + (items.size : Int)) else i) ((some ((i : Nat) : Int)).getD 0)) = ((i : Nat) : Int) := by
    show (if ((i : Nat) : Int) < 0 then max 0 (((i : Nat) : Int) + (items.size : Int)) else ((i : Nat) : Int)) = _
    rw [if_neg (by omega)]
  have a2 : ((fun i : Int => if i < 0 then max 0 (i + (items.size : Int)) else i) ((none : Option Int).getD (2 ^ 63 - 1))) = 2 ^ 63 - 1 := by simp
  rw [a1, a2]
  exact ⟨plainId_quiet plain_index_loop _, codeAny_builtin entry_index_loop (by
    rw [Around.under_plainId plain_index_loop _]
    exact index_loopAt l items n dd sl x e (2 ^ 63 - 1) j hj hsmall hit _ i rfl hij hno prog w A R _ ⟨hl, he, h⟩)⟩
end PySem.SeqAt

namespace VL
open PySem L2 PySem.Spec PyProof.Rows
def asInt : PyData → Option Int
  | .int i => some i
  | _ => none
def asInts : List PyData → Option (List Int)
  | [] => some []
  | d :: ds => match asInt d, asInts ds with
    | some i, some is => some (i :: is)
    | _, _ => none
theorem asInts_map : ∀ is : List Int, asInts (is.map .int) = some is
  | [] => rfl
  | i :: is => by rw [List.map_cons, asInts, asInts_map is]; rfl
theorem asInt_inv {d : PyData} {i : Int} (h : asInt d = some i) : d = .int i := by
  cases d <;> simp only [asInt, Option.some.injEq, reduceCtorEq] at h
  rw [h]
theorem asInts_inv : ∀ {ds : List PyData} {is : List Int}, asInts ds = some is → ds = is.map .int
  | [], is, h => by
    cases h
    rfl
  | d :: ds, is, h => by
    unfold asInts at h
    split at h
    · rename_i i is' h1 h2
      cases h
      rw [asInt_inv h1, asInts_inv h2]
      rfl
    · cases h
theorem rp_ints {K : PySem.W.Frag} {G : Hp} : ∀ {vs : List V} {g : List Int}, RpL K G vs (g.map .int) → vs = g.map V.int
  | [], [], _ => rfl
  | v :: vs, i :: g, r => by
    simp only [List.map_cons, RpL, Rp] at r
    rw [r.1, rp_ints r.2]
    rfl
  | [], _ :: _, r => by simp only [List.map_cons, RpL] at r
  | _ :: _, [], r => by simp only [List.map_nil, RpL] at r

section
variable {X : Cx} {c : Nat → Addr} {W : WX} {K : PySem.W.Frag} {a b e : Expr} {f g fe : M Ent} {pos : Pos} {m : M (List Ent)} {es : List Expr} {apos : Pos}
/-! ### l.count(x) -/
def cntE (x : Ent) (es : List Ent) : M Ent := fun ρ => match rd ρ x, es with
  | some (.list ds), [e] => match rd ρ e, asInts ds with
    | some (.int k), some ns => some (.ok (py (.int (ns.count k : Nat))) ρ)
    | _, _ => none
  | _, _ => none
theorem ok_count : OkMt K c (rCntI K) cntE := by
  intro G H σ ρ v x vs es Q E env hx hes h
  unfold cntE at h
  split at h
  · rename_i ds e er
    split at h
    · rename_i k ns ek en
      obtain ⟨u, rfl, hu⟩ := hes.one
      obtain ⟨a, ws, rfl, ha, ra⟩ := rd_list env hx er
      rw [asInts_inv en] at ra
      rw [rp_ints ra] at ha
      have hk := rd_int env hu ek
      subst hk
      exact ⟨a, ns, k, rfl, rfl, SqL.of ha, h (.int (ns.count k : Nat)) G H (.refl env) (by simp only [EntOk, RpD, Rp]) trivial⟩
    · exact h.elim
  · exact h.elim
theorem de_count (ho : DE X c W e fe) (ha : DA X c W (a :: es) m) (hbase : attributeBase e "count" X.env (eval e X.env) = eval e X.env := by rfl)
    (hfew : ((backTo pos (starEach (a :: es) X.env)).all (fun x => !x.1) && (backToKw pos (keywordEach [] X.env)).all (fun x => x.1.isSome)
      && decide ((a :: es).length + ([] : List Keyword).length + (if ([] : List Keyword).isEmpty then 0 else 1) < 30)) = true := by rfl)
    (hline : (apos.endLine == pos.line) = true := by rfl) (hs : starEach (a :: es) X.env = (false, eval a X.env) :: starEach es X.env := by rfl) (hplain : (backTo pos (starEach es X.env)).any (·.1) = false := by rfl) :
    DE X c W (.Call (.Attribute e "count" apos) (a :: es) [] pos) (fMet cntE fe m) := de_met PySem.F.plainAttrs_list PySem.F.slot_list_count PySem.F.type_list_count mt_lcount ok_count ho ha hbase hfew hline hs hplain

/-! ### l.index(x, from) -/
def rIdxF (K : PySem.W.Frag) : V → List V → Hp → VK → Prop := fun x xs H Q => ∃ (p : Addr) (ns : List Int) (k : Int) (i j : Nat), x = .ref p ∧ xs = [.int k, .int i] ∧ SqL K H p (ns.map V.int) ∧ i ≤ j ∧ ns[j]? = some k ∧ (∀ m : Nat, i ≤ m → m < j → ns[m]? ≠ some k) ∧ Q (.int (j : Nat)) H
theorem mt_idxF : MtR X "list.index" (rIdxF X.K) := by
  intro pins s σ H x xs v us Q I rx rxs h
  obtain ⟨p, ns, k, i, j, rfl, rfl, hs, hij, hj, hno, q⟩ := h
  cases rx
  obtain ⟨u, u2, rfl, ru, ru2⟩ := vals2 rxs
  obtain ⟨t, rfl⟩ := ru
  obtain ⟨t2, rfl⟩ := ru2
  obtain ⟨its, rv, ⟨⟨cls, dd, data, sl⟩, n, ho, hc, hdn, hd⟩, hlen⟩ := I.list hs
  simp only at hc hd
  subst hc hd
  have hi := ints_of_vals rv
  have hvl := rv.length
  rw [List.length_map] at hvl hlen
  have hsl := sizeLine_eq
  have hjn : j < ns.length := (List.getElem?_eq_some_iff.mp hj).1
  have hjl : j < its.toArray.size := by rw [List.size_toArray]; omega
  refine call_meets PySem.F.slot_list_index ⟨_, ho, rfl⟩ PySem.F.entry_list_index (PySem.F.args_list_index_3 _ _ _)
    (SeqAt.list_indexFromAt p its.toArray n dd sl (.int k t) (eqk k) j i t2 hjl hij (by omega) ?_ ?_) ⟨ho, fun y hy => (eqk_gives hi y (by simpa using hy)).at _ _, ?_⟩
  · obtain ⟨tj, hjt⟩ := hi.get j k hj
    obtain ⟨h1, h2⟩ := List.getElem?_eq_some_iff.mp hjt
    have e1 : its.toArray[j] = .int k tj := by simpa using h2
    rw [e1]
    exact beq_self_eq_true k
  · intro m hm him hmj
    have hmn : m < ns.length := by omega
    obtain ⟨tm, hmt⟩ := hi.get m _ (List.getElem?_eq_getElem hmn)
    obtain ⟨h1, h2⟩ := List.getElem?_eq_some_iff.mp hmt
    have e1 : its.toArray[m] = .int ns[m] tm := by simpa using h2
    rw [e1]
    refine beq_eq_false_iff_ne.mpr fun e2 => hno m him hmj ?_
    rw [List.getElem?_eq_getElem hmn, e2]
  · exact ⟨.int (j : Nat), H, I.tok _, ⟨_, rfl⟩, q⟩
def idxN (k : Int) (i : Nat) (ns : List Int) : Option Nat := ((ns.drop i).findIdx? fun z => z == k).map (i + ·)
def idxF (x : Ent) (es : List Ent) : M Ent := fun ρ => match rd ρ x, es with
  | some (.list ds), [e, e2] => match rd ρ e, rd ρ e2, asInts ds with
    | some (.int k), some (.int i), some ns => if 0 ≤ i then match idxN k i.toNat ns with
      | some j => some (.ok (py (.int (j : Nat))) ρ)
      | none => none
      else none
    | _, _, _ => none
  | _, _ => none
theorem idxN_spec {k : Int} {i j : Nat} {ns : List Int} (h : idxN k i ns = some j) : i ≤ j ∧ ns[j]? = some k ∧ ∀ m : Nat, i ≤ m → m < j → ns[m]? ≠ some k := by
  unfold idxN at h
  obtain ⟨d, hd, rfl⟩ := Option.map_eq_some_iff.mp h
  obtain ⟨h1, h2, h3⟩ := List.findIdx?_eq_some_iff_getElem.mp hd
  refine ⟨Nat.le_add_right _ _, ?_, fun m hm hmj e => ?_⟩
  · rw [← List.getElem?_drop, List.getElem?_eq_getElem h1]
    exact congrArg some (eq_of_beq h2)
  · have hm2 : m - i < d := by omega
    have := h3 (m - i) hm2
    have e2 : (ns.drop i)[m - i]? = some k := by
      rw [List.getElem?_drop]
      have : i + (m - i) = m := by omega
      rw [this]
      exact e
    rw [List.getElem?_eq_getElem (by omega)] at e2
    have e3 := Option.some.inj e2
    rw [e3] at this
    simp at this
theorem ok_idxF : OkMt K c (rIdxF K) idxF := by
  intro G H σ ρ v x vs es Q E env hx hes h
  unfold idxF at h
  split at h
  · rename_i ds e e2 er
    split at h
    · rename_i k i ns ek ei en
      split at h
      · rename_i h0
        split at h
        · rename_i j hj
          cases hes with
          | cons hu _ hes =>
            cases hes with
            | cons hw _ hes =>
              cases hes
              obtain ⟨a, ws, rfl, ha, ra⟩ := rd_list env hx er
              rw [asInts_inv en] at ra
              rw [rp_ints ra] at ha
              have hk := rd_int env hu ek
              subst hk
              have hi := rd_int env hw ei
              subst hi
              obtain ⟨z1, z2, z3⟩ := idxN_spec hj
              exact ⟨a, ns, k, i.toNat, j, rfl, by rw [Int.toNat_of_nonneg h0], SqL.of ha, z1, z2, z3, h (.int (j : Nat)) G H (.refl env) (by simp only [EntOk, RpD, Rp]) trivial⟩
        · exact h.elim
      · exact h.elim
    · exact h.elim
  · exact h.elim
theorem de_idxF (ho : DE X c W e fe) (ha : DA X c W (a :: es) m) (hbase : attributeBase e "index" X.env (eval e X.env) = eval e X.env := by rfl)
    (hfew : ((backTo pos (starEach (a :: es) X.env)).all (fun x => !x.1) && (backToKw pos (keywordEach [] X.env)).all (fun x => x.1.isSome)
      && decide ((a :: es).length + ([] : List Keyword).length + (if ([] : List Keyword).isEmpty then 0 else 1) < 30)) = true := by rfl)
    (hline : (apos.endLine == pos.line) = true := by rfl) (hs : starEach (a :: es) X.env = (false, eval a X.env) :: starEach es X.env := by rfl) (hplain : (backTo pos (starEach es X.env)).any (·.1) = false := by rfl) :
    DE X c W (.Call (.Attribute e "index" apos) (a :: es) [] pos) (fMet idxF fe m) := de_met PySem.F.plainAttrs_list PySem.F.slot_list_index PySem.F.type_list_index mt_idxF ok_idxF ho ha hbase hfew hline hs hplain

/-! ### len(set(l)) of whole numbers -/
def nubI (ns : List Int) : List Int := ns.foldl PyProof.Rows.step_dedup []
theorem firstMet_nub (ns : List Int) : PyProof.Rows.firstMet (fun i => ns.getD i 0) ns.length = nubI ns := by
  unfold PyProof.Rows.firstMet nubI
  congr 1
  refine List.ext_getElem? fun i => ?_
  rw [List.getElem?_map]
  by_cases h : i < ns.length
  · rw [List.getElem?_range h, List.getElem?_eq_getElem h, Option.map_some, List.getD_eq_getElem?_getD, List.getElem?_eq_getElem h]
    rfl
  · rw [List.getElem?_eq_none (by simpa using h), List.getElem?_eq_none (by simpa using h)]
    rfl
theorem nubI_len (ns : List Int) : (nubI ns).length ≤ ns.length := by
  rw [← firstMet_nub]
  exact PyProof.Rows.firstMet_length_le _ _
def rLenSetI (K : PySem.W.Frag) : V → Hp → VK → Prop := fun x H Q => ∃ (l : Addr) (ns : List Int), x = .ref l ∧ SqL K H l (ns.map V.int) ∧ ns.length ≤ 4000 ∧ Q (.int ((nubI ns).length : Nat)) H
theorem pe_lenSetI' {a : Expr} {ta : TE} {p p2 q pos : Pos} (hg : Gl X "len") (hm : X.mg "len" = none) (hg2 : Gl X "set") (hm2 : X.mg "set" = none) (ha : PE X a ta) (hc : X.calm = true)
    (na : starEach [a] X.env = (false, eval a X.env) :: starEach [] X.env := by rfl) : PE X (.Call (.Name "len" p) [.Call (.Name "set" p2) [a] [] q] [] pos) (tUn (rLenSetI X.K) ta) := by
  refine ⟨fun pins s σ H Q I h => ?_⟩
  refine Call_ (ld_blt I hg hm boot_len ?_)
  refine PyProof.Rows.callWith_builtin1 (PyProof.Rows.args_cons ?_ rfl) rfl rfl
  refine Call_ (ld_blt I hg2 hm2 boot_set ?_)
  refine PyProof.Rows.callWith_type1 (PyProof.Rows.args_cons (thn (ha.run pins s σ H _ I h) fun v s1 ⟨x, H1, I1, r1, q1⟩ => PyProof.Rows.args_nil ?_) na) na rfl
  obtain ⟨l, ns, rfl, hq, hl, q1⟩ := q1
  cases r1
  obtain ⟨its, r, pl, hz⟩ := I1.list hq
  have hlen : its.toArray.size = ns.length := by rw [List.size_toArray, ← r.length, List.length_map]
  refine call_set_list (I1.ok.hd hc) pl.isList (by simpa using RZ.intsAre_vals r) (by rw [hlen]; unfold scanBound; omega) fun h' tk hS hk => ?_
  refine PyProof.Rows.args_nil ?_
  rw [hlen, firstMet_nub] at hS
  obtain ⟨o, es, ep, t, ho, hex, hd, _, _, _, hf, hn⟩ := hS
  have hz := nubI_len ns
  have I2 : L2.Inv X pins σ H1 { s1 with heap := h', toks := tk } := I1.kept fun b o e => hk b o (Heap.lt_size e) e
  exact call_len_set ho hex hd hf (by rw [hn] <;> omega) ⟨.int ((nubI ns).length : Nat), H1, I2.tok _, ⟨_, by rw [hn]⟩, q1⟩
def dLenI : PyData → Option Ent
  | .list ds => match asInts ds with
    | some ns => if ns.length ≤ 4000 then some (py (.int ((nubI ns).length : Nat))) else none
    | none => none
  | _ => none
def oLenI : Op1 := fun ρ x => by1 dLenI (rd ρ x)
@[simp] theorem oLenI_py (ρ : DEnv) (p : PyData) : oLenI ρ (.sh (.py p)) = dLenI p := rfl
theorem ok_lenI : Ok1 K c (rLenSetI K) oLenI := by
  intro G H σ ρ v x e Q env hx ho k
  unfold oLenI at ho
  cases er : rd ρ x with
  | none => rw [er] at ho; cases ho
  | some p =>
    rw [er, by1_some] at ho
    unfold dLenI at ho
    split at ho
    · rename_i ds
      split at ho
      · rename_i ns hr
        split at ho
        · rename_i hok
          cases ho
          obtain ⟨a, vs, ea, ha, ra⟩ := rd_list env hx er
          rw [asInts_inv hr] at ra
          rw [rp_ints ra] at ha
          exact ⟨a, ns, ea, SqL.of ha, hok, k.flat env (by simp only [Rp])⟩
        · cases ho
      · cases ho
    · cases ho
theorem de_lenI {a : Expr} {f : M Ent} {p p2 q pos : Pos} (hc : X.calm = true) (hg : Gl X "len") (hm : X.mg "len" = none) (hg2 : Gl X "set") (hm2 : X.mg "set" = none) (ha : DE X c W a f)
    (na : starEach [a] X.env = (false, eval a X.env) :: starEach [] X.env := by rfl) : DE X c W (.Call (.Name "len" p) [.Call (.Name "set" p2) [a] [] q] [] pos) (f1 oLenI f) := pe_weak (pe_lenSetI' hg hm hg2 hm2 ha hc na) (w_f1 ok_lenI)
end
end VL

set_option linter.all false
set_option autoImplicit false
set_option maxRecDepth 100000
/-! The value layer, part 21: rows of new lists; fields stored by an __init__. -/
namespace VL
open PySem L2 PySem.Spec PyProof.Rows

section
variable {X : Cx} {c : Nat → Addr} {W : WX} {st : Stmt} {rest : List Stmt} {f g : S} {T : TS}
/-- a block's first statements, by the layer; the rest by hand -/
abbrev tSN (K : PySem.W.Frag) (c : Nat → Addr) (W : WX) (f : S) (T : TS) : TS := fun D σ H => tS K c W f { D with nx := T D } σ H
theorem pss_pre1 (h1 : DS X c W st f) (h2 : PSs X rest T) : PSs X (st :: rest) (tSN X.K c W f T) := pss_cons h1 h2
theorem pss_pre (h1 : DS X c W st f) (h2 : PSs X rest (tSN X.K c W g T)) : PSs X (st :: rest) (tSN X.K c W (sq f g) T) := pss_weak (pss_cons h1 h2) fun D σ H h => w_sq { D with nx := T D } σ H h
theorem pss_hand {t : TS} (h1 : PS X st t) (h2 : PSs X rest T) : PSs X (st :: rest) (tSeq t T) := pss_cons h1 h2
variable {elt tg iter : Expr} {ifs : List Expr} {scope : Scope} {own : List (Str × Nat)} {pos spos : Pos} {src : M (List PyData)} {gt : Tgt} {tt : M Bool} {te : M Ent} {ts : List Nat}
/-- a comprehension, as the hand layer reads it -/
theorem pe_compR (own : List (Str × Nat)) (hc : X.calm = true) (hN : X.N.Nodup) (hi : DI X c W tg iter src) (ok : BlkOk X.N X.env.scope scope own) (hts : ∀ i ∈ ts, i ∈ own.map (·.2))
    (hg : ∀ (s : Shared) (H : Hp) (C : Addr) (cl : List (Str × Addr)) (fp : List Addr), PG (X.blk s H scope (compEnvC scope cl C X.env) fp) tg (tDG X.K c ts gt)) (ht : ∀ (s : Shared) (H : Hp) (C : Addr) (cl : List (Str × Addr)) (fp : List Addr), PTs (X.blk s H scope (compEnvC scope cl C X.env) fp) ifs (tDT X.K c W0 tt))
    (he : ∀ (s : Shared) (H : Hp) (C : Addr) (cl : List (Str × Addr)) (fp : List Addr), PE (X.blk s H scope (compEnvC scope cl C X.env) fp) elt (tD X.K c W0 te)) (hs : ∀ x, foldedSetIterable iter X.env x = pure x := by intro _; rfl) :
    PE X (.ListComp elt [⟨tg, iter, ifs, 0⟩] scope pos) (tLc (tDI X.K c W src) (tDG X.K c ts gt) (tDT X.K c W0 tt) (tD X.K c W0 te) (own.map (·.2))) := pe_lc hc hN hi ok hg ht he hs
end

section
variable {K : PySem.W.Frag} {c : Nat → Addr} {W : WX} {G G' H H' H1 H2 : Hp} {σ σ' : L2.St} {ρ ρ' : DEnv} {Q : VK}
/-- new lists, one for each row -/
def RowsAt (K : PySem.W.Frag) (H H' : Hp) : List Addr → List (List PyData) → Prop
  | [], [] => True
  | a :: as, r :: rs => (H a = none ∧ ∃ ws, H' a = some (.lst ws) ∧ ∀ G, RpL K G ws r) ∧ RowsAt K H H' as rs
  | _, _ => False
theorem RowsAt.mono (h : ∀ a o, H1 a = some o → H a = none → H2 a = some o) : ∀ {as : List Addr} {rs : List (List PyData)}, RowsAt K H H1 as rs → RowsAt K H H2 as rs
  | [], [], _ => trivial
  | a :: as, r :: rs, ⟨⟨h1, ws, h2, h3⟩, q⟩ => ⟨⟨h1, ws, h a _ h2 h1, h3⟩, RowsAt.mono h q⟩
  | [], _ :: _, q => q.elim
  | _ :: _, [], q => q.elim
theorem RowsAt.pre (h : Same H H1) : ∀ {as : List Addr} {rs : List (List PyData)}, RowsAt K H1 H2 as rs → RowsAt K H H2 as rs
  | [], [], _ => trivial
  | a :: as, r :: rs, ⟨⟨h1, ws, h2, h3⟩, q⟩ => ⟨⟨h.free h1, ws, h2, h3⟩, RowsAt.pre h q⟩
  | [], _ :: _, q => q.elim
  | _ :: _, [], q => q.elim
theorem RowsAt.snoc {a : Addr} {r : List PyData} (h : H a = none ∧ ∃ ws, H' a = some (.lst ws) ∧ ∀ G, RpL K G ws r) : ∀ {as : List Addr} {rs : List (List PyData)}, RowsAt K H H' as rs → RowsAt K H H' (as ++ [a]) (rs ++ [r])
  | [], [], _ => ⟨h, trivial⟩
  | b :: as, s :: rs, ⟨k, q⟩ => ⟨k, RowsAt.snoc h q⟩
  | [], _ :: _, q => q.elim
  | _ :: _, [], q => q.elim
theorem RowsAt.here : ∀ {as : List Addr} {rs : List (List PyData)}, RowsAt K H H' as rs → ∀ a ∈ as, H a = none ∧ ∃ ws, H' a = some (.lst ws)
  | [], [], _, a, h => by cases h
  | b :: as, r :: rs, ⟨⟨h1, ws, h2, _⟩, q⟩, a, h => by
    rcases List.mem_cons.mp h with e | e
    · subst e
      exact ⟨h1, ws, h2⟩
    · exact RowsAt.here q a e
  | [], _ :: _, q, _, _ => q.elim
  | _ :: _, [], q, _, _ => q.elim
theorem RowsAt.rpl {N : Hp} (h : ∀ a o, H a = none → H' a = some o → N a = some o) : ∀ {as : List Addr} {rs : List (List PyData)}, RowsAt K H H' as rs → RpL K N (as.map V.ref) (rs.map PyData.list)
  | [], [], _ => by simp only [List.map_nil, RpL]
  | a :: as, r :: rs, ⟨⟨h1, ws, h2, h3⟩, q⟩ => by
    simp only [List.map_cons, RpL, Rp]
    exact ⟨⟨a, ws, rfl, h a _ h1 h2, h3 _⟩, RowsAt.rpl h q⟩
  | [], _ :: _, q => q.elim
  | _ :: _, [], q => q.elim
/-- a new list of new lists -/
structure NewRows (K : PySem.W.Frag) (H H' : Hp) (v : V) (rows : List (List PyData)) (D : Addr) (as : List Addr) : Prop where
  ev : v = .ref D
  nD : H D = none
  hD : H' D = some (.lst (as.map V.ref))
  nd : as.Nodup
  no : D ∉ as
  at_ : RowsAt K H H' as rows
theorem w_compN {src : M (List PyData)} {tg : Tgt} {te : M Ent} {vs ts : List Nat} {its : List PyData} {rows : List (List PyData)} {b : Bool} (hts : ∀ i ∈ ts, i ∈ vs) (env : EnvOk K c G H σ ρ) (no : NoOw ρ) (hsrc : src ρ = some (.ok its ρ)) (hl : its.length ≤ big) (hr : rows.length = its.length) (hf : ∀ r ∈ rows, r.all flatD = true)
    (hel : ∀ (i : Nat) (d : PyData) (r : List PyData), its[i]? = some d → rows[i]? = some r → ∃ ρ3, tg d (wipeE ρ vs) = some ρ3 ∧ NoOw ρ3 ∧ te ρ3 = some (.ok (.own (.list r) b) ρ3))
    (q : ∀ v H' D as, Same H H' → NewRows K H H' v rows D as → Q v H') : tLc (tDI K c W src) (tDG K c ts tg) (tDT K c W0 (VL.ret true)) (tD K c W0 te) vs σ H Q := by
  refine ⟨G, ρ, env, ?_⟩
  rw [hsrc]
  intro J G1 H1 s1 wk D nD
  have g1 := s1.grow env no
  have env1 := s1.env
  have now : NoOw (wipeE ρ vs) := fun i p b h => by
    rw [wipeE_get] at h
    split at h
    · cases e : ρ[i]? <;> rw [e] at h <;> cases h
    · exact no i p b h
  have envW : ∀ {H'}, Same H1 H' → EnvOk K c G1 H' (wipe σ vs) (wipeE ρ vs) := fun {H'} s => by
    have := (Stp.wipe (vs := vs) (Stp.refl env1) fun i p _ => no i p true).env
    exact this.grow now s
  have keepD : ∀ {Ha Hb : Hp} {o : HO}, Same Ha Hb → Ha D = some o → ∀ {z : HO}, Hb D = some z → z = o := fun s h z k => by
    have := s _ _ h
    rw [k] at this
    exact Option.some.inj this
  refine ⟨fun i m H' => m = its.length - i ∧ i ≤ its.length ∧ ∃ as, Same H1 H' ∧ H' D = some (.lst (as.map V.ref)) ∧ as.Nodup ∧ D ∉ as ∧ as.length = i ∧ RowsAt K H1 H' as (rows.take i),
    ⟨_, rfl, Nat.zero_le _, [], same_up nD, upd_same, List.nodup_nil, (by simp), rfl, by rw [List.take_zero]; trivial⟩, ?_⟩
  rintro i m H2 ⟨rfl, hi, as, s2, hD, nd, nDa, hal, ra⟩
  obtain ⟨k1, k2, k3⟩ := wk G1 H2 (Same.refl _) (env1.le.trans s2)
  by_cases hlt : i < its.length
  · refine .inr ⟨k1 i hlt, fun H' => (its.length - (i + 1) = its.length - (i + 1)) ∧ i + 1 ≤ its.length ∧ ∃ as, Same H1 H' ∧ H' D = some (.lst (as.map V.ref)) ∧ as.Nodup ∧ D ∉ as ∧ as.length = i + 1 ∧ RowsAt K H1 H' as (rows.take (i + 1)), fun H' w => ⟨_, by omega, w⟩, fun x H3 y => ?_⟩
    obtain ⟨d, hd, G3, hy, rd⟩ := k3 i x H3 hlt y
    have s3 := yld_step (envW s2) hy
    have g3 : Same H2 H3 := s3.grow (envW s2) now
    have hr2 : rows[i]? = some (rows[i]'(by omega)) := List.getElem?_eq_getElem (by omega)
    obtain ⟨ρ3, e3, no3, e4⟩ := hel i d _ hd hr2
    refine ⟨G3, wipeE ρ vs, d, s3.env, rd, ρ3, e3, fun G4 H4 σ4 s4 ag => ⟨?_, ?_⟩⟩
    · rw [wipe_agree ag hts, wipe_wipe]
    have g4 : Same H3 H4 := s4.grow s3.env now
    refine ⟨G4, ρ3, s4.env, fun G5 H5 s5 => ?_⟩
    have g5 : Same H4 H5 := s5.grow s4.env no3
    dsimp only
    rw [if_pos rfl]
    refine tD_pure s5.env no3 e4 fun v G6 H6 sg g6 _ env6 ev fv => ?_
    have g26 : Same H2 H6 := ((g3.trans g4).trans g5).trans g6
    have g25 : Same H2 H5 := (g3.trans g4).trans g5
    obtain ⟨a, ws, rfl, na, ha, ra2⟩ := new_flat (hf _ (List.mem_of_getElem? hr2)) ev fv
    have na2 : H2 a = none := g25.free na
    have hD6 := g26 _ _ hD
    have aD : a ≠ D := fun z => by
      subst z
      rw [na2] at hD
      cases hD
    have up : ∀ b o, H2 b = some o → H1 b = none → b ≠ D → upd H6 D (.lst (as.map V.ref ++ [.ref a])) b = some o := fun b o h _ hb => by
      rw [upd_ne hb]
      exact g26 b o h
    have hra : RowsAt K H1 (upd H6 D (.lst (as.map V.ref ++ [.ref a]))) as (rows.take i) := by
      have : ∀ {as' : List Addr} {rs : List (List PyData)}, D ∉ as' → RowsAt K H1 H2 as' rs → RowsAt K H1 (upd H6 D (.lst (as.map V.ref ++ [.ref a]))) as' rs := by
        intro as'
        induction as' with
        | nil =>
          intro rs _ h
          cases rs with
          | nil => trivial
          | cons _ _ => exact h.elim
        | cons b as' ih =>
          intro rs hn h
          cases rs with
          | nil => exact h.elim
          | cons r rs =>
            obtain ⟨⟨h1, ws, h2, h3⟩, q⟩ := h
            exact ⟨⟨h1, ws, up b _ h2 h1 fun z => hn (by rw [z]; exact List.mem_cons_self), h3⟩, ih (fun z => hn (List.mem_cons_of_mem _ z)) q⟩
      exact this nDa ra
    refine ⟨as.map V.ref, hD6, small_big' (by rw [List.length_map]; omega), rfl, hlt, as ++ [a], fun b o h => ?_, ?_, ?_, ?_, by rw [List.length_append, hal]; rfl, ?_⟩
    · have hb : b ≠ D := fun z => by
        subst z
        rw [nD] at h
        cases h
      rw [upd_ne hb]
      exact g26 _ _ (s2 _ _ h)
    · rw [upd_same, List.map_append]
      rfl
    · refine List.nodup_append.mpr ⟨nd, by simp, fun x hx y hy => ?_⟩
      simp only [List.mem_singleton] at hy
      subst hy
      rintro rfl
      obtain ⟨_, ws', hw⟩ := ra.here _ hx
      rw [na2] at hw
      cases hw
    · intro z
      rcases List.mem_append.mp z with z | z
      · exact nDa z
      · simp only [List.mem_singleton] at z
        exact aD z.symm
    · have e : rows.take (i + 1) = rows.take i ++ [rows[i]'(by omega)] := by
        rw [List.take_add_one, hr2]
        rfl
      rw [e]
      exact hra.snoc ⟨s2.free na2, ws, by rw [upd_ne aD]; exact ha, ra2⟩
  · have e : i = its.length := by omega
    subst e
    refine .inl ⟨k2, q (.ref D) H2 D as (g1.trans s2) ⟨rfl, g1.free nD, hD, nd, nDa, ?_⟩⟩
    rw [List.take_of_length_le (by omega)] at ra
    exact ra.pre g1

/-! ### an instance whose fields are being stored -/
def nwx (x : Addr) (H H' : Hp) : Hp := fun a => if a = x then none else nw H H' a
theorem nwx_le {x : Addr} : Same (nwx x H H') (nw H H') := fun a o h => by
  unfold nwx at h
  split at h
  · cases h
  · exact h
theorem nwx_at {x a : Addr} {o : HO} (h0 : H a = none) (h1 : a ≠ x) (h2 : H' a = some o) : nwx x H H' a = some o := by
  unfold nwx
  rw [if_neg h1, nw_new h0]
  exact h2
theorem nwx_mono {x : Addr} (h : ∀ a o, a ≠ x → H1 a = some o → H2 a = some o) : Same (nwx x H H1) (nwx x H H2) := fun a o e => by
  unfold nwx at e
  split at e
  · cases e
  · rename_i ne
    obtain ⟨h1, h2⟩ := nw_at e
    exact nwx_at h1 ne (h a o ne h2)
def putD (f : Str) (v : D) : List (Str × D) → List (Str × D)
  | [] => [(f, v)]
  | (g, x) :: r => if g = f then (g, v) :: r else (g, x) :: putD f v r
theorem RpF.put {f : Str} {y : V} {d : D} (r : RpD K c G y d) : ∀ {vs : List (Str × V)} {fs : List (Str × D)}, RpF K c G vs fs → RpF K c G (putF f y vs) (putD f d fs)
  | [], [], _ => by
    show RpF K c G [(f, y)] [(f, d)]
    simp only [RpF]
    exact ⟨⟨trivial, r⟩, trivial⟩
  | (g, v) :: vs, (g', d') :: fs, h => by
    simp only [RpF] at h
    obtain ⟨⟨hn, h1⟩, h2⟩ := h
    have hn : g = g' := hn
    subst hn
    unfold putF putD
    by_cases hg : g = f
    · rw [if_pos hg, if_pos hg]
      simp only [RpF]
      exact ⟨⟨trivial, r⟩, h2⟩
    · rw [if_neg hg, if_neg hg]
      simp only [RpF]
      exact ⟨⟨trivial, h1⟩, RpF.put r h2⟩
  | [], _ :: _, h => by simp only [RpF] at h
  | _ :: _, [], h => by simp only [RpF] at h
theorem RpF.length : ∀ {vs : List (Str × V)} {fs : List (Str × D)}, RpF K c G vs fs → vs.length = fs.length
  | [], [], _ => rfl
  | v :: vs, d :: fs, h => by
    simp only [RpF] at h
    rw [List.length_cons, List.length_cons, RpF.length h.2]
  | [], _ :: _, h => by simp only [RpF] at h
  | _ :: _, [], h => by simp only [RpF] at h
/-- behind H0 an instance at x of which the fields fs are there, all new -/
structure InitAt (K : PySem.W.Frag) (c : Nat → Addr) (j : Nat) (x dx : Addr) (H0 H : Hp) (vs : List (Str × V)) (fs : List (Str × D)) : Prop where
  at_ : H x = some (.ins (c j) dx vs)
  same : Same H0 H
  free : H0 x = none
  rep : RpF K c (nwx x H0 H) vs fs
theorem InitAt.grow {j : Nat} {x dx : Addr} {H0 : Hp} {vs : List (Str × V)} {fs : List (Str × D)} (h : InitAt K c j x dx H0 H vs fs) (s : Same H H') : InitAt K c j x dx H0 H' vs fs := ⟨s _ _ h.at_, h.same.trans s, h.free, RpF.mono (nwx_mono fun a o _ e => s a o e) _ _ h.rep⟩
theorem InitAt.put {j : Nat} {x dx : Addr} {H0 : Hp} {vs : List (Str × V)} {fs : List (Str × D)} {f : Str} {y : V} {d : D} (h : InitAt K c j x dx H0 H vs fs) (r : RpD K c (nwx x H0 H) y d) : InitAt K c j x dx H0 (upd H x (.ins (c j) dx (putF f y vs))) (putF f y vs) (putD f d fs) := by
  have m : Same (nwx x H0 H) (nwx x H0 (upd H x (.ins (c j) dx (putF f y vs)))) := nwx_mono fun a o ne e => by
    rw [upd_ne ne]
    exact e
  refine ⟨upd_same, fun a o e => ?_, h.free, RpF.put (RpD.mono m y d r) (RpF.mono m _ _ h.rep)⟩
  rw [upd_ne fun z => by rw [z, h.free] at e; cases e]
  exact h.same a o e
theorem InitAt.fin {j : Nat} {x dx : Addr} {H0 : Hp} {vs : List (Str × V)} {fs : List (Str × D)} (h : InitAt K c j x dx H0 H vs fs) : RpD K c (nw H0 H) (.ref x) (.ins j fs) := by
  simp only [RpD]
  exact ⟨x, dx, vs, rfl, by rw [nw_new h.free]; exact h.at_, RpF.mono nwx_le _ _ h.rep⟩
theorem InitAt.start {j : Nat} {x dx : Addr} {H0 : Hp} (h1 : H0 x = none) (h2 : H0 dx = none) : InitAt K c j x dx H0 (upd (upd H0 dx (.own x)) x (.ins (c j) dx [])) [] [] := by
  refine ⟨upd_same, fun a o e => ?_, h1, by simp only [RpF]⟩
  have n1 : a ≠ x := fun z => by
    rw [z, h1] at e
    cases e
  have n2 : a ≠ dx := fun z => by
    rw [z, h2] at e
    cases e
  rw [upd_ne n1, upd_ne n2]
  exact e
/-- one field stored -/
theorem w_store {j i : Nat} {x dx : Addr} {H0 : Hp} {vs : List (Str × V)} {fs : List (Str × D)} {f : Str} {tv : TE} {E : Ends} {d : D} (hs : σ[i]? = some (some (.ref x))) (cl : Cls K (c j)) (na : NoAttr K (c j) f) (h : InitAt K c j x dx H0 H vs fs) (hl : fs.length < 1000)
    (hv : ∀ R : VK, (∀ y H1, Same H H1 → RpD K c (nwx x H0 H1) y d → R y H1) → tv σ H R)
    (q : ∀ H2 vs', InitAt K c j x dx H0 H2 vs' (putD f d fs) → (∀ a o, a ≠ x → H a = some o → H2 a = some o) → E.nx σ H2) : sFld K (tVar i) tv f E σ H := by
  refine hv _ fun y H1 s r => ?_
  have h2 := h.grow s
  refine ⟨.ref x, hs, x, c j, dx, vs, rfl, h2.at_, cl, na, by rw [h.rep.length]; exact hl, ?_⟩
  exact q _ _ (h2.put r) fun a o ne e => by
    rw [upd_ne ne]
    exact s a o e
end
end VL

set_option linter.all false
set_option autoImplicit false
set_option maxRecDepth 100000
/-! The value layer, part 22: defs proved by hand, at promises of new things. -/
namespace VL
open PySem L2 PySem.Spec PyProof.Rows

section
variable {P : Program} {w : World} {K : PySem.W.Frag} {mg : Str → Option Value} {base : Heap} {c : Nat → Addr}
theorem spN_len {n : Nat} {fn : Fn} {vs : List V} {H : Hp} {Q : VK} {E : XK} (h : spN K c n fn vs H Q E) : vs.length = n := by
  obtain ⟨G, ds, hl, env, _⟩ := h
  have := env.len
  rw [argE_length, List.length_map, hl] at this
  exact this.symm
theorem argE_pad {ds : List D} {m : Nat} : NoOw (argE none ds ++ List.replicate m none) := fun i p b h => by
  by_cases hi : i < ds.length
  · rw [List.getElem?_append_left (by rw [argE_length]; exact hi)] at h
    exact argE_noOw i p b h
  · rw [List.getElem?_append_right (by rw [argE_length]; omega), List.getElem?_replicate] at h
    split at h <;> cases h
/-- THE RULE for a def read by hand -/
theorem fnN_ok {x qual : Str} {st : Stmt} {f : Addr} {fd : FuncData} {N ps : List Str} {k : Nat} {fn : Fn} {T : XK → TS} (F : Fun K x qual st f fd) (Sc : FnScope N ps (defScope st))
    (hb : ∀ (cdv : Value) (A : Around) (outer : List Env) (s : Shared) (H : Hp) (E : XK), Room k (A.deeper (envOfC qual (defScope st) s.heap.objs.size f cdv)) → PSs (bodyCx P w K mg base N qual st f cdv A outer s H E) (defBody st) (T E))
    (hT : ∀ (vs : List V) (G H : Hp) (ds : List D) (Q : VK) (E : XK), ds.length = ps.length → EnvOk K c G H (L2.start N vs) (argE none ds ++ List.replicate (N.length - ds.length) none) → AnsN K c H Q E (fn ds) → T E { nx := fun _ H' => Q .non H', rt := Q } (L2.start N vs) H) :
    FnOk P w K mg base (L2.CX P w) (k + 1) f fd ps (spN K c ps.length fn) := by
  refine F.okX Sc (fun vs H Q E h => spN_len h) fun cdv A outer s H vs Q E hr h => ⟨_, hb cdv A outer s H E hr, ?_⟩
  obtain ⟨G, ds, hl, env, h⟩ := h
  exact hT vs G H ds Q E hl (env_in env) h
/-- a def whose answer is wholly new -/
structure FnN (P : Program) (w : World) (K : PySem.W.Frag) (mg : Str → Option Value) (base : Heap) (c : Nat → Addr) (k : Nat) (name : Str) (n : Nat) (fn : Fn) : Prop where
  sh : ShFn fn
  ex : ∃ f fd ps, mg name = some (.ref f) ∧ PySem.W.keepIn K (.ref f) = true ∧ Binds K fd ps [] ∧ ps.length = n ∧ FnOk P w K mg base (L2.CX P w) k f fd ps (spN K c n fn)
theorem FnN.at_ {k n : Nat} {name : Str} {fn : Fn} (F : FnN P w K mg base c k name n fn) : FnAt P w K mg base c k name n none fn := by
  obtain ⟨f, fd, ps, h1, h2, h3, h4, h5⟩ := F.ex
  exact ⟨f, fd, ps, h1, h2, h3, h4, h5.imp fun vs H Q E h => spF_spN F.sh h⟩
end
section
variable {X : Cx} {c : Nat → Addr} {W : WX} {k n : Nat} {fn : Fn} {x : Str} {p pos : Pos} {e : Expr} {es : List Expr} {m : M (List Ent)}
theorem pe_callN (F : FnN X.prog X.w X.K X.mg X.base c k x n fn) (hr : Room k X.A) (tk : Takes X W) (hg : Gl X x) (ha : DA X c W (e :: es) m) (hdb : (x == ("__debug__" : Str)) = false := by decide) (he : starEach (e :: es) X.env = (false, eval e X.env) :: starEach es X.env := by rfl) (hpl : (backTo pos (starEach es X.env)).any (·.1) = false := by rfl) :
    PE X (.Call (.Name x p) (e :: es) [] pos) (tCallS (spN X.K c n fn) (WE W) (tDA X.K c W m)) := by
  obtain ⟨f, fd, ps, h1, h2, h3, h4, h5⟩ := F.ex
  exact pe_callS h5 hr hg h1 h2 h3 (passAt tk) ha hdb he hpl
theorem pe_makeN {j : Nat} (F : MkAt X.prog X.w X.K X.mg X.base c k x j n fn) (hr : Room (k + 1) X.A) (tk : Takes X W) (hg : Gl X x) (ha : DA X c W (e :: es) m) (hdb : (x == ("__debug__" : Str)) = false := by decide) (he : starEach (e :: es) X.env = (false, eval e X.env) :: starEach es X.env := by rfl) (hpl : (backTo pos (starEach es X.env)).any (·.1) = false := by rfl) :
    PE X (.Call (.Name x p) (e :: es) [] pos) (tCallS (spN X.K c n fn) (WE W) (tDA X.K c W m)) := by
  obtain ⟨f, fd, ps, h1, h2, h3, h4⟩ := F.ex
  exact pe_weak (pe_makeA (E := WE W) h1 h4 hr hg h2 h3 (passAt tk) ha hdb he hpl) fun σ H Q h => tDA_mono h fun vs H1 h1 x dx n1 n2 n3 => spN_spI h1 n1 n2 n3
end
section
variable {K : PySem.W.Frag} {c : Nat → Addr} {W : WX} {G G' H H' H1 H2 : Hp} {σ σ' : L2.St} {ρ ρ' : DEnv} {Q : VK} {m : M (List Ent)} {fn : Fn} {n : Nat} {es : List Ent} {ds : List D}
theorem env_args {vs : List V} (env : EnvOk K c G H σ ρ) (e : EAs K c G H σ ρ vs es) (hc : callA none ρ es = some ds) : EnvOk K c G H (vs.map some) (argE none ds) := by
  obtain ⟨k1, k2, _⟩ := callA_ok env e hc
  refine ⟨env.le, by rw [argE_length, List.length_map]; exact k1, fun i d q => ?_, fun i p b q => (argE_noOw i p b q).elim, fun i j => argE_nol, fun i j a p q b d hi _ _ _ => (argE_noOw i p b hi).elim⟩
  obtain ⟨q1, _⟩ := argE_sh q
  obtain ⟨v, z1, z2⟩ := k2 i d (fun z => nomatch z) q1
  exact ⟨v, by rw [List.getElem?_map, z1]; rfl, z2⟩
/-- a call's answer, new since the arguments were reckoned -/
theorem rd_callN {d : D} {o : PyData} (env : EnvOk K c G H σ ρ) (no : NoOw ρ) (hm : m ρ = some (.ok es ρ)) (hc : callA none ρ es = some ds) (hn : ds.length = n) (hf : fn ds = some (.ok (.sh d) o)) (q : ∀ v H1 H2, Same H H1 → Same H1 H2 → RpD K c (nw H1 H2) v d → Q v H2) : tCallS (spN K c n fn) (WE W) (tDA K c W m) σ H Q :=
  tDA_pure env no hm fun vs G1 H1 sg s _ env1 e1 => ⟨G1, ds, hn, env_args env1 e1 hc, by
    rw [hf]
    exact fun v H2 s2 r => q v H1 H2 s s2 r⟩
theorem EnvOk.noSlot {i : Nat} {x : Option V} (env : EnvOk K c G H σ ρ) (h : ρ[i]? = some none) : EnvOk K c G H (σ.set i x) ρ := by
  have ne : ∀ {j : Nat} {e : Ent}, ρ[j]? = some (some e) → (σ.set i x)[j]? = σ[j]? := fun {j e} hj => List.getElem?_set_ne fun z => by
    subst z
    rw [h] at hj
    cases hj
  refine ⟨env.le, by rw [List.length_set]; exact env.len, fun j d e => ?_, fun j p b e => ?_, env.nol, fun j k a p q b d hj hk ej ek => ?_⟩
  · rw [ne e]
    exact env.sh j d e
  · rw [ne e]
    exact env.own j p b e
  · rw [ne hj] at ej
    rw [ne hk] at ek
    exact env.inj j k a p q b d hj hk ej ek
/-- a slot whose value is told -/
theorem EnvOk.setSh {i : Nat} {v : V} {d : D} (env : EnvOk K c G H σ ρ) (no : NoOw ρ) (hv : σ[i]? = some (some v)) (r : RpD K c G v d) : EnvOk K c G H σ (ρ.set i (some (.sh d))) := by
  refine ⟨env.le, by rw [List.length_set]; exact env.len, fun j e h => ?_, fun j p b h => ?_, fun j k h => ?_, fun j k a p q b d hj _ _ _ => ?_⟩
  · rcases get_set h with ⟨rfl, _, e⟩ | ⟨ne, e⟩
    · cases e
      exact ⟨v, hv, r⟩
    · exact env.sh j _ e
  · rcases get_set h with ⟨rfl, _, e⟩ | ⟨ne, e⟩
    · cases e
    · exact (no j p b e).elim
  · rcases get_set h with ⟨rfl, _, e⟩ | ⟨ne, e⟩
    · cases e
    · exact env.nol j k e
  · rcases get_set hj with ⟨rfl, _, e⟩ | ⟨ne, e⟩
    · cases e
    · exact (no j p b e).elim
/-- a name set to shared data -/
theorem EnvOk.setV {i : Nat} {v : V} {d : D} (env : EnvOk K c G H σ ρ) (no : NoOw ρ) (hi : i < ρ.length) (r : RpD K c G v d) : EnvOk K c G H (σ.set i (some v)) (ρ.set i (some (.sh d))) := by
  have hl := env.len
  refine ⟨env.le, by rw [List.length_set, List.length_set]; exact env.len, fun j e h => ?_, fun j p b h => ?_, fun j k h => ?_, fun j k a p q b d hj _ _ _ => ?_⟩
  · rcases get_set h with ⟨rfl, _, e⟩ | ⟨ne, e⟩
    · cases e
      exact ⟨v, List.getElem?_set_self (by omega), r⟩
    · rw [List.getElem?_set_ne (Ne.symm ne)]
      exact env.sh j _ e
  · rcases get_set h with ⟨rfl, _, e⟩ | ⟨ne, e⟩
    · cases e
    · exact (no j p b e).elim
  · rcases get_set h with ⟨rfl, _, e⟩ | ⟨ne, e⟩
    · cases e
    · exact env.nol j k e
  · rcases get_set hj with ⟨rfl, _, e⟩ | ⟨ne, e⟩
    · cases e
    · exact (no j p b e).elim
theorem NoOw.set {i : Nat} {d : D} (no : NoOw ρ) : NoOw (ρ.set i (some (.sh d))) := fun j p b h => by
  rcases get_set h with ⟨rfl, _, e⟩ | ⟨ne, e⟩
  · cases e
  · exact no j p b e
/-- something private is changed -/
theorem EnvOk.poke {a : Addr} {o : HO} (env : EnvOk K c G H σ ρ) (no : NoOw ρ) (ha : G a = none) : EnvOk K c G (upd H a o) σ ρ := ⟨sameUp env.le ha, env.len, env.sh, fun i p b h => (no i p b h).elim, env.nol, env.inj⟩
theorem mrg_noN {N : Hp} {a : Addr} (h : N a = none) : mrg G N a = G a := by
  unfold mrg
  rw [h]
end

/-! ### an __init__ by hand: what it checks, by the layer; then the fields -/
section
variable {K : PySem.W.Frag} {c : Nat → Addr} {G H0 : Hp}
theorem env_init {x dx : Addr} {us : List V} {ds : List D} {N : List Str} {o1 o2 : HO} (env : EnvOk K c G H0 (us.map some) (argE none ds)) (h1 : H0 x = none) (h2 : H0 dx = none) : EnvOk K c G (upd (upd H0 dx o1) x o2) (L2.start N (.ref x :: us)) (some (.sh (.val (.ref x))) :: (argE none ds ++ List.replicate (N.length - (ds.length + 1)) none)) := by
  have hl : ds.length = us.length := by
    have := env.len
    rw [argE_length, List.length_map] at this
    exact this
  have gx : G x = none := env.le.free h1
  have gd : G dx = none := env.le.free h2
  refine ⟨sameUp (sameUp env.le gd) gx, ?_, fun i d h => ?_, fun i p b h => ?_, fun i j h => ?_, fun i j a p q b d hi _ _ _ => ?_⟩
  · unfold L2.start
    simp only [List.length_append, List.length_replicate, List.length_cons, argE_length, List.length_map, hl]
    omega
  · cases i with
    | zero =>
      cases h
      exact ⟨.ref x, rfl, by simp only [RpD]⟩
    | succ i =>
      rw [List.getElem?_cons_succ] at h
      by_cases hi : i < ds.length
      · rw [List.getElem?_append_left (by rw [argE_length]; exact hi)] at h
        obtain ⟨v, ev, r⟩ := env.sh i d h
        refine ⟨v, ?_, r⟩
        rw [start_get (by rw [List.length_cons]; omega), List.map_cons, List.getElem?_cons_succ]
        exact ev
      · rw [List.getElem?_append_right (by rw [argE_length]; omega), List.getElem?_replicate] at h
        split at h <;> cases h
  · cases i with
    | zero => cases h
    | succ i => exact (argE_pad i p b (by simpa using h)).elim
  · cases i with
    | zero => cases h
    | succ i =>
      rw [List.getElem?_cons_succ] at h
      by_cases hi : i < ds.length
      · rw [List.getElem?_append_left (by rw [argE_length]; exact hi)] at h
        exact argE_nol h
      · rw [List.getElem?_append_right (by rw [argE_length]; omega), List.getElem?_replicate] at h
        split at h <;> cases h
  · cases i with
    | zero => cases hi
    | succ i => exact (argE_pad i p b (by simpa using hi)).elim
theorem noOw_init {u : V} {ds : List D} {m : Nat} : NoOw (some (.sh (.val u)) :: (argE none ds ++ List.replicate m none)) := fun i p b h => by
  cases i with
  | zero => cases h
  | succ i => exact argE_pad i p b (by simpa using h)
end
end VL

set_option linter.all false
set_option autoImplicit false
set_option maxRecDepth 100000
/-! The value layer, part 23: what the text says of classes of exceptions. -/
namespace VL
open PySem L2 PySem.Spec PyProof.Rows
/-- all that is asked of a class of exceptions -/
structure XcAt (K : PySem.W.Frag) (mg : Str → Option Value) (name : Str) (C : Addr) : Prop where
  e : ExcAt K mg name C
  c : ExcC K C
  i : PySem.W.isClsIn K C = true
  s : PySem.W.subIn K (.ref C) (.ref C) = some true
  v : PySem.W.subIn K (.ref C) (.type "ValueError") = some true
section
variable {K : PySem.W.Frag} {mg : Str → Option Value} {x y : Str} {D C : Addr} {b : Bool}
theorem kit_ref (d : XcAt K mg x D) (k : XcAt K mg y C) (h : PySem.W.subIn K (.ref D) (.ref C) = some b) : PySem.W.kitOne K (.ref D) (.ref C) = some b := by
  unfold PySem.W.kitOne
  by_cases e : (Value.ref D == Value.ref C) = true
  · rw [if_pos e]
    have e2 : Value.ref D = Value.ref C := eq_of_beq e
    rw [← e2, d.s] at h
    exact h
  · rw [if_neg e]
    unfold PySem.W.kitCls
    have hi : (PySem.W.clsIn K C).isSome = true := k.i
    have ht : (PySem.W.typeIn K (.ref C) == some (.type "type")) = true := by rw [k.e.t] <;> rfl
    dsimp only
    rw [hi, ht]
    exact h
theorem kit_self (d : XcAt K mg x D) : PySem.W.kitOne K (.ref D) (.ref D) = some true := kit_ref d d d.s
theorem kit_ve (d : XcAt K mg x D) : PySem.W.kitOne K (.ref D) (.type "ValueError") = some true := by
  unfold PySem.W.kitOne
  have e : ¬ (Value.ref D == Value.type "ValueError") = true := fun z => nomatch (eq_of_beq z)
  rw [if_neg e]
  unfold PySem.W.kitCls
  have hm : PySem.W.kitMeta "ValueError" = true := by decide +kernel
  dsimp only
  rw [if_pos hm]
  exact d.v
theorem exm_at (k : XcAt K mg y C) (h : PySem.W.subIn K (.ref D) (.ref C) = some b) : PySem.W.exmOne K (.ref D) (.ref C) = some b := PySem.W.exm_ref k.e.b k.c.hd k.e.t h
end
section
variable {X : Cx} {x : Str} {pos : Pos} {C : Addr}
theorem pe_cls (h : XcAt X.K X.mg x C) (hg : Gl X x) (hd : (x == ("__debug__" : Str)) = false := by decide) : PE X (.Name x pos) (fun _ H Q => Q (.ref C) H) := pe_glob (v := .ref C) hg h.e.g rfl hd
theorem pa_nil' : PA X [] (fun _ H Q => Q [] H) := pa_nil
theorem pa_cons' {e : Expr} {es : List Expr} {v : V} {vs : List V} (h1 : PE X e (fun _ H Q => Q v H)) (h2 : PA X es (fun _ H Q => Q vs H)) (hs : starEach (e :: es) X.env = (false, eval e X.env) :: starEach es X.env := by rfl) : PA X (e :: es) (fun _ H Q => Q (v :: vs) H) := pa_weak (pa_cons h1 h2 hs) fun σ H Q h => h
theorem pe_ve (hg : Gl X "ValueError") (hm : X.mg "ValueError" = none) : PE X (.Name "ValueError" pos) (fun _ H Q => Q (.ty "ValueError") H) := pe_bltn (v := .ty "ValueError") hg hm (by decide +kernel) rfl (by decide) (by decide)
theorem ds_never {c : Nat → Addr} {W : WX} {s : List Stmt} : DSs X c W s (fun _ => none) := ⟨fun pins s σ H D I h => by
  obtain ⟨G, ρ, env, h⟩ := h
  exact h.elim⟩
end
end VL

set_option linter.all false
set_option autoImplicit false
set_option maxRecDepth 100000
/-! The value layer, part 24: a name's own list given away. -/
namespace VL
open PySem L2

section
variable {X : Cx} {c : Nat → Addr} {W : WX} {K : PySem.W.Frag} {G H : Hp} {σ : L2.St} {ρ : DEnv}
theorem Stp.giveName {i : Nat} {p : PyData} (x : EnvOk K c G H σ ρ) (hi : ρ[i]? = some (some (.own p false))) :
    ∃ G' v, Stp K c G H σ ρ G' H σ (ρ.set i (some (py p))) ∧ σ[i]? = some (some v) ∧ RpD K c G' v (.py p) := by
  obtain ⟨a, ea, g0, h0⟩ := x.own i p false hi
  obtain ⟨ds, vs, rfl, ho, hr⟩ := h0.shape
  have sg : Same G (upd G a (.lst vs)) := same_up g0
  have hlt : i < ρ.length := (List.getElem?_eq_some_iff.mp hi).1
  have rp : Rp K (upd G a (.lst vs)) (.ref a) (.list ds) := by
    simp only [Rp]
    exact ⟨a, vs, rfl, upd_same, hr.mono sg⟩
  refine ⟨upd G a (.lst vs), .ref a, ⟨⟨fun b u e => ?_, by rw [List.length_set]; exact x.len, fun j d h => ?_, fun j q d h => ?_, fun j k h => ?_, fun j k b q q' d d' hj hk ej ek => ?_⟩, sg, fun q o k1 k2 k3 => ⟨k1, ?_⟩, fun q h => ?_, fun q h => h, fun j q h => ?_⟩, ea, by simp only [RpD]; exact rp⟩
  · by_cases hb : b = a
    · subst hb
      rw [upd_same] at e
      cases e
      exact ho
    · rw [upd_ne hb] at e
      exact x.le b u e
  · rcases get_set h with ⟨rfl, _, e⟩ | ⟨ne, e⟩
    · cases e
      exact ⟨.ref a, ea, by simp only [RpD]; exact rp⟩
    · obtain ⟨w, ew, r⟩ := x.sh j d e
      exact ⟨w, ew, r.mono sg⟩
  · rcases get_set h with ⟨rfl, _, e⟩ | ⟨ne, e⟩
    · cases e
    · obtain ⟨w, ew, k1, k2⟩ := x.own j q d e
      have hb : w ≠ a := fun z => by
        subst z
        exact ne (x.inj j i w q _ d false e hi ew ea)
      exact ⟨w, ew, by rw [upd_ne hb]; exact k1, k2.mono sg rfl⟩
  · rcases get_set h with ⟨rfl, _, e⟩ | ⟨ne, e⟩
    · cases e
    · exact x.nol j k e
  · rcases get_set hj with ⟨rfl, _, e⟩ | ⟨ne, e⟩
    · cases e
    · rcases get_set hk with ⟨rfl, _, e'⟩ | ⟨ne', e'⟩
      · cases e'
      · exact x.inj j k b q q' d d' e e' ej ek
  · rw [upd_ne fun z => k3 ⟨i, _, false, hi, by rw [z]; exact ea⟩]
    exact k2
  · obtain ⟨j, q', d, hj, ej⟩ := h
    rcases get_set hj with ⟨rfl, _, e⟩ | ⟨ne, e⟩
    · cases e
    · exact .inl ⟨j, q', d, e, ej⟩
  · have ne : i ≠ j := fun z => by
      subst z
      rw [hi] at h
      cases h
    rw [List.getElem?_set_ne ne]
    exact ⟨⟨q, h⟩, rfl⟩
/-- the name, its own list given away -/
def fGiv (i : Nat) : M Ent := fun ρ => match ρ[i]? with
  | some (some (.own p false)) => some (.ok (py p) (ρ.set i (some (py p))))
  | some (some (.sh d)) => some (.ok (.sh d) ρ)
  | _ => none
theorem w_giv {i : Nat} (σ : St) (H : Hp) (Q : VK) (h : tD X.K c W (fGiv i) σ H Q) : tVar i σ H Q := by
  obtain ⟨G, ρ, env, h⟩ := h
  unfold fGiv at h
  split at h
  · rename_i p e
    obtain ⟨G', v, s, ev, r⟩ := Stp.giveName env e
    exact ⟨v, ev, h v G' H s r trivial⟩
  · rename_i d e
    obtain ⟨v, e1, r⟩ := env.sh i d e
    exact ⟨v, e1, h v G H (.refl env) r trivial⟩
  · exact h.elim
theorem de_giv (i : Nat) {x : Str} {pos : Pos} (hN : X.N[i]? = some x := by rfl) (hv : Vis X.env.scope x := by first | exact Or.inl rfl | exact Or.inr (Or.inl rfl) | exact Or.inr (Or.inr rfl)) (hd : (x == ("__debug__" : Str)) = false := by decide)
    (hcd : (x == ("__classdict__" : Str)) = false := by decide) : DE X c W (.Name x pos) (fGiv i) := pe_weak (pe_var hN hv hd hcd) w_giv
def givE (i : Nat) (ρ : DEnv) : Option (Option Ent) → Option (Res Ent)
  | some (some (.own p false)) => some (.ok (py p) (ρ.set i (some (py p))))
  | some (some (.sh d)) => some (.ok (.sh d) ρ)
  | _ => none
@[simp ↓] theorem fGiv_ap (i : Nat) (ρ : DEnv) : fGiv i ρ = givE i ρ ρ[i]? := by
  unfold fGiv givE
  cases ρ[i]? with
  | none => rfl
  | some o => cases o with
    | none => rfl
    | some e => cases e with
      | own p b => cases b <;> rfl
      | sh d => rfl
      | lnk j => rfl
@[simp] theorem givE_own (i : Nat) (ρ : DEnv) (p : PyData) : givE i ρ (some (some (.own p false))) = some (.ok (py p) (ρ.set i (some (py p)))) := rfl
@[simp] theorem givE_sh (i : Nat) (ρ : DEnv) (d : D) : givE i ρ (some (some (.sh d))) = some (.ok (.sh d) ρ) := rfl
end
end VL

set_option linter.all false
set_option autoImplicit false
set_option maxRecDepth 100000
/-! The value layer, part 25: powers, the empty dict. -/
namespace VL
open PySem L2
section
variable {X : Cx} {c : Nat → Addr} {W : WX} {K : PySem.W.Frag} {ρ : DEnv} {x y : Ent}
def oPow : Op2 := fun ρ x y => match rd ρ x, rd ρ y with
  | some (.int i), some (.int j) => if 0 ≤ j ∧ j ≤ 1000 ∧ i.natAbs < 2 ^ 60 then some (py (.int (i ^ j.toNat))) else none
  | _, _ => none
theorem ok_pow : Ok2 K c (rI CPow fun i j => .int (i ^ j.toNat)) oPow := by
  intro G H σ ρ v u x y e Q env hx hy ho k
  unfold oPow at ho
  split at ho
  · rename_i i j e1 e2
    split at ho
    · rename_i h
      cases ho
      exact ⟨i, j, rd_int env hx e1, rd_int env hy e2, ⟨h.1, by have := h.2.1; omega, by have := h.2.2; omega⟩, k.flat env (by simp only [Rp])⟩
    · cases ho
  · cases ho
theorem de_pow {a b : Expr} {f g : M Ent} {pos : Pos} (ha : DE X c W a f) (hb : DE X c W b g) : DE X c W (.BinOp a .Pow b pos) (f2 oPow f g) := de_bin op_pow ok_pow ha hb
def dPow : PyData → PyData → Option Ent
  | .int i, .int j => if 0 ≤ j ∧ j ≤ 1000 ∧ i.natAbs < 2 ^ 60 then some (py (.int (i ^ j.toNat))) else none
  | _, _ => none
@[simp ↓] theorem oPow_by : oPow ρ x y = by2 dPow (rd ρ x) (rd ρ y) := by
  unfold oPow
  cases rd ρ x with
  | none => rfl
  | some p => cases rd ρ y with
    | none => cases p <;> rfl
    | some q => cases p <;> cases q <;> rfl
@[simp] theorem dPow_int (i j : Int) : dPow (.int i) (.int j) = if 0 ≤ j ∧ j ≤ 1000 ∧ i.natAbs < 2 ^ 60 then some (py (.int (i ^ j.toNat))) else none := rfl
/-- {} -/
abbrev fDic : M Ent := fC (.dict [])
theorem de_dic0 {pos : Pos} : DE X c W (.Dict [] [] pos) fDic := pe_weak pe_dnewK fun σ H Q h => by
  obtain ⟨G, ρ, env, h⟩ := h
  intro a na
  have s := Stp.newSh (o := .dK []) env na
  refine h (.ref a) _ _ s ?_ trivial
  simp only [EntOk, RpD, Rp]
  exact ⟨trivial, a, rfl, upd_same⟩
end
end VL

set_option linter.all false
set_option autoImplicit false
set_option maxRecDepth 100000
/-! The value layer, part 26: private things lent; a name forgotten. -/
namespace VL
open PySem L2
section
variable {K : PySem.W.Frag} {c : Nat → Addr} {G H N : Hp} {σ : L2.St} {ρ : DEnv}
theorem EnvOk.forget {i : Nat} (x : EnvOk K c G H σ ρ) : EnvOk K c G H σ (ρ.set i none) := by
  have sub : ∀ {j : Nat} {e : Ent}, (ρ.set i none)[j]? = some (some e) → ρ[j]? = some (some e) := fun {j e} h => by
    rcases get_set h with ⟨_, _, e⟩ | ⟨_, e⟩
    · cases e
    · exact e
  exact ⟨x.le, by rw [List.length_set]; exact x.len, fun j d h => x.sh j d (sub h), fun j p b h => x.own j p b (sub h), fun j k h => x.nol j k (sub h), fun j k a p q b d hj hk ej ek => x.inj j k a p q b d (sub hj) (sub hk) ej ek⟩
theorem mrg_N {p : Addr} {o : HO} (h : N p = some o) : mrg G N p = some o := by
  unfold mrg
  rw [h]
theorem mrg_sub (hG : ∀ p o, N p = some o → G p = none) : Same G (mrg G N) := fun p o hp => by
  cases hq : N p with
  | none => rw [mrg_noN hq]; exact hp
  | some u =>
    rw [hG p u hq] at hp
    cases hp
theorem mrg_in (hG : Same G H) (hN : Same N H) : Same (mrg G N) H := fun p o hp => by
  cases hq : N p with
  | none =>
    rw [mrg_noN hq] at hp
    exact hG p o hp
  | some u =>
    rw [mrg_N hq] at hp
    cases hp
    exact hN p _ hq
/-- something private is read as if it were shared -/
theorem lend {i : Nat} {v : V} {d : D} (env : EnvOk K c G H σ ρ) (no : NoOw ρ) (hN : Same N H) (hG : ∀ p o, N p = some o → G p = none) (hs : σ[i]? = some (some v)) (r : RpD K c N v d) : EnvOk K c (mrg G N) H σ (ρ.set i (some (.sh d))) :=
  (env.up no (mrg_sub hG) (mrg_in env.le hN)).setSh no hs (RpD.mono (fun p o h => mrg_N h) v d r)
theorem mrg_none {p : Addr} (h1 : G p = none) (h2 : N p = none) : mrg G N p = none := by
  rw [mrg_noN h2]
  exact h1
end
end VL

set_option Elab.async false
set_option linter.all false
set_option autoImplicit false
set_option maxRecDepth 100000
namespace LawX
open PySem L2 VL PySem.Spec PyProof.Rows
def topS (i : Nat) : Stmt := PySem.Challenge.pw_everafter_k02_machines.main.body.getD i (.Pass ⟨0, 0, 0, 0⟩)
theorem hu64 {A : Around} {k : Nat} (h : Room k A) : A.units + 64 < cLine := by have := h.un; omega
theorem hu65 {A : Around} {k : Nat} (h : Room k A) : A.units + 65 < cLine := by have := h.un; omega
noncomputable section
variable {P : Program} {w : World} {K : PySem.W.Frag} {mg : Str → Option Value} {base : Heap} {c : Nat → Addr}

/-! ### is_whole -/
abbrev s_is_whole : Stmt := topS 12
theorem sc_is_whole : FnScope ["thing"] ["thing"] (defScope s_is_whole) := ⟨rfl, rfl, rfl, by decide +kernel, rfl, by decide +kernel, by decide +kernel⟩
def b_is_whole : S :=
    (fRet (fAnd (fBl oIsi (fCons (fVar 0) (fCons (fTy "int") fNil))) (fNot (fBl oIsi (fCons (fVar 0) (fCons (fTy "bool") fNil))))))
def f_is_whole : Fn := fnOf 1 none b_is_whole
theorem dv_is_whole {f : Addr} {cdv : Value} {A : Around} {outer : List Env} {s : Shared} {H : Hp} {E : XK} (hr : Room 0 (A.deeper (envOfC "is_whole" (defScope s_is_whole) s.heap.objs.size f cdv))) (z_bool : mg "bool" = none) (z_isinstance : mg "isinstance" = none) (z_int : mg "int" = none) :
    DSs (bodyCx P w K mg base ["thing"] "is_whole" s_is_whole f cdv A outer s H E) c (WE0 E) (defBody s_is_whole) b_is_whole :=
    (ds_one (ds_ret (de_and (de_isi (by rfl) z_isinstance (da_cons (de_var 0) (da_cons (de_ty "int" (by rfl) z_int) da_nil))) (de_one (de_not (de_isi (by rfl) z_isinstance (da_cons (de_var 0) (da_cons (de_ty "bool" (by rfl) z_bool) da_nil))))))))
theorem ok_is_whole {f : Addr} {fd : FuncData} (F : Fun K "is_whole" "is_whole" s_is_whole f fd) (hm : mg "is_whole" = some (.ref f)) (bi : Binds K fd ["thing"] []) (z_bool : mg "bool" = none) (z_isinstance : mg "isinstance" = none) (z_int : mg "int" = none) : FnAt P w K mg base c 1 "is_whole" 1 none f_is_whole :=
  ⟨f, fd, ["thing"], hm, F.kp, bi, rfl, fn_ok none F sc_is_whole fun cdv A outer s H E hr => dv_is_whole hr z_bool z_isinstance z_int⟩
/-! ### is_mark -/
abbrev s_is_mark : Stmt := topS 9
theorem sc_is_mark : FnScope ["thing", "sign"] ["thing"] (defScope s_is_mark) := ⟨rfl, rfl, rfl, by decide +kernel, rfl, by decide +kernel, by decide +kernel⟩
def b_is_mark : S :=
    (sq (fIf (fOrT (fNotT (fB (fBl oIsi (fCons (fVar 0) (fCons (fTy "str") fNil))))) (fNotT (fB (fChain oLe oLe (fC (.int 1)) (fBl oLen (fCons (fVar 0) fNil)) (fC (.int 6)))))) (fRet (fC (.bool false))) fNx)
    (sq (fFor (fItems (fVar 0)) (gNm 1) (fIf (fB (f2 (oIn true) (fVar 1) (fC (.str "abcdefghijklmnopqrstuvwxyz")))) (fRet (fC (.bool false))) fNx))
    (fRet (fC (.bool true)))))
def f_is_mark : Fn := fnOf 2 none b_is_mark
theorem dv_is_mark {f : Addr} {cdv : Value} {A : Around} {outer : List Env} {s : Shared} {H : Hp} {E : XK} (hr : Room 0 (A.deeper (envOfC "is_mark" (defScope s_is_mark) s.heap.objs.size f cdv))) (z_len : mg "len" = none) (z_str : mg "str" = none) (z_isinstance : mg "isinstance" = none) {t_MOST_LETTERS : Tok} (g_MOST_LETTERS : mg "MOST_LETTERS" = some (.int 6 t_MOST_LETTERS)) {t_LETTERS : Tok} (g_LETTERS : mg "LETTERS" = some (.str "abcdefghijklmnopqrstuvwxyz" t_LETTERS)) :
    DSs (bodyCx P w K mg base ["thing", "sign"] "is_mark" s_is_mark f cdv A outer s H E) c (WE0 E) (defBody s_is_mark) b_is_mark :=
    (ds_cons (ds_if (dt_w (dw_or (dt_not (dt_val (de_isi (by rfl) z_isinstance (da_cons (de_var 0) (da_cons (de_ty "str" (by rfl) z_str) da_nil))))) (dw_or1 (dt_not (dt_lele de_int (de_len (by rfl) z_len (da_cons (de_var 0) da_nil)) (de_globI (by rfl) g_MOST_LETTERS)))))) (ds_one (ds_ret de_bool)) ds_nil)
    (ds_cons (ds_for (passes_of rfl) rfl (di_any (de_var 0)) (dg_name 1 sc_is_mark.nd rfl (.inl rfl)) (ds_one (ds_if (dt_notIn (hu65 hr) (de_var 1) (de_globS (by rfl) g_LETTERS)) (ds_one (ds_ret de_bool)) ds_nil)))
    (ds_one (ds_ret de_bool))))
theorem ok_is_mark {f : Addr} {fd : FuncData} (F : Fun K "is_mark" "is_mark" s_is_mark f fd) (hm : mg "is_mark" = some (.ref f)) (bi : Binds K fd ["thing"] []) (z_len : mg "len" = none) (z_str : mg "str" = none) (z_isinstance : mg "isinstance" = none) {t_MOST_LETTERS : Tok} (g_MOST_LETTERS : mg "MOST_LETTERS" = some (.int 6 t_MOST_LETTERS)) {t_LETTERS : Tok} (g_LETTERS : mg "LETTERS" = some (.str "abcdefghijklmnopqrstuvwxyz" t_LETTERS)) : FnAt P w K mg base c 1 "is_mark" 1 none f_is_mark :=
  ⟨f, fd, ["thing"], hm, F.kp, bi, rfl, fn_ok none F sc_is_mark fun cdv A outer s H E hr => dv_is_mark hr z_len z_str z_isinstance g_MOST_LETTERS g_LETTERS⟩
/-! ### are_places -/
abbrev s_are_places : Stmt := topS 13
theorem sc_are_places : FnScope ["thing", "many", "place"] ["thing", "many"] (defScope s_are_places) := ⟨rfl, rfl, rfl, by decide +kernel, rfl, by decide +kernel, by decide +kernel⟩
def b_are_places : S :=
    (sq (fIf (fOrT (fNotT (fB (fBl oIsi (fCons (fVar 0) (fCons (fTy "list") fNil))))) (fB (f2 oEq (fBl oLen (fCons (fVar 0) fNil)) (fC (.int 0))))) (fRet (fC (.bool false))) fNx)
    (sq (fFor (fItems (fVar 0)) (gNm 2) (fIf (fOrT (fNotT (fB (fCall 1 none f_is_whole (fCons (fVar 2) fNil)))) (fNotT (fB (fChain oLe oLt (fC (.int 0)) (fVar 2) (fVar 1))))) (fRet (fC (.bool false))) fNx))
    (fRet (f2 oEq (f1 oLenI (fVar 0)) (fBl oLen (fCons (fVar 0) fNil))))))
def f_are_places : Fn := fnOf 3 none b_are_places
theorem dv_are_places {f : Addr} {cdv : Value} {A : Around} {outer : List Env} {s : Shared} {H : Hp} {E : XK} (hr : Room 1 (A.deeper (envOfC "are_places" (defScope s_are_places) s.heap.objs.size f cdv))) (z_len : mg "len" = none) (z_list : mg "list" = none) (z_isinstance : mg "isinstance" = none) (z_set : mg "set" = none) (F_is_whole : FnAt P w K mg base c 1 "is_whole" 1 none f_is_whole) :
    DSs (bodyCx P w K mg base ["thing", "many", "place"] "are_places" s_are_places f cdv A outer s H E) c (WE0 E) (defBody s_are_places) b_are_places :=
    (ds_cons (ds_if (dt_w (dw_or (dt_not (dt_val (de_isi (by rfl) z_isinstance (da_cons (de_var 0) (da_cons (de_ty "list" (by rfl) z_list) da_nil))))) (dw_or1 (dt_eq (hu64 hr) (de_len (by rfl) z_len (da_cons (de_var 0) da_nil)) de_int)))) (ds_one (ds_ret de_bool)) ds_nil)
    (ds_cons (ds_for (passes_of rfl) rfl (di_any (de_var 0)) (dg_name 2 sc_are_places.nd rfl (.inl rfl)) (ds_one (ds_if (dt_w (dw_or (dt_not (dt_val (de_call F_is_whole (fun _ h => nomatch h) (hr.mono (by decide)) (takes_of rfl rfl rfl rfl) (by rfl) (da_cons (de_var 2) da_nil)))) (dw_or1 (dt_not (dt_lelt de_int (de_var 2) (de_var 1)))))) (ds_one (ds_ret de_bool)) ds_nil)))
    (ds_one (ds_ret (de_eq (hu64 hr) (de_lenI rfl (by rfl) z_len (by rfl) z_set (de_var 0)) (de_len (by rfl) z_len (da_cons (de_var 0) da_nil)))))))
theorem ok_are_places {f : Addr} {fd : FuncData} (F : Fun K "are_places" "are_places" s_are_places f fd) (hm : mg "are_places" = some (.ref f)) (bi : Binds K fd ["thing", "many"] []) (z_len : mg "len" = none) (z_list : mg "list" = none) (z_isinstance : mg "isinstance" = none) (z_set : mg "set" = none) (F_is_whole : FnAt P w K mg base c 1 "is_whole" 1 none f_is_whole) : FnAt P w K mg base c 2 "are_places" 2 none f_are_places :=
  ⟨f, fd, ["thing", "many"], hm, F.kp, bi, rfl, fn_ok none F sc_are_places fun cdv A outer s H E hr => dv_are_places hr z_len z_list z_isinstance z_set F_is_whole⟩
/-! ### Machine.mark -/
abbrev s_Machine_mark : Stmt := inClass (topS 14) 1
theorem sc_Machine_mark : FnScope ["self", "place"] ["self", "place"] (defScope s_Machine_mark) := ⟨rfl, rfl, rfl, by decide +kernel, rfl, by decide +kernel, by decide +kernel⟩
def b_Machine_mark : S :=
    (fRet (f2 oIx (f1 (oFld 10 "marks") (fVar 0)) (fVar 1)))
def f_Machine_mark : Fn := fnOf 2 none b_Machine_mark
theorem dv_Machine_mark {f : Addr} {cdv : Value} {A : Around} {outer : List Env} {s : Shared} {H : Hp} {E : XK} (hr : Room 0 (A.deeper (envOfC "Machine.mark" (defScope s_Machine_mark) s.heap.objs.size f cdv))) (C_Machine : Cls K (c 10)) (N_marks : NoAttr K (c 10) "marks") :
    DSs (bodyCx P w K mg base ["self", "place"] "Machine.mark" s_Machine_mark f cdv A outer s H E) c (WE0 E) (defBody s_Machine_mark) b_Machine_mark :=
    (ds_one (ds_ret (de_ix (de_fld 10 C_Machine N_marks (de_var 0)) (de_var 1))))
theorem ok_Machine_mark {f : Addr} {fd : FuncData} (F : Fun K "mark" "Machine.mark" s_Machine_mark f fd) (cl : Cls K (c 10)) (hm : Meth K (c 10) "mark" f) (bi : Binds K fd ["self", "place"] []) (C_Machine : Cls K (c 10)) (N_marks : NoAttr K (c 10) "marks") : MethAt P w K mg base c 10 1 "mark" 2 none f_Machine_mark :=
  ⟨cl, f, fd, ["self", "place"], hm, bi, rfl, fn_ok none F sc_Machine_mark fun cdv A outer s H E hr => dv_Machine_mark hr C_Machine N_marks⟩
/-! ### Machine.leads -/
abbrev s_Machine_leads : Stmt := inClass (topS 14) 2
theorem sc_Machine_leads : FnScope ["self", "place"] ["self", "place"] (defScope s_Machine_leads) := ⟨rfl, rfl, rfl, by decide +kernel, rfl, by decide +kernel, by decide +kernel⟩
def b_Machine_leads : S :=
    (fRet (fBl oList (fCons (f2 oIx (f1 (oFld 10 "ways") (fVar 0)) (fVar 1)) fNil)))
def f_Machine_leads : Fn := fnOf 2 none b_Machine_leads
theorem dv_Machine_leads {f : Addr} {cdv : Value} {A : Around} {outer : List Env} {s : Shared} {H : Hp} {E : XK} (hr : Room 0 (A.deeper (envOfC "Machine.leads" (defScope s_Machine_leads) s.heap.objs.size f cdv))) (z_list : mg "list" = none) (C_Machine : Cls K (c 10)) (N_ways : NoAttr K (c 10) "ways") :
    DSs (bodyCx P w K mg base ["self", "place"] "Machine.leads" s_Machine_leads f cdv A outer s H E) c (WE0 E) (defBody s_Machine_leads) b_Machine_leads :=
    (ds_one (ds_ret (de_list (by rfl) z_list (da_cons (de_ix (de_fld 10 C_Machine N_ways (de_var 0)) (de_var 1)) da_nil))))
theorem ok_Machine_leads {f : Addr} {fd : FuncData} (F : Fun K "leads" "Machine.leads" s_Machine_leads f fd) (cl : Cls K (c 10)) (hm : Meth K (c 10) "leads" f) (bi : Binds K fd ["self", "place"] []) (z_list : mg "list" = none) (C_Machine : Cls K (c 10)) (N_ways : NoAttr K (c 10) "ways") : MethAt P w K mg base c 10 1 "leads" 2 none f_Machine_leads :=
  ⟨cl, f, fd, ["self", "place"], hm, bi, rfl, fn_ok none F sc_Machine_leads fun cdv A outer s H E hr => dv_Machine_leads hr z_list C_Machine N_ways⟩
/-! ### Machine.starts -/
abbrev s_Machine_starts : Stmt := inClass (topS 14) 3
theorem sc_Machine_starts : FnScope ["self"] ["self"] (defScope s_Machine_starts) := ⟨rfl, rfl, rfl, by decide +kernel, rfl, by decide +kernel, by decide +kernel⟩
def b_Machine_starts : S :=
    (fRet (fBl oList (fCons (f1 (oFld 10 "begins") (fVar 0)) fNil)))
def f_Machine_starts : Fn := fnOf 1 none b_Machine_starts
theorem dv_Machine_starts {f : Addr} {cdv : Value} {A : Around} {outer : List Env} {s : Shared} {H : Hp} {E : XK} (hr : Room 0 (A.deeper (envOfC "Machine.starts" (defScope s_Machine_starts) s.heap.objs.size f cdv))) (z_list : mg "list" = none) (C_Machine : Cls K (c 10)) (N_begins : NoAttr K (c 10) "begins") :
    DSs (bodyCx P w K mg base ["self"] "Machine.starts" s_Machine_starts f cdv A outer s H E) c (WE0 E) (defBody s_Machine_starts) b_Machine_starts :=
    (ds_one (ds_ret (de_list (by rfl) z_list (da_cons (de_fld 10 C_Machine N_begins (de_var 0)) da_nil))))
theorem ok_Machine_starts {f : Addr} {fd : FuncData} (F : Fun K "starts" "Machine.starts" s_Machine_starts f fd) (cl : Cls K (c 10)) (hm : Meth K (c 10) "starts" f) (bi : Binds K fd ["self"] []) (z_list : mg "list" = none) (C_Machine : Cls K (c 10)) (N_begins : NoAttr K (c 10) "begins") : MethAt P w K mg base c 10 1 "starts" 1 none f_Machine_starts :=
  ⟨cl, f, fd, ["self"], hm, bi, rfl, fn_ok none F sc_Machine_starts fun cdv A outer s H E hr => dv_Machine_starts hr z_list C_Machine N_begins⟩
/-! ### _law_cell_at -/
abbrev s_law_cell_at : Stmt := topS 16
theorem sc_law_cell_at : FnScope ["_law_script", "_law_k"] ["_law_script", "_law_k"] (defScope s_law_cell_at) := ⟨rfl, rfl, rfl, by decide +kernel, rfl, by decide +kernel, by decide +kernel⟩
def b_law_cell_at : S :=
    (sq (fIf (fB (f2 oLt (fVar 1) (fBl oLen (fCons (fVar 0) fNil)))) (fRet (f2 oIx (fVar 0) (fVar 1))) fNx)
    (fRet (fC (.int 0))))
def f_law_cell_at : Fn := fnOf 2 none b_law_cell_at
theorem dv_law_cell_at {f : Addr} {cdv : Value} {A : Around} {outer : List Env} {s : Shared} {H : Hp} {E : XK} (hr : Room 0 (A.deeper (envOfC "_law_cell_at" (defScope s_law_cell_at) s.heap.objs.size f cdv))) (z_len : mg "len" = none) :
    DSs (bodyCx P w K mg base ["_law_script", "_law_k"] "_law_cell_at" s_law_cell_at f cdv A outer s H E) c (WE0 E) (defBody s_law_cell_at) b_law_cell_at :=
    (ds_cons (ds_if (dt_lt (de_var 1) (de_len (by rfl) z_len (da_cons (de_var 0) da_nil))) (ds_one (ds_ret (de_ix (de_var 0) (de_var 1)))) ds_nil)
    (ds_one (ds_ret de_int)))
theorem ok_law_cell_at {f : Addr} {fd : FuncData} (F : Fun K "_law_cell_at" "_law_cell_at" s_law_cell_at f fd) (hm : mg "_law_cell_at" = some (.ref f)) (bi : Binds K fd ["_law_script", "_law_k"] []) (z_len : mg "len" = none) : FnAt P w K mg base c 1 "_law_cell_at" 2 none f_law_cell_at :=
  ⟨f, fd, ["_law_script", "_law_k"], hm, F.kp, bi, rfl, fn_ok none F sc_law_cell_at fun cdv A outer s H E hr => dv_law_cell_at hr z_len⟩
/-! ### _law_draw -/
abbrev s_law_draw : Stmt := topS 17
theorem sc_law_draw : FnScope ["_law_script", "_law_spot", "_law_k"] ["_law_script", "_law_spot"] (defScope s_law_draw) := ⟨rfl, rfl, rfl, by decide +kernel, rfl, by decide +kernel, by decide +kernel⟩
def b_law_draw : S :=
    (sq (fPut (f2 oAdd (f2 oIx (fVar 1) (fC (.int 0))) (fC (.int 1))) (fVar 1) (fC (.int 0)))
    (sq (fSet 2 (fSh (f2 oSub (f2 oIx (fVar 1) (fC (.int 0))) (fC (.int 1)))))
    (sq (fIf (fB (f2 oLt (fVar 2) (fBl oLen (fCons (fVar 0) fNil)))) (fRet (f2 oIx (fVar 0) (fVar 2))) fNx)
    (sq (fIf (fAndT (fB (f2 oGt (fBl oLen (fCons (fVar 0) fNil)) (fC (.int 4)))) (fB (f2 oLt (fVar 2) (fC (.int 50))))) (fRet (f2 oMod (f2 oMul (f2 oAdd (f2 oIx (fVar 0) (f2 oMod (fVar 2) (fBl oLen (fCons (fVar 0) fNil)))) (f2 oMul (fC (.int 7919)) (fVar 2))) (fC (.int 48271))) (fC (.int 1000003)))) fNx)
    (fRet (fC (.int 0)))))))
def f_law_draw : Fn := fnOf 3 (some 1) b_law_draw
theorem dv_law_draw {f : Addr} {cdv : Value} {A : Around} {outer : List Env} {s : Shared} {H : Hp} {E : XK} (hr : Room 0 (A.deeper (envOfC "_law_draw" (defScope s_law_draw) s.heap.objs.size f cdv))) (z_len : mg "len" = none) :
    DSs (bodyCx P w K mg base ["_law_script", "_law_spot", "_law_k"] "_law_draw" s_law_draw f cdv A outer s H E) c (WE0 E) (defBody s_law_draw) b_law_draw :=
    (ds_cons (ds_put (de_add (de_ix (de_var 1) de_int) de_int) (de_var 1) de_int)
    (ds_cons (ds_set 2 sc_law_draw.nd rfl (.inl rfl) (de_sh (de_sub (de_ix (de_var 1) de_int) de_int)))
    (ds_cons (ds_if (dt_lt (de_var 2) (de_len (by rfl) z_len (da_cons (de_var 0) da_nil))) (ds_one (ds_ret (de_ix (de_var 0) (de_var 2)))) ds_nil)
    (ds_cons (ds_if (dt_w (dw_and (dt_gt (de_len (by rfl) z_len (da_cons (de_var 0) da_nil)) de_int) (dw_and1 (dt_lt (de_var 2) de_int)))) (ds_one (ds_ret (de_mod (de_mul (de_add (de_ix (de_var 0) (de_mod (de_var 2) (de_len (by rfl) z_len (da_cons (de_var 0) da_nil)))) (de_mul de_int (de_var 2))) de_int) de_int))) ds_nil)
    (ds_one (ds_ret de_int))))))
theorem ok_law_draw {f : Addr} {fd : FuncData} (F : Fun K "_law_draw" "_law_draw" s_law_draw f fd) (hm : mg "_law_draw" = some (.ref f)) (bi : Binds K fd ["_law_script", "_law_spot"] []) (z_len : mg "len" = none) : FnAt P w K mg base c 1 "_law_draw" 2 (some 1) f_law_draw :=
  ⟨f, fd, ["_law_script", "_law_spot"], hm, F.kp, bi, rfl, fn_ok (some 1) F sc_law_draw fun cdv A outer s H E hr => dv_law_draw hr z_len⟩
/-! ### _law_names -/
abbrev s_law_names : Stmt := topS 18
theorem sc_law_names : FnScope ["_law_cell", "_law_letters", "_law_rest", "_law_size", "_law_at", "_law_found", "_law_k", "_law_letter", "_law_j"] ["_law_cell"] (defScope s_law_names) := ⟨rfl, rfl, rfl, by decide +kernel, rfl, by decide +kernel, by decide +kernel⟩
def b_law_names : S :=
    (sq (fSet 1 (fSh (fC (.str "abcdefghijklmnopqrstuvwxyz"))))
    (sq (fSet 2 (fSh (fM1 oJoin (fC (.str "")) (fComp (bnd (fCons (fC (.int 6)) fNil) rng1) (gNm 8) (ret true) (f2 oIx (fVar 1) (f2 oMod (f2 oAdd (f2 oDiv (fVar 0) (fC (.int 7))) (f2 oMul (fC (.int 5)) (fVar 8))) (fC (.int 26)))) [8]))))
    (sq (fIf (fB (f2 oEq (f2 oMod (fVar 0) (fC (.int 3))) (fC (.int 2)))) (sq (fSet 3 (fSh (f2 oAdd (fC (.int 1)) (f2 oMod (f2 oDiv (fVar 0) (fC (.int 3))) (fC (.int 4))))))
    (fRet (fComp (bnd (fCons (fC (.int 3)) fNil) rng1) (gNm 6) (ret true) (fSl (fVar 2) fNoP (fP (f2 oAdd (fVar 3) (fVar 6)))) [6]))) fNx)
    (sq (fSet 3 (fSh (f2 oMod (f2 oDiv (fVar 0) (fC (.int 3))) (fC (.int 6)))))
    (sq (fSet 4 (fSh (f2 oMod (f2 oDiv (fVar 0) (fC (.int 18))) (f2 oAdd (fVar 3) (fC (.int 1))))))
    (sq (fSet 5 (fLst fNil))
    (sq (fFor (bnd (fCons (fC (.int 3)) fNil) rng1) (gNm 6) (sq (fSet 7 (fSh (f2 oIx (fVar 1) (f2 oMod (f2 oAdd (f2 oDiv (fVar 0) (fC (.int 90))) (f2 oMul (fC (.int 7)) (fVar 6))) (fC (.int 26))))))
    (fDrop (fMet appE (fVar 5) (fCons (f2 oAdd (f2 oAdd (fSl (fVar 2) fNoP (fP (fVar 4))) (fVar 7)) (fSl (fVar 2) (fP (fVar 4)) (fP (fVar 3)))) fNil)))))
    (fRet (fVar 5)))))))))
def f_law_names : Fn := fnOf 9 none b_law_names
theorem dv_law_names {f : Addr} {cdv : Value} {A : Around} {outer : List Env} {s : Shared} {H : Hp} {E : XK} (hr : Room 0 (A.deeper (envOfC "_law_names" (defScope s_law_names) s.heap.objs.size f cdv))) (z_range : mg "range" = none) :
    DSs (bodyCx P w K mg base ["_law_cell", "_law_letters", "_law_rest", "_law_size", "_law_at", "_law_found", "_law_k", "_law_letter", "_law_j"] "_law_names" s_law_names f cdv A outer s H E) c (WE0 E) (defBody s_law_names) b_law_names :=
    (ds_cons (ds_set 1 sc_law_names.nd rfl (.inr rfl) (de_sh de_str))
    (ds_cons (ds_set 2 sc_law_names.nd rfl (.inr rfl) (de_sh (de_join de_str (de_comp (own := [("_law_j", 8)]) rfl sc_law_names.nd (di_range1 (by rfl) z_range (da_cons de_int da_nil)) (blkOk_by (by kernel_rfl)) (by decide) (fun _ _ _ _ _ => (dg_name 8 sc_law_names.nd rfl (by first | exact Or.inl rfl | exact Or.inr rfl))) (fun _ _ _ _ _ => dts_nil) (fun _ _ _ _ _ => (de_ix (de_var 1) (de_mod (de_add (de_div (de_var 0) de_int) (de_mul de_int (de_var 8))) de_int)))))))
    (ds_cons (ds_if (dt_eq (hu64 hr) (de_mod (de_var 0) de_int) de_int) (ds_cons (ds_set 3 sc_law_names.nd rfl (.inr rfl) (de_sh (de_add de_int (de_mod (de_div (de_var 0) de_int) de_int))))
    (ds_one (ds_ret (de_comp (own := [("_law_k", 6)]) rfl sc_law_names.nd (di_range1 (by rfl) z_range (da_cons de_int da_nil)) (blkOk_by (by kernel_rfl)) (by decide) (fun _ _ _ _ _ => (dg_name 6 sc_law_names.nd rfl (by first | exact Or.inl rfl | exact Or.inr rfl))) (fun _ _ _ _ _ => dts_nil) (fun _ _ _ _ _ => (de_slice (de_var 2) do_none (do_some (de_add (de_var 3) (de_var 6))))))))) ds_nil)
    (ds_cons (ds_set 3 sc_law_names.nd rfl (.inr rfl) (de_sh (de_mod (de_div (de_var 0) de_int) de_int)))
    (ds_cons (ds_set 4 sc_law_names.nd rfl (.inl rfl) (de_sh (de_mod (de_div (de_var 0) de_int) (de_add (de_var 3) de_int))))
    (ds_cons (ds_set 5 sc_law_names.nd rfl (.inl rfl) (de_lst da_nil))
    (ds_cons (ds_for (passes_of rfl) rfl (di_range1 (by rfl) z_range (da_cons de_int da_nil)) (dg_name 6 sc_law_names.nd rfl (.inl rfl)) (ds_cons (ds_set 7 sc_law_names.nd rfl (.inl rfl) (de_sh (de_ix (de_var 1) (de_mod (de_add (de_div (de_var 0) de_int) (de_mul de_int (de_var 6))) de_int))))
    (ds_one (ds_expr (de_append (de_var 5) (da_cons (de_add (de_add (de_slice (de_var 2) do_none (do_some (de_var 4))) (de_var 7)) (de_slice (de_var 2) (do_some (de_var 4)) (do_some (de_var 3)))) da_nil))))))
    (ds_one (ds_ret (de_var 5))))))))))
theorem ok_law_names {f : Addr} {fd : FuncData} (F : Fun K "_law_names" "_law_names" s_law_names f fd) (hm : mg "_law_names" = some (.ref f)) (bi : Binds K fd ["_law_cell"] []) (z_range : mg "range" = none) : FnAt P w K mg base c 1 "_law_names" 1 none f_law_names :=
  ⟨f, fd, ["_law_cell"], hm, F.kp, bi, rfl, fn_ok none F sc_law_names fun cdv A outer s H E hr => dv_law_names hr z_range⟩
/-! ### _law_some -/
abbrev s_law_some : Stmt := topS 20
theorem sc_law_some : FnScope ["_law_cell", "_law_many", "_law_first", "_law_rest", "_law_found", "_law_k"] ["_law_cell", "_law_many", "_law_first"] (defScope s_law_some) := ⟨rfl, rfl, rfl, by decide +kernel, rfl, by decide +kernel, by decide +kernel⟩
def b_law_some : S :=
    (sq (fSet 3 (fSh (f2 oMod (f2 oMul (fVar 0) (fC (.int 48271))) (fC (.int 1000003)))))
    (sq (fSet 4 (fLst (fCons (f2 oMod (fVar 2) (fVar 1)) fNil)))
    (sq (fFor (bnd (fCons (fC (.int 1)) (fCons (fVar 1) fNil)) rng2) (gNm 5) (sq (fIf (fB (f2 oEq (f2 oMod (fVar 3) (fC (.int 3))) (fC (.int 1)))) (fDrop (fMet appE (fVar 4) (fCons (f2 oMod (f2 oAdd (fVar 2) (fVar 5)) (fVar 1)) fNil))) fNx)
    (fSet 3 (fSh (f2 oDiv (fVar 3) (fC (.int 3)))))))
    (fRet (fVar 4)))))
def f_law_some : Fn := fnOf 6 none b_law_some
theorem dv_law_some {f : Addr} {cdv : Value} {A : Around} {outer : List Env} {s : Shared} {H : Hp} {E : XK} (hr : Room 0 (A.deeper (envOfC "_law_some" (defScope s_law_some) s.heap.objs.size f cdv))) (z_range : mg "range" = none) :
    DSs (bodyCx P w K mg base ["_law_cell", "_law_many", "_law_first", "_law_rest", "_law_found", "_law_k"] "_law_some" s_law_some f cdv A outer s H E) c (WE0 E) (defBody s_law_some) b_law_some :=
    (ds_cons (ds_set 3 sc_law_some.nd rfl (.inl rfl) (de_sh (de_mod (de_mul (de_var 0) de_int) de_int)))
    (ds_cons (ds_set 4 sc_law_some.nd rfl (.inl rfl) (de_lst (da_cons (de_mod (de_var 2) (de_var 1)) da_nil)))
    (ds_cons (ds_for (passes_of rfl) rfl (di_range2 (by rfl) z_range (da_cons de_int (da_cons (de_var 1) da_nil))) (dg_name 5 sc_law_some.nd rfl (.inl rfl)) (ds_cons (ds_if (dt_eq (hu64 hr) (de_mod (de_var 3) de_int) de_int) (ds_one (ds_expr (de_append (de_var 4) (da_cons (de_mod (de_add (de_var 2) (de_var 5)) (de_var 1)) da_nil)))) ds_nil)
    (ds_one (ds_set 3 sc_law_some.nd rfl (.inl rfl) (de_sh (de_div (de_var 3) de_int))))))
    (ds_one (ds_ret (de_var 4))))))
theorem ok_law_some {f : Addr} {fd : FuncData} (F : Fun K "_law_some" "_law_some" s_law_some f fd) (hm : mg "_law_some" = some (.ref f)) (bi : Binds K fd ["_law_cell", "_law_many", "_law_first"] []) (z_range : mg "range" = none) : FnAt P w K mg base c 1 "_law_some" 3 none f_law_some :=
  ⟨f, fd, ["_law_cell", "_law_many", "_law_first"], hm, F.kp, bi, rfl, fn_ok none F sc_law_some fun cdv A outer s H E hr => dv_law_some hr z_range⟩
/-! ### _law_machine -/
abbrev s_law_machine : Stmt := topS 21
theorem sc_law_machine : FnScope ["_law_script", "_law_spot", "_law_names_here", "_law_most", "_law_many", "_law_some_here", "_law_marks", "_law_ways", "_law_k", "_law_cell"] ["_law_script", "_law_spot", "_law_names_here", "_law_most"] (defScope s_law_machine) := ⟨rfl, rfl, rfl, by decide +kernel, rfl, by decide +kernel, by decide +kernel⟩
def b_law_machine : S :=
    (sq (fSet 4 (fSh (f2 oAdd (fC (.int 1)) (f2 oMod (fCall 2 (some 1) f_law_draw (fCons (fVar 0) (fCons (fVar 1) fNil))) (fVar 3)))))
    (sq (fSet 5 (fSh (f2 oAdd (fVar 2) (fLst (fCons (fC (.str "")) (fCons (f2 oIx (fVar 2) (fC (.int 0))) (fCons (f2 oIx (fVar 2) (fC (.int 1))) fNil)))))))
    (sq (fSet 6 (fLst fNil))
    (sq (fSet 7 (fLst fNil))
    (sq (fFor (bnd (fCons (fVar 4) fNil) rng1) (gNm 8) (sq (fSet 9 (fSh (fCall 2 (some 1) f_law_draw (fCons (fVar 0) (fCons (fVar 1) fNil)))))
    (sq (fDrop (fMet appE (fVar 6) (fCons (f2 oIx (fVar 5) (f2 oMod (fVar 9) (fC (.int 6)))) fNil)))
    (fDrop (fMet appE (fVar 7) (fCons (fCall 3 none f_law_some (fCons (fVar 9) (fCons (fVar 4) (fCons (f2 oDiv (fVar 9) (fC (.int 6))) fNil)))) fNil))))))
    (sq (fSet 9 (fSh (fCall 2 (some 1) f_law_draw (fCons (fVar 0) (fCons (fVar 1) fNil)))))
    (sq (fIf (fB (f2 oEq (f2 oMod (fVar 9) (fC (.int 4))) (fC (.int 3)))) (fRet (fTup (fCons (fGiv 6) (fCons (fGiv 7) (fCons (fCall 3 none f_law_some (fCons (fVar 9) (fCons (fVar 4) (fCons (f2 oDiv (fVar 9) (fC (.int 4))) fNil)))) fNil))))) fNx)
    (fRet (fTup (fCons (fGiv 6) (fCons (fGiv 7) (fCons (fLst (fCons (f2 oMod (f2 oDiv (fVar 9) (fC (.int 4))) (fVar 4)) fNil)) fNil))))))))))))
def f_law_machine : Fn := fnOf 10 (some 1) b_law_machine
theorem dv_law_machine {f : Addr} {cdv : Value} {A : Around} {outer : List Env} {s : Shared} {H : Hp} {E : XK} (hr : Room 1 (A.deeper (envOfC "_law_machine" (defScope s_law_machine) s.heap.objs.size f cdv))) (z_range : mg "range" = none) (F_law_draw : FnAt P w K mg base c 1 "_law_draw" 2 (some 1) f_law_draw) (F_law_some : FnAt P w K mg base c 1 "_law_some" 3 none f_law_some) :
    DSs (bodyCx P w K mg base ["_law_script", "_law_spot", "_law_names_here", "_law_most", "_law_many", "_law_some_here", "_law_marks", "_law_ways", "_law_k", "_law_cell"] "_law_machine" s_law_machine f cdv A outer s H E) c (WE0 E) (defBody s_law_machine) b_law_machine :=
    (ds_cons (ds_set 4 sc_law_machine.nd rfl (.inl rfl) (de_sh (de_add de_int (de_mod (de_call F_law_draw (fun _ h => by cases h; decide) (hr.mono (by decide)) (takes_of rfl rfl rfl rfl) (by rfl) (da_cons (de_var 0) (da_cons (de_var 1) da_nil))) (de_var 3)))))
    (ds_cons (ds_set 5 sc_law_machine.nd rfl (.inl rfl) (de_sh (de_add (de_var 2) (de_lst (da_cons de_str (da_cons (de_ix (de_var 2) de_int) (da_cons (de_ix (de_var 2) de_int) da_nil)))))))
    (ds_cons (ds_set 6 sc_law_machine.nd rfl (.inl rfl) (de_lst da_nil))
    (ds_cons (ds_set 7 sc_law_machine.nd rfl (.inl rfl) (de_lst da_nil))
    (ds_cons (ds_for (passes_of rfl) rfl (di_range1 (by rfl) z_range (da_cons (de_var 4) da_nil)) (dg_name 8 sc_law_machine.nd rfl (.inl rfl)) (ds_cons (ds_set 9 sc_law_machine.nd rfl (.inl rfl) (de_sh (de_call F_law_draw (fun _ h => by cases h; decide) (hr.mono (by decide)) (takes_of rfl rfl rfl rfl) (by rfl) (da_cons (de_var 0) (da_cons (de_var 1) da_nil)))))
    (ds_cons (ds_expr (de_append (de_var 6) (da_cons (de_ix (de_var 5) (de_mod (de_var 9) de_int)) da_nil)))
    (ds_one (ds_expr (de_append (de_var 7) (da_cons (de_call F_law_some (fun _ h => nomatch h) (hr.mono (by decide)) (takes_of rfl rfl rfl rfl) (by rfl) (da_cons (de_var 9) (da_cons (de_var 4) (da_cons (de_div (de_var 9) de_int) da_nil)))) da_nil)))))))
    (ds_cons (ds_set 9 sc_law_machine.nd rfl (.inl rfl) (de_sh (de_call F_law_draw (fun _ h => by cases h; decide) (hr.mono (by decide)) (takes_of rfl rfl rfl rfl) (by rfl) (da_cons (de_var 0) (da_cons (de_var 1) da_nil)))))
    (ds_cons (ds_if (dt_eq (hu64 hr) (de_mod (de_var 9) de_int) de_int) (ds_one (ds_ret (de_tup (da_cons (de_giv 6) (da_cons (de_giv 7) (da_cons (de_call F_law_some (fun _ h => nomatch h) (hr.mono (by decide)) (takes_of rfl rfl rfl rfl) (by rfl) (da_cons (de_var 9) (da_cons (de_var 4) (da_cons (de_div (de_var 9) de_int) da_nil)))) da_nil)))))) ds_nil)
    (ds_one (ds_ret (de_tup (da_cons (de_giv 6) (da_cons (de_giv 7) (da_cons (de_lst (da_cons (de_mod (de_div (de_var 9) de_int) (de_var 4)) da_nil)) da_nil)))))))))))))
theorem ok_law_machine {f : Addr} {fd : FuncData} (F : Fun K "_law_machine" "_law_machine" s_law_machine f fd) (hm : mg "_law_machine" = some (.ref f)) (bi : Binds K fd ["_law_script", "_law_spot", "_law_names_here", "_law_most"] []) (z_range : mg "range" = none) (F_law_draw : FnAt P w K mg base c 1 "_law_draw" 2 (some 1) f_law_draw) (F_law_some : FnAt P w K mg base c 1 "_law_some" 3 none f_law_some) : FnAt P w K mg base c 2 "_law_machine" 4 (some 1) f_law_machine :=
  ⟨f, fd, ["_law_script", "_law_spot", "_law_names_here", "_law_most"], hm, F.kp, bi, rfl, fn_ok (some 1) F sc_law_machine fun cdv A outer s H E hr => dv_law_machine hr z_range F_law_draw F_law_some⟩
/-! ### _law_wrong -/
abbrev s_law_wrong : Stmt := topS 22
theorem sc_law_wrong : FnScope ["_law_cell", "_law_marks", "_law_ways", "_law_begins", "_law_many", "_law_at", "_law_odd", "_law_bad", "_law_rows", "_law_signs", "_law_row", "_law_sign"] ["_law_cell", "_law_marks", "_law_ways", "_law_begins"] (defScope s_law_wrong) := ⟨rfl, rfl, rfl, by decide +kernel, rfl, by decide +kernel, by decide +kernel⟩
def b_law_wrong : S :=
    (sq (fSet 4 (fSh (fBl oLen (fCons (fVar 1) fNil))))
    (sq (fSet 5 (fSh (f2 oMod (f2 oDiv (fVar 0) (fC (.int 28))) (fVar 4))))
    (sq (fSet 6 (fSh (f2 oIx (fLst (fCons (f1 oNeg (fC (.int 1))) (fCons (fVar 4) (fCons (fC (.bool true)) (fCons (fC .none) (fCons (fC (.str "0")) (fCons (fLst (fCons (fC (.int 0)) fNil)) (fCons (f2 oPow (fC (.int 10)) (fC (.int 20))) fNil)))))))) (f2 oMod (f2 oDiv (fVar 0) (fC (.int 400))) (fC (.int 7))))))
    (sq (fSet 7 (fSh (fLst (fCons (fLst (fCons (fVar 1) (fCons (fVar 2) (fCons (fLst fNil) fNil)))) (fCons (fLst (fCons (fVar 1) (fCons (fVar 2) (fCons (fLst (fCons (fVar 6) fNil)) fNil)))) (fCons (fLst (fCons (fVar 1) (fCons (fVar 2) (fCons (f2 oAdd (fVar 3) (fSl (fVar 3) fNoP (fP (fC (.int 1))))) fNil)))) (fCons (fLst (fCons (fVar 1) (fCons (fVar 2) (fCons (fBl oTuple (fCons (fVar 3) fNil)) fNil)))) fNil)))))))
    (sq (fSet 7 (fSh (f2 oAdd (fVar 7) (fLst (fCons (fLst (fCons (fVar 1) (fCons (fVar 2) (fCons (fC .none) fNil)))) (fCons (fLst (fCons (fLst fNil) (fCons (fLst fNil) (fCons (fLst fNil) fNil)))) (fCons (fLst (fCons (fLst fNil) (fCons (fLst fNil) (fCons (fLst (fCons (fC (.int 0)) fNil)) fNil)))) (fCons (fLst (fCons (fVar 1) (fCons (fSl (fVar 2) fNoP (fP (f1 oNeg (fC (.int 1))))) (fCons (fVar 3) fNil)))) fNil))))))))
    (sq (fSet 7 (fSh (f2 oAdd (fVar 7) (fLst (fCons (fLst (fCons (fVar 1) (fCons (f2 oAdd (fVar 2) (fLst (fCons (fLst (fCons (fC (.int 0)) fNil)) fNil))) (fCons (fVar 3) fNil)))) fNil)))))
    (sq (fSet 8 (fSh (fLst (fCons (fLst fNil) (fCons (fLst (fCons (fVar 6) fNil)) (fCons (f2 oAdd (f2 oIx (fVar 2) (fVar 5)) (fLst (fCons (fVar 6) fNil))) (fCons (f2 oAdd (f2 oIx (fVar 2) (fVar 5)) (fSl (f2 oIx (fVar 2) (fVar 5)) fNoP (fP (fC (.int 1))))) (fCons (fBl oTuple (fCons (f2 oIx (fVar 2) (fVar 5)) fNil)) (fCons (fC .none) (fCons (fC (.int 0)) (fCons fDic (fCons (fC (.str "0")) fNil))))))))))))
    (sq (fSet 7 (fSh (f2 oAdd (fVar 7) (fComp (fItems (fVar 8)) (gNm 10) (ret true) (fLst (fCons (fVar 1) (fCons (f2 oAdd (f2 oAdd (fSl (fVar 2) fNoP (fP (fVar 5))) (fLst (fCons (fVar 10) fNil))) (fSl (fVar 2) (fP (f2 oAdd (fVar 5) (fC (.int 1)))) fNoP)) (fCons (fVar 3) fNil)))) [10]))))
    (sq (fSet 9 (fSh (fLst (fCons (fC (.str "A")) (fCons (fC (.str "abcdefg")) (fCons (fC (.int 5)) (fCons (fC .none) (fCons (fLst (fCons (fC (.str "a")) fNil)) (fCons (fC (.str "a b")) (fCons (fC (.bool true)) fNil))))))))))
    (sq (fSet 7 (fSh (f2 oAdd (fVar 7) (fComp (fItems (fVar 9)) (gNm 11) (ret true) (fLst (fCons (f2 oAdd (f2 oAdd (fSl (fVar 1) fNoP (fP (fVar 5))) (fLst (fCons (fVar 11) fNil))) (fSl (fVar 1) (fP (f2 oAdd (fVar 5) (fC (.int 1)))) fNoP)) (fCons (fVar 2) (fCons (fVar 3) fNil)))) [11]))))
    (sq (fSet 7 (fSh (f2 oAdd (fVar 7) (fLst (fCons (fLst (fCons (fBl oTuple (fCons (fVar 1) fNil)) (fCons (fVar 2) (fCons (fVar 3) fNil)))) (fCons (fLst (fCons (fVar 1) (fCons (fBl oTuple (fCons (fVar 2) fNil)) (fCons (fVar 3) fNil)))) fNil))))))
    (fRet (f2 oIx (f2 oAdd (fVar 7) (fLst (fCons (fLst (fCons (f2 oMul (fLst (fCons (fC (.str "")) fNil)) (fC (.int 13))) (fCons (f2 oMul (fLst (fCons (fLst (fCons (fC (.int 0)) fNil)) fNil)) (fC (.int 13))) (fCons (fLst (fCons (fC (.int 0)) fNil)) fNil)))) fNil))) (f2 oMod (fVar 0) (fC (.int 28))))))))))))))))
def f_law_wrong : Fn := fnOf 12 none b_law_wrong
theorem dv_law_wrong {f : Addr} {cdv : Value} {A : Around} {outer : List Env} {s : Shared} {H : Hp} {E : XK} (hr : Room 0 (A.deeper (envOfC "_law_wrong" (defScope s_law_wrong) s.heap.objs.size f cdv))) (z_len : mg "len" = none) (z_tuple : mg "tuple" = none) :
    DSs (bodyCx P w K mg base ["_law_cell", "_law_marks", "_law_ways", "_law_begins", "_law_many", "_law_at", "_law_odd", "_law_bad", "_law_rows", "_law_signs", "_law_row", "_law_sign"] "_law_wrong" s_law_wrong f cdv A outer s H E) c (WE0 E) (defBody s_law_wrong) b_law_wrong :=
    (ds_cons (ds_set 4 sc_law_wrong.nd rfl (.inl rfl) (de_sh (de_len (by rfl) z_len (da_cons (de_var 1) da_nil))))
    (ds_cons (ds_set 5 sc_law_wrong.nd rfl (.inr rfl) (de_sh (de_mod (de_div (de_var 0) de_int) (de_var 4))))
    (ds_cons (ds_set 6 sc_law_wrong.nd rfl (.inl rfl) (de_sh (de_ix (de_lst (da_cons (de_neg de_int) (da_cons (de_var 4) (da_cons de_bool (da_cons de_none (da_cons de_str (da_cons (de_lst (da_cons de_int da_nil)) (da_cons (de_pow de_int de_int) da_nil)))))))) (de_mod (de_div (de_var 0) de_int) de_int))))
    (ds_cons (ds_set 7 sc_law_wrong.nd rfl (.inl rfl) (de_sh (de_lst (da_cons (de_lst (da_cons (de_var 1) (da_cons (de_var 2) (da_cons (de_lst da_nil) da_nil)))) (da_cons (de_lst (da_cons (de_var 1) (da_cons (de_var 2) (da_cons (de_lst (da_cons (de_var 6) da_nil)) da_nil)))) (da_cons (de_lst (da_cons (de_var 1) (da_cons (de_var 2) (da_cons (de_add (de_var 3) (de_slice (de_var 3) do_none (do_some de_int))) da_nil)))) (da_cons (de_lst (da_cons (de_var 1) (da_cons (de_var 2) (da_cons (de_tupleC (by rfl) z_tuple (da_cons (de_var 3) da_nil)) da_nil)))) da_nil)))))))
    (ds_cons (ds_set 7 sc_law_wrong.nd rfl (.inl rfl) (de_sh (de_add (de_var 7) (de_lst (da_cons (de_lst (da_cons (de_var 1) (da_cons (de_var 2) (da_cons de_none da_nil)))) (da_cons (de_lst (da_cons (de_lst da_nil) (da_cons (de_lst da_nil) (da_cons (de_lst da_nil) da_nil)))) (da_cons (de_lst (da_cons (de_lst da_nil) (da_cons (de_lst da_nil) (da_cons (de_lst (da_cons de_int da_nil)) da_nil)))) (da_cons (de_lst (da_cons (de_var 1) (da_cons (de_slice (de_var 2) do_none (do_some (de_neg de_int))) (da_cons (de_var 3) da_nil)))) da_nil))))))))
    (ds_cons (ds_set 7 sc_law_wrong.nd rfl (.inl rfl) (de_sh (de_add (de_var 7) (de_lst (da_cons (de_lst (da_cons (de_var 1) (da_cons (de_add (de_var 2) (de_lst (da_cons (de_lst (da_cons de_int da_nil)) da_nil))) (da_cons (de_var 3) da_nil)))) da_nil)))))
    (ds_cons (ds_set 8 sc_law_wrong.nd rfl (.inl rfl) (de_sh (de_lst (da_cons (de_lst da_nil) (da_cons (de_lst (da_cons (de_var 6) da_nil)) (da_cons (de_add (de_ix (de_var 2) (de_var 5)) (de_lst (da_cons (de_var 6) da_nil))) (da_cons (de_add (de_ix (de_var 2) (de_var 5)) (de_slice (de_ix (de_var 2) (de_var 5)) do_none (do_some de_int))) (da_cons (de_tupleC (by rfl) z_tuple (da_cons (de_ix (de_var 2) (de_var 5)) da_nil)) (da_cons de_none (da_cons de_int (da_cons de_dic0 (da_cons de_str da_nil))))))))))))
    (ds_cons (ds_set 7 sc_law_wrong.nd rfl (.inl rfl) (de_sh (de_add (de_var 7) (de_comp (own := [("_law_row", 10)]) rfl sc_law_wrong.nd (di_any (de_var 8)) (blkOk_by (by kernel_rfl)) (by decide) (fun _ _ _ _ _ => (dg_name 10 sc_law_wrong.nd rfl (by first | exact Or.inl rfl | exact Or.inr rfl))) (fun _ _ _ _ _ => dts_nil) (fun _ _ _ _ _ => (de_lst (da_cons (de_var 1) (da_cons (de_add (de_add (de_slice (de_var 2) do_none (do_some (de_var 5))) (de_lst (da_cons (de_var 10) da_nil))) (de_slice (de_var 2) (do_some (de_add (de_var 5) de_int)) do_none)) (da_cons (de_var 3) da_nil)))))))))
    (ds_cons (ds_set 9 sc_law_wrong.nd rfl (.inl rfl) (de_sh (de_lst (da_cons de_str (da_cons de_str (da_cons de_int (da_cons de_none (da_cons (de_lst (da_cons de_str da_nil)) (da_cons de_str (da_cons de_bool da_nil))))))))))
    (ds_cons (ds_set 7 sc_law_wrong.nd rfl (.inl rfl) (de_sh (de_add (de_var 7) (de_comp (own := [("_law_sign", 11)]) rfl sc_law_wrong.nd (di_any (de_var 9)) (blkOk_by (by kernel_rfl)) (by decide) (fun _ _ _ _ _ => (dg_name 11 sc_law_wrong.nd rfl (by first | exact Or.inl rfl | exact Or.inr rfl))) (fun _ _ _ _ _ => dts_nil) (fun _ _ _ _ _ => (de_lst (da_cons (de_add (de_add (de_slice (de_var 1) do_none (do_some (de_var 5))) (de_lst (da_cons (de_var 11) da_nil))) (de_slice (de_var 1) (do_some (de_add (de_var 5) de_int)) do_none)) (da_cons (de_var 2) (da_cons (de_var 3) da_nil)))))))))
    (ds_cons (ds_set 7 sc_law_wrong.nd rfl (.inl rfl) (de_sh (de_add (de_var 7) (de_lst (da_cons (de_lst (da_cons (de_tupleC (by rfl) z_tuple (da_cons (de_var 1) da_nil)) (da_cons (de_var 2) (da_cons (de_var 3) da_nil)))) (da_cons (de_lst (da_cons (de_var 1) (da_cons (de_tupleC (by rfl) z_tuple (da_cons (de_var 2) da_nil)) (da_cons (de_var 3) da_nil)))) da_nil))))))
    (ds_one (ds_ret (de_ix (de_add (de_var 7) (de_lst (da_cons (de_lst (da_cons (de_mul (de_lst (da_cons de_str da_nil)) de_int) (da_cons (de_mul (de_lst (da_cons (de_lst (da_cons de_int da_nil)) da_nil)) de_int) (da_cons (de_lst (da_cons de_int da_nil)) da_nil)))) da_nil))) (de_mod (de_var 0) de_int)))))))))))))))
theorem ok_law_wrong {f : Addr} {fd : FuncData} (F : Fun K "_law_wrong" "_law_wrong" s_law_wrong f fd) (hm : mg "_law_wrong" = some (.ref f)) (bi : Binds K fd ["_law_cell", "_law_marks", "_law_ways", "_law_begins"] []) (z_len : mg "len" = none) (z_tuple : mg "tuple" = none) : FnAt P w K mg base c 1 "_law_wrong" 4 none f_law_wrong :=
  ⟨f, fd, ["_law_cell", "_law_marks", "_law_ways", "_law_begins"], hm, F.kp, bi, rfl, fn_ok none F sc_law_wrong fun cdv A outer s H E hr => dv_law_wrong hr z_len z_tuple⟩
/-! ### _law_right -/
abbrev s_law_right : Stmt := topS 24
theorem sc_law_right : FnScope ["_law_machine_here", "_law_marks", "_law_ways", "_law_begins", "_law_told", "_law_k", "_law_found", "_law_one"] ["_law_machine_here", "_law_marks", "_law_ways", "_law_begins"] (defScope s_law_right) := ⟨rfl, rfl, rfl, by decide +kernel, rfl, by decide +kernel, by decide +kernel⟩
def b_law_right : S :=
    (sq (fSet 4 (fSh (fMeth 10 "starts" 1 none f_Machine_starts (fVar 0) fNil)))
    (sq (fIf (fOrT (fNotT (fB (fBl oIsi (fCons (fVar 4) (fCons (fTy "list") fNil))))) (fOrT (fB (f2 oNe (fVar 4) (fVar 3))) (fB (f2 (oIn false) (fC (.bool true)) (fComp (fItems (fVar 4)) (gNm 7) (ret true) (fBl oIsi (fCons (fVar 7) (fCons (fTy "bool") fNil))) [7]))))) (fRet (fC (.bool false))) fNx)
    (sq (fFor (bnd (fCons (fBl oLen (fCons (fVar 1) fNil)) fNil) rng1) (gNm 5) (sq (fSet 6 (fSh (fMeth 10 "leads" 2 none f_Machine_leads (fVar 0) (fCons (fVar 5) fNil))))
    (sq (fIf (fOrT (fNotT (fB (fBl oIsi (fCons (fVar 6) (fCons (fTy "list") fNil))))) (fOrT (fB (f2 oNe (fVar 6) (f2 oIx (fVar 2) (fVar 5)))) (fNotT (fB (fBl oIsi (fCons (fMeth 10 "mark" 2 none f_Machine_mark (fVar 0) (fCons (fVar 5) fNil)) (fCons (fTy "str") fNil))))))) (fRet (fC (.bool false))) fNx)
    (fIf (fOrT (fB (f2 oNe (fMeth 10 "mark" 2 none f_Machine_mark (fVar 0) (fCons (fVar 5) fNil)) (f2 oIx (fVar 1) (fVar 5)))) (fB (f2 (oIn false) (fC (.bool true)) (fComp (fItems (fVar 6)) (gNm 7) (ret true) (fBl oIsi (fCons (fVar 7) (fCons (fTy "bool") fNil))) [7])))) (fRet (fC (.bool false))) fNx))))
    (fRet (fC (.bool true))))))
def f_law_right : Fn := fnOf 8 none b_law_right
theorem dv_law_right {f : Addr} {cdv : Value} {A : Around} {outer : List Env} {s : Shared} {H : Hp} {E : XK} (hr : Room 1 (A.deeper (envOfC "_law_right" (defScope s_law_right) s.heap.objs.size f cdv))) (z_bool : mg "bool" = none) (z_isinstance : mg "isinstance" = none) (z_list : mg "list" = none) (z_len : mg "len" = none) (z_range : mg "range" = none) (z_str : mg "str" = none) (M_Machine_starts : MethAt P w K mg base c 10 1 "starts" 1 none f_Machine_starts) (M_Machine_leads : MethAt P w K mg base c 10 1 "leads" 2 none f_Machine_leads) (M_Machine_mark : MethAt P w K mg base c 10 1 "mark" 2 none f_Machine_mark) :
    DSs (bodyCx P w K mg base ["_law_machine_here", "_law_marks", "_law_ways", "_law_begins", "_law_told", "_law_k", "_law_found", "_law_one"] "_law_right" s_law_right f cdv A outer s H E) c (WE0 E) (defBody s_law_right) b_law_right :=
    (ds_cons (ds_set 4 sc_law_right.nd rfl (.inl rfl) (de_sh (de_meth0 M_Machine_starts (fun _ h => nomatch h) (hr.mono (by decide)) (takes_of rfl rfl rfl rfl) (de_var 0) _)))
    (ds_cons (ds_if (dt_w (dw_or (dt_not (dt_val (de_isi (by rfl) z_isinstance (da_cons (de_var 4) (da_cons (de_ty "list" (by rfl) z_list) da_nil))))) (dw_or (dt_ne (hu64 hr) (de_var 4) (de_var 3)) (dw_or1 (dt_in (hu65 hr) de_bool (de_comp (own := [("_law_one", 7)]) rfl sc_law_right.nd (di_any (de_var 4)) (blkOk_by (by kernel_rfl)) (by decide) (fun _ _ _ _ _ => (dg_name 7 sc_law_right.nd rfl (by first | exact Or.inl rfl | exact Or.inr rfl))) (fun _ _ _ _ _ => dts_nil) (fun _ _ _ _ _ => (de_isi (by rfl) z_isinstance (da_cons (de_var 7) (da_cons (de_ty "bool" (by rfl) z_bool) da_nil)))))))))) (ds_one (ds_ret de_bool)) ds_nil)
    (ds_cons (ds_for (passes_of rfl) rfl (di_range1 (by rfl) z_range (da_cons (de_len (by rfl) z_len (da_cons (de_var 1) da_nil)) da_nil)) (dg_name 5 sc_law_right.nd rfl (.inl rfl)) (ds_cons (ds_set 6 sc_law_right.nd rfl (.inl rfl) (de_sh (de_meth M_Machine_leads (fun _ h => nomatch h) (hr.mono (by decide)) (takes_of rfl rfl rfl rfl) (de_var 0) (da_cons (de_var 5) da_nil) _)))
    (ds_cons (ds_if (dt_w (dw_or (dt_not (dt_val (de_isi (by rfl) z_isinstance (da_cons (de_var 6) (da_cons (de_ty "list" (by rfl) z_list) da_nil))))) (dw_or (dt_ne (hu64 hr) (de_var 6) (de_ix (de_var 2) (de_var 5))) (dw_or1 (dt_not (dt_val (de_isi (by rfl) z_isinstance (da_cons (de_meth M_Machine_mark (fun _ h => nomatch h) (hr.mono (by decide)) (takes_of rfl rfl rfl rfl) (de_var 0) (da_cons (de_var 5) da_nil) _) (da_cons (de_ty "str" (by rfl) z_str) da_nil))))))))) (ds_one (ds_ret de_bool)) ds_nil)
    (ds_one (ds_if (dt_w (dw_or (dt_ne (hu64 hr) (de_meth M_Machine_mark (fun _ h => nomatch h) (hr.mono (by decide)) (takes_of rfl rfl rfl rfl) (de_var 0) (da_cons (de_var 5) da_nil) _) (de_ix (de_var 1) (de_var 5))) (dw_or1 (dt_in (hu65 hr) de_bool (de_comp (own := [("_law_one", 7)]) rfl sc_law_right.nd (di_any (de_var 6)) (blkOk_by (by kernel_rfl)) (by decide) (fun _ _ _ _ _ => (dg_name 7 sc_law_right.nd rfl (by first | exact Or.inl rfl | exact Or.inr rfl))) (fun _ _ _ _ _ => dts_nil) (fun _ _ _ _ _ => (de_isi (by rfl) z_isinstance (da_cons (de_var 7) (da_cons (de_ty "bool" (by rfl) z_bool) da_nil))))))))) (ds_one (ds_ret de_bool)) ds_nil)))))
    (ds_one (ds_ret de_bool)))))
theorem ok_law_right {f : Addr} {fd : FuncData} (F : Fun K "_law_right" "_law_right" s_law_right f fd) (hm : mg "_law_right" = some (.ref f)) (bi : Binds K fd ["_law_machine_here", "_law_marks", "_law_ways", "_law_begins"] []) (z_bool : mg "bool" = none) (z_isinstance : mg "isinstance" = none) (z_list : mg "list" = none) (z_len : mg "len" = none) (z_range : mg "range" = none) (z_str : mg "str" = none) (M_Machine_starts : MethAt P w K mg base c 10 1 "starts" 1 none f_Machine_starts) (M_Machine_leads : MethAt P w K mg base c 10 1 "leads" 2 none f_Machine_leads) (M_Machine_mark : MethAt P w K mg base c 10 1 "mark" 2 none f_Machine_mark) : FnAt P w K mg base c 2 "_law_right" 4 none f_law_right :=
  ⟨f, fd, ["_law_machine_here", "_law_marks", "_law_ways", "_law_begins"], hm, F.kp, bi, rfl, fn_ok none F sc_law_right fun cdv A outer s H E hr => dv_law_right hr z_bool z_isinstance z_list z_len z_range z_str M_Machine_starts M_Machine_leads M_Machine_mark⟩

end
end LawX

set_option Elab.async false
set_option linter.all false
set_option autoImplicit false
set_option maxRecDepth 100000
namespace LawX
open PySem L2 VL PySem.Spec PyProof.Rows
noncomputable section
variable {P : Program} {w : World} {K : PySem.W.Frag} {mg : Str → Option Value} {base : Heap} {c : Nat → Addr}
abbrev s_Machine_init : Stmt := inClass (topS 14) 0
theorem sc_Machine_init : FnScope ["self", "marks", "ways", "begins", "mark", "row"] ["self", "marks", "ways", "begins"] (defScope s_Machine_init) := ⟨rfl, rfl, rfl, by decide +kernel, rfl, by decide +kernel, by decide +kernel⟩
def b_Machine_init : S := (sq (fIf (fOrT (fNotT (fB (fBl oIsi (fCons (fVar 1) (fCons (fTy "list") fNil))))) (fNotT (fB (fChain oLe oLe (fC (.int 1)) (fBl oLen (fCons (fVar 1) fNil)) (fC (.int 12)))))) (fRaise 0) fNx)
 (sq (fFor (fItems (fVar 1)) (gNm 4) (fIf (fAndT (fB (f2 oNe (fVar 4) (fC (.str "")))) (fNotT (fB (fCall 1 none f_is_mark (fCons (fVar 4) fNil))))) (fRaise 0) fNx))
 (sq (fIf (fOrT (fNotT (fB (fBl oIsi (fCons (fVar 2) (fCons (fTy "list") fNil))))) (fB (f2 oNe (fBl oLen (fCons (fVar 2) fNil)) (fBl oLen (fCons (fVar 1) fNil))))) (fRaise 0) fNx)
 (sq (fFor (fItems (fVar 2)) (gNm 5) (fIf (fNotT (fB (fCall 2 none f_are_places (fCons (fVar 5) (fCons (fBl oLen (fCons (fVar 1) fNil)) fNil))))) (fRaise 0) fNx))
 (fIf (fNotT (fB (fCall 2 none f_are_places (fCons (fVar 3) (fCons (fBl oLen (fCons (fVar 1) fNil)) fNil))))) (fRaise 0) fNx)))))
def fLi (i : Nat) : M Ent := fBl oList (fCons (fVar i) fNil)
def tWays (K : PySem.W.Frag) (c : Nat → Addr) (W : WX) : TE := tLc (tDI K c W (fItems (fVar 2))) (tDG K c [5] (gNm 5)) (tDT K c W0 (VL.ret true)) (tD K c W0 (fLi 5)) [5]
def tInit (K : PySem.W.Frag) (c : Nat → Addr) (E : XK) : TS := tSN K c (WE0 E) b_Machine_init (tSeq (sFld K (tVar 0) (tD K c (WE0 E) (fLi 1)) "marks") (tSeq (sFld K (tVar 0) (tWays K c (WE0 E)) "ways") (sFld K (tVar 0) (tD K c (WE0 E) (fLi 3)) "begins")))
theorem dv_Machine_init {f : Addr} {cdv : Value} {A : Around} {outer : List Env} {s : Shared} {H : Hp} {E : XK} (hr : Room 3 (A.deeper (envOfC "Machine.__init__" (defScope s_Machine_init) s.heap.objs.size f cdv))) (z_len : mg "len" = none) (z_list : mg "list" = none) (z_isinstance : mg "isinstance" = none) {t_MOST_PLACES : Tok} (g_MOST_PLACES : mg "MOST_PLACES" = some (.int 12 t_MOST_PLACES)) (E_BadMachine : ExcAt K mg "BadMachine" (c 0)) (F_is_mark : FnAt P w K mg base c 1 "is_mark" 1 none f_is_mark) (F_are_places : FnAt P w K mg base c 2 "are_places" 2 none f_are_places) :
    PSs (bodyCx P w K mg base ["self", "marks", "ways", "begins", "mark", "row"] "Machine.__init__" s_Machine_init f cdv A outer s H E) (defBody s_Machine_init) (tInit K c E) :=
  pss_pre (ds_if (dt_w (dw_or (dt_not (dt_val (de_isi (by rfl) z_isinstance (da_cons (de_var 1) (da_cons (de_ty "list" (by rfl) z_list) da_nil))))) (dw_or1 (dt_not (dt_lele de_int (de_len (by rfl) z_len (da_cons (de_var 1) da_nil)) (de_globI (by rfl) g_MOST_PLACES)))))) (ds_one (ds_raise 0 rfl (takes_of rfl rfl rfl rfl) (pmk_own PySem.F.excBase_ValueError E_BadMachine.x E_BadMachine.g E_BadMachine.k (raises_own E_BadMachine.b E_BadMachine.t) (by exact rfl)))) ds_nil)
   (pss_pre (ds_for (passes_of rfl) rfl (di_any (de_var 1)) (dg_name 4 sc_Machine_init.nd rfl (.inl rfl)) (ds_one (ds_if (dt_w (dw_and (dt_ne (hu64 hr) (de_var 4) de_str) (dw_and1 (dt_not (dt_val (de_call F_is_mark (fun _ h => nomatch h) (hr.mono (by decide)) (takes_of rfl rfl rfl rfl) (by rfl) (da_cons (de_var 4) da_nil))))))) (ds_one (ds_raise 0 rfl (takes_of rfl rfl rfl rfl) (pmk_own PySem.F.excBase_ValueError E_BadMachine.x E_BadMachine.g E_BadMachine.k (raises_own E_BadMachine.b E_BadMachine.t) (by exact rfl)))) ds_nil)))
   (pss_pre (ds_if (dt_w (dw_or (dt_not (dt_val (de_isi (by rfl) z_isinstance (da_cons (de_var 2) (da_cons (de_ty "list" (by rfl) z_list) da_nil))))) (dw_or1 (dt_ne (hu64 hr) (de_len (by rfl) z_len (da_cons (de_var 2) da_nil)) (de_len (by rfl) z_len (da_cons (de_var 1) da_nil)))))) (ds_one (ds_raise 0 rfl (takes_of rfl rfl rfl rfl) (pmk_own PySem.F.excBase_ValueError E_BadMachine.x E_BadMachine.g E_BadMachine.k (raises_own E_BadMachine.b E_BadMachine.t) (by exact rfl)))) ds_nil)
   (pss_pre (ds_for (passes_of rfl) rfl (di_any (de_var 2)) (dg_name 5 sc_Machine_init.nd rfl (.inl rfl)) (ds_one (ds_if (dt_not (dt_val (de_call F_are_places (fun _ h => nomatch h) (hr.mono (by decide)) (takes_of rfl rfl rfl rfl) (by rfl) (da_cons (de_var 5) (da_cons (de_len (by rfl) z_len (da_cons (de_var 1) da_nil)) da_nil))))) (ds_one (ds_raise 0 rfl (takes_of rfl rfl rfl rfl) (pmk_own PySem.F.excBase_ValueError E_BadMachine.x E_BadMachine.g E_BadMachine.k (raises_own E_BadMachine.b E_BadMachine.t) (by exact rfl)))) ds_nil)))
   (pss_pre1 (ds_if (dt_not (dt_val (de_call F_are_places (fun _ h => nomatch h) (hr.mono (by decide)) (takes_of rfl rfl rfl rfl) (by rfl) (da_cons (de_var 3) (da_cons (de_len (by rfl) z_len (da_cons (de_var 1) da_nil)) da_nil))))) (ds_one (ds_raise 0 rfl (takes_of rfl rfl rfl rfl) (pmk_own PySem.F.excBase_ValueError E_BadMachine.x E_BadMachine.g E_BadMachine.k (raises_own E_BadMachine.b E_BadMachine.t) (by exact rfl)))) ds_nil)
   (pss_hand (ps_fld (pv 0) (de_list (by rfl) z_list (da_cons (de_var 1) da_nil)) rfl) (pss_hand (ps_fld (pv 0) (pe_compR (own := [("row", 5)]) rfl sc_Machine_init.nd (di_any (de_var 2)) (blkOk_by (by kernel_rfl)) (by decide) (fun _ _ _ _ _ => (dg_name 5 sc_Machine_init.nd rfl (by first | exact Or.inl rfl | exact Or.inr rfl))) (fun _ _ _ _ _ => dts_nil) (fun _ _ _ _ _ => (de_list (by rfl) z_list (da_cons (de_var 5) da_nil)))) rfl) (pss_one (ps_fld (pv 0) (de_list (by rfl) z_list (da_cons (de_var 3) da_nil)) rfl))))))))
/-- the environment of the checks -/
abbrev mE0 (u : V) (ds : List D) : DEnv := some (.sh (.val u)) :: (argE none ds ++ List.replicate 2 none)
structure MkOk (ds : List D) (ms : List PyData) (rows : List (List PyData)) (bs : List PyData) : Prop where
  eq : ds = [.py (.list ms), .py (.list (rows.map .list)), .py (.list bs)]
  fm : ms.all flatD = true
  fb : bs.all flatD = true
  fr : ∀ r ∈ rows, r.all flatD = true
  lm : ms.length ≤ 100
  lr : rows.length ≤ 100
  lb : bs.length ≤ 100
  lw : ∀ r ∈ rows, r.length ≤ 100
  run : ∀ u, ∃ e4 e5, b_Machine_init (mE0 u ds) = some (.ok .nx [some (.sh (.val u)), some (py (.list ms)), some (py (.list (rows.map .list))), some (py (.list bs)), e4, e5]) ∧ NoOw [e4, e5]
def mIns (ms : List PyData) (rows : List (List PyData)) (bs : List PyData) : D := .ins 10 [("marks", .py (.list ms)), ("ways", .py (.list (rows.map .list))), ("begins", .py (.list bs))]
open Classical in
def f_Machine : Fn := fun ds => if h : ∃ k, ∀ u, ∃ ρ, b_Machine_init (mE0 u ds) = some (.exc k ρ) then some (.exc h.choose .none) else if h : ∃ ms rows bs, MkOk ds ms rows bs then some (.ok (.sh (mIns h.choose h.choose_spec.choose h.choose_spec.choose_spec.choose)) .none) else none
theorem f_Machine_exc {ds : List D} {k : Nat} (h : ∀ u, ∃ ρ, b_Machine_init (mE0 u ds) = some (.exc k ρ)) : f_Machine ds = some (.exc k .none) := by
  unfold f_Machine
  have hx : ∃ k, ∀ u, ∃ ρ, b_Machine_init (mE0 u ds) = some (.exc k ρ) := ⟨k, h⟩
  rw [dif_pos hx]
  obtain ⟨ρ, e⟩ := h .non
  obtain ⟨ρ', e'⟩ := hx.choose_spec .non
  rw [e] at e'
  cases e'
  rfl
theorem map_list_inj : ∀ {a b : List (List PyData)}, a.map PyData.list = b.map PyData.list → a = b
  | [], [], _ => rfl
  | x :: a, y :: b, h => by
    rw [List.map_cons, List.map_cons, List.cons.injEq, PyData.list.injEq] at h
    rw [h.1, map_list_inj h.2]
  | [], _ :: _, h => by cases h
  | _ :: _, [], h => by cases h
theorem mIns_congr {a a' : List PyData} {b b' : List (List PyData)} {e e' : List PyData} (h1 : a = a') (h2 : b = b') (h3 : e = e') : mIns a b e = mIns a' b' e' := by rw [h1, h2, h3]
theorem f_Machine_ok {ds : List D} {ms : List PyData} {rows : List (List PyData)} {bs : List PyData} (h : MkOk ds ms rows bs) : f_Machine ds = some (.ok (.sh (mIns ms rows bs)) .none) := by
  unfold f_Machine
  rw [dif_neg fun ⟨k, hk⟩ => by
    obtain ⟨ρ, e⟩ := hk .non
    obtain ⟨e4, e5, e', _⟩ := h.run .non
    rw [e] at e'
    cases e']
  have hx : ∃ ms rows bs, MkOk ds ms rows bs := ⟨ms, rows, bs, h⟩
  rw [dif_pos hx]
  have h2 := h.eq.symm.trans hx.choose_spec.choose_spec.choose_spec.eq
  simp only [List.cons.injEq, D.py.injEq, PyData.list.injEq, and_true] at h2
  obtain ⟨a1, a2, a3⟩ := h2
  have a2 := map_list_inj a2
  exact congrArg (fun z => some (FR.ok (Ent.sh z) PyData.none)) (mIns_congr a1.symm a2.symm a3.symm)
theorem sh_Machine : ShFn f_Machine := fun ds r o h => by
  unfold f_Machine at h
  split at h
  · cases h
  · split at h
    · cases h
      exact ⟨_, rfl⟩
    · cases h
theorem hv_flat {W : WX} {G H0 H : Hp} {σ : L2.St} {ρ : DEnv} {f : M Ent} {ms : List PyData} {b : Bool} {x : Addr} {o : HO} (env : EnvOk K c G H σ ρ) (no : NoOw ρ) (hf : f ρ = some (.ok (.own (.list ms) b) ρ)) (fl : ms.all flatD = true) (hx : H x = some o) (s0 : Same H0 H) (R : VK)
    (q : ∀ y H1, Same H H1 → RpD K c (nwx x H0 H1) y (.py (.list ms)) → R y H1) : tD K c W f σ H R := tD_pure env no hf fun v G' H' _ s _ _ ev fv => by
  obtain ⟨a, ws, rfl, na, ha, r⟩ := new_flat fl ev fv
  refine q _ H' s ?_
  simp only [RpD, Rp]
  exact ⟨a, ws, rfl, nwx_at (s0.free na) (fun z => by rw [z, hx] at na; cases na) ha, r _⟩
theorem EnvOk.offx {G H H2 : Hp} {σ : L2.St} {ρ : DEnv} {x : Addr} (env : EnvOk K c G H σ ρ) (no : NoOw ρ) (gx : G x = none) (h : ∀ a o, a ≠ x → H a = some o → H2 a = some o) : EnvOk K c G H2 σ ρ := ⟨fun a o e => h a o (fun z => by rw [z, gx] at e; cases e) (env.le a o e), env.len, env.sh, fun i p b e => (no i p b e).elim, env.nol, env.inj⟩
theorem fLi_at {i : Nat} {ρ : DEnv} {ms : List PyData} (h : ρ[i]? = some (some (py (.list ms)))) (hl : ms.length ≤ 100) : fLi i ρ = some (.ok (.own (.list ms) false) ρ) := by
  unfold fLi
  simp [fVar, h]
  try omega
theorem ok_Machine_init {f : Addr} {fd : FuncData} (F : Fun K "__init__" "Machine.__init__" s_Machine_init f fd) (M : Mk K (c 10) f) (hm : mg "Machine" = some (.ref (c 10))) (bi : Binds K fd ["self", "marks", "ways", "begins"] []) (z_len : mg "len" = none) (z_list : mg "list" = none) (z_isinstance : mg "isinstance" = none) {t_MOST_PLACES : Tok} (g_MOST_PLACES : mg "MOST_PLACES" = some (.int 12 t_MOST_PLACES)) (E_BadMachine : ExcAt K mg "BadMachine" (c 0)) (cl : Cls K (c 10)) (N_marks : NoAttr K (c 10) "marks") (N_ways : NoAttr K (c 10) "ways") (N_begins : NoAttr K (c 10) "begins") (F_is_mark : FnAt P w K mg base c 1 "is_mark" 1 none f_is_mark) (F_are_places : FnAt P w K mg base c 2 "are_places" 2 none f_are_places) : MkAt P w K mg base c 4 "Machine" 10 3 f_Machine := by
  refine ⟨sh_Machine, f, fd, ["self", "marks", "ways", "begins"], M, hm, bi, ?_⟩
  refine F.okX sc_Machine_init (fun vs H Q E h => spI_len h) fun cdv A outer s H vs Q E hr h => ⟨_, dv_Machine_init hr z_len z_list z_isinstance g_MOST_PLACES E_BadMachine F_is_mark F_are_places, ?_⟩
  obtain ⟨x, dx, H0, G, ds, us, rfl, h1, h2, h3, rfl, hl, env0, hans⟩ := h
  have st := InitAt.start (K := K) (c := c) (j := 10) h1 h2
  have env := env_init (N := ["self", "marks", "ways", "begins", "mark", "row"]) (o1 := .own x) (o2 := .ins (c 10) dx []) env0 h1 h2
  rw [hl] at env
  unfold tInit
  refine ⟨G, mE0 (.ref x) ds, env, ?_⟩
  have no0 : NoOw (mE0 (.ref x) ds) := noOw_init
  have gx : G x = none := env0.le.free h1
  unfold f_Machine at hans
  split at hans
  · rename_i hx
    obtain ⟨ρ, e⟩ := hx.choose_spec (.ref x)
    rw [e]
    exact fun G' H' σ' s => hans H' (st.same.trans (s.grow env no0))
  · rename_i hnx
    split at hans
    · rename_i hx
      obtain ⟨ms, rows, bs, ho, hans⟩ : ∃ ms rows bs, MkOk ds ms rows bs ∧ AnsI K c H0 x Q E (some (.ok (.sh (mIns ms rows bs)) .none)) := ⟨_, _, _, hx.choose_spec.choose_spec.choose_spec, hans⟩
      obtain ⟨e4, e5, e, no2⟩ := ho.run (.ref x)
      rw [e]
      intro G1 H1 σ1 s1
      have g1 := s1.grow env no0
      have env1 := s1.env
      have no1 : NoOw [some (.sh (.val (.ref x))), some (py (.list ms)), some (py (.list (rows.map .list))), some (py (.list bs)), e4, e5] := fun i p b hi => by
        match i, hi with
        | 0, hi => cases hi
        | 1, hi => cases hi
        | 2, hi => cases hi
        | 3, hi => cases hi
        | i + 4, hi => exact no2 i p b (by simpa using hi)
      have st1 := st.grow g1
      have gx1 : G1 x = none := (s1.keep x _ upd_same gx (no0.ow x)).2
      have hs : σ1[0]? = some (some (.ref x)) := by
        obtain ⟨v, ev, r⟩ := env1.sh 0 _ rfl
        simp only [RpD] at r
        rw [ev, r]
      refine w_store hs cl N_marks st1 (by decide) (hv_flat env1 no1 (fLi_at (i := 1) rfl ho.lm) ho.fm st1.at_ st1.same) fun H2 vs2 st2 o2 => ?_
      have env2 := EnvOk.offx env1 no1 gx1 o2
      show sFld K (tVar 0) (tWays K c (WE0 E)) "ways" { nx := fun σ H => sFld K (tVar 0) (tD K c (WE0 E) (fLi 3)) "begins" { nx := fun _ H' => Q .non H', rt := Q } σ H, rt := Q } σ1 H2
      refine w_store (d := .py (.list (rows.map .list))) hs cl N_ways st2 (by simp [putD]) (fun R q => ?_) fun H3 vs3 st3 o3 => ?_
      · refine w_compN (rows := rows) (b := false) (by decide) env2 no1 (its := rows.map .list) rfl (by rw [List.length_map]; exact Nat.le_trans ho.lr (by decide)) (by rw [List.length_map]) ho.fr (fun i d r hd hr' => ?_) fun v H' Da as sm nr => ?_
        · rw [List.getElem?_map, hr'] at hd
          cases hd
          have hmem := List.mem_of_getElem? hr'
          refine ⟨[some (.sh (.val (.ref x))), some (py (.list ms)), some (py (.list (rows.map .list))), some (py (.list bs)), e4, some (py (.list r))], rfl, fun i p b hi => ?_, fLi_at (i := 5) rfl (ho.lw r hmem)⟩
          match i, hi with
          | 0, hi => cases hi
          | 1, hi => cases hi
          | 2, hi => cases hi
          | 3, hi => cases hi
          | 4, hi => exact no2 0 p b (by simpa using hi)
          | 5, hi => cases hi
          | i + 6, hi => simp at hi
        · refine q v H' sm ?_
          simp only [RpD, Rp]
          have ne : ∀ a, H2 a = none → a ≠ x := fun a na z => by
            rw [z, st2.at_] at na
            cases na
          refine ⟨Da, as.map .ref, nr.ev, nwx_at (st2.same.free nr.nD) (ne _ nr.nD) nr.hD, nr.at_.rpl fun a o na ha => nwx_at (st2.same.free na) (ne _ na) ha⟩
      · have env3 := EnvOk.offx env2 no1 gx1 o3
        show sFld K (tVar 0) (tD K c (WE0 E) (fLi 3)) "begins" { nx := fun _ H' => Q .non H', rt := Q } σ1 H3
        refine w_store hs cl N_begins st3 (by simp [putD]) (hv_flat env3 no1 (fLi_at (i := 3) rfl ho.lb) ho.fb st3.at_ st3.same) fun H4 vs4 st4 o4 => ?_
        exact hans H4 st4.same st4.fin
    · exact hans.elim

end
end LawX


set_option Elab.async false
set_option linter.all false
set_option autoImplicit false
set_option maxRecDepth 100000
namespace LawX
open PySem L2 VL
/-! ### draws -/
theorem cell_at_eq (ns : List Int) (k : Nat) : f_law_cell_at [.scr ns, .py (.int k)] = some (.ok (py (.int (ns.getD k 0))) .none) := by
  unfold f_law_cell_at b_law_cell_at
  rw [fnOf_eq]
  by_cases h : k < ns.length
  · simp [h]
  · simp [h]
def drawV (ns : List Int) (k : Nat) : Int := if k < ns.length then ns.getD k 0 else if 4 < ns.length ∧ k < 50 then (ns.getD (k % ns.length) 0 + 7919 * k) * 48271 % 1000003 else 0
theorem draw_eq (ns : List Int) (k : Nat) : f_law_draw [.scr ns, .py (.list [.int k])] = some (.ok (py (.int (drawV ns k))) (.list [.int (k + 1 : Nat)])) := by
  unfold f_law_draw b_law_draw
  rw [fnOf_eq]
  by_cases h : k < ns.length
  · simp [h, drawV]
  · by_cases h2 : 4 < ns.length
    · have h2' : (4 : Int) < (ns.length : Int) := by omega
      have hm : k % ns.length < ns.length := Nat.mod_lt _ (by omega)
      have ha : L2.atI ns ((k : Int) % (ns.length : Int)) = some (ns.getD (k % ns.length) 0) := by
        rw [show ((k : Int) % (ns.length : Int)) = ((k % ns.length : Nat) : Int) by omega, atI_coe, List.getElem?_eq_getElem hm]
        simp [hm]
      have hp : 0 < ns.length := by omega
      by_cases h3 : k < 50
      · have h3' : (k : Int) < 50 := by omega
        simp [h, h2, h2', h3, h3', drawV, hp, ha]
      · have h3' : ¬ (k : Int) < 50 := by omega
        simp [h, h2, h2', h3, h3', drawV]
    · have h2' : ¬ (4 : Int) < (ns.length : Int) := by omega
      simp [h, h2, h2', drawV]
/-! ### the three marks -/
def letters : Str := Str.ofString "abcdefghijklmnopqrstuvwxyz"
theorem letters_len : letters.length = 26 := by decide +kernel
theorem letters_len' : letters.cps.toList.length = 26 := by decide +kernel
def lt (i : Int) : Nat := letters.cps.toList.getD (i % 26).toNat 97
theorem lt_at (i : Int) : L2.atI letters.cps.toList (i % 26) = some (lt i) := by
  have h1 : 0 ≤ i % 26 := Int.emod_nonneg i (by decide)
  have h2 : i % 26 < 26 := Int.emod_lt_of_pos i (by decide)
  rw [atI_nn h1, List.getElem?_eq_getElem (by rw [letters_len']; omega)]
  unfold lt
  rw [List.getD_eq_getElem?_getD, List.getElem?_eq_getElem (by rw [letters_len']; omega)]
  rfl
def restOf (c : Int) : Str := ⟨((List.range 6).map fun j : Nat => lt (c / 7 + 5 * j)).toArray⟩
theorem rest_len (c : Int) : (restOf c).length = 6 := by simp [restOf, Str.length]
def cutN (s : Str) (a b : Nat) : Str := ⟨((s.cps.toList.take b).drop a).toArray⟩
def namesOf (c : Int) : List Str :=
  if c % 3 = 2 then [cutN (restOf c) 0 (1 + c / 3 % 4).toNat, cutN (restOf c) 0 (1 + c / 3 % 4 + 1).toNat, cutN (restOf c) 0 (1 + c / 3 % 4 + 2).toNat]
  else [0, 1, 2].map fun k : Int => cutN (restOf c) 0 (c / 18 % (c / 3 % 6 + 1)).toNat ++ ⟨#[lt (c / 90 + 7 * k)]⟩ ++ cutN (restOf c) (c / 18 % (c / 3 % 6 + 1)).toNat (c / 3 % 6).toNat
theorem cutS_to {z : Str} {v : Int} (h : 0 ≤ v) : cutS z none (some v) = cutN z 0 v.toNat := by
  rw [cutS_eq, cut_to h]
  rfl
theorem cutS_mid {z : Str} {u v : Int} (h : 0 ≤ u) (h2 : 0 ≤ v) : cutS z (some u) (some v) = cutN z u.toNat v.toNat := by
  rw [cutS_eq, cut_mid h h2]
  rfl
theorem cutN_len (z : Str) (a b : Nat) : (cutN z a b).length ≤ z.length := by
  unfold cutN Str.length
  rw [List.size_toArray, List.length_drop, List.length_take, Array.length_toList]
  omega
theorem app_len (a b : Str) : (a ++ b).length = a.length + b.length := Str.length_append a b
theorem one_len (n : Nat) : (⟨#[n]⟩ : Str).length = 1 := rfl
theorem names_eq (c : Int) : f_law_names [.py (.int c)] = some (.ok (.own (.list ((namesOf c).map .str)) false) .none) := by
  unfold f_law_names b_law_names
  rw [fnOf_eq]
  have hl : letters.length ≤ big := by rw [letters_len]; decide
  have e0 : Str.ofString "abcdefghijklmnopqrstuvwxyz" = letters := rfl
  rw [e0]
  simp
  rw [comp_pure (List.range 6) (fun i => .int (i : Nat)) (fun i => .str ⟨#[lt (c / 7 + 5 * (i : Nat))]⟩) (by simp [inRng, intsD_zero]) (by decide) rfl (by simp [lt_at, hl])]
  have ej : Txt.join (Str.ofString "") ((List.range 6).map fun i : Nat => (⟨#[lt (c / 7 + 5 * (i : Nat))]⟩ : Str)) = restOf c := by
    have := tjoin_signs ((List.range 6).map fun i : Nat => lt (c / 7 + 5 * (i : Nat)))
    rw [List.map_map] at this
    exact this
  have em : (List.range 6).map (fun i : Nat => PyData.str ⟨#[lt (c / 7 + 5 * (i : Nat))]⟩) = ((List.range 6).map fun i : Nat => (⟨#[lt (c / 7 + 5 * (i : Nat))]⟩ : Str)).map .str := by rw [List.map_map]; rfl
  rw [em]
  have hs : ((((List.range 6).map fun i : Nat => (⟨#[lt (c / 7 + 5 * (i : Nat))]⟩ : Str)).map (·.length)).sum + ((List.range 6).map fun i : Nat => (⟨#[lt (c / 7 + 5 * (i : Nat))]⟩ : Str)).length * (Str.ofString "").length) ≤ big := by
    rw [List.map_map]
    have : (List.range 6).map (Str.length ∘ fun i : Nat => (⟨#[lt (c / 7 + 5 * (i : Nat))]⟩ : Str)) = [1, 1, 1, 1, 1, 1] := rfl
    rw [this, show (Str.ofString "").length = 0 by decide +kernel]
    simp [big]
  simp only [evM_ok, kM3_ap, oJoin_by, rd_py, rd_own, by2_some, dJoin_list, if_pos hs, ej, out_some]
  have hr := rest_len c
  generalize hz : restOf c = z at *
  have hz6 : z.length ≤ big := by rw [hr]; decide
  have p1 : 0 ≤ c / 3 % 4 := Int.emod_nonneg _ (by decide)
  have p2 : 0 ≤ c / 3 % 6 := Int.emod_nonneg _ (by decide)
  have p3 : 0 < c / 3 % 6 + 1 := by omega
  have p4 : 0 ≤ c / 18 % (c / 3 % 6 + 1) := Int.emod_nonneg _ (by omega)
  by_cases h : c % 3 = 2
  · have hb : (c % 3 == 2) = true := by simpa using h
    simp [hb]
    rw [comp_pure (List.range 3) (fun i => .int (i : Nat)) (fun i => .str (cutN z 0 (1 + c / 3 % 4 + (i : Nat)).toNat)) (by simp [inRng, intsD_zero]) (by decide) rfl (by
      intro x hx
      have : (0 : Int) ≤ 1 + c / 3 % 4 + (x : Nat) := by omega
      simp [hz6, cutS_to this])]
    simp [namesOf, h, hz, List.range_succ]
  · have hb : (c % 3 == 2) = false := by simpa using h
    have q1 := cutN_len z 0 (c / 18 % (c / 3 % 6 + 1)).toNat
    have q2 := cutN_len z (c / 18 % (c / 3 % 6 + 1)).toNat (c / 3 % 6).toNat
    have q3 : (cutN z 0 (c / 18 % (c / 3 % 6 + 1)).toNat).length + 1 ≤ big := by simp only [big]; omega
    have q4 : (cutN z 0 (c / 18 % (c / 3 % 6 + 1)).toNat).length + 1 + (cutN z (c / 18 % (c / 3 % 6 + 1)).toNat (c / 3 % 6).toNat).length ≤ big := by simp only [big]; omega
    simp [hb, p3, inRng, intsD_succ, lt_at, hl, hz6, cutS_to p4, cutS_mid p4 p2, app_len, one_len, q3, q4, namesOf, h, hz, big]
end LawX

set_option Elab.async false
set_option linter.all false
set_option autoImplicit false
set_option maxRecDepth 100000
namespace LawX
open PySem L2 VL
def loc (o : Option Nat) : Option Ent := o.map fun i => py (.int (i : Nat))
@[simp] theorem loc_none : loc none = none := rfl
@[simp] theorem loc_some (i : Nat) : loc (some i) = some (py (.int i)) := rfl
@[simp] theorem pin_loc (o : Option Nat) : pinE (some (loc o)) = false := by cases o <;> rfl
theorem nodup_len : ∀ {n : Nat} {l : List Nat}, l.Nodup → (∀ x ∈ l, x < n) → l.length ≤ n
  | 0, l, _, h => by
    cases l with
    | nil => exact Nat.le_refl _
    | cons x l => exact absurd (h x List.mem_cons_self) (Nat.not_lt_zero _)
  | n + 1, l, nd, h => by
    have ih := nodup_len (n := n) (l := l.erase n) (nd.erase n) fun x hx => by
      have h1 := (nd.mem_erase_iff).mp hx
      have h2 := h x h1.2
      have := h1.1
      omega
    have := List.length_erase (a := n) (l := l)
    split at this <;> omega
/-! ### some places -/
def intL (l : List Nat) : PyData := .list (l.map fun x => .int (x : Nat))
def someGo (f : Int) (n : Nat) : Int → List Nat → List Nat
  | _, [] => []
  | r, k :: ks => if r % 3 = 1 then ((f + k) % n).toNat :: someGo f n (r / 3) ks else someGo f n (r / 3) ks
def someNs (cell : Int) (n : Nat) (f : Int) : List Nat := (f % n).toNat :: someGo f n (cell * 48271 % 1000003) (List.range' 1 (n - 1))
theorem someGo_mem {f : Int} {n : Nat} : ∀ {ks : List Nat} {r : Int} {x : Nat}, x ∈ someGo f n r ks → ∃ k ∈ ks, x = ((f + k) % n).toNat
  | [], _, _, h => by cases h
  | k :: ks, r, x, h => by
    unfold someGo at h
    split at h
    · rcases List.mem_cons.mp h with e | e
      · exact ⟨k, List.mem_cons_self, e⟩
      · obtain ⟨j, hj, e⟩ := someGo_mem e
        exact ⟨j, List.mem_cons_of_mem _ hj, e⟩
    · obtain ⟨j, hj, e⟩ := someGo_mem h
      exact ⟨j, List.mem_cons_of_mem _ hj, e⟩
theorem mod_inj {f : Int} {n j k : Nat} (hj : j < n) (hk : k < n) (h : ((f + j) % n).toNat = ((f + k) % n).toNat) : j = k := by
  have hn : (0 : Int) < n := by omega
  have a1 := Int.emod_nonneg (f + j) (show (n : Int) ≠ 0 by omega)
  have a2 := Int.emod_nonneg (f + k) (show (n : Int) ≠ 0 by omega)
  have e : (f + j) % n = (f + k) % n := by omega
  have h1 := Int.emod_emod_of_dvd (f + j) (Int.dvd_refl (n : Int))
  have h2 : ((f + j) - (f + k)) % n = 0 := Int.emod_eq_emod_iff_emod_sub_eq_zero.mp e
  have h3 : ((j : Int) - k) % n = 0 := by
    have : (f + j) - (f + k) = (j : Int) - k := by omega
    rw [this] at h2
    exact h2
  obtain ⟨q, hq⟩ := Int.dvd_of_emod_eq_zero h3
  have : q = 0 := by
    rcases Int.lt_trichotomy q 0 with hq' | hq' | hq'
    · exfalso
      have : (n : Int) * q ≤ -n := by
        have := Int.mul_le_mul_of_nonneg_left (show q ≤ -1 by omega) (Int.le_of_lt hn)
        omega
      omega
    · exact hq'
    · exfalso
      have : (n : Int) ≤ n * q := by
        have := Int.mul_le_mul_of_nonneg_left (show 1 ≤ q by omega) (Int.le_of_lt hn)
        omega
      omega
  subst this
  omega
theorem someGo_nodup {f : Int} {n : Nat} : ∀ {ks : List Nat} {r : Int}, ks.Nodup → (∀ k ∈ ks, k < n) → (someGo f n r ks).Nodup
  | [], _, _, _ => List.nodup_nil
  | k :: ks, r, nd, h => by
    obtain ⟨n1, n2⟩ := List.nodup_cons.mp nd
    unfold someGo
    have ih := fun r => someGo_nodup (r := r) (f := f) n2 fun j hj => h j (List.mem_cons_of_mem _ hj)
    split
    · refine List.nodup_cons.mpr ⟨fun hm => ?_, ih _⟩
      obtain ⟨j, hj, e⟩ := someGo_mem hm
      have := mod_inj (h k List.mem_cons_self) (h j (List.mem_cons_of_mem _ hj)) e
      subst this
      exact n1 hj
    · exact ih _
structure RowOk (n : Nat) (r : List Nat) : Prop where
  ne : r ≠ []
  lt : ∀ x ∈ r, x < n
  nd : r.Nodup
theorem some_ok {cell f : Int} {n : Nat} (hn : 0 < n) : RowOk n (someNs cell n f) := by
  have lt : ∀ i : Int, (i % n).toNat < n := fun i => by
    have a1 := Int.emod_nonneg i (show (n : Int) ≠ 0 by omega)
    have a2 := Int.emod_lt_of_pos i (show (0 : Int) < n by omega)
    omega
  refine ⟨by simp [someNs], fun x hx => ?_, ?_⟩
  · rcases List.mem_cons.mp hx with e | e
    · rw [e]; exact lt _
    · obtain ⟨k, _, e⟩ := someGo_mem e
      rw [e]; exact lt _
  · refine List.nodup_cons.mpr ⟨fun hm => ?_, someGo_nodup List.nodup_range' fun k hk => by simp [List.mem_range'] at hk; omega⟩
    obtain ⟨k, hk, e⟩ := someGo_mem hm
    simp [List.mem_range'] at hk
    have := mod_inj (f := f) (n := n) (j := 0) (k := k) hn (by omega) (by simpa using e)
    omega
theorem RowOk.len {n : Nat} {r : List Nat} (h : RowOk n r) : r.length ≤ n := nodup_len h.nd h.lt
theorem intsD_one (n : Nat) : intsD 1 1 n = (List.range' 1 n).map fun i => .int (i : Nat) := by
  unfold intsD
  rw [List.range'_eq_map_range, List.map_map]
  refine List.map_congr_left fun i _ => ?_
  simp
theorem someGo_len {f : Int} {n : Nat} : ∀ {ks : List Nat} {r : Int}, (someGo f n r ks).length ≤ ks.length
  | [], _ => Nat.le_refl _
  | k :: ks, r => by
    have ih := fun r => someGo_len (ks := ks) (r := r) (f := f) (n := n)
    unfold someGo
    split
    · exact Nat.succ_le_succ (ih _)
    · exact Nat.le_succ_of_le (ih _)
theorem some_loop {f cell : Int} {n : Nat} (hn : 0 < n) (hn2 : n ≤ 100) : ∀ (ks : List Nat) (r : Int) (acc : List Nat) (o : Option Nat), acc.length + ks.length ≤ 200 → ∃ r' o', forGo (gNm 5) (sq (fIf (fB (f2 oEq (f2 oMod (fVar 3) (fC (.int 3))) (fC (.int 1)))) (fDrop (fMet appE (fVar 4) (fCons (f2 oMod (f2 oAdd (fVar 2) (fVar 5)) (fVar 1)) fNil))) fNx)
    (fSet 3 (fSh (f2 oDiv (fVar 3) (fC (.int 3)))))) (ks.map fun i => .int (i : Nat)) [some (.sh (.py (.int cell))), some (.sh (.py (.int n))), some (.sh (.py (.int f))), some (.sh (.py (.int r))), some (.own (intL acc) false), loc o] = some (.ok .nx [some (.sh (.py (.int cell))), some (.sh (.py (.int n))), some (.sh (.py (.int f))), some (.sh (.py (.int r'))), some (.own (intL (acc ++ someGo f n r ks)) false), loc o'])
  | [], r, acc, o, _ => ⟨r, o, by simp [forGo, someGo]⟩
  | k :: ks, r, acc, o, hl => by
    have hm := Int.emod_nonneg (f + k) (show (n : Int) ≠ 0 by omega)
    have hp : (0 : Int) < n := by omega
    rw [List.length_cons] at hl
    obtain ⟨x, hx⟩ : ∃ x : Nat, (f + (k : Int)) % (n : Int) = (x : Int) := ⟨_, (Int.toNat_of_nonneg hm).symm⟩
    by_cases h : r % 3 = 1
    · obtain ⟨r', o', e⟩ := some_loop (f := f) (cell := cell) hn hn2 ks (r / 3) (acc ++ [x]) (some k) (by rw [List.length_append, List.length_singleton]; omega)
      refine ⟨r', o', ?_⟩
      have hb : acc.length < big := by simp only [big]; omega
      rw [List.map_cons]
      unfold forGo
      simp [h, hn, hx, intL, hb] at e ⊢
      rw [e]
      simp [someGo, h, hx]
    · obtain ⟨r', o', e⟩ := some_loop (f := f) (cell := cell) hn hn2 ks (r / 3) acc (some k) (by omega)
      refine ⟨r', o', ?_⟩
      rw [List.map_cons]
      unfold forGo
      have h' : (r % 3 == 1) = false := by simpa using h
      simp [h, h', hn, hx, intL] at e ⊢
      rw [e]
      simp [someGo, h]
theorem some_eq (cell f : Int) {n : Nat} (hn : 0 < n) (hn2 : n ≤ 100) : f_law_some [.py (.int cell), .py (.int n), .py (.int f)] = some (.ok (.own (intL (someNs cell n f)) false) .none) := by
  unfold f_law_some b_law_some
  rw [fnOf_eq]
  have hp : (0 : Int) < n := by omega
  have hm := Int.emod_nonneg f (show (n : Int) ≠ 0 by omega)
  obtain ⟨x, hx⟩ : ∃ x : Nat, f % (n : Int) = (x : Int) := ⟨_, (Int.toNat_of_nonneg hm).symm⟩
  obtain ⟨r', o', e⟩ := some_loop (cell := cell) (f := f) hn hn2 (List.range' 1 (n - 1)) (cell * 48271 % 1000003) [x] none (by simp; omega)
  have hr : inRng (n : Int) = true := by simp [inRng]; omega
  have hr1 : inRng 1 = true := by decide
  have hr2 : ((n : Int) - 1).toNat = n - 1 := by omega
  simp [hn, hr, hr1, hr2, intsD_one, intL, hx] at e ⊢
  rw [e]
  simp [someNs, hx]
end LawX

set_option Elab.async false
set_option linter.all false
set_option autoImplicit false
set_option maxRecDepth 100000
namespace LawX
open PySem L2 VL
def locI (o : Option Int) : Option Ent := o.map fun i => py (.int i)
@[simp] theorem locI_none : locI none = none := rfl
@[simp] theorem locI_some (i : Int) : locI (some i) = some (py (.int i)) := rfl
@[simp] theorem pin_locI (o : Option Int) : pinE (some (locI o)) = false := by cases o <;> rfl
def strL' (l : List Str) : PyData := .list (l.map .str)
def waysL (l : List (List Nat)) : PyData := .list (l.map intL)
def s6 (a b z : Str) : List Str := [a, b, z, Str.ofString "", a, b]
def pick6 (a b z : Str) (v : Int) : Str := (s6 a b z).getD (v % 6).toNat ⟨#[]⟩
theorem pick6_at (a b z : Str) (v : Int) : L2.atI ((s6 a b z).map PyData.str) (v % 6) = some (.str (pick6 a b z v)) := by
  have h1 : 0 ≤ v % 6 := Int.emod_nonneg v (by decide)
  have h2 : v % 6 < 6 := Int.emod_lt_of_pos v (by decide)
  have hl : (s6 a b z).length = 6 := rfl
  rw [atI_nn h1, List.getElem?_map, List.getElem?_eq_getElem (by rw [hl]; omega)]
  unfold pick6
  rw [List.getD_eq_getElem?_getD, List.getElem?_eq_getElem (by rw [hl]; omega)]
  rfl
theorem pick6_mem (a b z : Str) (v : Int) : pick6 a b z v ∈ s6 a b z := by
  have h1 : 0 ≤ v % 6 := Int.emod_nonneg v (by decide)
  have h2 : v % 6 < 6 := Int.emod_lt_of_pos v (by decide)
  have hl : (s6 a b z).length = 6 := rfl
  unfold pick6
  rw [List.getD_eq_getElem?_getD, List.getElem?_eq_getElem (by rw [hl]; omega)]
  exact List.getElem_mem _
def goMs (ns : List Int) (a b z : Str) : Nat → Nat → List Str
  | _, 0 => []
  | k, m + 1 => pick6 a b z (drawV ns k) :: goMs ns a b z (k + 1) m
def goWs (ns : List Int) (n : Nat) : Nat → Nat → List (List Nat)
  | _, 0 => []
  | k, m + 1 => someNs (drawV ns k) n (drawV ns k / 6) :: goWs ns n (k + 1) m
theorem goMs_len (ns : List Int) (a b z : Str) : ∀ m k, (goMs ns a b z k m).length = m
  | 0, _ => rfl
  | m + 1, k => by simp [goMs, goMs_len ns a b z m]
theorem goWs_len (ns : List Int) (n : Nat) : ∀ m k, (goWs ns n k m).length = m
  | 0, _ => rfl
  | m + 1, k => by simp [goWs, goWs_len ns n m]
theorem goMs_mem {ns : List Int} {a b z : Str} : ∀ {m k : Nat} {s : Str}, s ∈ goMs ns a b z k m → s ∈ s6 a b z
  | 0, _, _, h => by cases h
  | m + 1, k, s, h => by
    rcases List.mem_cons.mp h with e | e
    · rw [e]; exact pick6_mem a b z _
    · exact goMs_mem e
theorem goWs_ok {ns : List Int} {n : Nat} (hn : 0 < n) : ∀ {m k : Nat} {r : List Nat}, r ∈ goWs ns n k m → RowOk n r
  | 0, _, _, h => by cases h
  | m + 1, k, r, h => by
    rcases List.mem_cons.mp h with e | e
    · rw [e]; exact some_ok hn
    · exact goWs_ok hn e
abbrev machB : S := (sq (fSet 9 (fSh (fCall 2 (some 1) f_law_draw (fCons (fVar 0) (fCons (fVar 1) fNil)))))
    (sq (fDrop (fMet appE (fVar 6) (fCons (f2 oIx (fVar 5) (f2 oMod (fVar 9) (fC (.int 6)))) fNil)))
    (fDrop (fMet appE (fVar 7) (fCons (fCall 3 none f_law_some (fCons (fVar 9) (fCons (fVar 4) (fCons (f2 oDiv (fVar 9) (fC (.int 6))) fNil)))) fNil)))))
abbrev machE (ns : List Int) (nm : PyData) (most : Nat) (a b z : Str) (n k : Nat) (ms : List Str) (ws : List (List Nat)) (o8 : Option Nat) (o9 : Option Int) : DEnv := [some (.sh (.scr ns)), some (.own (.list [.int k]) true), some (.sh (.py nm)), some (.sh (.py (.int most))), some (.sh (.py (.int n))), some (.sh (.py (.list ((s6 a b z).map .str)))), some (.own (strL' ms) false), some (.own (waysL ws) false), loc o8, locI o9]
theorem mach_loop {ns : List Int} {nm : PyData} {most : Nat} {a b z : Str} {n : Nat} (hn : 0 < n) (hn2 : n ≤ 100) : ∀ (xs : List Nat) (k : Nat) (ms : List Str) (ws : List (List Nat)) (o8 : Option Nat) (o9 : Option Int), ms.length + xs.length ≤ 100 → ws.length + xs.length ≤ 100 → ∃ o8' o9', forGo (gNm 8) machB (xs.map fun i => .int (i : Nat)) (machE ns nm most a b z n k ms ws o8 o9) = some (.ok .nx (machE ns nm most a b z n (k + xs.length) (ms ++ goMs ns a b z k xs.length) (ws ++ goWs ns n k xs.length) o8' o9'))
  | [], k, ms, ws, o8, o9, _, _ => ⟨o8, o9, by simp [forGo, goMs, goWs]⟩
  | x :: xs, k, ms, ws, o8, o9, h1, h2 => by
    rw [List.length_cons] at h1 h2
    obtain ⟨o8', o9', e⟩ := mach_loop (ns := ns) (nm := nm) (most := most) (a := a) (b := b) (z := z) hn hn2 xs (k + 1) (ms ++ [pick6 a b z (drawV ns k)]) (ws ++ [someNs (drawV ns k) n (drawV ns k / 6)]) (some x) (some (drawV ns k)) (by rw [List.length_append, List.length_singleton]; omega) (by rw [List.length_append, List.length_singleton]; omega)
    refine ⟨o8', o9', ?_⟩
    have b1 : ms.length < big := by simp only [big]; omega
    have b2 : ws.length < big := by simp only [big]; omega
    have hc : k + (xs.length + 1) = k + 1 + xs.length := by omega
    rw [List.map_cons, List.length_cons, hc]
    unfold forGo
    simp [machE, machB, draw_eq, pick6_at, some_eq _ _ hn hn2, strL', waysL, b1, b2, intL] at e ⊢
    rw [e]
    simp [goMs, goWs]
    rfl
/-- what is drawn -/
structure Mach where
  ms : List Str
  ws : List (List Nat)
  bs : List Nat
def machOf (ns : List Int) (a b z : Str) (n k : Nat) : Mach := ⟨goMs ns a b z k n, goWs ns n k n, if drawV ns (k + n) % 4 = 3 then someNs (drawV ns (k + n)) n (drawV ns (k + n) / 4) else [(drawV ns (k + n) / 4 % n).toNat]⟩
def machD (m : Mach) : PyData := .tuple [strL' m.ms, waysL m.ws, intL m.bs]
/-- as a machine ought to be -/
structure MOk (m : Mach) : Prop where
  pos : 0 < m.ms.length
  few : m.ms.length ≤ 12
  lw : m.ws.length = m.ms.length
  rows : ∀ r ∈ m.ws, RowOk m.ms.length r
  begins : RowOk m.ms.length m.bs
theorem machOf_ok {ns : List Int} {a b z : Str} {n k : Nat} (hn : 0 < n) (hn2 : n ≤ 12) : MOk (machOf ns a b z n k) := by
  have l1 := goMs_len ns a b z n k
  have l2 := goWs_len ns n n k
  refine ⟨by show 0 < (goMs ns a b z k n).length; omega, by show (goMs ns a b z k n).length ≤ 12; omega, by show (goWs ns n k n).length = (goMs ns a b z k n).length; omega, fun r hr => ?_, ?_⟩
  · show RowOk (goMs ns a b z k n).length r
    rw [l1]
    exact goWs_ok hn hr
  · show RowOk (goMs ns a b z k n).length _
    rw [l1]
    unfold machOf
    dsimp only
    split
    · exact some_ok hn
    · have a1 := Int.emod_nonneg (drawV ns (k + n) / 4) (show (n : Int) ≠ 0 by omega)
      have a2 := Int.emod_lt_of_pos (drawV ns (k + n) / 4) (show (0 : Int) < n by omega)
      refine ⟨by simp, fun x hx => ?_, by simp⟩
      simp only [List.mem_singleton] at hx
      omega
set_option maxHeartbeats 1000000 in
theorem machine_eq (ns : List Int) (a b z : Str) (k most : Nat) (hm : 0 < most) (hm2 : most ≤ 12) : ∃ n k', 0 < n ∧ n ≤ most ∧ f_law_machine [.scr ns, .py (.list [.int k]), .py (.list [.str a, .str b, .str z]), .py (.int most)] = some (.ok (py (machD (machOf ns a b z n (k + 1)))) (.list [.int (k' : Nat)])) := by
  have a1 := Int.emod_nonneg (drawV ns k) (show (most : Int) ≠ 0 by omega)
  have a2 := Int.emod_lt_of_pos (drawV ns k) (show (0 : Int) < most by omega)
  obtain ⟨n, hn⟩ : ∃ n : Nat, 1 + drawV ns k % most = (n : Int) := ⟨(1 + drawV ns k % most).toNat, by omega⟩
  have n0 : 0 < n := by omega
  have n1 : n ≤ most := by omega
  refine ⟨n, k + 1 + n + 1, n0, n1, ?_⟩
  unfold f_law_machine b_law_machine
  rw [fnOf_eq]
  obtain ⟨o8, o9, e⟩ := mach_loop (ns := ns) (nm := .list [.str a, .str b, .str z]) (most := most) (a := a) (b := b) (z := z) n0 (by omega) (List.range n) (k + 1) [] [] none none (by simp; omega) (by simp; omega)
  rw [List.length_range] at e
  have hr : inRng (n : Int) = true := by simp [inRng]; omega
  have sm := fun v w => some_eq v w n0 (show n ≤ 100 by omega)
  have m2 := Int.emod_nonneg (drawV ns (k + 1 + n) / 4) (show (n : Int) ≠ 0 by omega)
  obtain ⟨x, hx⟩ : ∃ x : Nat, drawV ns (k + 1 + n) / 4 % (n : Int) = (x : Int) := ⟨_, (Int.toNat_of_nonneg m2).symm⟩
  simp [machE, machB, strL', waysL, s6] at e
  have d1 := draw_eq ns (k + 1 + n)
  simp at d1
  have hb6 : 6 ≤ big := by decide
  by_cases h : drawV ns (k + 1 + n) % 4 = 3
  · simp [hb6, d1, draw_eq, hm, hn, hr, intsD_zero, e, h, sm, machOf, machD, strL', waysL, intL, n0]
  · have h' : (drawV ns (k + 1 + n) % 4 == 3) = false := by simpa using h
    simp [h', hb6, d1, draw_eq, hm, hn, hr, intsD_zero, e, h, sm, machOf, machD, strL', waysL, intL, n0, hx]
end LawX

set_option Elab.async false
set_option linter.all false
set_option autoImplicit false
set_option maxRecDepth 100000
namespace LawX
open PySem L2 VL
/-! ### marks, whole numbers, places -/
def isD : PyData → Bool
  | .dict _ => true
  | _ => false
def locD (o : Option PyData) : Option Ent := o.map fun d => py d
@[simp] theorem locD_none : locD none = none := rfl
@[simp] theorem locD_some (d : PyData) : locD (some d) = some (py d) := rfl
@[simp] theorem pin_locD (o : Option PyData) : pinE (some (locD o)) = false := by cases o <;> rfl
def signOk (n : Nat) : Bool := decide (n ∈ letters.cps.toList)
def markB : PyData → Bool
  | .str s => decide (1 ≤ s.length ∧ s.length ≤ 6) && s.cps.toList.all signOk
  | _ => false
theorem mark_loop (s : Str) : ∀ (l : List Nat) (o : Option PyData), ∃ r, forGo (gNm 1) (fIf (fB (f2 (oIn true) (fVar 1) (fC (.str letters)))) (fRet (fC (.bool false))) fNx) (l.map fun n => .str ⟨#[n]⟩) [some (.sh (.py (.str s))), locD o] = some (if l.all signOk = true then .ok .nx r else .ok (.rt (py (.bool false))) r)
  | [], o => ⟨_, rfl⟩
  | n :: l, o => by
    obtain ⟨r, e⟩ := mark_loop s l (some (.str ⟨#[n]⟩))
    by_cases h : signOk n = true
    · refine ⟨r, ?_⟩
      rw [List.map_cons]
      unfold forGo
      have h' : n ∈ letters.cps.toList := by simpa [signOk] using h
      have h3 : n ∈ letters.cps := by simpa using h'
      simp [h3, h] at e ⊢
      rw [e]
    · refine ⟨[some (py (.str s)), some (py (.str ⟨#[n]⟩))], ?_⟩
      rw [List.map_cons]
      unfold forGo
      have h' : ¬ n ∈ letters.cps.toList := by simpa [signOk] using h
      have h3 : ¬ n ∈ letters.cps := by simpa using h'
      simp [h3, h]
theorem is_mark_eq (d : PyData) (nd : isD d = false) (hl : ∀ s, d = .str s → s.length ≤ big) : f_is_mark [.py d] = some (.ok (py (.bool (markB d))) .none) := by
  unfold f_is_mark b_is_mark
  rw [fnOf_eq]
  have e0 : Str.ofString "abcdefghijklmnopqrstuvwxyz" = letters := rfl
  rw [e0]
  cases d with
  | dict k => cases nd
  | none => simp [isiT, markB]
  | bool b => simp [isiT, markB]
  | int i => simp [isiT, markB]
  | list l => simp [isiT, markB]
  | tuple l => simp [isiT, markB]
  | str s =>
    have hb := hl s rfl
    obtain ⟨r, e⟩ := mark_loop s s.cps.toList none
    simp only [locD_none] at e
    by_cases h1 : 1 ≤ s.length
    · by_cases h2 : s.length ≤ 6
      · by_cases h3 : s.cps.toList.all signOk = true
        · rw [if_pos h3] at e
          have h1' : (1 : Int) ≤ (s.length : Int) := by omega
          have h2' : (s.length : Int) ≤ 6 := by omega
          simp [isiT, hb, h1, h2, h1', h2', signs, e, markB, h3]
        · rw [if_neg h3] at e
          have h1' : (1 : Int) ≤ (s.length : Int) := by omega
          have h2' : (s.length : Int) ≤ 6 := by omega
          have h3' : (s.cps.toList.all signOk) = false := by simpa using h3
          simp [isiT, hb, h1, h2, h1', h2', signs, e, markB, h3']
      · have h1' : (1 : Int) ≤ (s.length : Int) := by omega
        have h2' : ¬ (s.length : Int) ≤ 6 := by omega
        simp [isiT, hb, h1, h2, h1', h2', markB]
    · have h1' : ¬ (1 : Int) ≤ (s.length : Int) := by omega
      simp [isiT, hb, h1, h1', markB]
def isI : PyData → Bool
  | .int _ => true
  | _ => false
def inI (n : Nat) : PyData → Bool
  | .int i => decide (0 ≤ i ∧ i < n)
  | _ => false
theorem whole_eq (d : PyData) (nd : isD d = false) : f_is_whole [.py d] = some (.ok (py (.bool (isI d))) .none) := by
  unfold f_is_whole b_is_whole
  rw [fnOf_eq]
  cases d with
  | dict k => cases nd
  | none => simp [isiT, isI]
  | bool b => simp [isiT, isI]
  | int i => simp [isiT, isI]
  | list l => simp [isiT, isI]
  | tuple l => simp [isiT, isI]
  | str s => simp [isiT, isI]
def placesB (n : Nat) : PyData → Bool
  | .list ds => !ds.isEmpty && ds.all (inI n) && (match asInts ds with | some is => decide ((nubI is).length = is.length) | none => false)
  | _ => false
theorem places_loop {l : PyData} {n : Nat} : ∀ (ds : List PyData) (o : Option PyData), (∀ x ∈ ds, isD x = false) → ∃ r, (ds.all (inI n) = true → ∃ o', r = [some (py l), some (py (.int n)), locD o']) ∧ forGo (gNm 2) (fIf (fOrT (fNotT (fB (fCall 1 none f_is_whole (fCons (fVar 2) fNil)))) (fNotT (fB (fChain oLe oLt (fC (.int 0)) (fVar 2) (fVar 1))))) (fRet (fC (.bool false))) fNx) ds [some (py l), some (py (.int n)), locD o] = some (if ds.all (inI n) = true then .ok .nx r else .ok (.rt (py (.bool false))) r)
  | [], o, _ => ⟨_, fun _ => ⟨o, rfl⟩, rfl⟩
  | d :: ds, o, h => by
    obtain ⟨r, e2, e⟩ := places_loop (l := l) (n := n) ds (some d) fun x hx => h x (List.mem_cons_of_mem _ hx)
    have hd := h d List.mem_cons_self
    have hw := whole_eq d hd
    cases hi : inI n d with
    | true =>
      cases d with
      | int i =>
        simp only [inI, decide_eq_true_eq] at hi
        refine ⟨r, fun h => e2 (by simp at h; simpa using h.2), ?_⟩
        unfold forGo
        simp [hw, isI, hi.1, hi.2] at e ⊢
        rw [e]
        simp [inI, hi.1, hi.2]
      | _ => simp [inI] at hi
    | false =>
      refine ⟨[some (py l), some (py (.int n)), some (py d)], fun z => by simp [hi] at z, ?_⟩
      unfold forGo
      cases hI : isI d with
      | true =>
        cases d with
        | int i =>
          by_cases h0 : 0 ≤ i
          · have h1 : ¬ i < (n : Int) := fun z => by simp [inI, h0, z] at hi
            simp [hw, hI, h0, h1, hi]
          · simp [hw, hI, h0, hi]
        | _ => simp [isI] at hI
      | false => simp [hw, hI, hi]
theorem all_ints {n : Nat} : ∀ {ds : List PyData}, ds.all (inI n) = true → ∃ is, asInts ds = some is
  | [], _ => ⟨[], rfl⟩
  | d :: ds, h => by
    rw [List.all_cons, Bool.and_eq_true] at h
    obtain ⟨is, e⟩ := all_ints h.2
    cases d with
    | int i => exact ⟨i :: is, by simp [asInts, asInt, e]⟩
    | _ => simp [inI] at h
theorem asInts_len : ∀ {ds : List PyData} {is : List Int}, asInts ds = some is → is.length = ds.length := fun h => by rw [asInts_inv h, List.length_map]
theorem are_places_eq (d : PyData) (n : Nat) (nd : isD d = false) (hel : ∀ ds, d = .list ds → (∀ x ∈ ds, isD x = false) ∧ ds.length ≤ 4000) : f_are_places [.py d, .py (.int n)] = some (.ok (py (.bool (placesB n d))) .none) := by
  unfold f_are_places b_are_places
  rw [fnOf_eq]
  cases d with
  | dict k => cases nd
  | none => simp [isiT, placesB]
  | bool b => simp [isiT, placesB]
  | int i => simp [isiT, placesB]
  | str s => simp [isiT, placesB]
  | tuple l => simp [isiT, placesB]
  | list ds =>
    obtain ⟨h1, h2⟩ := hel ds rfl
    have hb : ds.length ≤ big := by simp only [big]; omega
    cases ds with
    | nil => simp [isiT, placesB]
    | cons d0 ds0 =>
      have hne : ((((d0 :: ds0).length : Nat) : Int) == 0) = false := by simp; omega
      generalize hds : d0 :: ds0 = ds at *
      have hem : ds.isEmpty = false := by rw [← hds]; rfl
      obtain ⟨r, e2, e⟩ := places_loop (l := .list ds) (n := n) ds none h1
      simp only [locD_none] at e
      by_cases ha : ds.all (inI n) = true
      · obtain ⟨o', rfl⟩ := e2 ha
        rw [if_pos ha] at e
        obtain ⟨is, hi⟩ := all_ints ha
        have hl := asInts_len hi
        have h4 : is.length ≤ 4000 := by omega
        simp [isiT, hb, hne, e, oLenI, dLenI, hi, h4, placesB, hem, ha]
        rw [← hl]
        by_cases q : (nubI is).length = is.length
        · simp [q]
        · have q' : ¬ ((nubI is).length : Int) = (is.length : Int) := by omega
          simp [q, q']
      · rw [if_neg ha] at e
        have ha' : ds.all (inI n) = false := by simpa using ha
        simp [isiT, hb, hne, e, placesB, hem, ha']
end LawX

set_option Elab.async false
set_option linter.all false
set_option autoImplicit false
set_option maxRecDepth 100000
namespace LawX
open PySem L2 VL
/-! ### a right machine is taken -/
theorem nub_nodup {is : List Int} (h : is.Nodup) : nubI is = is := by
  rw [← firstMet_nub, RZ.firstMet_nodup h is.length (Nat.le_refl _), List.take_length]
theorem cast_nodup : ∀ {r : List Nat}, r.Nodup → (r.map fun x : Nat => (x : Int)).Nodup
  | [], _ => List.nodup_nil
  | x :: r, h => by
    obtain ⟨h1, h2⟩ := List.nodup_cons.mp h
    rw [List.map_cons]
    refine List.nodup_cons.mpr ⟨fun hm => ?_, cast_nodup h2⟩
    obtain ⟨y, hy, e⟩ := List.mem_map.mp hm
    have : x = y := by omega
    subst this
    exact h1 hy
theorem placesB_ok {n : Nat} {r : List Nat} (h : RowOk n r) : placesB n (intL r) = true := by
  unfold placesB intL
  dsimp only
  have h1 : (r.map fun x => PyData.int (x : Nat)) = (r.map fun x : Nat => (x : Int)).map PyData.int := by rw [List.map_map]; rfl
  rw [h1, asInts_map]
  have hnb := nub_nodup (cast_nodup h.nd)
  have h2 : (List.map PyData.int (List.map (fun x : Nat => (x : Int)) r)).isEmpty = false := by
    cases r with
    | nil => exact absurd rfl h.ne
    | cons _ _ => rfl
  have h3 : (List.map PyData.int (List.map (fun x : Nat => (x : Int)) r)).all (inI n) = true := by
    refine List.all_eq_true.mpr fun d hd => ?_
    obtain ⟨i, hi, rfl⟩ := List.mem_map.mp hd
    obtain ⟨x, hx, rfl⟩ := List.mem_map.mp hi
    have := h.lt x hx
    simp only [inI, decide_eq_true_eq]
    omega
  rw [h2, h3]
  simp [hnb]
def markG (s : Str) : Prop := s = Str.ofString "" ∨ markB (.str s) = true
theorem intL_places {n : Nat} {r : List Nat} (h : RowOk n r) (hn : n ≤ 100) : f_are_places [.py (intL r), .py (.int n)] = some (.ok (py (.bool true)) .none) := by
  have := are_places_eq (intL r) n rfl fun ds e => by
    unfold intL at e
    cases e
    refine ⟨fun x hx => ?_, by rw [List.length_map]; have := h.len; omega⟩
    obtain ⟨y, _, rfl⟩ := List.mem_map.mp hx
    rfl
  rw [placesB_ok h] at this
  exact this
theorem marks_loop {a0 a1 a2 a3 : Option Ent} : ∀ (l : List Str) (o : Option PyData), (∀ s ∈ l, markG s ∧ s.length ≤ 100) → ∃ o', forGo (gNm 4) (fIf (fAndT (fB (f2 oNe (fVar 4) (fC (.str "")))) (fNotT (fB (fCall 1 none f_is_mark (fCons (fVar 4) fNil))))) (fRaise 0) fNx) (l.map .str) [a0, a1, a2, a3, locD o, none] = some (.ok .nx [a0, a1, a2, a3, locD o', none])
  | [], o, _ => ⟨o, rfl⟩
  | s :: l, o, h => by
    obtain ⟨o', e⟩ := marks_loop (a0 := a0) (a1 := a1) (a2 := a2) (a3 := a3) l (some (.str s)) fun x hx => h x (List.mem_cons_of_mem _ hx)
    obtain ⟨h1, h2⟩ := h s List.mem_cons_self
    refine ⟨o', ?_⟩
    have hm := is_mark_eq (.str s) rfl fun z hz => by
      cases hz
      simp only [big]
      omega
    rw [List.map_cons]
    unfold forGo
    by_cases he : s = Str.ofString ""
    · subst he
      simp at e ⊢
      rw [e]
    · have hb : markB (.str s) = true := h1.resolve_left he
      have he' : (s == Str.ofString "") = false := by simpa using he
      simp [he, he', hm, hb] at e ⊢
      rw [e]
theorem ways_loop {a0 a2 a3 : Option Ent} {ms : List Str} {e4 : Option PyData} (hl : ms.length ≤ 100) : ∀ (l : List (List Nat)) (o : Option PyData), (∀ r ∈ l, RowOk ms.length r) → ∃ o', forGo (gNm 5) (fIf (fNotT (fB (fCall 2 none f_are_places (fCons (fVar 5) (fCons (fBl oLen (fCons (fVar 1) fNil)) fNil))))) (fRaise 0) fNx) (l.map intL) [a0, some (py (strL' ms)), a2, a3, locD e4, locD o] = some (.ok .nx [a0, some (py (strL' ms)), a2, a3, locD e4, locD o'])
  | [], o, _ => ⟨o, rfl⟩
  | r :: l, o, h => by
    obtain ⟨o', e⟩ := ways_loop (a0 := a0) (a2 := a2) (a3 := a3) (e4 := e4) hl l (some (intL r)) fun x hx => h x (List.mem_cons_of_mem _ hx)
    refine ⟨o', ?_⟩
    have hp := intL_places (h r List.mem_cons_self) hl
    rw [List.map_cons]
    unfold forGo
    have hb : ms.length ≤ big := by simp only [big]; omega
    simp [hp, strL', hb] at e ⊢
    rw [e]
theorem flat_strs (l : List Str) : (l.map PyData.str).all flatD = true := List.all_eq_true.mpr fun d hd => by
  obtain ⟨s, _, rfl⟩ := List.mem_map.mp hd
  rfl
theorem flat_ints (l : List Nat) : (l.map fun x => PyData.int (x : Nat)).all flatD = true := List.all_eq_true.mpr fun d hd => by
  obtain ⟨s, _, rfl⟩ := List.mem_map.mp hd
  rfl
def machArgs (m : Mach) : List D := [.py (strL' m.ms), .py (waysL m.ws), .py (intL m.bs)]
def rowsD (m : Mach) : List (List PyData) := m.ws.map fun r => r.map fun x => .int (x : Nat)
theorem init_run {m : Mach} (h : MOk m) (hm : ∀ s ∈ m.ms, markG s ∧ s.length ≤ 100) (u : V) : ∃ o4 o5, b_Machine_init (mE0 u (machArgs m)) = some (.ok .nx [some (.sh (.val u)), some (py (strL' m.ms)), some (py (waysL m.ws)), some (py (intL m.bs)), locD o4, locD o5]) := by
  have hf := h.few
  have hp := h.pos
  have hw := h.lw
  obtain ⟨o4, e4⟩ := marks_loop (a0 := some (.sh (.val u))) (a1 := some (py (strL' m.ms))) (a2 := some (py (waysL m.ws))) (a3 := some (py (intL m.bs))) m.ms none hm
  obtain ⟨o5, e5⟩ := ways_loop (a0 := some (.sh (.val u))) (a2 := some (py (waysL m.ws))) (a3 := some (py (intL m.bs))) (e4 := o4) (by omega) m.ws none h.rows
  refine ⟨o4, o5, ?_⟩
  have hb : m.ms.length ≤ big := by simp only [big]; omega
  have h1 : (1 : Int) ≤ (m.ms.length : Int) := by omega
  have h2 : (m.ms.length : Int) ≤ 12 := by omega
  have hpl := intL_places h.begins (by omega)
  unfold b_Machine_init mE0 machArgs
  have ea : argE none [D.py (strL' m.ms), D.py (waysL m.ws), D.py (intL m.bs)] = [some (py (strL' m.ms)), some (py (waysL m.ws)), some (py (intL m.bs))] := rfl
  rw [ea]
  simp only [locD_none] at e4 e5
  have er : List.replicate 2 (none : Option Ent) = [none, none] := rfl
  rw [er]
  simp [strL', waysL, isiT] at e4 e5 hpl ⊢
  simp [isiT, hb, h1, h2, hp, hf, hw, e4, e5, hpl]
theorem mach_mk {m : Mach} (h : MOk m) (hm : ∀ s ∈ m.ms, markG s ∧ s.length ≤ 100) : MkOk (machArgs m) (m.ms.map .str) (rowsD m) (m.bs.map fun x => .int (x : Nat)) := by
  have hf := h.few
  have hw := h.lw
  refine ⟨?_, flat_strs _, flat_ints _, fun r hr => ?_, by rw [List.length_map]; omega, by unfold rowsD; rw [List.length_map]; omega, by rw [List.length_map]; have := h.begins.len; omega, fun r hr => ?_, fun u => ?_⟩
  · unfold machArgs rowsD strL' waysL intL
    rw [List.map_map]
    rfl
  · unfold rowsD at hr
    obtain ⟨x, _, rfl⟩ := List.mem_map.mp hr
    exact flat_ints x
  · unfold rowsD at hr
    obtain ⟨x, hx, rfl⟩ := List.mem_map.mp hr
    have := (h.rows x hx).len
    rw [List.length_map]
    omega
  · obtain ⟨o4, o5, e⟩ := init_run h hm u
    refine ⟨locD o4, locD o5, ?_, ?_⟩
    · rw [e]
      unfold rowsD strL' waysL intL
      rw [List.map_map]
      rfl
    · exact noOw_ok (by cases o4 <;> cases o5 <;> rfl)
/-- the machine that stands -/
def machI (m : Mach) : D := mIns (m.ms.map .str) (rowsD m) (m.bs.map fun x => .int (x : Nat))
theorem make_eq {m : Mach} (h : MOk m) (hm : ∀ s ∈ m.ms, markG s ∧ s.length ≤ 100) : f_Machine (machArgs m) = some (.ok (.sh (machI m)) .none) := f_Machine_ok (mach_mk h hm)
theorem machI_eq (m : Mach) : machI m = .ins 10 [("marks", .py (strL' m.ms)), ("ways", .py (waysL m.ws)), ("begins", .py (intL m.bs))] := by
  unfold machI mIns rowsD waysL strL' intL
  rw [List.map_map]
  rfl
/-! ### names drawn are marks -/
theorem lt_letter (i : Int) : lt i ∈ letters.cps.toList := by
  have h1 : 0 ≤ i % 26 := Int.emod_nonneg i (by decide)
  have h2 : i % 26 < 26 := Int.emod_lt_of_pos i (by decide)
  unfold lt
  rw [List.getD_eq_getElem?_getD, List.getElem?_eq_getElem (by rw [letters_len']; omega)]
  exact List.getElem_mem _
theorem rest_signs (c : Int) : ∀ n ∈ (restOf c).cps.toList, n ∈ letters.cps.toList := fun n hn => by
  unfold restOf at hn
  rw [List.toList_toArray] at hn
  obtain ⟨j, _, rfl⟩ := List.mem_map.mp hn
  exact lt_letter _
theorem cutN_signs {z : Str} {a b : Nat} : ∀ n ∈ (cutN z a b).cps.toList, n ∈ z.cps.toList := fun n hn => by
  unfold cutN at hn
  rw [List.toList_toArray] at hn
  exact List.mem_of_mem_take (List.mem_of_mem_drop hn)
theorem cutN_len' (z : Str) (a b : Nat) (h : b ≤ z.length) : (cutN z a b).length = b - a := by
  unfold cutN Str.length
  rw [List.size_toArray, List.length_drop, List.length_take, Array.length_toList]
  have : z.cps.size = z.length := rfl
  omega
theorem mark_of {s : Str} (h1 : 1 ≤ s.length) (h2 : s.length ≤ 6) (h3 : ∀ n ∈ s.cps.toList, n ∈ letters.cps.toList) : markB (.str s) = true := by
  unfold markB
  dsimp only
  rw [Bool.and_eq_true]
  exact ⟨by simp [h1, h2], List.all_eq_true.mpr fun n hn => by simpa [signOk] using h3 n hn⟩
theorem app_signs (a b : Str) (n : Nat) (h : n ∈ (a ++ b).cps.toList) : n ∈ a.cps.toList ∨ n ∈ b.cps.toList := by
  have : (a ++ b).cps = a.cps ++ b.cps := rfl
  rw [this] at h
  simpa using h
theorem names_marks (c : Int) : ∀ s ∈ namesOf c, markB (.str s) = true ∧ s.length ≤ 6 := fun s hs => by
  have hr := rest_len c
  have p1 : 0 ≤ c / 3 % 4 := Int.emod_nonneg _ (by decide)
  have p1' : c / 3 % 4 < 4 := Int.emod_lt_of_pos _ (by decide)
  have p2 : 0 ≤ c / 3 % 6 := Int.emod_nonneg _ (by decide)
  have p2' : c / 3 % 6 < 6 := Int.emod_lt_of_pos _ (by decide)
  have p4 : 0 ≤ c / 18 % (c / 3 % 6 + 1) := Int.emod_nonneg _ (by omega)
  have p4' : c / 18 % (c / 3 % 6 + 1) < c / 3 % 6 + 1 := Int.emod_lt_of_pos _ (by omega)
  have cut : ∀ b : Nat, 1 ≤ b → b ≤ 6 → markB (.str (cutN (restOf c) 0 b)) = true ∧ (cutN (restOf c) 0 b).length ≤ 6 := fun b h1 h2 => by
    have hl := cutN_len' (restOf c) 0 b (by omega)
    exact ⟨mark_of (by omega) (by omega) fun n hn => rest_signs c n (cutN_signs n hn), by omega⟩
  unfold namesOf at hs
  split at hs
  · simp only [List.mem_cons, List.not_mem_nil, or_false] at hs
    rcases hs with rfl | rfl | rfl
    · exact cut _ (by omega) (by omega)
    · exact cut _ (by omega) (by omega)
    · exact cut _ (by omega) (by omega)
  · obtain ⟨k, _, rfl⟩ := List.mem_map.mp hs
    have l1 := cutN_len' (restOf c) 0 (c / 18 % (c / 3 % 6 + 1)).toNat (by omega)
    have l2 := cutN_len' (restOf c) (c / 18 % (c / 3 % 6 + 1)).toNat (c / 3 % 6).toNat (by omega)
    have hl : (cutN (restOf c) 0 (c / 18 % (c / 3 % 6 + 1)).toNat ++ ⟨#[lt (c / 90 + 7 * k)]⟩ ++ cutN (restOf c) (c / 18 % (c / 3 % 6 + 1)).toNat (c / 3 % 6).toNat).length = 1 + (c / 3 % 6).toNat := by
      rw [app_len, app_len, one_len]
      omega
    refine ⟨mark_of (by omega) (by omega) fun n hn => ?_, by omega⟩
    rcases app_signs _ _ n hn with h | h
    · rcases app_signs _ _ n h with h | h
      · exact rest_signs c n (cutN_signs n h)
      · simp at h
        subst h
        exact lt_letter _
    · exact rest_signs c n (cutN_signs n h)
theorem names3 (c : Int) : ∃ a b z, namesOf c = [a, b, z] := by
  unfold namesOf
  split
  · exact ⟨_, _, _, rfl⟩
  · exact ⟨_, _, _, rfl⟩
theorem s6_marks {a b z : Str} (h : ∀ s ∈ [a, b, z], markB (.str s) = true ∧ s.length ≤ 6) : ∀ s ∈ s6 a b z, markG s ∧ s.length ≤ 100 := fun s hs => by
  have q : ∀ x, x ∈ [a, b, z] → markG x ∧ x.length ≤ 100 := fun x hx => ⟨.inr (h x hx).1, by have := (h x hx).2; omega⟩
  simp only [s6, List.mem_cons, List.not_mem_nil, or_false] at hs
  rcases hs with rfl | rfl | rfl | rfl | rfl | rfl
  · exact q _ (by simp)
  · exact q _ (by simp)
  · exact q _ (by simp)
  · exact ⟨.inl rfl, by decide +kernel⟩
  · exact q _ (by simp)
  · exact q _ (by simp)
end LawX

set_option Elab.async false
set_option linter.all false
set_option autoImplicit false
set_option maxRecDepth 100000
namespace LawX
open PySem L2 VL
/-! ### any machine is looked at -/
def markOkB : PyData → Bool
  | .str s => decide (s = Str.ofString "") || markB (.str s)
  | _ => false
theorem places_dict (k : List (PyData × PyData)) (n : Nat) : f_are_places [.py (.dict k), .py (.int n)] = some (.ok (py (.bool false)) .none) := by
  unfold f_are_places b_are_places
  rw [fnOf_eq]
  simp [isiT]
/-- a row that may be handed in -/
structure RwOk (d : PyData) : Prop where
  el : ∀ ds, d = .list ds → (∀ x ∈ ds, isD x = false) ∧ ds.length ≤ 4000
theorem places_any (d : PyData) (n : Nat) (h : RwOk d) : f_are_places [.py d, .py (.int n)] = some (.ok (py (.bool (placesB n d))) .none) := by
  cases hd : isD d with
  | false => exact are_places_eq d n hd h.el
  | true =>
    cases d with
    | dict k => exact places_dict k n
    | _ => cases hd
structure McOk (d : PyData) : Prop where
  nd : isD d = false
  sh : SeqAt.shaped d = true
  ln : ∀ s, d = .str s → s.length ≤ 100
def isEm : PyData → Bool
  | .str s => s == Str.ofString ""
  | _ => false
theorem ne_empty {d : PyData} (h : McOk d) : dNe d (.str (Str.ofString "")) = some (py (.bool (!isEm d))) := by
  have h0 : SeqAt.shaped (.str (Str.ofString "")) = true := by decide +kernel
  rw [dNe_ok h.sh h0]
  cases d with
  | dict k => cases h.nd
  | str s => simp only [PyData.eqv, isEm]
  | _ => simp [PyData.eqv, isEm]
theorem any_marks {a0 a1 a2 a3 : Option Ent} : ∀ (l : List PyData) (o : Option PyData), (∀ s ∈ l, McOk s) → ∃ o', forGo (gNm 4) (fIf (fAndT (fB (f2 oNe (fVar 4) (fC (.str "")))) (fNotT (fB (fCall 1 none f_is_mark (fCons (fVar 4) fNil))))) (fRaise 0) fNx) l [a0, a1, a2, a3, locD o, none] = some (if l.all markOkB = true then .ok .nx [a0, a1, a2, a3, locD o', none] else .exc 0 [a0, a1, a2, a3, locD o', none])
  | [], o, _ => ⟨o, rfl⟩
  | d :: l, o, h => by
    obtain ⟨o', e⟩ := any_marks (a0 := a0) (a1 := a1) (a2 := a2) (a3 := a3) l (some d) fun x hx => h x (List.mem_cons_of_mem _ hx)
    have hd := h d List.mem_cons_self
    have hm := is_mark_eq d hd.nd fun z hz => by
      have := hd.ln z hz
      simp only [big]
      omega
    have hn := ne_empty hd
    cases he : isEm d with
    | true =>
      have hk : markOkB d = true := by
        cases d with
        | str s =>
          have : s = Str.ofString "" := by simpa [isEm] using he
          simp [markOkB, this]
        | _ => simp [isEm] at he
      refine ⟨o', ?_⟩
      rw [List.all_cons, hk, Bool.true_and]
      rw [he] at hn
      unfold forGo
      simp at e ⊢
      simp [hn, e]
    | false =>
      rw [he] at hn
      cases hb : markB d with
      | true =>
        have hk : markOkB d = true := by
          cases d with
          | str s => simp [markOkB, hb]
          | _ => simp [markB] at hb
        refine ⟨o', ?_⟩
        rw [List.all_cons, hk, Bool.true_and]
        rw [hb] at hm
        unfold forGo
        simp at e ⊢
        simp [hn, hm, e]
      | false =>
        have hk : markOkB d = false := by
          cases d with
          | str s =>
            have : ¬ s = Str.ofString "" := fun z => by simp [isEm, z] at he
            simp [markOkB, hb, this]
          | _ => rfl
        refine ⟨some d, ?_⟩
        rw [List.all_cons, hk, Bool.false_and]
        rw [hb] at hm
        unfold forGo
        simp
        simp [hn, hm, fRaise]
theorem any_ways {a0 a2 a3 : Option Ent} {ms : List PyData} {e4 : Option PyData} (hl : ms.length ≤ 100) : ∀ (l : List PyData) (o : Option PyData), (∀ r ∈ l, RwOk r) → ∃ o', forGo (gNm 5) (fIf (fNotT (fB (fCall 2 none f_are_places (fCons (fVar 5) (fCons (fBl oLen (fCons (fVar 1) fNil)) fNil))))) (fRaise 0) fNx) l [a0, some (py (.list ms)), a2, a3, locD e4, locD o] = some (if l.all (placesB ms.length) = true then .ok .nx [a0, some (py (.list ms)), a2, a3, locD e4, locD o'] else .exc 0 [a0, some (py (.list ms)), a2, a3, locD e4, locD o'])
  | [], o, _ => ⟨o, rfl⟩
  | r :: l, o, h => by
    obtain ⟨o', e⟩ := any_ways (a0 := a0) (a2 := a2) (a3 := a3) (e4 := e4) hl l (some r) fun x hx => h x (List.mem_cons_of_mem _ hx)
    have hp := places_any r ms.length (h r List.mem_cons_self)
    have hb : ms.length ≤ big := by simp only [big]; omega
    cases hk : placesB ms.length r with
    | true =>
      refine ⟨o', ?_⟩
      rw [List.all_cons, hk, Bool.true_and]
      rw [hk] at hp
      unfold forGo
      simp at e ⊢
      simp [hp, hb, e]
    | false =>
      refine ⟨some r, ?_⟩
      rw [List.all_cons, hk, Bool.false_and]
      rw [hk] at hp
      unfold forGo
      simp
      simp [hp, hb, fRaise]
/-- three things that may be handed in -/
structure ThOk (a b c : PyData) : Prop where
  na : isD a = false
  ma : ∀ ms, a = .list ms → (∀ x ∈ ms, McOk x) ∧ ms.length ≤ 50
  mb : ∀ ws, b = .list ws → (∀ x ∈ ws, RwOk x) ∧ ws.length ≤ 50
  mc : RwOk c
def waysB (n : Nat) : PyData → Bool
  | .list ws => decide (ws.length = n) && ws.all (placesB n)
  | _ => false
def initB (a b c : PyData) : Bool := match a with
  | .list ms => decide (1 ≤ ms.length ∧ ms.length ≤ 12) && ms.all markOkB && waysB ms.length b && placesB ms.length c
  | _ => false
theorem init_bad {a b c : PyData} (h : ThOk a b c) (hb : initB a b c = false) (u : V) : ∃ ρ, b_Machine_init (mE0 u [.py a, .py b, .py c]) = some (.exc 0 ρ) := by
  have ea : mE0 u [.py a, .py b, .py c] = [some (.sh (.val u)), some (py a), some (py b), some (py c), none, none] := rfl
  rw [ea]
  unfold b_Machine_init
  cases a with
  | dict k => cases h.na
  | none => exact ⟨_, by simp [isiT, fRaise]; rfl⟩
  | bool b => exact ⟨_, by simp [isiT, fRaise]; rfl⟩
  | int b => exact ⟨_, by simp [isiT, fRaise]; rfl⟩
  | str b => exact ⟨_, by simp [isiT, fRaise]; rfl⟩
  | tuple b => exact ⟨_, by simp [isiT, fRaise]; rfl⟩
  | list ms =>
    obtain ⟨h1, h2⟩ := h.ma ms rfl
    have hlb : ms.length ≤ big := by simp only [big]; omega
    by_cases hn1 : 1 ≤ ms.length
    · by_cases hn2 : ms.length ≤ 12
      · have i1 : (1 : Int) ≤ (ms.length : Int) := by omega
        have i2 : (ms.length : Int) ≤ 12 := by omega
        have hpos : 0 < ms.length := hn1
        obtain ⟨o4, e4⟩ := any_marks (a0 := some (.sh (.val u))) (a1 := some (py (.list ms))) (a2 := some (py b)) (a3 := some (py c)) ms none h1
        cases hm : ms.all markOkB with
        | false =>
          rw [hm] at e4
          refine ⟨[some (.sh (.val u)), some (py (.list ms)), some (py b), some (py c), locD o4, none], ?_⟩
          simp at e4
          simp [isiT, hlb, i1, i2, hpos, hn2, e4]
        | true =>
          rw [hm] at e4
          have hb' : (waysB ms.length b && placesB ms.length c) = false := by
            have := hb
            unfold initB at this
            simp only [hm] at this
            simpa [hn1, hn2] using this
          cases b with
          | list ws =>
            obtain ⟨h3, h4⟩ := h.mb ws rfl
            have hwb : ws.length ≤ big := by simp only [big]; omega
            by_cases hl : ws.length = ms.length
            · obtain ⟨o5, e5⟩ := any_ways (a0 := some (.sh (.val u))) (a2 := some (py (.list ws))) (a3 := some (py c)) (e4 := o4) (ms := ms) (by omega) ws none h3
              cases hw : ws.all (placesB ms.length) with
              | false =>
                rw [hw] at e5
                refine ⟨[some (.sh (.val u)), some (py (.list ms)), some (py (.list ws)), some (py c), locD o4, locD o5], ?_⟩
                simp at e4 e5
                simp [isiT, hlb, i1, i2, hpos, hn2, e4, hl, e5]
              | true =>
                rw [hw] at e5
                have hc : placesB ms.length c = false := by
                  simpa [waysB, hl, hw] using hb'
                have hp := places_any c ms.length h.mc
                rw [hc] at hp
                refine ⟨[some (.sh (.val u)), some (py (.list ms)), some (py (.list ws)), some (py c), locD o4, locD o5], ?_⟩
                simp at e4 e5
                simp [isiT, hlb, i1, i2, hpos, hn2, e4, hl, e5, hp, fRaise]
            · have hl' : ¬ (ws.length : Int) = (ms.length : Int) := by omega
              refine ⟨[some (.sh (.val u)), some (py (.list ms)), some (py (.list ws)), some (py c), locD o4, none], ?_⟩
              simp at e4
              have hl2 : ((ws.length : Int) == (ms.length : Int)) = false := by simpa using hl'
              simp [isiT, hlb, i1, i2, hpos, hn2, e4, hwb, hl, hl2, fRaise]
          | none =>
            refine ⟨[some (.sh (.val u)), some (py (.list ms)), some (py (.none)), some (py c), locD o4, none], ?_⟩
            simp at e4
            simp [isiT, hlb, i1, i2, hpos, hn2, e4, fRaise]
          | bool b =>
            refine ⟨[some (.sh (.val u)), some (py (.list ms)), some (py (.bool b)), some (py c), locD o4, none], ?_⟩
            simp at e4
            simp [isiT, hlb, i1, i2, hpos, hn2, e4, fRaise]
          | int b =>
            refine ⟨[some (.sh (.val u)), some (py (.list ms)), some (py (.int b)), some (py c), locD o4, none], ?_⟩
            simp at e4
            simp [isiT, hlb, i1, i2, hpos, hn2, e4, fRaise]
          | str b =>
            refine ⟨[some (.sh (.val u)), some (py (.list ms)), some (py (.str b)), some (py c), locD o4, none], ?_⟩
            simp at e4
            simp [isiT, hlb, i1, i2, hpos, hn2, e4, fRaise]
          | tuple b =>
            refine ⟨[some (.sh (.val u)), some (py (.list ms)), some (py (.tuple b)), some (py c), locD o4, none], ?_⟩
            simp at e4
            simp [isiT, hlb, i1, i2, hpos, hn2, e4, fRaise]
          | dict b =>
            refine ⟨[some (.sh (.val u)), some (py (.list ms)), some (py (.dict b)), some (py c), locD o4, none], ?_⟩
            simp at e4
            simp [isiT, hlb, i1, i2, hpos, hn2, e4, fRaise]
      · have i1 : (1 : Int) ≤ (ms.length : Int) := by omega
        have i2 : ¬ (ms.length : Int) ≤ 12 := by omega
        have hpos : 0 < ms.length := hn1
        exact ⟨_, by simp [isiT, hlb, i1, i2, hpos, hn2, fRaise]; rfl⟩
    · have i1 : ¬ (1 : Int) ≤ (ms.length : Int) := by omega
      have hz : ms = [] := by
        cases ms with
        | nil => rfl
        | cons _ _ => simp at hn1
      subst hz
      exact ⟨_, by simp [isiT, fRaise]; rfl⟩
theorem make_bad {a b c : PyData} (h : ThOk a b c) (hb : initB a b c = false) : f_Machine [.py a, .py b, .py c] = some (.exc 0 .none) := f_Machine_exc fun u => init_bad h hb u
end LawX

set_option Elab.async false
set_option linter.all false
set_option autoImplicit false
set_option maxRecDepth 100000
namespace LawX
open PySem L2 VL PySem.Spec PyProof.Rows
noncomputable section
variable {P : Program} {w : World} {K : PySem.W.Frag} {mg : Str → Option Value} {base : Heap} {c : Nat → Addr}
/-! ### _law_refused -/
abbrev s_law_refused : Stmt := topS 23
theorem sc_law_refused : FnScope ["_law_things", "e", "_law_others"] ["_law_things"] (defScope s_law_refused) := ⟨rfl, rfl, rfl, by decide +kernel, rfl, by decide +kernel, by decide +kernel⟩
def exWE : Nat → Option Bool
  | 0 => some true
  | _ => none
def suR : Nat → V → S
  | 0, u => sq (fSet 2 (fSh (fIsE u 1 false))) (fRet (fAnd (fIsE u 1 true) (fAnd (fIsE u 1 true) (fNot (fVar 2)))))
  | _, _ => fun _ => none
def b_law_refused : S := sq (fTry 1 (fDrop (fCall 3 none f_Machine (fCons (f2 oIx (fVar 0) (fC (.int 0))) (fCons (f2 oIx (fVar 0) (fC (.int 1))) (fCons (f2 oIx (fVar 0) (fC (.int 2))) fNil))))) exWE suR) (fRet (fC (.bool false)))
def f_law_refused : Fn := fnOf 3 none b_law_refused
theorem dv_law_refused {f : Addr} {cdv : Value} {A : Around} {outer : List Env} {s : Shared} {H : Hp} {E : XK} (hr : Room 5 (A.deeper (envOfC "_law_refused" (defScope s_law_refused) s.heap.objs.size f cdv))) (z_isinstance : mg "isinstance" = none) (z_ve : mg "ValueError" = none)
    (X_WalkError : XcAt K mg "WalkError" (c 4)) (X_BadSaying : XcAt K mg "BadSaying" (c 2)) (X_TooMany : XcAt K mg "TooMany" (c 3)) (X_BadMachine : XcAt K mg "BadMachine" (c 0)) (X_NoWalk : XcAt K mg "NoWalk" (c 1))
    (K_Machine : MkAt P w K mg base c 4 "Machine" 10 3 f_Machine)
    (q_w : PySem.W.subIn K (.ref (c 0)) (.ref (c 4)) = some true) (q_1 : PySem.W.subIn K (.ref (c 0)) (.ref (c 1)) = some false) (q_2 : PySem.W.subIn K (.ref (c 0)) (.ref (c 2)) = some false) (q_3 : PySem.W.subIn K (.ref (c 0)) (.ref (c 3)) = some false) :
    DSs (bodyCx P w K mg base ["_law_things", "e", "_law_others"] "_law_refused" s_law_refused f cdv A outer s H E) c (WE0 E) (defBody s_law_refused) b_law_refused :=
  ds_cons (ds_try 1 (cv := .ref (c 4)) rfl rfl sc_law_refused.nd rfl rfl ⟨rfl, by decide, .inl X_WalkError.e.g⟩ (takes_of rfl rfl rfl rfl) (fun k b h => by
      unfold exWE at h
      split at h
      · cases h
        exact exm_at X_WalkError q_w
      · cases h)
    (fun W' pn xe tk _ => ds_one (ds_expr (de_make K_Machine (hr.mono (by decide)) tk (by rfl) (da_cons (de_ix (de_var 0) de_int) (da_cons (de_ix (de_var 0) de_int) (da_cons (de_ix (de_var 0) de_int) da_nil))))))
    (fun k a oe pn hz hf => match k, hz with
      | 0, hz => ds_cons (ds_set 2 sc_law_refused.nd rfl (.inl rfl) (de_sh (de_isET (i := 1) X_BadMachine.c hz hf rfl (Or.inl rfl) (by decide) (by decide) rfl z_isinstance (pa_cons' (pe_cls X_BadSaying rfl) (pa_cons' (pe_cls X_NoWalk rfl) (pa_cons' (pe_cls X_TooMany rfl) pa_nil'))) (by show 3 ≤ 1000; decide) (.cons (.own _) (.cons (.own _) (.cons (.own _) .nil))) (kitAny_cons (kit_ref X_BadMachine X_BadSaying q_2) (fun _ => kitAny_cons (kit_ref X_BadMachine X_NoWalk q_1) (fun _ => kitAny_cons (kit_ref X_BadMachine X_TooMany q_3) (fun _ => kitAny_nil) (fun z => nomatch z)) (fun z => nomatch z)) (fun z => nomatch z)))))
          (ds_one (ds_ret (de_and (de_isE (i := 1) X_BadMachine.c hz hf rfl (Or.inl rfl) (by decide) (by decide) rfl z_isinstance (pe_cls X_BadMachine rfl) (fun _ h => h) (kit_self X_BadMachine)) (de_and (de_isE (i := 1) X_BadMachine.c hz hf rfl (Or.inl rfl) (by decide) (by decide) rfl z_isinstance (pe_ve rfl z_ve) (fun _ h => h) (kit_ve X_BadMachine)) (de_one (de_not (de_var 2)))))))
      | _ + 1, _ => ds_never))
   (ds_one (ds_ret de_bool))
theorem ok_law_refused {f : Addr} {fd : FuncData} (F : Fun K "_law_refused" "_law_refused" s_law_refused f fd) (hm : mg "_law_refused" = some (.ref f)) (bi : Binds K fd ["_law_things"] []) (z_isinstance : mg "isinstance" = none) (z_ve : mg "ValueError" = none)
    (X_WalkError : XcAt K mg "WalkError" (c 4)) (X_BadSaying : XcAt K mg "BadSaying" (c 2)) (X_TooMany : XcAt K mg "TooMany" (c 3)) (X_BadMachine : XcAt K mg "BadMachine" (c 0)) (X_NoWalk : XcAt K mg "NoWalk" (c 1))
    (K_Machine : MkAt P w K mg base c 4 "Machine" 10 3 f_Machine)
    (q_w : PySem.W.subIn K (.ref (c 0)) (.ref (c 4)) = some true) (q_1 : PySem.W.subIn K (.ref (c 0)) (.ref (c 1)) = some false) (q_2 : PySem.W.subIn K (.ref (c 0)) (.ref (c 2)) = some false) (q_3 : PySem.W.subIn K (.ref (c 0)) (.ref (c 3)) = some false) : FnAt P w K mg base c 6 "_law_refused" 1 none f_law_refused :=
  ⟨f, fd, ["_law_things"], hm, F.kp, bi, rfl, fn_ok none F sc_law_refused fun cdv A outer s H E hr => dv_law_refused hr z_isinstance z_ve X_WalkError X_BadSaying X_TooMany X_BadMachine X_NoWalk K_Machine q_w q_1 q_2 q_3⟩
theorem refused_eq {a b d : PyData} (h : f_Machine [.py a, .py b, .py d] = some (.exc 0 .none)) : f_law_refused [.py (.list [a, b, d])] = some (.ok (py (.bool true)) .none) := by
  unfold f_law_refused b_law_refused
  rw [fnOf_eq]
  have key : fTry 1 (fDrop (fCall 3 none f_Machine (fCons (f2 oIx (fVar 0) (fC (.int 0))) (fCons (f2 oIx (fVar 0) (fC (.int 1))) (fCons (f2 oIx (fVar 0) (fC (.int 2))) fNil))))) exWE suR [some (py (.list [a, b, d])), none, none] = some (.ok (.rt (py (.bool true))) [some (py (.list [a, b, d])), none, some (py (.bool false))]) := by
    refine fTry_exc (k := 0) (ρ' := [some (py (.list [a, b, d])), none, none]) (by simp [h]) rfl rfl fun u => ?_
    unfold suR
    have i1 := fun (x4 : Option Ent) (b' : Bool) => fIsE_at (u := u) (i := 1) (b := b') (ρ := [some (py (.list [a, b, d])), some (.sh (.val u)), x4]) rfl
    simp [i1, fGone]
  simp [key]
end
end LawX

set_option Elab.async false
set_option linter.all false
set_option autoImplicit false
set_option maxRecDepth 100000
namespace LawX
open PySem L2 VL
def intN (l : List Nat) : List PyData := l.map fun x => .int (x : Nat)
@[simp] theorem intN_len (l : List Nat) : (intN l).length = l.length := by simp [intN]
theorem canAll0 : ∀ {ds : List PyData}, (∀ d ∈ ds, d.canLay0 = true) → PyData.canLayAll0 ds = true
  | [], _ => rfl
  | d :: ds, h => by
    simp only [PyData.canLayAll0, h d List.mem_cons_self, canAll0 fun x hx => h x (List.mem_cons_of_mem _ hx), Bool.and_self]
theorem depthAll_le0 {n : Nat} : ∀ {ds : List PyData}, (∀ d ∈ ds, d.depth ≤ n) → PyData.depthAll ds ≤ n
  | [], _ => by simp [PyData.depthAll]
  | d :: ds, h => by
    have h1 := h d List.mem_cons_self
    have h2 := depthAll_le0 (n := n) fun x hx => h x (List.mem_cons_of_mem d hx)
    simp only [PyData.depthAll]
    omega
theorem shaped_list0 {ds : List PyData} (n : Nat) (hn : n ≤ 60) (h : ∀ d ∈ ds, d.canLay0 = true ∧ d.depth ≤ n) : SeqAt.shaped (.list ds) = true := by
  have h1 := canAll0 fun d hd => (h d hd).1
  have h2 := depthAll_le0 fun d hd => (h d hd).2
  unfold SeqAt.shaped
  rw [Bool.and_eq_true]
  refine ⟨by simp only [PyData.canLay0]; exact h1, decide_eq_true ?_⟩
  simp only [PyData.depth]
  omega
theorem list_fact {ds : List PyData} (n : Nat) (h : ∀ d ∈ ds, d.canLay0 = true ∧ d.depth ≤ n) : (PyData.list ds).canLay0 = true ∧ (PyData.list ds).depth ≤ n + 1 := by
  have h1 := canAll0 fun d hd => (h d hd).1
  have h2 := depthAll_le0 fun d hd => (h d hd).2
  exact ⟨by simp only [PyData.canLay0]; exact h1, by simp only [PyData.depth]; omega⟩
theorem ints_fact (l : List Nat) : ∀ d ∈ intN l, d.canLay0 = true ∧ d.depth ≤ 1 := fun d hd => by
  obtain ⟨x, _, rfl⟩ := List.mem_map.mp hd
  exact ⟨rfl, by simp [PyData.depth]⟩
theorem intN_shaped (l : List Nat) : SeqAt.shaped (.list (intN l)) = true := shaped_list0 1 (by decide) (ints_fact l)
theorem eqv_self {d : PyData} (h : SeqAt.shaped d = true) : PyData.eqv d d = true := PySem.SeqAt.eqv_refl d (SeqAt.canLay_of_shaped h)
theorem ne_self {d : PyData} (h : SeqAt.shaped d = true) : dNe d d = some (py (.bool false)) := by
  rw [dNe_ok h h, eqv_self h]
  rfl
theorem eq_self {d : PyData} (h : SeqAt.shaped d = true) : dEq d d = some (py (.bool true)) := by
  rw [dEq_ok h h, eqv_self h]
theorem lay_iff {s : Str} : (PyData.str s).canLay0 = true ↔ ∀ n ∈ s.cps.toList, n < 0x110000 := by
  simp only [PyData.canLay0, PyData.strOk, Array.all_eq_true_iff_forall_mem]
  simp
theorem markG_lay {s : Str} (h : markG s) : (PyData.str s).canLay0 = true := by
  rcases h with rfl | h
  · decide +kernel
  · unfold markB at h
    dsimp only at h
    rw [Bool.and_eq_true] at h
    have h2 := List.all_eq_true.mp h.2
    have hl : ∀ n ∈ letters.cps.toList, n < 0x110000 := by decide +kernel
    refine lay_iff.mpr fun n hn => ?_
    have := h2 n hn
    simp only [signOk, decide_eq_true_eq] at this
    exact hl n this
theorem str_shaped {s : Str} (h : markG s) : SeqAt.shaped (.str s) = true := by
  unfold SeqAt.shaped
  rw [Bool.and_eq_true]
  exact ⟨markG_lay h, by simp [PyData.depth]⟩
def GoodM (m : Mach) : Prop := ∀ s ∈ m.ms, markG s ∧ s.length ≤ 100
def mk (m : Mach) (p : Nat) : Str := m.ms.getD p ⟨#[]⟩
def rowN (m : Mach) (p : Nat) : List Nat := m.ws.getD p []
theorem fld_marks (m : Mach) (ρ : DEnv) : oFld 10 "marks" ρ (.sh (machI m)) = some (py (.list (m.ms.map .str))) := by
  rw [machI_eq]
  simp [oFld, List.lookup, strL']
theorem fld_ways (m : Mach) (ρ : DEnv) : oFld 10 "ways" ρ (.sh (machI m)) = some (py (.list (m.ws.map intL))) := by
  rw [machI_eq]
  simp [oFld, List.lookup, waysL]
theorem fld_begins (m : Mach) (ρ : DEnv) : oFld 10 "begins" ρ (.sh (machI m)) = some (py (.list (intN m.bs))) := by
  rw [machI_eq]
  simp [oFld, List.lookup, intL, intN]
theorem ins_mark (m : Mach) (ρ : DEnv) : insO 10 "mark" (.sh (machI m)) ρ = some (.ok (.sh (machI m)) ρ) := by
  rw [machI_eq]
  simp [insO, List.lookup]
theorem ins_leads (m : Mach) (ρ : DEnv) : insO 10 "leads" (.sh (machI m)) ρ = some (.ok (.sh (machI m)) ρ) := by
  rw [machI_eq]
  simp [insO, List.lookup]
theorem ins_starts (m : Mach) (ρ : DEnv) : insO 10 "starts" (.sh (machI m)) ρ = some (.ok (.sh (machI m)) ρ) := by
  rw [machI_eq]
  simp [insO, List.lookup]
theorem mark_at {m : Mach} {p : Nat} (hp : p < m.ms.length) : (m.ms.map PyData.str)[p]? = some (.str (mk m p)) := by
  rw [List.getElem?_map, List.getElem?_eq_getElem hp]
  unfold mk
  rw [List.getD_eq_getElem?_getD, List.getElem?_eq_getElem hp]
  rfl
theorem row_at {m : Mach} {p : Nat} (hp : p < m.ws.length) : (m.ws.map intL)[p]? = some (.list (intN (rowN m p))) := by
  rw [List.getElem?_map, List.getElem?_eq_getElem hp]
  unfold rowN
  rw [List.getD_eq_getElem?_getD, List.getElem?_eq_getElem hp]
  rfl
theorem mark_eq {m : Mach} {p : Nat} (hp : p < m.ms.length) : f_Machine_mark [machI m, .py (.int p)] = some (.ok (py (.str (mk m p))) .none) := by
  unfold f_Machine_mark b_Machine_mark
  rw [fnOf_eq]
  have h := fld_marks m
  have hg := mark_at hp
  generalize machI m = M at *
  generalize m.ms.map PyData.str = L at *
  simp [h, hg]
theorem leads_eq {m : Mach} (hm : MOk m) {p : Nat} (hp : p < m.ms.length) : f_Machine_leads [machI m, .py (.int p)] = some (.ok (.own (.list (intN (rowN m p))) false) .none) := by
  unfold f_Machine_leads b_Machine_leads
  rw [fnOf_eq]
  have h := fld_ways m
  have hw := hm.lw
  have hg := row_at (m := m) (p := p) (by omega)
  generalize machI m = M at *
  generalize m.ws.map intL = L at *
  simp [h, hg]
theorem starts_eq (m : Mach) : f_Machine_starts [machI m] = some (.ok (.own (.list (intN m.bs)) false) .none) := by
  unfold f_Machine_starts b_Machine_starts
  rw [fnOf_eq]
  have h := fld_begins m
  generalize machI m = M at *
  simp [h]
theorem in_trues (n : Nat) : dIn false (.bool true) (.list (List.replicate n (.bool false))) = some (py (.bool false)) := by
  have h1 : (List.replicate n (PyData.bool false)).all flatP = true := List.all_eq_true.mpr fun d hd => by
    rw [(List.mem_replicate.mp hd).2]
    rfl
  have h2 : memP (.bool true) (List.replicate n (.bool false)) = false := by
    unfold memP
    refine List.any_eq_false.mpr fun d hd => ?_
    rw [(List.mem_replicate.mp hd).2]
    simp
  rw [dIn_list, if_pos, h2]
  · rfl
  · simp [inOk, flatP, h1]
theorem bool_comp {i : Nat} {l : List Nat} {a0 a1 a2 a3 a4 a5 a6 : Option Ent} (hn : l.length ≤ 200) (h1 : ([a0, a1, a2, a3, a4, a5, a6, none] : DEnv)[i]? = some (some (py (.list (intN l))))) (no : noOwn [a0, a1, a2, a3, a4, a5, a6, none] [7] = true) :
    fComp (fItems (fVar i)) (gNm 7) (VL.ret true) (fBl oIsi (fCons (fVar 7) (fCons (fTy "bool") fNil))) [7] [a0, a1, a2, a3, a4, a5, a6, none] = some (.ok (.own (.list (List.replicate l.length (.bool false))) false) [a0, a1, a2, a3, a4, a5, a6, none]) := by
  have := comp_pure (vs := [7]) (tt := VL.ret true) (tg := gNm 7) (te := fBl oIsi (fCons (fVar 7) (fCons (fTy "bool") fNil))) (src := fItems (fVar i)) (ρ := [a0, a1, a2, a3, a4, a5, a6, none]) l (fun p => .int (p : Nat)) (fun p => .bool false) (by simp [h1, intN]) (by simp only [big]; omega) no fun p hp =>
    ⟨[a0, a1, a2, a3, a4, a5, a6, some (py (.int p))], rfl, rfl, by simp [isiT], rfl⟩
  rw [this, List.map_const']
def lrB : S := (sq (fSet 6 (fSh (fMeth 10 "leads" 2 none f_Machine_leads (fVar 0) (fCons (fVar 5) fNil))))
    (sq (fIf (fOrT (fNotT (fB (fBl oIsi (fCons (fVar 6) (fCons (fTy "list") fNil))))) (fOrT (fB (f2 oNe (fVar 6) (f2 oIx (fVar 2) (fVar 5)))) (fNotT (fB (fBl oIsi (fCons (fMeth 10 "mark" 2 none f_Machine_mark (fVar 0) (fCons (fVar 5) fNil)) (fCons (fTy "str") fNil))))))) (fRet (fC (.bool false))) fNx)
    (fIf (fOrT (fB (f2 oNe (fMeth 10 "mark" 2 none f_Machine_mark (fVar 0) (fCons (fVar 5) fNil)) (f2 oIx (fVar 1) (fVar 5)))) (fB (f2 (oIn false) (fC (.bool true)) (fComp (fItems (fVar 6)) (gNm 7) (ret true) (fBl oIsi (fCons (fVar 7) (fCons (fTy "bool") fNil))) [7])))) (fRet (fC (.bool false))) fNx)))
theorem b_right : b_law_right = (sq (fSet 4 (fSh (fMeth 10 "starts" 1 none f_Machine_starts (fVar 0) fNil)))
    (sq (fIf (fOrT (fNotT (fB (fBl oIsi (fCons (fVar 4) (fCons (fTy "list") fNil))))) (fOrT (fB (f2 oNe (fVar 4) (fVar 3))) (fB (f2 (oIn false) (fC (.bool true)) (fComp (fItems (fVar 4)) (gNm 7) (ret true) (fBl oIsi (fCons (fVar 7) (fCons (fTy "bool") fNil))) [7]))))) (fRet (fC (.bool false))) fNx)
    (sq (fFor (bnd (fCons (fBl oLen (fCons (fVar 1) fNil)) fNil) rng1) (gNm 5) lrB)
    (fRet (fC (.bool true)))))) := rfl
theorem fIns_ap (j : Nat) (name : Str) (fo : VL.M Ent) (ρ : DEnv) : fIns j name fo ρ = evM (fo ρ) (insO j name) := bnd_eq ..
theorem lrB_at {m : Mach} (hm : MOk m) (hg : GoodM m) {a3 a4 : Option Ent} {p : Nat} (hp : p < m.ms.length) (no : noOw [a3, a4] = true) (o6 : Option PyData) : lrB [some (.sh (machI m)), some (py (.list (m.ms.map .str))), some (py (.list (m.ws.map intL))), a3, a4, some (py (.int p)), locD o6, none] = some (.ok .nx [some (.sh (machI m)), some (py (.list (m.ms.map .str))), some (py (.list (m.ws.map intL))), a3, a4, some (py (.int p)), some (py (.list (intN (rowN m p)))), none]) := by
  have hl := leads_eq hm hp
  have hk := mark_eq hp
  have i1 := ins_leads m
  have i2 := ins_mark m
  have hw := hm.lw
  have hf := hm.few
  have g1 := mark_at hp
  have g2 := row_at (m := m) (p := p) (by omega)
  have hrow : rowN m p ∈ m.ws := by
    unfold rowN
    rw [List.getD_eq_getElem?_getD, List.getElem?_eq_getElem (by omega)]
    exact List.getElem_mem _
  have rl := (hm.rows _ hrow).len
  have hmem : mk m p ∈ m.ms := by
    unfold mk
    rw [List.getD_eq_getElem?_getD, List.getElem?_eq_getElem hp]
    exact List.getElem_mem hp
  have n1 := ne_self (intN_shaped (rowN m p))
  have n2 := ne_self (str_shaped (hg _ hmem).1)
  have bc := bool_comp (i := 6) (l := rowN m p) (a0 := some (.sh (machI m))) (a1 := some (py (.list (m.ms.map .str)))) (a2 := some (py (.list (m.ws.map intL)))) (a3 := a3) (a4 := a4) (a5 := some (py (.int p))) (a6 := some (py (.list (intN (rowN m p))))) (by omega) rfl rfl
  have it := in_trues (rowN m p).length
  unfold lrB
  generalize machI m = M at *
  generalize m.ms.map PyData.str = MS at *
  generalize m.ws.map intL = WS at *
  generalize List.replicate (rowN m p).length (PyData.bool false) = RB at *
  generalize intN (rowN m p) = R at *
  simp at it
  simp [fMeth, fIns_ap, i1, i2, hl, hk, g1, g2, n1, n2, isiT, bc, it.1, it.2]
end LawX

set_option Elab.async false
set_option linter.all false
set_option autoImplicit false
set_option maxRecDepth 100000
namespace LawX
open PySem L2 VL
theorem lr_loop {m : Mach} (hm : MOk m) (hg : GoodM m) {a3 a4 : Option Ent} (no : noOw [a3, a4] = true) : ∀ (ks : List Nat) (o5 : Option Nat) (o6 : Option PyData), (∀ k ∈ ks, k < m.ms.length) → ∃ o5' o6', forGo (gNm 5) lrB (ks.map fun i => .int (i : Nat)) [some (.sh (machI m)), some (py (.list (m.ms.map .str))), some (py (.list (m.ws.map intL))), a3, a4, loc o5, locD o6, none] = some (.ok .nx [some (.sh (machI m)), some (py (.list (m.ms.map .str))), some (py (.list (m.ws.map intL))), a3, a4, loc o5', locD o6', none])
  | [], o5, o6, _ => ⟨o5, o6, rfl⟩
  | k :: ks, o5, o6, h => by
    obtain ⟨o5', o6', e⟩ := lr_loop hm hg no ks (some k) (some (.list (intN (rowN m k)))) fun x hx => h x (List.mem_cons_of_mem _ hx)
    have hb := lrB_at hm hg (h k List.mem_cons_self) no o6
    refine ⟨o5', o6', ?_⟩
    rw [List.map_cons]
    unfold forGo
    generalize machI m = M at *
    simp at e hb ⊢
    rw [hb]
    simp [e]
theorem right_eq {m : Mach} (hm : MOk m) (hg : GoodM m) : f_law_right [machI m, .py (strL' m.ms), .py (waysL m.ws), .py (intL m.bs)] = some (.ok (py (.bool true)) .none) := by
  have hs := starts_eq m
  have i1 := ins_starts m
  have hf := hm.few
  have rl := hm.begins.len
  obtain ⟨o5, o6, eL⟩ := lr_loop hm hg (a3 := some (py (.list (intN m.bs)))) (a4 := some (py (.list (intN m.bs)))) rfl (List.range m.ms.length) none none fun k hk => List.mem_range.mp hk
  have n1 := ne_self (intN_shaped m.bs)
  have bc := bool_comp (i := 4) (l := m.bs) (a0 := some (.sh (machI m))) (a1 := some (py (.list (m.ms.map .str)))) (a2 := some (py (.list (m.ws.map intL)))) (a3 := some (py (.list (intN m.bs)))) (a4 := some (py (.list (intN m.bs)))) (a5 := none) (a6 := none) (by omega) rfl rfl
  have it := in_trues m.bs.length
  have hl : (m.ms.map PyData.str).length = m.ms.length := List.length_map ..
  have hb : m.ms.length ≤ big := by simp only [big]; omega
  have hr : inRng (m.ms.length : Int) = true := by simp [inRng]; omega
  unfold f_law_right
  rw [b_right, fnOf_eq]
  have e1 : strL' m.ms = .list (m.ms.map .str) := rfl
  have e2 : waysL m.ws = .list (m.ws.map intL) := rfl
  have e3 : intL m.bs = .list (intN m.bs) := rfl
  rw [e1, e2, e3]
  generalize machI m = M at *
  generalize m.ms.map PyData.str = MS at *
  generalize m.ws.map intL = WS at *
  generalize List.replicate m.bs.length (PyData.bool false) = RB at *
  generalize intN m.bs = R at *
  simp at it eL
  simp [fMeth, fIns_ap, i1, hs, n1, isiT, bc, it.1, it.2, hl, hb, hr, intsD_zero, eL]
/-! ### what is wrong -/
def oddsL (n : Nat) : List PyData := [.int (-1), .int (n : Nat), .bool true, .none, .str (Str.ofString "0"), .list [.int 0], .int 100000000000000000000]
theorem odds_bad {n : Nat} (hn : n ≤ 12) : ∀ o ∈ oddsL n, inI n o = false ∧ isD o = false := fun o ho => by
  simp only [oddsL, List.mem_cons, List.not_mem_nil, or_false] at ho
  rcases ho with rfl | rfl | rfl | rfl | rfl | rfl | rfl
  · exact ⟨by simp [inI], rfl⟩
  · exact ⟨by simp [inI], rfl⟩
  · exact ⟨rfl, rfl⟩
  · exact ⟨rfl, rfl⟩
  · exact ⟨rfl, rfl⟩
  · exact ⟨rfl, rfl⟩
  · refine ⟨?_, rfl⟩
    simp only [inI, decide_eq_false_iff_not]
    omega
def wrongRows (R : List PyData) (o : PyData) : List PyData := [.list [], .list [o], .list (R ++ [o]), .list (R ++ R.take 1), .tuple R, .none, .int 0, .dict [], .str (Str.ofString "0")]
def wrongSigns : List PyData := [.str (Str.ofString "A"), .str (Str.ofString "abcdefg"), .int 5, .none, .list [.str (Str.ofString "a")], .str (Str.ofString "a b"), .bool true]
def wrongs (n A : Nat) (MS WS BS R : List PyData) (o : PyData) : List PyData :=
  [.list [.list MS, .list WS, .list []], .list [.list MS, .list WS, .list [o]], .list [.list MS, .list WS, .list (BS ++ BS.take 1)], .list [.list MS, .list WS, .tuple BS],
   .list [.list MS, .list WS, .none], .list [.list [], .list [], .list []], .list [.list [], .list [], .list [.int 0]], .list [.list MS, .list WS.dropLast, .list BS],
   .list [.list MS, .list (WS ++ [.list [.int 0]]), .list BS]] ++ (wrongRows R o).map (fun r => .list [.list MS, .list (WS.take A ++ r :: WS.drop (A + 1)), .list BS]) ++
  wrongSigns.map (fun s => .list [.list (MS.take A ++ s :: MS.drop (A + 1)), .list WS, .list BS]) ++ [.list [.tuple MS, .list WS, .list BS], .list [.list MS, .tuple WS, .list BS]] ++
  [.list [.list (List.replicate 13 (.str (Str.ofString ""))), .list (List.replicate 13 (.list [.int 0])), .list [.int 0]]]
theorem cut_m1 {α : Type} {xs : List α} : cutL xs none (some (-1)) = xs.dropLast := by
  unfold cutL HT.sIx
  rw [List.dropLast_eq_take]
  simp
  congr 1
  omega
theorem cut_1 {α : Type} {xs : List α} : cutL xs none (some 1) = xs.take 1 := by
  rw [cut_to (by decide)]
  rfl
theorem cut_toN {α : Type} {xs : List α} {j : Nat} : cutL xs none (some (j : Int)) = xs.take j := by
  rw [cut_to (by omega)]
  simp
theorem cut_fromN {α : Type} {xs : List α} {j : Nat} : cutL xs (some ((j : Int) + 1)) none = xs.drop (j + 1) := by
  rw [cut_from (by omega)]
  congr 1
set_option maxHeartbeats 0 in
theorem wrong_eq (cell : Int) {n : Nat} {MS WS BS R : List PyData} (h0 : 0 < n) (hn : n ≤ 12) (lM : MS.length = n) (lW : WS.length = n) (lB : BS.length ≤ 12) (hR : ∀ A, A < n → ∃ R : List PyData, R.length ≤ 12 ∧ WS[A]? = some (.list R)) :
    ∃ A R o x, A < n ∧ WS[A]? = some (.list R) ∧ R.length ≤ 12 ∧ o ∈ oddsL n ∧ x ∈ wrongs n A MS WS BS R o ∧ f_law_wrong [.py (.int cell), .py (.list MS), .py (.list WS), .py (.list BS)] = some (.ok (py x) .none) := by
  have a1 := Int.emod_nonneg (cell / 28) (show (n : Int) ≠ 0 by omega)
  have a2 := Int.emod_lt_of_pos (cell / 28) (show (0 : Int) < n by omega)
  obtain ⟨A, hA⟩ : ∃ A : Nat, cell / 28 % (n : Int) = (A : Int) := ⟨_, (Int.toNat_of_nonneg a1).symm⟩
  have hAn : A < n := by omega
  obtain ⟨R, lR, gR⟩ := hR A hAn
  have o1 := Int.emod_nonneg (cell / 400) (show (7 : Int) ≠ 0 by omega)
  have o2 := Int.emod_lt_of_pos (cell / 400) (show (0 : Int) < 7 by omega)
  obtain ⟨q, hq⟩ : ∃ q : Nat, cell / 400 % 7 = (q : Int) := ⟨_, (Int.toNat_of_nonneg o1).symm⟩
  have hq7 : q < (oddsL n).length := by show q < 7; omega
  have hO : (oddsL n)[q]? = some (oddsL n)[q] := List.getElem?_eq_getElem hq7
  have hOm := List.getElem_mem hq7
  have k1 := Int.emod_nonneg cell (show (28 : Int) ≠ 0 by omega)
  have k2 := Int.emod_lt_of_pos cell (show (0 : Int) < 28 by omega)
  obtain ⟨k, hk⟩ : ∃ k : Nat, cell % 28 = (k : Int) := ⟨_, (Int.toNat_of_nonneg k1).symm⟩
  generalize (oddsL n)[q] = o at hO hOm
  have hlen : (wrongs n A MS WS BS R o).length = 28 := by simp [wrongs, wrongRows, wrongSigns]
  have hk28 : k < (wrongs n A MS WS BS R o).length := by rw [hlen]; omega
  have hX : (wrongs n A MS WS BS R o)[k]? = some (wrongs n A MS WS BS R o)[k] := List.getElem?_eq_getElem hk28
  refine ⟨A, R, o, (wrongs n A MS WS BS R o)[k], hAn, gR, lR, hOm, List.getElem_mem hk28, ?_⟩
  generalize (wrongs n A MS WS BS R o)[k] = x at hX ⊢
  have b1 : n ≤ big := by simp only [big]; omega
  have b2 : BS.length + min 1 BS.length ≤ big := by simp only [big]; omega
  have b3 : R.length + min 1 R.length ≤ big := by simp only [big]; omega
  have b4 : R.length + 1 ≤ big := by simp only [big]; omega
  have b5 : n + 1 ≤ big := by simp only [big]; omega
  have b6 : min A n + 1 ≤ big := by simp only [big]; omega
  have b7' : min A n + 1 + (n - (A + 1)) ≤ big := by simp only [big]; omega
  have b8 : (8 : Nat) ≤ big := by decide
  have b9 : (9 : Nat) ≤ big := by decide
  have b10 : (18 : Nat) ≤ big := by decide
  have b11 : (25 : Nat) ≤ big := by decide
  have b12 : (27 : Nat) ≤ big := by decide
  have b13 : (28 : Nat) ≤ big := by decide
  have b14 : (13 : Nat) ≤ big := by decide
  have b15 : BS.length ≤ big := by simp only [big]; omega
  have b16 : R.length ≤ big := by simp only [big]; omega
  have key1 := fun b7 : Option Ent => comp_pure (vs := [10]) (tt := VL.ret true) (tg := gNm 10) (te := fLst (fCons (fVar 1) (fCons (f2 oAdd (f2 oAdd (fSl (fVar 2) fNoP (fP (fVar 5))) (fLst (fCons (fVar 10) fNil))) (fSl (fVar 2) (fP (f2 oAdd (fVar 5) (fC (.int 1)))) fNoP)) (fCons (fVar 3) fNil)))) (src := fItems (fVar 8))
    (ρ := [some (py (.int cell)), some (py (.list MS)), some (py (.list WS)), some (py (.list BS)), some (py (.int (n : Nat))), some (py (.int (A : Nat))), some (py o), b7, some (py (.list (wrongRows R o))), none, none, none])
    (wrongRows R o) id (fun r => .list [.list MS, .list (WS.take A ++ r :: WS.drop (A + 1)), .list BS]) (by simp) (by show 9 ≤ big; decide) rfl fun r _ =>
      ⟨[some (py (.int cell)), some (py (.list MS)), some (py (.list WS)), some (py (.list BS)), some (py (.int (n : Nat))), some (py (.int (A : Nat))), some (py o), b7, some (py (.list (wrongRows R o))), none, some (py r), none], rfl, rfl, by simp [lW, cut_toN, cut_fromN, b6, b7', b14], rfl⟩
  have key2 := fun b7 b8 : Option Ent => comp_pure (vs := [11]) (tt := VL.ret true) (tg := gNm 11) (te := fLst (fCons (f2 oAdd (f2 oAdd (fSl (fVar 1) fNoP (fP (fVar 5))) (fLst (fCons (fVar 11) fNil))) (fSl (fVar 1) (fP (f2 oAdd (fVar 5) (fC (.int 1)))) fNoP)) (fCons (fVar 2) (fCons (fVar 3) fNil)))) (src := fItems (fVar 9))
    (ρ := [some (py (.int cell)), some (py (.list MS)), some (py (.list WS)), some (py (.list BS)), some (py (.int (n : Nat))), some (py (.int (A : Nat))), some (py o), b7, b8, some (py (.list wrongSigns)), none, none])
    wrongSigns id (fun s => .list [.list (MS.take A ++ s :: MS.drop (A + 1)), .list WS, .list BS]) (by simp) (by decide) rfl fun r _ =>
      ⟨[some (py (.int cell)), some (py (.list MS)), some (py (.list WS)), some (py (.list BS)), some (py (.int (n : Nat))), some (py (.int (A : Nat))), some (py o), b7, b8, some (py (.list wrongSigns)), none, some (py r)], rfl, rfl, by simp [lM, cut_toN, cut_fromN, b6, b7', b14], rfl⟩
  unfold f_law_wrong b_law_wrong
  rw [fnOf_eq]
  unfold oddsL at hO
  simp [wrongRows, wrongSigns] at key1 key2
  simp [wrongs, wrongRows, wrongSigns, List.replicate] at hX
  have hpw : (10 : Int) ^ 20 = 100000000000000000000 := by decide
  simp [lM, lW, hA, hq, hk, b1, h0, cut_m1, cut_1, cut_toN, cut_fromN, hpw, hO, gR, b2, b3, b4, b5, b8, b9, b10, b11, b12, b13, b14, b15, b16, key1, key2, hX]
end LawX

set_option Elab.async false
set_option linter.all false
set_option autoImplicit false
set_option maxRecDepth 100000
namespace LawX
open PySem L2 VL
theorem dedup_any (k : Int) : ∀ (is acc : List Int), (is.foldl PyProof.Rows.step_dedup acc).any (· == k) = (acc.any (· == k) || is.any (· == k))
  | [], acc => by simp
  | i :: is, acc => by
    rw [List.foldl_cons, dedup_any k is]
    unfold PyProof.Rows.step_dedup
    rw [List.any_cons]
    by_cases h : (acc.any (· == i)) = true
    · rw [if_pos h]
      by_cases hk : i = k
      · subst hk
        rw [h]
        simp
      · have : (i == k) = false := by simpa using hk
        rw [this]
        simp
    · rw [if_neg h, List.any_append]
      simp [Bool.or_assoc]
theorem nub_snoc {is : List Int} {i : Int} (h : i ∈ is) : nubI (is ++ [i]) = nubI is := by
  unfold nubI
  rw [List.foldl_append]
  show PyProof.Rows.step_dedup (is.foldl PyProof.Rows.step_dedup []) i = _
  have := dedup_any i is []
  have hi : is.any (· == i) = true := List.any_eq_true.mpr ⟨i, h, by simp⟩
  rw [hi] at this
  have e : ∀ (acc : List Int) (i : Int), acc.any (· == i) = true → PyProof.Rows.step_dedup acc i = acc := fun acc i h => by
    unfold PyProof.Rows.step_dedup
    rw [if_pos h]
  exact e _ _ (by rw [this]; rfl)
theorem places_dup {n : Nat} {r : List Nat} (h : r ≠ []) : placesB n (.list (intN r ++ (intN r).take 1)) = false := by
  cases r with
  | nil => exact absurd rfl h
  | cons x r =>
    have e : intN (x :: r) ++ (intN (x :: r)).take 1 = ((x :: r).map (fun y : Nat => (y : Int)) ++ [(x : Int)]).map PyData.int := by
      simp [intN]
    rw [e]
    unfold placesB
    dsimp only
    rw [asInts_map]
    have hs := nub_snoc (is := (x :: r).map fun y : Nat => (y : Int)) (i := (x : Int)) (by simp)
    have hl := nubI_len ((x :: r).map fun y : Nat => (y : Int))
    rw [← hs] at hl
    simp only [Bool.and_eq_false_imp]
    intro _
    rw [decide_eq_false_iff_not]
    rw [List.length_append]
    simp only [List.length_singleton]
    omega
theorem places_mem {n : Nat} {ds : List PyData} {o : PyData} (ho : o ∈ ds) (hb : inI n o = false) : placesB n (.list ds) = false := by
  unfold placesB
  dsimp only
  have : ds.all (inI n) = false := List.all_eq_false.mpr ⟨o, ho, by simp [hb]⟩
  rw [this]
  simp
def NDs (ds : List PyData) : Prop := ∀ x ∈ ds, isD x = false
theorem nds_int (l : List Nat) : NDs (intN l) := fun x hx => by
  obtain ⟨y, _, rfl⟩ := List.mem_map.mp hx
  rfl
theorem rw_list {ds : List PyData} (h : NDs ds) (k : ds.length ≤ 4000) : RwOk (.list ds) := ⟨fun es e => by
  cases e
  exact ⟨h, k⟩⟩
theorem rw_other {d : PyData} (h : ∀ ds, d ≠ .list ds) : RwOk d := ⟨fun ds e => absurd e (h ds)⟩
theorem nds_app {a b : List PyData} (h : NDs a) (k : NDs b) : NDs (a ++ b) := fun x hx => by
  rcases List.mem_append.mp hx with e | e
  · exact h x e
  · exact k x e
theorem nds_one {d : PyData} (h : isD d = false) : NDs [d] := fun x hx => by
  simp only [List.mem_singleton] at hx
  rw [hx]
  exact h
theorem nds_take {a : List PyData} (h : NDs a) (k : Nat) : NDs (a.take k) := fun x hx => h x (List.mem_of_mem_take hx)
theorem rows_bad {n : Nat} {r : List Nat} {o : PyData} (hr : r ≠ []) (hl : r.length ≤ 12) (ho : inI n o = false) (hd : isD o = false) : ∀ x ∈ wrongRows (intN r) o, placesB n x = false ∧ RwOk x := fun x hx => by
  simp only [wrongRows, List.mem_cons, List.not_mem_nil, or_false] at hx
  rcases hx with rfl | rfl | rfl | rfl | rfl | rfl | rfl | rfl | rfl
  · exact ⟨rfl, rw_list (fun x hx => by cases hx) (by simp)⟩
  · exact ⟨places_mem (o := o) (by simp) ho, rw_list (nds_one hd) (by simp)⟩
  · exact ⟨places_mem (o := o) (by simp) ho, rw_list (nds_app (nds_int r) (nds_one hd)) (by simp; omega)⟩
  · exact ⟨places_dup hr, rw_list (nds_app (nds_int r) (nds_take (nds_int r) 1)) (by simp; omega)⟩
  · exact ⟨rfl, rw_other fun ds z => by cases z⟩
  · exact ⟨rfl, rw_other fun ds z => by cases z⟩
  · exact ⟨rfl, rw_other fun ds z => by cases z⟩
  · exact ⟨rfl, rw_other fun ds z => by cases z⟩
  · exact ⟨rfl, rw_other fun ds z => by cases z⟩
theorem signs_bad : ∀ s ∈ wrongSigns, markOkB s = false ∧ McOk s := fun s hs => by
  simp only [wrongSigns, List.mem_cons, List.not_mem_nil, or_false] at hs
  rcases hs with rfl | rfl | rfl | rfl | rfl | rfl | rfl
  · exact ⟨by decide +kernel, rfl, by decide +kernel, fun s e => by cases e; decide +kernel⟩
  · exact ⟨by decide +kernel, rfl, by decide +kernel, fun s e => by cases e; decide +kernel⟩
  · exact ⟨rfl, rfl, by decide +kernel, fun s e => by cases e⟩
  · exact ⟨rfl, rfl, by decide +kernel, fun s e => by cases e⟩
  · exact ⟨rfl, rfl, by decide +kernel, fun s e => by cases e⟩
  · exact ⟨by decide +kernel, rfl, by decide +kernel, fun s e => by cases e; decide +kernel⟩
  · exact ⟨rfl, rfl, by decide +kernel, fun s e => by cases e⟩
theorem mc_marks {m : Mach} (hg : GoodM m) : ∀ x ∈ m.ms.map PyData.str, McOk x ∧ markOkB x = true := fun x hx => by
  obtain ⟨s, hs, rfl⟩ := List.mem_map.mp hx
  obtain ⟨h1, h2⟩ := hg s hs
  refine ⟨⟨rfl, str_shaped h1, fun z e => by cases e; exact h2⟩, ?_⟩
  rcases h1 with rfl | h
  · simp [markOkB]
  · simp [markOkB, h]
theorem rw_ways {m : Mach} (hm : MOk m) : ∀ x ∈ m.ws.map intL, RwOk x := fun x hx => by
  obtain ⟨r, hr, rfl⟩ := List.mem_map.mp hx
  have := (hm.rows r hr).len
  have hf := hm.few
  exact rw_list (nds_int r) (by rw [List.length_map]; omega)
set_option maxHeartbeats 1000000 in
theorem wrongs_bad {m : Mach} (hm : MOk m) (hg : GoodM m) {A : Nat} (hA : A < m.ms.length) {r : List Nat} (hr : r ≠ []) (hl : r.length ≤ 12) {o : PyData} (ho : o ∈ oddsL m.ms.length) : ∀ x ∈ wrongs m.ms.length A (m.ms.map .str) (m.ws.map intL) (intN m.bs) (intN r) o, ∃ a b d, x = .list [a, b, d] ∧ ThOk a b d ∧ initB a b d = false := by
  have hf := hm.few
  have hp := hm.pos
  have hw := hm.lw
  have lM : (m.ms.map PyData.str).length = m.ms.length := List.length_map ..
  have lW : (m.ws.map intL).length = m.ms.length := by rw [List.length_map]; exact hw
  have mc := mc_marks hg
  have rwW := rw_ways hm
  have lb := hm.begins.len
  have lB := intN_len m.bs
  have nB := nds_int m.bs
  have neB := hm.begins.ne
  obtain ⟨o1, o2⟩ := odds_bad hf o ho
  have rb := rows_bad hr hl o1 o2
  generalize hMS : m.ms.map PyData.str = MS at *
  generalize hWS : m.ws.map intL = WS at *
  have okM : ∀ ms, PyData.list MS = .list ms → (∀ x ∈ ms, McOk x) ∧ ms.length ≤ 50 := fun ms e => by
    cases e
    exact ⟨fun x hx => (mc x hx).1, by omega⟩
  have okW : ∀ ws, PyData.list WS = .list ws → (∀ x ∈ ws, RwOk x) ∧ ws.length ≤ 50 := fun ws e => by
    cases e
    exact ⟨rwW, by omega⟩
  have rwB : RwOk (.list (intN m.bs)) := rw_list nB (by omega)
  -- the third one bad
  have F1 : ∀ d, placesB m.ms.length d = false → RwOk d → ∃ a b e, PyData.list [.list MS, .list WS, d] = .list [a, b, e] ∧ ThOk a b e ∧ initB a b e = false := fun d h1 h2 => by
    refine ⟨_, _, _, rfl, ⟨rfl, okM, okW, h2⟩, ?_⟩
    unfold initB
    dsimp only
    rw [lM, h1, Bool.and_false]
  -- the second one bad
  have F2 : ∀ b, waysB m.ms.length b = false → (∀ ws, b = .list ws → (∀ x ∈ ws, RwOk x) ∧ ws.length ≤ 50) → ∃ a' b' e, PyData.list [.list MS, b, .list (intN m.bs)] = .list [a', b', e] ∧ ThOk a' b' e ∧ initB a' b' e = false := fun b h1 h2 => by
    refine ⟨_, _, _, rfl, ⟨rfl, okM, h2, rwB⟩, ?_⟩
    unfold initB
    dsimp only
    rw [lM, h1, Bool.and_false, Bool.false_and]
  intro x hx
  unfold wrongs at hx
  simp only [List.mem_append] at hx
  rcases hx with (((hx | hx) | hx) | hx) | hx
  · simp only [List.mem_cons, List.not_mem_nil, or_false] at hx
    rcases hx with rfl | rfl | rfl | rfl | rfl | rfl | rfl | rfl | rfl
    · exact F1 _ rfl (rw_list (fun x hx => by cases hx) (by simp))
    · exact F1 _ (places_mem (o := o) (by simp) o1) (rw_list (nds_one o2) (by simp))
    · exact F1 _ (places_dup neB) (rw_list (nds_app nB (nds_take nB 1)) (by simp; omega))
    · exact F1 _ rfl (rw_other fun ds z => by cases z)
    · exact F1 _ rfl (rw_other fun ds z => by cases z)
    · exact ⟨_, _, _, rfl, ⟨rfl, fun ms e => by cases e; exact ⟨(fun x hx => by cases hx), by simp⟩, fun ms e => by cases e; exact ⟨(fun x hx => by cases hx), by simp⟩, rw_list (fun x hx => by cases hx) (by simp)⟩, rfl⟩
    · exact ⟨_, _, _, rfl, ⟨rfl, fun ms e => by cases e; exact ⟨(fun x hx => by cases hx), by simp⟩, fun ms e => by cases e; exact ⟨(fun x hx => by cases hx), by simp⟩, rw_list (nds_one rfl) (by simp)⟩, rfl⟩
    · refine F2 _ ?_ fun ws e => ?_
      · unfold waysB
        dsimp only
        have : ¬ WS.dropLast.length = m.ms.length := by rw [List.length_dropLast]; omega
        rw [decide_eq_false this, Bool.false_and]
      · cases e
        exact ⟨fun x hx => rwW x (List.dropLast_subset _ hx), by rw [List.length_dropLast]; omega⟩
    · refine F2 _ ?_ fun ws e => ?_
      · unfold waysB
        dsimp only
        have : ¬ (WS ++ [PyData.list [PyData.int 0]]).length = m.ms.length := by rw [List.length_append, List.length_singleton]; omega
        rw [decide_eq_false this, Bool.false_and]
      · cases e
        refine ⟨fun x hx => ?_, by rw [List.length_append, List.length_singleton]; omega⟩
        rcases List.mem_append.mp hx with h | h
        · exact rwW x h
        · simp only [List.mem_singleton] at h
          rw [h]
          exact rw_list (nds_one rfl) (by simp)
  · obtain ⟨q, hq, rfl⟩ := List.mem_map.mp hx
    obtain ⟨q1, q2⟩ := rb q hq
    refine F2 _ ?_ fun ws e => ?_
    · unfold waysB
      dsimp only
      have : (WS.take A ++ q :: WS.drop (A + 1)).all (placesB m.ms.length) = false := List.all_eq_false.mpr ⟨q, by simp, by simp [q1]⟩
      rw [this, Bool.and_false]
    · cases e
      refine ⟨fun x hx => ?_, by simp; omega⟩
      rcases List.mem_append.mp hx with h | h
      · exact rwW x (List.mem_of_mem_take h)
      · rcases List.mem_cons.mp h with h | h
        · rw [h]; exact q2
        · exact rwW x (List.mem_of_mem_drop h)
  · obtain ⟨q, hq, rfl⟩ := List.mem_map.mp hx
    obtain ⟨q1, q2⟩ := signs_bad q hq
    refine ⟨_, _, _, rfl, ⟨rfl, fun ms e => ?_, okW, rwB⟩, ?_⟩
    · cases e
      refine ⟨fun x hx => ?_, by simp; omega⟩
      rcases List.mem_append.mp hx with h | h
      · exact (mc x (List.mem_of_mem_take h)).1
      · rcases List.mem_cons.mp h with h | h
        · rw [h]; exact q2
        · exact (mc x (List.mem_of_mem_drop h)).1
    · unfold initB
      dsimp only
      have : (MS.take A ++ q :: MS.drop (A + 1)).all markOkB = false := List.all_eq_false.mpr ⟨q, by simp, by simp [q1]⟩
      rw [this]
      simp
  · simp only [List.mem_cons, List.not_mem_nil, or_false] at hx
    rcases hx with rfl | rfl
    · exact ⟨_, _, _, rfl, ⟨rfl, (fun ms e => by cases e), okW, rwB⟩, rfl⟩
    · exact F2 _ rfl fun ws e => by cases e
  · simp only [List.mem_singleton] at hx
    subst hx
    refine ⟨_, _, _, rfl, ⟨rfl, fun ms e => ?_, fun ws e => ?_, rw_list (nds_one rfl) (by simp)⟩, ?_⟩
    · cases e
      refine ⟨fun x hx => ?_, by simp⟩
      rw [(List.mem_replicate.mp hx).2]
      exact ⟨rfl, by decide +kernel, fun s e => by cases e; decide +kernel⟩
    · cases e
      refine ⟨fun x hx => ?_, by simp⟩
      rw [(List.mem_replicate.mp hx).2]
      exact rw_list (nds_one rfl) (by simp)
    · unfold initB
      dsimp only
      simp
end LawX

set_option Elab.async false
set_option linter.all false
set_option autoImplicit false
set_option maxRecDepth 100000
namespace LawX
open PySem L2 VL
/-! ### the law's own statements, what they compute -/
noncomputable def b_pre : S := (sq (fSet 1 (fLst (fCons (fC (.int 2)) fNil)))
  (sq (fSet 2 (fSh (fCall 1 none f_law_names (fCons (fCall 2 none f_law_cell_at (fCons (fVar 0) (fCons (fC (.int 0)) fNil))) fNil))))
  (sq (fAsg (fSh (fCall 4 (some 1) f_law_machine (fCons (fVar 0) (fCons (fVar 1) (fCons (fVar 2) (fCons (fC (.int 12)) fNil)))))) (gTp 3 (gsCons (gNm 3) (gsCons (gNm 4) (gsCons (gNm 5) gsNil)))))
  (sq (fSet 6 (fSh (fCall 2 none f_law_cell_at (fCons (fVar 0) (fCons (fC (.int 1)) fNil)))))
  (fIf (fAndT (fB (f2 oEq (f2 oMod (fVar 6) (fC (.int 2))) (fC (.int 1)))) (fNotT (fB (fCall 1 none f_law_refused (fCons (fCall 4 none f_law_wrong (fCons (f2 oDiv (fVar 6) (fC (.int 2))) (fCons (fVar 3) (fCons (fVar 4) (fCons (fVar 5) fNil))))) fNil))))) (fRet (fC (.bool false))) fNx)))))
set_option maxHeartbeats 0 in
theorem pre_run (ns : List Int) : ∃ (m : Mach) (k' : Nat) (cell : Int) (nm : PyData), MOk m ∧ GoodM m ∧ b_pre [some (.sh (.scr ns)), none, none, none, none, none, none, none, none, none, none, none, none, none] = some (.ok .nx [some (.sh (.scr ns)), some (.own (.list [.int (k' : Nat)]) false), some (py nm), some (py (strL' m.ms)), some (py (waysL m.ws)), some (py (intL m.bs)), some (py (.int cell)), none, none, none, none, none, none, none]) := by
  obtain ⟨a, b, z, en⟩ := names3 (ns.getD 0 0)
  have hnm := names_marks (ns.getD 0 0)
  rw [en] at hnm
  have hne := names_eq (ns.getD 0 0)
  rw [en] at hne
  have hca : f_law_cell_at [.scr ns, .py (.int 0)] = some (.ok (py (.int (ns.getD 0 0))) .none) := cell_at_eq ns 0
  have hcb : f_law_cell_at [.scr ns, .py (.int 1)] = some (.ok (py (.int (ns.getD 1 0))) .none) := cell_at_eq ns 1
  generalize ns.getD 0 0 = c0 at *
  generalize ns.getD 1 0 = c1 at *
  obtain ⟨n, k1, n0, n6, hmE⟩ := machine_eq ns a b z 2 12 (by decide) (by decide)
  have hM := machOf_ok (ns := ns) (a := a) (b := b) (z := z) (n := n) (k := 3) n0 (by omega)
  have hG : GoodM (machOf ns a b z n 3) := fun s hs => s6_marks hnm s (goMs_mem hs)
  generalize machOf ns a b z n 3 = m at *
  have em : machD m = .tuple [strL' m.ms, waysL m.ws, intL m.bs] := rfl
  rw [em] at hmE
  refine ⟨m, k1, c1, .list [.str a, .str b, .str z], hM, hG, ?_⟩
  unfold b_pre
  simp at hne hmE
  have hf := hM.few
  have hw := hM.lw
  obtain ⟨A, R, o, x, hA, gR, lR, ho, hx, hwr⟩ := wrong_eq (R := []) (c1 / 2) (n := m.ms.length) (MS := m.ms.map .str) (WS := m.ws.map intL) (BS := intN m.bs) hM.pos hf (by simp) (by simp [hw]) (by rw [intN_len]; have := hM.begins.len; omega) (fun A hA => ⟨intN (rowN m A), by
      rw [intN_len]
      have hrow : rowN m A ∈ m.ws := by
        unfold rowN
        rw [List.getD_eq_getElem?_getD, List.getElem?_eq_getElem (by omega)]
        exact List.getElem_mem _
      have := (hM.rows _ hrow).len
      omega, row_at (by omega)⟩)
  have gR2 := row_at (m := m) (p := A) (by omega)
  rw [gR] at gR2
  simp only [Option.some.injEq, PyData.list.injEq] at gR2
  subst gR2
  have hrow : rowN m A ∈ m.ws := by
    unfold rowN
    rw [List.getD_eq_getElem?_getD, List.getElem?_eq_getElem (by omega)]
    exact List.getElem_mem _
  have ro := hM.rows _ hrow
  obtain ⟨x1, x2, x3, rfl, th, hb⟩ := wrongs_bad hM hG hA ro.ne (by have := ro.len; omega) ho x hx
  have hrf := refused_eq (make_bad th hb)
  have e1 : strL' m.ms = .list (m.ms.map .str) := rfl
  have e2 : waysL m.ws = .list (m.ws.map intL) := rfl
  have e3 : intL m.bs = .list (intN m.bs) := rfl
  rw [e1, e2, e3] at hmE ⊢
  by_cases hc : c1 % 2 = 1
  · simp [hca, hcb, hne, hmE, hc, hwr, hrf]
  · have hc' : (c1 % 2 == 1) = false := by simpa using hc
    simp [hca, hcb, hne, hmE, hc, hc', hwr, hrf]
end LawX

set_option Elab.async false
set_option linter.all false
set_option autoImplicit false
set_option maxRecDepth 100000
namespace LawX
open PySem L2 VL
noncomputable def b_post : S := sq (fSet 11 (fSh (fComp (fItems (fVar 9)) (gNm 10) (ret true) (fBl oList (fCons (fVar 10) fNil)) [10])))
  (sq (fSet 12 (fSh (fCall 3 none f_Machine (fCons (fVar 3) (fCons (fVar 4) (fCons (fLst (fCons (f2 oSub (fBl oLen (fCons (fVar 3) fNil)) (fC (.int 1))) fNil)) fNil))))))
  (sq (fIf (fOrT (fNotT (fB (fCall 4 none f_law_right (fCons (fVar 8) (fCons (fVar 3) (fCons (fVar 4) (fCons (fVar 5) fNil))))))) (fB (f2 oNe (fMeth 10 "starts" 1 none f_Machine_starts (fVar 12) fNil) (fLst (fCons (f2 oSub (fBl oLen (fCons (fVar 3) fNil)) (fC (.int 1))) fNil))))) (fRet (fC (.bool false))) fNx)
  (fRet (fAnd (f2 oEq (fVar 9) (fVar 11)) (fCall 4 none f_law_right (fCons (fVar 8) (fCons (fVar 3) (fCons (fVar 4) (fCons (fVar 5) fNil)))))))))
theorem rows_fact {rs : List (List Int)} : SeqAt.shaped (.list (rs.map fun r => .list (r.map .int))) = true := shaped_list0 2 (by decide) fun d hd => by
  obtain ⟨r, _, rfl⟩ := List.mem_map.mp hd
  exact list_fact 1 fun d hd => by
    obtain ⟨x, _, rfl⟩ := List.mem_map.mp hd
    exact ⟨rfl, by simp [PyData.depth]⟩
def mLast (m : Mach) : Mach := ⟨m.ms, m.ws, [m.ms.length - 1]⟩
theorem mLast_ok {m : Mach} (h : MOk m) : MOk (mLast m) := ⟨h.pos, h.few, h.lw, h.rows, by
  have := h.pos
  constructor <;> simp [mLast] <;> omega⟩
theorem post_run {m : Mach} (hM : MOk m) (hG : GoodM m) {rs : List (List Int)} (hl : rs.length ≤ 100) (hr : ∀ r ∈ rs, r.length ≤ 100) {a0 a2 a6 : Option Ent} (no : noOw [a0, a2, a6] = true) : ∃ ρ', b_post [a0, none, a2, some (py (strL' m.ms)), some (py (waysL m.ws)), some (py (intL m.bs)), a6, none, some (.sh (machI m)), some (py (.list (rs.map fun r => .list (r.map .int)))), none, none, none, none] = some (.ok (.rt (py (.bool true))) ρ') := by
  have hR := right_eq hM hG
  have hMk := make_eq (mLast_ok hM) hG
  have hst := starts_eq (mLast m)
  have i1 := ins_starts (mLast m)
  have hnl : noOwn [a0, none, a2, some (py (strL' m.ms)), some (py (waysL m.ws)), some (py (intL m.bs)), a6, none, some (.sh (machI m)), some (py (.list (rs.map fun r => .list (r.map .int)))), none, none, none, none] [10] = true := by
    cases a0 <;> cases a2 <;> cases a6 <;> rfl
  have cp := comp_pure (vs := [10]) (tt := VL.ret true) (tg := gNm 10) (te := fBl oList (fCons (fVar 10) fNil)) (src := fItems (fVar 9)) (ρ := [a0, none, a2, some (py (strL' m.ms)), some (py (waysL m.ws)), some (py (intL m.bs)), a6, none, some (.sh (machI m)), some (py (.list (rs.map fun r => .list (r.map .int)))), none, none, none, none]) rs (fun r => .list (r.map .int)) (fun r => .list (r.map .int)) (by simp) (by simp only [big]; omega) hnl fun r hr' => ⟨[a0, none, a2, some (py (strL' m.ms)), some (py (waysL m.ws)), some (py (intL m.bs)), a6, none, some (.sh (machI m)), some (py (.list (rs.map fun r => .list (r.map .int)))), some (py (.list (r.map .int))), none, none, none], rfl, rfl, by
      have := hr r hr'
      have hb : r.length ≤ big := by simp only [big]; omega
      simp [hb], rfl⟩
  have eqs := eq_self (rows_fact (rs := rs))
  have p := hM.pos
  have n1 := ne_self (intN_shaped [m.ms.length - 1])
  unfold b_post
  have e1 : strL' m.ms = .list (m.ms.map .str) := rfl
  have el : (m.ms.map PyData.str).length = m.ms.length := List.length_map ..
  unfold machArgs at hMk
  have e4 : (mLast m).ms = m.ms := rfl
  have e5 : (mLast m).ws = m.ws := rfl
  have e6 : intL (mLast m).bs = .list [.int ((m.ms.length - 1 : Nat) : Int)] := rfl
  have e7 : intN (mLast m).bs = [.int ((m.ms.length - 1 : Nat) : Int)] := rfl
  have e8 : intN [m.ms.length - 1] = [.int ((m.ms.length - 1 : Nat) : Int)] := rfl
  have e9 : (m.ms.length : Int) - 1 = ((m.ms.length - 1 : Nat) : Int) := by omega
  rw [e4, e5, e6] at hMk
  rw [e7] at hst
  rw [e8] at n1
  rw [e1] at hR hMk cp ⊢
  generalize machI m = M at *
  generalize machI (mLast m) = M2 at *
  generalize (m.ms.length - 1 : Nat) = n1' at *
  generalize (rs.map fun r => PyData.list (r.map .int)) = RS at *
  generalize m.ms.map PyData.str = MS at *
  generalize m.ms.length = n at *
  refine ⟨[a0, none, a2, some (py (.list MS)), some (py (waysL m.ws)), some (py (intL m.bs)), a6, none, some (.sh M), some (py (.list RS)), none, some (py (.list RS)), some (.sh M2), none], ?_⟩
  simp [cp, hMk, el, e9, fMeth, fIns_ap, i1, hst, hR, n1, eqs]
end LawX

set_option Elab.async false
set_option linter.all false
set_option autoImplicit false
set_option maxRecDepth 100000
namespace LawX
open PySem L2 VL PySem.Spec PyProof.Rows
noncomputable section
variable {P : Program} {w : World} {K : PySem.W.Frag} {mg : Str → Option Value} {base : Heap} {c : Nat → Addr}
/-! ### the law's own def, walked -/
abbrev s_law : Stmt := topS 25
abbrev lawN : List Str := ["_law_script", "_law_spot", "_law_names_here", "_law_marks", "_law_ways", "_law_begins", "_law_cell", "_law_handed", "_law_machine_here", "_law_held", "_law_row", "_law_kept", "_law_other", "_law_k"]
theorem sc_law : FnScope lawN ["_law_script"] (defScope s_law) := ⟨rfl, rfl, rfl, by decide +kernel, rfl, by decide +kernel, by decide +kernel⟩
abbrev tRows (K : PySem.W.Frag) (c : Nat → Addr) (W : WX) : TE := tLc (tDI K c W (fItems (fVar 4))) (tDG K c [10] (gNm 10)) (tDT K c W0 (VL.ret true)) (tD K c W0 (fLi 10)) [10]
abbrev tHanded (K : PySem.W.Frag) (c : Nat → Addr) (W : WX) : TE := tLst (tCons (tD K c W (fLi 3)) (tCons (tRows K c W) (tCons (tD K c W (fLi 5)) tNil)))
abbrev fArgsH : VL.M (List Ent) := fCons (f2 oIx (fVar 7) (fC (.int 0))) (fCons (f2 oIx (fVar 7) (fC (.int 1))) (fCons (f2 oIx (fVar 7) (fC (.int 2))) fNil))
abbrev fC7 : VL.M Bool := fOrT (fB (f2 oNe (fVar 7) (fLst (fCons (fVar 3) (fCons (fVar 4) (fCons (fVar 5) fNil)))))) (fNotT (fB (fCall 4 none f_law_right (fCons (fVar 8) (fCons (fVar 3) (fCons (fVar 4) (fCons (fVar 5) fNil)))))))
abbrev tH (K : PySem.W.Frag) (i : Int) : TE := tOp (rIxL K) (tVar 7) (tC (.int i))
abbrev fStarts : VL.M Ent := fMeth 10 "starts" 1 none f_Machine_starts (fVar 8) fNil
abbrev fLeads : VL.M Ent := fMeth 10 "leads" 2 none f_Machine_leads (fVar 8) (fCons (fVar 13) fNil)
abbrev tLeads (K : PySem.W.Frag) (c : Nat → Addr) (W : WX) : TE := tLc (tDI K c W (bnd (fCons (fBl oLen (fCons (fVar 3) fNil)) fNil) rng1)) (tDG K c [13] (gNm 13)) (tDT K c W0 (VL.ret true)) (tD K c W0 fLeads) [13]
def tLaw (K : PySem.W.Frag) (c : Nat → Addr) (E : XK) : TS := tSN K c (WE0 E) b_pre
  (tSeq (tAsg (tHanded K c (WE0 E)) (gName 7))
  (tSeq (tAsg (tCallS (spN K c 3 f_Machine) (WE (WE0 E)) (tDA K c (WE0 E) fArgsH)) (gName 8))
  (tSeq (tIfS (tDT K c (WE0 E) fC7) (tS K c (WE0 E) (fRet (fC (.bool false)))) tNext)
  (tSeq (tAsg (tC (.str "zzzzzz")) (gSub (tH K 0) (tC (.int 0)) rSetL))
  (tSeq (tDrop (tBM K "list" rAppend (tOp (rIxL K) (tH K 1) (tC (.int 0))) (tCons (tC (.int 99)) tNil)))
  (tSeq (tDrop (tBM0 K "list" rPop (tH K 1)))
  (tSeq (tDrop (tBM K "list" rAppend (tH K 2) (tCons (tC (.int 99)) tNil)))
  (tSeq (tAsg (tOp rCat (tLst (tCons (tD K c (WE0 E) fStarts) tNil)) (tLeads K c (WE0 E))) (gName 9))
  (tSeq (tFor (iList K (tVar 9)) (gName 10) (tDrop (tBM K "list" rAppend (tVar 10) (tCons (tC (.int 99)) tNil))))
  (tS K c (WE0 E) b_post))))))))))
theorem dv_law {f : Addr} {cdv : Value} {A : Around} {outer : List Env} {s : Shared} {H : Hp} {E : XK} (hr : Room 6 (A.deeper (envOfC "law" (defScope s_law) s.heap.objs.size f cdv))) (z_list : mg "list" = none) (z_len : mg "len" = none) (z_range : mg "range" = none)
    (F_law_cell_at : FnAt P w K mg base c 1 "_law_cell_at" 2 none f_law_cell_at) (F_law_names : FnAt P w K mg base c 1 "_law_names" 1 none f_law_names) (F_law_machine : FnAt P w K mg base c 2 "_law_machine" 4 (some 1) f_law_machine) (F_law_wrong : FnAt P w K mg base c 1 "_law_wrong" 4 none f_law_wrong) (F_law_refused : FnAt P w K mg base c 6 "_law_refused" 1 none f_law_refused) (F_law_right : FnAt P w K mg base c 2 "_law_right" 4 none f_law_right)
    (K_Machine : MkAt P w K mg base c 4 "Machine" 10 3 f_Machine) (M_Machine_starts : MethAt P w K mg base c 10 1 "starts" 1 none f_Machine_starts) (M_Machine_leads : MethAt P w K mg base c 10 1 "leads" 2 none f_Machine_leads) :
    PSs (bodyCx P w K mg base lawN "law" s_law f cdv A outer s H E) (defBody s_law) (tLaw K c E) :=
  pss_pre (ds_set 1 sc_law.nd rfl (.inl rfl) (de_lst (da_cons de_int da_nil)))
  (pss_pre (ds_set 2 sc_law.nd rfl (.inl rfl) (de_sh (de_call F_law_names (fun _ h => nomatch h) (hr.mono (by decide)) (takes_of rfl rfl rfl rfl) (by rfl) (da_cons (de_call F_law_cell_at (fun _ h => nomatch h) (hr.mono (by decide)) (takes_of rfl rfl rfl rfl) (by rfl) (da_cons (de_var 0) (da_cons de_int da_nil))) da_nil))))
  (pss_pre (ds_asg (de_sh (de_call F_law_machine (fun _ h => by cases h; decide) (hr.mono (by decide)) (takes_of rfl rfl rfl rfl) (by rfl) (da_cons (de_var 0) (da_cons (de_var 1) (da_cons (de_var 2) (da_cons de_int da_nil)))))) (dg_tup rfl (dgs_cons (dg_name 3 sc_law.nd rfl (.inl rfl)) (dgs_cons (dg_name 4 sc_law.nd rfl (.inl rfl)) (dgs_cons (dg_name 5 sc_law.nd rfl (.inl rfl)) dgs_nil)))))
  (pss_pre (ds_set 6 sc_law.nd rfl (.inl rfl) (de_sh (de_call F_law_cell_at (fun _ h => nomatch h) (hr.mono (by decide)) (takes_of rfl rfl rfl rfl) (by rfl) (da_cons (de_var 0) (da_cons de_int da_nil)))))
  (pss_pre1 (ds_if (dt_w (dw_and (dt_eq (hu64 hr) (de_mod (de_var 6) de_int) de_int) (dw_and1 (dt_not (dt_val (de_call F_law_refused (fun _ h => nomatch h) (hr.mono (by decide)) (takes_of rfl rfl rfl rfl) (by rfl) (da_cons (de_call F_law_wrong (fun _ h => nomatch h) (hr.mono (by decide)) (takes_of rfl rfl rfl rfl) (by rfl) (da_cons (de_div (de_var 6) de_int) (da_cons (de_var 3) (da_cons (de_var 4) (da_cons (de_var 5) da_nil))))) da_nil))))))) (ds_one (ds_ret de_bool)) ds_nil)
  (pss_hand (ps_set sc_law.nd rfl (.inl rfl) (pe_lst (pa_cons (de_list (by rfl) z_list (da_cons (de_var 3) da_nil)) (pa_cons (pe_compR (own := [("_law_row", 10)]) rfl sc_law.nd (di_any (de_var 4)) (blkOk_by (by kernel_rfl)) (by decide) (fun _ _ _ _ _ => (dg_name 10 sc_law.nd rfl (by first | exact Or.inl rfl | exact Or.inr rfl))) (fun _ _ _ _ _ => dts_nil) (fun _ _ _ _ _ => (de_list (by rfl) z_list (da_cons (de_var 10) da_nil)))) (pa_cons (de_list (by rfl) z_list (da_cons (de_var 5) da_nil)) pa_nil)))))
  (pss_hand (ps_set sc_law.nd rfl (.inr rfl) (pe_makeN K_Machine (hr.mono (by decide)) (takes_of rfl rfl rfl rfl) (by rfl) (da_cons (de_ix (de_var 7) de_int) (da_cons (de_ix (de_var 7) de_int) (da_cons (de_ix (de_var 7) de_int) da_nil)))))
  (pss_hand (ps_if (dt_w (dw_or (dt_ne (hu64 hr) (de_var 7) (de_lst (da_cons (de_var 3) (da_cons (de_var 4) (da_cons (de_var 5) da_nil))))) (dw_or1 (dt_not (dt_val (de_call F_law_right (fun _ h => nomatch h) (hr.mono (by decide)) (takes_of rfl rfl rfl rfl) (by rfl) (da_cons (de_var 8) (da_cons (de_var 3) (da_cons (de_var 4) (da_cons (de_var 5) da_nil)))))))))) (ds_one (ds_ret de_bool)) pss_nil)
  (pss_hand (ps_asg pe_str (pg_sub (pe_ix ix_list (pv 7) pe_int (fun _ _ => rfl)) pe_int set_list))
  (pss_hand (ps_expr (pe_bm PySem.F.plainAttrs_list PySem.F.slot_list_append PySem.F.type_list_append mt_append (pe_ix ix_list (pe_ix ix_list (pv 7) pe_int (fun _ _ => rfl)) pe_int (fun _ _ => rfl)) (pa_cons pe_int pa_nil)))
  (pss_hand (ps_expr (pe_bm0 PySem.F.plainAttrs_list PySem.F.slot_list_pop PySem.F.type_list_pop mt_pop (pe_ix ix_list (pv 7) pe_int (fun _ _ => rfl))))
  (pss_hand (ps_expr (pe_bm PySem.F.plainAttrs_list PySem.F.slot_list_append PySem.F.type_list_append mt_append (pe_ix ix_list (pv 7) pe_int (fun _ _ => rfl)) (pa_cons pe_int pa_nil)))
  (pss_hand (ps_set sc_law.nd rfl (.inl rfl) (pe_op op_cat (pe_lst (pa_cons (de_meth0 M_Machine_starts (fun _ h => nomatch h) (hr.mono (by decide)) (takes_of rfl rfl rfl rfl) (de_var 8) _) pa_nil)) (pe_compR (own := [("_law_k", 13)]) rfl sc_law.nd (di_range1 (by rfl) z_range (da_cons (de_len (by rfl) z_len (da_cons (de_var 3) da_nil)) da_nil)) (blkOk_by (by kernel_rfl)) (by decide) (fun _ _ _ _ _ => (dg_name 13 sc_law.nd rfl (by first | exact Or.inl rfl | exact Or.inr rfl))) (fun _ _ _ _ _ => dts_nil) (fun _ _ _ _ _ => (de_meth M_Machine_leads (fun _ h => nomatch h) (hr.mono (by decide)) takes0 (de_var 8) (da_cons (de_var 13) da_nil) _)))))
  (pss_hand (ps_for (passes_of rfl) rfl (pi_list (pv 9)) (pg_name sc_law.nd rfl (.inl rfl)) (pss_one (ps_expr (pe_bm PySem.F.plainAttrs_list PySem.F.slot_list_append PySem.F.type_list_append mt_append (pv 10) (pa_cons pe_int pa_nil)))))
  (ds_cons (ds_setCompSh 11 (own := [("_law_row", 10)]) rfl sc_law.nd rfl rfl (sw_true rfl rfl rfl (by decide +kernel)) (di_any (de_var 9)) (blkOk_by (by kernel_rfl)) (by decide) (fun _ _ _ _ _ => (dg_name 10 sc_law.nd rfl (by first | exact Or.inl rfl | exact Or.inr rfl))) (fun _ _ _ _ _ => dts_nil) (fun _ _ _ _ _ => (de_list (by rfl) z_list (da_cons (de_var 10) da_nil))))
  (ds_cons (ds_set 12 sc_law.nd rfl (.inl rfl) (de_sh (de_make K_Machine (hr.mono (by decide)) (takes_of rfl rfl rfl rfl) (by rfl) (da_cons (de_var 3) (da_cons (de_var 4) (da_cons (de_lst (da_cons (de_sub (de_len (by rfl) z_len (da_cons (de_var 3) da_nil)) de_int) da_nil)) da_nil))))))
  (ds_cons (ds_if (dt_w (dw_or (dt_not (dt_val (de_call F_law_right (fun _ h => nomatch h) (hr.mono (by decide)) (takes_of rfl rfl rfl rfl) (by rfl) (da_cons (de_var 8) (da_cons (de_var 3) (da_cons (de_var 4) (da_cons (de_var 5) da_nil))))))) (dw_or1 (dt_ne (hu64 hr) (de_meth0 M_Machine_starts (fun _ h => nomatch h) (hr.mono (by decide)) (takes_of rfl rfl rfl rfl) (de_var 12) _) (de_lst (da_cons (de_sub (de_len (by rfl) z_len (da_cons (de_var 3) da_nil)) de_int) da_nil)))))) (ds_one (ds_ret de_bool)) ds_nil)
  (ds_one (ds_ret (de_and (de_eq (hu64 hr) (de_var 9) (de_var 11)) (de_one (de_call F_law_right (fun _ h => nomatch h) (hr.mono (by decide)) (takes_of rfl rfl rfl rfl) (by rfl) (da_cons (de_var 8) (da_cons (de_var 3) (da_cons (de_var 4) (da_cons (de_var 5) da_nil)))))))))))))))))))))))))
end
end LawX

set_option Elab.async false
set_option linter.all false
set_option autoImplicit false
set_option maxRecDepth 100000
namespace LawX
open PySem L2 VL PySem.Spec PyProof.Rows
noncomputable section
variable {P : Program} {w : World} {K : PySem.W.Frag} {mg : Str → Option Value} {base : Heap} {c : Nat → Addr}
def f_law : Fn := fun ds => match ds with
  | [.scr _] => some (.ok (py (.bool true)) .none)
  | _ => none
theorem sh_law : ShFn f_law := fun ds r o h => by
  unfold f_law at h
  split at h
  · cases h
    exact ⟨_, rfl⟩
  · cases h
/-- lists of ints, each at its place -/
theorem rows_told {H N : Hp} {n : Nat} (hN : ∀ a o, H a = some o → N a = some o) : ∀ {al : List Addr}, (∀ a ∈ al, ∃ (ws : List V) (r : List Int), H a = some (.lst ws) ∧ (∀ G, RpL K G ws (r.map PyData.int)) ∧ r.length ≤ n) → ∃ rs : List (List Int), rs.length = al.length ∧ RpL K N (al.map V.ref) (rs.map fun r => .list (r.map .int)) ∧ ∀ r ∈ rs, r.length ≤ n
  | [], _ => ⟨[], rfl, by simp only [List.map_nil, RpL], fun r hr => by cases hr⟩
  | a :: al, h => by
    obtain ⟨rs, h1, h2, h3⟩ := rows_told hN (al := al) fun b hb => h b (List.mem_cons_of_mem _ hb)
    obtain ⟨ws, r, k1, k2, k3⟩ := h a List.mem_cons_self
    refine ⟨r :: rs, by rw [List.length_cons, List.length_cons, h1], ?_, fun x hx => ?_⟩
    · simp only [List.map_cons, RpL, Rp]
      exact ⟨⟨a, ws, rfl, hN _ _ k1, k2 _⟩, h2⟩
    · rcases List.mem_cons.mp hx with rfl | hx
      · exact k3
      · exact h3 x hx
theorem RowsAt.each {H H' : Hp} : ∀ {as : List Addr} {rs : List (List PyData)}, RowsAt K H H' as rs → ∀ a ∈ as, ∃ r ws, r ∈ rs ∧ H a = none ∧ H' a = some (.lst ws) ∧ ∀ G, RpL K G ws r
  | [], [], _, a, h => by cases h
  | b :: as, r :: rs, ⟨⟨h1, ws, h2, h3⟩, q⟩, a, h => by
    rcases List.mem_cons.mp h with rfl | h
    · exact ⟨r, ws, List.mem_cons_self, h1, h2, h3⟩
    · obtain ⟨r', ws', k, k'⟩ := RowsAt.each q a h
      exact ⟨r', ws', List.mem_cons_of_mem _ k, k'⟩
  | [], _ :: _, q, _, _ => q.elim
  | _ :: _, [], q, _, _ => q.elim
theorem RowsAt.len {H H' : Hp} : ∀ {as : List Addr} {rs : List (List PyData)}, RowsAt K H H' as rs → as.length = rs.length
  | [], [], _ => rfl
  | _ :: as, _ :: rs, ⟨_, q⟩ => by rw [List.length_cons, List.length_cons, RowsAt.len q]
  | [], _ :: _, q => q.elim
  | _ :: _, [], q => q.elim
theorem flat_intN (l : List Nat) : (intN l).all flatD = true := List.all_eq_true.mpr fun d hd => by
  obtain ⟨x, _, rfl⟩ := List.mem_map.mp hd
  rfl
theorem flat_strs' (l : List Str) : (l.map PyData.str).all flatD = true := List.all_eq_true.mpr fun d hd => by
  obtain ⟨x, _, rfl⟩ := List.mem_map.mp hd
  rfl
abbrev ρ1 (ns : List Int) (nm : PyData) (m : Mach) (cell : Int) (x7 x8 x9 x13 : Option Ent) : DEnv := [some (.sh (.scr ns)), none, some (py nm), some (py (strL' m.ms)), some (py (waysL m.ws)), some (py (intL m.bs)), some (py (.int cell)), x7, x8, x9, none, none, none, x13]
abbrev handD (m : Mach) : PyData := .list [strL' m.ms, waysL m.ws, intL m.bs]
theorem argsH_run {ns : List Int} {nm : PyData} {m : Mach} {cell : Int} : fArgsH (ρ1 ns nm m cell (some (py (handD m))) none none none) = some (.ok [py (strL' m.ms), py (waysL m.ws), py (intL m.bs)] (ρ1 ns nm m cell (some (py (handD m))) none none none)) := by
  unfold fArgsH handD
  have e1 : strL' m.ms = .list (m.ms.map .str) := rfl
  have e2 : waysL m.ws = .list (m.ws.map intL) := rfl
  have e3 : intL m.bs = .list (intN m.bs) := rfl
  unfold ρ1
  rw [e1, e2, e3]
  generalize m.ms.map PyData.str = MS at *
  generalize m.ws.map intL = WS at *
  generalize intN m.bs = BS at *
  simp
theorem hand_shaped {m : Mach} (hG : GoodM m) : SeqAt.shaped (handD m) = true := shaped_list0 3 (by decide) fun d hd => by
  simp only [List.mem_cons, List.not_mem_nil, or_false] at hd
  rcases hd with rfl | rfl | rfl
  · have := list_fact (ds := m.ms.map PyData.str) 1 fun d hd => by
      obtain ⟨s, hs, rfl⟩ := List.mem_map.mp hd
      exact ⟨markG_lay (hG s hs).1, by simp [PyData.depth]⟩
    exact ⟨this.1, Nat.le_trans this.2 (by decide)⟩
  · have := list_fact (ds := m.ws.map intL) 2 fun d hd => by
      obtain ⟨r, _, rfl⟩ := List.mem_map.mp hd
      exact list_fact 1 (ints_fact r)
    exact ⟨this.1, Nat.le_trans this.2 (by decide)⟩
  · have := list_fact 1 (ints_fact m.bs)
    exact ⟨this.1, Nat.le_trans this.2 (by decide)⟩
theorem c7_run {ns : List Int} {nm : PyData} {m : Mach} {cell : Int} (hM : MOk m) (hG : GoodM m) : fC7 (ρ1 ns nm m cell (some (py (handD m))) (some (.sh (machI m))) none none) = some (.ok false (ρ1 ns nm m cell (some (py (handD m))) (some (.sh (machI m))) none none)) := by
  have hs := ne_self (hand_shaped hG)
  have hR := right_eq hM hG
  unfold fC7
  unfold ρ1
  unfold handD at hs ⊢
  generalize machI m = M at *
  generalize strL' m.ms = MS at *
  generalize waysL m.ws = WS at *
  generalize intL m.bs = BS at *
  simp [hs, hR]
theorem starts_run {ns : List Int} {nm : PyData} {m : Mach} {cell : Int} : fStarts (ρ1 ns nm m cell none (some (.sh (machI m))) none none) = some (.ok (.own (.list (intN m.bs)) false) (ρ1 ns nm m cell none (some (.sh (machI m))) none none)) := by
  have i1 := ins_starts m
  have hs := starts_eq m
  unfold fStarts ρ1
  generalize machI m = M at *
  simp [fMeth, fIns_ap, i1, hs]
theorem leads_run {ns : List Int} {nm : PyData} {m : Mach} {cell : Int} (hM : MOk m) {k : Nat} (hk : k < m.ms.length) : fLeads (ρ1 ns nm m cell none (some (.sh (machI m))) none (some (py (.int k)))) = some (.ok (.own (.list (intN (rowN m k))) false) (ρ1 ns nm m cell none (some (.sh (machI m))) none (some (py (.int k))))) := by
  have i1 := ins_leads m
  have hs := leads_eq hM hk
  unfold fLeads ρ1
  generalize machI m = M at *
  simp [fMeth, fIns_ap, i1, hs]
theorem range_run {ns : List Int} {nm : PyData} {m : Mach} {cell : Int} (hM : MOk m) : (bnd (fCons (fBl oLen (fCons (fVar 3) fNil)) fNil) rng1) (ρ1 ns nm m cell none (some (.sh (machI m))) none none) = some (.ok ((List.range m.ms.length).map fun i => .int (i : Nat)) (ρ1 ns nm m cell none (some (.sh (machI m))) none none)) := by
  have e1 : strL' m.ms = .list (m.ms.map .str) := rfl
  have hl : (m.ms.map PyData.str).length = m.ms.length := List.length_map ..
  have hf := hM.few
  have hb : m.ms.length ≤ big := by simp only [big]; omega
  have hr : inRng (m.ms.length : Int) = true := by simp [inRng]; omega
  unfold ρ1
  rw [e1]
  generalize m.ms.map PyData.str = MS at *
  generalize machI m = M at *
  simp [hl, hb, hr, intsD_zero]
theorem rowN_len {m : Mach} (hM : MOk m) {k : Nat} (hk : k < m.ms.length) : (rowN m k).length ≤ 12 := by
  have hw := hM.lw
  have hf := hM.few
  have hrow : rowN m k ∈ m.ws := by
    unfold rowN
    rw [List.getD_eq_getElem?_getD, List.getElem?_eq_getElem (by omega)]
    exact List.getElem_mem _
  have := (hM.rows _ hrow).len
  omega
end
end LawX

set_option Elab.async false
set_option linter.all false
set_option autoImplicit false
set_option maxRecDepth 100000
namespace LawX
open PySem L2 VL PySem.Spec PyProof.Rows
noncomputable section
variable {P : Program} {w : World} {K : PySem.W.Frag} {mg : Str → Option Value} {base : Heap} {c : Nat → Addr}
theorem up2 {H : Hp} {a b : Addr} {o u : HO} (h : H b = some o) (n : b ≠ a) : upd H a u b = some o := by
  rw [upd_ne n]
  exact h
theorem rpl_ints_len {G : Hp} {ws : List V} {r : List Int} (h : RpL K G ws (r.map PyData.int)) : ws.length = r.length := by
  rw [h.length, List.length_map]
section
variable {t u : TS} {D : Ends} {σ : L2.St} {H : Hp} {te ta tb : TE} {g : TG} {tt : TT} {Q : VK} {r : R2} {tr : TA} {R : List V → Hp → Prop}
theorem to_seq (h : t { D with nx := u D } σ H) : tSeq t u D σ H := h
theorem to_asg (h : te σ H fun x H1 => g x σ H1 D.nx) : tAsg te g D σ H := h
theorem to_nm {i : Nat} {v : V} {Q : L2.St → Hp → Prop} (h : Q (σ.set i (some v)) H) : gName i v σ H Q := h
theorem to_lst (h : tr σ H fun xs H1 => xs.length ≤ sizeLine ∧ ∀ p, H1 p = none → Q (.ref p) (upd H1 p (.lst xs))) : tLst tr σ H Q := h
theorem to_cons (h : ta σ H fun x H1 => tr σ H1 fun xs H2 => R (x :: xs) H2) : tCons ta tr σ H R := h
theorem to_nil (h : R [] H) : tNil σ H R := h
theorem to_if (h : tt σ H fun b H1 => if b = true then t D σ H1 else u D σ H1) : tIfS tt t u D σ H := h
theorem to_next (h : D.nx σ H) : tNext D σ H := h
theorem to_drop (h : te σ H fun _ H1 => D.nx σ H1) : tDrop te D σ H := h
theorem to_op (h : ta σ H fun x H1 => tb σ H1 fun y H2 => r x y H2 Q) : tOp r ta tb σ H Q := h
end
set_option maxHeartbeats 0 in
theorem law_hand {vs : List V} {G H : Hp} {ds : List D} {Q : VK} {E : XK} (hl : ds.length = 1) (env0 : EnvOk K c G H (L2.start lawN vs) (argE none ds ++ List.replicate 13 none)) (hq : AnsN K c H Q E (f_law ds)) : tLaw K c E { nx := fun _ H' => Q .non H', rt := Q } (L2.start lawN vs) H := by
  unfold f_law at hq
  split at hq
  rotate_left
  · exact hq.elim
  rename_i ns
  obtain ⟨m, k', cell, nm, hM, hG, hp⟩ := pre_run ns
  have hf := hM.few
  have hpos := hM.pos
  have hlw := hM.lw
  unfold tLaw
  have no0 : NoOw (argE none [D.scr ns] ++ List.replicate 13 none) := argE_pad
  refine ⟨G, _, env0, ?_⟩
  show wpM (b_pre [some (.sh (.scr ns)), none, none, none, none, none, none, none, none, none, none, none, none, none]) _ _
  rw [hp]
  intro G1 H1 σ1 s1
  have g1 := s1.grow env0 no0
  have env1 : EnvOk K c G1 H1 σ1 (ρ1 ns nm m cell none none none none) := s1.env.forget (i := 1)
  have no1 : NoOw (ρ1 ns nm m cell none none none none) := noOw_ok rfl
  have sl : σ1.length = 14 := env1.len.symm
  clear hp s1 env0 no0
  -- handed
  try dsimp only
  refine to_seq (to_asg (to_lst (to_cons ?_)))
  have e1 : strL' m.ms = .list (m.ms.map .str) := rfl
  have e2 : waysL m.ws = .list (m.ws.map intL) := rfl
  have e3 : intL m.bs = .list (intN m.bs) := rfl
  have bl := hM.begins.len
  refine tD_pure env1 no1 (fLi_at (i := 3) (ms := m.ms.map .str) rfl (by rw [List.length_map]; omega)) fun vA G2 H2 _ s2 _ _ eA fA => ?_
  obtain ⟨A, wsA, rfl, nA, hA, rA⟩ := new_flat (flat_strs' _) eA fA
  have env2 := env1.grow no1 s2
  refine to_cons ?_
  refine w_compN (its := m.ws.map intL) (rows := m.ws.map intN) (b := false) (by decide) env2 no1 rfl (by rw [List.length_map]; simp only [big]; omega) (by rw [List.length_map, List.length_map]) (fun r hr => by
    obtain ⟨x, _, rfl⟩ := List.mem_map.mp hr
    exact flat_intN x) (fun i d r hd hr => ?_) fun vD H3 DD as s3 nr => ?_
  · rw [List.getElem?_map] at hd hr
    cases hx : m.ws[i]? with
    | none => rw [hx] at hd; cases hd
    | some x =>
      rw [hx] at hd hr
      cases hd
      cases hr
      have hmem := List.mem_of_getElem? hx
      have := (hM.rows _ hmem).len
      exact ⟨[some (.sh (.scr ns)), none, some (py nm), some (py (strL' m.ms)), some (py (waysL m.ws)), some (py (intL m.bs)), some (py (.int cell)), none, none, none, some (py (intL x)), none, none, none], rfl, noOw_ok rfl, fLi_at (i := 10) rfl (by unfold intN; rw [List.length_map]; omega)⟩
  have env3 := env2.grow no1 s3
  refine to_cons ?_
  refine tD_pure env3 no1 (fLi_at (i := 5) (ms := intN m.bs) rfl (by unfold intN; rw [List.length_map]; omega)) fun vB G4 H4 _ s4 _ _ eB fB => ?_
  obtain ⟨B, wsB, rfl, nB, hB, rB⟩ := new_flat (flat_intN _) eB fB
  have env4 := env3.grow no1 s4
  refine to_nil ⟨by show 3 ≤ _; decide, fun L nL => to_nm ?_⟩
  obtain ⟨rfl, nD, hD, nd, nDa, ra⟩ := nr
  -- where all stands
  have s14 : Same H1 H4 := (s2.trans s3).trans s4
  have n1 : ∀ {p : Addr} {o : HO}, H1 p = some o → p ≠ L := fun h z => by
    rw [z, s14.free nL] at h
    cases h
  have hA4 : H4 A = some (.lst wsA) := s4 _ _ (s3 _ _ hA)
  have hD4 : H4 DD = some (.lst (as.map V.ref)) := s4 _ _ hD
  have neL : ∀ {p : Addr} {o : HO}, H4 p = some o → p ≠ L := fun h z => by
    rw [z, nL] at h
    cases h
  have AD : A ≠ DD := fun z => by rw [z, nD] at hA; cases hA
  have AB : A ≠ B := fun z => by rw [z] at hA; rw [s3 _ _ hA] at nB; cases nB
  have DB : DD ≠ B := fun z => by rw [z, nB] at hD; cases hD
  have lAs : as.length = m.ws.length := by rw [RowsAt.len ra, List.length_map]
  obtain ⟨a0, as', eas⟩ : ∃ a0 as', as = a0 :: as' := by
    cases as with
    | nil => rw [List.length_nil] at lAs; omega
    | cons a0 as' => exact ⟨a0, as', rfl⟩
  obtain ⟨r0, ws0, hr0, na0, ha0, rp0⟩ := RowsAt.each ra a0 (by rw [eas]; exact List.mem_cons_self)
  have a0A : a0 ≠ A := fun z => by rw [z, hA] at na0; cases na0
  have a0D : a0 ≠ DD := fun z => nDa (by rw [← z, eas]; exact List.mem_cons_self)
  have a0B : a0 ≠ B := fun z => by rw [z, nB] at ha0; cases ha0
  have lr0 : ws0.length ≤ 12 := by
    rw [(rp0 H).length]
    obtain ⟨x, hx, rfl⟩ := List.mem_map.mp hr0
    have := (hM.rows _ hx).len
    unfold intN
    rw [List.length_map]
    omega
  have ha04 : H4 a0 = some (.lst ws0) := s4 _ _ ha0
  have s5 : Same H4 (upd H4 L (.lst [.ref A, .ref DD, .ref B])) := same_up nL
  have s15 := s14.trans s5
  have hL5 : upd H4 L (.lst [.ref A, .ref DD, .ref B]) L = some (.lst [.ref A, .ref DD, .ref B]) := upd_same
  have rD : RpD K c (nw H1 (upd H4 L (.lst [.ref A, .ref DD, .ref B]))) (.ref L) (.py (handD m)) := by
    have nwat : ∀ {p : Addr} {o : HO}, H1 p = none → H4 p = some o → nw H1 (upd H4 L (.lst [.ref A, .ref DD, .ref B])) p = some o := fun h1 h2 => by
      rw [nw_new h1]
      exact s5 _ _ h2
    simp only [RpD, Rp, handD]
    refine ⟨L, _, rfl, by rw [nw_new (s14.free nL)]; exact hL5, ?_⟩
    rw [e1, e2, e3]
    simp only [RpL, Rp]
    have z1 : H1 DD = none := s2.free nD
    have z2 : H1 B = none := (s2.trans s3).free nB
    refine ⟨⟨A, wsA, rfl, nwat nA hA4, rA _⟩, ⟨DD, _, rfl, nwat z1 hD4, ?_⟩, ⟨B, wsB, rfl, nwat z2 hB, rB _⟩, trivial⟩
    have := (ra.mono (H2 := upd H4 L (.lst [.ref A, .ref DD, .ref B])) fun a o h _ => s5 _ _ (s4 _ _ h)).pre s2
    have := this.rpl (N := nw H1 (upd H4 L (.lst [.ref A, .ref DD, .ref B]))) fun a o h1 h2 => by
      rw [nw_new h1]
      exact h2
    rw [List.map_map] at this
    exact this
  have nal : H1 L = none := s14.free nL
  have hA5 := s5 _ _ hA4
  have hD5 := s5 _ _ hD4
  have hB5 := s5 _ _ hB
  have ha05 := s5 _ _ ha04
  have zA := nA
  have zD : H1 DD = none := s2.free nD
  have zB : H1 B = none := (s2.trans s3).free nB
  have za0 : H1 a0 = none := s2.free na0
  have LA : A ≠ L := neL hA4
  have LD : DD ≠ L := neL hD4
  have LB : B ≠ L := neL hB
  have La0 : a0 ≠ L := neL ha04
  have env5 : EnvOk K c G1 (upd H4 L (.lst [.ref A, .ref DD, .ref B])) (σ1.set 7 (some (.ref L))) (ρ1 ns nm m cell none none none none) := (env1.grow no1 s15).noSlot rfl
  have wA : wsA.length = m.ms.length := by rw [(rA H).length, List.length_map]
  have wB : wsB.length ≤ 12 := by
    rw [(rB H).length]
    unfold intN
    rw [List.length_map]
    omega
  have wD : as.length ≤ 12 := by omega
  have gS : Same H (upd H4 L (.lst [.ref A, .ref DD, .ref B])) := g1.trans s15
  clear eA fA eB fB env2 env3 env4 nL nB hB nD hD hA hA4 hD4 ha04 ha0 na0 nA n1 neL
  generalize hH5 : upd H4 L (.lst [.ref A, .ref DD, .ref B]) = H5 at *
  -- the machine
  try dsimp only
  refine to_seq (to_asg ?_)
  have hs7 : (σ1.set 7 (some (.ref L)))[7]? = some (some (.ref L)) := List.getElem?_set_self (by omega)
  have lend5 := lend env5 no1 (nw_le (H := H1) (H' := H5)) (fun p o h => env1.le.free (nw_at h).1) hs7 rD
  refine rd_callN (d := machI m) lend5 (no1.set (d := .py (handD m))) argsH_run rfl rfl (make_eq hM hG) fun v H6 H7 s6 s7 r7 => to_nm ?_
  have env7 : EnvOk K c (mrg G1 (nw H6 H7)) H7 ((σ1.set 7 (some (.ref L))).set 8 (some v)) (ρ1 ns nm m cell none (some (.sh (machI m))) none none) := by
    have k1 : Same G1 H6 := env5.le.trans s6
    have k2 : Same (mrg G1 (nw H6 H7)) H7 := mrg_le (k1.trans s7)
    exact ((env5.grow no1 (s6.trans s7)).up no1 (mrg_l k1) k2).setV (i := 8) no1 (by show 8 < 14; decide) (r7.mono mrg_r)
  have s57 := s6.trans s7
  -- what the law handed in is in no shared part
  have gn : ∀ {p : Addr} {o : HO}, H1 p = none → H5 p = some o → mrg G1 (nw H6 H7) p = none := fun h1 h2 => mrg_none (env1.le.free h1) (nw_old (s6 _ _ h2))
  have gA := gn zA hA5
  have gD := gn zD hD5
  have gB := gn zB hB5
  have ga0 := gn za0 ha05
  have no7 : NoOw (ρ1 ns nm m cell none (some (.sh (machI m))) none none) := noOw_ok rfl
  generalize hG7 : mrg G1 (nw H6 H7) = G7 at *
  have hs77 : ((σ1.set 7 (some (.ref L))).set 8 (some v))[7]? = some (some (.ref L)) := by
    rw [List.getElem?_set_ne (by decide)]
    exact hs7
  try dsimp only
  refine to_seq (to_if ?_)
  have sl7 : ((σ1.set 7 (some (.ref L))).set 8 (some v)).length = 14 := by rw [List.length_set, List.length_set, sl]
  generalize hσ7 : (σ1.set 7 (some (.ref L))).set 8 (some v) = σ7 at *
  have lend7 := lend env7 no7 ((nw_le (H := H1) (H' := H5)).trans s57) (fun p o h => gn (nw_at h).1 (nw_at h).2) hs77 rD
  refine tDT_pure lend7 (no7.set (d := .py (handD m))) (c7_run hM hG) fun H8 s8 => (if_neg (by decide)).mpr (to_next ?_)
  have env8 := env7.grow no7 s8
  have s58 := s57.trans s8
  have hL8 := s58 _ _ hL5
  have hA8 := s58 _ _ hA5
  have hD8 := s58 _ _ hD5
  have hB8 := s58 _ _ hB5
  have ha8 := s58 _ _ ha05
  have gS8 := gS.trans s58
  have fr : ∀ {p : Addr}, H1 p = none → H p = none := fun h => g1.free h
  -- handed[0][0] = ..
  have at0 : atI [V.ref A, .ref DD, .ref B] 0 = some (.ref A) := rfl
  have at1 : atI [V.ref A, .ref DD, .ref B] 1 = some (.ref DD) := rfl
  have at2 : atI [V.ref A, .ref DD, .ref B] 2 = some (.ref B) := rfl
  have ix0 : ixN wsA.length 0 = some 0 := by
    rw [wA]
    unfold ixN
    rw [if_pos (by decide), if_pos (by simp; omega)]
    rfl
  try dsimp only
  refine to_seq (to_asg ?_)
  refine ⟨.ref L, hs77, L, _, 0, .ref A, rfl, rfl, SqL.of hL8, at0, A, wsA, 0, 0, rfl, rfl, hA8, ix0, ?_⟩
  have env9 := env8.poke (a := A) (o := .lst (wsA.set 0 (.str "zzzzzz"))) no7 gA
  have hL9 := up2 (u := .lst (wsA.set 0 (.str "zzzzzz"))) hL8 (Ne.symm LA)
  have hD9 := up2 (u := .lst (wsA.set 0 (.str "zzzzzz"))) hD8 (Ne.symm AD)
  have hB9 := up2 (u := .lst (wsA.set 0 (.str "zzzzzz"))) hB8 (Ne.symm AB)
  have ha9 := up2 (u := .lst (wsA.set 0 (.str "zzzzzz"))) ha8 a0A
  have gS9 := sameUp (o := .lst (wsA.set 0 (.str "zzzzzz"))) gS8 (fr zA)
  generalize upd H8 A (.lst (wsA.set 0 (.str "zzzzzz"))) = H9 at *
  -- handed[1][0].append(99)
  have at3 : atI (as.map V.ref) 0 = some (.ref a0) := by
    rw [eas]
    exact atI_nat (j := 0) rfl
  try dsimp only
  refine to_seq (to_drop ?_)
  refine ⟨.ref L, hs77, L, _, 1, .ref DD, rfl, rfl, SqL.of hL9, at1, DD, _, 0, .ref a0, rfl, rfl, SqL.of hD9, at3, .inl ⟨rfl, _, SqL.of ha9⟩, a0, ws0, .int 99, rfl, rfl, ha9, small_big' (by simp only [big]; omega), ?_⟩
  have env10 := env9.poke (a := a0) (o := .lst (ws0 ++ [.int 99])) no7 ga0
  have hL10 := up2 (u := .lst (ws0 ++ [.int 99])) hL9 (Ne.symm La0)
  have hD10 := up2 (u := .lst (ws0 ++ [.int 99])) hD9 (Ne.symm a0D)
  have hB10 := up2 (u := .lst (ws0 ++ [.int 99])) hB9 (Ne.symm a0B)
  have gS10 := sameUp (o := .lst (ws0 ++ [.int 99])) gS9 (fr za0)
  generalize upd H9 a0 (.lst (ws0 ++ [.int 99])) = H10 at *
  -- handed[1].pop()
  obtain ⟨y, hy⟩ : ∃ y, (as.map V.ref)[(as.map V.ref).length - 1]? = some y := ⟨_, List.getElem?_eq_getElem (by rw [List.length_map]; omega)⟩
  try dsimp only
  refine to_seq (to_drop ?_)
  refine ⟨.ref L, hs77, L, _, 1, .ref DD, rfl, rfl, SqL.of hL10, at1, .inl ⟨rfl, _, SqL.of hD10⟩, DD, _, y, rfl, rfl, hD10, hy, ?_⟩
  have env11 := env10.poke (a := DD) (o := .lst (as.map V.ref).dropLast) no7 gD
  have hL11 := up2 (u := .lst (as.map V.ref).dropLast) hL10 (Ne.symm LD)
  have hB11 := up2 (u := .lst (as.map V.ref).dropLast) hB10 (Ne.symm DB)
  have gS11 := sameUp (o := .lst (as.map V.ref).dropLast) gS10 (fr zD)
  generalize upd H10 DD (.lst (as.map V.ref).dropLast) = H11 at *
  -- handed[2].append(99)
  try dsimp only
  refine to_seq (to_drop ?_)
  refine ⟨.ref L, hs77, L, _, 2, .ref B, rfl, rfl, SqL.of hL11, at2, .inl ⟨rfl, _, SqL.of hB11⟩, B, wsB, .int 99, rfl, rfl, hB11, small_big' (by simp only [big]; omega), ?_⟩
  have env12 := env11.poke (a := B) (o := .lst (wsB ++ [.int 99])) no7 gB
  have gS12 := sameUp (o := .lst (wsB ++ [.int 99])) gS11 (fr zB)
  try dsimp only
  refine to_seq (to_asg (to_op (to_lst (to_cons ?_))))
  generalize upd H11 B (.lst (wsB ++ [.int 99])) = H12 at *
  -- held
  refine tD_pure env12 no7 starts_run fun vS G13 H13 _ s13 _ _ eS fS => ?_
  obtain ⟨S0, wsS, rfl, nS, hS, rS⟩ := new_flat (flat_intN _) eS fS
  refine to_nil ⟨by show 1 ≤ _; decide, fun p np => ?_⟩
  have s14' : Same H13 (upd H13 p (.lst [.ref S0])) := same_up np
  have s1214 := s13.trans s14'
  have hp14 : upd H13 p (.lst [.ref S0]) p = some (.lst [.ref S0]) := upd_same
  have hS14 := s14' _ _ hS
  generalize upd H13 p (.lst [.ref S0]) = H14 at *
  have env14 := env12.grow no7 s1214
  refine w_compN (its := (List.range m.ms.length).map fun i => .int (i : Nat)) (rows := (List.range m.ms.length).map fun k => intN (rowN m k)) (b := false) (by decide) env14 no7 (range_run hM) (by rw [List.length_map, List.length_range]; simp only [big]; omega) (by rw [List.length_map, List.length_map]) (fun r hr => by
    obtain ⟨x, _, rfl⟩ := List.mem_map.mp hr
    exact flat_intN _) (fun i d r hd hr => ?_) fun vD2 H15 D2 as2 s15' nr2 => ?_
  · rw [List.getElem?_map] at hd hr
    cases hx : (List.range m.ms.length)[i]? with
    | none => rw [hx] at hd; cases hd
    | some x =>
      rw [hx] at hd hr
      cases hd
      cases hr
      have hk := List.mem_range.mp (List.mem_of_getElem? hx)
      exact ⟨ρ1 ns nm m cell none (some (.sh (machI m))) none (some (py (.int x))), rfl, noOw_ok rfl, leads_run hM hk⟩
  obtain ⟨rfl, nD2, hD2, nd2, nDa2, ra2⟩ := nr2
  have l2 : as2.length = m.ms.length := by rw [RowsAt.len ra2, List.length_map, List.length_range]
  refine ⟨p, D2, _, _, rfl, rfl, s15' _ _ hp14, hD2, ?_, fun q nq => to_nm ?_⟩
  · show 1 + (as2.map V.ref).length ≤ _
    have : 1 + (as2.map V.ref).length < sizeLine := small_big' (by rw [List.length_map]; simp only [big]; omega)
    omega
  have s16 : Same H15 (upd H15 q (.lst ([.ref S0] ++ as2.map V.ref))) := same_up nq
  have s1216 := (s1214.trans s15').trans s16
  have hq16 : upd H15 q (.lst ([.ref S0] ++ as2.map V.ref)) q = some (.lst ((S0 :: as2).map V.ref)) := upd_same
  have wsl : ∀ {l : List Nat} {ws : List V}, l.length ≤ 12 → (∀ G, RpL K G ws (intN l)) → ∃ r : List Int, (∀ G, RpL K G ws (r.map PyData.int)) ∧ r.length ≤ 12 := fun {l ws} hl hr => ⟨l.map (fun x : Nat => ((x : Nat) : Int)), fun G => by
    rw [List.map_map]
    exact hr G, by rw [List.length_map]; exact hl⟩
  have each : ∀ a ∈ S0 :: as2, ∃ (ws : List V) (r : List Int), H12 a = none ∧ a ≠ q ∧ upd H15 q (.lst ([.ref S0] ++ as2.map V.ref)) a = some (.lst ws) ∧ (∀ G, RpL K G ws (r.map PyData.int)) ∧ r.length ≤ 12 := fun a ha => by
    rcases List.mem_cons.mp ha with rfl | ha
    · obtain ⟨r, k1, k2⟩ := wsl (by have := hM.begins.len; omega) rS
      have h15 := s15' _ _ hS14
      exact ⟨wsS, r, nS, fun z => (by rw [z, nq] at h15; cases h15), s16 _ _ h15, k1, k2⟩
    · obtain ⟨r, ws, hr, k1, k2, k3⟩ := RowsAt.each ra2 a ha
      obtain ⟨x, hx, rfl⟩ := List.mem_map.mp hr
      obtain ⟨r, k4, k5⟩ := wsl (rowN_len hM (List.mem_range.mp hx)) k3
      exact ⟨ws, r, s1214.free k1, fun z => (by rw [z, nq] at k2; cases k2), s16 _ _ k2, k4, k5⟩
  have lal : (S0 :: as2).length ≤ 13 := by rw [List.length_cons]; omega
  have nq12 : H12 q = none := (s1214.trans s15').free nq
  generalize S0 :: as2 = al at *
  generalize upd H15 q (.lst ([.ref S0] ++ as2.map V.ref)) = H16 at *
  have env16 : EnvOk K c G7 H16 (σ7.set 9 (some (.ref q))) (ρ1 ns nm m cell none (some (.sh (machI m))) none none) := (env12.grow no7 s1216).noSlot rfl
  have hs9 : (σ7.set 9 (some (.ref q)))[9]? = some (some (.ref q)) := List.getElem?_set_self (by omega)
  have gS16 := gS12.trans s1216
  try dsimp only
  refine to_seq ?_
  generalize σ7.set 9 (some (.ref q)) = σ16 at *
  have gq : ∀ {a : Addr}, H12 a = none → G7 a = none := fun h => env12.le.free h
  refine ⟨.ref q, hs9, q, rfl, ⟨_, SqL.of hq16⟩, for_list (fun i σ Hi => EnvOk K c G7 Hi σ (ρ1 ns nm m cell none (some (.sh (machI m))) none none) ∧ σ[9]? = some (some (.ref q)) ∧ Hi q = some (.lst (al.map V.ref)) ∧ Same H12 Hi ∧ Same H Hi ∧ ∀ a ∈ al, ∃ (ws : List V) (r : List Int), Hi a = some (.lst ws) ∧ (∀ G, RpL K G ws (r.map PyData.int)) ∧ r.length ≤ 12 + i)
    ⟨env16, hs9, hq16, s1216, gS16, fun a ha => ?_⟩ (fun i σ Hi _ h => SqL.of h.2.2.1) (fun i x σ Hi hx h => ?_) fun σ Hi h => ?_⟩
  · obtain ⟨ws, r, _, _, k1, k2, k3⟩ := each a ha
    exact ⟨ws, r, k1, k2, k3⟩
  · obtain ⟨ev, h9, hqi, s12, gs, hal⟩ := h
    rw [List.getElem?_map] at hx
    cases hxi : al[i]? with
    | none => rw [hxi] at hx; cases hx
    | some a =>
      rw [hxi] at hx
      cases hx
      have hil : i < al.length := (List.getElem?_eq_some_iff.mp hxi).1
      have ha := List.mem_of_getElem? hxi
      obtain ⟨_, _, na, aq, _⟩ := each a ha
      obtain ⟨ws, r, k1, k2, k3⟩ := hal a ha
      have hlen : σ.length = 14 := ev.len.symm
      have hg10 : (σ.set 10 (some (V.ref a)))[10]? = some (some (.ref a)) := List.getElem?_set_self (by omega)
      have lws : ws.length < sizeLine := small_big' (by rw [rpl_ints_len (k2 H)]; simp only [big]; omega)
      refine ⟨.ref a, hg10, .inl ⟨rfl, _, SqL.of k1⟩, a, ws, .int 99, rfl, rfl, k1, lws, ?_, ?_, ?_, ?_, ?_, fun b hb => ?_⟩
      · exact (ev.noSlot (i := 10) rfl).poke no7 (gq na)
      · rw [List.getElem?_set_ne (by decide)]
        exact h9
      · exact up2 hqi (Ne.symm aq)
      · exact sameUp s12 na
      · exact sameUp gs (gS12.free na)
      · by_cases hba : b = a
        · subst hba
          refine ⟨_, r ++ [99], upd_same, fun G => ?_, by rw [List.length_append]; show r.length + 1 ≤ _; omega⟩
          rw [List.map_append]
          exact (k2 G).append (.one (by simp only [Rp]))
        · obtain ⟨ws', r', j1, j2, j3⟩ := hal b hb
          exact ⟨ws', r', up2 j1 hba, j2, by omega⟩
  · obtain ⟨ev, h9, hqi, s12, gs, hal⟩ := h
    rw [List.length_map] at hal
    have hNat : ∀ a o, Hi a = some o → H12 a = none → nw H12 Hi a = some o := fun a o h n => by
      rw [nw_new n]
      exact h
    obtain ⟨rs, q1, q2, q3⟩ := rows_told (K := K) (H := fun a => if H12 a = none then Hi a else none) (N := nw H12 Hi) (n := 12 + al.length) (al := al) (fun a o h => by
      have h : (if H12 a = none then Hi a else none) = some o := h
      split at h
      · exact hNat a o h (by assumption)
      · cases h) fun a ha => by
        obtain ⟨ws, r, k1, k2, k3⟩ := hal a ha
        obtain ⟨_, _, na, _⟩ := each a ha
        exact ⟨ws, r, by rw [if_pos na]; exact k1, k2, k3⟩
    have rH : RpD K c (nw H12 Hi) (.ref q) (.py (.list (rs.map fun r => .list (r.map .int)))) := by
      simp only [RpD, Rp]
      exact ⟨q, _, rfl, hNat _ _ hqi nq12, q2⟩
    have lendQ := lend ev no7 (nw_le (H := H12) (H' := Hi)) (fun p o h => gq (nw_at h).1) h9 rH
    obtain ⟨ρ', hpost⟩ := post_run hM hG (rs := rs) (by rw [q1]; omega) (fun r hr => Nat.le_trans (q3 r hr) (by omega)) (a0 := some (.sh (.scr ns))) (a2 := some (py nm)) (a6 := some (py (.int cell))) rfl
    refine ⟨_, _, lendQ, ?_⟩
    show wpM (b_post [some (.sh (.scr ns)), none, some (py nm), some (py (strL' m.ms)), some (py (waysL m.ws)), some (py (intL m.bs)), some (py (.int cell)), none, some (.sh (machI m)), some (py (.list (rs.map fun r => .list (r.map .int)))), none, none, none, none]) _ _
    rw [hpost]
    intro v' G' H' σ' st ev' _
    have noq := no7.set (i := 9) (d := .py (.list (rs.map fun r => .list (r.map .int))))
    refine hq v' H' (gs.trans (st.grow lendQ noq)) ?_
    simp only [EntOk, RpD, Rp] at ev' ⊢
    exact ev'
end
end LawX

set_option Elab.async false
set_option linter.all false
set_option autoImplicit false
set_option maxRecDepth 100000
namespace LawX
open PySem L2 VL PySem.Spec PyProof.Rows
noncomputable section
variable {P : Program} {w : World} {K : PySem.W.Frag} {mg : Str → Option Value} {base : Heap} {c : Nat → Addr}
theorem ok_law {f : Addr} {fd : FuncData} (F : Fun K "law" "law" s_law f fd) (z_list : mg "list" = none) (z_len : mg "len" = none) (z_range : mg "range" = none)
    (F_law_cell_at : FnAt P w K mg base c 1 "_law_cell_at" 2 none f_law_cell_at) (F_law_names : FnAt P w K mg base c 1 "_law_names" 1 none f_law_names) (F_law_machine : FnAt P w K mg base c 2 "_law_machine" 4 (some 1) f_law_machine) (F_law_wrong : FnAt P w K mg base c 1 "_law_wrong" 4 none f_law_wrong) (F_law_refused : FnAt P w K mg base c 6 "_law_refused" 1 none f_law_refused) (F_law_right : FnAt P w K mg base c 2 "_law_right" 4 none f_law_right)
    (M_Machine_starts : MethAt P w K mg base c 10 1 "starts" 1 none f_Machine_starts) (M_Machine_leads : MethAt P w K mg base c 10 1 "leads" 2 none f_Machine_leads) (K_Machine : MkAt P w K mg base c 4 "Machine" 10 3 f_Machine) : FnOk P w K mg base (L2.CX P w) 7 f fd ["_law_script"] (spF K c 1 none f_law) :=
  (fnN_ok F sc_law (fun cdv A outer s H E hr => dv_law hr z_list z_len z_range F_law_cell_at F_law_names F_law_machine F_law_wrong F_law_refused F_law_right K_Machine M_Machine_starts M_Machine_leads) fun vs G H ds Q E hl env h => law_hand hl (by rw [hl] at env; exact env) h).imp fun vs H Q E h => spF_spN sh_law h
end
end LawX

set_option Elab.async false
set_option linter.all false
set_option autoImplicit false
set_option maxRecDepth 100000
namespace LawX
open PySem L2 VL PySem.Spec PyProof.Rows
noncomputable section
variable {P : Program} {w : World} {K : PySem.W.Frag} {mg : Str → Option Value} {base : Heap} {c : Nat → Addr}


end
/-! ### the top -/
def spLaw (K : PySem.W.Frag) : Sp := fun vs H Q _ => ∃ (a : Addr) (ns : List Int), vs = [.ref a] ∧ SqL K H a (ns.map V.int) ∧ ns.length ≤ 63 ∧ ∀ H', Q (.bl true) H'
theorem all_mk (LT : ∀ ns : List Int, ns.length ≤ 63 → f_law [.scr ns] = some (.ok (py (.bool true)) .none)) {l : PySem.W.OpenLaw} {w : World} {K : PySem.W.Frag} {h : Heap} {mg : Str → Option Value} {fa : Addr} (X : K.In h) (G : h.Ns mainGlobals mg) (hfa : mg "law" = some (.ref fa))
    {X_BadMachine : Addr} (aX_BadMachine : PySem.W.nsIn K mainGlobals "BadMachine" = some (some (.ref X_BadMachine)))
    {X_WalkError : Addr} (aX_WalkError : PySem.W.nsIn K mainGlobals "WalkError" = some (some (.ref X_WalkError)))
    {X_BadSaying : Addr} (aX_BadSaying : PySem.W.nsIn K mainGlobals "BadSaying" = some (some (.ref X_BadSaying)))
    {X_TooMany : Addr} (aX_TooMany : PySem.W.nsIn K mainGlobals "TooMany" = some (some (.ref X_TooMany)))
    {X_NoWalk : Addr} (aX_NoWalk : PySem.W.nsIn K mainGlobals "NoWalk" = some (some (.ref X_NoWalk)))
    {X_Machine : Addr} (aX_Machine : PySem.W.nsIn K mainGlobals "Machine" = some (some (.ref X_Machine)))
    (ex_BadMachine : PySem.W.excIn K X_BadMachine [.type "ValueError", .type "Exception", .type "BaseException", .type "object"] "ValueError.__new__" = true)
    (ek_BadMachine : PySem.W.keepIn K (.ref X_BadMachine) = true)
    (eb_BadMachine : PySem.W.subIn K (.ref X_BadMachine) (.type "BaseException") = some true)
    (et_BadMachine : PySem.W.typeIn K (.ref X_BadMachine) = some (.type "type"))
    (ex_WalkError : PySem.W.excIn K X_WalkError [.type "ValueError", .type "Exception", .type "BaseException", .type "object"] "ValueError.__new__" = true)
    (ek_WalkError : PySem.W.keepIn K (.ref X_WalkError) = true)
    (eb_WalkError : PySem.W.subIn K (.ref X_WalkError) (.type "BaseException") = some true)
    (et_WalkError : PySem.W.typeIn K (.ref X_WalkError) = some (.type "type"))
    (ex_BadSaying : PySem.W.excIn K X_BadSaying [.type "ValueError", .type "Exception", .type "BaseException", .type "object"] "ValueError.__new__" = true)
    (ek_BadSaying : PySem.W.keepIn K (.ref X_BadSaying) = true)
    (eb_BadSaying : PySem.W.subIn K (.ref X_BadSaying) (.type "BaseException") = some true)
    (et_BadSaying : PySem.W.typeIn K (.ref X_BadSaying) = some (.type "type"))
    (ex_TooMany : PySem.W.excIn K X_TooMany [.type "ValueError", .type "Exception", .type "BaseException", .type "object"] "ValueError.__new__" = true)
    (ek_TooMany : PySem.W.keepIn K (.ref X_TooMany) = true)
    (eb_TooMany : PySem.W.subIn K (.ref X_TooMany) (.type "BaseException") = some true)
    (et_TooMany : PySem.W.typeIn K (.ref X_TooMany) = some (.type "type"))
    (ex_NoWalk : PySem.W.excIn K X_NoWalk [.type "ValueError", .type "Exception", .type "BaseException", .type "object"] "ValueError.__new__" = true)
    (ek_NoWalk : PySem.W.keepIn K (.ref X_NoWalk) = true)
    (eb_NoWalk : PySem.W.subIn K (.ref X_NoWalk) (.type "BaseException") = some true)
    (et_NoWalk : PySem.W.typeIn K (.ref X_NoWalk) = some (.type "type"))
    (xhg_WalkError : PySem.W.findIn K (.ref X_WalkError) "__getattribute__" = some (some (.builtin "BaseException.__getattribute__")))
    (xhk_WalkError : PySem.W.findIn K (.ref X_WalkError) "__getattr__" = some none)
    (xhd_WalkError : PySem.W.hasDictIn K X_WalkError = true)
    (xha_WalkError : PySem.W.findIn K (.ref X_WalkError) "__class__" = some (some (.builtin "object.__class__")))
    (xhm_WalkError : PySem.W.mroIn K X_WalkError (.type "object") = some true)
    (xi_WalkError : PySem.W.isClsIn K X_WalkError = true)
    (xs_WalkError : PySem.W.subIn K (.ref X_WalkError) (.ref X_WalkError) = some true)
    (xv_WalkError : PySem.W.subIn K (.ref X_WalkError) (.type "ValueError") = some true)
    (xhg_BadSaying : PySem.W.findIn K (.ref X_BadSaying) "__getattribute__" = some (some (.builtin "BaseException.__getattribute__")))
    (xhk_BadSaying : PySem.W.findIn K (.ref X_BadSaying) "__getattr__" = some none)
    (xhd_BadSaying : PySem.W.hasDictIn K X_BadSaying = true)
    (xha_BadSaying : PySem.W.findIn K (.ref X_BadSaying) "__class__" = some (some (.builtin "object.__class__")))
    (xhm_BadSaying : PySem.W.mroIn K X_BadSaying (.type "object") = some true)
    (xi_BadSaying : PySem.W.isClsIn K X_BadSaying = true)
    (xs_BadSaying : PySem.W.subIn K (.ref X_BadSaying) (.ref X_BadSaying) = some true)
    (xv_BadSaying : PySem.W.subIn K (.ref X_BadSaying) (.type "ValueError") = some true)
    (xhg_TooMany : PySem.W.findIn K (.ref X_TooMany) "__getattribute__" = some (some (.builtin "BaseException.__getattribute__")))
    (xhk_TooMany : PySem.W.findIn K (.ref X_TooMany) "__getattr__" = some none)
    (xhd_TooMany : PySem.W.hasDictIn K X_TooMany = true)
    (xha_TooMany : PySem.W.findIn K (.ref X_TooMany) "__class__" = some (some (.builtin "object.__class__")))
    (xhm_TooMany : PySem.W.mroIn K X_TooMany (.type "object") = some true)
    (xi_TooMany : PySem.W.isClsIn K X_TooMany = true)
    (xs_TooMany : PySem.W.subIn K (.ref X_TooMany) (.ref X_TooMany) = some true)
    (xv_TooMany : PySem.W.subIn K (.ref X_TooMany) (.type "ValueError") = some true)
    (xhg_BadMachine : PySem.W.findIn K (.ref X_BadMachine) "__getattribute__" = some (some (.builtin "BaseException.__getattribute__")))
    (xhk_BadMachine : PySem.W.findIn K (.ref X_BadMachine) "__getattr__" = some none)
    (xhd_BadMachine : PySem.W.hasDictIn K X_BadMachine = true)
    (xha_BadMachine : PySem.W.findIn K (.ref X_BadMachine) "__class__" = some (some (.builtin "object.__class__")))
    (xhm_BadMachine : PySem.W.mroIn K X_BadMachine (.type "object") = some true)
    (xi_BadMachine : PySem.W.isClsIn K X_BadMachine = true)
    (xs_BadMachine : PySem.W.subIn K (.ref X_BadMachine) (.ref X_BadMachine) = some true)
    (xv_BadMachine : PySem.W.subIn K (.ref X_BadMachine) (.type "ValueError") = some true)
    (xhg_NoWalk : PySem.W.findIn K (.ref X_NoWalk) "__getattribute__" = some (some (.builtin "BaseException.__getattribute__")))
    (xhk_NoWalk : PySem.W.findIn K (.ref X_NoWalk) "__getattr__" = some none)
    (xhd_NoWalk : PySem.W.hasDictIn K X_NoWalk = true)
    (xha_NoWalk : PySem.W.findIn K (.ref X_NoWalk) "__class__" = some (some (.builtin "object.__class__")))
    (xhm_NoWalk : PySem.W.mroIn K X_NoWalk (.type "object") = some true)
    (xi_NoWalk : PySem.W.isClsIn K X_NoWalk = true)
    (xs_NoWalk : PySem.W.subIn K (.ref X_NoWalk) (.ref X_NoWalk) = some true)
    (xv_NoWalk : PySem.W.subIn K (.ref X_NoWalk) (.type "ValueError") = some true)
    (xhn : PySem.W.specialIn K (.builtin "object.__class__") "__get__" = some (some (.builtin "getset_descriptor.__get__"))) (xht : PySem.W.takesIn K (.builtin "object.__class__") = some true)
    (q_BadMachine_WalkError_true : PySem.W.subIn K (.ref X_BadMachine) (.ref X_WalkError) = some true)
    (q_BadMachine_NoWalk_false : PySem.W.subIn K (.ref X_BadMachine) (.ref X_NoWalk) = some false)
    (q_BadMachine_BadSaying_false : PySem.W.subIn K (.ref X_BadMachine) (.ref X_BadSaying) = some false)
    (q_BadMachine_TooMany_false : PySem.W.subIn K (.ref X_BadMachine) (.ref X_TooMany) = some false)
    (cpg_Machine : PySem.W.plainGet K X_Machine Str.empty = true)
    (chd_Machine : PySem.W.hasDictIn K X_Machine = true)
    (cpo_Machine : PySem.W.plainOver K X_Machine = true)
    (csa_Machine : PySem.W.findIn K (.ref X_Machine) "__setattr__" = some (some (.builtin "object.__setattr__")))
    (km_Machine : PySem.W.makesIn K X_Machine = true)
    (kk_Machine : PySem.W.keepIn K (.ref X_Machine) = true)
    (n_begins : PySem.W.findIn K (.ref X_Machine) "begins" = some none)
    (n_ways : PySem.W.findIn K (.ref X_Machine) "ways" = some none)
    (n_marks : PySem.W.findIn K (.ref X_Machine) "marks" = some none)
    {t_MOST_LETTERS : Tok} (g_MOST_LETTERS : PySem.W.nsIn K mainGlobals "MOST_LETTERS" = some (some (.int 6 t_MOST_LETTERS)))
    {t_LETTERS : Tok} (g_LETTERS : PySem.W.nsIn K mainGlobals "LETTERS" = some (some (.str "abcdefghijklmnopqrstuvwxyz" t_LETTERS)))
    {t_MOST_PLACES : Tok} (g_MOST_PLACES : PySem.W.nsIn K mainGlobals "MOST_PLACES" = some (some (.int 12 t_MOST_PLACES)))
    (zz_range : PySem.W.nsIn K mainGlobals "range" = some none)
    (zz_len : PySem.W.nsIn K mainGlobals "len" = some none)
    (zz_list : PySem.W.nsIn K mainGlobals "list" = some none)
    (zz_bool : PySem.W.nsIn K mainGlobals "bool" = some none)
    (zz_isinstance : PySem.W.nsIn K mainGlobals "isinstance" = some none)
    (zz_str : PySem.W.nsIn K mainGlobals "str" = some none)
    (zz_int : PySem.W.nsIn K mainGlobals "int" = some none)
    (zz_set : PySem.W.nsIn K mainGlobals "set" = some none)
    (zz_ValueError : PySem.W.nsIn K mainGlobals "ValueError" = some none)
    (zz_tuple : PySem.W.nsIn K mainGlobals "tuple" = some none)
    {f0 : Addr} {od0 an0 : Option Addr} {sl0 : Array (Option Value)} {oc0 kV0 dc0 pm0 cd0 ct0 : Value}
    (a0 : PySem.W.nsIn K mainGlobals "_law_names" = some (some (.ref f0))) (l0 : K.lookup f0 = some ⟨oc0, od0, .func (PySem.W.fnOf "_law_names" "_law_names" (defArgs s_law_names) (defBody s_law_names) (defScope s_law_names) .none kV0 dc0 pm0 an0 cd0 ct0), sl0⟩) (c0 : PySem.W.codeIn K cd0 "_law_names" = true) (k0 : PySem.W.keepIn K (.ref f0) = true)
    {f1 : Addr} {od1 an1 : Option Addr} {sl1 : Array (Option Value)} {oc1 kV1 dc1 pm1 cd1 ct1 : Value}
    (a1 : PySem.W.nsIn K mainGlobals "_law_draw" = some (some (.ref f1))) (l1 : K.lookup f1 = some ⟨oc1, od1, .func (PySem.W.fnOf "_law_draw" "_law_draw" (defArgs s_law_draw) (defBody s_law_draw) (defScope s_law_draw) .none kV1 dc1 pm1 an1 cd1 ct1), sl1⟩) (c1 : PySem.W.codeIn K cd1 "_law_draw" = true) (k1 : PySem.W.keepIn K (.ref f1) = true)
    {f2 : Addr} {od2 an2 : Option Addr} {sl2 : Array (Option Value)} {oc2 kV2 dc2 pm2 cd2 ct2 : Value}
    (a2 : PySem.W.nsIn K mainGlobals "_law_some" = some (some (.ref f2))) (l2 : K.lookup f2 = some ⟨oc2, od2, .func (PySem.W.fnOf "_law_some" "_law_some" (defArgs s_law_some) (defBody s_law_some) (defScope s_law_some) .none kV2 dc2 pm2 an2 cd2 ct2), sl2⟩) (c2 : PySem.W.codeIn K cd2 "_law_some" = true) (k2 : PySem.W.keepIn K (.ref f2) = true)
    {f3 : Addr} {od3 an3 : Option Addr} {sl3 : Array (Option Value)} {oc3 kV3 dc3 pm3 cd3 ct3 : Value}
    (a3 : PySem.W.nsIn K mainGlobals "_law_machine" = some (some (.ref f3))) (l3 : K.lookup f3 = some ⟨oc3, od3, .func (PySem.W.fnOf "_law_machine" "_law_machine" (defArgs s_law_machine) (defBody s_law_machine) (defScope s_law_machine) .none kV3 dc3 pm3 an3 cd3 ct3), sl3⟩) (c3 : PySem.W.codeIn K cd3 "_law_machine" = true) (k3 : PySem.W.keepIn K (.ref f3) = true)
    {f4 : Addr} {od4 an4 : Option Addr} {sl4 : Array (Option Value)} {oc4 kV4 dc4 pm4 cd4 ct4 : Value}
    (a4 : PySem.W.nsIn K mainGlobals "_law_cell_at" = some (some (.ref f4))) (l4 : K.lookup f4 = some ⟨oc4, od4, .func (PySem.W.fnOf "_law_cell_at" "_law_cell_at" (defArgs s_law_cell_at) (defBody s_law_cell_at) (defScope s_law_cell_at) .none kV4 dc4 pm4 an4 cd4 ct4), sl4⟩) (c4 : PySem.W.codeIn K cd4 "_law_cell_at" = true) (k4 : PySem.W.keepIn K (.ref f4) = true)
    {f5 : Addr} {od5 an5 : Option Addr} {sl5 : Array (Option Value)} {oc5 kV5 dc5 pm5 cd5 ct5 : Value}
    (a5 : PySem.W.findIn K (.ref X_Machine) "starts" = some (some (.ref f5))) (i5 : PySem.W.isFn K (.ref f5) = true) (l5 : K.lookup f5 = some ⟨oc5, od5, .func (PySem.W.fnOf "starts" "Machine.starts" (defArgs s_Machine_starts) (defBody s_Machine_starts) (defScope s_Machine_starts) .none kV5 dc5 pm5 an5 cd5 ct5), sl5⟩) (c5 : PySem.W.codeIn K cd5 "Machine.starts" = true) (k5 : PySem.W.keepIn K (.ref f5) = true)
    {f6 : Addr} {od6 an6 : Option Addr} {sl6 : Array (Option Value)} {oc6 kV6 dc6 pm6 cd6 ct6 : Value}
    (a6 : PySem.W.findIn K (.ref X_Machine) "leads" = some (some (.ref f6))) (i6 : PySem.W.isFn K (.ref f6) = true) (l6 : K.lookup f6 = some ⟨oc6, od6, .func (PySem.W.fnOf "leads" "Machine.leads" (defArgs s_Machine_leads) (defBody s_Machine_leads) (defScope s_Machine_leads) .none kV6 dc6 pm6 an6 cd6 ct6), sl6⟩) (c6 : PySem.W.codeIn K cd6 "Machine.leads" = true) (k6 : PySem.W.keepIn K (.ref f6) = true)
    {f7 : Addr} {od7 an7 : Option Addr} {sl7 : Array (Option Value)} {oc7 kV7 dc7 pm7 cd7 ct7 : Value}
    (a7 : PySem.W.findIn K (.ref X_Machine) "mark" = some (some (.ref f7))) (i7 : PySem.W.isFn K (.ref f7) = true) (l7 : K.lookup f7 = some ⟨oc7, od7, .func (PySem.W.fnOf "mark" "Machine.mark" (defArgs s_Machine_mark) (defBody s_Machine_mark) (defScope s_Machine_mark) .none kV7 dc7 pm7 an7 cd7 ct7), sl7⟩) (c7 : PySem.W.codeIn K cd7 "Machine.mark" = true) (k7 : PySem.W.keepIn K (.ref f7) = true)
    {f8 : Addr} {od8 an8 : Option Addr} {sl8 : Array (Option Value)} {oc8 kV8 dc8 pm8 cd8 ct8 : Value}
    (a8 : PySem.W.nsIn K mainGlobals "_law_right" = some (some (.ref f8))) (l8 : K.lookup f8 = some ⟨oc8, od8, .func (PySem.W.fnOf "_law_right" "_law_right" (defArgs s_law_right) (defBody s_law_right) (defScope s_law_right) .none kV8 dc8 pm8 an8 cd8 ct8), sl8⟩) (c8 : PySem.W.codeIn K cd8 "_law_right" = true) (k8 : PySem.W.keepIn K (.ref f8) = true)
    {f9 : Addr} {od9 an9 : Option Addr} {sl9 : Array (Option Value)} {oc9 kV9 dc9 pm9 cd9 ct9 : Value}
    (a9 : PySem.W.nsIn K mainGlobals "is_whole" = some (some (.ref f9))) (l9 : K.lookup f9 = some ⟨oc9, od9, .func (PySem.W.fnOf "is_whole" "is_whole" (defArgs s_is_whole) (defBody s_is_whole) (defScope s_is_whole) .none kV9 dc9 pm9 an9 cd9 ct9), sl9⟩) (c9 : PySem.W.codeIn K cd9 "is_whole" = true) (k9 : PySem.W.keepIn K (.ref f9) = true)
    {f10 : Addr} {od10 an10 : Option Addr} {sl10 : Array (Option Value)} {oc10 kV10 dc10 pm10 cd10 ct10 : Value}
    (a10 : PySem.W.nsIn K mainGlobals "are_places" = some (some (.ref f10))) (l10 : K.lookup f10 = some ⟨oc10, od10, .func (PySem.W.fnOf "are_places" "are_places" (defArgs s_are_places) (defBody s_are_places) (defScope s_are_places) .none kV10 dc10 pm10 an10 cd10 ct10), sl10⟩) (c10 : PySem.W.codeIn K cd10 "are_places" = true) (k10 : PySem.W.keepIn K (.ref f10) = true)
    {f11 : Addr} {od11 an11 : Option Addr} {sl11 : Array (Option Value)} {oc11 kV11 dc11 pm11 cd11 ct11 : Value}
    (a11 : PySem.W.nsIn K mainGlobals "is_mark" = some (some (.ref f11))) (l11 : K.lookup f11 = some ⟨oc11, od11, .func (PySem.W.fnOf "is_mark" "is_mark" (defArgs s_is_mark) (defBody s_is_mark) (defScope s_is_mark) .none kV11 dc11 pm11 an11 cd11 ct11), sl11⟩) (c11 : PySem.W.codeIn K cd11 "is_mark" = true) (k11 : PySem.W.keepIn K (.ref f11) = true)
    {f12 : Addr} {od12 an12 : Option Addr} {sl12 : Array (Option Value)} {oc12 kV12 dc12 pm12 cd12 ct12 : Value}
    (a12 : PySem.W.findIn K (.ref X_Machine) "__init__" = some (some (.ref f12))) (i12 : PySem.W.isFn K (.ref f12) = true) (l12 : K.lookup f12 = some ⟨oc12, od12, .func (PySem.W.fnOf "__init__" "Machine.__init__" (defArgs s_Machine_init) (defBody s_Machine_init) (defScope s_Machine_init) .none kV12 dc12 pm12 an12 cd12 ct12), sl12⟩) (c12 : PySem.W.codeIn K cd12 "Machine.__init__" = true) (k12 : PySem.W.keepIn K (.ref f12) = true)
    {f13 : Addr} {od13 an13 : Option Addr} {sl13 : Array (Option Value)} {oc13 kV13 dc13 pm13 cd13 ct13 : Value}
    (a13 : PySem.W.nsIn K mainGlobals "_law_refused" = some (some (.ref f13))) (l13 : K.lookup f13 = some ⟨oc13, od13, .func (PySem.W.fnOf "_law_refused" "_law_refused" (defArgs s_law_refused) (defBody s_law_refused) (defScope s_law_refused) .none kV13 dc13 pm13 an13 cd13 ct13), sl13⟩) (c13 : PySem.W.codeIn K cd13 "_law_refused" = true) (k13 : PySem.W.keepIn K (.ref f13) = true)
    {f14 : Addr} {od14 an14 : Option Addr} {sl14 : Array (Option Value)} {oc14 kV14 dc14 pm14 cd14 ct14 : Value}
    (a14 : PySem.W.nsIn K mainGlobals "_law_wrong" = some (some (.ref f14))) (l14 : K.lookup f14 = some ⟨oc14, od14, .func (PySem.W.fnOf "_law_wrong" "_law_wrong" (defArgs s_law_wrong) (defBody s_law_wrong) (defScope s_law_wrong) .none kV14 dc14 pm14 an14 cd14 ct14), sl14⟩) (c14 : PySem.W.codeIn K cd14 "_law_wrong" = true) (k14 : PySem.W.keepIn K (.ref f14) = true)
    {f15 : Addr} {od15 an15 : Option Addr} {sl15 : Array (Option Value)} {oc15 kV15 dc15 pm15 cd15 ct15 : Value}
    (a15 : PySem.W.nsIn K mainGlobals "law" = some (some (.ref f15))) (l15 : K.lookup f15 = some ⟨oc15, od15, .func (PySem.W.fnOf "law" "law" (defArgs s_law) (defBody s_law) (defScope s_law) .none kV15 dc15 pm15 an15 cd15 ct15), sl15⟩) (c15 : PySem.W.codeIn K cd15 "law" = true) (k15 : PySem.W.keepIn K (.ref f15) = true) :
    ∃ fd : FuncData, (∀ (s : Shared) (v : Value), BindsTo s fd ⟨[v], []⟩ [("_law_script", v)]) ∧ ∀ base : Heap, K.In base → base.Ns mainGlobals mg → FnOk l.prog w K mg base (L2.CX l.prog w) 7 fa fd ["_law_script"] (spLaw K) := by
  have e := hfa.symm.trans (PySem.W.mg_of X G a15)
  cases e
  let cc : Nat → Addr := fun n => match n with | 0 => X_BadMachine | 4 => X_WalkError | 2 => X_BadSaying | 3 => X_TooMany | 1 => X_NoWalk | 10 => X_Machine | _ => 0
  have z_range := PySem.W.mg_none_of X G zz_range
  have z_len := PySem.W.mg_none_of X G zz_len
  have z_list := PySem.W.mg_none_of X G zz_list
  have z_bool := PySem.W.mg_none_of X G zz_bool
  have z_isinstance := PySem.W.mg_none_of X G zz_isinstance
  have z_str := PySem.W.mg_none_of X G zz_str
  have z_int := PySem.W.mg_none_of X G zz_int
  have z_set := PySem.W.mg_none_of X G zz_set
  have z_ValueError := PySem.W.mg_none_of X G zz_ValueError
  have z_tuple := PySem.W.mg_none_of X G zz_tuple
  have g_MOST_LETTERS := PySem.W.mg_of X G g_MOST_LETTERS
  have g_LETTERS := PySem.W.mg_of X G g_LETTERS
  have g_MOST_PLACES := PySem.W.mg_of X G g_MOST_PLACES
  have E_BadMachine : ExcAt K mg "BadMachine" (cc 0) := ⟨ex_BadMachine, PySem.W.mg_of X G aX_BadMachine, ek_BadMachine, eb_BadMachine, et_BadMachine⟩
  have E_WalkError : ExcAt K mg "WalkError" (cc 4) := ⟨ex_WalkError, PySem.W.mg_of X G aX_WalkError, ek_WalkError, eb_WalkError, et_WalkError⟩
  have E_BadSaying : ExcAt K mg "BadSaying" (cc 2) := ⟨ex_BadSaying, PySem.W.mg_of X G aX_BadSaying, ek_BadSaying, eb_BadSaying, et_BadSaying⟩
  have E_TooMany : ExcAt K mg "TooMany" (cc 3) := ⟨ex_TooMany, PySem.W.mg_of X G aX_TooMany, ek_TooMany, eb_TooMany, et_TooMany⟩
  have E_NoWalk : ExcAt K mg "NoWalk" (cc 1) := ⟨ex_NoWalk, PySem.W.mg_of X G aX_NoWalk, ek_NoWalk, eb_NoWalk, et_NoWalk⟩
  have XC_WalkError : XcAt K mg "WalkError" (cc 4) := ⟨E_WalkError, ⟨xhg_WalkError, xhk_WalkError, eb_WalkError, xhd_WalkError, xha_WalkError, xhn, xht, xhm_WalkError⟩, xi_WalkError, xs_WalkError, xv_WalkError⟩
  have XC_BadSaying : XcAt K mg "BadSaying" (cc 2) := ⟨E_BadSaying, ⟨xhg_BadSaying, xhk_BadSaying, eb_BadSaying, xhd_BadSaying, xha_BadSaying, xhn, xht, xhm_BadSaying⟩, xi_BadSaying, xs_BadSaying, xv_BadSaying⟩
  have XC_TooMany : XcAt K mg "TooMany" (cc 3) := ⟨E_TooMany, ⟨xhg_TooMany, xhk_TooMany, eb_TooMany, xhd_TooMany, xha_TooMany, xhn, xht, xhm_TooMany⟩, xi_TooMany, xs_TooMany, xv_TooMany⟩
  have XC_BadMachine : XcAt K mg "BadMachine" (cc 0) := ⟨E_BadMachine, ⟨xhg_BadMachine, xhk_BadMachine, eb_BadMachine, xhd_BadMachine, xha_BadMachine, xhn, xht, xhm_BadMachine⟩, xi_BadMachine, xs_BadMachine, xv_BadMachine⟩
  have XC_NoWalk : XcAt K mg "NoWalk" (cc 1) := ⟨E_NoWalk, ⟨xhg_NoWalk, xhk_NoWalk, eb_NoWalk, xhd_NoWalk, xha_NoWalk, xhn, xht, xhm_NoWalk⟩, xi_NoWalk, xs_NoWalk, xv_NoWalk⟩
  have C_Machine : Cls K (cc 10) := ⟨cpg_Machine, chd_Machine, cpo_Machine, csa_Machine⟩
  have N_begins : NoAttr K (cc 10) "begins" := n_begins
  have N_ways : NoAttr K (cc 10) "ways" := n_ways
  have N_marks : NoAttr K (cc 10) "marks" := n_marks
  have g_BadMachine := PySem.W.mg_of X G aX_BadMachine
  have g_WalkError := PySem.W.mg_of X G aX_WalkError
  have g_BadSaying := PySem.W.mg_of X G aX_BadSaying
  have g_TooMany := PySem.W.mg_of X G aX_TooMany
  have g_NoWalk := PySem.W.mg_of X G aX_NoWalk
  have g_Machine := PySem.W.mg_of X G aX_Machine
  have U_law_names := fun_mk (st := s_law_names) l0 c0 k0
  have b_law_names := U_law_names.binds (ps := ["_law_cell"]) fun _ _ _ _ _ _ us hl => match us, hl with | [_], _ => rfl
  have U_law_draw := fun_mk (st := s_law_draw) l1 c1 k1
  have b_law_draw := U_law_draw.binds (ps := ["_law_script", "_law_spot"]) fun _ _ _ _ _ _ us hl => match us, hl with | [_, _], _ => rfl
  have U_law_some := fun_mk (st := s_law_some) l2 c2 k2
  have b_law_some := U_law_some.binds (ps := ["_law_cell", "_law_many", "_law_first"]) fun _ _ _ _ _ _ us hl => match us, hl with | [_, _, _], _ => rfl
  have U_law_machine := fun_mk (st := s_law_machine) l3 c3 k3
  have b_law_machine := U_law_machine.binds (ps := ["_law_script", "_law_spot", "_law_names_here", "_law_most"]) fun _ _ _ _ _ _ us hl => match us, hl with | [_, _, _, _], _ => rfl
  have U_law_cell_at := fun_mk (st := s_law_cell_at) l4 c4 k4
  have b_law_cell_at := U_law_cell_at.binds (ps := ["_law_script", "_law_k"]) fun _ _ _ _ _ _ us hl => match us, hl with | [_, _], _ => rfl
  have U_Machine_starts := fun_mk (st := s_Machine_starts) l5 c5 k5
  have b_Machine_starts := U_Machine_starts.binds (ps := ["self"]) fun _ _ _ _ _ _ us hl => match us, hl with | [_], _ => rfl
  have U_Machine_leads := fun_mk (st := s_Machine_leads) l6 c6 k6
  have b_Machine_leads := U_Machine_leads.binds (ps := ["self", "place"]) fun _ _ _ _ _ _ us hl => match us, hl with | [_, _], _ => rfl
  have U_Machine_mark := fun_mk (st := s_Machine_mark) l7 c7 k7
  have b_Machine_mark := U_Machine_mark.binds (ps := ["self", "place"]) fun _ _ _ _ _ _ us hl => match us, hl with | [_, _], _ => rfl
  have U_law_right := fun_mk (st := s_law_right) l8 c8 k8
  have b_law_right := U_law_right.binds (ps := ["_law_machine_here", "_law_marks", "_law_ways", "_law_begins"]) fun _ _ _ _ _ _ us hl => match us, hl with | [_, _, _, _], _ => rfl
  have U_is_whole := fun_mk (st := s_is_whole) l9 c9 k9
  have b_is_whole := U_is_whole.binds (ps := ["thing"]) fun _ _ _ _ _ _ us hl => match us, hl with | [_], _ => rfl
  have U_are_places := fun_mk (st := s_are_places) l10 c10 k10
  have b_are_places := U_are_places.binds (ps := ["thing", "many"]) fun _ _ _ _ _ _ us hl => match us, hl with | [_, _], _ => rfl
  have U_is_mark := fun_mk (st := s_is_mark) l11 c11 k11
  have b_is_mark := U_is_mark.binds (ps := ["thing"]) fun _ _ _ _ _ _ us hl => match us, hl with | [_], _ => rfl
  have U_Machine_init := fun_mk (st := s_Machine_init) l12 c12 k12
  have b_Machine_init := U_Machine_init.binds (ps := ["self", "marks", "ways", "begins"]) fun _ _ _ _ _ _ us hl => match us, hl with | [_, _, _, _], _ => rfl
  have U_law_refused := fun_mk (st := s_law_refused) l13 c13 k13
  have b_law_refused := U_law_refused.binds (ps := ["_law_things"]) fun _ _ _ _ _ _ us hl => match us, hl with | [_], _ => rfl
  have U_law_wrong := fun_mk (st := s_law_wrong) l14 c14 k14
  have b_law_wrong := U_law_wrong.binds (ps := ["_law_cell", "_law_marks", "_law_ways", "_law_begins"]) fun _ _ _ _ _ _ us hl => match us, hl with | [_, _, _, _], _ => rfl
  have U_law := fun_mk (st := s_law) l15 c15 k15
  have b_law := U_law.binds (ps := ["_law_script"]) fun _ _ _ _ _ _ us hl => match us, hl with | [_], _ => rfl
  refine ⟨PySem.W.fnOf "law" "law" (defArgs s_law) (defBody s_law) (defScope s_law) .none kV15 dc15 pm15 an15 cd15 ct15, fun s v => .of_eq rfl, fun base _ _ => ?_⟩
  have F_law_names := ok_law_names (P := l.prog) (w := w) (mg := mg) (base := base) (c := cc) U_law_names (PySem.W.mg_of X G a0) b_law_names z_range
  have F_law_draw := ok_law_draw (P := l.prog) (w := w) (mg := mg) (base := base) (c := cc) U_law_draw (PySem.W.mg_of X G a1) b_law_draw z_len
  have F_law_some := ok_law_some (P := l.prog) (w := w) (mg := mg) (base := base) (c := cc) U_law_some (PySem.W.mg_of X G a2) b_law_some z_range
  have F_law_machine := ok_law_machine (P := l.prog) (w := w) (mg := mg) (base := base) (c := cc) U_law_machine (PySem.W.mg_of X G a3) b_law_machine z_range F_law_draw F_law_some
  have F_law_cell_at := ok_law_cell_at (P := l.prog) (w := w) (mg := mg) (base := base) (c := cc) U_law_cell_at (PySem.W.mg_of X G a4) b_law_cell_at z_len
  have M_Machine_starts := ok_Machine_starts (P := l.prog) (w := w) (mg := mg) (base := base) (c := cc) U_Machine_starts C_Machine (⟨a5, i5, k5⟩ : Meth K (cc 10) "starts" f5) b_Machine_starts z_list C_Machine N_begins
  have M_Machine_leads := ok_Machine_leads (P := l.prog) (w := w) (mg := mg) (base := base) (c := cc) U_Machine_leads C_Machine (⟨a6, i6, k6⟩ : Meth K (cc 10) "leads" f6) b_Machine_leads z_list C_Machine N_ways
  have M_Machine_mark := ok_Machine_mark (P := l.prog) (w := w) (mg := mg) (base := base) (c := cc) U_Machine_mark C_Machine (⟨a7, i7, k7⟩ : Meth K (cc 10) "mark" f7) b_Machine_mark C_Machine N_marks
  have F_law_right := ok_law_right (P := l.prog) (w := w) (mg := mg) (base := base) (c := cc) U_law_right (PySem.W.mg_of X G a8) b_law_right z_bool z_isinstance z_list z_len z_range z_str M_Machine_starts M_Machine_leads M_Machine_mark
  have F_is_whole := ok_is_whole (P := l.prog) (w := w) (mg := mg) (base := base) (c := cc) U_is_whole (PySem.W.mg_of X G a9) b_is_whole z_bool z_isinstance z_int
  have F_are_places := ok_are_places (P := l.prog) (w := w) (mg := mg) (base := base) (c := cc) U_are_places (PySem.W.mg_of X G a10) b_are_places z_len z_list z_isinstance z_set F_is_whole
  have F_is_mark := ok_is_mark (P := l.prog) (w := w) (mg := mg) (base := base) (c := cc) U_is_mark (PySem.W.mg_of X G a11) b_is_mark z_len z_str z_isinstance g_MOST_LETTERS g_LETTERS
  have K_Machine := ok_Machine_init (P := l.prog) (w := w) (mg := mg) (base := base) (c := cc) U_Machine_init (⟨km_Machine, a12, i12, kk_Machine⟩ : Mk K (cc 10) f12) g_Machine b_Machine_init z_len z_list z_isinstance g_MOST_PLACES E_BadMachine C_Machine N_marks N_ways N_begins F_is_mark F_are_places
  have F_law_refused := ok_law_refused (P := l.prog) (w := w) (mg := mg) (base := base) (c := cc) U_law_refused (PySem.W.mg_of X G a13) b_law_refused z_isinstance z_ValueError XC_WalkError XC_BadSaying XC_TooMany XC_BadMachine XC_NoWalk K_Machine q_BadMachine_WalkError_true q_BadMachine_NoWalk_false q_BadMachine_BadSaying_false q_BadMachine_TooMany_false
  have F_law_wrong := ok_law_wrong (P := l.prog) (w := w) (mg := mg) (base := base) (c := cc) U_law_wrong (PySem.W.mg_of X G a14) b_law_wrong z_len z_tuple
  have FL := ok_law (P := l.prog) (w := w) (mg := mg) (base := base) (c := cc) U_law z_list z_len z_range F_law_cell_at F_law_names F_law_machine F_law_wrong F_law_refused F_law_right M_Machine_starts M_Machine_leads K_Machine
  exact FL.imp fun vs H Q E hq => law_sp (fn := f_law) LT hq
end LawX

set_option Elab.async false
set_option linter.all false
namespace LawX
open PySem L2 VL
theorem law_true (ns : List Int) (hns : ns.length ≤ 63) : f_law [.scr ns] = some (.ok (py (.bool true)) .none) := rfl
end LawX

open PySem PySem.W PyProof.Rows
set_option maxRecDepth 100000 in
set_option maxHeartbeats 0 in
theorem PySem.Challenge.cw_everafter_k02_machines_holds : PySem.Challenge.rw_everafter_k02_machines.Holds := by
  w_on; o_law; k_head; (case hw => w_witness2)
  k_fill
  refine L2.walk_of (l := PySem.Challenge.rw_everafter_k02_machines) (n := 63) (k := 7) (x := "_law_script") (CX := fun w => L2.CX PySem.Challenge.rw_everafter_k02_machines.prog w) (sp := fun w => LawX.spLaw _) rfl (by decide) rfl ⟨rfl, by decide, by decide⟩ (fun w h Y => PySem.W.kIn_of Y) ?F (fun _ _ a ns hl _ hS => ⟨a, ns, rfl, hS, hl, fun _ => rfl⟩) (fun _ _ _ _ _ h => VL.cx_none h)
  case F =>
    intro w mg fa h KX G hmg
    refine' LawX.all_mk LawX.law_true KX G hmg ?aX_BadMachine ?aX_WalkError ?aX_BadSaying ?aX_TooMany ?aX_NoWalk ?aX_Machine ?ex_BadMachine ?ek_BadMachine ?eb_BadMachine ?et_BadMachine ?ex_WalkError ?ek_WalkError ?eb_WalkError ?et_WalkError ?ex_BadSaying ?ek_BadSaying ?eb_BadSaying ?et_BadSaying ?ex_TooMany ?ek_TooMany ?eb_TooMany ?et_TooMany ?ex_NoWalk ?ek_NoWalk ?eb_NoWalk ?et_NoWalk ?xhg_WalkError ?xhk_WalkError ?xhd_WalkError ?xha_WalkError ?xhm_WalkError ?xi_WalkError ?xs_WalkError ?xv_WalkError ?xhg_BadSaying ?xhk_BadSaying ?xhd_BadSaying ?xha_BadSaying ?xhm_BadSaying ?xi_BadSaying ?xs_BadSaying ?xv_BadSaying ?xhg_TooMany ?xhk_TooMany ?xhd_TooMany ?xha_TooMany ?xhm_TooMany ?xi_TooMany ?xs_TooMany ?xv_TooMany ?xhg_BadMachine ?xhk_BadMachine ?xhd_BadMachine ?xha_BadMachine ?xhm_BadMachine ?xi_BadMachine ?xs_BadMachine ?xv_BadMachine ?xhg_NoWalk ?xhk_NoWalk ?xhd_NoWalk ?xha_NoWalk ?xhm_NoWalk ?xi_NoWalk ?xs_NoWalk ?xv_NoWalk ?xhn ?xht ?q_BadMachine_WalkError_true ?q_BadMachine_NoWalk_false ?q_BadMachine_BadSaying_false ?q_BadMachine_TooMany_false ?cpg_Machine ?chd_Machine ?cpo_Machine ?csa_Machine ?km_Machine ?kk_Machine ?n_begins ?n_ways ?n_marks ?g_MOST_LETTERS ?g_LETTERS ?g_MOST_PLACES ?zz_range ?zz_len ?zz_list ?zz_bool ?zz_isinstance ?zz_str ?zz_int ?zz_set ?zz_ValueError ?zz_tuple ?a0 ?l0 ?c0 ?k0 ?a1 ?l1 ?c1 ?k1 ?a2 ?l2 ?c2 ?k2 ?a3 ?l3 ?c3 ?k3 ?a4 ?l4 ?c4 ?k4 ?a5 ?i5 ?l5 ?c5 ?k5 ?a6 ?i6 ?l6 ?c6 ?k6 ?a7 ?i7 ?l7 ?c7 ?k7 ?a8 ?l8 ?c8 ?k8 ?a9 ?l9 ?c9 ?k9 ?a10 ?l10 ?c10 ?k10 ?a11 ?l11 ?c11 ?k11 ?a12 ?i12 ?l12 ?c12 ?k12 ?a13 ?l13 ?c13 ?k13 ?a14 ?l14 ?c14 ?k14 ?a15 ?l15 ?c15 ?k15
    (case aX_BadMachine => k_is)
    (case aX_WalkError => k_is)
    (case aX_BadSaying => k_is)
    (case aX_TooMany => k_is)
    (case aX_NoWalk => k_is)
    (case aX_Machine => k_is)
    (case ex_BadMachine => k_exc)
    (case ek_BadMachine => k_is)
    (case eb_BadMachine => k_is)
    (case et_BadMachine => k_is)
    (case ex_WalkError => k_exc)
    (case ek_WalkError => k_is)
    (case eb_WalkError => k_is)
    (case et_WalkError => k_is)
    (case ex_BadSaying => k_exc)
    (case ek_BadSaying => k_is)
    (case eb_BadSaying => k_is)
    (case et_BadSaying => k_is)
    (case ex_TooMany => k_exc)
    (case ek_TooMany => k_is)
    (case eb_TooMany => k_is)
    (case et_TooMany => k_is)
    (case ex_NoWalk => k_exc)
    (case ek_NoWalk => k_is)
    (case eb_NoWalk => k_is)
    (case et_NoWalk => k_is)
    (case xhg_WalkError => k_is)
    (case xhk_WalkError => k_is)
    (case xhd_WalkError => k_is)
    (case xha_WalkError => k_is)
    (case xhm_WalkError => k_is)
    (case xi_WalkError => k_is)
    (case xs_WalkError => k_is)
    (case xv_WalkError => k_is)
    (case xhg_BadSaying => k_is)
    (case xhk_BadSaying => k_is)
    (case xhd_BadSaying => k_is)
    (case xha_BadSaying => k_is)
    (case xhm_BadSaying => k_is)
    (case xi_BadSaying => k_is)
    (case xs_BadSaying => k_is)
    (case xv_BadSaying => k_is)
    (case xhg_TooMany => k_is)
    (case xhk_TooMany => k_is)
    (case xhd_TooMany => k_is)
    (case xha_TooMany => k_is)
    (case xhm_TooMany => k_is)
    (case xi_TooMany => k_is)
    (case xs_TooMany => k_is)
    (case xv_TooMany => k_is)
    (case xhg_BadMachine => k_is)
    (case xhk_BadMachine => k_is)
    (case xhd_BadMachine => k_is)
    (case xha_BadMachine => k_is)
    (case xhm_BadMachine => k_is)
    (case xi_BadMachine => k_is)
    (case xs_BadMachine => k_is)
    (case xv_BadMachine => k_is)
    (case xhg_NoWalk => k_is)
    (case xhk_NoWalk => k_is)
    (case xhd_NoWalk => k_is)
    (case xha_NoWalk => k_is)
    (case xhm_NoWalk => k_is)
    (case xi_NoWalk => k_is)
    (case xs_NoWalk => k_is)
    (case xv_NoWalk => k_is)
    (case xhn => k_is)
    (case xht => k_is)
    (case q_BadMachine_WalkError_true => k_is)
    (case q_BadMachine_NoWalk_false => k_is)
    (case q_BadMachine_BadSaying_false => k_is)
    (case q_BadMachine_TooMany_false => k_is)
    (case cpg_Machine => k_is)
    (case chd_Machine => k_is)
    (case cpo_Machine => k_is)
    (case csa_Machine => k_is)
    (case km_Machine => k_is)
    (case kk_Machine => k_is)
    (case n_begins => k_is)
    (case n_ways => k_is)
    (case n_marks => k_is)
    (case g_MOST_LETTERS => k_is)
    (case g_LETTERS => k_is)
    (case g_MOST_PLACES => k_is)
    (case zz_range => k_is)
    (case zz_len => k_is)
    (case zz_list => k_is)
    (case zz_bool => k_is)
    (case zz_isinstance => k_is)
    (case zz_str => k_is)
    (case zz_int => k_is)
    (case zz_set => k_is)
    (case zz_ValueError => k_is)
    (case zz_tuple => k_is)
    (case a0 => k_is)
    (case l0 => k_is)
    (case c0 => k_is)
    (case k0 => k_is)
    (case a1 => k_is)
    (case l1 => k_is)
    (case c1 => k_is)
    (case k1 => k_is)
    (case a2 => k_is)
    (case l2 => k_is)
    (case c2 => k_is)
    (case k2 => k_is)
    (case a3 => k_is)
    (case l3 => k_is)
    (case c3 => k_is)
    (case k3 => k_is)
    (case a4 => k_is)
    (case l4 => k_is)
    (case c4 => k_is)
    (case k4 => k_is)
    (case a5 => k_is)
    (case i5 => k_is)
    (case l5 => k_is)
    (case c5 => k_is)
    (case k5 => k_is)
    (case a6 => k_is)
    (case i6 => k_is)
    (case l6 => k_is)
    (case c6 => k_is)
    (case k6 => k_is)
    (case a7 => k_is)
    (case i7 => k_is)
    (case l7 => k_is)
    (case c7 => k_is)
    (case k7 => k_is)
    (case a8 => k_is)
    (case l8 => k_is)
    (case c8 => k_is)
    (case k8 => k_is)
    (case a9 => k_is)
    (case l9 => k_is)
    (case c9 => k_is)
    (case k9 => k_is)
    (case a10 => k_is)
    (case l10 => k_is)
    (case c10 => k_is)
    (case k10 => k_is)
    (case a11 => k_is)
    (case l11 => k_is)
    (case c11 => k_is)
    (case k11 => k_is)
    (case a12 => k_is)
    (case i12 => k_is)
    (case l12 => k_is)
    (case c12 => k_is)
    (case k12 => k_is)
    (case a13 => k_is)
    (case l13 => k_is)
    (case c13 => k_is)
    (case k13 => k_is)
    (case a14 => k_is)
    (case l14 => k_is)
    (case c14 => k_is)
    (case k14 => k_is)
    (case a15 => k_is)
    (case l15 => k_is)
    (case c15 => k_is)
    (case k15 => k_is)
