import PyProof.Rows.All
import Wide.All
import OpenK.AllK
import Wide.FinOn
import HandS.ForMost
import HandS.IsInst
import HandS.Exc
import HandS.TryOnly
import HandS.ExcOwn
import HandS.ExcIs
import HandS.Style
import KE.GoesEnum
import PySem.Challenge.RW_pinsalone_k63_first_words
set_option Elab.async false
set_option linter.all false
set_option maxRecDepth 100000

namespace T
open PySem PySem.Spec PyProof.Rows L2
/-! ### growth -/
structure Gr (F H F' H' : Hp) : Prop where
  f : Same F F'
  h : Same H H'
  n : ∀ a, H a ≠ none → F a = none → F' a = none
theorem Gr.refl {F H : Hp} : Gr F H F H := ⟨Same.refl _, Same.refl _, fun _ _ h => h⟩
theorem same_ne {H H' : Hp} (s : Same H H') {a : Addr} (h : H a ≠ none) : H' a ≠ none := fun z => h (s.free z)
theorem Gr.trans {F H F1 H1 F2 H2 : Hp} (a : Gr F H F1 H1) (b : Gr F1 H1 F2 H2) : Gr F H F2 H2 :=
  ⟨a.f.trans b.f, a.h.trans b.h, fun x hx fx => b.n x (same_ne a.h hx) (a.n x hx fx)⟩
theorem same_new {H : Hp} {p : Addr} {o : HO} (h : H p = none) : Same H (upd H p o) := fun b x e => by
  rw [upd_ne (ne_of_none e h)]
  exact e
/-- F grows together with H at a new address -/
theorem same_both {F H : Hp} {p : Addr} {o : HO} (s : Same F H) : Same (upd F p o) (upd H p o) := fun b x e => by
  by_cases hb : b = p
  · subst hb; rw [upd_same] at e ⊢; exact e
  · rw [upd_ne hb] at e ⊢; exact s b x e
theorem same_sub {F H : Hp} {p : Addr} {o : HO} (s : Same F H) (f : F p = none) : Same F (upd H p o) := fun b x e => by
  rw [upd_ne (ne_of_none e f)]
  exact s b x e
theorem same_add {F H : Hp} {p : Addr} {o : HO} (s : Same F H) (h : H p = some o) : Same (upd F p o) H := fun b x e => by
  by_cases hb : b = p
  · subst hb; rw [upd_same] at e; cases e; exact h
  · rw [upd_ne hb] at e; exact s b x e

/-! ### values by their data -/
structure Rl (α : Type) where
  ok : Hp → V → α → Prop
  mono : ∀ {F F' : Hp} {v : V} {x : α}, Same F F' → ok F v x → ok F' v x
theorem Paired.imp {α β : Type} {R S : α → β → Prop} {xs : List α} {ys : List β} (h : Paired R xs ys) (f : ∀ a b, R a b → S a b) : Paired S xs ys := Paired.mapP h f
theorem pget {α β : Type} {R : α → β → Prop} : ∀ {xs : List α} {ys : List β} {i : Nat} {y : β}, Paired R xs ys → ys[i]? = some y → ∃ x, xs[i]? = some x ∧ R x y
  | _, _, _, _, .nil, e => by simp at e
  | _, _, 0, _, .cons r _, e => by simp at e; subst e; exact ⟨_, rfl, r⟩
  | _, _, i + 1, y, .cons _ t, e => by
    obtain ⟨u, h1, h2⟩ := pget (i := i) (y := y) t (by simpa using e)
    exact ⟨u, by simpa using h1, h2⟩
theorem pget' {α β : Type} {R : α → β → Prop} : ∀ {xs : List α} {ys : List β} {i : Nat} {x : α}, Paired R xs ys → xs[i]? = some x → ∃ y, ys[i]? = some y ∧ R x y
  | _, _, _, _, .nil, e => by simp at e
  | _, _, 0, _, .cons r _, e => by simp at e; subst e; exact ⟨_, rfl, r⟩
  | _, _, i + 1, y, .cons _ t, e => by
    obtain ⟨u, h1, h2⟩ := pget' (i := i) (x := y) t (by simpa using e)
    exact ⟨u, by simpa using h1, h2⟩
theorem pset {α β : Type} {R : α → β → Prop} {x : α} {y : β} (r : R x y) : ∀ {xs : List α} {ys : List β} (i : Nat), Paired R xs ys → Paired R (xs.set i x) (ys.set i y)
  | _, _, _, .nil => .nil
  | _, _, 0, .cons _ t => .cons r t
  | _, _, i + 1, .cons q t => .cons q (pset r i t)
theorem papp {α β : Type} {R : α → β → Prop} : ∀ {xs xs' : List α} {ys ys' : List β}, Paired R xs ys → Paired R xs' ys' → Paired R (xs ++ xs') (ys ++ ys')
  | _, _, _, _, .nil, s => s
  | _, _, _, _, .cons r t, s => .cons r (papp t s)
theorem pmap {α β γ : Type} {R : α → β → Prop} {S : α → γ → Prop} {f : β → γ} (h : ∀ a b, R a b → S a (f b)) : ∀ {xs : List α} {ys : List β}, Paired R xs ys → Paired S xs (ys.map f)
  | _, _, .nil => .nil
  | _, _, .cons r t => .cons (h _ _ r) (pmap h t)
theorem ptake {α β : Type} {R : α → β → Prop} : ∀ {xs : List α} {ys : List β} (n : Nat), Paired R xs ys → Paired R (xs.take n) (ys.take n)
  | _, _, 0, _ => .nil
  | _, _, _ + 1, .nil => .nil
  | _, _, n + 1, .cons r t => .cons r (ptake n t)
theorem pdrop {α β : Type} {R : α → β → Prop} : ∀ {xs : List α} {ys : List β} (n : Nat), Paired R xs ys → Paired R (xs.drop n) (ys.drop n)
  | _, _, 0, r => r
  | _, _, _ + 1, .nil => .nil
  | _, _, n + 1, .cons _ t => pdrop n t
theorem pints {F : Hp} : ∀ {vs : List V} {ns : List Int}, Paired (fun v (i : Int) => v = .int i) vs ns ↔ vs = ns.map V.int
  | [], [] => ⟨fun _ => rfl, fun _ => .nil⟩
  | [], _ :: _ => ⟨fun h => (by cases h), fun h => by simp at h⟩
  | _ :: _, [] => ⟨fun h => (by cases h), fun h => by simp at h⟩
  | v :: vs, n :: ns => by
    constructor
    · intro h
      cases h with
      | cons a b => rw [a, (pints (F := F)).1 b]; rfl
    · intro h
      rw [List.map_cons] at h
      injection h with h1 h2
      exact .cons h1 ((pints (F := F)).2 h2)

def rV : Rl V := ⟨fun _ v x => v = x, fun _ h => h⟩
def rI : Rl Int := ⟨fun _ v x => v = .int x, fun _ h => h⟩
def rB : Rl Bool := ⟨fun _ v x => v = .bl x, fun _ h => h⟩
def rS : Rl Str := ⟨fun _ v x => v = .str x, fun _ h => h⟩
def rN : Rl Unit := ⟨fun _ v _ => v = .non, fun _ h => h⟩
def rO {α : Type} (r : Rl α) : Rl (Option α) := ⟨fun F v x => match x with
  | none => v = .non
  | some y => v ≠ .non ∧ r.ok F v y, fun {F F' v x} s h => by
    cases x with
    | none => exact h
    | some y => exact ⟨h.1, r.mono s h.2⟩⟩
def r2 {α β : Type} (r : Rl α) (q : Rl β) : Rl (α × β) := ⟨fun F v x => ∃ a v1 v2, v = .ref a ∧ F a = some (.tup [v1, v2]) ∧ r.ok F v1 x.1 ∧ q.ok F v2 x.2,
  fun s ⟨a, v1, v2, e, h, h1, h2⟩ => ⟨a, v1, v2, e, s _ _ h, r.mono s h1, q.mono s h2⟩⟩
def r3 {α β γ : Type} (r : Rl α) (q : Rl β) (t : Rl γ) : Rl (α × β × γ) := ⟨fun F v x => ∃ a v1 v2 v3, v = .ref a ∧ F a = some (.tup [v1, v2, v3]) ∧ r.ok F v1 x.1 ∧ q.ok F v2 x.2.1 ∧ t.ok F v3 x.2.2,
  fun s ⟨a, v1, v2, v3, e, h, h1, h2, h3⟩ => ⟨a, v1, v2, v3, e, s _ _ h, r.mono s h1, q.mono s h2, t.mono s h3⟩⟩
def rL {α : Type} (r : Rl α) : Rl (List α) := ⟨fun F v xs => ∃ a vs, v = .ref a ∧ F a = some (.lst vs) ∧ Paired (r.ok F) vs xs,
  fun s ⟨a, vs, e, h, p⟩ => ⟨a, vs, e, s _ _ h, Paired.imp p fun _ _ z => r.mono s z⟩⟩
def rT {α : Type} (r : Rl α) : Rl (List α) := ⟨fun F v xs => ∃ a vs, v = .ref a ∧ F a = some (.tup vs) ∧ Paired (r.ok F) vs xs,
  fun s ⟨a, vs, e, h, p⟩ => ⟨a, vs, e, s _ _ h, Paired.imp p fun _ _ z => r.mono s z⟩⟩
/-- a list that is only read, wherever it stands (the script) -/
def rQ (K : PySem.W.Frag) : Rl (List Int) := ⟨fun F v ns => ∃ a, v = .ref a ∧ SqL K F a (ns.map V.int), fun s ⟨a, e, h⟩ => ⟨a, e, s.seq h⟩⟩
def pk {κ α : Type} (r : Rl α) (F : Hp) (p : κ × V) (q : κ × α) : Prop := p.1 = q.1 ∧ r.ok F p.2 q.2
theorem pk_mono {κ α : Type} {r : Rl α} {F F' : Hp} (s : Same F F') {xs : List (κ × V)} {ys : List (κ × α)} (h : Paired (pk r F) xs ys) : Paired (pk r F') xs ys := Paired.imp h fun _ _ z => ⟨z.1, r.mono s z.2⟩
def rDK {α : Type} (r : Rl α) : Rl (List (Key × α)) := ⟨fun F v xs => ∃ a kvs, v = .ref a ∧ F a = some (.dK kvs) ∧ Paired (pk r F) kvs xs,
  fun s ⟨a, vs, e, h, p⟩ => ⟨a, vs, e, s _ _ h, pk_mono s p⟩⟩
def rDT {α : Type} (r : Rl α) : Rl (List (List Key × α)) := ⟨fun F v xs => ∃ a kvs, v = .ref a ∧ F a = some (.dT kvs) ∧ Paired (pk r F) kvs xs,
  fun s ⟨a, vs, e, h, p⟩ => ⟨a, vs, e, s _ _ h, pk_mono s p⟩⟩

/-! ### slots, changing objects -/
structure Sl where
  ok : Hp → Option V → Prop
  mono : ∀ {F F' : Hp} {o : Option V}, Same F F' → ok F o → ok F' o
def sl {α : Type} (r : Rl α) (x : α) : Sl := ⟨fun F o => ∃ v, o = some v ∧ r.ok F v x, fun s ⟨v, e, h⟩ => ⟨v, e, r.mono s h⟩⟩
def s_ : Sl := ⟨fun _ _ => True, fun _ _ => trivial⟩
structure Mo where
  ok : Hp → HO → Prop
  mono : ∀ {F F' : Hp} {o : HO}, Same F F' → ok F o → ok F' o
def mL {α : Type} (r : Rl α) (xs : List α) : Mo := ⟨fun F o => ∃ vs, o = .lst vs ∧ Paired (r.ok F) vs xs, fun s ⟨vs, e, p⟩ => ⟨vs, e, Paired.imp p fun _ _ z => r.mono s z⟩⟩
def mK {α : Type} (r : Rl α) (xs : List (Key × α)) : Mo := ⟨fun F o => ∃ kvs, o = .dK kvs ∧ Paired (pk r F) kvs xs, fun s ⟨vs, e, p⟩ => ⟨vs, e, pk_mono s p⟩⟩
def mD {α : Type} (r : Rl α) (xs : List (List Key × α)) : Mo := ⟨fun F o => ∃ kvs, o = .dT kvs ∧ Paired (pk r F) kvs xs, fun s ⟨vs, e, p⟩ => ⟨vs, e, pk_mono s p⟩⟩
abbrev Ms := List (Addr × Mo)

structure Sta (F0 H0 : Hp) (L : List Sl) (M : Ms) (σ : L2.St) (H F : Hp) : Prop where
  g : Gr F0 H0 F H
  s : Same F H
  l : Paired (fun o (s : Sl) => s.ok F o) σ L
  m : ∀ q ∈ M, F q.1 = none ∧ H0 q.1 = none ∧ ∃ o, H q.1 = some o ∧ q.2.ok F o
  nd : (M.map (·.1)).Nodup
/-- .. whatever is fixed -/
def At (F0 H0 : Hp) (L : List Sl) (M : Ms) (σ : L2.St) (H : Hp) : Prop := ∃ F, Sta F0 H0 L M σ H F

section
variable {F0 H0 F H F' H' : Hp} {L L' : List Sl} {M : Ms} {σ : L2.St} {p : Addr} {o : HO} {mo : Mo}
theorem Sta.slots (S : Sta F0 H0 L M σ H F) (s : Same F F') : Paired (fun o (s : Sl) => s.ok F' o) σ L := Paired.imp S.l fun _ b z => b.mono s z
theorem Sta.new0 (S : Sta F0 H0 L M σ H F) (h : H p = none) : F p = none ∧ H0 p = none ∧ ∀ q ∈ M, q.1 ≠ p :=
  ⟨S.s.free h, S.g.h.free h, fun q hq e => by
    obtain ⟨_, _, u, hu, _⟩ := S.m q hq
    rw [e, h] at hu
    cases hu⟩
/-- a new object that will not change -/
theorem Sta.lay (S : Sta F0 H0 L M σ H F) (h : H p = none) : Sta F0 H0 L M σ (upd H p o) (upd F p o) := by
  obtain ⟨f, h0, nq⟩ := S.new0 h
  have sf : Same F (upd F p o) := same_new f
  refine ⟨⟨S.g.f.trans sf, S.g.h.trans (same_new h), fun a ha fa => ?_⟩, same_both S.s, S.slots sf, fun q hq => ?_, S.nd⟩
  · have : a ≠ p := fun e => ha (e ▸ h0)
    rw [upd_ne this]
    exact S.g.n a ha fa
  · obtain ⟨q1, q2, u, q3, q4⟩ := S.m q hq
    exact ⟨by rw [upd_ne (nq q hq)]; exact q1, q2, u, by rw [upd_ne (nq q hq)]; exact q3, q.2.mono sf q4⟩
/-- a new object that may change -/
theorem Sta.nw (S : Sta F0 H0 L M σ H F) (h : H p = none) (k : mo.ok F o) : Sta F0 H0 L ((p, mo) :: M) σ (upd H p o) F := by
  obtain ⟨f, h0, nq⟩ := S.new0 h
  refine ⟨⟨S.g.f, S.g.h.trans (same_new h), S.g.n⟩, same_sub S.s f, S.l, fun q hq => ?_, ?_⟩
  · rcases List.mem_cons.mp hq with rfl | hq
    · exact ⟨f, h0, o, upd_same, k⟩
    · obtain ⟨q1, q2, u, q3, q4⟩ := S.m q hq
      exact ⟨q1, q2, u, by rw [upd_ne (nq q hq)]; exact q3, q4⟩
  · rw [List.map_cons]
    refine List.nodup_cons.mpr ⟨fun z => ?_, S.nd⟩
    obtain ⟨q, hq, e⟩ := List.mem_map.mp z
    exact nq q hq e
/-- from now on it will not change -/
theorem Sta.frz (S : Sta F0 H0 L ((p, mo) :: M) σ H F) : ∃ o, H p = some o ∧ mo.ok F o ∧ F p = none ∧ Sta F0 H0 L M σ H (upd F p o) := by
  obtain ⟨f, h0, o, ho, k⟩ := S.m _ List.mem_cons_self
  have f : F p = none := f
  have sf : Same F (upd F p o) := same_new f
  have nd := S.nd
  rw [List.map_cons] at nd
  obtain ⟨n1, n2⟩ := List.nodup_cons.mp nd
  refine ⟨o, ho, k, f, ⟨⟨S.g.f.trans sf, S.g.h, fun a ha fa => ?_⟩, same_add S.s ho, S.slots sf, fun q hq => ?_, n2⟩⟩
  · have : a ≠ p := fun e => ha (e ▸ h0)
    rw [upd_ne this]
    exact S.g.n a ha fa
  · have : q.1 ≠ p := fun e => n1 (List.mem_map.mpr ⟨q, hq, e⟩)
    obtain ⟨q1, q2, u, q3, q4⟩ := S.m q (List.mem_cons_of_mem _ hq)
    exact ⟨by rw [upd_ne this]; exact q1, q2, u, q3, q.2.mono sf q4⟩
/-- other slots -/
theorem Sta.to (S : Sta F0 H0 L M σ H F) {σ' : L2.St} (l : Paired (fun o (s : Sl) => s.ok F o) σ' L') : Sta F0 H0 L' M σ' H F := ⟨S.g, S.s, l, S.m, S.nd⟩
theorem Sta.set (S : Sta F0 H0 L M σ H F) {i : Nat} {s : Sl} {v : V} (k : s.ok F (some v)) : Sta F0 H0 (L.set i s) M (σ.set i (some v)) H F := S.to (pset (R := fun o (s : Sl) => s.ok F o) k i S.l)
/-- the heap and what is fixed have grown (a call) -/
theorem Sta.grow (S : Sta F0 H0 L M σ H F) (g : Gr F H F' H') (s : Same F' H') : Sta F0 H0 L M σ H' F' :=
  ⟨S.g.trans g, s, S.slots g.f, fun q hq => by
    obtain ⟨q1, q2, u, q3, q4⟩ := S.m q hq
    exact ⟨g.n _ (by rw [q3]; exact fun z => by cases z) q1, q2, u, g.h _ _ q3, q.2.mono g.f q4⟩, S.nd⟩
/-- more is fixed, the heap as it is -/
theorem Sta.cons (S : Sta F0 H0 L M σ H F) (f : F p = none) (h0 : H0 p = none) (nq : ∀ q ∈ M, q.1 ≠ p) (h : H p = some o) (k : mo.ok F o) : Sta F0 H0 L ((p, mo) :: M) σ H F := by
  refine ⟨S.g, S.s, S.l, fun q hq => ?_, ?_⟩
  · rcases List.mem_cons.mp hq with rfl | hq
    · exact ⟨f, h0, o, h, k⟩
    · exact S.m q hq
  · rw [List.map_cons]
    refine List.nodup_cons.mpr ⟨fun z => ?_, S.nd⟩
    obtain ⟨q, hq, e⟩ := List.mem_map.mp z
    exact nq q hq e
theorem mem_at {j : Nat} {q : Addr × Mo} (h : M[j]? = some q) : q ∈ M := List.mem_of_getElem? h
/-- an object changes -/
theorem Sta.chg (S : Sta F0 H0 L M σ H F) {j : Nat} {mo' : Mo} (hj : M[j]? = some (p, mo)) (k : mo'.ok F o) : Sta F0 H0 L (M.set j (p, mo')) σ (upd H p o) F := by
  obtain ⟨f, h0, _, _, _⟩ := S.m _ (mem_at hj)
  have f : F p = none := f
  have h0 : H0 p = none := h0
  have hjl := (List.getElem?_eq_some_iff.mp hj)
  obtain ⟨jl, je⟩ := hjl
  have nd := S.nd
  refine ⟨⟨S.g.f, fun a u ha => ?_, S.g.n⟩, same_sub S.s f, S.l, fun q hq => ?_, ?_⟩
  · have : a ≠ p := ne_of_none ha h0
    rw [upd_ne this]
    exact S.g.h a u ha
  · obtain ⟨i, hi⟩ := List.mem_iff_getElem?.mp hq
    by_cases e : i = j
    · subst e
      rw [List.getElem?_set_self jl] at hi
      cases hi
      exact ⟨f, h0, o, upd_same, k⟩
    · rw [List.getElem?_set_ne (Ne.symm e)] at hi
      obtain ⟨q1, q2, u, q3, q4⟩ := S.m q (mem_at hi)
      have ne : q.1 ≠ p := fun z => e (by
        have a1 : (M.map (·.1))[i]? = some p := by rw [List.getElem?_map, hi, ← z]; rfl
        have a2 : (M.map (·.1))[j]? = some p := by rw [List.getElem?_map, hj]; rfl
        exact nd_ix nd a1 a2)
      exact ⟨q1, q2, u, by rw [upd_ne ne]; exact q3, q4⟩
  · have e : (M.set j (p, mo')).map (·.1) = M.map (·.1) := by
      rw [List.map_set]
      apply List.ext_getElem?
      intro i
      by_cases e : j = i
      · subst e
        rw [List.getElem?_set_self (by rw [List.length_map]; exact jl), List.getElem?_map, hj]; rfl
      · rw [List.getElem?_set_ne e]
    rw [e]
    exact nd
/-- objects that nobody asks of any more -/
theorem Sta.less {M' : Ms} (S : Sta F0 H0 L M σ H F) (h : M'.Sublist M) : Sta F0 H0 L M' σ H F :=
  ⟨S.g, S.s, S.l, fun q hq => S.m q (h.subset hq), S.nd.sublist (h.map _)⟩
theorem Sta.perm {M' : Ms} (S : Sta F0 H0 L M σ H F) (h : M'.Perm M) : Sta F0 H0 L M' σ H F :=
  ⟨S.g, S.s, S.l, fun q hq => S.m q (h.mem_iff.mp hq), ((h.map _).nodup_iff).mpr S.nd⟩
end

end T

namespace T
open PySem PySem.Spec PyProof.Rows L2
/-! ### what an expression, a test, arguments evaluate to -/
def Evn {α : Type} (F0 H0 : Hp) (L : List Sl) (M : Ms) (te : TE) (r : Rl α) (P : α → Prop) : Prop :=
  ∀ σ H F, Sta F0 H0 L M σ H F → ∀ Q : VK, (∀ x v H' F', P x → Sta F0 H0 L M σ H' F' → Same F F' → r.ok F' v x → Q v H') → te σ H Q
abbrev Ev {α : Type} (F0 H0 : Hp) (L : List Sl) (M : Ms) (te : TE) (r : Rl α) (x : α) : Prop := Evn F0 H0 L M te r (fun y => y = x)
/-- a new object that may change from now on -/
def EvMn {β : Type} (F0 H0 : Hp) (L : List Sl) (M : Ms) (te : TE) (mo : β → Mo) (P : β → Prop) : Prop :=
  ∀ σ H F, Sta F0 H0 L M σ H F → ∀ Q : VK, (∀ x p H' F', P x → Sta F0 H0 L ((p, mo x) :: M) σ H' F' → Same F F' → Q (.ref p) H') → te σ H Q
abbrev EvM (F0 H0 : Hp) (L : List Sl) (M : Ms) (te : TE) (mo : Mo) : Prop := EvMn F0 H0 L M te (fun _ : Unit => mo) (fun _ => True)
def EvT (F0 H0 : Hp) (L : List Sl) (M : Ms) (tt : TT) (b : Bool) : Prop :=
  ∀ σ H F, Sta F0 H0 L M σ H F → ∀ Q : Bool → Hp → Prop, (∀ H' F', Sta F0 H0 L M σ H' F' → Same F F' → Q b H') → tt σ H Q
def EvAn (F0 H0 : Hp) (L : List Sl) (M : Ms) (ta : TA) (P : List Sl → Prop) : Prop :=
  ∀ σ H F, Sta F0 H0 L M σ H F → ∀ Q : List V → Hp → Prop, (∀ ars vs H' F', P ars → Sta F0 H0 L M σ H' F' → Same F F' → Paired (fun v (s : Sl) => s.ok F' (some v)) vs ars → Q vs H') → ta σ H Q
abbrev EvA (F0 H0 : Hp) (L : List Sl) (M : Ms) (ta : TA) (ars : List Sl) : Prop := EvAn F0 H0 L M ta (fun l => l = ars)
/-- a rule on two values -/
def OpOk {α β γ : Type} (F0 H0 : Hp) (L : List Sl) (M : Ms) (rl : R2) (r : Rl α) (x : α) (q : Rl β) (y : β) (t : Rl γ) (z : γ) : Prop :=
  ∀ σ H F v w, Sta F0 H0 L M σ H F → r.ok F v x → q.ok F w y → ∀ Q : VK, (∀ u H' F', Sta F0 H0 L M σ H' F' → Same F F' → t.ok F' u z → Q u H') → rl v w H Q
def OpOkM {α β : Type} (F0 H0 : Hp) (L : List Sl) (M : Ms) (rl : R2) (r : Rl α) (x : α) (q : Rl β) (y : β) (mo : Mo) : Prop :=
  ∀ σ H F v w, Sta F0 H0 L M σ H F → r.ok F v x → q.ok F w y → ∀ Q : VK, (∀ p H' F', Sta F0 H0 L ((p, mo) :: M) σ H' F' → Same F F' → Q (.ref p) H') → rl v w H Q
/-- a built-in on its arguments -/
def CaOk {γ : Type} (F0 H0 : Hp) (L : List Sl) (M : Ms) (rl : List V → Hp → VK → Prop) (ars : List Sl) (t : Rl γ) (z : γ) : Prop :=
  ∀ σ H F vs, Sta F0 H0 L M σ H F → Paired (fun v (s : Sl) => s.ok F (some v)) vs ars → ∀ Q : VK, (∀ u H' F', Sta F0 H0 L M σ H' F' → Same F F' → t.ok F' u z → Q u H') → rl vs H Q
def CaOkM (F0 H0 : Hp) (L : List Sl) (M : Ms) (rl : List V → Hp → VK → Prop) (ars : List Sl) (mo : Mo) : Prop :=
  ∀ σ H F vs, Sta F0 H0 L M σ H F → Paired (fun v (s : Sl) => s.ok F (some v)) vs ars → ∀ Q : VK, (∀ p H' F', Sta F0 H0 L ((p, mo) :: M) σ H' F' → Same F F' → Q (.ref p) H') → rl vs H Q

theorem sl_ok {α : Type} {r : Rl α} {x : α} {F : Hp} {v : V} (h : (sl r x).ok F (some v)) : r.ok F v x := by
  obtain ⟨w, e, k⟩ := h
  cases e
  exact k
theorem args1 {α : Type} {r : Rl α} {x : α} {F : Hp} {vs : List V} (h : Paired (fun v (s : Sl) => s.ok F (some v)) vs [sl r x]) : ∃ v, vs = [v] ∧ r.ok F v x := by
  cases h with
  | cons a t => cases t; exact ⟨_, rfl, sl_ok a⟩
theorem args2 {α β : Type} {r : Rl α} {x : α} {q : Rl β} {y : β} {F : Hp} {vs : List V} (h : Paired (fun v (s : Sl) => s.ok F (some v)) vs [sl r x, sl q y]) : ∃ v w, vs = [v, w] ∧ r.ok F v x ∧ q.ok F w y := by
  cases h with
  | cons a t => cases t with
    | cons b t => cases t; exact ⟨_, _, rfl, sl_ok a, sl_ok b⟩
theorem args3 {α β γ : Type} {r : Rl α} {x : α} {q : Rl β} {y : β} {t : Rl γ} {z : γ} {F : Hp} {vs : List V} (h : Paired (fun v (s : Sl) => s.ok F (some v)) vs [sl r x, sl q y, sl t z]) :
    ∃ v w u, vs = [v, w, u] ∧ r.ok F v x ∧ q.ok F w y ∧ t.ok F u z := by
  cases h with
  | cons a t => cases t with
    | cons b t => cases t with
      | cons c t => cases t; exact ⟨_, _, _, rfl, sl_ok a, sl_ok b, sl_ok c⟩

section
variable {F0 H0 : Hp} {L : List Sl} {M : Ms} {K : PySem.W.Frag} {ta tb te : TE} {t u : TT}
variable {α β γ : Type} {r : Rl α} {q : Rl β} {x : α} {y : β}

theorem Evn.imp {P P' : α → Prop} (h : Evn F0 H0 L M te r P) (f : ∀ x, P x → P' x) : Evn F0 H0 L M te r P' := fun σ H F S Q k => h σ H F S Q fun x v H' F' p => k x v H' F' (f x p)
theorem Evn.rel {P : α → Prop} {P' : β → Prop} (h : Evn F0 H0 L M te r P) (f : ∀ x F v, P x → r.ok F v x → ∃ y, P' y ∧ q.ok F v y) : Evn F0 H0 L M te q P' := fun σ H F S Q k => h σ H F S Q fun x v H' F' p S' s hk => by
  obtain ⟨y, p', k'⟩ := f x F' v p hk
  exact k y v H' F' p' S' s k'
theorem ev_var {i : Nat} (h : L[i]? = some (sl r x)) : Ev F0 H0 L M (tVar i) r x := fun σ H F S Q k => by
  obtain ⟨o, ho, k1⟩ := pget S.l h
  obtain ⟨v, rfl, k2⟩ := k1
  exact ⟨v, ho, k x v H F rfl S (Same.refl _) k2⟩
theorem ev_int {i : Int} : Ev F0 H0 L M (tC (.int i)) rI i := fun _ H F S Q k => k _ _ H F rfl S (Same.refl _) rfl
theorem ev_bl {i : Bool} : Ev F0 H0 L M (tC (.bl i)) rB i := fun _ H F S Q k => k _ _ H F rfl S (Same.refl _) rfl
theorem ev_str {i : Str} : Ev F0 H0 L M (tC (.str i)) rS i := fun _ H F S Q k => k _ _ H F rfl S (Same.refl _) rfl
theorem ev_non : Ev F0 H0 L M (tC .non) rN () := fun _ H F S Q k => k _ _ H F rfl S (Same.refl _) rfl
theorem ev_val {v : V} : Ev F0 H0 L M (tC v) rV v := fun _ H F S Q k => k _ _ H F rfl S (Same.refl _) rfl
theorem ev_nonO : Ev F0 H0 L M (tC .non) (rO r) none := fun _ H F S Q k => k _ _ H F rfl S (Same.refl _) rfl
theorem ev_op {rl : R2} {t : Rl γ} {z : γ} (ha : Ev F0 H0 L M ta r x) (hb : Ev F0 H0 L M tb q y) (ho : OpOk F0 H0 L M rl r x q y t z) : Ev F0 H0 L M (tOp rl ta tb) t z := fun σ H F S Q k =>
  ha σ H F S _ fun _ v H1 F1 e1 S1 s1 k1 => hb σ H1 F1 S1 _ fun _ w H2 F2 e2 S2 s2 k2 => by
    subst e1 e2
    exact ho σ H2 F2 v w S2 (r.mono s2 k1) k2 _ fun u H3 F3 S3 s3 k3 => k _ u H3 F3 rfl S3 ((s1.trans s2).trans s3) k3
theorem ev_opM {rl : R2} {mo : Mo} (ha : Ev F0 H0 L M ta r x) (hb : Ev F0 H0 L M tb q y) (ho : OpOkM F0 H0 L M rl r x q y mo) : EvM F0 H0 L M (tOp rl ta tb) mo := fun σ H F S Q k =>
  ha σ H F S _ fun _ v H1 F1 e1 S1 s1 k1 => hb σ H1 F1 S1 _ fun _ w H2 F2 e2 S2 s2 k2 => by
    subst e1 e2
    exact ho σ H2 F2 v w S2 (r.mono s2 k1) k2 _ fun p H3 F3 S3 s3 => k () p H3 F3 trivial S3 ((s1.trans s2).trans s3)
theorem ev_un {rl : V → Hp → VK → Prop} {t : Rl γ} {z : γ} (ha : Ev F0 H0 L M ta r x) (ho : ∀ F v H, r.ok F v x → ∀ Q : VK, (∀ u, t.ok F u z → Q u H) → rl v H Q) : Ev F0 H0 L M (tUn rl ta) t z := fun σ H F S Q k =>
  ha σ H F S _ fun _ v H1 F1 e1 S1 s1 k1 => by
    subst e1
    exact ho F1 v H1 k1 _ fun u ku => k _ u H1 F1 rfl S1 s1 ku
theorem ev_neg {i : Int} (ha : Ev F0 H0 L M ta rI i) : Ev F0 H0 L M (tUn (rU fun i => .int (-i)) ta) rI (-i) := ev_un ha fun F v H h Q k => ⟨i, h, k _ rfl⟩

/-! #### operations on ints -/
theorem oI0 {g : Int → Int → V} {i j : Int} {t : Rl γ} {z : γ} (h : ∀ F, t.ok F (g i j) z) : OpOk F0 H0 L M (rI0 g) rI i rI j t z := fun σ H F v w S hv hw Q k => ⟨i, j, hv, hw, k _ H F S (Same.refl _) (h F)⟩
theorem oI {C : Int → Int → Prop} {g : Int → Int → V} {i j : Int} {t : Rl γ} {z : γ} (hc : C i j) (h : ∀ F, t.ok F (g i j) z) : OpOk F0 H0 L M (L2.rI C g) rI i rI j t z := fun σ H F v w S hv hw Q k => ⟨i, j, hv, hw, hc, k _ H F S (Same.refl _) (h F)⟩
theorem oL {rl rl' : R2} {t : Rl γ} {z : γ} (h : OpOk F0 H0 L M rl r x q y t z) : OpOk F0 H0 L M (fun x y H Q => rl x y H Q ∨ rl' x y H Q) r x q y t z := fun σ H F v w S hv hw Q k => .inl (h σ H F v w S hv hw Q k)
theorem oR {rl rl' : R2} {t : Rl γ} {z : γ} (h : OpOk F0 H0 L M rl' r x q y t z) : OpOk F0 H0 L M (fun x y H Q => rl x y H Q ∨ rl' x y H Q) r x q y t z := fun σ H F v w S hv hw Q k => .inr (h σ H F v w S hv hw Q k)
theorem oLM {rl rl' : R2} {mo : Mo} (h : OpOkM F0 H0 L M rl r x q y mo) : OpOkM F0 H0 L M (fun x y H Q => rl x y H Q ∨ rl' x y H Q) r x q y mo := fun σ H F v w S hv hw Q k => .inl (h σ H F v w S hv hw Q k)
theorem oRM {rl rl' : R2} {mo : Mo} (h : OpOkM F0 H0 L M rl' r x q y mo) : OpOkM F0 H0 L M (fun x y H Q => rl x y H Q ∨ rl' x y H Q) r x q y mo := fun σ H F v w S hv hw Q k => .inr (h σ H F v w S hv hw Q k)
theorem o_eqI {i j : Int} : OpOk F0 H0 L M rEq rI i rI j rB (decide (i = j)) := fun σ H F v w S hv hw Q k => by
  cases hv; cases hw
  refine ⟨rfl, ?_⟩
  have e : decide (V.int i = V.int j) = decide (i = j) := by rw [dec_int]; exact Bool.beq_eq_decide_eq ..
  rw [e]
  exact k _ H F S (Same.refl _) rfl
theorem o_neI {i j : Int} : OpOk F0 H0 L M rNe rI i rI j rB (!decide (i = j)) := fun σ H F v w S hv hw Q k => by
  cases hv; cases hw
  refine ⟨rfl, ?_⟩
  have e : decide (V.int i = V.int j) = decide (i = j) := by rw [dec_int]; exact Bool.beq_eq_decide_eq ..
  rw [e]
  exact k _ H F S (Same.refl _) rfl
/-- is None -/
theorem o_isN {o : Option α} : OpOk F0 H0 L M (fun x y H Q => y = .non ∧ Q (.bl (decide (x = .non))) H) (rO r) o rN () rB (o.isNone) := fun σ H F v w S hv hw Q k => by
  refine ⟨hw, ?_⟩
  have e : decide (v = .non) = o.isNone := by
    cases o with
    | none => exact decide_eq_true hv
    | some y => exact decide_eq_false hv.1
  rw [e]
  exact k _ H F S (Same.refl _) rfl
theorem o_notN {o : Option α} : OpOk F0 H0 L M (fun x y H Q => y = .non ∧ Q (.bl (!decide (x = .non))) H) (rO r) o rN () rB (o.isSome) := fun σ H F v w S hv hw Q k => by
  refine ⟨hw, ?_⟩
  have e : (!decide (v = .non)) = o.isSome := by
    cases o with
    | none => rw [decide_eq_true (show v = .non from hv)]; rfl
    | some y => rw [decide_eq_false hv.1]; rfl
  rw [e]
  exact k _ H F S (Same.refl _) rfl

/-! #### items -/
theorem o_ixL {xs : List α} {i : Int} {z : α} (h : atI xs i = some z) : OpOk F0 H0 L M (rIxL K) (rL r) xs rI i r z := fun σ H F v w S hv hw Q k => by
  obtain ⟨a, vs, rfl, e, p⟩ := hv
  cases hw
  obtain ⟨j, h1, h2, h3, h4, h5⟩ := atI_get h
  obtain ⟨u, hu, ku⟩ := pget p h2
  refine ⟨a, vs, i, u, rfl, rfl, SqL.of (S.s _ _ e), ?_, k u H F S (Same.refl _) ku⟩
  unfold atI at h ⊢
  rw [p.length]
  cases hx : ixN xs.length i with
  | none => rw [hx] at h; cases h
  | some j' =>
    rw [hx] at h
    have e1 : xs[j']? = some z := h
    obtain ⟨h6, _⟩ := ixN_seq hx
    rw [h1] at h6
    cases h6
    exact hu
theorem o_ixT {xs : List α} {i : Int} {z : α} (h : atI xs i = some z) : OpOk F0 H0 L M (rIxT K) (rT r) xs rI i r z := fun σ H F v w S hv hw Q k => by
  obtain ⟨a, vs, rfl, e, p⟩ := hv
  cases hw
  obtain ⟨j, h1, h2, h3, h4, h5⟩ := atI_get h
  obtain ⟨u, hu, ku⟩ := pget p h2
  refine ⟨a, vs, i, u, rfl, rfl, SqT.of (S.s _ _ e), ?_, k u H F S (Same.refl _) ku⟩
  unfold atI at h ⊢
  rw [p.length]
  cases hx : ixN xs.length i with
  | none => rw [hx] at h; cases h
  | some j' =>
    rw [hx] at h
    have e1 : xs[j']? = some z := h
    obtain ⟨h6, _⟩ := ixN_seq hx
    rw [h1] at h6
    cases h6
    exact hu
/-- an item of a list that changes -/
theorem o_ixM {p : Addr} {j : Nat} {xs : List α} {i : Int} {z : α} (hj : M[j]? = some (p, mL r xs)) (h : atI xs i = some z) : OpOk F0 H0 L M (rIxL K) rV (.ref p) rI i r z := fun σ H F v w S hv hw Q k => by
  cases hv; cases hw
  obtain ⟨_, _, o, e, vs, rfl, pr⟩ := S.m _ (mem_at hj)
  obtain ⟨j, h1, h2, h3, h4, h5⟩ := atI_get h
  obtain ⟨u, hu, ku⟩ := pget pr h2
  refine ⟨p, vs, i, u, rfl, rfl, SqL.of e, ?_, k u H F S (Same.refl _) ku⟩
  unfold atI at h ⊢
  rw [pr.length]
  cases hx : ixN xs.length i with
  | none => rw [hx] at h; cases h
  | some j' =>
    rw [hx] at h
    have e1 : xs[j']? = some z := h
    obtain ⟨h6, _⟩ := ixN_seq hx
    rw [h1] at h6
    cases h6
    exact hu
theorem o_ixQ {xs : List Int} {i z : Int} (h : atI xs i = some z) : OpOk F0 H0 L M (rIxL K) (rQ K) xs rI i rI z := fun σ H F v w S hv hw Q k => by
  obtain ⟨a, rfl, e⟩ := hv
  cases hw
  refine ⟨a, _, i, .int z, rfl, rfl, S.s.seq e, ?_, k _ H F S (Same.refl _) rfl⟩
  unfold atI at h ⊢
  rw [List.length_map]
  cases hx : ixN xs.length i with
  | none => rw [hx] at h; cases h
  | some j' =>
    rw [hx] at h
    have e1 : xs[j']? = some z := h
    show (xs.map V.int)[j']? = _
    rw [List.getElem?_map, e1]
    rfl
theorem atI_0 {α : Type} {a : α} {l : List α} : atI (a :: l) 0 = some a := atI_nat (j := 0) rfl
theorem o_ix20 {z : α × β} : OpOk F0 H0 L M (rIxT K) (r2 r q) z rI 0 r z.1 := fun σ H F v w S hv hw Q k => by
  obtain ⟨a, v1, v2, rfl, e, k1, k2⟩ := hv
  cases hw
  exact ⟨a, _, 0, v1, rfl, rfl, SqT.of (S.s _ _ e), atI_nat (j := 0) rfl, k v1 H F S (Same.refl _) k1⟩
theorem o_ix21 {z : α × β} : OpOk F0 H0 L M (rIxT K) (r2 r q) z rI 1 q z.2 := fun σ H F v w S hv hw Q k => by
  obtain ⟨a, v1, v2, rfl, e, k1, k2⟩ := hv
  cases hw
  exact ⟨a, _, 1, v2, rfl, rfl, SqT.of (S.s _ _ e), atI_nat (j := 1) rfl, k v2 H F S (Same.refl _) k2⟩
theorem o_ix30 {t : Rl γ} {z : α × β × γ} : OpOk F0 H0 L M (rIxT K) (r3 r q t) z rI 0 r z.1 := fun σ H F v w S hv hw Q k => by
  obtain ⟨a, v1, v2, v3, rfl, e, k1, k2, k3⟩ := hv
  cases hw
  exact ⟨a, _, 0, v1, rfl, rfl, SqT.of (S.s _ _ e), atI_nat (j := 0) rfl, k v1 H F S (Same.refl _) k1⟩
theorem o_ix31 {t : Rl γ} {z : α × β × γ} : OpOk F0 H0 L M (rIxT K) (r3 r q t) z rI 1 q z.2.1 := fun σ H F v w S hv hw Q k => by
  obtain ⟨a, v1, v2, v3, rfl, e, k1, k2, k3⟩ := hv
  cases hw
  exact ⟨a, _, 1, v2, rfl, rfl, SqT.of (S.s _ _ e), atI_nat (j := 1) rfl, k v2 H F S (Same.refl _) k2⟩
theorem o_ix32 {t : Rl γ} {z : α × β × γ} : OpOk F0 H0 L M (rIxT K) (r3 r q t) z rI 2 t z.2.2 := fun σ H F v w S hv hw Q k => by
  obtain ⟨a, v1, v2, v3, rfl, e, k1, k2, k3⟩ := hv
  cases hw
  exact ⟨a, _, 2, v3, rfl, rfl, SqT.of (S.s _ _ e), atI_nat (j := 2) rfl, k v3 H F S (Same.refl _) k3⟩
theorem o_ixL' {xs : List α} {i : Int} {z : α} (h : atI xs i = some z) : OpOk F0 H0 L M (rIx K) (rL r) xs rI i r z := oL (o_ixL h)
theorem o_ixM' {p : Addr} {j : Nat} {xs : List α} {i : Int} {z : α} (hj : M[j]? = some (p, mL r xs)) (h : atI xs i = some z) : OpOk F0 H0 L M (rIx K) rV (.ref p) rI i r z := oL (o_ixM hj h)
theorem o_ixQ' {xs : List Int} {i z : Int} (h : atI xs i = some z) : OpOk F0 H0 L M (rIx K) (rQ K) xs rI i rI z := oL (o_ixQ h)
theorem o_ixT' {xs : List α} {i : Int} {z : α} (h : atI xs i = some z) : OpOk F0 H0 L M (rIx K) (rT r) xs rI i r z := oR (oL (o_ixT h))
theorem o_ix20' {z : α × β} : OpOk F0 H0 L M (rIx K) (r2 r q) z rI 0 r z.1 := oR (oL o_ix20)
theorem o_ix21' {z : α × β} : OpOk F0 H0 L M (rIx K) (r2 r q) z rI 1 q z.2 := oR (oL o_ix21)
theorem o_ix30' {t : Rl γ} {z : α × β × γ} : OpOk F0 H0 L M (rIx K) (r3 r q t) z rI 0 r z.1 := oR (oL o_ix30)
theorem o_ix31' {t : Rl γ} {z : α × β × γ} : OpOk F0 H0 L M (rIx K) (r3 r q t) z rI 1 q z.2.1 := oR (oL o_ix31)
theorem o_ix32' {t : Rl γ} {z : α × β × γ} : OpOk F0 H0 L M (rIx K) (r3 r q t) z rI 2 t z.2.2 := oR (oL o_ix32)

/-! #### new lists -/
theorem ev_frz {mo : Mo} {P : Unit → Prop} {r : Rl α} {x : α} (h : EvM F0 H0 L M te mo) (f : ∀ F F' p o, mo.ok F o → Same F F' → F' p = some o → r.ok F' (.ref p) x) : Ev F0 H0 L M te r x := fun σ H F S Q k =>
  h σ H F S Q fun _ p H' F' _ S' s' => by
    obtain ⟨o, ho, ko, fp, S2⟩ := S'.frz
    have sf : Same F' (upd F' p o) := same_new fp
    exact k x _ H' _ rfl S2 (s'.trans sf) (f F' _ p o ko sf upd_same)
theorem ev_frzL {xs : List α} (h : EvM F0 H0 L M te (mL r xs)) : Ev F0 H0 L M te (rL r) xs := ev_frz (P := fun _ => True) h fun F F' p o ko s e => by
  obtain ⟨vs, rfl, pr⟩ := ko
  exact ⟨p, vs, rfl, e, Paired.imp pr fun _ _ z => r.mono s z⟩
/-- a list that is no object of the entry's -/
def rLn {α : Type} (H0 : Hp) (r : Rl α) : Rl (List α) := ⟨fun F v xs => ∃ a vs, v = .ref a ∧ H0 a = none ∧ F a = some (.lst vs) ∧ Paired (r.ok F) vs xs,
  fun s ⟨a, vs, e, n, h, p⟩ => ⟨a, vs, e, n, s _ _ h, Paired.imp p fun _ _ z => r.mono s z⟩⟩
theorem ev_frzN {xs : List α} (h : EvM F0 H0 L M te (mL r xs)) : Ev F0 H0 L M te (rLn H0 r) xs := fun σ H F S Q k =>
  h σ H F S Q fun _ p H' F' _ S' s' => by
    have h0 : H0 p = none := (S'.m _ List.mem_cons_self).2.1
    obtain ⟨o, ho, ko, fp, S2⟩ := S'.frz
    have sf : Same F' (upd F' p o) := same_new fp
    obtain ⟨vs, rfl, pr⟩ := ko
    exact k xs _ H' _ rfl S2 (s'.trans sf) ⟨p, vs, rfl, h0, upd_same, Paired.imp pr fun _ _ z => r.mono sf z⟩
theorem ev_LnL {P : List α → Prop} (h : Evn F0 H0 L M te (rLn H0 r) P) : Evn F0 H0 L M te (rL r) P := Evn.rel h fun x F v p ⟨a, vs, e, n, k⟩ => ⟨x, p, a, vs, e, k⟩
theorem ea_nil : EvA F0 H0 L M tNil [] := fun σ H F S Q k => k _ _ H F rfl S (Same.refl _) .nil
theorem ea_cons {tr : TA} {ars : List Sl} (h : Ev F0 H0 L M te r x) (hr : EvA F0 H0 L M tr ars) : EvA F0 H0 L M (tCons te tr) (sl r x :: ars) := fun σ H F S Q k =>
  h σ H F S _ fun _ v H1 F1 e1 S1 s1 k1 => hr σ H1 F1 S1 _ fun _ vs H2 F2 e2 S2 s2 k2 => by
    subst e1 e2
    exact k _ (v :: vs) H2 F2 rfl S2 (s1.trans s2) (.cons ⟨v, rfl, r.mono s2 k1⟩ k2)
theorem ea_consn {tr : TA} {P : α → Prop} {P2 : List Sl → Prop} (h : Evn F0 H0 L M te r P) (hr : EvAn F0 H0 L M tr P2) : EvAn F0 H0 L M (tCons te tr) (fun l => ∃ x ars, P x ∧ P2 ars ∧ l = sl r x :: ars) := fun σ H F S Q k =>
  h σ H F S _ fun x v H1 F1 e1 S1 s1 k1 => hr σ H1 F1 S1 _ fun ars vs H2 F2 e2 S2 s2 k2 =>
    k _ (v :: vs) H2 F2 ⟨x, ars, e1, e2, rfl⟩ S2 (s1.trans s2) (.cons ⟨v, rfl, r.mono s2 k1⟩ k2)
theorem sls_ok {F : Hp} : ∀ {vs : List V} {xs : List α}, Paired (fun v (s : Sl) => s.ok F (some v)) vs (xs.map (sl r)) → Paired (r.ok F) vs xs
  | [], [], _ => .nil
  | [], _ :: _, h => by cases h
  | _ :: _, [], h => by cases h
  | v :: vs, x :: xs, h => by
    cases h with
    | cons a t => exact .cons (sl_ok a) (sls_ok t)
theorem ev_lst {tr : TA} {xs : List α} (h : EvA F0 H0 L M tr (xs.map (sl r))) (hz : xs.length ≤ sizeLine) : EvM F0 H0 L M (tLst tr) (mL r xs) := fun σ H F S Q k =>
  h σ H F S _ fun _ vs H1 F1 e1 S1 s1 k1 => by
    subst e1
    have k2 := sls_ok k1
    refine ⟨by rw [k2.length]; exact hz, fun p hp => ?_⟩
    exact k () p _ F1 trivial (S1.nw hp ⟨vs, rfl, k2⟩) s1
theorem ev_lst0 (r : Rl α) : EvM F0 H0 L M (tLst tNil) (mL r []) := ev_lst (xs := []) ea_nil (Nat.zero_le _)
theorem ev_lst1 {a : α} (h : EvA F0 H0 L M (tCons ta tNil) [sl r a]) : EvM F0 H0 L M (tLst (tCons ta tNil)) (mL r [a]) := ev_lst (xs := [a]) h (by show 1 ≤ sizeLine; decide)
theorem ev_tup2 {tr : TA} (h : EvA F0 H0 L M tr [sl r x, sl q y]) : Ev F0 H0 L M (tTup tr) (r2 r q) (x, y) := fun σ H F S Q k =>
  h σ H F S _ fun _ vs H1 F1 e1 S1 s1 k1 => by
    subst e1
    obtain ⟨v, w, rfl, h1, h2⟩ := args2 k1
    refine ⟨by show 2 ≤ sizeLine; decide, fun p hp => ?_⟩
    have fp : F1 p = none := (S1.new0 hp).1
    have sf : Same F1 (upd F1 p (.tup [v, w])) := same_new fp
    exact k _ _ _ _ rfl (S1.lay hp) (s1.trans sf) ⟨p, v, w, rfl, upd_same, r.mono sf h1, q.mono sf h2⟩
theorem ev_tup3 {tr : TA} {t : Rl γ} {z : γ} (h : EvA F0 H0 L M tr [sl r x, sl q y, sl t z]) : Ev F0 H0 L M (tTup tr) (r3 r q t) (x, y, z) := fun σ H F S Q k =>
  h σ H F S _ fun _ vs H1 F1 e1 S1 s1 k1 => by
    subst e1
    obtain ⟨v, w, u, rfl, h1, h2, h3⟩ := args3 k1
    refine ⟨by show 3 ≤ sizeLine; decide, fun p hp => ?_⟩
    have fp : F1 p = none := (S1.new0 hp).1
    have sf : Same F1 (upd F1 p (.tup [v, w, u])) := same_new fp
    exact k _ _ _ _ rfl (S1.lay hp) (s1.trans sf) ⟨p, v, w, u, rfl, upd_same, r.mono sf h1, q.mono sf h2, t.mono sf h3⟩
theorem o_cat {xs ys : List α} (hz : xs.length + ys.length ≤ sizeLine) : OpOkM F0 H0 L M rCat (rL r) xs (rL r) ys (mL r (xs ++ ys)) := fun σ H F v w S hv hw Q k => by
  obtain ⟨a, vs, rfl, e, p⟩ := hv
  obtain ⟨b, ws, rfl, e', p'⟩ := hw
  refine ⟨a, b, vs, ws, rfl, rfl, S.s _ _ e, S.s _ _ e', by rw [p.length, p'.length]; exact hz, fun l hl => ?_⟩
  exact k l _ F (S.nw hl ⟨_, rfl, papp p p'⟩) (Same.refl _)
def reps {α : Type} (xs : List α) (k : Nat) : List α := (List.replicate k xs).flatten
theorem preps {R : α → β → Prop} {xs : List α} {ys : List β} (h : Paired R xs ys) : ∀ k, Paired R (List.replicate k xs).flatten (reps ys k)
  | 0 => .nil
  | k + 1 => papp h (preps h k)
theorem reps_len (xs : List α) : ∀ k, (reps xs k).length = xs.length * k
  | 0 => by simp [reps]
  | k + 1 => by
    have := reps_len xs k
    unfold reps at this ⊢
    rw [List.replicate_succ, List.flatten_cons, List.length_append, this, Nat.mul_succ, Nat.add_comm]
theorem o_rep {xs : List α} {i : Int} (h1 : -(2 ^ 63) ≤ i) (h2 : i < 2 ^ 63) (hz : xs.length * i.toNat ≤ sizeLine) : OpOkM F0 H0 L M rRep (rL r) xs rI i (mL r (reps xs i.toNat)) := fun σ H F v w S hv hw Q k => by
  obtain ⟨a, vs, rfl, e, p⟩ := hv
  cases hw
  refine ⟨a, i, vs, rfl, rfl, S.s _ _ e, h1, h2, by rw [p.length]; exact hz, fun l hl => ?_⟩
  exact k l _ F (S.nw hl ⟨_, rfl, preps p _⟩) (Same.refl _)

/-! #### built-ins -/
theorem ev_ca {rl : List V → Hp → VK → Prop} {tr : TA} {ars : List Sl} {t : Rl γ} {z : γ} (h : EvA F0 H0 L M tr ars) (hc : CaOk F0 H0 L M rl ars t z) : Ev F0 H0 L M (tCB rl tr) t z := fun σ H F S Q k =>
  h σ H F S _ fun _ vs H1 F1 e1 S1 s1 k1 => by
    subst e1
    exact hc σ H1 F1 vs S1 k1 _ fun u H2 F2 S2 s2 k2 => k _ u H2 F2 rfl S2 (s1.trans s2) k2
theorem ev_caM {rl : List V → Hp → VK → Prop} {tr : TA} {ars : List Sl} {mo : Mo} (h : EvA F0 H0 L M tr ars) (hc : CaOkM F0 H0 L M rl ars mo) : EvM F0 H0 L M (tCB rl tr) mo := fun σ H F S Q k =>
  h σ H F S _ fun _ vs H1 F1 e1 S1 s1 k1 => by
    subst e1
    exact hc σ H1 F1 vs S1 k1 _ fun p H2 F2 S2 s2 => k () p H2 F2 trivial S2 (s1.trans s2)
abbrev cLen (K : PySem.W.Frag) : List V → Hp → VK → Prop := fun xs H Q => ∃ x n, xs = [x] ∧ LenV K x H n ∧ Q (.int n) H
theorem c_lenL {xs : List α} : CaOk F0 H0 L M (cLen K) [sl (rL r) xs] rI (xs.length : Int) := fun σ H F vs S h Q k => by
  obtain ⟨v, rfl, a, ws, rfl, e, p⟩ := args1 h
  exact ⟨_, _, rfl, .inl ⟨ws, SqL.of (S.s _ _ e), p.length.symm⟩, k _ H F S (Same.refl _) rfl⟩
theorem c_lenT {xs : List α} : CaOk F0 H0 L M (cLen K) [sl (rT r) xs] rI (xs.length : Int) := fun σ H F vs S h Q k => by
  obtain ⟨v, rfl, a, ws, rfl, e, p⟩ := args1 h
  exact ⟨_, _, rfl, .inr ⟨ws, SqT.of (S.s _ _ e), p.length.symm⟩, k _ H F S (Same.refl _) rfl⟩
theorem c_lenQ {xs : List Int} : CaOk F0 H0 L M (cLen K) [sl (rQ K) xs] rI (xs.length : Int) := fun σ H F vs S h Q k => by
  obtain ⟨v, rfl, a, rfl, e⟩ := args1 h
  exact ⟨_, _, rfl, .inl ⟨_, S.s.seq e, (List.length_map ..).symm⟩, k _ H F S (Same.refl _) rfl⟩
theorem c_lenM {p : Addr} {j : Nat} {xs : List α} (hj : M[j]? = some (p, mL r xs)) : CaOk F0 H0 L M (cLen K) [sl rV (.ref p)] rI (xs.length : Int) := fun σ H F vs S h Q k => by
  obtain ⟨v, rfl, rfl⟩ := args1 h
  obtain ⟨_, _, o, e, ws, rfl, pr⟩ := S.m _ (mem_at hj)
  exact ⟨_, _, rfl, .inl ⟨ws, SqL.of e, pr.length.symm⟩, k _ H F S (Same.refl _) rfl⟩
abbrev cInt : List V → Hp → VK → Prop := fun xs H Q => (∃ i, xs = [.int i] ∧ Q (.int i) H) ∨ ∃ k, xs = [.bl k] ∧ Q (.int (if k then 1 else 0)) H
theorem c_int {i : Int} : CaOk F0 H0 L M cInt [sl rI i] rI i := fun σ H F vs S h Q k => by
  obtain ⟨v, rfl, rfl⟩ := args1 h
  exact .inl ⟨i, rfl, k _ H F S (Same.refl _) rfl⟩
abbrev cTup (K : PySem.W.Frag) : List V → Hp → VK → Prop := fun xs H Q => ∃ p ys, xs = [.ref p] ∧ ((SqL K H p ys ∧ ∀ l, H l = none → Q (.ref l) (upd H l (.tup ys))) ∨ (SqT K H p ys ∧ Q (.ref p) H))
theorem c_tupL {xs : List α} : CaOk F0 H0 L M (cTup K) [sl (rL r) xs] (rT r) xs := fun σ H F vs S h Q k => by
  obtain ⟨v, rfl, a, ws, rfl, e, p⟩ := args1 h
  refine ⟨a, ws, rfl, .inl ⟨SqL.of (S.s _ _ e), fun l hl => ?_⟩⟩
  have sf : Same F (upd F l (.tup ws)) := same_new (S.new0 hl).1
  exact k _ _ _ (S.lay hl) sf ⟨l, ws, rfl, upd_same, Paired.imp p fun _ _ z => r.mono sf z⟩
theorem c_tupM {p : Addr} {j : Nat} {xs : List α} (hj : M[j]? = some (p, mL r xs)) : CaOk F0 H0 L M (cTup K) [sl rV (.ref p)] (rT r) xs := fun σ H F vs S h Q k => by
  obtain ⟨v, rfl, rfl⟩ := args1 h
  obtain ⟨_, _, o, e, ws, rfl, pr⟩ := S.m _ (mem_at hj)
  refine ⟨p, ws, rfl, .inl ⟨SqL.of e, fun l hl => ?_⟩⟩
  have sf : Same F (upd F l (.tup ws)) := same_new (S.new0 hl).1
  exact k _ _ _ (S.lay hl) sf ⟨l, ws, rfl, upd_same, Paired.imp pr fun _ _ z => r.mono sf z⟩
abbrev cList (K : PySem.W.Frag) : List V → Hp → VK → Prop := fun xs H Q => ∃ p ys, xs = [.ref p] ∧ (SqL K H p ys ∨ SqT K H p ys) ∧ ∀ l, H l = none → Q (.ref l) (upd H l (.lst ys))
theorem c_listL {xs : List α} : CaOkM F0 H0 L M (cList K) [sl (rL r) xs] (mL r xs) := fun σ H F vs S h Q k => by
  obtain ⟨v, rfl, a, ws, rfl, e, p⟩ := args1 h
  exact ⟨a, ws, rfl, .inl (SqL.of (S.s _ _ e)), fun l hl => k _ _ _ (S.nw hl ⟨ws, rfl, p⟩) (Same.refl _)⟩
theorem c_listT {xs : List α} : CaOkM F0 H0 L M (cList K) [sl (rT r) xs] (mL r xs) := fun σ H F vs S h Q k => by
  obtain ⟨v, rfl, a, ws, rfl, e, p⟩ := args1 h
  exact ⟨a, ws, rfl, .inr (SqT.of (S.s _ _ e)), fun l hl => k _ _ _ (S.nw hl ⟨ws, rfl, p⟩) (Same.refl _)⟩
theorem pbls {F : Hp} : ∀ {vs : List V} {bs : List Bool}, Paired (rB.ok F) vs bs → vs = bs.map V.bl
  | _, _, .nil => rfl
  | _, _, .cons a b => by rw [show _ = V.bl _ from a, pbls b]; rfl
theorem c_all {bs : List Bool} : CaOk F0 H0 L M (rAll K) [sl (rL rB) bs] rB (bs.all id) := fun σ H F vs S h Q k => by
  obtain ⟨v, rfl, a, ws, rfl, e, p⟩ := args1 h
  have := pbls p
  subst this
  exact ⟨a, bs, rfl, SqL.of (S.s _ _ e), k _ H F S (Same.refl _) rfl⟩
theorem c_max2 {i j : Int} : CaOk F0 H0 L M (fun xs H Q => ∃ i j, xs = [.int i, .int j] ∧ Q (.int (if j > i then j else i)) H) [sl rI i, sl rI j] rI (if j > i then j else i) := fun σ H F vs S h Q k => by
  obtain ⟨v, w, rfl, rfl, rfl⟩ := args2 h
  exact ⟨i, j, rfl, k _ H F S (Same.refl _) rfl⟩
theorem c_min2 {i j : Int} : CaOk F0 H0 L M (fun xs H Q => ∃ i j, xs = [.int i, .int j] ∧ Q (.int (if j < i then j else i)) H) [sl rI i, sl rI j] rI (if j < i then j else i) := fun σ H F vs S h Q k => by
  obtain ⟨v, w, rfl, rfl, rfl⟩ := args2 h
  exact ⟨i, j, rfl, k _ H F S (Same.refl _) rfl⟩

/-! #### tests -/
theorem et_test {b : Bool} (h : Ev F0 H0 L M te rB b) : EvT F0 H0 L M (tTest te) b := fun σ H F S Q k =>
  h σ H F S _ fun _ v H1 F1 e1 S1 s1 k1 => by
    subst e1
    exact ⟨_, k1, k H1 F1 S1 s1⟩
theorem et_B {b : Bool} (h : Ev F0 H0 L M te rB b) : EvT F0 H0 L M (tB te) b := fun σ H F S Q k =>
  h σ H F S _ fun _ v H1 F1 e1 S1 s1 k1 => by
    subst e1
    exact ⟨_, k1, k H1 F1 S1 s1⟩
theorem et_not {b : Bool} (h : EvT F0 H0 L M t b) : EvT F0 H0 L M (tNot t) (!b) := fun σ H F S Q k => h σ H F S _ fun H1 F1 S1 s1 => k H1 F1 S1 s1
theorem et_and {a b : Bool} (h1 : EvT F0 H0 L M t a) (h2 : a = true → EvT F0 H0 L M u b) : EvT F0 H0 L M (tAnd t u) (a && b) := fun σ H F S Q k => h1 σ H F S _ fun H1 F1 S1 s1 => by
  cases a with
  | true =>
    show u σ H1 Q
    exact h2 rfl σ H1 F1 S1 Q fun H2 F2 S2 s2 => k H2 F2 S2 (s1.trans s2)
  | false =>
    show Q false H1
    exact k H1 F1 S1 s1
theorem et_or {a b : Bool} (h1 : EvT F0 H0 L M t a) (h2 : a = false → EvT F0 H0 L M u b) : EvT F0 H0 L M (tOr t u) (a || b) := fun σ H F S Q k => h1 σ H F S _ fun H1 F1 S1 s1 => by
  cases a with
  | true =>
    show Q true H1
    exact k H1 F1 S1 s1
  | false =>
    show u σ H1 Q
    exact h2 rfl σ H1 F1 S1 Q fun H2 F2 S2 s2 => k H2 F2 S2 (s1.trans s2)
theorem et_is {a b : Bool} (h : EvT F0 H0 L M t a) (e : a = b) : EvT F0 H0 L M t b := e ▸ h
theorem ev_is {z : α} (h : Ev F0 H0 L M te r x) (e : x = z) : Ev F0 H0 L M te r z := e ▸ h
theorem ev_andV {a b : Bool} (h1 : Ev F0 H0 L M ta rB a) (h2 : a = true → Ev F0 H0 L M tb rB b) : Ev F0 H0 L M (tAndV ta tb) rB (a && b) := fun σ H F S Q k => h1 σ H F S _ fun _ v H1 F1 e1 S1 s1 k1 => by
  subst e1
  rename_i a
  refine ⟨a, k1, ?_⟩
  cases a with
  | true =>
    show tb σ H1 Q
    exact h2 rfl σ H1 F1 S1 Q fun x v H2 F2 e2 S2 s2 k2 => k x v H2 F2 e2 S2 (s1.trans s2) k2
  | false =>
    show Q (.bl false) H1
    exact k _ _ H1 F1 rfl S1 s1 rfl
theorem ev_orV {a b : Bool} (h1 : Ev F0 H0 L M ta rB a) (h2 : a = false → Ev F0 H0 L M tb rB b) : Ev F0 H0 L M (tOrV ta tb) rB (a || b) := fun σ H F S Q k => h1 σ H F S _ fun _ v H1 F1 e1 S1 s1 k1 => by
  subst e1
  rename_i a
  refine ⟨a, k1, ?_⟩
  cases a with
  | true =>
    show Q (.bl true) H1
    exact k _ _ H1 F1 rfl S1 s1 rfl
  | false =>
    show tb σ H1 Q
    exact h2 rfl σ H1 F1 S1 Q fun x v H2 F2 e2 S2 s2 k2 => k x v H2 F2 e2 S2 (s1.trans s2) k2
theorem ev_notV {a : Bool} (h1 : Ev F0 H0 L M ta rB a) : Ev F0 H0 L M (tNotV ta) rB (!a) := fun σ H F S Q k => h1 σ H F S _ fun _ v H1 F1 e1 S1 s1 k1 => by
  subst e1
  exact ⟨_, k1, k _ _ H1 F1 rfl S1 s1 rfl⟩
theorem ev_if {b : Bool} {P : α → Prop} (h : EvT F0 H0 L M t b) (h1 : b = true → Evn F0 H0 L M ta r P) (h2 : b = false → Evn F0 H0 L M tb r P) : Evn F0 H0 L M (tIf t ta tb) r P := fun σ H F S Q k => h σ H F S _ fun H1 F1 S1 s1 => by
  cases b with
  | true =>
    show ta σ H1 Q
    exact h1 rfl σ H1 F1 S1 Q fun x v H2 F2 e2 S2 s2 k2 => k x v H2 F2 e2 S2 (s1.trans s2) k2
  | false =>
    show tb σ H1 Q
    exact h2 rfl σ H1 F1 S1 Q fun x v H2 F2 e2 S2 s2 k2 => k x v H2 F2 e2 S2 (s1.trans s2) k2
/-- a < b < c of ints; the first rule's answer a, the second's b -/
theorem ev_chain {rl rl' : R2} {tc : TE} {i j l : Int} {a b : Bool} (ha : Ev F0 H0 L M ta rI i) (hb : Ev F0 H0 L M tb rI j) (h1 : OpOk F0 H0 L M rl rI i rI j rB a) (hc : Ev F0 H0 L M tc rI l) (h2 : OpOk F0 H0 L M rl' rI j rI l rB b) :
    Ev F0 H0 L M (tChain rl rl' ta tb tc) rB (a && b) := fun σ H F S Q k =>
  ha σ H F S _ fun _ v H1 F1 e1 S1 s1 k1 => hb σ H1 F1 S1 _ fun _ w H2 F2 e2 S2 s2 k2 => by
    subst e1 e2
    refine h1 σ H2 F2 v w S2 (rI.mono s2 k1) k2 _ fun z H3 F3 S3 s3 k3 => ?_
    refine ⟨a, k3, ?_⟩
    cases a with
    | true =>
      show tc σ H3 fun y H4 => _
      refine hc σ H3 F3 S3 _ fun _ y H4 F4 e4 S4 s4 k4 => ?_
      subst e4
      exact h2 σ H4 F4 w y S4 (rI.mono (s3.trans s4) k2) k4 _ fun u H5 F5 S5 s5 k5 => k _ u H5 F5 rfl S5 ((((s1.trans s2).trans s3).trans s4).trans s5) k5
    | false => exact k _ _ H3 F3 rfl S3 ((s1.trans s2).trans s3) rfl
end

end T

namespace T
open PySem PySem.Spec PyProof.Rows L2
/-- the state at a place, and what holds there -/
def Go (F0 H0 : Hp) (L : List Sl) (M : Ms) (P : L2.St → Hp → Prop) : Prop := ∀ σ H, At F0 H0 L M σ H → P σ H
/-- more is fixed -/
structure Bs (F0 H0 F1 : Hp) : Prop where
  f : Same F0 F1
  n : ∀ a, H0 a ≠ none → F0 a = none → F1 a = none
theorem Bs.refl {F0 H0 : Hp} : Bs F0 H0 F0 := ⟨Same.refl _, fun _ _ h => h⟩
theorem Bs.trans {F0 H0 F1 F2 : Hp} (a : Bs F0 H0 F1) (b : Bs F1 H0 F2) : Bs F0 H0 F2 := ⟨a.f.trans b.f, fun x h e => b.n x h (a.n x h e)⟩
theorem Sta.bs {F0 H0 : Hp} {L : List Sl} {M : Ms} {σ : L2.St} {H F : Hp} (S : Sta F0 H0 L M σ H F) : Bs F0 H0 F := ⟨S.g.f, S.g.n⟩
/-- from here on -/
theorem Sta.base {F0 H0 : Hp} {L : List Sl} {M : Ms} {σ : L2.St} {H F : Hp} (S : Sta F0 H0 L M σ H F) : Sta F H0 L M σ H F := ⟨⟨Same.refl _, S.g.h, fun _ _ h => h⟩, S.s, S.l, S.m, S.nd⟩
theorem Sta.unbase {F0 H0 F1 : Hp} {L : List Sl} {M : Ms} {σ : L2.St} {H F : Hp} (b : Bs F0 H0 F1) (S : Sta F1 H0 L M σ H F) : Sta F0 H0 L M σ H F :=
  ⟨⟨b.f.trans S.g.f, S.g.h, fun a h e => S.g.n a h (b.n a h e)⟩, S.s, S.l, S.m, S.nd⟩
/-- what is wanted of the value that is handed back -/
def Rt {β : Type} (F0 H0 : Hp) (r : Rl β) (post : β → Prop) (Q : VK) : Prop := ∀ y v H' F', post y → Gr F0 H0 F' H' → Same F' H' → r.ok F' v y → Q v H'
def RtM {β : Type} (F0 H0 : Hp) (mo : β → Mo) (post : β → Prop) (Q : VK) : Prop :=
  ∀ y p H' F', post y → Gr F0 H0 F' H' → Same F' H' → F' p = none → H0 p = none → (∃ o, H' p = some o ∧ (mo y).ok F' o) → Q (.ref p) H'
theorem Rt.bs {β : Type} {F0 H0 F1 : Hp} {r : Rl β} {post : β → Prop} {Q : VK} (h : Rt F0 H0 r post Q) (b : Bs F0 H0 F1) : Rt F1 H0 r post Q := fun y v H' F' p g s k => h y v H' F' p ⟨b.f.trans g.f, g.h, fun a x e => g.n a x (b.n a x e)⟩ s k
theorem RtM.bs {β : Type} {F0 H0 F1 : Hp} {mo : β → Mo} {post : β → Prop} {Q : VK} (h : RtM F0 H0 mo post Q) (b : Bs F0 H0 F1) : RtM F1 H0 mo post Q := fun y q H' F' p g s => h y q H' F' p ⟨b.f.trans g.f, g.h, fun a x e => g.n a x (b.n a x e)⟩ s

/-- forgetting slots -/
inductive Wk : List Sl → List Sl → Prop
  | nil : Wk [] []
  | same {s : Sl} {a b : List Sl} : Wk a b → Wk (s :: a) (s :: b)
  | drop {s : Sl} {a b : List Sl} : Wk a b → Wk (s :: a) (s_ :: b)
theorem Wk.refl : ∀ (l : List Sl), Wk l l
  | [] => .nil
  | _ :: r => .same (Wk.refl r)
theorem Wk.ok {F : Hp} : ∀ {a b : List Sl} {σ : L2.St}, Wk a b → Paired (fun o (s : Sl) => s.ok F o) σ a → Paired (fun o (s : Sl) => s.ok F o) σ b
  | _, _, _, .nil, h => h
  | _, _, _, .same w, .cons k t => .cons k (w.ok t)
  | _, _, _, .drop w, .cons k t => .cons trivial (w.ok t)

section
variable {F0 H0 : Hp} {L L' : List Sl} {M M' : Ms} {K : PySem.W.Frag} {ta tb te : TE} {t u : TT} {P : L2.St → Hp → Prop} {D : Ends} {t1 t2 ts : TS}
variable {α β γ : Type} {r : Rl α} {q : Rl β} {x : α} {y : β}
theorem Go.weak (w : Wk L L') (h : Go F0 H0 L' M P) : Go F0 H0 L M P := fun σ H ⟨F, S⟩ => h σ H ⟨F, S.to (w.ok S.l)⟩
theorem Go.less (w : M'.Sublist M) (h : Go F0 H0 L M' P) : Go F0 H0 L M P := fun σ H ⟨F, S⟩ => h σ H ⟨F, S.less w⟩
theorem Go.perm (w : M'.Perm M) (h : Go F0 H0 L M' P) : Go F0 H0 L M P := fun σ H ⟨F, S⟩ => h σ H ⟨F, S.perm w⟩
theorem Go.to (e : L = L') (h : Go F0 H0 L' M P) : Go F0 H0 L M P := e ▸ h
theorem go_seq (h : Go F0 H0 L M (t1 { D with nx := t2 D })) : Go F0 H0 L M (tSeq t1 t2 D) := h
theorem go_next (h : Go F0 H0 L M D.nx) : Go F0 H0 L M (tNext D) := h
theorem go_brk (h : Go F0 H0 L M D.bk) : Go F0 H0 L M (tBreak D) := h
theorem go_cont (h : Go F0 H0 L M D.ct) : Go F0 H0 L M (tCont D) := h
theorem go_set {i : Nat} {Pv : α → Prop} (h : Evn F0 H0 L M te r Pv) (k : ∀ x, Pv x → Go F0 H0 (L.set i (sl r x)) M D.nx) : Go F0 H0 L M (tAsg te (gName i) D) := fun σ H ⟨F, S⟩ =>
  h σ H F S _ fun x v H' F' p S' s' k' => k x p _ _ ⟨F', S'.set ⟨v, rfl, k'⟩⟩
theorem go_setM {i : Nat} {mo : β → Mo} {Pv : β → Prop} (h : EvMn F0 H0 L M te mo Pv) (k : ∀ x p, Pv x → Go F0 H0 (L.set i (sl rV (.ref p))) ((p, mo x) :: M) D.nx) : Go F0 H0 L M (tAsg te (gName i) D) := fun σ H ⟨F, S⟩ =>
  h σ H F S _ fun x p H' F' e S' s' => k x p e _ _ ⟨F', S'.set ⟨_, rfl, rfl⟩⟩
theorem go_drop {Pv : α → Prop} (h : Evn F0 H0 L M te r Pv) (k : Go F0 H0 L M D.nx) : Go F0 H0 L M (tDrop te D) := fun σ H ⟨F, S⟩ =>
  h σ H F S _ fun x v H' F' p S' s' k' => k _ _ ⟨F', S'⟩
theorem go_if {c : TT} {b : Bool} (h : EvT F0 H0 L M c b) (h1 : b = true → Go F0 H0 L M (t1 D)) (h2 : b = false → Go F0 H0 L M (t2 D)) : Go F0 H0 L M (tIfS c t1 t2 D) := fun σ H ⟨F, S⟩ =>
  h σ H F S _ fun H' F' S' s' => by
    cases b with
    | true => exact h1 rfl σ H' ⟨F', S'⟩
    | false => exact h2 rfl σ H' ⟨F', S'⟩
theorem go_ret {Q : VK} {post Pv : β → Prop} (hQ : Rt F0 H0 q post Q) (h : Evn F0 H0 L M te q Pv) (hp : ∀ y, Pv y → post y) (e : D.rt = Q) : Go F0 H0 L M (tRet te D) := fun σ H ⟨F, S⟩ =>
  h σ H F S _ fun y v H' F' p S' s' k' => by
    rw [e]
    exact hQ y v H' F' (hp y p) S'.g S'.s k'
theorem go_retM {Q : VK} {post Pv : β → Prop} {mo : β → Mo} (hQ : RtM F0 H0 mo post Q) (h : EvMn F0 H0 L M te mo Pv) (hp : ∀ y, Pv y → post y) (e : D.rt = Q) : Go F0 H0 L M (tRet te D) := fun σ H ⟨F, S⟩ =>
  h σ H F S _ fun y p H' F' k S' s' => by
    rw [e]
    obtain ⟨z1, z2, z3⟩ := S'.m _ List.mem_cons_self
    exact hQ y p H' F' (hp y k) S'.g S'.s z1 z2 z3
/-- a variable that holds an object that changes is handed back -/
theorem go_retV {Q : VK} {post : β → Prop} {mo : β → Mo} {i j : Nat} {p : Addr} (hQ : RtM F0 H0 mo post Q) (hi : L[i]? = some (sl rV (.ref p))) (hj : M[j]? = some (p, mo y)) (hp : post y) (e : D.rt = Q) : Go F0 H0 L M (tRet (tVar i) D) := fun σ H ⟨F, S⟩ => by
  obtain ⟨o, ho, v, rfl, rfl⟩ := pget S.l hi
  refine ⟨.ref p, ho, ?_⟩
  rw [e]
  obtain ⟨z1, z2, z3⟩ := S.m _ (mem_at hj)
  exact hQ y p H F hp S.g S.s z1 z2 z3
/-- an object that changes will not any more; slots that hold it are told anew -/
theorem go_frz {p : Addr} {mo : Mo} {i : Nat} {r : Rl α} {x : α} (hm : M.Perm ((p, mo) :: M')) (hi : L[i]? = some (sl rV (.ref p))) (f : ∀ F F' o, mo.ok F o → Same F F' → F' p = some o → r.ok F' (.ref p) x)
    (h : Go F0 H0 (L.set i (sl r x)) M' P) : Go F0 H0 L M P := fun σ H ⟨F, S⟩ => by
  obtain ⟨o, ho, ko, fp, S2⟩ := (S.perm hm.symm).frz
  have sf : Same F (upd F p o) := same_new fp
  refine h σ H ⟨upd F p o, ?_⟩
  have k := f F _ o ko sf upd_same
  obtain ⟨w, hw, v, rfl, rfl⟩ := pget S.l hi
  have e : σ = σ.set i (some (.ref p)) := by
    apply List.ext_getElem?
    intro j
    by_cases z : i = j
    · subst z
      rw [List.getElem?_set_self (List.getElem?_eq_some_iff.mp hw).1]
      exact hw
    · rw [List.getElem?_set_ne z]
  rw [e]
  exact S2.set ⟨_, rfl, k⟩
theorem frzL {p : Addr} {xs : List α} : ∀ F F' o, (mL r xs).ok F o → Same F F' → F' p = some o → (rL r).ok F' (.ref p) xs := fun F F' o ⟨vs, e, pr⟩ s h => by
  subst e
  exact ⟨p, vs, rfl, h, Paired.imp pr fun _ _ z => r.mono s z⟩
theorem frzK {p : Addr} {xs : List (Key × α)} : ∀ F F' o, (mK r xs).ok F o → Same F F' → F' p = some o → (rDK r).ok F' (.ref p) xs := fun F F' o ⟨vs, e, pr⟩ s h => by
  subst e
  exact ⟨p, vs, rfl, h, pk_mono s pr⟩

/-! ### list.append -/
theorem tyL {H : Hp} {p : Addr} {vs : List V} (h : H p = some (.lst vs)) : tyV K "list" (.ref p) H := .inl ⟨rfl, vs, SqL.of h⟩
theorem go_app {i j : Nat} {p : Addr} {xs : List α} {Pv : α → Prop} (hi : L[i]? = some (sl rV (.ref p))) (hj : M[j]? = some (p, mL r xs)) (h : Evn F0 H0 L M te r Pv) (hz : xs.length < sizeLine)
    (k : ∀ x, Pv x → Go F0 H0 L (M.set j (p, mL r (xs ++ [x]))) D.nx) : Go F0 H0 L M (tDrop (tBM K "list" rAppend (tVar i) (tCons te tNil)) D) := fun σ H ⟨F, S⟩ => by
  obtain ⟨o, ho, v, rfl, rfl⟩ := pget S.l hi
  refine ⟨.ref p, ho, ?_⟩
  obtain ⟨_, _, _, e, ws, rfl, pr⟩ := S.m _ (mem_at hj)
  refine ⟨tyL e, ?_⟩
  refine h σ H F S _ fun x v H1 F1 e1 S1 s1 k1 => ?_
  obtain ⟨_, _, _, e', ws', rfl, pr'⟩ := S1.m _ (mem_at hj)
  exact ⟨p, ws', v, rfl, rfl, e', by rw [pr'.length]; exact hz, k x e1 _ _ ⟨F1, S1.chg hj ⟨_, rfl, papp pr' (.cons k1 .nil)⟩⟩⟩

/-! ### targets -/
def TgOk (F0 H0 : Hp) (M : Ms) (g : TG) (r : Rl α) (x : α) (L L' : List Sl) : Prop :=
  ∀ σ H F v, Sta F0 H0 L M σ H F → r.ok F v x → ∀ Q : L2.St → Hp → Prop, (∀ σ', Sta F0 H0 L' M σ' H F → Q σ' H) → g v σ H Q
theorem tg_name {i : Nat} : TgOk F0 H0 M (gName i) r x L (L.set i (sl r x)) := fun σ H F v S k Q h => h _ (S.set ⟨v, rfl, k⟩)
theorem tg_pair {i j : Nat} {z : α × β} : TgOk F0 H0 M (gTup K 2 (gCons (gName i) (gCons (gName j) gNil))) (r2 r q) z L ((L.set i (sl r z.1)).set j (sl q z.2)) := fun σ H F v S k Q h => by
  obtain ⟨a, v1, v2, rfl, e, k1, k2⟩ := k
  exact ⟨a, [v1, v2], rfl, SqT.of (S.s _ _ e), rfl, v1, [v2], rfl, v2, [], rfl, rfl, h _ ((S.set (i := i) (s := sl r z.1) ⟨v1, rfl, k1⟩).set (i := j) (s := sl q z.2) ⟨v2, rfl, k2⟩)⟩
theorem go_asg {g : TG} {L' : α → List Sl} {Pv : α → Prop} (h : Evn F0 H0 L M te r Pv) (hg : ∀ x, Pv x → TgOk F0 H0 M g r x L (L' x)) (k : ∀ x, Pv x → Go F0 H0 (L' x) M D.nx) : Go F0 H0 L M (tAsg te g D) := fun σ H ⟨F, S⟩ =>
  h σ H F S _ fun x v H' F' p S' s' k' => hg x p σ H' F' v S' k' _ fun σ' S2 => k x p σ' H' ⟨F', S2⟩

/-! ### loops -/
theorem go_while {ι : Type} {c : TT} (I : ι → Prop) (μ : ι → Nat) (Li : ι → List Sl) (Mi : ι → Ms) (cb : ι → Bool) (b0 : ι) (i0 : I b0) (hc : ∀ b, I b → EvT F0 H0 (Li b) (Mi b) c (cb b))
    (hs : ∀ b, I b → cb b = true → ∀ N : L2.St → Hp → Prop, (∀ b', I b' → μ b' < μ b → Go F0 H0 (Li b') (Mi b') N) → Go F0 H0 (Li b) (Mi b) (ts { D with nx := N, ct := N, bk := D.nx }))
    (hd : ∀ b, I b → cb b = false → Go F0 H0 (Li b) (Mi b) D.nx) : Go F0 H0 (Li b0) (Mi b0) (tWhile c ts D) := fun σ H a =>
  ⟨fun m σ H => ∃ b, I b ∧ m = μ b ∧ At F0 H0 (Li b) (Mi b) σ H, ⟨_, b0, i0, rfl, a⟩, fun m σ H ⟨b, ib, em, F, S⟩ => by
    subst em
    refine hc b ib σ H F S _ fun H' F' S' s' => ?_
    cases e : cb b with
    | true => exact ⟨fun σ' H' => ∃ b', I b' ∧ μ b' < μ b ∧ At F0 H0 (Li b') (Mi b') σ' H', fun σ' H' ⟨b', i', l', a'⟩ => ⟨μ b', l', b', i', rfl, a'⟩, hs b ib e _ (fun b' i' l' σ' H' a' => ⟨b', i', l', a'⟩) σ H' ⟨F', S'⟩⟩
    | false => exact hd b ib e σ H' ⟨F', S'⟩⟩
theorem go_range {ι : Type} {tr : TA} {i n : Nat} (I : Nat → ι → Prop) (Li : ι → List Sl) (Mi : ι → Ms) (ha : EvA F0 H0 L M tr [sl rI (n : Int)]) (hn : (n : Int) < 2 ^ 62) (b0 : ι) (eL : Wk L (Li b0)) (eM : M = Mi b0) (i0 : I 0 b0)
    (hs : ∀ k b, k < n → I k b → ∀ N : L2.St → Hp → Prop, (∀ b', I (k + 1) b' → Go F0 H0 (Li b') (Mi b') N) → Go F0 H0 ((Li b).set i (sl rI (k : Int))) (Mi b) (ts { D with nx := N, ct := N, bk := D.nx }))
    (hd : ∀ b, I n b → Go F0 H0 (Li b) (Mi b) D.nx) : Go F0 H0 L M (tFor (iRng1 tr) (gName i) ts D) := fun σ H ⟨F, S⟩ =>
  ha σ H F S _ fun _ vs H1 F1 e1 S1 s1 k1 => by
    subst e1
    obtain ⟨v, rfl, rfl⟩ := args1 k1
    refine ⟨(n : Int), rfl, by omega, hn, for_range (lo := 0) (n := ((n : Int)).toNat) (fun k σ H => ∃ b, I k b ∧ At F0 H0 (Li b) (Mi b) σ H) ⟨b0, i0, F1, by subst eM; exact S1.to (eL.ok S1.l)⟩ (fun k σ H hk ⟨b, ib, F, S⟩ => ?_) (fun σ H ⟨b, ib, a⟩ => ?_)⟩
    · have hk' : k < n := by omega
      have e : (0 : Int) + (k : Int) = (k : Int) := by omega
      show ts _ (σ.set i (some (.int (0 + (k : Int))))) H
      rw [e]
      exact hs k b hk' ib _ (fun b' i' σ' H' a' => ⟨b', i', a'⟩) _ _ ⟨F, S.set ⟨_, rfl, rfl⟩⟩
    · have e : ((n : Int)).toNat = n := by omega
      rw [e] at ib
      exact hd b ib σ H a
/-- over a list that stands still -/
theorem go_forL {ι : Type} {g : TG} {xs : List α} (I : Nat → ι → Prop) (Li : ι → List Sl) (Lg : α → ι → List Sl) (Mi : ι → Ms) (hl : Ev F0 H0 L M te (rL r) xs) (b0 : ι) (eL : Wk L (Li b0)) (eM : M = Mi b0) (i0 : I 0 b0)
    (hg : ∀ F1 b x, TgOk F1 H0 (Mi b) g r x (Li b) (Lg x b))
    (hs : ∀ F1, Bs F0 H0 F1 → ∀ k b x, xs[k]? = some x → I k b → ∀ N : L2.St → Hp → Prop, (∀ b', I (k + 1) b' → Go F1 H0 (Li b') (Mi b') N) → (∀ P : L2.St → Hp → Prop, ∀ L M, Go F0 H0 L M P → Go F1 H0 L M P) → Go F1 H0 (Lg x b) (Mi b) (ts { D with nx := N, ct := N, bk := D.nx }))
    (hd : ∀ b, I xs.length b → Go F0 H0 (Li b) (Mi b) D.nx) : Go F0 H0 L M (tFor (iList K te) g ts D) := fun σ H ⟨F, S⟩ =>
  hl σ H F S _ fun _ v H1 F1 e1 S1 s1 k1 => by
    subst e1
    obtain ⟨a, vs, rfl, e, pr⟩ := k1
    have bs := S1.bs
    have hb := S1.base
    refine ⟨a, rfl, ⟨vs, SqL.of (S1.s _ _ e)⟩, for_list (K := K) (xs := vs) (fun k σ H => ∃ b, I k b ∧ At F1 H0 (Li b) (Mi b) σ H) ⟨b0, i0, F1, by subst eM; exact hb.to (eL.ok hb.l)⟩ (fun k σ H _ ⟨b, ib, F, S⟩ => SqL.of (S.s _ _ (S.g.f _ _ e))) (fun k v σ H hv ⟨b, ib, F, S⟩ => ?_) (fun σ H ⟨b, ib, F, S⟩ => ?_)⟩
    · obtain ⟨x, hx, kx⟩ := pget' pr hv
      refine hg F1 b x σ H F v S (r.mono S.g.f kx) _ fun σ' S' => ?_
      exact hs F1 bs k b x hx ib _ (fun b' i' σ' H' a' => ⟨b', i', a'⟩) (fun P L M h σ H ⟨F, S⟩ => h σ H ⟨F, S.unbase bs⟩) σ' H ⟨F, S'⟩
    · rw [pr.length] at ib
      exact hd b ib σ H ⟨F, S.unbase bs⟩
theorem go_forT {ι : Type} {g : TG} {xs : List α} (I : Nat → ι → Prop) (Li : ι → List Sl) (Lg : α → ι → List Sl) (Mi : ι → Ms) (hl : Ev F0 H0 L M te (rT r) xs) (b0 : ι) (eL : Wk L (Li b0)) (eM : M = Mi b0) (i0 : I 0 b0)
    (hg : ∀ F1 b x, TgOk F1 H0 (Mi b) g r x (Li b) (Lg x b))
    (hs : ∀ F1, Bs F0 H0 F1 → ∀ k b x, xs[k]? = some x → I k b → ∀ N : L2.St → Hp → Prop, (∀ b', I (k + 1) b' → Go F1 H0 (Li b') (Mi b') N) → (∀ P : L2.St → Hp → Prop, ∀ L M, Go F0 H0 L M P → Go F1 H0 L M P) → Go F1 H0 (Lg x b) (Mi b) (ts { D with nx := N, ct := N, bk := D.nx }))
    (hd : ∀ b, I xs.length b → Go F0 H0 (Li b) (Mi b) D.nx) : Go F0 H0 L M (tFor (iTup K te) g ts D) := fun σ H ⟨F, S⟩ =>
  hl σ H F S _ fun _ v H1 F1 e1 S1 s1 k1 => by
    subst e1
    obtain ⟨a, vs, rfl, e, pr⟩ := k1
    have bs := S1.bs
    have hb := S1.base
    refine ⟨a, rfl, ⟨vs, SqT.of (S1.s _ _ e)⟩, for_tup (K := K) (xs := vs) (fun k σ H => ∃ b, I k b ∧ At F1 H0 (Li b) (Mi b) σ H) ⟨b0, i0, F1, by subst eM; exact hb.to (eL.ok hb.l)⟩ (fun k σ H _ ⟨b, ib, F, S⟩ => SqT.of (S.s _ _ (S.g.f _ _ e))) (fun k v σ H hv ⟨b, ib, F, S⟩ => ?_) (fun σ H ⟨b, ib, F, S⟩ => ?_)⟩
    · obtain ⟨x, hx, kx⟩ := pget' pr hv
      refine hg F1 b x σ H F v S (r.mono S.g.f kx) _ fun σ' S' => ?_
      exact hs F1 bs k b x hx ib _ (fun b' i' σ' H' a' => ⟨b', i', a'⟩) (fun P L M h σ H ⟨F, S⟩ => h σ H ⟨F, S.unbase bs⟩) σ' H ⟨F, S'⟩
    · rw [pr.length] at ib
      exact hd b ib σ H ⟨F, S.unbase bs⟩

/-! ### comprehensions -/
/-- a comprehension's target over its own slots ws -/
def TgW (F0 H0 : Hp) (M : Ms) (g : TG) (r : Rl α) (x : α) (ws : List Nat) (L L' : List Sl) : Prop :=
  ∀ σ H F v, Sta F0 H0 L M σ H F → r.ok F v x → ∀ Q : L2.St → Hp → Prop, (∀ σ', wipe σ' ws = wipe σ ws → Sta F0 H0 L' M σ' H F → Q σ' H) → g v (wipe σ ws) H Q
theorem tw_name {i : Nat} : TgW F0 H0 M (gName i) r x [i] L (L.set i (sl r x)) := fun σ H F v S k Q h => by
  show Q ((σ.set i none).set i (some v)) H
  rw [List.set_set]
  refine h _ ?_ (S.set ⟨v, rfl, k⟩)
  show (σ.set i (some v)).set i none = σ.set i none
  rw [List.set_set]
theorem tw_pair {i j : Nat} (hij : i ≠ j) {z : α × β} : TgW F0 H0 M (gTup K 2 (gCons (gName i) (gCons (gName j) gNil))) (r2 r q) z [i, j] L ((L.set i (sl r z.1)).set j (sl q z.2)) := fun σ H F v S k Q h => by
  obtain ⟨a, v1, v2, rfl, e, k1, k2⟩ := k
  refine ⟨a, [v1, v2], rfl, SqT.of (S.s _ _ e), rfl, v1, [v2], rfl, v2, [], rfl, rfl, ?_⟩
  have e1 : (((σ.set j none).set i none).set i (some v1)).set j (some v2) = (σ.set i (some v1)).set j (some v2) := by
    rw [List.set_set, List.set_comm _ _ (Ne.symm hij), List.set_set]
  show Q ((((σ.set j none).set i none).set i (some v1)).set j (some v2)) H
  rw [e1]
  refine h _ ?_ ((S.set (i := i) (s := sl r z.1) ⟨v1, rfl, k1⟩).set (i := j) (s := sl q z.2) ⟨v2, rfl, k2⟩)
  show ((((σ.set i (some v1)).set j (some v2)).set j none).set i none) = (σ.set j none).set i none
  rw [List.set_set, List.set_comm _ _ (Ne.symm hij), List.set_set, List.set_comm _ _ hij]
theorem take_map_succ {f : α → β} {xs : List α} {k : Nat} {x : α} (h : xs[k]? = some x) : (xs.take (k + 1)).map f = (xs.take k).map f ++ [f x] := by
  rw [List.take_add_one, h, List.map_append]
  rfl
theorem comp_turn {ws : List Nat} {g : TG} {F1 : Hp} {Dd : Addr} {ys : List β} {σ : L2.St} {H F : Hp} {v : V} {L' : List Sl} {z : β} {Nx : Hp → Prop} {tE : TE}
    (S : Sta F1 H0 L ((Dd, mL q ys) :: M) σ H F) (kx : r.ok F v x) (hz : ys.length < sizeLine) (hg : TgW F1 H0 ((Dd, mL q ys) :: M) g r x ws L L') (he : Ev F1 H0 L' ((Dd, mL q ys) :: M) tE q z)
    (nx : ∀ H F, Sta F1 H0 L ((Dd, mL q (ys ++ [z])) :: M) σ H F → Nx H) :
    g v (wipe σ ws) H fun σ2 H2 => wipe σ2 ws = wipe σ ws ∧ tYes σ2 H2 fun b H3 => if b = true then tE σ2 H3 fun y H4 => ∃ acc, H4 Dd = some (.lst acc) ∧ acc.length < sizeLine ∧ Nx (upd H4 Dd (.lst (acc ++ [y]))) else Nx H3 := by
  refine hg σ H F v S kx _ fun σ2 hw S2 => ⟨hw, ?_⟩
  show (if true = true then (tE σ2 H fun y H4 => ∃ acc, H4 Dd = some (.lst acc) ∧ acc.length < sizeLine ∧ Nx (upd H4 Dd (.lst (acc ++ [y])))) else Nx H)
  rw [if_pos rfl]
  refine he σ2 H F S2 _ fun _ y H4 F4 e4 S4 s4 k4 => ?_
  subst e4
  obtain ⟨_, _, _, e', ws', rfl, pr'⟩ := S4.m _ List.mem_cons_self
  refine ⟨ws', e', by rw [pr'.length]; exact hz, nx _ F4 ?_⟩
  have S5 : Sta F1 H0 L ((Dd, mL q ys) :: M) σ H4 F4 := S4.to (S.slots s4)
  exact S5.chg (j := 0) rfl ⟨_, rfl, papp pr' (.cons k4 .nil)⟩
theorem ev_lcL {ws : List Nat} {g : TG} {xs : List α} {Lg : α → List Sl} {tE : TE} (f : α → β) (hl : Ev F0 H0 L M te (rL r) xs) (hz : xs.length ≤ sizeLine) (hg : ∀ F1 M' x, TgW F1 H0 M' g r x ws L (Lg x))
    (he : ∀ (F1 : Hp) (Dd : Addr) (ys : List β) (k : Nat) (x : α), xs[k]? = some x → Ev F1 H0 (Lg x) ((Dd, mL q ys) :: M) tE q (f x)) : EvM F0 H0 L M (tLc (iList K te) g tYes tE ws) (mL q (xs.map f)) := fun σ H F S Q k =>
  hl σ H F S _ fun _ v H1 F1 e1 S1 s1 k1 => by
    rw [show _ = xs from e1] at k1
    obtain ⟨a, vs, rfl, e, pr⟩ := k1
    have bs := S1.bs
    refine ⟨a, rfl, ⟨vs, SqL.of (S1.s _ _ e)⟩, fun Dd hD => lc_list (K := K) (xs := vs) (fun i H => ∃ F, Sta F1 H0 L ((Dd, mL q ((xs.take i).map f)) :: M) σ H F) ⟨F1, S1.base.nw hD ⟨[], rfl, .nil⟩⟩ (fun i H _ ⟨F, S⟩ => SqL.of (S.s _ _ (S.g.f _ _ e)))
      (fun i v H hv ⟨F, S⟩ => ?_) (fun H ⟨F, S⟩ => ?_)⟩
    · obtain ⟨x, hx, kx⟩ := pget' pr hv
      have hi : i < xs.length := (List.getElem?_eq_some_iff.mp hx).1
      refine comp_turn S (r.mono S.g.f kx) ?_ (hg F1 _ x) (he F1 Dd _ i x hx) fun H F S => ⟨F, ?_⟩
      · rw [List.length_map, List.length_take]; omega
      · rw [take_map_succ hx]; exact S
    · rw [pr.length, List.take_length] at S
      exact k () Dd H F trivial (S.unbase bs) (s1.trans S.g.f)
theorem ev_lcT {ws : List Nat} {g : TG} {xs : List α} {Lg : α → List Sl} {tE : TE} (f : α → β) (hl : Ev F0 H0 L M te (rT r) xs) (hz : xs.length ≤ sizeLine) (hg : ∀ F1 M' x, TgW F1 H0 M' g r x ws L (Lg x))
    (he : ∀ (F1 : Hp) (Dd : Addr) (ys : List β) (k : Nat) (x : α), xs[k]? = some x → Ev F1 H0 (Lg x) ((Dd, mL q ys) :: M) tE q (f x)) : EvM F0 H0 L M (tLc (iTup K te) g tYes tE ws) (mL q (xs.map f)) := fun σ H F S Q k =>
  hl σ H F S _ fun _ v H1 F1 e1 S1 s1 k1 => by
    rw [show _ = xs from e1] at k1
    obtain ⟨a, vs, rfl, e, pr⟩ := k1
    have bs := S1.bs
    refine ⟨a, rfl, ⟨vs, SqT.of (S1.s _ _ e)⟩, fun Dd hD => lc_tup (K := K) (xs := vs) (fun i H => ∃ F, Sta F1 H0 L ((Dd, mL q ((xs.take i).map f)) :: M) σ H F) ⟨F1, S1.base.nw hD ⟨[], rfl, .nil⟩⟩ (fun i H _ ⟨F, S⟩ => SqT.of (S.s _ _ (S.g.f _ _ e)))
      (fun i v H hv ⟨F, S⟩ => ?_) (fun H ⟨F, S⟩ => ?_)⟩
    · obtain ⟨x, hx, kx⟩ := pget' pr hv
      have hi : i < xs.length := (List.getElem?_eq_some_iff.mp hx).1
      refine comp_turn S (r.mono S.g.f kx) ?_ (hg F1 _ x) (he F1 Dd _ i x hx) fun H F S => ⟨F, ?_⟩
      · rw [List.length_map, List.length_take]; omega
      · rw [take_map_succ hx]; exact S
    · rw [pr.length, List.take_length] at S
      exact k () Dd H F trivial (S.unbase bs) (s1.trans S.g.f)
theorem ev_lcR {ws : List Nat} {g : TG} {tr : TA} {n : Nat} {Lg : Int → List Sl} {tE : TE} (f : Nat → β) (ha : EvA F0 H0 L M tr [sl rI (n : Int)]) (hz : n ≤ sizeLine) (hg : ∀ F1 M' x, TgW F1 H0 M' g rI x ws L (Lg x))
    (he : ∀ (F1 : Hp) (Dd : Addr) (ys : List β) (k : Nat), k < n → Ev F1 H0 (Lg (k : Int)) ((Dd, mL q ys) :: M) tE q (f k)) : EvM F0 H0 L M (tLc (iRng1 tr) g tYes tE ws) (mL q ((List.range n).map f)) := fun σ H F S Q k =>
  ha σ H F S _ fun _ vs H1 F1 e1 S1 s1 k1 => by
    subst e1
    obtain ⟨v, rfl, rfl⟩ := args1 k1
    have bs := S1.bs
    have hs : sizeLine = 16777216 := sizeLine_eq
    refine ⟨(n : Int), rfl, by omega, by omega, fun Dd hD => lc_range (lo := 0) (n := ((n : Int)).toNat) (fun i H => ∃ F, Sta F1 H0 L ((Dd, mL q ((List.range i).map f)) :: M) σ H F) ⟨F1, S1.base.nw hD ⟨[], rfl, .nil⟩⟩
      (fun i H hi ⟨F, S⟩ => ?_) (fun H ⟨F, S⟩ => ?_)⟩
    · have hi' : i < n := by omega
      have e : (0 : Int) + (i : Int) = (i : Int) := by omega
      rw [e]
      refine comp_turn (r := rI) (x := (i : Int)) S rfl ?_ (hg F1 _ _) (he F1 Dd _ i hi') fun H F S => ⟨F, ?_⟩
      · rw [List.length_map, List.length_range]; omega
      · rw [List.range_succ, List.map_append]; exact S
    · have e : ((n : Int)).toNat = n := by omega
      rw [e] at S
      exact k () Dd H F trivial (S.unbase bs) (s1.trans S.g.f)

/-! ### calls -/
def mkSp {β : Type} (r : Rl β) (S : List Sl → (β → Prop) → Prop) : Sp := fun vs H Q _ => ∃ F ars post, S ars post ∧ Same F H ∧ Paired (fun v (s : Sl) => s.ok F (some v)) vs ars ∧ Rt F H r post Q
def mkSpM {β : Type} (mo : β → Mo) (S : List Sl → (β → Prop) → Prop) : Sp := fun vs H Q _ => ∃ F ars post, S ars post ∧ Same F H ∧ Paired (fun v (s : Sl) => s.ok F (some v)) vs ars ∧ RtM F H mo post Q
theorem ev_call {S : List Sl → (β → Prop) → Prop} {E : XK} {tr : TA} {PA : List Sl → Prop} {Pv : β → Prop} (ha : EvAn F0 H0 L M tr PA) (h : ∀ ars, PA ars → ∃ post, S ars post ∧ ∀ y, post y → Pv y) : Evn F0 H0 L M (tCall (mkSp q S) [] E tr) q Pv := fun σ H F St Q k =>
  ha σ H F St _ fun ars vs H1 F1 pa S1 s1 k1 => by
    obtain ⟨post, hS, hp⟩ := h ars pa
    show mkSp q S (vs ++ []) H1 Q E
    rw [List.append_nil]
    exact ⟨F1, ars, post, hS, S1.s, k1, fun y v H' F' py g s ky => k y v H' F' (hp y py) (S1.grow g s) (s1.trans g.f) ky⟩
theorem ev_callM {S : List Sl → (β → Prop) → Prop} {mo : β → Mo} {E : XK} {tr : TA} {PA : List Sl → Prop} {Pv : β → Prop} (ha : EvAn F0 H0 L M tr PA) (h : ∀ ars, PA ars → ∃ post, S ars post ∧ ∀ y, post y → Pv y) : EvMn F0 H0 L M (tCall (mkSpM mo S) [] E tr) mo Pv := fun σ H F St Q k =>
  ha σ H F St _ fun ars vs H1 F1 pa S1 s1 k1 => by
    obtain ⟨post, hS, hp⟩ := h ars pa
    show mkSpM mo S (vs ++ []) H1 Q E
    rw [List.append_nil]
    refine ⟨F1, ars, post, hS, S1.s, k1, fun y p H' F' py g s fp hp0 ⟨o, ho, ko⟩ => k y p H' F' (hp y py) ?_ (s1.trans g.f)⟩
    obtain ⟨_, n2, n3⟩ := S1.new0 hp0
    exact (S1.grow g s).cons fp n2 n3 ho ko
/-- the new object will not change -/
theorem evn_frz {mo : β → Mo} {Pv : β → Prop} {r : Rl β} (h : EvMn F0 H0 L M te mo Pv) (f : ∀ F F' p o y, (mo y).ok F o → Same F F' → F' p = some o → r.ok F' (.ref p) y) : Evn F0 H0 L M te r Pv := fun σ H F S Q k =>
  h σ H F S Q fun y p H' F' py S' s' => by
    obtain ⟨o, ho, ko, fp, S2⟩ := S'.frz
    have sf : Same F' (upd F' p o) := same_new fp
    exact k y _ H' _ py S2 (s'.trans sf) (f F' _ p o y ko sf upd_same)
theorem evn_frzL {Pv : List α → Prop} (h : EvMn F0 H0 L M te (mL r) Pv) : Evn F0 H0 L M te (rL r) Pv := evn_frz h fun F F' p o y ⟨vs, e, pr⟩ s h => by
  subst e
  exact ⟨p, vs, rfl, h, Paired.imp pr fun _ _ z => r.mono s z⟩
end

/-! ### a def -/
theorem start_ok {F H : Hp} {vs : List V} {ars : List Sl} {N : List Str} (s : Same F H) (k : Paired (fun v (s : Sl) => s.ok F (some v)) vs ars) : Sta F H (ars ++ List.replicate (N.length - ars.length) s_) [] (start N vs) H F := by
  refine ⟨Gr.refl, s, ?_, fun q hq => (nomatch hq), List.nodup_nil⟩
  unfold L2.start
  rw [k.length]
  refine papp ?_ ?_
  · clear s
    induction k with
    | nil => exact .nil
    | cons a _ ih => exact .cons a ih
  · generalize N.length - ars.length = n
    induction n with
    | zero => exact .nil
    | succ n ih => exact .cons trivial ih
section
variable {P : Program} {w : World} {K : PySem.W.Frag} {mg : Str → Option Value} {base : Heap}
theorem def_ok {β : Type} {q : Rl β} {x qual : Str} {st : Stmt} {f : Addr} {fd : FuncData} {N ps : List Str} {k : Nat} {S : List Sl → (β → Prop) → Prop} (F : Fun K x qual st f fd) (Sc : FnScope N ps (defScope st)) (len : ∀ ars post, S ars post → ars.length = ps.length)
    (hbody : ∀ (cdv : Value) (A : Around) (outer : List Env) (s : Shared) (H : Hp) (E : XK), Room k (A.deeper (envOfC qual (defScope st) s.heap.objs.size f cdv)) →
      ∃ t, PSs (cxOf CX0 P w K mg base N qual (defScope st) f cdv A outer s H E).nox (defBody st) t ∧
        ∀ F0 ars post (Q : VK), S ars post → Rt F0 H q post Q → Go F0 H (ars ++ List.replicate (N.length - ars.length) s_) [] (t { nx := fun _ H' => Q .non H', rt := Q })) : FnOk P w K mg base CX0 (k + 1) f fd ps (mkSp q S) := by
  refine F.ok Sc (fun vs H Q E ⟨F, ars, post, hS, s, k, _⟩ => ?_) (fun cdv A outer s H vs Q E hr h => ?_)
  · rw [k.length]; exact len _ _ hS
  · obtain ⟨F0, ars, post, hS, sf, k1, hQ⟩ := h
    obtain ⟨t, ht, go⟩ := hbody cdv A outer s H E hr
    exact ⟨t, ht, go F0 ars post Q hS hQ _ _ ⟨F0, start_ok sf k1⟩⟩
theorem def_okM {β : Type} {mo : β → Mo} {x qual : Str} {st : Stmt} {f : Addr} {fd : FuncData} {N ps : List Str} {k : Nat} {S : List Sl → (β → Prop) → Prop} (F : Fun K x qual st f fd) (Sc : FnScope N ps (defScope st)) (len : ∀ ars post, S ars post → ars.length = ps.length)
    (hbody : ∀ (cdv : Value) (A : Around) (outer : List Env) (s : Shared) (H : Hp) (E : XK), Room k (A.deeper (envOfC qual (defScope st) s.heap.objs.size f cdv)) →
      ∃ t, PSs (cxOf CX0 P w K mg base N qual (defScope st) f cdv A outer s H E).nox (defBody st) t ∧
        ∀ F0 ars post (Q : VK), S ars post → RtM F0 H mo post Q → Go F0 H (ars ++ List.replicate (N.length - ars.length) s_) [] (t { nx := fun _ H' => Q .non H', rt := Q })) : FnOk P w K mg base CX0 (k + 1) f fd ps (mkSpM mo S) := by
  refine F.ok Sc (fun vs H Q E ⟨F, ars, post, hS, s, k, _⟩ => ?_) (fun cdv A outer s H vs Q E hr h => ?_)
  · rw [k.length]; exact len _ _ hS
  · obtain ⟨F0, ars, post, hS, sf, k1, hQ⟩ := h
    obtain ⟨t, ht, go⟩ := hbody cdv A outer s H E hr
    exact ⟨t, ht, go F0 ars post Q hS hQ _ _ ⟨F0, start_ok sf k1⟩⟩
end

end T

namespace T
open PySem PySem.Spec PyProof.Rows L2
/-! ### rules that serve several types -/
abbrev rAddA : R2 := fun x y H Q => (rI0 fun i j => .int (i + j)) x y H Q ∨ rCat x y H Q
abbrev rMulA : R2 := fun x y H Q => (L2.rI CMul fun i j => .int (i * j)) x y H Q ∨ rRep x y H Q
abbrev rEqA (K : PySem.W.Frag) : R2 := fun x y H Q => rEq x y H Q ∨ rEqD K x y H Q
abbrev rNeA (K : PySem.W.Frag) : R2 := fun x y H Q => rNe x y H Q ∨ rNeD K x y H Q
abbrev iSeq (K : PySem.W.Frag) (te : TE) : TI := fun σ H R => iList K te σ H R ∨ iTup K te σ H R
theorem op_addA {X : Cx} : OpR X (binaryOp .Add) rAddA := op_add.or op_cat
theorem op_mulA {X : Cx} : OpR X (binaryOp .Mult) rMulA := op_mul.or op_rep
theorem op_eqA {X : Cx} (hu : X.A.units + 64 < cLine) : OpR X (compareOp .Eq) (rEqA X.K) := op_eq.or (op_eqD hu)
theorem op_neA {X : Cx} (hu : X.A.units + 64 < cLine) : OpR X (compareOp .NotEq) (rNeA X.K) := op_ne.or (op_neD hu)
theorem pi_seq {X : Cx} {tg l : Expr} {tl : TE} (hl : PE X l tl) : PI X tg l (iSeq X.K tl) := ⟨fun pins s σ H R I h => by
  rcases h with h | h
  · exact (pi_list hl).run pins s σ H R I h
  · exact (pi_tup hl).run pins s σ H R I h⟩

/-! ### {(a, b): v} -/
def tDisp1T (tk tv : TE) : TE := fun σ H Q => ∀ p, H p = none → tk σ (upd H p (.dT [])) fun x H1 => tv σ H1 fun y H2 => H2 p = some (.dT []) ∧ ∃ b k, x = .ref b ∧ H2 b = some (.tup (k.map kV)) ∧ Q (.ref p) (upd H2 p (.dT [(k, y)]))
theorem pe_disp1T {X : Cx} {pos : Pos} {k v : Expr} {tk tv : TE} (hu : X.A.units + 1 < cLine) (hk : PE X k tk) (hv : PE X v tv) : PE X (.Dict [some k] [v] pos) (tDisp1T tk tv) := by
  refine ⟨fun pins s σ H Q I q => ?_⟩
  have hn := I.hok.fresh (Nat.le_refl s.heap.objs.size)
  have I1 := I.laid (a := s.heap.objs.size) (o := .dT []) (h' := s.heap.push { cls := .type "dict", data := .dict #[] }) (t' := s.toks) (fun _ _ q => Heap.get?_push_of_some _ q) (Nat.le_refl _) (dt_empty s.heap I.big)
  refine wpAny_Dict_any rfl rfl (by simp) (by simp) ?_
  refine pairTrees_cons_walk (thn (hk.run pins _ σ _ _ I1 (q _ hn)) fun u s1 ⟨x, H1, I2, rx, q1⟩ => thn (hv.run pins s1 σ H1 _ I2 q1) fun w2 s2 ⟨y, H2, I3, ry, q2⟩ => pairTrees_nil_walk ?_)
  obtain ⟨e, b, ks, ex, eb, q2⟩ := q2
  subst ex
  cases (show u = Value.ref b from rx)
  obtain ⟨z, hd, xs, rel, dd⟩ := dt_of I3.hok e
  have e0 : xs = [] := by cases rel; rfl
  subst e0
  unfold storeAll
  rw [List.forIn_cons]
  refine wpAny_bind (wpAny_bind (wpAny_dictSet_heap (hsz := Nat.zero_le _) (show (tupleKind (mixKind X.prog X.w)).room X.A from Nat.lt_of_succ_lt hu) (key_of I3.hok eb) dd fun h' dd' hs => wpAny_pure ?_))
  dsimp only
  rw [List.forIn_nil]
  refine wpAny_pure ⟨.ref s.heap.objs.size, _, ?_, rfl, q2⟩
  obtain ⟨o, es, ep, hq, h2, h3, h4, _, h5⟩ := dd'
  have rel' : KT H2 [(ks, y)] (storedH [] ks b w2) := (rel.put ks eb ry)
  refine d_write I3 (by rw [e]; exact True.intro) hs ⟨o, hq⟩ ⟨by show 1 ≤ sizeLine; decide, hd, _, rel'.keeps fun c ys ec => ?_, o, es, ep, hq, h2, h3, h4, h5⟩
  rw [upd_ne (ne_of ec e (fun z => nomatch z))]
  exact ec

/-! ### dicts -/
section
variable {κ α β : Type} [DecidableEq κ]
def dget (xs : List (κ × α)) (k : κ) : Option α := (xs.find? fun kv => decide (kv.1 = k)).map (·.2)
theorem dget_nil {k : κ} : dget ([] : List (κ × α)) k = none := rfl
theorem dget_cons {p : κ × α} {r : List (κ × α)} {k : κ} : dget (p :: r) k = if p.1 = k then some p.2 else dget r k := by
  unfold dget
  rw [List.find?_cons]
  by_cases e : p.1 = k
  · simp [e]
  · simp [e]
theorem dget_app {xs ys : List (κ × α)} {k : κ} : dget (xs ++ ys) k = (dget xs k).or (dget ys k) := by
  induction xs with
  | nil => rfl
  | cons p r ih =>
    rw [List.cons_append, dget_cons, dget_cons, ih]
    by_cases e : p.1 = k
    · simp [e]
    · simp [e]
theorem dget_pk {r : Rl α} {F : Hp} : ∀ {kvs : List (κ × V)} {xs : List (κ × α)} (k : κ), Paired (pk r F) kvs xs → (dget xs k = none ∧ valV kvs k = none) ∨ ∃ x v, dget xs k = some x ∧ valV kvs k = some v ∧ r.ok F v x
  | _, _, k, .nil => .inl ⟨rfl, rfl⟩
  | (a, v) :: kvs, (b, x) :: xs, k, .cons h t => by
    obtain ⟨h1, h2⟩ := h
    have h1 : a = b := h1
    subst h1
    rw [dget_cons]
    by_cases e : a = k
    · exact .inr ⟨x, v, by simp [e], valV_pos (p := (a, v)) e, h2⟩
    · rw [valV_neg (p := (a, v)) e, if_neg e]
      exact dget_pk k t
end
section
variable {F0 H0 : Hp} {L L' : List Sl} {M M' : Ms} {K : PySem.W.Frag} {ta tb te tk tv : TE} {D : Ends}
variable {α β γ : Type} {r : Rl α} {q : Rl β} {x : α} {y : β}
/-- a value that is a key: an int, or a pair of ints -/
theorem key2 {F : Hp} {v : V} {i j : Int} (h : (r2 rI rI).ok F v (i, j)) : ∃ b, v = .ref b ∧ F b = some (.tup (([Sum.inl i, Sum.inl j] : List Key).map kV)) := by
  obtain ⟨b, v1, v2, e, h, e1, e2⟩ := h
  cases e1; cases e2
  exact ⟨b, e, h⟩
theorem ev_dgetM2 {p : Addr} {jj : Nat} {xs : List (List Key × α)} {i j : Int} {y : α} (hd : Ev F0 H0 L M ta rV (.ref p)) (hj : M[jj]? = some (p, mD r xs)) (hk : Ev F0 H0 L M tk (r2 rI rI) (i, j)) (hg : dget xs [Sum.inl i, Sum.inl j] = some y) : Ev F0 H0 L M (tDGet ta tk) r y := fun σ H F S Q k =>
  hd σ H F S _ fun _ v H1 F1 e1 S1 s1 k1 => hk σ H1 F1 S1 _ fun z w H2 F2 e2 S2 s2 k2 => by
    rw [show z = (i, j) from e2] at k2
    subst e1
    cases k1
    obtain ⟨b, rfl, eb⟩ := key2 k2
    obtain ⟨_, _, o, e, kvs, rfl, pr⟩ := S2.m _ (mem_at hj)
    rcases dget_pk [Sum.inl i, Sum.inl j] pr with ⟨n, _⟩ | ⟨x, v, g1, g2, g3⟩
    · rw [hg] at n; cases n
    · rw [hg] at g1
      cases g1
      exact ⟨p, v, rfl, by rw [← g2]; exact DGet.t e (S2.s _ _ eb), k y v H2 F2 rfl S2 (s1.trans s2) g3⟩
theorem ev_dnotM2 {p : Addr} {jj : Nat} {xs : List (List Key × α)} {i j : Int} (hj : M[jj]? = some (p, mD r xs)) (hk : Ev F0 H0 L M tk (r2 rI rI) (i, j)) (hd : Ev F0 H0 L M ta rV (.ref p)) : Ev F0 H0 L M (tDNotIn tk ta) rB (dget xs [Sum.inl i, Sum.inl j]).isNone := fun σ H F S Q k =>
  hk σ H F S _ fun z w H1 F1 e1 S1 s1 k1 => hd σ H1 F1 S1 _ fun _ v H2 F2 e2 S2 s2 k2 => by
    rw [show z = (i, j) from e1] at k1
    subst e2
    cases k2
    obtain ⟨b, rfl, eb⟩ := key2 k1
    obtain ⟨_, _, o, e, kvs, rfl, pr⟩ := S2.m _ (mem_at hj)
    refine ⟨p, _, rfl, DGet.t e (S2.s _ _ (s2 _ _ eb)), ?_⟩
    rcases dget_pk [Sum.inl i, Sum.inl j] pr with ⟨n1, n2⟩ | ⟨x, v, g1, g2, g3⟩
    · rw [n2]
      refine k _ _ H2 F2 rfl S2 (s1.trans s2) ?_
      rw [n1]
      rfl
    · rw [g2]
      refine k _ _ H2 F2 rfl S2 (s1.trans s2) ?_
      rw [g1]
      rfl
theorem go_dputM2 {p : Addr} {jj : Nat} {xs : List (List Key × α)} {i j : Int} {y : α} (hv : Ev F0 H0 L M tv r y) (hd : Ev F0 H0 L M ta rV (.ref p)) (hj : M[jj]? = some (p, mD r xs)) (hk : Ev F0 H0 L M tk (r2 rI rI) (i, j)) (hg : dget xs [Sum.inl i, Sum.inl j] = none) (hz : xs.length < sizeLine)
    (k : Go F0 H0 L (M.set jj (p, mD r (xs ++ [([Sum.inl i, Sum.inl j], y)]))) D.nx) : Go F0 H0 L M (sDPut ta tk tv D) := fun σ H ⟨F, S⟩ =>
  hv σ H F S _ fun z u H1 F1 e1 S1 s1 k1 => hd σ H1 F1 S1 _ fun _ v H2 F2 e2 S2 s2 k2 => hk σ H2 F2 S2 _ fun z' w H3 F3 e3 S3 s3 k3 => by
    rw [show z = y from e1] at k1
    rw [show z' = (i, j) from e3] at k3
    subst e2
    cases k2
    obtain ⟨b, rfl, eb⟩ := key2 k3
    obtain ⟨_, _, o, e, kvs, rfl, pr⟩ := S3.m _ (mem_at hj)
    refine ⟨p, _, rfl, DPut.t e (S3.s _ _ eb) (by rw [pr.length]; exact hz), ?_⟩
    rcases dget_pk [Sum.inl i, Sum.inl j] pr with ⟨n1, n2⟩ | ⟨x, v, g1, g2, g3⟩
    · rw [putK_new _ n2]
      exact k σ _ ⟨F3, S3.chg hj ⟨_, rfl, papp pr (.cons ⟨rfl, r.mono (s2.trans s3) k1⟩ .nil)⟩⟩
    · rw [hg] at g1; cases g1
theorem ev_disp1T {i j : Int} {y : α} (hk : ∀ M, Ev F0 H0 L M tk (r2 rI rI) (i, j)) (hv : ∀ M, Ev F0 H0 L M tv r y) : EvM F0 H0 L M (tDisp1T tk tv) (mD r [([Sum.inl i, Sum.inl j], y)]) := fun σ H F S Q k p hp => by
  have S1 : Sta F0 H0 L ((p, mD r []) :: M) σ (upd H p (.dT [])) F := S.nw hp ⟨[], rfl, .nil⟩
  refine hk _ σ _ F S1 _ fun z w H1 F1 e1 S1 s1 k1 => hv _ σ H1 F1 S1 _ fun z' w' H2 F2 e2 S2 s2 k2 => ?_
  rw [show z = (i, j) from e1] at k1
  rw [show z' = y from e2] at k2
  obtain ⟨b, rfl, eb⟩ := key2 k1
  obtain ⟨_, _, o, e, kvs, rfl, pr⟩ := S2.m _ List.mem_cons_self
  cases pr
  exact ⟨e, b, _, rfl, S2.s _ _ (s2 _ _ eb), k () p _ F2 trivial (S2.chg (j := 0) rfl ⟨_, rfl, .cons ⟨rfl, k2⟩ .nil⟩) (s1.trans s2)⟩
/-- int keys -/
theorem ev_dgetM1 {p : Addr} {jj : Nat} {xs : List (Key × α)} {i : Int} {y : α} (hd : Ev F0 H0 L M ta rV (.ref p)) (hj : M[jj]? = some (p, mK r xs)) (hk : Ev F0 H0 L M tk rI i) (hg : dget xs (Sum.inl i) = some y) : Ev F0 H0 L M (tDGet ta tk) r y := fun σ H F S Q k =>
  hd σ H F S _ fun _ v H1 F1 e1 S1 s1 k1 => hk σ H1 F1 S1 _ fun z w H2 F2 e2 S2 s2 k2 => by
    rw [show z = i from e2] at k2
    subst e1
    cases k1
    cases k2
    obtain ⟨_, _, o, e, kvs, rfl, pr⟩ := S2.m _ (mem_at hj)
    rcases dget_pk (Sum.inl i) pr with ⟨n, _⟩ | ⟨x, v, g1, g2, g3⟩
    · rw [hg] at n; cases n
    · rw [hg] at g1
      cases g1
      exact ⟨p, v, rfl, by rw [← g2]; exact DGet.k (k := Sum.inl i) e, k y v H2 F2 rfl S2 (s1.trans s2) g3⟩
theorem ev_dnotM1 {p : Addr} {jj : Nat} {xs : List (Key × α)} {i : Int} (hj : M[jj]? = some (p, mK r xs)) (hk : Ev F0 H0 L M tk rI i) (hd : Ev F0 H0 L M ta rV (.ref p)) : Ev F0 H0 L M (tDNotIn tk ta) rB (dget xs (Sum.inl i)).isNone := fun σ H F S Q k =>
  hk σ H F S _ fun z w H1 F1 e1 S1 s1 k1 => hd σ H1 F1 S1 _ fun _ v H2 F2 e2 S2 s2 k2 => by
    rw [show z = i from e1] at k1
    subst e2
    cases k2
    cases k1
    obtain ⟨_, _, o, e, kvs, rfl, pr⟩ := S2.m _ (mem_at hj)
    refine ⟨p, _, rfl, DGet.k (k := Sum.inl i) e, ?_⟩
    rcases dget_pk (Sum.inl i) pr with ⟨n1, n2⟩ | ⟨x, v, g1, g2, g3⟩
    · rw [n2]
      refine k _ _ H2 F2 rfl S2 (s1.trans s2) ?_
      rw [n1]
      rfl
    · rw [g2]
      refine k _ _ H2 F2 rfl S2 (s1.trans s2) ?_
      rw [g1]
      rfl
theorem ev_dinM1 {p : Addr} {jj : Nat} {xs : List (Key × α)} {i : Int} (hj : M[jj]? = some (p, mK r xs)) (hk : Ev F0 H0 L M tk rI i) (hd : Ev F0 H0 L M ta rV (.ref p)) : Ev F0 H0 L M (tDIn tk ta) rB (dget xs (Sum.inl i)).isSome := fun σ H F S Q k =>
  hk σ H F S _ fun z w H1 F1 e1 S1 s1 k1 => hd σ H1 F1 S1 _ fun _ v H2 F2 e2 S2 s2 k2 => by
    rw [show z = i from e1] at k1
    subst e2
    cases k2
    cases k1
    obtain ⟨_, _, o, e, kvs, rfl, pr⟩ := S2.m _ (mem_at hj)
    refine ⟨p, _, rfl, DGet.k (k := Sum.inl i) e, ?_⟩
    rcases dget_pk (Sum.inl i) pr with ⟨n1, n2⟩ | ⟨x, v, g1, g2, g3⟩
    · rw [n2]
      refine k _ _ H2 F2 rfl S2 (s1.trans s2) ?_
      rw [n1]
      rfl
    · rw [g2]
      refine k _ _ H2 F2 rfl S2 (s1.trans s2) ?_
      rw [g1]
      rfl
theorem go_dputM1 {p : Addr} {jj : Nat} {xs : List (Key × α)} {i : Int} {y : α} (hv : Ev F0 H0 L M tv r y) (hd : Ev F0 H0 L M ta rV (.ref p)) (hj : M[jj]? = some (p, mK r xs)) (hk : Ev F0 H0 L M tk rI i) (hg : dget xs (Sum.inl i) = none) (hz : xs.length < sizeLine)
    (k : Go F0 H0 L (M.set jj (p, mK r (xs ++ [(Sum.inl i, y)]))) D.nx) : Go F0 H0 L M (sDPut ta tk tv D) := fun σ H ⟨F, S⟩ =>
  hv σ H F S _ fun z u H1 F1 e1 S1 s1 k1 => hd σ H1 F1 S1 _ fun _ v H2 F2 e2 S2 s2 k2 => hk σ H2 F2 S2 _ fun z' w H3 F3 e3 S3 s3 k3 => by
    rw [show z = y from e1] at k1
    rw [show z' = i from e3] at k3
    subst e2
    cases k2
    cases k3
    obtain ⟨_, _, o, e, kvs, rfl, pr⟩ := S3.m _ (mem_at hj)
    refine ⟨p, _, rfl, DPut.k (k := Sum.inl i) e (by rw [pr.length]; exact hz), ?_⟩
    rcases dget_pk (Sum.inl i) pr with ⟨n1, n2⟩ | ⟨x, v, g1, g2, g3⟩
    · rw [putK_new _ n2]
      exact k σ _ ⟨F3, S3.chg hj ⟨_, rfl, papp pr (.cons ⟨rfl, r.mono (s2.trans s3) k1⟩ .nil)⟩⟩
    · rw [hg] at g1; cases g1
/-- d.get(k) of a dict that stands still | that may change -/
theorem ev_dget1 {xs : List (Key × α)} {i : Int} (hr : ∀ F v x, r.ok F v x → v ≠ .non) (hd : Ev F0 H0 L M ta (rDK r) xs) (hk : Ev F0 H0 L M tk rI i) : Ev F0 H0 L M (tDGet1 ta tk) (rO r) (dget xs (Sum.inl i)) := fun σ H F S Q k =>
  hd σ H F S _ fun z v H1 F1 e1 S1 s1 k1 => by
    rw [show z = xs from e1] at k1
    obtain ⟨a, kvs, rfl, e, pr⟩ := k1
    refine ⟨a, rfl, .inl ⟨kvs, .inl (S1.s _ _ e)⟩, ?_⟩
    refine hk σ H1 F1 S1 _ fun z w H2 F2 e2 S2 s2 k2 => ?_
    rw [show z = i from e2] at k2
    cases k2
    refine ⟨_, DGet.k (k := Sum.inl i) (S2.s _ _ (s2 _ _ e)), ?_⟩
    rcases dget_pk (Sum.inl i) pr with ⟨n1, n2⟩ | ⟨x, v, g1, g2, g3⟩
    · rw [n2]
      refine k _ _ H2 F2 rfl S2 (s1.trans s2) ?_
      rw [n1]
      rfl
    · rw [g2]
      refine k _ _ H2 F2 rfl S2 (s1.trans s2) ?_
      rw [g1]
      exact ⟨hr _ _ _ g3, r.mono s2 g3⟩
theorem ev_dgetG1 {p : Addr} {jj : Nat} {xs : List (Key × α)} {i : Int} (hr : ∀ F v x, r.ok F v x → v ≠ .non) (hd : Ev F0 H0 L M ta rV (.ref p)) (hj : M[jj]? = some (p, mK r xs)) (hk : Ev F0 H0 L M tk rI i) : Ev F0 H0 L M (tDGet1 ta tk) (rO r) (dget xs (Sum.inl i)) := fun σ H F S Q k =>
  hd σ H F S _ fun z v H1 F1 e1 S1 s1 k1 => by
    subst e1
    cases k1
    obtain ⟨_, _, o, e, kvs, rfl, pr⟩ := S1.m _ (mem_at hj)
    refine ⟨p, rfl, .inl ⟨kvs, .inl e⟩, ?_⟩
    refine hk σ H1 F1 S1 _ fun z w H2 F2 e2 S2 s2 k2 => ?_
    rw [show z = i from e2] at k2
    cases k2
    obtain ⟨_, _, o, e, kvs, rfl, pr⟩ := S2.m _ (mem_at hj)
    refine ⟨_, DGet.k (k := Sum.inl i) e, ?_⟩
    rcases dget_pk (Sum.inl i) pr with ⟨n1, n2⟩ | ⟨x, v, g1, g2, g3⟩
    · rw [n2]
      refine k _ _ H2 F2 rfl S2 (s1.trans s2) ?_
      rw [n1]
      rfl
    · rw [g2]
      refine k _ _ H2 F2 rfl S2 (s1.trans s2) ?_
      rw [g1]
      exact ⟨hr _ _ _ g3, g3⟩
theorem nn_int : ∀ (F : Hp) (v : V) (x : Int), rI.ok F v x → v ≠ .non := fun _ _ _ h e => by
  rw [show _ = V.int _ from h] at e
  cases e
theorem nn_L : ∀ (F : Hp) (v : V) (x : List α), (rL r).ok F v x → v ≠ .non := fun _ _ _ ⟨_, _, h, _⟩ e => by
  rw [h] at e
  cases e
/-- xs[i] = v -/
theorem go_setL {i : Nat} {p : Addr} {jj : Nat} {xs : List α} {z : Int} {n : Nat} {Pv : α → Prop} (hv : Evn F0 H0 L M te r Pv) (hi : L[i]? = some (sl rV (.ref p))) (hj : M[jj]? = some (p, mL r xs)) (hk : Ev F0 H0 L M tk rI z) (hn : z = (n : Int)) (hl : n < xs.length)
    (k : ∀ y, Pv y → Go F0 H0 L (M.set jj (p, mL r (xs.set n y))) D.nx) : Go F0 H0 L M (tAsg te (gSub (tVar i) tk rSetL) D) := fun σ H ⟨F, S⟩ =>
  hv σ H F S _ fun y u H1 F1 e1 S1 s1 k1 => by
    obtain ⟨o, ho, v, rfl, rfl⟩ := pget S1.l hi
    refine ⟨_, ho, ?_⟩
    refine hk σ H1 F1 S1 _ fun z' w H2 F2 e2 S2 s2 k2 => ?_
    rw [show z' = z from e2] at k2
    cases k2
    obtain ⟨_, _, o, e, vs, rfl, pr⟩ := S2.m _ (mem_at hj)
    refine ⟨p, vs, z, n, rfl, rfl, e, ?_, ?_⟩
    · rw [hn, pr.length]
      unfold ixN
      rw [if_pos (by omega), if_pos (by omega)]
      rfl
    · exact k y e1 σ _ ⟨F2, S2.chg hj ⟨_, rfl, pset (R := r.ok F2) (r.mono s2 k1) n pr⟩⟩
end

/-! ### a def that may be called -/
structure Df (P : Program) (w : World) (K : PySem.W.Frag) (mg : Str → Option Value) (base : Heap) (x : Str) (ps : List Str) (sp : Sp) (k : Nat) : Prop where
  ex : ∃ (f : Addr) (fd : FuncData), FnOk P w K mg base CX0 k f fd ps sp ∧ mg x = some (.ref f) ∧ PySem.W.keepIn K (.ref f) = true ∧ Binds K fd ps []
section
variable {X : Cx} {x : Str} {ps : List Str} {sp : Sp} {k k' : Nat} {e : Expr} {es : List Expr} {t : TA} {p pos : Pos}
theorem pe_df (d : Df X.prog X.w X.K X.mg X.base x ps sp k) (hr : Room k' X.A) (hk : k ≤ k') (hg : Gl X x) (ha : PA X (e :: es) t) (hdb : (x == ("__debug__" : Str)) = false := by decide)
    (he : starEach (e :: es) X.env = (false, eval e X.env) :: starEach es X.env := by rfl) (hpl : (backTo pos (starEach es X.env)).any (·.1) = false := by rfl) : PE X (.Call (.Name x p) (e :: es) [] pos) (tCall sp [] E0 t) := by
  obtain ⟨f, fd, h1, h2, h3, h4⟩ := d.ex
  exact pe_call h1 (hr.mono hk) hg h2 h3 h4 .nil pass0 ha hdb he hpl
end

theorem pe_gk {X : Cx} {x : Str} {i : Int} {pos : Pos} (hg : Gl X x) (hm : ∃ t, X.mg x = some (.int i t)) (hd : (x == ("__debug__" : Str)) = false := by decide) : PE X (.Name x pos) (tC (.int i)) := by
  obtain ⟨t, h⟩ := hm
  exact pe_glob hg h ⟨t, rfl⟩ hd
section
variable {F0 H0 : Hp} {L L' : List Sl} {M M' : Ms} {K : PySem.W.Frag} {ta tb te tk tv : TE} {D : Ends} {t1 t2 : TS}
variable {α β γ : Type} {r : Rl α} {q : Rl β} {x : α} {y : β}
theorem go_set1 {i : Nat} (h : Ev F0 H0 L M te r x) (k : Go F0 H0 (L.set i (sl r x)) M D.nx) : Go F0 H0 L M (tAsg te (gName i) D) := go_set h fun z e => by rw [show z = x from e]; exact k
theorem go_setM1 {i : Nat} {mo : Mo} (h : EvM F0 H0 L M te mo) (k : ∀ p, Go F0 H0 (L.set i (sl rV (.ref p))) ((p, mo) :: M) D.nx) : Go F0 H0 L M (tAsg te (gName i) D) := go_setM h fun _ p _ => k p
theorem go_app1 {i j : Nat} {p : Addr} {xs : List α} {x : α} (hi : L[i]? = some (sl rV (.ref p))) (hj : M[j]? = some (p, mL r xs)) (h : Ev F0 H0 L M te r x) (hz : xs.length < sizeLine)
    (k : Go F0 H0 L (M.set j (p, mL r (xs ++ [x]))) D.nx) : Go F0 H0 L M (tDrop (tBM K "list" rAppend (tVar i) (tCons te tNil)) D) := go_app hi hj h hz fun z e => by rw [show z = x from e]; exact k
theorem go_ret1 {Q : VK} {post : β → Prop} {y : β} (hQ : Rt F0 H0 q post Q) (h : Ev F0 H0 L M te q y) (hp : post y) (e : D.rt = Q) : Go F0 H0 L M (tRet te D) := go_ret hQ h (fun z e => by rw [show z = y from e]; exact hp) e
/-- x += e -/
theorem go_aug {i : Nat} {a b : Int} (hi : L[i]? = some (sl rI a)) (h : Ev F0 H0 L M te rI b) {g : Int → Int → Int} (k : Go F0 H0 (L.set i (sl rI (g a b))) M D.nx) : Go F0 H0 L M (tAug i te (ipI g) D) := fun σ H ⟨F, S⟩ => by
  obtain ⟨o, ho, v, rfl, rfl⟩ := pget S.l hi
  refine ⟨_, ho, ?_⟩
  refine h σ H F S _ fun z w H1 F1 e1 S1 s1 k1 => ?_
  rw [show z = b from e1] at k1
  cases k1
  exact ⟨a, b, rfl, rfl, k _ _ ⟨F1, S1.set ⟨_, rfl, rfl⟩⟩⟩
/-- a call whose value is told -/
theorem ev_call1 {S : List Sl → (β → Prop) → Prop} {E : XK} {tr : TA} {ars : List Sl} {y : β} (ha : EvA F0 H0 L M tr ars) (h : S ars (fun z => z = y)) : Ev F0 H0 L M (tCall (mkSp q S) [] E tr) q y :=
  ev_call ha fun l e => ⟨_, by rw [show l = ars from e]; exact h, fun z e => e⟩
theorem ev_callM1 {S : List Sl → (β → Prop) → Prop} {mo : β → Mo} {E : XK} {tr : TA} {ars : List Sl} {y : β} (ha : EvA F0 H0 L M tr ars) (h : S ars (fun z => z = y)) : EvM F0 H0 L M (tCall (mkSpM mo S) [] E tr) (mo y) := fun σ H F St Q k =>
  ev_callM (Pv := fun z => z = y) ha (fun l e => ⟨_, by rw [show l = ars from e]; exact h, fun z e => e⟩) σ H F St Q fun x p H' F' e S' s' => by
    rw [show x = y from e] at S'
    exact k () p H' F' trivial S' s'
theorem go_retV1 {Q : VK} {post : β → Prop} {mo : β → Mo} {i j : Nat} {p : Addr} {y : β} (hQ : RtM F0 H0 mo post Q) (hi : L[i]? = some (sl rV (.ref p))) (hj : M[j]? = some (p, mo y)) (hp : post y) (e : D.rt = Q) : Go F0 H0 L M (tRet (tVar i) D) := go_retV hQ hi hj hp e
end
theorem mj0 {α : Type} {a : α} {l : List α} : (a :: l)[0]? = some a := rfl
theorem mj1 {α : Type} {a b : α} {l : List α} : (b :: a :: l)[1]? = some a := rfl
theorem mj2 {α : Type} {a b c : α} {l : List α} : (b :: c :: a :: l)[2]? = some a := rfl
theorem mj3 {α : Type} {a b c d : α} {l : List α} : (b :: c :: d :: a :: l)[3]? = some a := rfl
theorem CMul_l {i j : Int} (h1 : -(2 ^ 64) < i) (h2 : i < 2 ^ 64) : CMul i j := .inl ⟨h1, h2⟩
theorem CMul_r {i j : Int} (h1 : -(2 ^ 64) < j) (h2 : j < 2 ^ 64) : CMul i j := .inr ⟨h1, h2⟩

section
variable {F0 H0 : Hp} {L L' : List Sl} {M M' : Ms} {K : PySem.W.Frag} {ta tb te tk tv : TE} {D : Ends} {ts : TS}
variable {α β γ : Type} {r : Rl α} {q : Rl β} {x : α} {y : β}
theorem ev_lcLs {ws : List Nat} {g : TG} {xs : List α} {Lg : α → List Sl} {tE : TE} (f : α → β) (hl : Ev F0 H0 L M te (rL r) xs) (hz : xs.length ≤ sizeLine) (hg : ∀ F1 M' x, TgW F1 H0 M' g r x ws L (Lg x))
    (he : ∀ (F1 : Hp) (Dd : Addr) (ys : List β) (k : Nat) (x : α), xs[k]? = some x → Ev F1 H0 (Lg x) ((Dd, mL q ys) :: M) tE q (f x)) : EvM F0 H0 L M (tLc (iSeq K te) g tYes tE ws) (mL q (xs.map f)) := fun σ H F S Q k => .inl (ev_lcL f hl hz hg he σ H F S Q k)
theorem ev_lcTs {ws : List Nat} {g : TG} {xs : List α} {Lg : α → List Sl} {tE : TE} (f : α → β) (hl : Ev F0 H0 L M te (rT r) xs) (hz : xs.length ≤ sizeLine) (hg : ∀ F1 M' x, TgW F1 H0 M' g r x ws L (Lg x))
    (he : ∀ (F1 : Hp) (Dd : Addr) (ys : List β) (k : Nat) (x : α), xs[k]? = some x → Ev F1 H0 (Lg x) ((Dd, mL q ys) :: M) tE q (f x)) : EvM F0 H0 L M (tLc (iSeq K te) g tYes tE ws) (mL q (xs.map f)) := fun σ H F S Q k => .inr (ev_lcT f hl hz hg he σ H F S Q k)
theorem go_forLs {ι : Type} {g : TG} {xs : List α} (I : Nat → ι → Prop) (Li : ι → List Sl) (Lg : α → ι → List Sl) (Mi : ι → Ms) (hl : Ev F0 H0 L M te (rL r) xs) (b0 : ι) (eL : Wk L (Li b0)) (eM : M = Mi b0) (i0 : I 0 b0)
    (hg : ∀ F1 b x, TgOk F1 H0 (Mi b) g r x (Li b) (Lg x b))
    (hs : ∀ F1, Bs F0 H0 F1 → ∀ k b x, xs[k]? = some x → I k b → ∀ N : L2.St → Hp → Prop, (∀ b', I (k + 1) b' → Go F1 H0 (Li b') (Mi b') N) → (∀ P : L2.St → Hp → Prop, ∀ L M, Go F0 H0 L M P → Go F1 H0 L M P) → Go F1 H0 (Lg x b) (Mi b) (ts { D with nx := N, ct := N, bk := D.nx }))
    (hd : ∀ b, I xs.length b → Go F0 H0 (Li b) (Mi b) D.nx) : Go F0 H0 L M (tFor (iSeq K te) g ts D) := fun σ H a => .inl (go_forL I Li Lg Mi hl b0 eL eM i0 hg hs hd σ H a)
theorem go_forTs {ι : Type} {g : TG} {xs : List α} (I : Nat → ι → Prop) (Li : ι → List Sl) (Lg : α → ι → List Sl) (Mi : ι → Ms) (hl : Ev F0 H0 L M te (rT r) xs) (b0 : ι) (eL : Wk L (Li b0)) (eM : M = Mi b0) (i0 : I 0 b0)
    (hg : ∀ F1 b x, TgOk F1 H0 (Mi b) g r x (Li b) (Lg x b))
    (hs : ∀ F1, Bs F0 H0 F1 → ∀ k b x, xs[k]? = some x → I k b → ∀ N : L2.St → Hp → Prop, (∀ b', I (k + 1) b' → Go F1 H0 (Li b') (Mi b') N) → (∀ P : L2.St → Hp → Prop, ∀ L M, Go F0 H0 L M P → Go F1 H0 L M P) → Go F1 H0 (Lg x b) (Mi b) (ts { D with nx := N, ct := N, bk := D.nx }))
    (hd : ∀ b, I xs.length b → Go F0 H0 (Li b) (Mi b) D.nx) : Go F0 H0 L M (tFor (iSeq K te) g ts D) := fun σ H a => .inr (go_forT I Li Lg Mi hl b0 eL eM i0 hg hs hd σ H a)
/-- a def that ends without a return -/
theorem go_end {Q : VK} {post : Unit → Prop} (hQ : Rt F0 H0 rN post Q) (hp : post ()) : Go F0 H0 L M (fun _ H' => Q .non H') := fun σ H ⟨F, S⟩ => hQ () .non H F hp S.g S.s rfl
theorem atI_of {xs : List α} {z : Int} {n : Nat} {v : α} (e : z = (n : Int)) (h : xs[n]? = some v) : atI xs z = some v := by
  rw [e]
  exact atI_nat h
theorem atI_last' {xs : List α} {v : α} (h : xs ≠ []) (e : xs.getLast h = v) : atI xs (-1) = some v := by
  rw [← List.dropLast_concat_getLast h, e]
  exact atI_last _ _
end

end T

namespace T
open PySem PySem.Spec PyProof.Rows L2
local macro_rules | `(tactic| walk_at "side") => `(tactic| first | with_reducible assumption | omega | (dsimp only; omega) | exact CMul_l (by omega) (by omega) | exact CMul_r (by omega) (by omega) | (refine' (⟨?_, ?_⟩ : CDivN _ _) <;> omega) | (refine' (⟨?_, ?_, ?_⟩ : CPow _ _) <;> first | decide | omega) | (simp; done))
local macro_rules | `(tactic| walk_at "op") => `(tactic| first
  | ((with_reducible refine' oI0 (t := rI) ?c); (case c => exact fun _ => rfl))
  | ((with_reducible refine' oI0 (t := rB) ?c); (case c => exact fun _ => rfl))
  | ((with_reducible refine' oL (oI0 (t := rI) ?c)); (case c => exact fun _ => rfl))
  | ((with_reducible refine' oI (t := rI) ?c ?d); (case d => exact fun _ => rfl); (case c => walk_at "side"))
  | ((with_reducible refine' oL (oI (t := rI) ?c ?d)); (case d => exact fun _ => rfl); (case c => walk_at "side"))
  | with_reducible exact o_eqI | with_reducible exact oL o_eqI | with_reducible exact o_neI | with_reducible exact oL o_neI | with_reducible exact o_isN | with_reducible exact o_notN
  | with_reducible exact o_ix20' | with_reducible exact o_ix21' | with_reducible exact o_ix30' | with_reducible exact o_ix31' | with_reducible exact o_ix32'
  | ((with_reducible refine' o_ixL' ?s); (case s => walk_at "side"))
  | ((with_reducible refine' o_ixT' ?s); (case s => walk_at "side"))
  | ((with_reducible refine' o_ixQ' ?s); (case s => walk_at "side"))
  | ((with_reducible refine' o_ixM' ?h ?s); (case h => walk_at "mj"); (case s => walk_at "side"))
  | walk_at "op2")
local macro_rules | `(tactic| walk_at "mj") => `(tactic| first | exact mj0 | exact mj1 | exact mj2 | exact mj3)
local macro_rules | `(tactic| walk_at "ca") => `(tactic| first
  | with_reducible exact c_lenL | with_reducible exact c_lenT | with_reducible exact c_lenQ | ((with_reducible refine' c_lenM ?h); (case h => walk_at "mj")) | with_reducible exact c_int | with_reducible exact c_tupL | ((with_reducible refine' c_tupM ?h); (case h => walk_at "mj"))
  | with_reducible exact c_all | with_reducible exact c_max2 | with_reducible exact c_min2 | walk_at "ca2")
local macro_rules | `(tactic| walk_at "ea") => `(tactic| first
  | with_reducible exact ea_nil
  | ((with_reducible refine' ea_cons ?h1 ?h2); (case h1 => walk_at "ev"); (case h2 => walk_at "ea")))
local macro_rules | `(tactic| walk_at "ev") => `(tactic| first
  | ((with_reducible refine' ev_var ?h); (case h => exact rfl))
  | with_reducible exact ev_int | with_reducible exact ev_bl | with_reducible exact ev_non | with_reducible exact ev_str | with_reducible exact ev_val
  | with_reducible assumption
  | ((with_reducible refine' ev_op ?h1 ?h2 ?h3); (case h1 => walk_at "ev"); (case h2 => walk_at "ev"); (case h3 => walk_at "op"))
  | ((with_reducible refine' ev_ca ?h1 ?h2); (case h1 => walk_at "ea"); (case h2 => walk_at "ca"))
  | ((with_reducible refine' ev_neg ?h1); (case h1 => walk_at "ev"))
  | ((with_reducible refine' ev_chain ?h1 ?h2 ?h3 ?h4 ?h5); (case h1 => walk_at "ev"); (case h2 => walk_at "ev"); (case h3 => walk_at "op"); (case h4 => walk_at "ev"); (case h5 => walk_at "op"))
  | ((with_reducible refine' ev_tup2 ?h1); (case h1 => walk_at "ea"))
  | ((with_reducible refine' ev_tup3 ?h1); (case h1 => walk_at "ea"))
  | ((with_reducible refine' ev_notV ?h1); (case h1 => walk_at "ev"))
  | ((with_reducible refine' ev_andV ?h1 (fun _ => ?h2)); (case h1 => walk_at "ev"); (case h2 => walk_at "ev"))
  | ((with_reducible refine' ev_orV ?h1 (fun _ => ?h2)); (case h1 => walk_at "ev"); (case h2 => walk_at "ev"))
  | ((with_reducible refine' ev_frzL ?h1); (case h1 => walk_at "evm"))
  | walk_at "ev2")
local macro_rules | `(tactic| walk_at "et") => `(tactic| first
  | ((with_reducible refine' et_test ?h1); (case h1 => walk_at "ev"))
  | ((with_reducible refine' et_B ?h1); (case h1 => walk_at "ev"))
  | ((with_reducible refine' et_not ?h1); (case h1 => walk_at "et"))
  | ((with_reducible refine' et_and ?h1 (fun _ => ?h2)); (case h1 => walk_at "et"); (case h2 => walk_at "et"))
  | ((with_reducible refine' et_or ?h1 (fun _ => ?h2)); (case h1 => walk_at "et"); (case h2 => walk_at "et")))
local macro_rules | `(tactic| walk_at "ca2") => `(tactic| fail "ca2")
local macro_rules | `(tactic| walk_at "ca2") => `(tactic| first | with_reducible exact c_isi_ii | with_reducible exact c_isi_ib | with_reducible exact c_isi_ll | ((with_reducible refine' c_lenD ?h); (case h => walk_at "mj")))
local macro_rules | `(tactic| walk_at "op2") => `(tactic| fail "op2")
local macro_rules | `(tactic| walk_at "ev2") => `(tactic| fail "ev2")
local macro_rules | `(tactic| walk_at "evm2") => `(tactic| fail "evm2")
local macro_rules | `(tactic| walk_at "evm") => `(tactic| first
  | with_reducible exact ev_lst0 _
  | ((with_reducible refine' ev_lst1 ?h1); (case h1 => walk_at "ea"))
  | ((with_reducible refine' ev_lst2 ?h1); (case h1 => walk_at "ea"))
  | ((with_reducible refine' ev_lst3 ?h1); (case h1 => walk_at "ea"))
  | ((with_reducible refine' ev_lst4 ?h1); (case h1 => walk_at "ea"))
  | ((with_reducible refine' ev_lst5 ?h1); (case h1 => walk_at "ea"))
  | ((with_reducible refine' ev_lst6 ?h1); (case h1 => walk_at "ea"))
  | ((with_reducible refine' ev_lst7 ?h1); (case h1 => walk_at "ea"))
  | ((with_reducible refine' ev_lst8 ?h1); (case h1 => walk_at "ea"))
  | ((with_reducible refine' ev_opM ?h1 ?h2 (oRM (o_cat ?h3))); (case h1 => walk_at "ev"); (case h2 => walk_at "ev"); (case h3 => walk_at "side"))
  | walk_at "evm2")
local macro_rules | `(tactic| walk_at "cx") => `(tactic| dsimp only [cxOf, Cx.nox, Cx.wish, Cx.blk, List.map, List.cons_append, List.nil_append, List.append_nil, List.length_cons, List.length_nil, List.replicate, Nat.reduceSub, Nat.reduceAdd])
local macro_rules | `(tactic| walk_at "ls") => `(tactic| try dsimp only [List.set_cons_zero, List.set_cons_succ])
local macro_rules | `(tactic| walk_at "set") => `(tactic| (refine' go_seq (go_set1 ?h ?k); (case h => walk_at "ev"); walk_at "ls"))
local macro_rules | `(tactic| walk_at "set!") => `(tactic| (refine' go_set1 ?h ?k; (case h => walk_at "ev"); walk_at "ls"))
local macro_rules | `(tactic| walk_at "if") => `(tactic| (refine' go_seq (go_if ?c ?x ?y); (case c => walk_at "et")))
local macro_rules | `(tactic| walk_at "if!") => `(tactic| (refine' go_if ?c ?x ?y; (case c => walk_at "et")))
local macro_rules | `(tactic| walk_at "ret") => `(tactic| (refine' go_ret1 ?q ?h ?p ?e; (case e => exact rfl); (case q => assumption); (case h => walk_at "ev")))
local macro_rules | `(tactic| walk_at "nx") => `(tactic| (refine go_next ?_; try dsimp only))
local macro_rules | `(tactic| walk_at "sp") => `(tactic| fail "sp")
local macro_rules | `(tactic| walk_at "ev2") => `(tactic| ((with_reducible refine' ev_call1 ?h1 ?h2); (case h1 => walk_at "ea"); (case h2 => walk_at "sp")))
local macro_rules | `(tactic| walk_at "evm2") => `(tactic| ((with_reducible refine' ev_callM1 ?h1 ?h2); (case h1 => walk_at "ea"); (case h2 => walk_at "sp")))
local macro_rules | `(tactic| walk_at "setM") => `(tactic| (refine' go_seq (go_setM1 ?h ?k); (case h => walk_at "evm")))
local macro_rules | `(tactic| walk_at "setM!") => `(tactic| (refine' go_setM1 ?h ?k; (case h => walk_at "evm")))
local macro_rules | `(tactic| walk_at "app") => `(tactic| (refine' go_seq (go_app1 ?a ?b ?h ?z ?k); (case a => exact rfl); (case b => walk_at "mj"); (case h => walk_at "ev"); (case z => walk_at "sz"); walk_at "ls"))
local macro_rules | `(tactic| walk_at "app!") => `(tactic| (refine' go_app1 ?a ?b ?h ?z ?k; (case a => exact rfl); (case b => walk_at "mj"); (case h => walk_at "ev"); (case z => walk_at "sz"); walk_at "ls"))
local macro_rules | `(tactic| walk_at "sz") => `(tactic| (have hsz_ := sizeLine_eq; first | omega | (simp only [List.length_append, List.length_cons, List.length_nil, List.length_map, List.length_range]; omega)))
local macro_rules | `(tactic| walk_at "retV") => `(tactic| (refine' go_retV1 ?q ?a ?b ?p ?e; (case e => exact rfl); (case q => assumption); (case a => exact rfl); (case b => walk_at "mj")))
local macro_rules | `(tactic| walk_at "evm2") => `(tactic| ((with_reducible refine' ev_opM ?h1 ?h2 (oRM (o_rep ?h3 ?h4 ?h5))); (case h1 => walk_at "ev"); (case h2 => walk_at "ev"); (case h3 => walk_at "side"); (case h4 => walk_at "side"); (case h5 => walk_at "side")))
local macro_rules | `(tactic| walk_at "op2") => `(tactic| first | with_reducible exact o_eqLI | with_reducible exact o_neLI | with_reducible exact o_eqLLI | with_reducible exact o_neLLI | with_reducible exact o_inO)
local macro_rules | `(tactic| walk_at "ix") => `(tactic| first | exact mj0 | exact mj1 | exact mj2 | exact mj3 | exact mj4 | exact mj5 | exact mj6 | exact mj7 | exact mj8 | exact mj9 | exact mj10 | exact mj11 | exact mj12)
local macro_rules | `(tactic| walk_at "ev") => `(tactic| first | ((with_reducible refine' ev_varS ?s ?h); (case h => with_reducible walk_at "ix"); (case s => first | exact Same.refl _ | assumption)) | fail "no")
local macro_rules | `(tactic| walk_at "ev") => `(tactic| first | ((with_reducible refine' ev_varN ?h); (case h => with_reducible walk_at "ix")) | fail "no")
/-! ### enumerate of a tuple -/
set_option maxHeartbeats 1000000 in
theorem meets_enumerate_new1 {v : Value} {o : Obj} {H : Heap → Prop} (B : Begins v o H) :
    Meets (Builtin.«enumerate.__new__» ⟨[.type "enumerate", v], []⟩) (fun _ R s => H s.heap ∧
      R (.ok (.ret (.ref (s.heap.push o).objs.size))) { s with heap := (s.heap.push o).push { cls := .type "enumerate", data := .fields #[.none, .bool false, .ref s.heap.objs.size, rawInt 0, .none, .none] } }) :=
  .of_wp fun prog w A R s h => by
    obtain ⟨hp, g, d, tk, os⟩ := s; obtain ⟨h1, h⟩ := h
    have hsub := sub_enumerate
    have q1 : ∀ {A' : Around} {E : Value → Shared → Prop} {Q : Value → Shared → Prop}, Q (.ref hp.objs.size) ⟨hp.push o, g, d, tk, os⟩ → wpAny (model prog w) A' (pyIter v) Q E ⟨hp, g, d, tk, os⟩ :=
      fun q => B.iter prog w _ _ ⟨hp, g, d, tk, os⟩ _ h1 q
    wp_walk using q1
    refine wpAny_stack_any fun st => wpAny_pure ?_
    split
    · rename_i c _ _ _ _ _
      cases (c == Value.type "enumerate")
      · wp_walk using q1
        exact ⟨_, rfl, h⟩
      · wp_walk using q1
        exact ⟨_, rfl, h⟩
    · wp_walk using q1
      exact ⟨_, rfl, h⟩
theorem enum_begins1 {prog : Program} {w : World} {A : Around} {E : Value → Shared → Prop} {s : Shared} {v : Value} {o : Obj} {H : Heap → Prop} {Q : Value → Shared → Prop} (B : Begins v o H) (h1 : H s.heap)
    (h : ∀ h', IsEnum h' (s.heap.objs.size + 1) s.heap.objs.size 0 .none → h'.get? s.heap.objs.size = some o → h'.objs.size = s.heap.objs.size + 2 →
      (∀ b o, s.heap.get? b = some o → h'.get? b = some o) → Q (.ref (s.heap.objs.size + 1)) { s with heap := h' }) :
    wpAny (model prog w) A (call (.type "enumerate") [v]) Q E s := by
  refine callType_new F.called_enumerate (by decide) (F.typeCall_enumerate_1 _) (F.newCall_enumerate_1 _) (fun obj => F.args_object_init_2 obj _) F.entry_enumerate_new
    (meets_enumerate_new1 B) ⟨h1, ?_⟩
  have hz : (s.heap.push o).objs.size = s.heap.objs.size + 1 := Heap.size_push ..
  show _ ∧ _
  rw [hz]
  have he : IsEnum ((s.heap.push o).push { cls := .type "enumerate", data := .fields #[.none, .bool false, .ref s.heap.objs.size, rawInt 0, .none, .none] }) (s.heap.objs.size + 1) s.heap.objs.size 0 .none := by
    have := Heap.get?_push_size (s.heap.push o) (o := { cls := .type "enumerate", data := .fields #[.none, .bool false, .ref s.heap.objs.size, rawInt 0, .none, .none] }) rfl
    rw [hz] at this; exact this
  refine ⟨⟨_, he, rfl⟩, h _ he (Heap.get?_push_of_some _ (Heap.get?_push_size _ B.free)) (by rw [Heap.size_push, hz]) fun b o x => Heap.get?_push_of_some _ (Heap.get?_push_of_some _ x)⟩
/-- the tuple at a, each item in a new pair -/
def Itet (K : PySem.W.Frag) (a : Addr) : It :=
  ⟨fun i H => ∃ (xs : List V) (x : V), SqT K H a xs ∧ xs[i]? = some x, fun i H v H' => ∃ T x, v = .ref T ∧ H T = none ∧ H' = upd H T (.tup [.int (i : Nat), x]) ∧ ∀ xs, SqT K H a xs → xs[i]? = some x, fun i H => ∃ xs : List V, SqT K H a xs ∧ xs.length = i⟩
theorem turn_enumT {P : Program} {w : World} {K : PySem.W.Frag} {elts : List Expr} {kk : Nat} {tpos : Pos} (a e it : Addr) (hea : e ≠ a) (hai : a ≠ it) (hne : e ≠ it) :
    Turn P w K (.Tuple elts kk tpos) (Itet K a) [e, it] e (fun i h => (∃ old, IsEnum h e it ((i : Nat) : Int) old) ∧ h.IsTupleIter it a i) where
  mem := by simp
  obj := fun i h st b hb => by
    obtain ⟨⟨old, he⟩, o, ho, hc, hd⟩ := st
    have e' : b = e ∨ b = it := by simpa using hb
    rcases e' with z | z
    · rw [z]; exact ⟨_, he, fun v q => nomatch q⟩
    · rw [z]; exact ⟨o, ho, fun v q => by rw [hd] at q; cases q⟩
  keep := fun i h h' st k => let ⟨⟨old, he⟩, hi⟩ := st; ⟨⟨old, k e (by simp) _ he⟩, hi.at fun o q => k it (by simp) o q⟩
  item := by
    intro X hP hw hK hc i pins s σ H E I hf st hg
    subst hP hw hK
    obtain ⟨⟨old, he⟩, hit⟩ := st
    obtain ⟨xs, x, hq, hx⟩ := hg
    obtain ⟨its, rv, p, hz⟩ := I.tuple hq
    obtain ⟨u, hu, ru⟩ := rv.get hx
    have hel : e < s.heap.objs.size := Heap.lt_size he
    have hil : it < s.heap.objs.size := by obtain ⟨_, q, _⟩ := hit; exact Heap.lt_size q
    have hlt : i < its.toArray.size := by
      have := (List.getElem?_eq_some_iff.mp hu).1
      simpa using this
    refine wpAny_pyNext_enum_itemD (Draws.tuple (by show X.A.in1.handled = none; exact I.ok.hd hc) it a hai its.toArray) he ⟨hit, p⟩ hlt hne (by simp [hne, hea]) fun u' h' tk hP' ho st' hT hsz hk => ?_
    have eu : u' = u := by
      have h1 : its.toArray[i]? = some u' := hP'
      have h2 : its.toArray[i]? = some u := by simpa using hu
      rw [h2] at h1
      exact (Option.some.inj h1).symm
    subst eu
    obtain ⟨hit', _⟩ := st'
    refine ⟨_, rfl, wpAny_letOwnedTupleGo_enum (s := { s with heap := h', toks := tk + 1 }) ho fun h'' he' sb => ?_⟩
    have hT2 : h''.get? s.heap.objs.size = some { cls := .type "tuple", data := .seq #[.int i tk, u'] } := (sb.2 _ (Nat.ne_of_gt hel)).trans hT
    have new : ObjOk X.prog X.w (upd H s.heap.objs.size (.tup [.int (i : Nat), x])) h'' s.heap.objs.size (.tup [.int (i : Nat), x]) :=
      ⟨by show 2 ≤ sizeLine; decide, [.int i tk, u'], .cons ⟨_, rfl⟩ (.cons ru .nil), ⟨_, hT2, rfl, _, rfl⟩⟩
    have I1 : L2.Inv X pins σ (upd H s.heap.objs.size (.tup [.int (i : Nat), x])) { s with heap := h'', toks := tk + 1 } :=
      I.turnedNew (ch := [e, it]) (fun b ob hb q => (sb.2 b (fun z => hb (by simp [z]))).trans (hk b ob (fun z => hb (by simp [z])) (fun z => hb (by simp [z])) q)) hf (Nat.le_refl _) new
    refine ⟨.ref s.heap.objs.size, _, I1, rfl, ⟨_, x, rfl, I.hok.fresh (Nat.le_refl _), rfl, fun ys hy => by rw [I.tuple_inj hy hq]; exact hx⟩, ⟨⟨u', ?_⟩, hit'.at fun o q => (sb.2 it (Ne.symm hne)).trans q⟩, fun b hb => ?_⟩
    · have e1 : ((i + 1 : Nat) : Int) = (i : Int) + 1 := by omega
      rw [e1]; exact he'
    · have hb' : b < s.heap.objs.size := by
        have e' : b = e ∨ b = it := by simpa using hb
        rcases e' with z | z
        · rw [z]; exact hel
        · rw [z]; exact hil
      rw [upd_ne (Nat.ne_of_lt hb')]
      exact (hf b hb).1
  done := by
    intro X hP hw hK hc i pins s σ H E I hf st hg
    subst hP hw hK
    obtain ⟨⟨old, he⟩, hit⟩ := st
    obtain ⟨xs, hq, hx⟩ := hg
    obtain ⟨its, rv, p, hz⟩ := I.tuple hq
    obtain ⟨f0, f1, f2, f3, f4, f5⟩ := hf it (by simp)
    have hl := rv.length
    have hi : its.toArray.size = i := by simp; omega
    exact wpAny_pyNext_enum_endD (Draws.tuple (by show X.A.in1.handled = none; exact I.ok.hd hc) it a hai its.toArray) he ⟨by rw [hi]; exact hit, p⟩ fun h' eb => ⟨rfl, I.turned (t' := s.toks) (fun b o hb q => eb b o hb q) f0 f1 f3 f4 f5⟩
  self := fun A i s Q E st h => let ⟨⟨_, he⟩, _⟩ := st; wpAny_pyIter_enum he h
def iEnumT (K : PySem.W.Frag) (ta : TA) : TI := fun σ H R => ta σ H fun vs H1 => ∃ a xs, vs = [.ref a] ∧ SqT K H1 a xs ∧ R (Itet K a) H1
theorem pi_enumT {X : Cx} {e : Expr} {ta : TA} {p pos tpos : Pos} {elts : List Expr} {kk : Nat} (hg : Gl X "enumerate") (hm : X.mg "enumerate" = none) (ha : PA X [e] ta) (hs : starEach [e] X.env = [(false, eval e X.env)] := by rfl) :
    PI X (.Tuple elts kk tpos) (.Call (.Name "enumerate" p) [e] [] pos) (iEnumT X.K ta) := by
  refine ⟨fun pins s σ H R I h => ?_⟩
  refine Call_ (ld_blt I hg hm boot_enumerate (PyProof.Rows.callWith_type1 (thn (ha.run pos pins s σ H _ I h) fun us s1 ⟨vs, H1, I1, r1, q1⟩ => ?_) hs rfl))
  obtain ⟨a, xs, ex, hq, q⟩ := q1
  subst ex
  cases r1 with
  | cons r rr =>
    cases rr
    cases r
    obtain ⟨its, rv, p', hz⟩ := I1.tuple hq
    have hla : a < s1.heap.objs.size := p'.lt
    refine enum_begins1 (begins_tuple a its.toArray) p' fun h' he hit hsz hk => wpAny_pyIter_enum he ?_
    have I2 : L2.Inv X pins σ H1 { s1 with heap := h' } := I1.kept (t' := s1.toks) hk
    refine ⟨s1.heap.objs.size + 1, [s1.heap.objs.size + 1, s1.heap.objs.size], _, _, H1, rfl, I2, turn_enumT a (s1.heap.objs.size + 1) s1.heap.objs.size (Nat.ne_of_gt (Nat.lt_succ_of_lt hla)) (Nat.ne_of_lt hla) (Nat.succ_ne_self _), ⟨⟨.none, he⟩, ⟨_, hit, rfl, rfl⟩⟩, fun b hb => ?_, q⟩
    have e' : b = s1.heap.objs.size + 1 ∨ b = s1.heap.objs.size := by simpa using hb
    have hle : s1.heap.objs.size ≤ b := by
      rcases e' with z | z
      · rw [z]; exact Nat.le_add_right _ _
      · rw [z]; exact Nat.le_refl _
    exact I1.fpOk hle (I1.hok.fresh hle)
theorem PI.or {X : Cx} {tg l : Expr} {t t' : TI} (h : PI X tg l t) (h' : PI X tg l t') : PI X tg l (fun σ H R => t σ H R ∨ t' σ H R) := ⟨fun pins s σ H R I q => by
  rcases q with q | q
  · exact h.run pins s σ H R I q
  · exact h'.run pins s σ H R I q⟩
abbrev iEnumA (K : PySem.W.Frag) (ta : TA) : TI := fun σ H R => iEnum K ta σ H R ∨ iEnumT K ta σ H R
theorem pi_enumA {X : Cx} {e : Expr} {ta : TA} {p pos tpos : Pos} {elts : List Expr} {kk : Nat} (hg : Gl X "enumerate") (hm : X.mg "enumerate" = none) (ha : PA X [e] ta) (hs : starEach [e] X.env = [(false, eval e X.env)] := by rfl) :
    PI X (.Tuple elts kk tpos) (.Call (.Name "enumerate" p) [e] [] pos) (iEnumA X.K ta) := PI.or (pi_enum hg hm ha hs) (pi_enumT hg hm ha hs)

end T

namespace T
open PySem PySem.Spec PyProof.Rows L2
/-! ### results that are new to the caller -/
def mkSpN {β : Type} (q : Hp → Rl β) (S : List Sl → (β → Prop) → Prop) : Sp := fun vs H Q _ => ∃ F ars post, S ars post ∧ Same F H ∧ Paired (fun v (s : Sl) => s.ok F (some v)) vs ars ∧ Rt F H (q H) post Q
/-- told over an earlier heap it says less -/
def Anti {β : Type} (q : Hp → Rl β) : Prop := ∀ {Ha Hb F : Hp} {v : V} {y : β}, Same Ha Hb → (q Hb).ok F v y → (q Ha).ok F v y
section
variable {F0 H0 : Hp} {L L' : List Sl} {M M' : Ms} {K : PySem.W.Frag} {ta tb te tk tv : TE} {D : Ends} {ts : TS} {P : L2.St → Hp → Prop}
variable {α β γ : Type} {r : Rl α} {q : Rl β} {x : α} {y : β}
theorem ev_callN {q : Hp → Rl β} (hq : Anti q) {S : List Sl → (β → Prop) → Prop} {E : XK} {tr : TA} {PA : List Sl → Prop} {Pv : β → Prop} (ha : EvAn F0 H0 L M tr PA) (h : ∀ ars, PA ars → ∃ post, S ars post ∧ ∀ y, post y → Pv y) : Evn F0 H0 L M (tCall (mkSpN q S) [] E tr) (q H0) Pv := fun σ H F St Q k =>
  ha σ H F St _ fun ars vs H1 F1 pa S1 s1 k1 => by
    obtain ⟨post, hS, hp⟩ := h ars pa
    show mkSpN q S (vs ++ []) H1 Q E
    rw [List.append_nil]
    exact ⟨F1, ars, post, hS, S1.s, k1, fun y v H' F' py g s ky => k y v H' F' (hp y py) (S1.grow g s) (s1.trans g.f) (hq S1.g.h ky)⟩
theorem ev_callN1 {q : Hp → Rl β} (hq : Anti q) {S : List Sl → (β → Prop) → Prop} {E : XK} {tr : TA} {ars : List Sl} {y : β} (ha : EvA F0 H0 L M tr ars) (h : S ars (fun z => z = y)) : Ev F0 H0 L M (tCall (mkSpN q S) [] E tr) (q H0) y :=
  ev_callN hq ha fun l e => ⟨_, by rw [show l = ars from e]; exact h, fun z e => e⟩
theorem rLn_anti {r : Hp → Rl α} (h : Anti r) : Anti fun H => rLn H (r H) := fun s ⟨a, vs, e, n, k, p⟩ => ⟨a, vs, e, s.free n, k, Paired.imp p fun _ _ z => h s z⟩
theorem rO_anti {r : Hp → Rl α} (h : Anti r) : Anti fun H => rO (r H) := fun {Ha Hb F v y} s k => by
  cases y with
  | none => exact k
  | some y => exact ⟨k.1, h s k.2⟩
theorem c_anti {r : Rl α} : Anti fun _ => r := fun _ k => k
theorem r2_anti {r : Hp → Rl α} {q : Hp → Rl β} (h : Anti r) (h' : Anti q) : Anti fun H => r2 (r H) (q H) := fun s ⟨a, v1, v2, e, k, k1, k2⟩ => ⟨a, v1, v2, e, k, h s k1, h' s k2⟩
theorem rDK_anti {r : Hp → Rl α} (h : Anti r) : Anti fun H => rDK (r H) := fun s ⟨a, vs, e, k, p⟩ => ⟨a, vs, e, k, Paired.imp p fun _ _ z => ⟨z.1, h s z.2⟩⟩

/-! ### from a place on -/
/-- as it stands in F1 -/
def rAt {α : Type} (F1 : Hp) (r : Rl α) : Rl α := ⟨fun _ v x => r.ok F1 v x, fun _ h => h⟩
theorem ev_At {P : α → Prop} (h : Evn F0 H0 L M te (rAt F0 r) P) : Evn F0 H0 L M te r P := fun σ H F S Q k => h σ H F S Q fun x v H' F' p S' s' k' => k x v H' F' p S' s' (r.mono S'.g.f k')
/-- a slot, told as it stands now -/
inductive Pn (F1 : Hp) : List Sl → List Sl → Prop
  | nil : Pn F1 [] []
  | pin {α : Type} {r : Rl α} {x : α} {a b : List Sl} : Pn F1 a b → Pn F1 (sl r x :: a) (sl (rAt F1 r) x :: b)
  | same {s : Sl} {a b : List Sl} : Pn F1 a b → Pn F1 (s :: a) (s :: b)
theorem Pn.ok {F1 : Hp} : ∀ {a b : List Sl} {σ : L2.St}, Pn F1 a b → Paired (fun o (s : Sl) => s.ok F1 o) σ a → Paired (fun o (s : Sl) => s.ok F1 o) σ b
  | _, _, _, .nil, h => h
  | _, _, _, .pin w, .cons k t => .cons k (w.ok t)
  | _, _, _, .same w, .cons k t => .cons k (w.ok t)
theorem go_rebase (h : ∀ F1 H1, Gr F0 H0 F1 H1 → Same F1 H1 → ∃ L', Pn F1 L L' ∧ Go F1 H1 L' [] P) : Go F0 H0 L [] P := fun σ H ⟨F, S⟩ => by
  obtain ⟨L', p, g⟩ := h F H S.g S.s
  exact g σ H ⟨F, Gr.refl, S.s, p.ok S.l, fun q hq => (nomatch hq), List.nodup_nil⟩
theorem Rt.gr {q : Rl β} {F1 H1 : Hp} {post : β → Prop} {Q : VK} (h : Rt F0 H0 q post Q) (g : Gr F0 H0 F1 H1) : Rt F1 H1 q post Q := fun y v H' F' p g' s k => h y v H' F' p (g.trans g') s k
/-- slots that do not lean on what is fixed -/
def Ind (l : List Sl) : Prop := ∀ s ∈ l, ∀ F F' o, s.ok F o → s.ok F' o
theorem Ind.nil : Ind [] := fun _ h => nomatch h
theorem Ind.cons {s : Sl} {l : List Sl} (h : ∀ F F' o, s.ok F o → s.ok F' o) (k : Ind l) : Ind (s :: l) := fun z hz => by
  rcases List.mem_cons.mp hz with rfl | hz
  · exact h
  · exact k z hz
theorem ind_I {i : Int} : ∀ F F' o, (sl rI i).ok F o → (sl rI i).ok F' o := fun _ _ _ h => h
theorem ind_V {i : V} : ∀ F F' o, (sl rV i).ok F o → (sl rV i).ok F' o := fun _ _ _ h => h
theorem ind_B {i : Bool} : ∀ F F' o, (sl rB i).ok F o → (sl rB i).ok F' o := fun _ _ _ h => h
theorem ind_At {F1 : Hp} : ∀ F F' o, (sl (rAt F1 r) x).ok F o → (sl (rAt F1 r) x).ok F' o := fun _ _ _ h => h
theorem ind_s : ∀ F F' o, s_.ok F o → s_.ok F' o := fun _ _ _ h => h
theorem Ind.ok {F F' : Hp} : ∀ {l : List Sl} {σ : L2.St}, Ind l → Paired (fun o (s : Sl) => s.ok F o) σ l → Paired (fun o (s : Sl) => s.ok F' o) σ l
  | _, _, _, .nil => .nil
  | _, _, h, .cons k t => .cons (h _ List.mem_cons_self _ _ _ k) (Ind.ok (fun s hs => h s (List.mem_cons_of_mem _ hs)) t)
/-- all that came since the start may change -/
theorem Sta.back {σ : L2.St} {H F : Hp} (S : Sta F0 H0 L M σ H F) (i : Ind L) : Sta F0 H0 L [] σ H F0 := ⟨⟨Same.refl _, S.g.h, fun _ _ h => h⟩, S.g.f.trans S.s, i.ok S.l, fun q hq => (nomatch hq), List.nodup_nil⟩

/-! ### {i: v} -/
theorem ev_disp1K {i : Int} {y : α} (hk : ∀ M, Ev F0 H0 L M tk rI i) (hv : ∀ M, Ev F0 H0 L M tv r y) : EvM F0 H0 L M (tDisp [(tk, tv)]) (mK r [(Sum.inl i, y)]) := fun σ H F S Q k p hp => by
  have S1 : Sta F0 H0 L ((p, mK r []) :: M) σ (upd H p (.dK [])) F := S.nw hp ⟨[], rfl, .nil⟩
  refine hk _ σ _ F S1 _ fun z w H1 F1 e1 S1 s1 k1 => hv _ σ H1 F1 S1 _ fun z' w' H2 F2 e2 S2 s2 k2 => ?_
  rw [show z = i from e1] at k1
  rw [show z' = y from e2] at k2
  cases k1
  obtain ⟨_, _, o, e, kvs, rfl, pr⟩ := S2.m _ List.mem_cons_self
  cases pr
  exact ⟨e, [(Sum.inl i, w')], rfl, (by show 1 ≤ 15; decide), k () p _ F2 trivial (S2.chg (j := 0) rfl ⟨_, rfl, .cons ⟨rfl, k2⟩ .nil⟩) (s1.trans s2)⟩

/-! ### for i, x in enumerate(t) -/
theorem go_enumT {ι : Type} {tr : TA} {xs : List α} {i j : Nat} (I : Nat → ι → Prop) (Li : ι → List Sl) (Mi : ι → Ms) (hl : EvA F0 H0 L M tr [sl (rT r) xs]) (b0 : ι) (eL : Wk L (Li b0)) (eM : M = Mi b0) (i0 : I 0 b0)
    (hs : ∀ F1, Bs F0 H0 F1 → ∀ k b x, xs[k]? = some x → I k b → ∀ N : L2.St → Hp → Prop, (∀ b', I (k + 1) b' → Go F1 H0 (Li b') (Mi b') N) → Go F1 H0 (((Li b).set i (sl rI (k : Int))).set j (sl r x)) (Mi b) (ts { D with nx := N, ct := N, bk := D.nx }))
    (hd : ∀ b, I xs.length b → Go F0 H0 (Li b) (Mi b) D.nx) : Go F0 H0 L M (tFor (iEnumA K tr) (gTup K 2 (gCons (gName i) (gCons (gName j) gNil))) ts D) := fun σ H ⟨F, S⟩ => .inr (
  hl σ H F S _ fun _ vs H1 F1 e1 S1 s1 k1 => by
    subst e1
    obtain ⟨v, rfl, a, ws, rfl, e, pr⟩ := args1 k1
    have bs := S1.bs
    have hb := S1.base
    refine ⟨a, ws, rfl, SqT.of (S1.s _ _ e), fun k m σ H => m = xs.length - k ∧ k ≤ xs.length ∧ ∃ b, I k b ∧ At F1 H0 (Li b) (Mi b) σ H, ⟨_, rfl, Nat.zero_le _, b0, i0, F1, by subst eM; exact hb.to (eL.ok hb.l)⟩, ?_⟩
    rintro k m σ H ⟨rfl, hk, b, ib, F, S⟩
    have hT : SqT K H a ws := SqT.of (S.s _ _ (S.g.f _ _ e))
    by_cases hlt : k < xs.length
    · have hkw : k < ws.length := by rw [pr.length]; exact hlt
      have hw := List.getElem?_eq_getElem hkw
      obtain ⟨x, hx, kx⟩ := pget' pr hw
      refine .inr ⟨⟨ws, _, hT, hw⟩, fun σ' H' => ∃ b', I (k + 1) b' ∧ At F1 H0 (Li b') (Mi b') σ' H', fun σ' H' ⟨b', i', a'⟩ => ⟨xs.length - (k + 1), by omega, rfl, hlt, b', i', a'⟩, fun v H' y => ?_⟩
      obtain ⟨T', x', rfl, hT', rfl, hx'⟩ := y
      have ex : x' = ws[k] := Option.some.inj ((hx' ws hT).symm.trans hw)
      subst ex
      have S2 : Sta F1 H0 (Li b) (Mi b) σ (upd H T' (.tup [.int (k : Nat), ws[k]])) (upd F T' (.tup [.int (k : Nat), ws[k]])) := S.lay hT'
      have sF : Same F1 (upd F T' (.tup [.int (k : Nat), ws[k]])) := S2.g.f
      refine ⟨T', [.int (k : Nat), ws[k]], rfl, SqT.of upd_same, rfl, .int (k : Nat), [ws[k]], rfl, ws[k], [], rfl, rfl, ?_⟩
      exact hs F1 bs k b x hx ib _ (fun b' i' σ' H' a' => ⟨b', i', a'⟩) _ _ ⟨_, (S2.set (i := i) (s := sl rI (k : Int)) ⟨_, rfl, rfl⟩).set (i := j) (s := sl r x) ⟨_, rfl, r.mono sF kx⟩⟩
    · have e2 : k = xs.length := by omega
      subst e2
      exact .inl ⟨⟨ws, hT, pr.length⟩, hd b ib σ H ⟨F, S.unbase bs⟩⟩)
theorem c_lenD {p : Addr} {j : Nat} {xs : List (Key × α)} (hj : M[j]? = some (p, mK r xs)) : CaOk F0 H0 L M (fun xs H Q => ∃ a kvs, xs = [V.ref a] ∧ H a = some (.dK kvs) ∧ Q (.int kvs.length) H) [sl rV (.ref p)] rI (xs.length : Int) := fun σ H F vs S h Q k => by
  obtain ⟨v, rfl, rfl⟩ := args1 h
  obtain ⟨_, _, o, e, ws, rfl, pr⟩ := S.m _ (mem_at hj)
  refine ⟨p, ws, rfl, e, ?_⟩
  rw [pr.length]
  exact k _ H F S (Same.refl _) rfl
/-- a list that changes, as an item of a new tuple: it is told as fixed -/
theorem frzN {p : Addr} {xs : List α} (h0 : H0 p = none) : ∀ F F' o, (mL r xs).ok F o → Same F F' → F' p = some o → (rLn H0 r).ok F' (.ref p) xs := fun F F' o ⟨vs, e, pr⟩ s h => by
  subst e
  exact ⟨p, vs, rfl, h0, h, Paired.imp pr fun _ _ z => r.mono s z⟩
theorem nn_Ln {H0 : Hp} : ∀ (F : Hp) (v : V) (x : List α), (rLn H0 r).ok F v x → v ≠ .non := fun _ _ _ ⟨_, _, h, _⟩ e => by
  rw [h] at e
  cases e
end
section
variable {P : Program} {w : World} {K : PySem.W.Frag} {mg : Str → Option Value} {base : Heap}
theorem def_okN {β : Type} {q : Hp → Rl β} {x qual : Str} {st : Stmt} {f : Addr} {fd : FuncData} {N ps : List Str} {k : Nat} {S : List Sl → (β → Prop) → Prop} (F : Fun K x qual st f fd) (Sc : FnScope N ps (defScope st)) (len : ∀ ars post, S ars post → ars.length = ps.length)
    (hbody : ∀ (cdv : Value) (A : Around) (outer : List Env) (s : Shared) (H : Hp) (E : XK), Room k (A.deeper (envOfC qual (defScope st) s.heap.objs.size f cdv)) →
      ∃ t, PSs (cxOf CX0 P w K mg base N qual (defScope st) f cdv A outer s H E).nox (defBody st) t ∧
        ∀ F0 ars post (Q : VK), S ars post → Rt F0 H (q H) post Q → Go F0 H (ars ++ List.replicate (N.length - ars.length) s_) [] (t { nx := fun _ H' => Q .non H', rt := Q })) : FnOk P w K mg base CX0 (k + 1) f fd ps (mkSpN q S) := by
  refine F.ok Sc (fun vs H Q E ⟨F, ars, post, hS, s, k, _⟩ => ?_) (fun cdv A outer s H vs Q E hr h => ?_)
  · rw [k.length]; exact len _ _ hS
  · obtain ⟨F0, ars, post, hS, sf, k1, hQ⟩ := h
    obtain ⟨t, ht, go⟩ := hbody cdv A outer s H E hr
    exact ⟨t, ht, go F0 ars post Q hS hQ _ _ ⟨F0, start_ok sf k1⟩⟩
end
section
variable {F0 H0 : Hp} {L L' : List Sl} {M M' : Ms} {K : PySem.W.Frag} {ta tb te tk tv : TE} {D : Ends} {ts : TS} {P : L2.St → Hp → Prop}
variable {α β γ : Type} {r : Rl α} {q : Rl β} {x : α} {y : β}
/-- an operation whose first operand is not told exactly -/
theorem evn_op {rl : R2} {t : Rl γ} {Pv : α → Prop} {f : α → γ} (ha : Evn F0 H0 L M ta r Pv) (hb : Ev F0 H0 L M tb q y) (ho : ∀ x, Pv x → OpOk F0 H0 L M rl r x q y t (f x)) : Evn F0 H0 L M (tOp rl ta tb) t (fun z => ∃ x, Pv x ∧ z = f x) := fun σ H F S Q k =>
  ha σ H F S _ fun x v H1 F1 e1 S1 s1 k1 => hb σ H1 F1 S1 _ fun _ w H2 F2 e2 S2 s2 k2 => by
    subst e2
    exact ho x e1 σ H2 F2 v w S2 (r.mono s2 k1) k2 _ fun u H3 F3 S3 s3 k3 => k _ u H3 F3 ⟨x, e1, rfl⟩ S3 ((s1.trans s2).trans s3) k3
end
section
variable {F0 H0 : Hp} {L L' : List Sl} {M M' : Ms} {K : PySem.W.Frag} {ta tb te tk tv : TE} {tr : TA} {D : Ends} {ts : TS} {P : L2.St → Hp → Prop}
variable {α β γ : Type} {r : Rl α} {q : Rl β} {x : α} {y : β}
theorem lenSz {α : Type} {xs : List α} {n : Nat} (h : xs.length = n) (hn : n ≤ 1000) : xs.length ≤ sizeLine := by rw [h, sizeLine_eq]; omega
theorem ev_lst2 {a b : α} (h : EvA F0 H0 L M tr [sl r a, sl r b]) : EvM F0 H0 L M (tLst tr) (mL r [a, b]) := ev_lst (xs := [a, b]) h (lenSz (n := 2) rfl (by decide))
theorem ev_lst3 {a b c : α} (h : EvA F0 H0 L M tr [sl r a, sl r b, sl r c]) : EvM F0 H0 L M (tLst tr) (mL r [a, b, c]) := ev_lst (xs := [a, b, c]) h (lenSz (n := 3) rfl (by decide))
theorem ev_lst4 {a b c d : α} (h : EvA F0 H0 L M tr [sl r a, sl r b, sl r c, sl r d]) : EvM F0 H0 L M (tLst tr) (mL r [a, b, c, d]) := ev_lst (xs := [a, b, c, d]) h (lenSz (n := 4) rfl (by decide))
theorem ev_lst5 {a b c d e : α} (h : EvA F0 H0 L M tr [sl r a, sl r b, sl r c, sl r d, sl r e]) : EvM F0 H0 L M (tLst tr) (mL r [a, b, c, d, e]) := ev_lst (xs := [a, b, c, d, e]) h (lenSz (n := 5) rfl (by decide))
theorem ev_lst6 {a b c d e f : α} (h : EvA F0 H0 L M tr [sl r a, sl r b, sl r c, sl r d, sl r e, sl r f]) : EvM F0 H0 L M (tLst tr) (mL r [a, b, c, d, e, f]) := ev_lst (xs := [a, b, c, d, e, f]) h (lenSz (n := 6) rfl (by decide))
theorem ev_lst7 {a b c d e f g : α} (h : EvA F0 H0 L M tr [sl r a, sl r b, sl r c, sl r d, sl r e, sl r f, sl r g]) : EvM F0 H0 L M (tLst tr) (mL r [a, b, c, d, e, f, g]) := ev_lst (xs := [a, b, c, d, e, f, g]) h (lenSz (n := 7) rfl (by decide))
theorem ev_lst8 {a b c d e f g i : α} (h : EvA F0 H0 L M tr [sl r a, sl r b, sl r c, sl r d, sl r e, sl r f, sl r g, sl r i]) : EvM F0 H0 L M (tLst tr) (mL r [a, b, c, d, e, f, g, i]) := ev_lst (xs := [a, b, c, d, e, f, g, i]) h (lenSz (n := 8) rfl (by decide))
/-- isinstance -/
theorem c_isiT {i : Int} {T : String} {b : Bool} (h : kitB "int" T = some b) : CaOk F0 H0 L M (rIsi K) [sl rI i, sl rV (.ty T)] rB b := fun σ H F vs S h2 Q k => by
  obtain ⟨v, w, rfl, rfl, rfl⟩ := args2 h2
  exact ⟨_, _, _, _, b, rfl, .ty T, .base (.int i), kit_ty h, k _ H F S (Same.refl _) rfl⟩
theorem c_isiL {xs : List α} {T : String} {b : Bool} (h : kitB "list" T = some b) : CaOk F0 H0 L M (rIsi K) [sl (rL r) xs, sl rV (.ty T)] rB b := fun σ H F vs S h2 Q k => by
  obtain ⟨v, w, rfl, ⟨a, ws, rfl, e, _⟩, rfl⟩ := args2 h2
  exact ⟨_, _, _, _, b, rfl, .ty T, .base (.lst (S.s _ _ e)), kit_ty h, k _ H F S (Same.refl _) rfl⟩
theorem ea_is {i j : Int} (h : EvA F0 H0 L M tr [sl rI i]) (e : i = j) : EvA F0 H0 L M tr [sl rI j] := e ▸ h
end
section
variable {F0 H0 : Hp} {L : List Sl} {M : Ms} {K : PySem.W.Frag} {α : Type} {r : Rl α}
theorem c_isi_ii {i : Int} : CaOk F0 H0 L M (rIsi K) [sl rI i, sl rV (.ty "int")] rB true := c_isiT (by decide +kernel)
theorem c_isi_ib {i : Int} : CaOk F0 H0 L M (rIsi K) [sl rI i, sl rV (.ty "bool")] rB false := c_isiT (by decide +kernel)
theorem c_isi_ll {xs : List α} : CaOk F0 H0 L M (rIsi K) [sl (rL r) xs, sl rV (.ty "list")] rB true := c_isiL (by decide +kernel)
end

end T

namespace T
open PySem PySem.Spec PyProof.Rows L2
/-! ### == of data -/
structure Dt {α : Type} [DecidableEq α] (K : PySem.W.Frag) (r : Rl α) (k : Nat) where
  d : α → PyData
  rd : ∀ F v x, r.ok F v x → Dp K F v (d x)
  can : ∀ x, (d x).canLay0 = true
  dep : ∀ x, (d x).depth ≤ k
  eq : ∀ x y, PyData.eqv (d x) (d y) = decide (x = y)
def dtI {K : PySem.W.Frag} : Dt K rI 0 := ⟨PyData.int, fun F v x h => by rw [show v = .int x from h]; exact .int x, fun _ => rfl, fun _ => Nat.zero_le _, fun x y => by
  show (x == y) = _
  exact Bool.beq_eq_decide_eq ..⟩
theorem dpAll_of {α : Type} {K : PySem.W.Frag} {r : Rl α} {d : α → PyData} {F : Hp} (h : ∀ F v x, r.ok F v x → Dp K F v (d x)) : ∀ {vs : List V} {xs : List α}, Paired (r.ok F) vs xs → DpAll K F vs (xs.map d)
  | _, _, .nil => .nil
  | _, _, .cons a b => .cons (h _ _ _ a) (dpAll_of h b)
theorem canAll_of {α : Type} {d : α → PyData} (h : ∀ x, (d x).canLay0 = true) : ∀ xs : List α, PyData.canLayAll0 (xs.map d) = true
  | [] => rfl
  | x :: xs => by
    show ((d x).canLay0 && PyData.canLayAll0 (xs.map d)) = true
    rw [h, canAll_of h xs]
    rfl
theorem depAll_of {α : Type} {d : α → PyData} {k : Nat} (h : ∀ x, (d x).depth ≤ k) : ∀ xs : List α, PyData.depthAll (xs.map d) ≤ k
  | [] => Nat.zero_le _
  | x :: xs => Nat.max_le.mpr ⟨h x, depAll_of h xs⟩
theorem eqAll_of {α : Type} [DecidableEq α] {d : α → PyData} (h : ∀ x y, PyData.eqv (d x) (d y) = decide (x = y)) : ∀ xs ys : List α, PyData.eqvAll (xs.map d) (ys.map d) = decide (xs = ys)
  | [], [] => rfl
  | [], y :: ys => (decide_eq_false (fun e => by cases e)).symm
  | x :: xs, [] => (decide_eq_false (fun e => by cases e)).symm
  | x :: xs, y :: ys => by
    show (PyData.eqv (d x) (d y) && PyData.eqvAll (xs.map d) (ys.map d)) = _
    rw [h, eqAll_of h xs ys]
    by_cases e1 : x = y
    · by_cases e2 : xs = ys
      · simp [e1, e2]
      · simp [e1, e2]
    · simp [e1]
def dtL {α : Type} [DecidableEq α] {K : PySem.W.Frag} {r : Rl α} {k : Nat} (t : Dt K r k) : Dt K (rL r) (k + 1) := ⟨fun xs => .list (xs.map t.d), fun F v x ⟨a, vs, e, h, p⟩ => by
    rw [e]
    exact .lst (SqL.of h) (dpAll_of t.rd p), fun xs => canAll_of t.can xs, fun xs => Nat.succ_le_succ (depAll_of t.dep xs), fun xs ys => eqAll_of t.eq xs ys⟩
def dtT {α : Type} [DecidableEq α] {K : PySem.W.Frag} {r : Rl α} {k : Nat} (t : Dt K r k) : Dt K (rT r) (k + 1) := ⟨fun xs => .tuple (xs.map t.d), fun F v x ⟨a, vs, e, h, p⟩ => by
    rw [e]
    exact .tup (SqT.of h) (dpAll_of t.rd p), fun xs => canAll_of t.can xs, fun xs => Nat.succ_le_succ (depAll_of t.dep xs), fun xs ys => eqAll_of t.eq xs ys⟩
def dt2 {α β : Type} [DecidableEq α] [DecidableEq β] {K : PySem.W.Frag} {r : Rl α} {q : Rl β} {k : Nat} (t : Dt K r k) (u : Dt K q k) : Dt K (r2 r q) (k + 1) := ⟨fun x => .tuple [t.d x.1, u.d x.2], fun F v x ⟨a, v1, v2, e, h, h1, h2⟩ => by
    rw [e]
    exact .tup (SqT.of h) (.cons (t.rd _ _ _ h1) (.cons (u.rd _ _ _ h2) .nil)), fun x => by
    show ((t.d x.1).canLay0 && ((u.d x.2).canLay0 && true)) = true
    rw [t.can, u.can]
    rfl, fun x => by
    show max (t.d x.1).depth (max (u.d x.2).depth 0) + 1 ≤ k + 1
    have h1 := t.dep x.1
    have h2 := u.dep x.2
    omega, fun x y => by
    show (PyData.eqv (t.d x.1) (t.d y.1) && (PyData.eqv (u.d x.2) (u.d y.2) && true)) = _
    rw [t.eq, u.eq, Bool.and_true]
    obtain ⟨x1, x2⟩ := x
    obtain ⟨y1, y2⟩ := y
    by_cases e1 : x1 = y1
    · by_cases e2 : x2 = y2
      · simp [e1, e2]
      · simp [e1, e2]
    · simp [e1]⟩
section
variable {F0 H0 : Hp} {L L' : List Sl} {M M' : Ms} {K : PySem.W.Frag} {ta tb te tk tv : TE} {tr : TA} {D : Ends} {ts : TS} {P : L2.St → Hp → Prop}
variable {α β γ : Type} {r : Rl α} {q : Rl β} {x : α} {y : β}
theorem shaped_of {d : PyData} {k : Nat} (h : d.canLay0 = true) (h2 : d.depth ≤ k) (hk : k ≤ 64) : SeqAt.shaped d = true := by
  unfold SeqAt.shaped
  rw [h, decide_eq_true (Nat.le_trans h2 hk)]
  rfl
theorem Dp.same {F H : Hp} (s : Same F H) : ∀ {d : PyData} {v : V}, Dp K F v d → Dp K H v d := by
  intro d v h
  refine Dp.rec (motive_1 := fun v d _ => Dp K H v d) (motive_2 := fun vs ds _ => DpAll K H vs ds) .non (fun b => .bl b) (fun i => .int i) (fun z => .str z) (fun hs _ ih => .lst (s.seq hs) ih) (fun hs _ ih => .tup ?_ ih) .nil (fun _ _ ih1 ih2 => .cons ih1 ih2) h
  rcases hs with (hs | ⟨o, hs⟩) | hs
  · exact .inl (.inl (s _ _ hs))
  · exact .inl (.inr ⟨o, s _ _ hs⟩)
  · exact .inr hs
theorem o_eqD [DecidableEq α] {k : Nat} (t : Dt K r k) (hk : k ≤ 64) {x y : α} : OpOk F0 H0 L M (rEqD K) r x r y rB (decide (x = y)) := fun σ H F v w S hv hw Q kk =>
  ⟨t.d x, t.d y, Dp.same S.s (t.rd F v x hv), Dp.same S.s (t.rd F w y hw), shaped_of (t.can x) (t.dep x) hk, shaped_of (t.can y) (t.dep y) hk, by rw [t.eq]; exact kk _ H F S (Same.refl _) rfl⟩
theorem o_neD [DecidableEq α] {k : Nat} (t : Dt K r k) (hk : k ≤ 64) {x y : α} : OpOk F0 H0 L M (rNeD K) r x r y rB (!decide (x = y)) := fun σ H F v w S hv hw Q kk =>
  ⟨t.d x, t.d y, Dp.same S.s (t.rd F v x hv), Dp.same S.s (t.rd F w y hw), shaped_of (t.can x) (t.dep x) hk, shaped_of (t.can y) (t.dep y) hk, by rw [t.eq]; exact kk _ H F S (Same.refl _) rfl⟩
theorem o_eqLI {x y : List Int} : OpOk F0 H0 L M (rEqA K) (rL rI) x (rL rI) y rB (decide (x = y)) := oR (o_eqD (dtL dtI) (by decide))
theorem o_neLI {x y : List Int} : OpOk F0 H0 L M (rNeA K) (rL rI) x (rL rI) y rB (!decide (x = y)) := oR (o_neD (dtL dtI) (by decide))
theorem o_eqLLI {x y : List (List Int)} : OpOk F0 H0 L M (rEqA K) (rL (rL rI)) x (rL (rL rI)) y rB (decide (x = y)) := oR (o_eqD (dtL (dtL dtI)) (by decide))
theorem o_neLLI {x y : List (List Int)} : OpOk F0 H0 L M (rNeA K) (rL (rL rI)) x (rL (rL rI)) y rB (!decide (x = y)) := oR (o_neD (dtL (dtL dtI)) (by decide))

/-! ### in, index, over ints and None -/
theorem flatO {F : Hp} : ∀ {vs : List V} {xs : List (Option Int)}, Paired ((rO rI).ok F) vs xs → vs.all flatV = true
  | _, _, .nil => rfl
  | v :: _, x :: _, .cons a b => by
    rw [List.all_cons, flatO b, Bool.and_true]
    cases x with
    | none => rw [show v = .non from a]; rfl
    | some i => rw [show v = .int i from a.2]; rfl
theorem eqVO {F : Hp} {v : V} {x : Option Int} {k : Int} (h : (rO rI).ok F v x) : eqV v (.int k) = decide (x = some k) := by
  cases x with
  | none => rw [show v = .non from h]; rfl
  | some i =>
    rw [show v = .int i from h.2]
    show (i == k) = _
    rw [Bool.beq_eq_decide_eq]
    by_cases e : i = k
    · simp [e]
    · simp [e]
theorem inVO {F : Hp} {k : Int} : ∀ {vs : List V} {xs : List (Option Int)}, Paired ((rO rI).ok F) vs xs → inV (.int k) vs = decide (some k ∈ xs)
  | _, _, .nil => by simp [inV]
  | v :: vs, x :: xs, .cons a b => by
    have ih := inVO (k := k) b
    unfold inV at ih ⊢
    rw [List.any_cons, ih, eqVO a]
    by_cases e : x = some k
    · simp [e]
    · have : ¬ some k = x := fun z => e z.symm
      simp [e, this]
theorem o_inO {k : Int} {xs : List (Option Int)} : OpOk F0 H0 L M (rIn K false) rI k (rL (rO rI)) xs rB (decide (some k ∈ xs)) := fun σ H F v w S hv hw Q kk => by
  obtain ⟨a, vs, rfl, e, p⟩ := hw
  cases hv
  refine ⟨a, vs, rfl, .inl (SqL.of (S.s _ _ e)), rfl, flatO p, ?_⟩
  rw [if_neg Bool.false_ne_true, inVO p]
  exact kk _ H F S (Same.refl _) rfl
theorem ev_index {xs : List (Option Int)} {k : Int} {j : Nat} (hl : Ev F0 H0 L M ta (rL (rO rI)) xs) (hk : Ev F0 H0 L M te rI k) (hj : xs[j]? = some (some k)) (hno : ∀ i, i < j → xs[i]? ≠ some (some k)) : Ev F0 H0 L M (tBM K "list" (rIndex K) ta (tCons te tNil)) rI (j : Int) := fun σ H F S Q kk =>
  hl σ H F S _ fun _ v H1 F1 e1 S1 s1 k1 => by
    rw [show _ = xs from e1] at k1
    obtain ⟨a, vs, rfl, e, p⟩ := k1
    refine ⟨tyL (S1.s _ _ e), ?_⟩
    refine hk σ H1 F1 S1 _ fun _ w H2 F2 e2 S2 s2 k2 => ?_
    rw [show _ = k from e2] at k2
    cases k2
    have p2 : Paired ((rO rI).ok F2) vs xs := Paired.imp p fun _ _ z => (rO rI).mono s2 z
    obtain ⟨z, hz, rz⟩ := pget p2 hj
    refine ⟨a, vs, .int k, j, z, rfl, rfl, SqL.of (S2.s _ _ (s2 _ _ e)), rfl, flatO p2, hz, ?_, fun i z' hi hz' => ?_, kk _ _ H2 F2 rfl S2 (s1.trans s2) rfl⟩
    · rw [eqVO rz]
      exact decide_eq_true rfl
    · obtain ⟨x, hx, rx⟩ := pget' p2 hz'
      rw [eqVO rx]
      exact decide_eq_false fun e => hno i hi (by rw [hx, e])
end

end T

namespace T
open PySem PySem.Spec PyProof.Rows L2
theorem mj4 {α : Type} {a a0 a1 a2 a3 : α} {l : List α} : (a0 :: a1 :: a2 :: a3 :: a :: l)[4]? = some a := rfl
theorem mj5 {α : Type} {a a0 a1 a2 a3 a4 : α} {l : List α} : (a0 :: a1 :: a2 :: a3 :: a4 :: a :: l)[5]? = some a := rfl
theorem mj6 {α : Type} {a a0 a1 a2 a3 a4 a5 : α} {l : List α} : (a0 :: a1 :: a2 :: a3 :: a4 :: a5 :: a :: l)[6]? = some a := rfl
theorem mj7 {α : Type} {a a0 a1 a2 a3 a4 a5 a6 : α} {l : List α} : (a0 :: a1 :: a2 :: a3 :: a4 :: a5 :: a6 :: a :: l)[7]? = some a := rfl
theorem mj8 {α : Type} {a a0 a1 a2 a3 a4 a5 a6 a7 : α} {l : List α} : (a0 :: a1 :: a2 :: a3 :: a4 :: a5 :: a6 :: a7 :: a :: l)[8]? = some a := rfl
theorem mj9 {α : Type} {a a0 a1 a2 a3 a4 a5 a6 a7 a8 : α} {l : List α} : (a0 :: a1 :: a2 :: a3 :: a4 :: a5 :: a6 :: a7 :: a8 :: a :: l)[9]? = some a := rfl
theorem mj10 {α : Type} {a a0 a1 a2 a3 a4 a5 a6 a7 a8 a9 : α} {l : List α} : (a0 :: a1 :: a2 :: a3 :: a4 :: a5 :: a6 :: a7 :: a8 :: a9 :: a :: l)[10]? = some a := rfl
theorem mj11 {α : Type} {a a0 a1 a2 a3 a4 a5 a6 a7 a8 a9 a10 : α} {l : List α} : (a0 :: a1 :: a2 :: a3 :: a4 :: a5 :: a6 :: a7 :: a8 :: a9 :: a10 :: a :: l)[11]? = some a := rfl
theorem mj12 {α : Type} {a a0 a1 a2 a3 a4 a5 a6 a7 a8 a9 a10 a11 : α} {l : List α} : (a0 :: a1 :: a2 :: a3 :: a4 :: a5 :: a6 :: a7 :: a8 :: a9 :: a10 :: a11 :: a :: l)[12]? = some a := rfl
theorem mj13 {α : Type} {a a0 a1 a2 a3 a4 a5 a6 a7 a8 a9 a10 a11 a12 : α} {l : List α} : (a0 :: a1 :: a2 :: a3 :: a4 :: a5 :: a6 :: a7 :: a8 :: a9 :: a10 :: a11 :: a12 :: a :: l)[13]? = some a := rfl
theorem mj14 {α : Type} {a a0 a1 a2 a3 a4 a5 a6 a7 a8 a9 a10 a11 a12 a13 : α} {l : List α} : (a0 :: a1 :: a2 :: a3 :: a4 :: a5 :: a6 :: a7 :: a8 :: a9 :: a10 :: a11 :: a12 :: a13 :: a :: l)[14]? = some a := rfl
theorem mj15 {α : Type} {a a0 a1 a2 a3 a4 a5 a6 a7 a8 a9 a10 a11 a12 a13 a14 : α} {l : List α} : (a0 :: a1 :: a2 :: a3 :: a4 :: a5 :: a6 :: a7 :: a8 :: a9 :: a10 :: a11 :: a12 :: a13 :: a14 :: a :: l)[15]? = some a := rfl

section
variable {F0 H0 : Hp} {L L' : List Sl} {M M' : Ms} {K : PySem.W.Frag} {ta tb te tk tv : TE} {tr : TA} {D : Ends} {t1 t2 ts : TS} {P : L2.St → Hp → Prop}
variable {α β γ : Type} {r : Rl α} {q : Rl β} {x : α} {y : β}
theorem ev_varA {i : Nat} (h : L[i]? = some (sl (rAt F0 r) x)) : Ev F0 H0 L M (tVar i) r x := ev_At (ev_var h)
theorem ev_varN {Ha : Hp} {i : Nat} {xs : List α} (h : L[i]? = some (sl (rLn Ha r) xs)) : Ev F0 H0 L M (tVar i) (rL r) xs := Evn.rel (ev_var h) fun x F v p ⟨a, vs, e, n, k⟩ => ⟨x, p, a, vs, e, k⟩
theorem ev_varS {Fa : Hp} {i : Nat} (s : Same Fa F0) (h : L[i]? = some (sl (rAt Fa r) x)) : Ev F0 H0 L M (tVar i) r x := fun σ H F S Q k => (ev_var h : Ev F0 H0 L M (tVar i) (rAt Fa r) x) σ H F S Q fun x v H' F' p S' s' k' => k x v H' F' p S' s' (r.mono (s.trans S'.g.f) k')
theorem ev_lcLb {ws : List Nat} {g : TG} {xs : List α} {Lg : α → List Sl} {tE : TE} (f : α → β) (hl : Ev F0 H0 L M te (rL r) xs) (hz : xs.length ≤ sizeLine) (hg : ∀ F1 M' x, TgW F1 H0 M' g r x ws L (Lg x))
    (he : ∀ (F1 : Hp), Same F0 F1 → ∀ (Dd : Addr) (ys : List β) (k : Nat) (x : α), xs[k]? = some x → Ev F1 H0 (Lg x) ((Dd, mL q ys) :: M) tE q (f x)) : EvM F0 H0 L M (tLc (iSeq K te) g tYes tE ws) (mL q (xs.map f)) := fun σ H F S Q k => .inl (
  hl σ H F S _ fun _ v H1 F1 e1 S1 s1 k1 => by
    rw [show _ = xs from e1] at k1
    obtain ⟨a, vs, rfl, e, pr⟩ := k1
    have bs := S1.bs
    refine ⟨a, rfl, ⟨vs, SqL.of (S1.s _ _ e)⟩, fun Dd hD => lc_list (K := K) (xs := vs) (fun i H => ∃ F, Sta F1 H0 L ((Dd, mL q ((xs.take i).map f)) :: M) σ H F) ⟨F1, S1.base.nw hD ⟨[], rfl, .nil⟩⟩ (fun i H _ ⟨F, S⟩ => SqL.of (S.s _ _ (S.g.f _ _ e)))
      (fun i v H hv ⟨F, S⟩ => ?_) (fun H ⟨F, S⟩ => ?_)⟩
    · obtain ⟨x, hx, kx⟩ := pget' pr hv
      have hi : i < xs.length := (List.getElem?_eq_some_iff.mp hx).1
      refine comp_turn S (r.mono S.g.f kx) ?_ (hg F1 _ x) (he F1 bs.f Dd _ i x hx) fun H F S => ⟨F, ?_⟩
      · rw [List.length_map, List.length_take]; omega
      · rw [take_map_succ hx]; exact S
    · rw [pr.length, List.take_length] at S
      exact k () Dd H F trivial (S.unbase bs) (s1.trans S.g.f))
theorem Sta.pinV {σ : L2.St} {H F : Hp} {i : Nat} (S : Sta F0 H0 L M σ H F) (h : L[i]? = some (sl r x)) : ∃ v, r.ok F v x ∧ Sta F0 H0 (L.set i (sl rV v)) M σ H F := by
  obtain ⟨o, ho, v, rfl, kv⟩ := pget S.l h
  refine ⟨v, kv, ?_⟩
  have e : σ = σ.set i (some v) := by
    apply List.ext_getElem?
    intro j
    by_cases z : i = j
    · subst z
      rw [List.getElem?_set_self (List.getElem?_eq_some_iff.mp ho).1]
      exact ho
    · rw [List.getElem?_set_ne z]
  have := S.set (i := i) (s := sl rV v) (v := v) ⟨v, rfl, rfl⟩
  rw [← e] at this
  exact this
/-- two ways that meet again -/
theorem go_ifj {ι : Type} {c : TT} {b : Bool} (Lj : ι → List Sl) (Ij : ι → Prop) (hc : EvT F0 H0 L M c b) (h1 : b = true → ∀ N : L2.St → Hp → Prop, (∀ i, Ij i → Go F0 H0 (Lj i) M N) → Go F0 H0 L M (t1 { D with nx := N }))
    (h2 : b = false → ∀ N : L2.St → Hp → Prop, (∀ i, Ij i → Go F0 H0 (Lj i) M N) → Go F0 H0 L M (t2 { D with nx := N })) (tail : ∀ i, Ij i → Go F0 H0 (Lj i) M D.nx) : Go F0 H0 L M (tIfS c t1 t2 D) := go_if hc (fun e => h1 e D.nx tail) fun e => h2 e D.nx tail
/-- xs[lo:hi] -/
theorem cut_take {α : Type} (xs : List V) (k : Nat) : cutV xs none (some (k : Int)) = xs.take k := by
  unfold cutV
  rw [HT.sIx_none, HT.sIx_nat]
  simp
theorem cut_drop {α : Type} (xs : List V) (k : Nat) : cutV xs (some (k : Int)) none = xs.drop k := by
  unfold cutV
  rw [HT.sIx_none, HT.sIx_nat]
  by_cases h : k ≤ xs.length
  · rw [Nat.min_eq_left h, List.take_of_length_le (by rw [List.length_drop]; exact Nat.le_refl _)]
  · rw [Nat.min_eq_right (by omega), List.drop_eq_nil_of_le (Nat.le_refl _), List.drop_eq_nil_of_le (by omega)]
    simp
theorem ev_slTake {xs : List α} {k : Nat} (hl : Ev F0 H0 L M ta (rL r) xs) (hk : Ev F0 H0 L M tk rI (k : Int)) : EvM F0 H0 L M (tSl (rSlL K) ta tNoPart (tPart tk)) (mL r (xs.take k)) := fun σ H F S Q kk =>
  hl σ H F S _ fun _ v H1 F1 e1 S1 s1 k1 => by
    rw [show _ = xs from e1] at k1
    refine hk σ H1 F1 S1 _ fun _ w H2 F2 e2 S2 s2 k2 => ?_
    rw [show _ = (k : Int) from e2] at k2
    obtain ⟨a, vs, rfl, e, p⟩ := k1
    refine ⟨(k : Int), k2, a, vs, rfl, SqL.of (S2.s _ _ (s2 _ _ e)), fun l hl => ?_⟩
    rw [cut_take (α := α)]
    exact kk () l _ F2 trivial (S2.nw hl ⟨_, rfl, ptake k (Paired.imp p fun _ _ z => r.mono s2 z)⟩) (s1.trans s2)
theorem ev_slDrop {xs : List α} {k : Nat} (hl : Ev F0 H0 L M ta (rL r) xs) (hk : Ev F0 H0 L M tk rI (k : Int)) : EvM F0 H0 L M (tSl (rSlL K) ta (tPart tk) tNoPart) (mL r (xs.drop k)) := fun σ H F S Q kk =>
  hl σ H F S _ fun _ v H1 F1 e1 S1 s1 k1 => by
    rw [show _ = xs from e1] at k1
    refine hk σ H1 F1 S1 _ fun _ w H2 F2 e2 S2 s2 k2 => ?_
    rw [show _ = (k : Int) from e2] at k2
    obtain ⟨a, vs, rfl, e, p⟩ := k1
    refine ⟨(k : Int), k2, a, vs, rfl, SqL.of (S2.s _ _ (s2 _ _ e)), fun l hl => ?_⟩
    rw [cut_drop (α := α)]
    exact kk () l _ F2 trivial (S2.nw hl ⟨_, rfl, pdrop k (Paired.imp p fun _ _ z => r.mono s2 z)⟩) (s1.trans s2)
/-- an object that came since the start is written -/
theorem Sta.wr {σ : L2.St} {H : Hp} {p : Addr} {o : HO} (S : Sta F0 H0 L [] σ H F0) (sf : Same F0 H0) (h : H0 p = none) : Sta F0 H0 L [] σ (upd H p o) F0 :=
  ⟨⟨Same.refl _, fun a u ha => by rw [upd_ne (ne_of_none ha h)]; exact S.g.h a u ha, fun _ _ z => z⟩, same_sub S.s (sf.free h), S.l, fun q hq => (nomatch hq), List.nodup_nil⟩
/-- a list, at p, of None and of lists, all of which came since the start -/
structure Jn (F0 H0 : Hp) (L : List Sl) (p : Addr) (vs : List V) (c : Nat) (σ : L2.St) (H : Hp) : Prop where
  st : Sta F0 H0 L [] σ H F0
  hp : H p = some (.lst vs)
  n : H0 p = none
  it : ∀ v ∈ vs, v = .non ∨ ∃ q ws, v = .ref q ∧ q ≠ p ∧ H q = some (.lst ws) ∧ ws.length ≤ c ∧ H0 q = none
/-- such a list comes out of a told one -/
theorem Jn.of {σ : L2.St} {H F : Hp} {v : V} {d : List (Option (List Int))} {c : Nat} (S : Sta F0 H0 L M σ H F) (i : Ind L) (h : (rLn H0 (rO (rLn H0 rI))).ok F v d) (hc : ∀ w, some w ∈ d → w.length ≤ c) : ∃ p vs, v = .ref p ∧ vs.length = d.length ∧ Jn F0 H0 L p vs c σ H := by
  obtain ⟨p, vs, rfl, n, e, pr⟩ := h
  refine ⟨p, vs, rfl, pr.length, S.back i, S.s _ _ e, n, fun v hv => ?_⟩
  obtain ⟨j, hj⟩ := List.mem_iff_getElem?.mp hv
  obtain ⟨x, hx, k⟩ := pget' pr hj
  cases x with
  | none => exact .inl k
  | some w =>
    obtain ⟨_, q, ws, rfl, n2, e2, p2⟩ := k
    refine .inr ⟨q, ws, rfl, fun z => ?_, S.s _ _ e2, by rw [p2.length]; exact hc w (List.mem_of_getElem? hx), n2⟩
    subst z
    rw [e] at e2
    cases e2
    obtain ⟨y, _, ky⟩ := pget' p2 hj
    cases (show V.ref q = V.int y from ky)
/-- for k in range(len(d)): if d[k] is not None: d[k].append(0) -/
theorem go_spoil {iv ik : Nat} {p : Addr} {n c0 : Nat} (sf : Same F0 H0) (hi : Ind L) (hik : L.set ik s_ = L) (hL : L[iv]? = some (sl rV (.ref p))) (hne : ik ≠ iv) (hlk : ik < L.length) (hc : c0 + n < 1000000)
    (tail : ∀ σ H vs, Jn F0 H0 L p vs (c0 + n) σ H → D.nx σ H) {σ : L2.St} {H : Hp} {vs : List V} (J : Jn F0 H0 L p vs c0 σ H) (hv : vs.length = n) :
    tFor (iRng1 (tCons (tCB (cLen K) (tCons (tVar iv) tNil)) tNil)) (gName ik)
      (tIfS (tTest (tOp (fun x y H Q => y = .non ∧ Q (.bl (!decide (x = .non))) H) (tOp (rIx K) (tVar iv) (tVar ik)) (tC .non))) (tDrop (tBM K "list" rAppend (tOp (rIx K) (tVar iv) (tVar ik)) (tCons (tC (.int 0)) tNil))) tNext) D σ H := by
  have hz := sizeLine_eq
  have slot : ∀ {σ : L2.St} {H F : Hp}, Sta F0 H0 L [] σ H F → σ[iv]? = some (some (.ref p)) := fun S => by
    obtain ⟨o, ho, v, rfl, rfl⟩ := pget S.l hL
    exact ho
  refine ⟨.ref p, slot J.st, .ref p, n, rfl, .inl ⟨vs, SqL.of J.hp, hv.symm⟩, (n : Int), rfl, by omega, by omega, ?_⟩
  refine for_range (lo := 0) (n := ((n : Int)).toNat) (fun k σ H => ∃ vs, vs.length = n ∧ Jn F0 H0 L p vs (c0 + k) σ H) ⟨vs, hv, J⟩ (fun k σ H hk ⟨vs, hv, J⟩ => ?_) (fun σ H ⟨vs, hv, J⟩ => ?_)
  · have hkv : k < vs.length := by omega
    have gv := List.getElem?_eq_getElem hkv
    have e : (0 : Int) + (k : Int) = (k : Int) := by omega
    rw [e]
    have hσ1 : (σ.set ik (some (.int (k : Int))))[iv]? = some (some (.ref p)) := by rw [List.getElem?_set_ne hne]; exact slot J.st
    have hlσ : ik < σ.length := by rw [J.st.l.length]; exact hlk
    have hσ2 : (σ.set ik (some (.int (k : Int))))[ik]? = some (some (.int (k : Int))) := List.getElem?_set_self hlσ
    have S2 : Sta F0 H0 L [] (σ.set ik (some (.int (k : Int)))) H F0 := by
      have := J.st.set (i := ik) (s := s_) (v := .int (k : Int)) trivial
      rw [hik] at this
      exact this
    refine ⟨.ref p, hσ1, .int (k : Int), hσ2, .inl ⟨p, vs, (k : Int), vs[k], rfl, rfl, SqL.of J.hp, atI_nat gv, rfl, _, rfl, ?_⟩⟩
    rcases J.it _ (List.getElem_mem hkv) with hnon | ⟨q, ws, hq, hqp, hqw, hwl, hq0⟩
    · rw [hnon]
      exact ⟨vs, hv, S2, J.hp, J.n, fun v hv => by
        rcases J.it v hv with z | ⟨q, ws, z1, z2, z3, z4, z5⟩
        · exact .inl z
        · exact .inr ⟨q, ws, z1, z2, z3, by omega, z5⟩⟩
    · rw [hq]
      refine ⟨.ref p, hσ1, .int (k : Int), hσ2, .inl ⟨p, vs, (k : Int), vs[k], rfl, rfl, SqL.of J.hp, atI_nat gv, ?_⟩⟩
      rw [hq]
      refine ⟨tyL hqw, q, ws, .int 0, rfl, rfl, hqw, by omega, vs, hv, S2.wr sf hq0, by rw [upd_ne (Ne.symm hqp)]; exact J.hp, J.n, fun v hv => ?_⟩
      rcases J.it v hv with z | ⟨q', ws', z1, z2, z3, z4, z5⟩
      · exact .inl z
      · refine .inr ?_
        by_cases eq : q' = q
        · subst eq
          rw [hqw] at z3
          cases z3
          exact ⟨q', _, z1, z2, upd_same, by rw [List.length_append, List.length_singleton]; omega, z5⟩
        · exact ⟨q', ws', z1, z2, by rw [upd_ne eq]; exact z3, by omega, z5⟩
  · have e : ((n : Int)).toNat = n := by omega
    rw [e] at J
    exact tail σ H vs J
/-- d.reverse() -/
theorem go_rev {iv : Nat} {p : Addr} {vs : List V} {c : Nat} (sf : Same F0 H0) (hL : L[iv]? = some (sl rV (.ref p))) {σ : L2.St} {H : Hp} (J : Jn F0 H0 L p vs c σ H) (tail : ∀ σ H, At F0 H0 L [] σ H → D.nx σ H) :
    tDrop (tBM0 K "list" rReverse (tVar iv)) D σ H := by
  obtain ⟨o, ho, v, rfl, rfl⟩ := pget J.st.l hL
  exact ⟨.ref p, ho, tyL J.hp, p, vs, rfl, rfl, J.hp, tail _ _ ⟨F0, J.st.wr sf J.n⟩⟩
end

end T

namespace T
open PySem PySem.Spec PyProof.Rows L2
local macro_rules | `(tactic| walk_at "side") => `(tactic| first | with_reducible assumption | omega | (dsimp only; omega) | exact CMul_l (by omega) (by omega) | exact CMul_r (by omega) (by omega) | (refine' (⟨?_, ?_⟩ : CDivN _ _) <;> omega) | (refine' (⟨?_, ?_, ?_⟩ : CPow _ _) <;> first | decide | omega) | (simp; done))
local macro_rules | `(tactic| walk_at "op") => `(tactic| first
  | ((with_reducible refine' oI0 (t := rI) ?c); (case c => exact fun _ => rfl))
  | ((with_reducible refine' oI0 (t := rB) ?c); (case c => exact fun _ => rfl))
  | ((with_reducible refine' oL (oI0 (t := rI) ?c)); (case c => exact fun _ => rfl))
  | ((with_reducible refine' oI (t := rI) ?c ?d); (case d => exact fun _ => rfl); (case c => walk_at "side"))
  | ((with_reducible refine' oL (oI (t := rI) ?c ?d)); (case d => exact fun _ => rfl); (case c => walk_at "side"))
  | with_reducible exact o_eqI | with_reducible exact oL o_eqI | with_reducible exact o_neI | with_reducible exact oL o_neI | with_reducible exact o_isN | with_reducible exact o_notN
  | with_reducible exact o_ix20' | with_reducible exact o_ix21' | with_reducible exact o_ix30' | with_reducible exact o_ix31' | with_reducible exact o_ix32'
  | ((with_reducible refine' o_ixL' ?s); (case s => walk_at "side"))
  | ((with_reducible refine' o_ixT' ?s); (case s => walk_at "side"))
  | ((with_reducible refine' o_ixQ' ?s); (case s => walk_at "side"))
  | ((with_reducible refine' o_ixM' ?h ?s); (case h => walk_at "mj"); (case s => walk_at "side"))
  | walk_at "op2")
local macro_rules | `(tactic| walk_at "mj") => `(tactic| first | exact mj0 | exact mj1 | exact mj2 | exact mj3)
local macro_rules | `(tactic| walk_at "ca") => `(tactic| first
  | with_reducible exact c_lenL | with_reducible exact c_lenT | with_reducible exact c_lenQ | ((with_reducible refine' c_lenM ?h); (case h => walk_at "mj")) | with_reducible exact c_int | with_reducible exact c_tupL | ((with_reducible refine' c_tupM ?h); (case h => walk_at "mj"))
  | with_reducible exact c_all | with_reducible exact c_max2 | with_reducible exact c_min2 | walk_at "ca2")
local macro_rules | `(tactic| walk_at "ea") => `(tactic| first
  | with_reducible exact ea_nil
  | ((with_reducible refine' ea_cons ?h1 ?h2); (case h1 => walk_at "ev"); (case h2 => walk_at "ea")))
local macro_rules | `(tactic| walk_at "ev") => `(tactic| first
  | ((with_reducible refine' ev_var ?h); (case h => exact rfl))
  | with_reducible exact ev_int | with_reducible exact ev_bl | with_reducible exact ev_non | with_reducible exact ev_str | with_reducible exact ev_val
  | with_reducible assumption
  | ((with_reducible refine' ev_op ?h1 ?h2 ?h3); (case h1 => walk_at "ev"); (case h2 => walk_at "ev"); (case h3 => walk_at "op"))
  | ((with_reducible refine' ev_ca ?h1 ?h2); (case h1 => walk_at "ea"); (case h2 => walk_at "ca"))
  | ((with_reducible refine' ev_neg ?h1); (case h1 => walk_at "ev"))
  | ((with_reducible refine' ev_chain ?h1 ?h2 ?h3 ?h4 ?h5); (case h1 => walk_at "ev"); (case h2 => walk_at "ev"); (case h3 => walk_at "op"); (case h4 => walk_at "ev"); (case h5 => walk_at "op"))
  | ((with_reducible refine' ev_tup2 ?h1); (case h1 => walk_at "ea"))
  | ((with_reducible refine' ev_tup3 ?h1); (case h1 => walk_at "ea"))
  | ((with_reducible refine' ev_notV ?h1); (case h1 => walk_at "ev"))
  | ((with_reducible refine' ev_andV ?h1 (fun _ => ?h2)); (case h1 => walk_at "ev"); (case h2 => walk_at "ev"))
  | ((with_reducible refine' ev_orV ?h1 (fun _ => ?h2)); (case h1 => walk_at "ev"); (case h2 => walk_at "ev"))
  | ((with_reducible refine' ev_frzL ?h1); (case h1 => walk_at "evm"))
  | walk_at "ev2")
local macro_rules | `(tactic| walk_at "et") => `(tactic| first
  | ((with_reducible refine' et_test ?h1); (case h1 => walk_at "ev"))
  | ((with_reducible refine' et_B ?h1); (case h1 => walk_at "ev"))
  | ((with_reducible refine' et_not ?h1); (case h1 => walk_at "et"))
  | ((with_reducible refine' et_and ?h1 (fun _ => ?h2)); (case h1 => walk_at "et"); (case h2 => walk_at "et"))
  | ((with_reducible refine' et_or ?h1 (fun _ => ?h2)); (case h1 => walk_at "et"); (case h2 => walk_at "et")))
local macro_rules | `(tactic| walk_at "ca2") => `(tactic| fail "ca2")
local macro_rules | `(tactic| walk_at "ca2") => `(tactic| first | with_reducible exact c_isi_ii | with_reducible exact c_isi_ib | with_reducible exact c_isi_ll | ((with_reducible refine' c_lenD ?h); (case h => walk_at "mj")))
local macro_rules | `(tactic| walk_at "op2") => `(tactic| fail "op2")
local macro_rules | `(tactic| walk_at "ev2") => `(tactic| fail "ev2")
local macro_rules | `(tactic| walk_at "evm2") => `(tactic| fail "evm2")
local macro_rules | `(tactic| walk_at "evm") => `(tactic| first
  | with_reducible exact ev_lst0 _
  | ((with_reducible refine' ev_lst1 ?h1); (case h1 => walk_at "ea"))
  | ((with_reducible refine' ev_lst2 ?h1); (case h1 => walk_at "ea"))
  | ((with_reducible refine' ev_lst3 ?h1); (case h1 => walk_at "ea"))
  | ((with_reducible refine' ev_lst4 ?h1); (case h1 => walk_at "ea"))
  | ((with_reducible refine' ev_lst5 ?h1); (case h1 => walk_at "ea"))
  | ((with_reducible refine' ev_lst6 ?h1); (case h1 => walk_at "ea"))
  | ((with_reducible refine' ev_lst7 ?h1); (case h1 => walk_at "ea"))
  | ((with_reducible refine' ev_lst8 ?h1); (case h1 => walk_at "ea"))
  | ((with_reducible refine' ev_opM ?h1 ?h2 (oRM (o_cat ?h3))); (case h1 => walk_at "ev"); (case h2 => walk_at "ev"); (case h3 => walk_at "side"))
  | walk_at "evm2")
local macro_rules | `(tactic| walk_at "cx") => `(tactic| dsimp only [cxOf, Cx.nox, Cx.wish, Cx.blk, List.map, List.cons_append, List.nil_append, List.append_nil, List.length_cons, List.length_nil, List.replicate, Nat.reduceSub, Nat.reduceAdd])
local macro_rules | `(tactic| walk_at "ls") => `(tactic| try dsimp only [List.set_cons_zero, List.set_cons_succ])
local macro_rules | `(tactic| walk_at "set") => `(tactic| (refine' go_seq (go_set1 ?h ?k); (case h => walk_at "ev"); walk_at "ls"))
local macro_rules | `(tactic| walk_at "set!") => `(tactic| (refine' go_set1 ?h ?k; (case h => walk_at "ev"); walk_at "ls"))
local macro_rules | `(tactic| walk_at "if") => `(tactic| (refine' go_seq (go_if ?c ?x ?y); (case c => walk_at "et")))
local macro_rules | `(tactic| walk_at "if!") => `(tactic| (refine' go_if ?c ?x ?y; (case c => walk_at "et")))
local macro_rules | `(tactic| walk_at "ret") => `(tactic| (refine' go_ret1 ?q ?h ?p ?e; (case e => exact rfl); (case q => assumption); (case h => walk_at "ev")))
local macro_rules | `(tactic| walk_at "nx") => `(tactic| (refine go_next ?_; try dsimp only))
local macro_rules | `(tactic| walk_at "sp") => `(tactic| fail "sp")
local macro_rules | `(tactic| walk_at "ev2") => `(tactic| ((with_reducible refine' ev_call1 ?h1 ?h2); (case h1 => walk_at "ea"); (case h2 => walk_at "sp")))
local macro_rules | `(tactic| walk_at "evm2") => `(tactic| ((with_reducible refine' ev_callM1 ?h1 ?h2); (case h1 => walk_at "ea"); (case h2 => walk_at "sp")))
local macro_rules | `(tactic| walk_at "setM") => `(tactic| (refine' go_seq (go_setM1 ?h ?k); (case h => walk_at "evm")))
local macro_rules | `(tactic| walk_at "setM!") => `(tactic| (refine' go_setM1 ?h ?k; (case h => walk_at "evm")))
local macro_rules | `(tactic| walk_at "app") => `(tactic| (refine' go_seq (go_app1 ?a ?b ?h ?z ?k); (case a => exact rfl); (case b => walk_at "mj"); (case h => walk_at "ev"); (case z => walk_at "sz"); walk_at "ls"))
local macro_rules | `(tactic| walk_at "app!") => `(tactic| (refine' go_app1 ?a ?b ?h ?z ?k; (case a => exact rfl); (case b => walk_at "mj"); (case h => walk_at "ev"); (case z => walk_at "sz"); walk_at "ls"))
local macro_rules | `(tactic| walk_at "sz") => `(tactic| (have hsz_ := sizeLine_eq; first | omega | (simp only [List.length_append, List.length_cons, List.length_nil, List.length_map, List.length_range]; omega)))
local macro_rules | `(tactic| walk_at "retV") => `(tactic| (refine' go_retV1 ?q ?a ?b ?p ?e; (case e => exact rfl); (case q => assumption); (case a => exact rfl); (case b => walk_at "mj")))
local macro_rules | `(tactic| walk_at "evm2") => `(tactic| ((with_reducible refine' ev_opM ?h1 ?h2 (oRM (o_rep ?h3 ?h4 ?h5))); (case h1 => walk_at "ev"); (case h2 => walk_at "ev"); (case h3 => walk_at "side"); (case h4 => walk_at "side"); (case h5 => walk_at "side")))
local macro_rules | `(tactic| walk_at "op2") => `(tactic| first | with_reducible exact o_eqLI | with_reducible exact o_neLI | with_reducible exact o_eqLLI | with_reducible exact o_neLLI | with_reducible exact o_inO)
local macro_rules | `(tactic| walk_at "ix") => `(tactic| first | exact mj0 | exact mj1 | exact mj2 | exact mj3 | exact mj4 | exact mj5 | exact mj6 | exact mj7 | exact mj8 | exact mj9 | exact mj10 | exact mj11 | exact mj12)
local macro_rules | `(tactic| walk_at "ev") => `(tactic| first | ((with_reducible refine' ev_varS ?s ?h); (case h => with_reducible walk_at "ix"); (case s => first | exact Same.refl _ | assumption)) | fail "no")
local macro_rules | `(tactic| walk_at "ev") => `(tactic| first | ((with_reducible refine' ev_varN ?h); (case h => with_reducible walk_at "ix")) | fail "no")
/-! ### the text -/
def topS (i : Nat) : Stmt := PySem.Challenge.pw_pinsalone_k63_first_words.main.body.getD i (.Pass ⟨0, 0, 0, 0⟩)
/-! letter_count: level 1; 0 table -/
abbrev s_letter_count : Stmt := topS 5
abbrev N_letter_count : List Str := ["table"]
theorem sc_letter_count : FnScope N_letter_count ["table"] (defScope s_letter_count) := ⟨rfl, rfl, rfl, by decide +kernel, rfl, by decide +kernel, by decide +kernel⟩
/-! state_count: level 1; 0 table -/
abbrev s_state_count : Stmt := topS 6
abbrev N_state_count : List Str := ["table"]
theorem sc_state_count : FnScope N_state_count ["table"] (defScope s_state_count) := ⟨rfl, rfl, rfl, by decide +kernel, rfl, by decide +kernel, by decide +kernel⟩
/-! is_word: level 2; 0 table, 1 word, 2 letter -/
abbrev s_is_word : Stmt := topS 7
abbrev N_is_word : List Str := ["table", "word", "letter"]
theorem sc_is_word : FnScope N_is_word ["table", "word"] (defScope s_is_word) := ⟨rfl, rfl, rfl, by decide +kernel, rfl, by decide +kernel, by decide +kernel⟩
/-! check_states: level 2; 0 table, 1 states, 2 state -/
abbrev s_check_states : Stmt := topS 8
abbrev N_check_states : List Str := ["table", "states", "state"]
theorem sc_check_states : FnScope N_check_states ["table", "states"] (defScope s_check_states) := ⟨rfl, rfl, rfl, by decide +kernel, rfl, by decide +kernel, by decide +kernel⟩
/-! check_words: level 3; 0 table, 1 words, 2 word -/
abbrev s_check_words : Stmt := topS 9
abbrev N_check_words : List Str := ["table", "words", "word"]
theorem sc_check_words : FnScope N_check_words ["table", "words"] (defScope s_check_words) := ⟨rfl, rfl, rfl, by decide +kernel, rfl, by decide +kernel, by decide +kernel⟩
/-! step: level 1; 0 table, 1 state, 2 letter -/
abbrev s_step : Stmt := topS 10
abbrev N_step : List Str := ["table", "state", "letter"]
theorem sc_step : FnScope N_step ["table", "state", "letter"] (defScope s_step) := ⟨rfl, rfl, rfl, by decide +kernel, rfl, by decide +kernel, by decide +kernel⟩
/-! run: level 2; 0 table, 1 state, 2 word, 3 answers, 4 letter, 5 answer -/
abbrev s_run : Stmt := topS 11
abbrev N_run : List Str := ["table", "state", "word", "answers", "letter", "answer"]
theorem sc_run : FnScope N_run ["table", "state", "word"] (defScope s_run) := ⟨rfl, rfl, rfl, by decide +kernel, rfl, by decide +kernel, by decide +kernel⟩
/-! state_after: level 4; 0 table, 1 state, 2 word -/
abbrev s_state_after : Stmt := topS 12
abbrev N_state_after : List Str := ["table", "state", "word"]
theorem sc_state_after : FnScope N_state_after ["table", "state", "word"] (defScope s_state_after) := ⟨rfl, rfl, rfl, by decide +kernel, rfl, by decide +kernel, by decide +kernel⟩
/-! reach: level 1; 0 table, 1 words, 2 states, 3 at, 4 letter, 5 pair -/
abbrev s_reach : Stmt := topS 14
abbrev N_reach : List Str := ["table", "words", "states", "at", "letter", "pair"]
theorem sc_reach : FnScope N_reach ["table"] (defScope s_reach) := ⟨rfl, rfl, rfl, by decide +kernel, rfl, by decide +kernel, by decide +kernel⟩
/-! first_words: level 2; 0 table, 1 words, 2 state -/
abbrev s_first_words : Stmt := topS 15
abbrev N_first_words : List Str := ["table", "words", "state"]
theorem sc_first_words : FnScope N_first_words ["table"] (defScope s_first_words) := ⟨rfl, rfl, rfl, by decide +kernel, rfl, by decide +kernel, by decide +kernel⟩
/-! _law_far: level 1; 0 script, 1 k -/
abbrev s_law_far : Stmt := topS 17
abbrev N_law_far : List Str := ["script", "k"]
theorem sc_law_far : FnScope N_law_far ["script", "k"] (defScope s_law_far) := ⟨rfl, rfl, rfl, by decide +kernel, rfl, by decide +kernel, by decide +kernel⟩
/-! _law_parts: level 1; 0 cell, 1 sizes, 2 parts, 3 rest, 4 k, 5 mixed -/
abbrev s_law_parts : Stmt := topS 18
abbrev N_law_parts : List Str := ["cell", "sizes", "parts", "rest", "k", "mixed"]
theorem sc_law_parts : FnScope N_law_parts ["cell", "sizes"] (defScope s_law_parts) := ⟨rfl, rfl, rfl, by decide +kernel, rfl, by decide +kernel, by decide +kernel⟩
/-! _law_is_integer: level 1; 0 actual -/
abbrev s_law_is_integer : Stmt := topS 19
abbrev N_law_is_integer : List Str := ["actual"]
theorem sc_law_is_integer : FnScope N_law_is_integer ["actual"] (defScope s_law_is_integer) := ⟨rfl, rfl, rfl, by decide +kernel, rfl, by decide +kernel, by decide +kernel⟩
/-! _law_answer: level 1; 0 mode, 1 top, 2 part -/
abbrev s_law_answer : Stmt := topS 20
abbrev N_law_answer : List Str := ["mode", "top", "part"]
theorem sc_law_answer : FnScope N_law_answer ["mode", "top", "part"] (defScope s_law_answer) := ⟨rfl, rfl, rfl, by decide +kernel, rfl, by decide +kernel, by decide +kernel⟩
/-! _law_table: level 2; 0 script, 1 at, 2 head, 3 top, 4 rows, 5 k, 6 parts, 7 row, 8 i -/
abbrev s_law_table : Stmt := topS 21
abbrev N_law_table : List Str := ["script", "at", "head", "top", "rows", "k", "parts", "row", "i"]
theorem sc_law_table : FnScope N_law_table ["script", "at", "head"] (defScope s_law_table) := ⟨rfl, rfl, rfl, by decide +kernel, rfl, by decide +kernel, by decide +kernel⟩
/-! _law_fewer: level 1; 0 table, 1 cell, 2 rows, 3 k, 4 pair -/
abbrev s_law_fewer : Stmt := topS 22
abbrev N_law_fewer : List Str := ["table", "cell", "rows", "k", "pair"]
theorem sc_law_fewer : FnScope N_law_fewer ["table", "cell"] (defScope s_law_fewer) := ⟨rfl, rfl, rfl, by decide +kernel, rfl, by decide +kernel, by decide +kernel⟩
/-! _law_left: level 1; 0 table, 1 target, 2 left, 3 turn, 4 before, 5 state, 6 pair -/
abbrev s_law_left : Stmt := topS 23
abbrev N_law_left : List Str := ["table", "target", "left", "turn", "before", "state", "pair"]
theorem sc_law_left : FnScope N_law_left ["table", "target"] (defScope s_law_left) := ⟨rfl, rfl, rfl, by decide +kernel, rfl, by decide +kernel, by decide +kernel⟩
/-! _law_due: level 2; 0 table, 1 target, 2 left, 3 word, 4 state, 5 turn, 6 marks, 7 pair -/
abbrev s_law_due : Stmt := topS 24
abbrev N_law_due : List Str := ["table", "target", "left", "word", "state", "turn", "marks", "pair"]
theorem sc_law_due : FnScope N_law_due ["table", "target"] (defScope s_law_due) := ⟨rfl, rfl, rfl, by decide +kernel, rfl, by decide +kernel, by decide +kernel⟩
/-! _law_before: level 1; 0 one, 1 other, 2 k -/
abbrev s_law_before : Stmt := topS 25
abbrev N_law_before : List Str := ["one", "other", "k"]
theorem sc_law_before : FnScope N_law_before ["one", "other"] (defScope s_law_before) := ⟨rfl, rfl, rfl, by decide +kernel, rfl, by decide +kernel, by decide +kernel⟩
/-! _law_is_due: level 2; 0 told, 1 due, 2 k, 3 item -/
abbrev s_law_is_due : Stmt := topS 26
abbrev N_law_is_due : List Str := ["told", "due", "k", "item"]
theorem sc_law_is_due : FnScope N_law_is_due ["told", "due"] (defScope s_law_is_due) := ⟨rfl, rfl, rfl, by decide +kernel, rfl, by decide +kernel, by decide +kernel⟩
/-! law: level 5; 0 script, 1 head, 2 inputs, 3 states, 4 table, 5 state, 6 due, 7 told, 8 word, 9 k, 10 part -/
abbrev s_law : Stmt := topS 27
abbrev N_law : List Str := ["script", "head", "inputs", "states", "table", "state", "due", "told", "word", "k", "part"]
theorem sc_law : FnScope N_law ["script"] (defScope s_law) := ⟨rfl, rfl, rfl, by decide +kernel, rfl, by decide +kernel, by decide +kernel⟩
/-! ### the names of the module that stand as they were, its constants -/
structure Bl (mg : Str → Option Value) : Prop where
  bValueError : mg "ValueError" = none
  ball : mg "all" = none
  bbool : mg "bool" = none
  benumerate : mg "enumerate" = none
  bint : mg "int" = none
  bisinstance : mg "isinstance" = none
  blen : mg "len" = none
  blist : mg "list" = none
  brange : mg "range" = none
  btuple : mg "tuple" = none
  kROWS : ∃ t, mg "ROWS" = some (.int 2 t)

end T

namespace T
open PySem PySem.Spec PyProof.Rows L2
local macro_rules | `(tactic| walk_at "side") => `(tactic| first | with_reducible assumption | omega | (dsimp only; omega) | exact CMul_l (by omega) (by omega) | exact CMul_r (by omega) (by omega) | (refine' (⟨?_, ?_⟩ : CDivN _ _) <;> omega) | (refine' (⟨?_, ?_, ?_⟩ : CPow _ _) <;> first | decide | omega) | (simp; done))
local macro_rules | `(tactic| walk_at "op") => `(tactic| first
  | ((with_reducible refine' oI0 (t := rI) ?c); (case c => exact fun _ => rfl))
  | ((with_reducible refine' oI0 (t := rB) ?c); (case c => exact fun _ => rfl))
  | ((with_reducible refine' oL (oI0 (t := rI) ?c)); (case c => exact fun _ => rfl))
  | ((with_reducible refine' oI (t := rI) ?c ?d); (case d => exact fun _ => rfl); (case c => walk_at "side"))
  | ((with_reducible refine' oL (oI (t := rI) ?c ?d)); (case d => exact fun _ => rfl); (case c => walk_at "side"))
  | with_reducible exact o_eqI | with_reducible exact oL o_eqI | with_reducible exact o_neI | with_reducible exact oL o_neI | with_reducible exact o_isN | with_reducible exact o_notN
  | with_reducible exact o_ix20' | with_reducible exact o_ix21' | with_reducible exact o_ix30' | with_reducible exact o_ix31' | with_reducible exact o_ix32'
  | ((with_reducible refine' o_ixL' ?s); (case s => walk_at "side"))
  | ((with_reducible refine' o_ixT' ?s); (case s => walk_at "side"))
  | ((with_reducible refine' o_ixQ' ?s); (case s => walk_at "side"))
  | ((with_reducible refine' o_ixM' ?h ?s); (case h => walk_at "mj"); (case s => walk_at "side"))
  | walk_at "op2")
local macro_rules | `(tactic| walk_at "mj") => `(tactic| first | exact mj0 | exact mj1 | exact mj2 | exact mj3)
local macro_rules | `(tactic| walk_at "ca") => `(tactic| first
  | with_reducible exact c_lenL | with_reducible exact c_lenT | with_reducible exact c_lenQ | ((with_reducible refine' c_lenM ?h); (case h => walk_at "mj")) | with_reducible exact c_int | with_reducible exact c_tupL | ((with_reducible refine' c_tupM ?h); (case h => walk_at "mj"))
  | with_reducible exact c_all | with_reducible exact c_max2 | with_reducible exact c_min2 | walk_at "ca2")
local macro_rules | `(tactic| walk_at "ea") => `(tactic| first
  | with_reducible exact ea_nil
  | ((with_reducible refine' ea_cons ?h1 ?h2); (case h1 => walk_at "ev"); (case h2 => walk_at "ea")))
local macro_rules | `(tactic| walk_at "ev") => `(tactic| first
  | ((with_reducible refine' ev_var ?h); (case h => exact rfl))
  | with_reducible exact ev_int | with_reducible exact ev_bl | with_reducible exact ev_non | with_reducible exact ev_str | with_reducible exact ev_val
  | with_reducible assumption
  | ((with_reducible refine' ev_op ?h1 ?h2 ?h3); (case h1 => walk_at "ev"); (case h2 => walk_at "ev"); (case h3 => walk_at "op"))
  | ((with_reducible refine' ev_ca ?h1 ?h2); (case h1 => walk_at "ea"); (case h2 => walk_at "ca"))
  | ((with_reducible refine' ev_neg ?h1); (case h1 => walk_at "ev"))
  | ((with_reducible refine' ev_chain ?h1 ?h2 ?h3 ?h4 ?h5); (case h1 => walk_at "ev"); (case h2 => walk_at "ev"); (case h3 => walk_at "op"); (case h4 => walk_at "ev"); (case h5 => walk_at "op"))
  | ((with_reducible refine' ev_tup2 ?h1); (case h1 => walk_at "ea"))
  | ((with_reducible refine' ev_tup3 ?h1); (case h1 => walk_at "ea"))
  | ((with_reducible refine' ev_notV ?h1); (case h1 => walk_at "ev"))
  | ((with_reducible refine' ev_andV ?h1 (fun _ => ?h2)); (case h1 => walk_at "ev"); (case h2 => walk_at "ev"))
  | ((with_reducible refine' ev_orV ?h1 (fun _ => ?h2)); (case h1 => walk_at "ev"); (case h2 => walk_at "ev"))
  | ((with_reducible refine' ev_frzL ?h1); (case h1 => walk_at "evm"))
  | walk_at "ev2")
local macro_rules | `(tactic| walk_at "et") => `(tactic| first
  | ((with_reducible refine' et_test ?h1); (case h1 => walk_at "ev"))
  | ((with_reducible refine' et_B ?h1); (case h1 => walk_at "ev"))
  | ((with_reducible refine' et_not ?h1); (case h1 => walk_at "et"))
  | ((with_reducible refine' et_and ?h1 (fun _ => ?h2)); (case h1 => walk_at "et"); (case h2 => walk_at "et"))
  | ((with_reducible refine' et_or ?h1 (fun _ => ?h2)); (case h1 => walk_at "et"); (case h2 => walk_at "et")))
local macro_rules | `(tactic| walk_at "ca2") => `(tactic| fail "ca2")
local macro_rules | `(tactic| walk_at "ca2") => `(tactic| first | with_reducible exact c_isi_ii | with_reducible exact c_isi_ib | with_reducible exact c_isi_ll | ((with_reducible refine' c_lenD ?h); (case h => walk_at "mj")))
local macro_rules | `(tactic| walk_at "op2") => `(tactic| fail "op2")
local macro_rules | `(tactic| walk_at "ev2") => `(tactic| fail "ev2")
local macro_rules | `(tactic| walk_at "evm2") => `(tactic| fail "evm2")
local macro_rules | `(tactic| walk_at "evm") => `(tactic| first
  | with_reducible exact ev_lst0 _
  | ((with_reducible refine' ev_lst1 ?h1); (case h1 => walk_at "ea"))
  | ((with_reducible refine' ev_lst2 ?h1); (case h1 => walk_at "ea"))
  | ((with_reducible refine' ev_lst3 ?h1); (case h1 => walk_at "ea"))
  | ((with_reducible refine' ev_lst4 ?h1); (case h1 => walk_at "ea"))
  | ((with_reducible refine' ev_lst5 ?h1); (case h1 => walk_at "ea"))
  | ((with_reducible refine' ev_lst6 ?h1); (case h1 => walk_at "ea"))
  | ((with_reducible refine' ev_lst7 ?h1); (case h1 => walk_at "ea"))
  | ((with_reducible refine' ev_lst8 ?h1); (case h1 => walk_at "ea"))
  | ((with_reducible refine' ev_opM ?h1 ?h2 (oRM (o_cat ?h3))); (case h1 => walk_at "ev"); (case h2 => walk_at "ev"); (case h3 => walk_at "side"))
  | walk_at "evm2")
local macro_rules | `(tactic| walk_at "cx") => `(tactic| dsimp only [cxOf, Cx.nox, Cx.wish, Cx.blk, List.map, List.cons_append, List.nil_append, List.append_nil, List.length_cons, List.length_nil, List.replicate, Nat.reduceSub, Nat.reduceAdd])
local macro_rules | `(tactic| walk_at "ls") => `(tactic| try dsimp only [List.set_cons_zero, List.set_cons_succ])
local macro_rules | `(tactic| walk_at "set") => `(tactic| (refine' go_seq (go_set1 ?h ?k); (case h => walk_at "ev"); walk_at "ls"))
local macro_rules | `(tactic| walk_at "set!") => `(tactic| (refine' go_set1 ?h ?k; (case h => walk_at "ev"); walk_at "ls"))
local macro_rules | `(tactic| walk_at "if") => `(tactic| (refine' go_seq (go_if ?c ?x ?y); (case c => walk_at "et")))
local macro_rules | `(tactic| walk_at "if!") => `(tactic| (refine' go_if ?c ?x ?y; (case c => walk_at "et")))
local macro_rules | `(tactic| walk_at "ret") => `(tactic| (refine' go_ret1 ?q ?h ?p ?e; (case e => exact rfl); (case q => assumption); (case h => walk_at "ev")))
local macro_rules | `(tactic| walk_at "nx") => `(tactic| (refine go_next ?_; try dsimp only))
local macro_rules | `(tactic| walk_at "sp") => `(tactic| fail "sp")
local macro_rules | `(tactic| walk_at "ev2") => `(tactic| ((with_reducible refine' ev_call1 ?h1 ?h2); (case h1 => walk_at "ea"); (case h2 => walk_at "sp")))
local macro_rules | `(tactic| walk_at "evm2") => `(tactic| ((with_reducible refine' ev_callM1 ?h1 ?h2); (case h1 => walk_at "ea"); (case h2 => walk_at "sp")))
local macro_rules | `(tactic| walk_at "setM") => `(tactic| (refine' go_seq (go_setM1 ?h ?k); (case h => walk_at "evm")))
local macro_rules | `(tactic| walk_at "setM!") => `(tactic| (refine' go_setM1 ?h ?k; (case h => walk_at "evm")))
local macro_rules | `(tactic| walk_at "app") => `(tactic| (refine' go_seq (go_app1 ?a ?b ?h ?z ?k); (case a => exact rfl); (case b => walk_at "mj"); (case h => walk_at "ev"); (case z => walk_at "sz"); walk_at "ls"))
local macro_rules | `(tactic| walk_at "app!") => `(tactic| (refine' go_app1 ?a ?b ?h ?z ?k; (case a => exact rfl); (case b => walk_at "mj"); (case h => walk_at "ev"); (case z => walk_at "sz"); walk_at "ls"))
local macro_rules | `(tactic| walk_at "sz") => `(tactic| (have hsz_ := sizeLine_eq; first | omega | (simp only [List.length_append, List.length_cons, List.length_nil, List.length_map, List.length_range]; omega)))
local macro_rules | `(tactic| walk_at "retV") => `(tactic| (refine' go_retV1 ?q ?a ?b ?p ?e; (case e => exact rfl); (case q => assumption); (case a => exact rfl); (case b => walk_at "mj")))
local macro_rules | `(tactic| walk_at "evm2") => `(tactic| ((with_reducible refine' ev_opM ?h1 ?h2 (oRM (o_rep ?h3 ?h4 ?h5))); (case h1 => walk_at "ev"); (case h2 => walk_at "ev"); (case h3 => walk_at "side"); (case h4 => walk_at "side"); (case h5 => walk_at "side")))
local macro_rules | `(tactic| walk_at "op2") => `(tactic| first | with_reducible exact o_eqLI | with_reducible exact o_neLI | with_reducible exact o_eqLLI | with_reducible exact o_neLLI | with_reducible exact o_inO)
local macro_rules | `(tactic| walk_at "ix") => `(tactic| first | exact mj0 | exact mj1 | exact mj2 | exact mj3 | exact mj4 | exact mj5 | exact mj6 | exact mj7 | exact mj8 | exact mj9 | exact mj10 | exact mj11 | exact mj12)
local macro_rules | `(tactic| walk_at "ev") => `(tactic| first | ((with_reducible refine' ev_varS ?s ?h); (case h => with_reducible walk_at "ix"); (case s => first | exact Same.refl _ | assumption)) | fail "no")
local macro_rules | `(tactic| walk_at "ev") => `(tactic| first | ((with_reducible refine' ev_varN ?h); (case h => with_reducible walk_at "ix")) | fail "no")
/-! ### _law_far, _law_parts -/
def far (ns : List Int) (k : Int) : Int := if ns.length = 0 then 97 * k + 5 else if k < ns.length then ns.getD k.toNat 0 else ns.getD (k.fmod ns.length).toNat 0 + 1000003 * k
def S_far (K : PySem.W.Frag) (ars : List Sl) (post : Int → Prop) : Prop := ∃ (ns : List Int) (k : Int), ars = [sl (rQ K) ns, sl rI k] ∧ 0 ≤ k ∧ post = fun y => y = far ns k
theorem getD_at {ns : List Int} {k : Int} (h0 : 0 ≤ k) (h : k < ns.length) : atI ns k = some (ns.getD k.toNat 0) := by
  have e : k = ((k.toNat : Nat) : Int) := by omega
  have hk : k.toNat < ns.length := by omega
  have h2 : ns[k.toNat]? = some (ns.getD k.toNat 0) := by
    rw [List.getD_eq_getElem?_getD, List.getElem?_eq_getElem hk]
    rfl
  have h3 := atI_nat h2
  rw [← e] at h3
  exact h3
section
variable {P : Program} {w : World} {K : PySem.W.Frag} {mg : Str → Option Value} {base : Heap}
theorem ok_far (B : Bl mg) {f : Addr} {fd : FuncData} (F : Fun K "_law_far" "_law_far" s_law_far f fd) : FnOk P w K mg base CX0 1 f fd ["script", "k"] (mkSp rI (S_far K)) := by
  refine def_ok F sc_law_far (fun _ _ ⟨_, _, h, _⟩ => by rw [h]; rfl) fun cdv A outer s H E hr => ?_
  refine ⟨_, (pss_cons (ps_if (pt_cmpR (op_eqA hr.units) (pe_callB call_len (by rfl) B.blen PySem.boot_len (pa_cons (pv 0) pa_nil)) pe_int (nomark _))
        (pss_one (ps_ret (pe_op op_addA (pe_op op_mulA pe_int (pv 1)) pe_int))) pss_nil)
      (pss_cons (ps_if (pt_cmpR op_lt (pv 1) (pe_callB call_len (by rfl) B.blen PySem.boot_len (pa_cons (pv 0) pa_nil)) (nomark _))
        (pss_one (ps_ret (pe_ix ix_seq (pv 0) (pv 1) (fun _ _ => rfl)))) pss_nil)
      (pss_one (ps_ret (pe_op op_addA (pe_ix ix_seq (pv 0) (pe_op op_modN (pe_callTy call_int1 (by rfl) B.bint (by decide +kernel) (pa_cons (pv 1) pa_nil)) (pe_callB call_len (by rfl) B.blen PySem.boot_len (pa_cons (pv 0) pa_nil))) (fun _ _ => rfl)) (pe_op op_mulA pe_int (pv 1))))))), ?_⟩
  intro F0 ars post Q ⟨ns, k, ea, h0, ep⟩ hQ
  subst ea ep
  walk_at "cx"
  walk_at "if"
  case x =>
    intro hyes
    have h : (ns.length : Int) = 0 := of_decide_eq_true hyes
    walk_at "ret"
    show _ = far ns k
    unfold far
    rw [if_pos (by omega)]
  intro hno
  have h : ¬ (ns.length : Int) = 0 := of_decide_eq_false hno
  walk_at "nx"
  walk_at "if"
  case x =>
    intro hyes
    have h2 : k < (ns.length : Int) := of_decide_eq_true hyes
    have g := getD_at h0 h2
    walk_at "ret"
    show _ = far ns k
    unfold far
    rw [if_neg (by omega), if_pos h2]
  intro hno
  have h2 : ¬ k < (ns.length : Int) := of_decide_eq_false hno
  walk_at "nx"
  have e1 : k.fmod ns.length = k % ns.length := Int.fmod_eq_emod_of_nonneg _ (by omega)
  have h3 : 0 ≤ k.fmod ns.length := by rw [e1]; exact Int.emod_nonneg _ h
  have h4 : k.fmod ns.length < ns.length := by rw [e1]; exact Int.emod_lt_of_pos _ (by omega)
  have g := getD_at h3 h4
  walk_at "ret"
  show _ = far ns k
  unfold far
  rw [if_neg (by omega), if_neg h2]
end

end T

namespace T
open PySem PySem.Spec PyProof.Rows L2
local macro_rules | `(tactic| walk_at "side") => `(tactic| first | with_reducible assumption | omega | (dsimp only; omega) | exact CMul_l (by omega) (by omega) | exact CMul_r (by omega) (by omega) | (refine' (⟨?_, ?_⟩ : CDivN _ _) <;> omega) | (refine' (⟨?_, ?_, ?_⟩ : CPow _ _) <;> first | decide | omega) | (simp; done))
local macro_rules | `(tactic| walk_at "op") => `(tactic| first
  | ((with_reducible refine' oI0 (t := rI) ?c); (case c => exact fun _ => rfl))
  | ((with_reducible refine' oI0 (t := rB) ?c); (case c => exact fun _ => rfl))
  | ((with_reducible refine' oL (oI0 (t := rI) ?c)); (case c => exact fun _ => rfl))
  | ((with_reducible refine' oI (t := rI) ?c ?d); (case d => exact fun _ => rfl); (case c => walk_at "side"))
  | ((with_reducible refine' oL (oI (t := rI) ?c ?d)); (case d => exact fun _ => rfl); (case c => walk_at "side"))
  | with_reducible exact o_eqI | with_reducible exact oL o_eqI | with_reducible exact o_neI | with_reducible exact oL o_neI | with_reducible exact o_isN | with_reducible exact o_notN
  | with_reducible exact o_ix20' | with_reducible exact o_ix21' | with_reducible exact o_ix30' | with_reducible exact o_ix31' | with_reducible exact o_ix32'
  | ((with_reducible refine' o_ixL' ?s); (case s => walk_at "side"))
  | ((with_reducible refine' o_ixT' ?s); (case s => walk_at "side"))
  | ((with_reducible refine' o_ixQ' ?s); (case s => walk_at "side"))
  | ((with_reducible refine' o_ixM' ?h ?s); (case h => walk_at "mj"); (case s => walk_at "side"))
  | walk_at "op2")
local macro_rules | `(tactic| walk_at "mj") => `(tactic| first | exact mj0 | exact mj1 | exact mj2 | exact mj3)
local macro_rules | `(tactic| walk_at "ca") => `(tactic| first
  | with_reducible exact c_lenL | with_reducible exact c_lenT | with_reducible exact c_lenQ | ((with_reducible refine' c_lenM ?h); (case h => walk_at "mj")) | with_reducible exact c_int | with_reducible exact c_tupL | ((with_reducible refine' c_tupM ?h); (case h => walk_at "mj"))
  | with_reducible exact c_all | with_reducible exact c_max2 | with_reducible exact c_min2 | walk_at "ca2")
local macro_rules | `(tactic| walk_at "ea") => `(tactic| first
  | with_reducible exact ea_nil
  | ((with_reducible refine' ea_cons ?h1 ?h2); (case h1 => walk_at "ev"); (case h2 => walk_at "ea")))
local macro_rules | `(tactic| walk_at "ev") => `(tactic| first
  | ((with_reducible refine' ev_var ?h); (case h => exact rfl))
  | with_reducible exact ev_int | with_reducible exact ev_bl | with_reducible exact ev_non | with_reducible exact ev_str | with_reducible exact ev_val
  | with_reducible assumption
  | ((with_reducible refine' ev_op ?h1 ?h2 ?h3); (case h1 => walk_at "ev"); (case h2 => walk_at "ev"); (case h3 => walk_at "op"))
  | ((with_reducible refine' ev_ca ?h1 ?h2); (case h1 => walk_at "ea"); (case h2 => walk_at "ca"))
  | ((with_reducible refine' ev_neg ?h1); (case h1 => walk_at "ev"))
  | ((with_reducible refine' ev_chain ?h1 ?h2 ?h3 ?h4 ?h5); (case h1 => walk_at "ev"); (case h2 => walk_at "ev"); (case h3 => walk_at "op"); (case h4 => walk_at "ev"); (case h5 => walk_at "op"))
  | ((with_reducible refine' ev_tup2 ?h1); (case h1 => walk_at "ea"))
  | ((with_reducible refine' ev_tup3 ?h1); (case h1 => walk_at "ea"))
  | ((with_reducible refine' ev_notV ?h1); (case h1 => walk_at "ev"))
  | ((with_reducible refine' ev_andV ?h1 (fun _ => ?h2)); (case h1 => walk_at "ev"); (case h2 => walk_at "ev"))
  | ((with_reducible refine' ev_orV ?h1 (fun _ => ?h2)); (case h1 => walk_at "ev"); (case h2 => walk_at "ev"))
  | ((with_reducible refine' ev_frzL ?h1); (case h1 => walk_at "evm"))
  | walk_at "ev2")
local macro_rules | `(tactic| walk_at "et") => `(tactic| first
  | ((with_reducible refine' et_test ?h1); (case h1 => walk_at "ev"))
  | ((with_reducible refine' et_B ?h1); (case h1 => walk_at "ev"))
  | ((with_reducible refine' et_not ?h1); (case h1 => walk_at "et"))
  | ((with_reducible refine' et_and ?h1 (fun _ => ?h2)); (case h1 => walk_at "et"); (case h2 => walk_at "et"))
  | ((with_reducible refine' et_or ?h1 (fun _ => ?h2)); (case h1 => walk_at "et"); (case h2 => walk_at "et")))
local macro_rules | `(tactic| walk_at "ca2") => `(tactic| fail "ca2")
local macro_rules | `(tactic| walk_at "ca2") => `(tactic| first | with_reducible exact c_isi_ii | with_reducible exact c_isi_ib | with_reducible exact c_isi_ll | ((with_reducible refine' c_lenD ?h); (case h => walk_at "mj")))
local macro_rules | `(tactic| walk_at "op2") => `(tactic| fail "op2")
local macro_rules | `(tactic| walk_at "ev2") => `(tactic| fail "ev2")
local macro_rules | `(tactic| walk_at "evm2") => `(tactic| fail "evm2")
local macro_rules | `(tactic| walk_at "evm") => `(tactic| first
  | with_reducible exact ev_lst0 _
  | ((with_reducible refine' ev_lst1 ?h1); (case h1 => walk_at "ea"))
  | ((with_reducible refine' ev_lst2 ?h1); (case h1 => walk_at "ea"))
  | ((with_reducible refine' ev_lst3 ?h1); (case h1 => walk_at "ea"))
  | ((with_reducible refine' ev_lst4 ?h1); (case h1 => walk_at "ea"))
  | ((with_reducible refine' ev_lst5 ?h1); (case h1 => walk_at "ea"))
  | ((with_reducible refine' ev_lst6 ?h1); (case h1 => walk_at "ea"))
  | ((with_reducible refine' ev_lst7 ?h1); (case h1 => walk_at "ea"))
  | ((with_reducible refine' ev_lst8 ?h1); (case h1 => walk_at "ea"))
  | ((with_reducible refine' ev_opM ?h1 ?h2 (oRM (o_cat ?h3))); (case h1 => walk_at "ev"); (case h2 => walk_at "ev"); (case h3 => walk_at "side"))
  | walk_at "evm2")
local macro_rules | `(tactic| walk_at "cx") => `(tactic| dsimp only [cxOf, Cx.nox, Cx.wish, Cx.blk, List.map, List.cons_append, List.nil_append, List.append_nil, List.length_cons, List.length_nil, List.replicate, Nat.reduceSub, Nat.reduceAdd])
local macro_rules | `(tactic| walk_at "ls") => `(tactic| try dsimp only [List.set_cons_zero, List.set_cons_succ])
local macro_rules | `(tactic| walk_at "set") => `(tactic| (refine' go_seq (go_set1 ?h ?k); (case h => walk_at "ev"); walk_at "ls"))
local macro_rules | `(tactic| walk_at "set!") => `(tactic| (refine' go_set1 ?h ?k; (case h => walk_at "ev"); walk_at "ls"))
local macro_rules | `(tactic| walk_at "if") => `(tactic| (refine' go_seq (go_if ?c ?x ?y); (case c => walk_at "et")))
local macro_rules | `(tactic| walk_at "if!") => `(tactic| (refine' go_if ?c ?x ?y; (case c => walk_at "et")))
local macro_rules | `(tactic| walk_at "ret") => `(tactic| (refine' go_ret1 ?q ?h ?p ?e; (case e => exact rfl); (case q => assumption); (case h => walk_at "ev")))
local macro_rules | `(tactic| walk_at "nx") => `(tactic| (refine go_next ?_; try dsimp only))
local macro_rules | `(tactic| walk_at "sp") => `(tactic| fail "sp")
local macro_rules | `(tactic| walk_at "ev2") => `(tactic| ((with_reducible refine' ev_call1 ?h1 ?h2); (case h1 => walk_at "ea"); (case h2 => walk_at "sp")))
local macro_rules | `(tactic| walk_at "evm2") => `(tactic| ((with_reducible refine' ev_callM1 ?h1 ?h2); (case h1 => walk_at "ea"); (case h2 => walk_at "sp")))
local macro_rules | `(tactic| walk_at "setM") => `(tactic| (refine' go_seq (go_setM1 ?h ?k); (case h => walk_at "evm")))
local macro_rules | `(tactic| walk_at "setM!") => `(tactic| (refine' go_setM1 ?h ?k; (case h => walk_at "evm")))
local macro_rules | `(tactic| walk_at "app") => `(tactic| (refine' go_seq (go_app1 ?a ?b ?h ?z ?k); (case a => exact rfl); (case b => walk_at "mj"); (case h => walk_at "ev"); (case z => walk_at "sz"); walk_at "ls"))
local macro_rules | `(tactic| walk_at "app!") => `(tactic| (refine' go_app1 ?a ?b ?h ?z ?k; (case a => exact rfl); (case b => walk_at "mj"); (case h => walk_at "ev"); (case z => walk_at "sz"); walk_at "ls"))
local macro_rules | `(tactic| walk_at "sz") => `(tactic| (have hsz_ := sizeLine_eq; first | omega | (simp only [List.length_append, List.length_cons, List.length_nil, List.length_map, List.length_range]; omega)))
local macro_rules | `(tactic| walk_at "retV") => `(tactic| (refine' go_retV1 ?q ?a ?b ?p ?e; (case e => exact rfl); (case q => assumption); (case a => exact rfl); (case b => walk_at "mj")))
local macro_rules | `(tactic| walk_at "evm2") => `(tactic| ((with_reducible refine' ev_opM ?h1 ?h2 (oRM (o_rep ?h3 ?h4 ?h5))); (case h1 => walk_at "ev"); (case h2 => walk_at "ev"); (case h3 => walk_at "side"); (case h4 => walk_at "side"); (case h5 => walk_at "side")))
local macro_rules | `(tactic| walk_at "op2") => `(tactic| first | with_reducible exact o_eqLI | with_reducible exact o_neLI | with_reducible exact o_eqLLI | with_reducible exact o_neLLI | with_reducible exact o_inO)
local macro_rules | `(tactic| walk_at "ix") => `(tactic| first | exact mj0 | exact mj1 | exact mj2 | exact mj3 | exact mj4 | exact mj5 | exact mj6 | exact mj7 | exact mj8 | exact mj9 | exact mj10 | exact mj11 | exact mj12)
local macro_rules | `(tactic| walk_at "ev") => `(tactic| first | ((with_reducible refine' ev_varS ?s ?h); (case h => with_reducible walk_at "ix"); (case s => first | exact Same.refl _ | assumption)) | fail "no")
local macro_rules | `(tactic| walk_at "ev") => `(tactic| first | ((with_reducible refine' ev_varN ?h); (case h => with_reducible walk_at "ix")) | fail "no")
def mixd (cell k : Int) : Int := (((cell * 48271 + k * 69621 + 11).fmod 2147483647 * (cell * 48271 + k * 69621 + 11).fmod 2147483647 + 16807 * k + 5).fmod 998244353)
def pstep (cell : Int) (k : Nat) (sz : Int) (s : List Int × Int) : List Int × Int :=
  if 0 ≤ s.2 then (s.1 ++ [s.2.fmod sz], s.2.fdiv sz) else (s.1 ++ [(mixd cell k).fmod sz], s.2)
def partsF (cell : Int) (ss : List Int) : Nat → List Int × Int
  | 0 => ([], cell - 10 ^ 18)
  | k + 1 => pstep cell k (ss.getD k 1) (partsF cell ss k)
def parts (cell : Int) (ss : List Int) : List Int := (partsF cell ss ss.length).1
theorem partsF_len (cell : Int) (ss : List Int) : ∀ k, (partsF cell ss k).1.length = k
  | 0 => rfl
  | k + 1 => by
    have ih := partsF_len cell ss k
    show (pstep cell k (ss.getD k 1) (partsF cell ss k)).1.length = k + 1
    unfold pstep
    split <;> simp [ih]
theorem parts_len (cell : Int) (ss : List Int) : (parts cell ss).length = ss.length := partsF_len cell ss _
theorem fmod_lt {a b : Int} (h : 0 < b) : 0 ≤ a.fmod b ∧ a.fmod b < b := by
  rw [Int.fmod_eq_emod_of_nonneg _ (by omega)]
  exact ⟨Int.emod_nonneg _ (by omega), Int.emod_lt_of_pos _ h⟩
theorem partsF_at (cell : Int) (ss : List Int) (hs : ∀ s ∈ ss, 0 < s) : ∀ (k : Nat), k ≤ ss.length → ∀ (i : Nat) (x : Int), (partsF cell ss k).1[i]? = some x → ∃ s, ss[i]? = some s ∧ 0 ≤ x ∧ x < s
  | 0, _, i, x, h => by simp [partsF] at h
  | k + 1, hk, i, x, h => by
    have ih := partsF_at cell ss hs k (by omega)
    have hl := partsF_len cell ss k
    have hlt : k < ss.length := by omega
    have es : ss[k]? = some (ss.getD k 1) := by rw [List.getD_eq_getElem?_getD, List.getElem?_eq_getElem hlt]; rfl
    have hpos : 0 < ss.getD k 1 := hs _ (List.mem_of_getElem? es)
    have key : ∀ y : Int, 0 ≤ y → y < ss.getD k 1 → ((partsF cell ss k).1 ++ [y])[i]? = some x → ∃ s, ss[i]? = some s ∧ 0 ≤ x ∧ x < s := fun y h0 h1 h => by
      by_cases hi : i < k
      · rw [List.getElem?_append_left (by omega)] at h
        exact ih i x h
      · rw [List.getElem?_append_right (by omega), hl] at h
        have e : i - k = 0 := by
          by_cases e : i - k = 0
          · exact e
          · rw [List.getElem?_eq_none (by simp; omega)] at h; cases h
        rw [e] at h
        have e2 : y = x := Option.some.inj h
        have e3 : i = k := by omega
        subst e3 e2
        exact ⟨_, es, h0, h1⟩
    have h' : (pstep cell k (ss.getD k 1) (partsF cell ss k)).1[i]? = some x := h
    unfold pstep at h'
    split at h'
    · exact key _ (fmod_lt hpos).1 (fmod_lt hpos).2 h'
    · exact key _ (fmod_lt hpos).1 (fmod_lt hpos).2 h'
theorem parts_at {cell : Int} {ss : List Int} (hs : ∀ s ∈ ss, 0 < s) {i : Nat} {s : Int} (h : ss[i]? = some s) : ∃ x, (parts cell ss)[i]? = some x ∧ 0 ≤ x ∧ x < s := by
  have hl := parts_len cell ss
  obtain ⟨hi, _⟩ := List.getElem?_eq_some_iff.mp h
  have hi' : i < (parts cell ss).length := by omega
  have e := List.getElem?_eq_getElem hi'
  obtain ⟨s', h1, h2, h3⟩ := partsF_at cell ss hs ss.length (Nat.le_refl _) i _ e
  rw [h] at h1
  cases h1
  exact ⟨_, e, h2, h3⟩
def S_parts (ars : List Sl) (post : List Int → Prop) : Prop := ∃ (c : Int) (ss : List Int), ars = [sl rI c, sl (rL rI) ss] ∧ (∀ s ∈ ss, 0 < s ∧ s < 1073741824) ∧ ss.length ≤ 1000000 ∧ post = fun y => y = parts c ss
section
variable {P : Program} {w : World} {K : PySem.W.Frag} {mg : Str → Option Value} {base : Heap}
theorem ok_parts (B : Bl mg) {f : Addr} {fd : FuncData} (F : Fun K "_law_parts" "_law_parts" s_law_parts f fd) : FnOk P w K mg base CX0 1 f fd ["cell", "sizes"] (mkSpM (mL rI) S_parts) := by
  refine def_okM F sc_law_parts (fun _ _ ⟨_, _, h, _⟩ => by rw [h]; rfl) fun cdv A outer s H E hr => ?_
  refine ⟨_, (pss_cons (ps_set (i := 2) sc_law_parts.nd rfl (.inl rfl) (pe_lst pa_nil))
      (pss_cons (ps_set (i := 3) sc_law_parts.nd rfl (.inl rfl) (pe_op op_sub (pv 0) (pe_op op_pow pe_int pe_int)))
      (pss_cons (ps_for PassesOwn.never rfl (pi_range1 (by rfl) B.brange (pa_cons (pe_callB call_len (by rfl) B.blen PySem.boot_len (pa_cons (pv 1) pa_nil)) pa_nil)) (pg_name (i := 4) sc_law_parts.nd rfl (.inl rfl))
        (pss_one (ps_if (pt_cmpR op_ge (pv 3) pe_int (nomark _))
          (pss_cons (ps_expr (pe_bm PySem.F.plainAttrs_list PySem.F.slot_list_append PySem.F.type_list_append mt_append (pv 2) (pa_cons (pe_op op_modN (pe_callTy call_int1 (by rfl) B.bint (by decide +kernel) (pa_cons (pv 3) pa_nil)) (pe_ix ix_seq (pv 1) (pv 4) (fun _ _ => rfl))) pa_nil)))
          (pss_one (ps_set (i := 3) sc_law_parts.nd rfl (.inl rfl) (pe_op op_fdivN (pv 3) (pe_ix ix_seq (pv 1) (pv 4) (fun _ _ => rfl)))))) (pss_cons (ps_set (i := 5) sc_law_parts.nd rfl (.inl rfl) (pe_op op_modN (pe_callTy call_int1 (by rfl) B.bint (by decide +kernel) (pa_cons (pe_op op_addA (pe_op op_addA (pe_op op_mulA (pv 0) pe_int) (pe_op op_mulA (pv 4) pe_int)) pe_int) pa_nil)) pe_int))
          (pss_cons (ps_set (i := 5) sc_law_parts.nd rfl (.inl rfl) (pe_op op_modN (pe_callTy call_int1 (by rfl) B.bint (by decide +kernel) (pa_cons (pe_op op_addA (pe_op op_addA (pe_op op_mulA (pv 5) (pv 5)) (pe_op op_mulA pe_int (pv 4))) pe_int) pa_nil)) pe_int))
          (pss_one (ps_expr (pe_bm PySem.F.plainAttrs_list PySem.F.slot_list_append PySem.F.type_list_append mt_append (pv 2) (pa_cons (pe_op op_modN (pe_callTy call_int1 (by rfl) B.bint (by decide +kernel) (pa_cons (pv 5) pa_nil)) (pe_ix ix_seq (pv 1) (pv 4) (fun _ _ => rfl))) pa_nil)))))))))
      (pss_one (ps_ret (pv 2)))))), ?_⟩
  intro F0 ars post Q ⟨c, ss, ea, hs, hl, ep⟩ hQ
  subst ea ep
  walk_at "cx"
  refine go_seq (go_setM1 (ev_lst0 rI) fun p => ?_)
  walk_at "ls"
  walk_at "set"
  refine' go_seq (go_range (n := ss.length) (fun k b => b = k) (fun k => [sl rI c, sl (rL rI) ss, sl rV (.ref p), sl rI (partsF c ss k).2, s_, s_]) (fun k => [(p, mL rI (partsF c ss k).1)]) ?ea ?hn 0 ?eL ?eM ?i0 ?hs ?hd)
  case ea => walk_at "ea"
  case hn => omega
  case eL => exact Wk.refl _
  case eM => rfl
  case i0 => rfl
  case hd =>
    intro b hb
    subst hb
    walk_at "ls"
    walk_at "retV"
    rfl
  case hs =>
    intro k b hk hb N hN
    subst hb
    walk_at "ls"
    have hlt : b < ss.length := hk
    have es : ss[b]? = some (ss.getD b 1) := by rw [List.getD_eq_getElem?_getD, List.getElem?_eq_getElem hlt]; rfl
    have hpos := hs _ (List.mem_of_getElem? es)
    have g := atI_nat es
    have hpl := partsF_len c ss b
    have hm := fmod_lt (a := c * 48271 + b * 69621 + 11) (b := 2147483647) (by decide)
    have hnx : partsF c ss (b + 1) = pstep c b (ss.getD b 1) (partsF c ss b) := rfl
    have fin := hN (b + 1) rfl
    rw [hnx] at fin
    walk_at "if!"
    case x =>
      intro hyes
      have hy : 0 ≤ (partsF c ss b).2 := of_decide_eq_true hyes
      have e : pstep c b (ss.getD b 1) (partsF c ss b) = ((partsF c ss b).1 ++ [(partsF c ss b).2.fmod (ss.getD b 1)], (partsF c ss b).2.fdiv (ss.getD b 1)) := by unfold pstep; rw [if_pos hy]
      rw [e] at fin
      walk_at "app"
      walk_at "set!"
      exact Go.weak (.same (.same (.same (.same (.drop (.drop .nil)))))) fin
    intro hno
    have hy : ¬ 0 ≤ (partsF c ss b).2 := of_decide_eq_false hno
    have e : pstep c b (ss.getD b 1) (partsF c ss b) = ((partsF c ss b).1 ++ [(mixd c b).fmod (ss.getD b 1)], (partsF c ss b).2) := by unfold pstep; rw [if_neg hy]
    rw [e] at fin
    walk_at "set"
    walk_at "set"
    walk_at "app!"
    exact Go.weak (.same (.same (.same (.same (.drop (.drop .nil)))))) fin
end

end T

namespace T
open PySem PySem.Spec PyProof.Rows L2
local macro_rules | `(tactic| walk_at "side") => `(tactic| first | with_reducible assumption | omega | (dsimp only; omega) | exact CMul_l (by omega) (by omega) | exact CMul_r (by omega) (by omega) | (refine' (⟨?_, ?_⟩ : CDivN _ _) <;> omega) | (refine' (⟨?_, ?_, ?_⟩ : CPow _ _) <;> first | decide | omega) | (simp; done))
local macro_rules | `(tactic| walk_at "op") => `(tactic| first
  | ((with_reducible refine' oI0 (t := rI) ?c); (case c => exact fun _ => rfl))
  | ((with_reducible refine' oI0 (t := rB) ?c); (case c => exact fun _ => rfl))
  | ((with_reducible refine' oL (oI0 (t := rI) ?c)); (case c => exact fun _ => rfl))
  | ((with_reducible refine' oI (t := rI) ?c ?d); (case d => exact fun _ => rfl); (case c => walk_at "side"))
  | ((with_reducible refine' oL (oI (t := rI) ?c ?d)); (case d => exact fun _ => rfl); (case c => walk_at "side"))
  | with_reducible exact o_eqI | with_reducible exact oL o_eqI | with_reducible exact o_neI | with_reducible exact oL o_neI | with_reducible exact o_isN | with_reducible exact o_notN
  | with_reducible exact o_ix20' | with_reducible exact o_ix21' | with_reducible exact o_ix30' | with_reducible exact o_ix31' | with_reducible exact o_ix32'
  | ((with_reducible refine' o_ixL' ?s); (case s => walk_at "side"))
  | ((with_reducible refine' o_ixT' ?s); (case s => walk_at "side"))
  | ((with_reducible refine' o_ixQ' ?s); (case s => walk_at "side"))
  | ((with_reducible refine' o_ixM' ?h ?s); (case h => walk_at "mj"); (case s => walk_at "side"))
  | walk_at "op2")
local macro_rules | `(tactic| walk_at "mj") => `(tactic| first | exact mj0 | exact mj1 | exact mj2 | exact mj3)
local macro_rules | `(tactic| walk_at "ca") => `(tactic| first
  | with_reducible exact c_lenL | with_reducible exact c_lenT | with_reducible exact c_lenQ | ((with_reducible refine' c_lenM ?h); (case h => walk_at "mj")) | with_reducible exact c_int | with_reducible exact c_tupL | ((with_reducible refine' c_tupM ?h); (case h => walk_at "mj"))
  | with_reducible exact c_all | with_reducible exact c_max2 | with_reducible exact c_min2 | walk_at "ca2")
local macro_rules | `(tactic| walk_at "ea") => `(tactic| first
  | with_reducible exact ea_nil
  | ((with_reducible refine' ea_cons ?h1 ?h2); (case h1 => walk_at "ev"); (case h2 => walk_at "ea")))
local macro_rules | `(tactic| walk_at "ev") => `(tactic| first
  | ((with_reducible refine' ev_var ?h); (case h => exact rfl))
  | with_reducible exact ev_int | with_reducible exact ev_bl | with_reducible exact ev_non | with_reducible exact ev_str | with_reducible exact ev_val
  | with_reducible assumption
  | ((with_reducible refine' ev_op ?h1 ?h2 ?h3); (case h1 => walk_at "ev"); (case h2 => walk_at "ev"); (case h3 => walk_at "op"))
  | ((with_reducible refine' ev_ca ?h1 ?h2); (case h1 => walk_at "ea"); (case h2 => walk_at "ca"))
  | ((with_reducible refine' ev_neg ?h1); (case h1 => walk_at "ev"))
  | ((with_reducible refine' ev_chain ?h1 ?h2 ?h3 ?h4 ?h5); (case h1 => walk_at "ev"); (case h2 => walk_at "ev"); (case h3 => walk_at "op"); (case h4 => walk_at "ev"); (case h5 => walk_at "op"))
  | ((with_reducible refine' ev_tup2 ?h1); (case h1 => walk_at "ea"))
  | ((with_reducible refine' ev_tup3 ?h1); (case h1 => walk_at "ea"))
  | ((with_reducible refine' ev_notV ?h1); (case h1 => walk_at "ev"))
  | ((with_reducible refine' ev_andV ?h1 (fun _ => ?h2)); (case h1 => walk_at "ev"); (case h2 => walk_at "ev"))
  | ((with_reducible refine' ev_orV ?h1 (fun _ => ?h2)); (case h1 => walk_at "ev"); (case h2 => walk_at "ev"))
  | ((with_reducible refine' ev_frzL ?h1); (case h1 => walk_at "evm"))
  | walk_at "ev2")
local macro_rules | `(tactic| walk_at "et") => `(tactic| first
  | ((with_reducible refine' et_test ?h1); (case h1 => walk_at "ev"))
  | ((with_reducible refine' et_B ?h1); (case h1 => walk_at "ev"))
  | ((with_reducible refine' et_not ?h1); (case h1 => walk_at "et"))
  | ((with_reducible refine' et_and ?h1 (fun _ => ?h2)); (case h1 => walk_at "et"); (case h2 => walk_at "et"))
  | ((with_reducible refine' et_or ?h1 (fun _ => ?h2)); (case h1 => walk_at "et"); (case h2 => walk_at "et")))
local macro_rules | `(tactic| walk_at "ca2") => `(tactic| fail "ca2")
local macro_rules | `(tactic| walk_at "ca2") => `(tactic| first | with_reducible exact c_isi_ii | with_reducible exact c_isi_ib | with_reducible exact c_isi_ll | ((with_reducible refine' c_lenD ?h); (case h => walk_at "mj")))
local macro_rules | `(tactic| walk_at "op2") => `(tactic| fail "op2")
local macro_rules | `(tactic| walk_at "ev2") => `(tactic| fail "ev2")
local macro_rules | `(tactic| walk_at "evm2") => `(tactic| fail "evm2")
local macro_rules | `(tactic| walk_at "evm") => `(tactic| first
  | with_reducible exact ev_lst0 _
  | ((with_reducible refine' ev_lst1 ?h1); (case h1 => walk_at "ea"))
  | ((with_reducible refine' ev_lst2 ?h1); (case h1 => walk_at "ea"))
  | ((with_reducible refine' ev_lst3 ?h1); (case h1 => walk_at "ea"))
  | ((with_reducible refine' ev_lst4 ?h1); (case h1 => walk_at "ea"))
  | ((with_reducible refine' ev_lst5 ?h1); (case h1 => walk_at "ea"))
  | ((with_reducible refine' ev_lst6 ?h1); (case h1 => walk_at "ea"))
  | ((with_reducible refine' ev_lst7 ?h1); (case h1 => walk_at "ea"))
  | ((with_reducible refine' ev_lst8 ?h1); (case h1 => walk_at "ea"))
  | ((with_reducible refine' ev_opM ?h1 ?h2 (oRM (o_cat ?h3))); (case h1 => walk_at "ev"); (case h2 => walk_at "ev"); (case h3 => walk_at "side"))
  | walk_at "evm2")
local macro_rules | `(tactic| walk_at "cx") => `(tactic| dsimp only [cxOf, Cx.nox, Cx.wish, Cx.blk, List.map, List.cons_append, List.nil_append, List.append_nil, List.length_cons, List.length_nil, List.replicate, Nat.reduceSub, Nat.reduceAdd])
local macro_rules | `(tactic| walk_at "ls") => `(tactic| try dsimp only [List.set_cons_zero, List.set_cons_succ])
local macro_rules | `(tactic| walk_at "set") => `(tactic| (refine' go_seq (go_set1 ?h ?k); (case h => walk_at "ev"); walk_at "ls"))
local macro_rules | `(tactic| walk_at "set!") => `(tactic| (refine' go_set1 ?h ?k; (case h => walk_at "ev"); walk_at "ls"))
local macro_rules | `(tactic| walk_at "if") => `(tactic| (refine' go_seq (go_if ?c ?x ?y); (case c => walk_at "et")))
local macro_rules | `(tactic| walk_at "if!") => `(tactic| (refine' go_if ?c ?x ?y; (case c => walk_at "et")))
local macro_rules | `(tactic| walk_at "ret") => `(tactic| (refine' go_ret1 ?q ?h ?p ?e; (case e => exact rfl); (case q => assumption); (case h => walk_at "ev")))
local macro_rules | `(tactic| walk_at "nx") => `(tactic| (refine go_next ?_; try dsimp only))
local macro_rules | `(tactic| walk_at "sp") => `(tactic| fail "sp")
local macro_rules | `(tactic| walk_at "ev2") => `(tactic| ((with_reducible refine' ev_call1 ?h1 ?h2); (case h1 => walk_at "ea"); (case h2 => walk_at "sp")))
local macro_rules | `(tactic| walk_at "evm2") => `(tactic| ((with_reducible refine' ev_callM1 ?h1 ?h2); (case h1 => walk_at "ea"); (case h2 => walk_at "sp")))
local macro_rules | `(tactic| walk_at "setM") => `(tactic| (refine' go_seq (go_setM1 ?h ?k); (case h => walk_at "evm")))
local macro_rules | `(tactic| walk_at "setM!") => `(tactic| (refine' go_setM1 ?h ?k; (case h => walk_at "evm")))
local macro_rules | `(tactic| walk_at "app") => `(tactic| (refine' go_seq (go_app1 ?a ?b ?h ?z ?k); (case a => exact rfl); (case b => walk_at "mj"); (case h => walk_at "ev"); (case z => walk_at "sz"); walk_at "ls"))
local macro_rules | `(tactic| walk_at "app!") => `(tactic| (refine' go_app1 ?a ?b ?h ?z ?k; (case a => exact rfl); (case b => walk_at "mj"); (case h => walk_at "ev"); (case z => walk_at "sz"); walk_at "ls"))
local macro_rules | `(tactic| walk_at "sz") => `(tactic| (have hsz_ := sizeLine_eq; first | omega | (simp only [List.length_append, List.length_cons, List.length_nil, List.length_map, List.length_range]; omega)))
local macro_rules | `(tactic| walk_at "retV") => `(tactic| (refine' go_retV1 ?q ?a ?b ?p ?e; (case e => exact rfl); (case q => assumption); (case a => exact rfl); (case b => walk_at "mj")))
local macro_rules | `(tactic| walk_at "evm2") => `(tactic| ((with_reducible refine' ev_opM ?h1 ?h2 (oRM (o_rep ?h3 ?h4 ?h5))); (case h1 => walk_at "ev"); (case h2 => walk_at "ev"); (case h3 => walk_at "side"); (case h4 => walk_at "side"); (case h5 => walk_at "side")))
local macro_rules | `(tactic| walk_at "op2") => `(tactic| first | with_reducible exact o_eqLI | with_reducible exact o_neLI | with_reducible exact o_eqLLI | with_reducible exact o_neLLI | with_reducible exact o_inO)
local macro_rules | `(tactic| walk_at "ix") => `(tactic| first | exact mj0 | exact mj1 | exact mj2 | exact mj3 | exact mj4 | exact mj5 | exact mj6 | exact mj7 | exact mj8 | exact mj9 | exact mj10 | exact mj11 | exact mj12)
local macro_rules | `(tactic| walk_at "ev") => `(tactic| first | ((with_reducible refine' ev_varS ?s ?h); (case h => with_reducible walk_at "ix"); (case s => first | exact Same.refl _ | assumption)) | fail "no")
local macro_rules | `(tactic| walk_at "ev") => `(tactic| first | ((with_reducible refine' ev_varN ?h); (case h => with_reducible walk_at "ix")) | fail "no")
/-! ### _law_is_integer -/
def S_ii (ars : List Sl) (post : Bool → Prop) : Prop := ∃ (i : Int), ars = [sl rI i] ∧ post = fun y => y = true
theorem S_ii_i {i : Int} : S_ii [sl rI i] (fun y => y = true) := ⟨i, rfl, rfl⟩
local macro_rules | `(tactic| walk_at "sp") => `(tactic| with_reducible exact S_ii_i)
/-- S_parts for told sizes -/
theorem S_parts_i {c : Int} {ss : List Int} (h : ∀ s ∈ ss, 0 < s ∧ s < 1073741824) (h2 : ss.length ≤ 1000000) : S_parts [sl rI c, sl (rL rI) ss] (fun y => y = parts c ss) := ⟨c, ss, rfl, h, h2, rfl⟩
local macro_rules | `(tactic| walk_at "sp") => `(tactic| ((with_reducible refine' S_parts_i ?a ?b); (case a => first | assumption | (simp; done)); (case b => first | assumption | (simp; done) | omega)))
theorem S_far_i {K : PySem.W.Frag} {ns : List Int} {k : Int} (h : 0 ≤ k) : S_far K [sl (rQ K) ns, sl rI k] (fun y => y = far ns k) := ⟨ns, k, rfl, h, rfl⟩
local macro_rules | `(tactic| walk_at "sp") => `(tactic| ((with_reducible refine' S_far_i ?a); (case a => walk_at "side")))
section
variable {P : Program} {w : World} {K : PySem.W.Frag} {mg : Str → Option Value} {base : Heap}
theorem ok_is_integer (B : Bl mg) {f : Addr} {fd : FuncData} (F : Fun K "_law_is_integer" "_law_is_integer" s_law_is_integer f fd) : FnOk P w K mg base CX0 1 f fd ["actual"] (mkSp rB S_ii) := by
  refine def_ok F sc_law_is_integer (fun _ _ ⟨_, h, _⟩ => by rw [h]; rfl) fun cdv A outer s H E hr => ?_
  refine ⟨_, (pss_one (ps_ret (pe_and (pe_callB call_isi (by rfl) B.bisinstance (by decide +kernel) (pa_cons (pv 0) (pa_cons (pe_bltn (v := .ty "int") (by rfl) B.bint (by decide +kernel) rfl) pa_nil))) (pe_one (pe_not (pe_callB call_isi (by rfl) B.bisinstance (by decide +kernel) (pa_cons (pv 0) (pa_cons (pe_bltn (v := .ty "bool") (by rfl) B.bbool (by decide +kernel) rfl) pa_nil)))))))), ?_⟩
  intro F0 ars post Q ⟨i, ea, ep⟩ hQ
  subst ea ep
  walk_at "cx"
  refine' go_ret1 hQ (y := true && !false) ?h rfl rfl
  case h => walk_at "ev"
end

end T

namespace T
open PySem PySem.Spec PyProof.Rows L2
local macro_rules | `(tactic| walk_at "side") => `(tactic| first | with_reducible assumption | omega | (dsimp only; omega) | exact CMul_l (by omega) (by omega) | exact CMul_r (by omega) (by omega) | (refine' (⟨?_, ?_⟩ : CDivN _ _) <;> omega) | (refine' (⟨?_, ?_, ?_⟩ : CPow _ _) <;> first | decide | omega) | (simp; done))
local macro_rules | `(tactic| walk_at "op") => `(tactic| first
  | ((with_reducible refine' oI0 (t := rI) ?c); (case c => exact fun _ => rfl))
  | ((with_reducible refine' oI0 (t := rB) ?c); (case c => exact fun _ => rfl))
  | ((with_reducible refine' oL (oI0 (t := rI) ?c)); (case c => exact fun _ => rfl))
  | ((with_reducible refine' oI (t := rI) ?c ?d); (case d => exact fun _ => rfl); (case c => walk_at "side"))
  | ((with_reducible refine' oL (oI (t := rI) ?c ?d)); (case d => exact fun _ => rfl); (case c => walk_at "side"))
  | with_reducible exact o_eqI | with_reducible exact oL o_eqI | with_reducible exact o_neI | with_reducible exact oL o_neI | with_reducible exact o_isN | with_reducible exact o_notN
  | with_reducible exact o_ix20' | with_reducible exact o_ix21' | with_reducible exact o_ix30' | with_reducible exact o_ix31' | with_reducible exact o_ix32'
  | ((with_reducible refine' o_ixL' ?s); (case s => walk_at "side"))
  | ((with_reducible refine' o_ixT' ?s); (case s => walk_at "side"))
  | ((with_reducible refine' o_ixQ' ?s); (case s => walk_at "side"))
  | ((with_reducible refine' o_ixM' ?h ?s); (case h => walk_at "mj"); (case s => walk_at "side"))
  | walk_at "op2")
local macro_rules | `(tactic| walk_at "mj") => `(tactic| first | exact mj0 | exact mj1 | exact mj2 | exact mj3)
local macro_rules | `(tactic| walk_at "ca") => `(tactic| first
  | with_reducible exact c_lenL | with_reducible exact c_lenT | with_reducible exact c_lenQ | ((with_reducible refine' c_lenM ?h); (case h => walk_at "mj")) | with_reducible exact c_int | with_reducible exact c_tupL | ((with_reducible refine' c_tupM ?h); (case h => walk_at "mj"))
  | with_reducible exact c_all | with_reducible exact c_max2 | with_reducible exact c_min2 | walk_at "ca2")
local macro_rules | `(tactic| walk_at "ea") => `(tactic| first
  | with_reducible exact ea_nil
  | ((with_reducible refine' ea_cons ?h1 ?h2); (case h1 => walk_at "ev"); (case h2 => walk_at "ea")))
local macro_rules | `(tactic| walk_at "ev") => `(tactic| first
  | ((with_reducible refine' ev_var ?h); (case h => exact rfl))
  | with_reducible exact ev_int | with_reducible exact ev_bl | with_reducible exact ev_non | with_reducible exact ev_str | with_reducible exact ev_val
  | with_reducible assumption
  | ((with_reducible refine' ev_op ?h1 ?h2 ?h3); (case h1 => walk_at "ev"); (case h2 => walk_at "ev"); (case h3 => walk_at "op"))
  | ((with_reducible refine' ev_ca ?h1 ?h2); (case h1 => walk_at "ea"); (case h2 => walk_at "ca"))
  | ((with_reducible refine' ev_neg ?h1); (case h1 => walk_at "ev"))
  | ((with_reducible refine' ev_chain ?h1 ?h2 ?h3 ?h4 ?h5); (case h1 => walk_at "ev"); (case h2 => walk_at "ev"); (case h3 => walk_at "op"); (case h4 => walk_at "ev"); (case h5 => walk_at "op"))
  | ((with_reducible refine' ev_tup2 ?h1); (case h1 => walk_at "ea"))
  | ((with_reducible refine' ev_tup3 ?h1); (case h1 => walk_at "ea"))
  | ((with_reducible refine' ev_notV ?h1); (case h1 => walk_at "ev"))
  | ((with_reducible refine' ev_andV ?h1 (fun _ => ?h2)); (case h1 => walk_at "ev"); (case h2 => walk_at "ev"))
  | ((with_reducible refine' ev_orV ?h1 (fun _ => ?h2)); (case h1 => walk_at "ev"); (case h2 => walk_at "ev"))
  | ((with_reducible refine' ev_frzL ?h1); (case h1 => walk_at "evm"))
  | walk_at "ev2")
local macro_rules | `(tactic| walk_at "et") => `(tactic| first
  | ((with_reducible refine' et_test ?h1); (case h1 => walk_at "ev"))
  | ((with_reducible refine' et_B ?h1); (case h1 => walk_at "ev"))
  | ((with_reducible refine' et_not ?h1); (case h1 => walk_at "et"))
  | ((with_reducible refine' et_and ?h1 (fun _ => ?h2)); (case h1 => walk_at "et"); (case h2 => walk_at "et"))
  | ((with_reducible refine' et_or ?h1 (fun _ => ?h2)); (case h1 => walk_at "et"); (case h2 => walk_at "et")))
local macro_rules | `(tactic| walk_at "ca2") => `(tactic| fail "ca2")
local macro_rules | `(tactic| walk_at "ca2") => `(tactic| first | with_reducible exact c_isi_ii | with_reducible exact c_isi_ib | with_reducible exact c_isi_ll | ((with_reducible refine' c_lenD ?h); (case h => walk_at "mj")))
local macro_rules | `(tactic| walk_at "op2") => `(tactic| fail "op2")
local macro_rules | `(tactic| walk_at "ev2") => `(tactic| fail "ev2")
local macro_rules | `(tactic| walk_at "evm2") => `(tactic| fail "evm2")
local macro_rules | `(tactic| walk_at "evm") => `(tactic| first
  | with_reducible exact ev_lst0 _
  | ((with_reducible refine' ev_lst1 ?h1); (case h1 => walk_at "ea"))
  | ((with_reducible refine' ev_lst2 ?h1); (case h1 => walk_at "ea"))
  | ((with_reducible refine' ev_lst3 ?h1); (case h1 => walk_at "ea"))
  | ((with_reducible refine' ev_lst4 ?h1); (case h1 => walk_at "ea"))
  | ((with_reducible refine' ev_lst5 ?h1); (case h1 => walk_at "ea"))
  | ((with_reducible refine' ev_lst6 ?h1); (case h1 => walk_at "ea"))
  | ((with_reducible refine' ev_lst7 ?h1); (case h1 => walk_at "ea"))
  | ((with_reducible refine' ev_lst8 ?h1); (case h1 => walk_at "ea"))
  | ((with_reducible refine' ev_opM ?h1 ?h2 (oRM (o_cat ?h3))); (case h1 => walk_at "ev"); (case h2 => walk_at "ev"); (case h3 => walk_at "side"))
  | walk_at "evm2")
local macro_rules | `(tactic| walk_at "cx") => `(tactic| dsimp only [cxOf, Cx.nox, Cx.wish, Cx.blk, List.map, List.cons_append, List.nil_append, List.append_nil, List.length_cons, List.length_nil, List.replicate, Nat.reduceSub, Nat.reduceAdd])
local macro_rules | `(tactic| walk_at "ls") => `(tactic| try dsimp only [List.set_cons_zero, List.set_cons_succ])
local macro_rules | `(tactic| walk_at "set") => `(tactic| (refine' go_seq (go_set1 ?h ?k); (case h => walk_at "ev"); walk_at "ls"))
local macro_rules | `(tactic| walk_at "set!") => `(tactic| (refine' go_set1 ?h ?k; (case h => walk_at "ev"); walk_at "ls"))
local macro_rules | `(tactic| walk_at "if") => `(tactic| (refine' go_seq (go_if ?c ?x ?y); (case c => walk_at "et")))
local macro_rules | `(tactic| walk_at "if!") => `(tactic| (refine' go_if ?c ?x ?y; (case c => walk_at "et")))
local macro_rules | `(tactic| walk_at "ret") => `(tactic| (refine' go_ret1 ?q ?h ?p ?e; (case e => exact rfl); (case q => assumption); (case h => walk_at "ev")))
local macro_rules | `(tactic| walk_at "nx") => `(tactic| (refine go_next ?_; try dsimp only))
local macro_rules | `(tactic| walk_at "sp") => `(tactic| fail "sp")
local macro_rules | `(tactic| walk_at "ev2") => `(tactic| ((with_reducible refine' ev_call1 ?h1 ?h2); (case h1 => walk_at "ea"); (case h2 => walk_at "sp")))
local macro_rules | `(tactic| walk_at "evm2") => `(tactic| ((with_reducible refine' ev_callM1 ?h1 ?h2); (case h1 => walk_at "ea"); (case h2 => walk_at "sp")))
local macro_rules | `(tactic| walk_at "setM") => `(tactic| (refine' go_seq (go_setM1 ?h ?k); (case h => walk_at "evm")))
local macro_rules | `(tactic| walk_at "setM!") => `(tactic| (refine' go_setM1 ?h ?k; (case h => walk_at "evm")))
local macro_rules | `(tactic| walk_at "app") => `(tactic| (refine' go_seq (go_app1 ?a ?b ?h ?z ?k); (case a => exact rfl); (case b => walk_at "mj"); (case h => walk_at "ev"); (case z => walk_at "sz"); walk_at "ls"))
local macro_rules | `(tactic| walk_at "app!") => `(tactic| (refine' go_app1 ?a ?b ?h ?z ?k; (case a => exact rfl); (case b => walk_at "mj"); (case h => walk_at "ev"); (case z => walk_at "sz"); walk_at "ls"))
local macro_rules | `(tactic| walk_at "sz") => `(tactic| (have hsz_ := sizeLine_eq; first | omega | (simp only [List.length_append, List.length_cons, List.length_nil, List.length_map, List.length_range]; omega)))
local macro_rules | `(tactic| walk_at "retV") => `(tactic| (refine' go_retV1 ?q ?a ?b ?p ?e; (case e => exact rfl); (case q => assumption); (case a => exact rfl); (case b => walk_at "mj")))
local macro_rules | `(tactic| walk_at "evm2") => `(tactic| ((with_reducible refine' ev_opM ?h1 ?h2 (oRM (o_rep ?h3 ?h4 ?h5))); (case h1 => walk_at "ev"); (case h2 => walk_at "ev"); (case h3 => walk_at "side"); (case h4 => walk_at "side"); (case h5 => walk_at "side")))
local macro_rules | `(tactic| walk_at "op2") => `(tactic| first | with_reducible exact o_eqLI | with_reducible exact o_neLI | with_reducible exact o_eqLLI | with_reducible exact o_neLLI | with_reducible exact o_inO)
local macro_rules | `(tactic| walk_at "ix") => `(tactic| first | exact mj0 | exact mj1 | exact mj2 | exact mj3 | exact mj4 | exact mj5 | exact mj6 | exact mj7 | exact mj8 | exact mj9 | exact mj10 | exact mj11 | exact mj12)
local macro_rules | `(tactic| walk_at "ev") => `(tactic| first | ((with_reducible refine' ev_varS ?s ?h); (case h => with_reducible walk_at "ix"); (case s => first | exact Same.refl _ | assumption)) | fail "no")
local macro_rules | `(tactic| walk_at "ev") => `(tactic| first | ((with_reducible refine' ev_varN ?h); (case h => with_reducible walk_at "ix")) | fail "no")
local macro_rules | `(tactic| walk_at "sp") => `(tactic| with_reducible exact S_ii_i)
local macro_rules | `(tactic| walk_at "sp") => `(tactic| ((with_reducible refine' S_parts_i ?a ?b); (case a => first | assumption | (simp; done)); (case b => first | assumption | (simp; done) | omega)))
local macro_rules | `(tactic| walk_at "sp") => `(tactic| ((with_reducible refine' S_far_i ?a); (case a => walk_at "side")))
/-! ### words, their order by a number -/
/-- the place of a word among all words over m letters, shorter ones first -/
def code (m : Int) (w : List Int) : Int := w.foldl (fun c x => c * m + x + 1) 0
theorem code_snoc (m : Int) (w : List Int) (x : Int) : code m (w ++ [x]) = code m w * m + x + 1 := by
  unfold code
  rw [List.foldl_append]
  rfl
theorem code_nil (m : Int) : code m [] = 0 := rfl
/-- a word of letters -/
def Wd (m : Int) (w : List Int) : Prop := ∀ x ∈ w, 0 ≤ x ∧ x < m
theorem Wd.nil {m : Int} : Wd m [] := fun _ h => nomatch h
theorem Wd.snoc {m : Int} {w : List Int} {x : Int} (h : Wd m w) (h0 : 0 ≤ x) (h1 : x < m) : Wd m (w ++ [x]) := fun y hy => by
  rcases List.mem_append.mp hy with hy | hy
  · exact h y hy
  · rw [List.mem_singleton.mp hy]; exact ⟨h0, h1⟩
theorem Wd.left {m : Int} {w v : List Int} (h : Wd m (w ++ v)) : Wd m w := fun y hy => h y (List.mem_append_left _ hy)
theorem Wd.right {m : Int} {w v : List Int} (h : Wd m (w ++ v)) : Wd m v := fun y hy => h y (List.mem_append_right _ hy)
theorem Wd.cons {m : Int} {w : List Int} {x : Int} (h : Wd m w) (h0 : 0 ≤ x) (h1 : x < m) : Wd m (x :: w) := fun y hy => by
  rcases List.mem_cons.mp hy with rfl | hy
  · exact ⟨h0, h1⟩
  · exact h y hy
theorem Wd.tail {m : Int} {w : List Int} {x : Int} (h : Wd m (x :: w)) : Wd m w := fun y hy => h y (List.mem_cons_of_mem _ hy)
theorem Wd.head {m : Int} {w : List Int} {x : Int} (h : Wd m (x :: w)) : 0 ≤ x ∧ x < m := h x List.mem_cons_self
theorem snoc_ind {α : Type} {P : List α → Prop} (h0 : P []) (h1 : ∀ w x, P w → P (w ++ [x])) (w : List α) : P w := by
  have key : ∀ n (w : List α), w.length = n → P w := by
    intro n
    induction n with
    | zero => intro w h; rw [List.length_eq_zero_iff.mp h]; exact h0
    | succ n ih =>
      intro w h
      have hne : w ≠ [] := by intro e; rw [e] at h; cases h
      rw [← List.dropLast_concat_getLast hne]
      exact h1 _ _ (ih _ (by rw [List.length_dropLast, h]; rfl))
  exact key _ w rfl
theorem mul_mono {a b m : Int} (hm : 0 ≤ m) (h : a ≤ b) : a * m ≤ b * m := Int.mul_le_mul_of_nonneg_right h hm
theorem code_nn {m : Int} {w : List Int} (hm : 0 ≤ m) : Wd m w → 0 ≤ code m w := by
  refine snoc_ind (P := fun w => Wd m w → 0 ≤ code m w) (fun _ => Int.le_refl _) (fun w x ih h => ?_) w
  rw [code_snoc]
  have h1 := ih h.left
  have h2 := (h.right).head
  have h3 := Int.mul_nonneg h1 hm
  omega
theorem code_pos {m : Int} {w : List Int} {x : Int} (hm : 0 ≤ m) (h : Wd m (w ++ [x])) : 0 < code m (w ++ [x]) := by
  rw [code_snoc]
  have h1 := Int.mul_nonneg (code_nn hm h.left) hm
  have h2 := (h.right).head
  omega
/-- q * m + r with 0 ≤ r < m is told by its value -/
theorem divs_eq {m a b x y : Int} (hx : 0 ≤ x) (hx' : x < m) (hy : 0 ≤ y) (hy' : y < m) (h : a * m + x = b * m + y) : a = b ∧ x = y := by
  have key : ∀ {a b x y : Int}, 0 ≤ x → x < m → 0 ≤ y → y < m → a * m + x = b * m + y → ¬ a < b := fun {a b x y} hx hx' hy hy' h hab => by
    have h1 : (a + 1) * m ≤ b * m := mul_mono (by omega) (by omega)
    rw [Int.add_mul] at h1
    omega
  have h1 := key hx hx' hy hy' h
  have h2 := key hy hy' hx hx' h.symm
  have e : a = b := by omega
  subst e
  exact ⟨rfl, by omega⟩
theorem code_inj {m : Int} (hm : 0 ≤ m) : ∀ {w v : List Int}, Wd m w → Wd m v → code m w = code m v → w = v := by
  intro w
  refine snoc_ind (P := fun w => ∀ {v : List Int}, Wd m w → Wd m v → code m w = code m v → w = v) ?_ ?_ w
  · intro v _ hv h
    by_cases e : v = []
    · exact e.symm
    · rw [← List.dropLast_concat_getLast e] at h hv
      have := code_pos hm hv
      rw [code_nil] at h
      omega
  · intro u x ih v hw hv h
    by_cases e : v = []
    · subst e
      have := code_pos hm hw
      rw [code_nil] at h
      omega
    · have ev := (List.dropLast_concat_getLast e).symm
      rw [ev] at h hv
      rw [code_snoc, code_snoc] at h
      have h1 := (hw.right).head
      have h2 := (hv.right).head
      obtain ⟨e1, e2⟩ := divs_eq (a := code m u) (b := code m v.dropLast) h1.1 h1.2 h2.1 h2.2 (by omega)
      rw [ev, ih hw.left hv.left e1, e2]

/-! ### walks of an automaton -/
section
variable {S : Type}
def runW (δ : S → Int → S) (s : S) (w : List Int) : S := w.foldl δ s
theorem runW_snoc (δ : S → Int → S) (s : S) (w : List Int) (x : Int) : runW δ s (w ++ [x]) = δ (runW δ s w) x := by
  unfold runW
  rw [List.foldl_append]
  rfl
theorem runW_cons (δ : S → Int → S) (s : S) (w : List Int) (x : Int) : runW δ s (x :: w) = runW δ (δ s x) w := rfl
theorem runW_app (δ : S → Int → S) (s : S) (w v : List Int) : runW δ s (w ++ v) = runW δ (runW δ s w) v := by
  unfold runW
  rw [List.foldl_append]

/-- the search by words: ent the states found with their words, i the turn, l the letter -/
structure Bq (δ : S → Int → S) (m : Int) (s0 : S) (ent : List (S × List Int)) (i : Nat) (l : Int) : Prop where
  hd : ent[0]? = some (s0, [])
  run : ∀ e ∈ ent, Wd m e.2 ∧ runW δ s0 e.2 = e.1
  nd : (ent.map (·.1)).Nodup
  inc : ∀ (a b : Nat) (x y : S × List Int), ent[a]? = some x → ent[b]? = some y → a < b → code m x.2 < code m y.2
  cl : ∀ (j : Nat) (e : S × List Int) (x : Int), ent[j]? = some e → 0 ≤ x → x < m → (j < i ∨ j = i ∧ x < l) → ∃ e' ∈ ent, e'.1 = δ e.1 x ∧ code m e'.2 ≤ code m e.2 * m + x + 1
  nx : ∀ e ∈ ent, ∀ c : S × List Int, ent[i]? = some c → code m e.2 < code m c.2 * m + l + 1
theorem Bq.init {δ : S → Int → S} {m : Int} {s0 : S} : Bq δ m s0 [(s0, [])] 0 0 := by
  refine ⟨rfl, fun e he => ?_, by simp, fun a b x y h1 h2 h => ?_, fun j e x h h0 h1 hc => ?_, fun e he c hc => ?_⟩
  · rw [List.mem_singleton.mp he]; exact ⟨Wd.nil, rfl⟩
  · have := (List.getElem?_eq_some_iff.mp h2).1
    simp at this
    omega
  · omega
  · rw [List.mem_singleton.mp he]
    have : c = (s0, []) := (Option.some.inj hc).symm
    rw [this, code_nil]
    omega
theorem Bq.old {δ : S → Int → S} {m : Int} {s0 : S} {ent : List (S × List Int)} {i : Nat} {l : Int} (B : Bq δ m s0 ent i l) {c : S × List Int} (hc : ent[i]? = some c) (h : δ c.1 l ∈ ent.map (·.1)) : Bq δ m s0 ent i (l + 1) := by
  refine ⟨B.hd, B.run, B.nd, B.inc, fun j e x h1 h0 hx hj => ?_, fun e he c' hc' => ?_⟩
  · by_cases z : j < i ∨ j = i ∧ x < l
    · exact B.cl j e x h1 h0 hx z
    · have e1 : j = i := by omega
      have e2 : x = l := by omega
      subst e1 e2
      rw [h1] at hc
      cases hc
      obtain ⟨e', he', ee⟩ := List.mem_map.mp h
      exact ⟨e', he', ee, Int.le_of_lt (B.nx e' he' _ h1)⟩
  · have := B.nx e he c' hc'
    omega
theorem Bq.new {δ : S → Int → S} {m : Int} {s0 : S} {ent : List (S × List Int)} {i : Nat} {l : Int} (B : Bq δ m s0 ent i l) {c : S × List Int} (hc : ent[i]? = some c) (h : δ c.1 l ∉ ent.map (·.1)) (h0 : 0 ≤ l) (hl : l < m) :
    Bq δ m s0 (ent ++ [(δ c.1 l, c.2 ++ [l])]) i (l + 1) := by
  have hi : i < ent.length := (List.getElem?_eq_some_iff.mp hc).1
  have hcm : c ∈ ent := List.mem_of_getElem? hc
  have at' : ∀ {j : Nat} {e : S × List Int}, (ent ++ [(δ c.1 l, c.2 ++ [l])])[j]? = some e → j < ent.length ∧ ent[j]? = some e ∨ j = ent.length ∧ e = (δ c.1 l, c.2 ++ [l]) := fun {j e} he => by
    by_cases hj : j < ent.length
    · rw [List.getElem?_append_left hj] at he
      exact .inl ⟨hj, he⟩
    · rw [List.getElem?_append_right (by omega)] at he
      have e0 : j - ent.length = 0 := by
        by_cases e0 : j - ent.length = 0
        · exact e0
        · rw [List.getElem?_eq_none (by simp; omega)] at he; cases he
      rw [e0] at he
      exact .inr ⟨by omega, (Option.some.inj he).symm⟩
  refine ⟨?_, fun e he => ?_, ?_, fun a b x y h1 h2 hab => ?_, fun j e x h1 hx0 hx hj => ?_, fun e he c' hc' => ?_⟩
  · rw [List.getElem?_append_left (by omega)]; exact B.hd
  · rcases List.mem_append.mp he with he | he
    · exact B.run e he
    · rw [List.mem_singleton.mp he]
      obtain ⟨r1, r2⟩ := B.run c hcm
      exact ⟨r1.snoc h0 hl, by rw [runW_snoc, r2]⟩
  · rw [List.map_append]
    refine List.nodup_append.mpr ⟨B.nd, by simp, fun a ha b hb => ?_⟩
    have : b = δ c.1 l := by simpa using hb
    subst this
    intro e
    exact h (e ▸ ha)
  · rcases at' h2 with ⟨hb, h2⟩ | ⟨hb, h2⟩
    · rcases at' h1 with ⟨ha, h1⟩ | ⟨ha, h1⟩
      · exact B.inc a b x y h1 h2 hab
      · omega
    · rcases at' h1 with ⟨ha, h1⟩ | ⟨ha, h1⟩
      · rw [h2, code_snoc]
        exact B.nx x (List.mem_of_getElem? h1) c hc
      · omega
  · have up : ∀ {e : S × List Int}, (∃ e' ∈ ent, e'.1 = δ e.1 x ∧ code m e'.2 ≤ code m e.2 * m + x + 1) → ∃ e' ∈ ent ++ [(δ c.1 l, c.2 ++ [l])], e'.1 = δ e.1 x ∧ code m e'.2 ≤ code m e.2 * m + x + 1 := fun ⟨e', h1, h2⟩ => ⟨e', List.mem_append_left _ h1, h2⟩
    rcases at' h1 with ⟨ha, k1⟩ | ⟨ha, k1⟩
    · by_cases z : j < i ∨ j = i ∧ x < l
      · exact up (B.cl j e x k1 hx0 hx z)
      · have e1 : j = i := by omega
        have e2 : x = l := by omega
        subst e1 e2
        rw [k1] at hc
        cases hc
        exact ⟨_, List.mem_append_right _ (List.mem_singleton.mpr rfl), rfl, by rw [code_snoc]; exact Int.le_refl _⟩
    · omega
  · have hc2 : c' = c := by
      rw [List.getElem?_append_left hi, hc] at hc'
      exact (Option.some.inj hc').symm
    subst hc2
    rcases List.mem_append.mp he with he | he
    · have := B.nx e he _ hc
      omega
    · rw [List.mem_singleton.mp he, code_snoc]
      omega
theorem Bq.adv {δ : S → Int → S} {m : Int} {s0 : S} {ent : List (S × List Int)} {i : Nat} (B : Bq δ m s0 ent i m) (hm : 0 ≤ m) (hi : i < ent.length) : Bq δ m s0 ent (i + 1) 0 := by
  refine ⟨B.hd, B.run, B.nd, B.inc, fun j e x h1 h0 hx hj => B.cl j e x h1 h0 hx (by omega), fun e he c' hc' => ?_⟩
  have hc := List.getElem?_eq_getElem hi
  have h1 := B.nx e he _ hc
  have h2 := B.inc i (i + 1) _ _ hc hc' (by omega)
  have h3 : (code m ent[i].2 + 1) * m ≤ code m c'.2 * m := mul_mono hm (by omega)
  rw [Int.add_mul] at h3
  omega
/-- all states that a word with a place below a bound leads to are found by then -/
theorem Bq.below {δ : S → Int → S} {m : Int} {s0 : S} {ent : List (S × List Int)} {i : Nat} (B : Bq δ m s0 ent i 0) (hm : 0 ≤ m) {bd : Int} (hb : ∀ (j : Nat) (e : S × List Int), ent[j]? = some e → code m e.2 < bd → j < i) (w : List Int) : Wd m w → code m w < bd → ∃ (j : Nat) (e : S × List Int), ent[j]? = some e ∧ e.1 = runW δ s0 w ∧ code m e.2 ≤ code m w := by
  refine snoc_ind (P := fun w => Wd m w → code m w < bd → ∃ (j : Nat) (e : S × List Int), ent[j]? = some e ∧ e.1 = runW δ s0 w ∧ code m e.2 ≤ code m w) (fun _ _ => ⟨0, _, B.hd, rfl, Int.le_refl _⟩) (fun u x ih hw hlt => ?_) w
  have hx := (hw.right).head
  have hn := code_nn hm hw.left
  rw [code_snoc] at hlt ⊢
  have hu : code m u ≤ code m u * m := by
    have := Int.mul_le_mul_of_nonneg_left (show (1 : Int) ≤ m by omega) hn
    omega
  obtain ⟨j, e, he, er, ec⟩ := ih hw.left (by omega)
  have hj := hb j e he (by omega)
  obtain ⟨e', he', er', ec'⟩ := B.cl j e x he hx.1 hx.2 (.inl hj)
  obtain ⟨j', hj'⟩ := List.mem_iff_getElem?.mp he'
  refine ⟨j', e', hj', by rw [er', er, runW_snoc], ?_⟩
  have := mul_mono hm ec
  omega
/-- the search is through -/
theorem Bq.all {δ : S → Int → S} {m : Int} {s0 : S} {ent : List (S × List Int)} {i : Nat} (B : Bq δ m s0 ent i 0) (hm : 0 ≤ m) (hi : ent.length ≤ i) {w : List Int} (hw : Wd m w) : ∃ e ∈ ent, e.1 = runW δ s0 w ∧ code m e.2 ≤ code m w := by
  obtain ⟨j, e, h1, h2⟩ := B.below hm (bd := code m w + 1) (fun j e he _ => by have := (List.getElem?_eq_some_iff.mp he).1; omega) w hw (by omega)
  exact ⟨e, List.mem_of_getElem? h1, h2⟩
/-- the first word of all that lead to a state of T -/
def Best (δ : S → Int → S) (m : Int) (s0 : S) (T : S → Prop) (w : List Int) : Prop := Wd m w ∧ T (runW δ s0 w) ∧ ∀ v, Wd m v → T (runW δ s0 v) → code m w ≤ code m v
theorem Best.uniq {δ : S → Int → S} {m : Int} (hm : 0 ≤ m) {s0 : S} {T : S → Prop} {w v : List Int} (h : Best δ m s0 T w) (k : Best δ m s0 T v) : w = v := by
  have h1 := h.2.2 v k.1 k.2.1
  have h2 := k.2.2 w h.1 h.2.1
  exact code_inj hm h.1 k.1 (by omega)
theorem Bq.best {δ : S → Int → S} {m : Int} {s0 : S} {ent : List (S × List Int)} {i : Nat} (B : Bq δ m s0 ent i 0) (hm : 0 ≤ m) (hi : ent.length ≤ i) {e : S × List Int} (he : e ∈ ent) : Best δ m s0 (fun s => s = e.1) e.2 := by
  obtain ⟨r1, r2⟩ := B.run e he
  refine ⟨r1, r2, fun v hv hr => ?_⟩
  obtain ⟨e', he', er, ec⟩ := B.all hm hi hv
  have : e' = e := by
    obtain ⟨a, ha⟩ := List.mem_iff_getElem?.mp he'
    obtain ⟨b, hb⟩ := List.mem_iff_getElem?.mp he
    have h1 : (ent.map (·.1))[a]? = some e.1 := by rw [List.getElem?_map, ha, ← hr, ← er]; rfl
    have h2 : (ent.map (·.1))[b]? = some e.1 := by rw [List.getElem?_map, hb]; rfl
    have hab := nd_ix B.nd h1 h2
    subst hab
    rw [ha] at hb
    exact Option.some.inj hb
  rw [← this]
  exact ec
/-- the first found state of T -/
theorem Bq.first {δ : S → Int → S} {m : Int} {s0 : S} {ent : List (S × List Int)} {i : Nat} (B : Bq δ m s0 ent i 0) (hm : 0 ≤ m) {T : S → Prop} (hT : ∀ (j : Nat) (e : S × List Int), j < i → ent[j]? = some e → ¬ T e.1) {c : S × List Int} (hc : ent[i]? = some c) (h : T c.1) : Best δ m s0 T c.2 := by
  obtain ⟨r1, r2⟩ := B.run c (List.mem_of_getElem? hc)
  refine ⟨r1, by rw [r2]; exact h, fun v hv hr => ?_⟩
  by_cases hlt : code m c.2 ≤ code m v
  · exact hlt
  · exfalso
    have key : ∀ (j : Nat) (e : S × List Int), ent[j]? = some e → code m e.2 < code m c.2 → j < i := fun j e he hlt => by
      by_cases hj : j < i
      · exact hj
      · exfalso
        by_cases e1 : j = i
        · subst e1
          rw [hc] at he
          cases he
          omega
        · have := B.inc i j c e hc he (by omega)
          omega
    obtain ⟨j, e, he, er, ec⟩ := B.below hm key v hv (by omega)
    exact hT j e (key j e he (by omega)) he (by rw [er]; exact hr)
end
/-- a list of different numbers below n has n of them at most -/
theorem nodup_le : ∀ (n : Nat) (l : List Int), l.Nodup → (∀ x ∈ l, 0 ≤ x ∧ x < n) → l.length ≤ n
  | 0, l, _, h => by
    cases l with
    | nil => exact Nat.le_refl _
    | cons x r =>
      have := h x List.mem_cons_self
      omega
  | n + 1, l, nd, h => by
    have ih := nodup_le n (l.erase (n : Int)) (nd.erase _) (fun x hx => by
      have h1 := h x (List.mem_of_mem_erase hx)
      have h2 : x ≠ (n : Int) := fun e => by
        subst e
        exact (List.Nodup.not_mem_erase nd) hx
      omega)
    by_cases hm : (n : Int) ∈ l
    · rw [List.length_erase_of_mem hm] at ih
      omega
    · rw [List.erase_of_not_mem hm] at ih
      omega

end T

namespace T
open PySem PySem.Spec PyProof.Rows L2
local macro_rules | `(tactic| walk_at "side") => `(tactic| first | with_reducible assumption | omega | (dsimp only; omega) | exact CMul_l (by omega) (by omega) | exact CMul_r (by omega) (by omega) | (refine' (⟨?_, ?_⟩ : CDivN _ _) <;> omega) | (refine' (⟨?_, ?_, ?_⟩ : CPow _ _) <;> first | decide | omega) | (simp; done))
local macro_rules | `(tactic| walk_at "op") => `(tactic| first
  | ((with_reducible refine' oI0 (t := rI) ?c); (case c => exact fun _ => rfl))
  | ((with_reducible refine' oI0 (t := rB) ?c); (case c => exact fun _ => rfl))
  | ((with_reducible refine' oL (oI0 (t := rI) ?c)); (case c => exact fun _ => rfl))
  | ((with_reducible refine' oI (t := rI) ?c ?d); (case d => exact fun _ => rfl); (case c => walk_at "side"))
  | ((with_reducible refine' oL (oI (t := rI) ?c ?d)); (case d => exact fun _ => rfl); (case c => walk_at "side"))
  | with_reducible exact o_eqI | with_reducible exact oL o_eqI | with_reducible exact o_neI | with_reducible exact oL o_neI | with_reducible exact o_isN | with_reducible exact o_notN
  | with_reducible exact o_ix20' | with_reducible exact o_ix21' | with_reducible exact o_ix30' | with_reducible exact o_ix31' | with_reducible exact o_ix32'
  | ((with_reducible refine' o_ixL' ?s); (case s => walk_at "side"))
  | ((with_reducible refine' o_ixT' ?s); (case s => walk_at "side"))
  | ((with_reducible refine' o_ixQ' ?s); (case s => walk_at "side"))
  | ((with_reducible refine' o_ixM' ?h ?s); (case h => walk_at "mj"); (case s => walk_at "side"))
  | walk_at "op2")
local macro_rules | `(tactic| walk_at "mj") => `(tactic| first | exact mj0 | exact mj1 | exact mj2 | exact mj3)
local macro_rules | `(tactic| walk_at "ca") => `(tactic| first
  | with_reducible exact c_lenL | with_reducible exact c_lenT | with_reducible exact c_lenQ | ((with_reducible refine' c_lenM ?h); (case h => walk_at "mj")) | with_reducible exact c_int | with_reducible exact c_tupL | ((with_reducible refine' c_tupM ?h); (case h => walk_at "mj"))
  | with_reducible exact c_all | with_reducible exact c_max2 | with_reducible exact c_min2 | walk_at "ca2")
local macro_rules | `(tactic| walk_at "ea") => `(tactic| first
  | with_reducible exact ea_nil
  | ((with_reducible refine' ea_cons ?h1 ?h2); (case h1 => walk_at "ev"); (case h2 => walk_at "ea")))
local macro_rules | `(tactic| walk_at "ev") => `(tactic| first
  | ((with_reducible refine' ev_var ?h); (case h => exact rfl))
  | with_reducible exact ev_int | with_reducible exact ev_bl | with_reducible exact ev_non | with_reducible exact ev_str | with_reducible exact ev_val
  | with_reducible assumption
  | ((with_reducible refine' ev_op ?h1 ?h2 ?h3); (case h1 => walk_at "ev"); (case h2 => walk_at "ev"); (case h3 => walk_at "op"))
  | ((with_reducible refine' ev_ca ?h1 ?h2); (case h1 => walk_at "ea"); (case h2 => walk_at "ca"))
  | ((with_reducible refine' ev_neg ?h1); (case h1 => walk_at "ev"))
  | ((with_reducible refine' ev_chain ?h1 ?h2 ?h3 ?h4 ?h5); (case h1 => walk_at "ev"); (case h2 => walk_at "ev"); (case h3 => walk_at "op"); (case h4 => walk_at "ev"); (case h5 => walk_at "op"))
  | ((with_reducible refine' ev_tup2 ?h1); (case h1 => walk_at "ea"))
  | ((with_reducible refine' ev_tup3 ?h1); (case h1 => walk_at "ea"))
  | ((with_reducible refine' ev_notV ?h1); (case h1 => walk_at "ev"))
  | ((with_reducible refine' ev_andV ?h1 (fun _ => ?h2)); (case h1 => walk_at "ev"); (case h2 => walk_at "ev"))
  | ((with_reducible refine' ev_orV ?h1 (fun _ => ?h2)); (case h1 => walk_at "ev"); (case h2 => walk_at "ev"))
  | ((with_reducible refine' ev_frzL ?h1); (case h1 => walk_at "evm"))
  | walk_at "ev2")
local macro_rules | `(tactic| walk_at "et") => `(tactic| first
  | ((with_reducible refine' et_test ?h1); (case h1 => walk_at "ev"))
  | ((with_reducible refine' et_B ?h1); (case h1 => walk_at "ev"))
  | ((with_reducible refine' et_not ?h1); (case h1 => walk_at "et"))
  | ((with_reducible refine' et_and ?h1 (fun _ => ?h2)); (case h1 => walk_at "et"); (case h2 => walk_at "et"))
  | ((with_reducible refine' et_or ?h1 (fun _ => ?h2)); (case h1 => walk_at "et"); (case h2 => walk_at "et")))
local macro_rules | `(tactic| walk_at "ca2") => `(tactic| fail "ca2")
local macro_rules | `(tactic| walk_at "ca2") => `(tactic| first | with_reducible exact c_isi_ii | with_reducible exact c_isi_ib | with_reducible exact c_isi_ll | ((with_reducible refine' c_lenD ?h); (case h => walk_at "mj")))
local macro_rules | `(tactic| walk_at "op2") => `(tactic| fail "op2")
local macro_rules | `(tactic| walk_at "ev2") => `(tactic| fail "ev2")
local macro_rules | `(tactic| walk_at "evm2") => `(tactic| fail "evm2")
local macro_rules | `(tactic| walk_at "evm") => `(tactic| first
  | with_reducible exact ev_lst0 _
  | ((with_reducible refine' ev_lst1 ?h1); (case h1 => walk_at "ea"))
  | ((with_reducible refine' ev_lst2 ?h1); (case h1 => walk_at "ea"))
  | ((with_reducible refine' ev_lst3 ?h1); (case h1 => walk_at "ea"))
  | ((with_reducible refine' ev_lst4 ?h1); (case h1 => walk_at "ea"))
  | ((with_reducible refine' ev_lst5 ?h1); (case h1 => walk_at "ea"))
  | ((with_reducible refine' ev_lst6 ?h1); (case h1 => walk_at "ea"))
  | ((with_reducible refine' ev_lst7 ?h1); (case h1 => walk_at "ea"))
  | ((with_reducible refine' ev_lst8 ?h1); (case h1 => walk_at "ea"))
  | ((with_reducible refine' ev_opM ?h1 ?h2 (oRM (o_cat ?h3))); (case h1 => walk_at "ev"); (case h2 => walk_at "ev"); (case h3 => walk_at "side"))
  | walk_at "evm2")
local macro_rules | `(tactic| walk_at "cx") => `(tactic| dsimp only [cxOf, Cx.nox, Cx.wish, Cx.blk, List.map, List.cons_append, List.nil_append, List.append_nil, List.length_cons, List.length_nil, List.replicate, Nat.reduceSub, Nat.reduceAdd])
local macro_rules | `(tactic| walk_at "ls") => `(tactic| try dsimp only [List.set_cons_zero, List.set_cons_succ])
local macro_rules | `(tactic| walk_at "set") => `(tactic| (refine' go_seq (go_set1 ?h ?k); (case h => walk_at "ev"); walk_at "ls"))
local macro_rules | `(tactic| walk_at "set!") => `(tactic| (refine' go_set1 ?h ?k; (case h => walk_at "ev"); walk_at "ls"))
local macro_rules | `(tactic| walk_at "if") => `(tactic| (refine' go_seq (go_if ?c ?x ?y); (case c => walk_at "et")))
local macro_rules | `(tactic| walk_at "if!") => `(tactic| (refine' go_if ?c ?x ?y; (case c => walk_at "et")))
local macro_rules | `(tactic| walk_at "ret") => `(tactic| (refine' go_ret1 ?q ?h ?p ?e; (case e => exact rfl); (case q => assumption); (case h => walk_at "ev")))
local macro_rules | `(tactic| walk_at "nx") => `(tactic| (refine go_next ?_; try dsimp only))
local macro_rules | `(tactic| walk_at "sp") => `(tactic| fail "sp")
local macro_rules | `(tactic| walk_at "ev2") => `(tactic| ((with_reducible refine' ev_call1 ?h1 ?h2); (case h1 => walk_at "ea"); (case h2 => walk_at "sp")))
local macro_rules | `(tactic| walk_at "evm2") => `(tactic| ((with_reducible refine' ev_callM1 ?h1 ?h2); (case h1 => walk_at "ea"); (case h2 => walk_at "sp")))
local macro_rules | `(tactic| walk_at "setM") => `(tactic| (refine' go_seq (go_setM1 ?h ?k); (case h => walk_at "evm")))
local macro_rules | `(tactic| walk_at "setM!") => `(tactic| (refine' go_setM1 ?h ?k; (case h => walk_at "evm")))
local macro_rules | `(tactic| walk_at "app") => `(tactic| (refine' go_seq (go_app1 ?a ?b ?h ?z ?k); (case a => exact rfl); (case b => walk_at "mj"); (case h => walk_at "ev"); (case z => walk_at "sz"); walk_at "ls"))
local macro_rules | `(tactic| walk_at "app!") => `(tactic| (refine' go_app1 ?a ?b ?h ?z ?k; (case a => exact rfl); (case b => walk_at "mj"); (case h => walk_at "ev"); (case z => walk_at "sz"); walk_at "ls"))
local macro_rules | `(tactic| walk_at "sz") => `(tactic| (have hsz_ := sizeLine_eq; first | omega | (simp only [List.length_append, List.length_cons, List.length_nil, List.length_map, List.length_range]; omega)))
local macro_rules | `(tactic| walk_at "retV") => `(tactic| (refine' go_retV1 ?q ?a ?b ?p ?e; (case e => exact rfl); (case q => assumption); (case a => exact rfl); (case b => walk_at "mj")))
local macro_rules | `(tactic| walk_at "evm2") => `(tactic| ((with_reducible refine' ev_opM ?h1 ?h2 (oRM (o_rep ?h3 ?h4 ?h5))); (case h1 => walk_at "ev"); (case h2 => walk_at "ev"); (case h3 => walk_at "side"); (case h4 => walk_at "side"); (case h5 => walk_at "side")))
local macro_rules | `(tactic| walk_at "op2") => `(tactic| first | with_reducible exact o_eqLI | with_reducible exact o_neLI | with_reducible exact o_eqLLI | with_reducible exact o_neLLI | with_reducible exact o_inO)
local macro_rules | `(tactic| walk_at "ix") => `(tactic| first | exact mj0 | exact mj1 | exact mj2 | exact mj3 | exact mj4 | exact mj5 | exact mj6 | exact mj7 | exact mj8 | exact mj9 | exact mj10 | exact mj11 | exact mj12)
local macro_rules | `(tactic| walk_at "ev") => `(tactic| first | ((with_reducible refine' ev_varS ?s ?h); (case h => with_reducible walk_at "ix"); (case s => first | exact Same.refl _ | assumption)) | fail "no")
local macro_rules | `(tactic| walk_at "ev") => `(tactic| first | ((with_reducible refine' ev_varN ?h); (case h => with_reducible walk_at "ix")) | fail "no")
local macro_rules | `(tactic| walk_at "sp") => `(tactic| with_reducible exact S_ii_i)
local macro_rules | `(tactic| walk_at "sp") => `(tactic| ((with_reducible refine' S_parts_i ?a ?b); (case a => first | assumption | (simp; done)); (case b => first | assumption | (simp; done) | omega)))
local macro_rules | `(tactic| walk_at "sp") => `(tactic| ((with_reducible refine' S_far_i ?a); (case a => walk_at "side")))
/-! ### the order of words, letter by letter -/
def base (m : Int) : Nat → Int
  | 0 => 0
  | k + 1 => base m k * m + 1
def val (m : Int) (w : List Int) : Int := w.foldl (fun c x => c * m + x) 0
theorem val_snoc (m : Int) (w : List Int) (x : Int) : val m (w ++ [x]) = val m w * m + x := by
  unfold val
  rw [List.foldl_append]
  rfl
theorem code_val (m : Int) (w : List Int) : code m w = base m w.length + val m w := by
  refine snoc_ind (P := fun w => code m w = base m w.length + val m w) rfl (fun w x ih => ?_) w
  rw [code_snoc, val_snoc, ih, List.length_append]
  show _ = base m w.length * m + 1 + _
  rw [Int.add_mul]
  omega
theorem pow_nn {m : Int} (hm : 0 ≤ m) (k : Nat) : 0 ≤ m ^ k := Int.pow_nonneg hm
theorem val_lt {m : Int} (hm : 0 ≤ m) (w : List Int) : Wd m w → 0 ≤ val m w ∧ val m w < m ^ w.length := by
  refine snoc_ind (P := fun w => Wd m w → 0 ≤ val m w ∧ val m w < m ^ w.length) (fun _ => ⟨Int.le_refl _, by rw [List.length_nil, Int.pow_zero]; show (0 : Int) < 1; decide⟩) (fun w x ih h => ?_) w
  obtain ⟨h1, h2⟩ := ih h.left
  have hx := (h.right).head
  rw [val_snoc, List.length_append, List.length_singleton, Int.pow_succ]
  have h3 := Int.mul_nonneg h1 hm
  have h4 : (val m w + 1) * m ≤ m ^ w.length * m := mul_mono hm (by omega)
  rw [Int.add_mul] at h4
  exact ⟨by omega, by omega⟩
theorem base_succ (m : Int) : ∀ k, base m (k + 1) = base m k + m ^ k
  | 0 => by rw [Int.pow_zero]; show (0 : Int) * m + 1 = 0 + 1; omega
  | k + 1 => by
    show base m (k + 1) * m + 1 = (base m k * m + 1) + m ^ (k + 1)
    rw [base_succ m k, Int.add_mul, Int.pow_succ]
    omega
theorem base_mono {m : Int} (hm : 0 ≤ m) : ∀ {j k : Nat}, j ≤ k → base m j ≤ base m k := by
  intro j k h
  obtain ⟨d, rfl⟩ : ∃ d, k = j + d := ⟨k - j, by omega⟩
  clear h
  induction d with
  | zero => exact Int.le_refl _
  | succ d ih =>
    have := base_succ m (j + d)
    have h2 := pow_nn hm (j + d)
    rw [show j + (d + 1) = j + d + 1 by omega]
    omega
theorem code_len {m : Int} (hm : 0 ≤ m) {w v : List Int} (hw : Wd m w) (hv : Wd m v) (h : w.length < v.length) : code m w < code m v := by
  rw [code_val, code_val]
  have h1 := (val_lt hm w hw).2
  have h2 := (val_lt hm v hv).1
  have h3 := base_succ m w.length
  have h4 := base_mono hm (show w.length + 1 ≤ v.length from h)
  omega
theorem val_app (m : Int) (u v : List Int) : val m (u ++ v) = val m u * m ^ v.length + val m v := by
  refine snoc_ind (P := fun v => val m (u ++ v) = val m u * m ^ v.length + val m v) (by rw [List.append_nil, List.length_nil, Int.pow_zero, Int.mul_one]; show _ = _ + (0 : Int); omega) (fun v x ih => ?_) v
  rw [← List.append_assoc, val_snoc, ih, val_snoc, List.length_append, List.length_singleton, Int.pow_succ, Int.add_mul, ← Int.mul_assoc]
  omega
theorem val_cons (m x : Int) (v : List Int) : val m (x :: v) = x * m ^ v.length + val m v := by
  have := val_app m [x] v
  rw [show val m [x] = x by show 0 * m + x = x; omega] at this
  exact this
theorem code_lex {m : Int} (hm : 0 ≤ m) {u a b : List Int} {x y : Int} (ha : Wd m a) (hb : Wd m b) (hl : a.length = b.length) (hxy : x < y) : code m (u ++ x :: a) < code m (u ++ y :: b) := by
  rw [code_val, code_val, val_app, val_app, val_cons, val_cons, List.length_append, List.length_append, List.length_cons, List.length_cons, hl]
  have h1 := (val_lt hm a ha).2
  have h2 := (val_lt hm b hb).1
  rw [hl] at h1
  have h3 : (x + 1) * m ^ b.length ≤ y * m ^ b.length := mul_mono (pow_nn hm _) (by omega)
  rw [Int.add_mul] at h3
  omega
theorem code_len_le {m : Int} (hm : 0 ≤ m) {w v : List Int} (hw : Wd m w) (hv : Wd m v) (h : code m w ≤ code m v) : w.length ≤ v.length := by
  by_cases z : w.length ≤ v.length
  · exact z
  · have := code_len hm hv hw (by omega)
    omega

end T

namespace T
open PySem PySem.Spec PyProof.Rows L2
local macro_rules | `(tactic| walk_at "side") => `(tactic| first | with_reducible assumption | omega | (dsimp only; omega) | exact CMul_l (by omega) (by omega) | exact CMul_r (by omega) (by omega) | (refine' (⟨?_, ?_⟩ : CDivN _ _) <;> omega) | (refine' (⟨?_, ?_, ?_⟩ : CPow _ _) <;> first | decide | omega) | (simp; done))
local macro_rules | `(tactic| walk_at "op") => `(tactic| first
  | ((with_reducible refine' oI0 (t := rI) ?c); (case c => exact fun _ => rfl))
  | ((with_reducible refine' oI0 (t := rB) ?c); (case c => exact fun _ => rfl))
  | ((with_reducible refine' oL (oI0 (t := rI) ?c)); (case c => exact fun _ => rfl))
  | ((with_reducible refine' oI (t := rI) ?c ?d); (case d => exact fun _ => rfl); (case c => walk_at "side"))
  | ((with_reducible refine' oL (oI (t := rI) ?c ?d)); (case d => exact fun _ => rfl); (case c => walk_at "side"))
  | with_reducible exact o_eqI | with_reducible exact oL o_eqI | with_reducible exact o_neI | with_reducible exact oL o_neI | with_reducible exact o_isN | with_reducible exact o_notN
  | with_reducible exact o_ix20' | with_reducible exact o_ix21' | with_reducible exact o_ix30' | with_reducible exact o_ix31' | with_reducible exact o_ix32'
  | ((with_reducible refine' o_ixL' ?s); (case s => walk_at "side"))
  | ((with_reducible refine' o_ixT' ?s); (case s => walk_at "side"))
  | ((with_reducible refine' o_ixQ' ?s); (case s => walk_at "side"))
  | ((with_reducible refine' o_ixM' ?h ?s); (case h => walk_at "mj"); (case s => walk_at "side"))
  | walk_at "op2")
local macro_rules | `(tactic| walk_at "mj") => `(tactic| first | exact mj0 | exact mj1 | exact mj2 | exact mj3)
local macro_rules | `(tactic| walk_at "ca") => `(tactic| first
  | with_reducible exact c_lenL | with_reducible exact c_lenT | with_reducible exact c_lenQ | ((with_reducible refine' c_lenM ?h); (case h => walk_at "mj")) | with_reducible exact c_int | with_reducible exact c_tupL | ((with_reducible refine' c_tupM ?h); (case h => walk_at "mj"))
  | with_reducible exact c_all | with_reducible exact c_max2 | with_reducible exact c_min2 | walk_at "ca2")
local macro_rules | `(tactic| walk_at "ea") => `(tactic| first
  | with_reducible exact ea_nil
  | ((with_reducible refine' ea_cons ?h1 ?h2); (case h1 => walk_at "ev"); (case h2 => walk_at "ea")))
local macro_rules | `(tactic| walk_at "ev") => `(tactic| first
  | ((with_reducible refine' ev_var ?h); (case h => exact rfl))
  | with_reducible exact ev_int | with_reducible exact ev_bl | with_reducible exact ev_non | with_reducible exact ev_str | with_reducible exact ev_val
  | with_reducible assumption
  | ((with_reducible refine' ev_op ?h1 ?h2 ?h3); (case h1 => walk_at "ev"); (case h2 => walk_at "ev"); (case h3 => walk_at "op"))
  | ((with_reducible refine' ev_ca ?h1 ?h2); (case h1 => walk_at "ea"); (case h2 => walk_at "ca"))
  | ((with_reducible refine' ev_neg ?h1); (case h1 => walk_at "ev"))
  | ((with_reducible refine' ev_chain ?h1 ?h2 ?h3 ?h4 ?h5); (case h1 => walk_at "ev"); (case h2 => walk_at "ev"); (case h3 => walk_at "op"); (case h4 => walk_at "ev"); (case h5 => walk_at "op"))
  | ((with_reducible refine' ev_tup2 ?h1); (case h1 => walk_at "ea"))
  | ((with_reducible refine' ev_tup3 ?h1); (case h1 => walk_at "ea"))
  | ((with_reducible refine' ev_notV ?h1); (case h1 => walk_at "ev"))
  | ((with_reducible refine' ev_andV ?h1 (fun _ => ?h2)); (case h1 => walk_at "ev"); (case h2 => walk_at "ev"))
  | ((with_reducible refine' ev_orV ?h1 (fun _ => ?h2)); (case h1 => walk_at "ev"); (case h2 => walk_at "ev"))
  | ((with_reducible refine' ev_frzL ?h1); (case h1 => walk_at "evm"))
  | walk_at "ev2")
local macro_rules | `(tactic| walk_at "et") => `(tactic| first
  | ((with_reducible refine' et_test ?h1); (case h1 => walk_at "ev"))
  | ((with_reducible refine' et_B ?h1); (case h1 => walk_at "ev"))
  | ((with_reducible refine' et_not ?h1); (case h1 => walk_at "et"))
  | ((with_reducible refine' et_and ?h1 (fun _ => ?h2)); (case h1 => walk_at "et"); (case h2 => walk_at "et"))
  | ((with_reducible refine' et_or ?h1 (fun _ => ?h2)); (case h1 => walk_at "et"); (case h2 => walk_at "et")))
local macro_rules | `(tactic| walk_at "ca2") => `(tactic| fail "ca2")
local macro_rules | `(tactic| walk_at "ca2") => `(tactic| first | with_reducible exact c_isi_ii | with_reducible exact c_isi_ib | with_reducible exact c_isi_ll | ((with_reducible refine' c_lenD ?h); (case h => walk_at "mj")))
local macro_rules | `(tactic| walk_at "op2") => `(tactic| fail "op2")
local macro_rules | `(tactic| walk_at "ev2") => `(tactic| fail "ev2")
local macro_rules | `(tactic| walk_at "evm2") => `(tactic| fail "evm2")
local macro_rules | `(tactic| walk_at "evm") => `(tactic| first
  | with_reducible exact ev_lst0 _
  | ((with_reducible refine' ev_lst1 ?h1); (case h1 => walk_at "ea"))
  | ((with_reducible refine' ev_lst2 ?h1); (case h1 => walk_at "ea"))
  | ((with_reducible refine' ev_lst3 ?h1); (case h1 => walk_at "ea"))
  | ((with_reducible refine' ev_lst4 ?h1); (case h1 => walk_at "ea"))
  | ((with_reducible refine' ev_lst5 ?h1); (case h1 => walk_at "ea"))
  | ((with_reducible refine' ev_lst6 ?h1); (case h1 => walk_at "ea"))
  | ((with_reducible refine' ev_lst7 ?h1); (case h1 => walk_at "ea"))
  | ((with_reducible refine' ev_lst8 ?h1); (case h1 => walk_at "ea"))
  | ((with_reducible refine' ev_opM ?h1 ?h2 (oRM (o_cat ?h3))); (case h1 => walk_at "ev"); (case h2 => walk_at "ev"); (case h3 => walk_at "side"))
  | walk_at "evm2")
local macro_rules | `(tactic| walk_at "cx") => `(tactic| dsimp only [cxOf, Cx.nox, Cx.wish, Cx.blk, List.map, List.cons_append, List.nil_append, List.append_nil, List.length_cons, List.length_nil, List.replicate, Nat.reduceSub, Nat.reduceAdd])
local macro_rules | `(tactic| walk_at "ls") => `(tactic| try dsimp only [List.set_cons_zero, List.set_cons_succ])
local macro_rules | `(tactic| walk_at "set") => `(tactic| (refine' go_seq (go_set1 ?h ?k); (case h => walk_at "ev"); walk_at "ls"))
local macro_rules | `(tactic| walk_at "set!") => `(tactic| (refine' go_set1 ?h ?k; (case h => walk_at "ev"); walk_at "ls"))
local macro_rules | `(tactic| walk_at "if") => `(tactic| (refine' go_seq (go_if ?c ?x ?y); (case c => walk_at "et")))
local macro_rules | `(tactic| walk_at "if!") => `(tactic| (refine' go_if ?c ?x ?y; (case c => walk_at "et")))
local macro_rules | `(tactic| walk_at "ret") => `(tactic| (refine' go_ret1 ?q ?h ?p ?e; (case e => exact rfl); (case q => assumption); (case h => walk_at "ev")))
local macro_rules | `(tactic| walk_at "nx") => `(tactic| (refine go_next ?_; try dsimp only))
local macro_rules | `(tactic| walk_at "sp") => `(tactic| fail "sp")
local macro_rules | `(tactic| walk_at "ev2") => `(tactic| ((with_reducible refine' ev_call1 ?h1 ?h2); (case h1 => walk_at "ea"); (case h2 => walk_at "sp")))
local macro_rules | `(tactic| walk_at "evm2") => `(tactic| ((with_reducible refine' ev_callM1 ?h1 ?h2); (case h1 => walk_at "ea"); (case h2 => walk_at "sp")))
local macro_rules | `(tactic| walk_at "setM") => `(tactic| (refine' go_seq (go_setM1 ?h ?k); (case h => walk_at "evm")))
local macro_rules | `(tactic| walk_at "setM!") => `(tactic| (refine' go_setM1 ?h ?k; (case h => walk_at "evm")))
local macro_rules | `(tactic| walk_at "app") => `(tactic| (refine' go_seq (go_app1 ?a ?b ?h ?z ?k); (case a => exact rfl); (case b => walk_at "mj"); (case h => walk_at "ev"); (case z => walk_at "sz"); walk_at "ls"))
local macro_rules | `(tactic| walk_at "app!") => `(tactic| (refine' go_app1 ?a ?b ?h ?z ?k; (case a => exact rfl); (case b => walk_at "mj"); (case h => walk_at "ev"); (case z => walk_at "sz"); walk_at "ls"))
local macro_rules | `(tactic| walk_at "sz") => `(tactic| (have hsz_ := sizeLine_eq; first | omega | (simp only [List.length_append, List.length_cons, List.length_nil, List.length_map, List.length_range]; omega)))
local macro_rules | `(tactic| walk_at "retV") => `(tactic| (refine' go_retV1 ?q ?a ?b ?p ?e; (case e => exact rfl); (case q => assumption); (case a => exact rfl); (case b => walk_at "mj")))
local macro_rules | `(tactic| walk_at "evm2") => `(tactic| ((with_reducible refine' ev_opM ?h1 ?h2 (oRM (o_rep ?h3 ?h4 ?h5))); (case h1 => walk_at "ev"); (case h2 => walk_at "ev"); (case h3 => walk_at "side"); (case h4 => walk_at "side"); (case h5 => walk_at "side")))
local macro_rules | `(tactic| walk_at "op2") => `(tactic| first | with_reducible exact o_eqLI | with_reducible exact o_neLI | with_reducible exact o_eqLLI | with_reducible exact o_neLLI | with_reducible exact o_inO)
local macro_rules | `(tactic| walk_at "ix") => `(tactic| first | exact mj0 | exact mj1 | exact mj2 | exact mj3 | exact mj4 | exact mj5 | exact mj6 | exact mj7 | exact mj8 | exact mj9 | exact mj10 | exact mj11 | exact mj12)
local macro_rules | `(tactic| walk_at "ev") => `(tactic| first | ((with_reducible refine' ev_varS ?s ?h); (case h => with_reducible walk_at "ix"); (case s => first | exact Same.refl _ | assumption)) | fail "no")
local macro_rules | `(tactic| walk_at "ev") => `(tactic| first | ((with_reducible refine' ev_varN ?h); (case h => with_reducible walk_at "ix")) | fail "no")
local macro_rules | `(tactic| walk_at "sp") => `(tactic| with_reducible exact S_ii_i)
local macro_rules | `(tactic| walk_at "sp") => `(tactic| ((with_reducible refine' S_parts_i ?a ?b); (case a => first | assumption | (simp; done)); (case b => first | assumption | (simp; done) | omega)))
local macro_rules | `(tactic| walk_at "sp") => `(tactic| ((with_reducible refine' S_far_i ?a); (case a => walk_at "side")))
/-! ### dicts by ints -/
def kv {α : Type} (e : List (Int × α)) : List (Key × α) := e.map fun x => (Sum.inl x.1, x.2)
theorem dget_kv {α : Type} (e : List (Int × α)) (s : Int) : dget (kv e) (Sum.inl s) = (e.find? fun x => decide (x.1 = s)).map (·.2) := by
  induction e with
  | nil => rfl
  | cons x r ih =>
    show dget ((Sum.inl x.1, x.2) :: kv r) _ = _
    rw [dget_cons, ih, List.find?_cons]
    by_cases h : x.1 = s
    · simp [h]
    · have : ¬ (Sum.inl x.1 : Key) = Sum.inl s := fun z => h (Sum.inl.inj z)
      simp [h]
theorem dget_none {α : Type} {e : List (Int × α)} {s : Int} : dget (kv e) (Sum.inl s) = none ↔ s ∉ e.map (·.1) := by
  rw [dget_kv, Option.map_eq_none_iff, List.find?_eq_none]
  simp only [decide_eq_true_eq, List.mem_map, not_exists, not_and]
theorem dget_some {α : Type} {e : List (Int × α)} {s : Int} {v : α} (nd : (e.map (·.1)).Nodup) : dget (kv e) (Sum.inl s) = some v ↔ (s, v) ∈ e := by
  rw [dget_kv]
  constructor
  · intro h
    obtain ⟨x, h1, h2⟩ := Option.map_eq_some_iff.mp h
    have h3 := List.mem_of_find?_eq_some h1
    have h4 : x.1 = s := by simpa using List.find?_some h1
    rw [← h4, ← h2]
    exact h3
  · intro h
    cases hf : e.find? (fun x => decide (x.1 = s)) with
    | none =>
      rw [List.find?_eq_none] at hf
      exact absurd (decide_eq_true rfl) (hf _ h)
    | some x =>
      have h3 := List.mem_of_find?_eq_some hf
      have h4 : x.1 = s := by simpa using List.find?_some hf
      obtain ⟨a, ha⟩ := List.mem_iff_getElem?.mp h
      obtain ⟨b, hb⟩ := List.mem_iff_getElem?.mp h3
      have h1 : (e.map (·.1))[a]? = some s := by rw [List.getElem?_map, ha]; rfl
      have h2 : (e.map (·.1))[b]? = some s := by rw [List.getElem?_map, hb, ← h4]; rfl
      have hab := nd_ix nd h1 h2
      subst hab
      rw [ha] at hb
      cases hb
      rfl

section
variable {F0 H0 : Hp} {L L' : List Sl} {M M' : Ms} {K : PySem.W.Frag} {ta tb te tk tv : TE} {D : Ends}
variable {α β γ : Type} {r : Rl α} {q : Rl β} {x : α} {y : β}
/-- a dict that stands still -/
theorem ev_dnotF1 {xs : List (Key × α)} {i : Int} (hk : Ev F0 H0 L M tk rI i) (hd : Ev F0 H0 L M ta (rDK r) xs) : Ev F0 H0 L M (tDNotIn tk ta) rB (dget xs (Sum.inl i)).isNone := fun σ H F S Q k =>
  hk σ H F S _ fun z w H1 F1 e1 S1 s1 k1 => hd σ H1 F1 S1 _ fun z' v H2 F2 e2 S2 s2 k2 => by
    rw [show z = i from e1] at k1
    rw [show z' = xs from e2] at k2
    cases k1
    obtain ⟨a, kvs, rfl, e, pr⟩ := k2
    refine ⟨a, _, rfl, DGet.k (k := Sum.inl i) (S2.s _ _ e), ?_⟩
    rcases dget_pk (Sum.inl i) pr with ⟨n1, n2⟩ | ⟨x, v, g1, g2, g3⟩
    · rw [n2]
      refine k _ _ H2 F2 rfl S2 (s1.trans s2) ?_
      rw [n1]
      rfl
    · rw [g2]
      refine k _ _ H2 F2 rfl S2 (s1.trans s2) ?_
      rw [g1]
      rfl
theorem ev_dgetF1 {xs : List (Key × α)} {i : Int} {y : α} (hd : Ev F0 H0 L M ta (rDK r) xs) (hk : Ev F0 H0 L M tk rI i) (hg : dget xs (Sum.inl i) = some y) : Ev F0 H0 L M (tDGet ta tk) r y := fun σ H F S Q k =>
  hd σ H F S _ fun z' v H1 F1 e1 S1 s1 k1 => hk σ H1 F1 S1 _ fun z w H2 F2 e2 S2 s2 k2 => by
    rw [show z = i from e2] at k2
    rw [show z' = xs from e1] at k1
    cases k2
    obtain ⟨a, kvs, rfl, e, pr⟩ := k1
    rcases dget_pk (Sum.inl i) pr with ⟨n, _⟩ | ⟨x, v, g1, g2, g3⟩
    · rw [hg] at n; cases n
    · rw [hg] at g1
      cases g1
      exact ⟨a, v, rfl, by rw [← g2]; exact DGet.k (k := Sum.inl i) (S2.s _ _ (s2 _ _ e)), k y v H2 F2 rfl S2 (s1.trans s2) (r.mono s2 g3)⟩
end

end T

namespace T
open PySem PySem.Spec PyProof.Rows L2
local macro_rules | `(tactic| walk_at "side") => `(tactic| first | with_reducible assumption | omega | (dsimp only; omega) | exact CMul_l (by omega) (by omega) | exact CMul_r (by omega) (by omega) | (refine' (⟨?_, ?_⟩ : CDivN _ _) <;> omega) | (refine' (⟨?_, ?_, ?_⟩ : CPow _ _) <;> first | decide | omega) | (simp; done))
local macro_rules | `(tactic| walk_at "op") => `(tactic| first
  | ((with_reducible refine' oI0 (t := rI) ?c); (case c => exact fun _ => rfl))
  | ((with_reducible refine' oI0 (t := rB) ?c); (case c => exact fun _ => rfl))
  | ((with_reducible refine' oL (oI0 (t := rI) ?c)); (case c => exact fun _ => rfl))
  | ((with_reducible refine' oI (t := rI) ?c ?d); (case d => exact fun _ => rfl); (case c => walk_at "side"))
  | ((with_reducible refine' oL (oI (t := rI) ?c ?d)); (case d => exact fun _ => rfl); (case c => walk_at "side"))
  | with_reducible exact o_eqI | with_reducible exact oL o_eqI | with_reducible exact o_neI | with_reducible exact oL o_neI | with_reducible exact o_isN | with_reducible exact o_notN
  | with_reducible exact o_ix20' | with_reducible exact o_ix21' | with_reducible exact o_ix30' | with_reducible exact o_ix31' | with_reducible exact o_ix32'
  | ((with_reducible refine' o_ixL' ?s); (case s => walk_at "side"))
  | ((with_reducible refine' o_ixT' ?s); (case s => walk_at "side"))
  | ((with_reducible refine' o_ixQ' ?s); (case s => walk_at "side"))
  | ((with_reducible refine' o_ixM' ?h ?s); (case h => walk_at "mj"); (case s => walk_at "side"))
  | walk_at "op2")
local macro_rules | `(tactic| walk_at "mj") => `(tactic| first | exact mj0 | exact mj1 | exact mj2 | exact mj3)
local macro_rules | `(tactic| walk_at "ca") => `(tactic| first
  | with_reducible exact c_lenL | with_reducible exact c_lenT | with_reducible exact c_lenQ | ((with_reducible refine' c_lenM ?h); (case h => walk_at "mj")) | with_reducible exact c_int | with_reducible exact c_tupL | ((with_reducible refine' c_tupM ?h); (case h => walk_at "mj"))
  | with_reducible exact c_all | with_reducible exact c_max2 | with_reducible exact c_min2 | walk_at "ca2")
local macro_rules | `(tactic| walk_at "ea") => `(tactic| first
  | with_reducible exact ea_nil
  | ((with_reducible refine' ea_cons ?h1 ?h2); (case h1 => walk_at "ev"); (case h2 => walk_at "ea")))
local macro_rules | `(tactic| walk_at "ev") => `(tactic| first
  | ((with_reducible refine' ev_var ?h); (case h => exact rfl))
  | with_reducible exact ev_int | with_reducible exact ev_bl | with_reducible exact ev_non | with_reducible exact ev_str | with_reducible exact ev_val
  | with_reducible assumption
  | ((with_reducible refine' ev_op ?h1 ?h2 ?h3); (case h1 => walk_at "ev"); (case h2 => walk_at "ev"); (case h3 => walk_at "op"))
  | ((with_reducible refine' ev_ca ?h1 ?h2); (case h1 => walk_at "ea"); (case h2 => walk_at "ca"))
  | ((with_reducible refine' ev_neg ?h1); (case h1 => walk_at "ev"))
  | ((with_reducible refine' ev_chain ?h1 ?h2 ?h3 ?h4 ?h5); (case h1 => walk_at "ev"); (case h2 => walk_at "ev"); (case h3 => walk_at "op"); (case h4 => walk_at "ev"); (case h5 => walk_at "op"))
  | ((with_reducible refine' ev_tup2 ?h1); (case h1 => walk_at "ea"))
  | ((with_reducible refine' ev_tup3 ?h1); (case h1 => walk_at "ea"))
  | ((with_reducible refine' ev_notV ?h1); (case h1 => walk_at "ev"))
  | ((with_reducible refine' ev_andV ?h1 (fun _ => ?h2)); (case h1 => walk_at "ev"); (case h2 => walk_at "ev"))
  | ((with_reducible refine' ev_orV ?h1 (fun _ => ?h2)); (case h1 => walk_at "ev"); (case h2 => walk_at "ev"))
  | ((with_reducible refine' ev_frzL ?h1); (case h1 => walk_at "evm"))
  | walk_at "ev2")
local macro_rules | `(tactic| walk_at "et") => `(tactic| first
  | ((with_reducible refine' et_test ?h1); (case h1 => walk_at "ev"))
  | ((with_reducible refine' et_B ?h1); (case h1 => walk_at "ev"))
  | ((with_reducible refine' et_not ?h1); (case h1 => walk_at "et"))
  | ((with_reducible refine' et_and ?h1 (fun _ => ?h2)); (case h1 => walk_at "et"); (case h2 => walk_at "et"))
  | ((with_reducible refine' et_or ?h1 (fun _ => ?h2)); (case h1 => walk_at "et"); (case h2 => walk_at "et")))
local macro_rules | `(tactic| walk_at "ca2") => `(tactic| fail "ca2")
local macro_rules | `(tactic| walk_at "ca2") => `(tactic| first | with_reducible exact c_isi_ii | with_reducible exact c_isi_ib | with_reducible exact c_isi_ll | ((with_reducible refine' c_lenD ?h); (case h => walk_at "mj")))
local macro_rules | `(tactic| walk_at "op2") => `(tactic| fail "op2")
local macro_rules | `(tactic| walk_at "ev2") => `(tactic| fail "ev2")
local macro_rules | `(tactic| walk_at "evm2") => `(tactic| fail "evm2")
local macro_rules | `(tactic| walk_at "evm") => `(tactic| first
  | with_reducible exact ev_lst0 _
  | ((with_reducible refine' ev_lst1 ?h1); (case h1 => walk_at "ea"))
  | ((with_reducible refine' ev_lst2 ?h1); (case h1 => walk_at "ea"))
  | ((with_reducible refine' ev_lst3 ?h1); (case h1 => walk_at "ea"))
  | ((with_reducible refine' ev_lst4 ?h1); (case h1 => walk_at "ea"))
  | ((with_reducible refine' ev_lst5 ?h1); (case h1 => walk_at "ea"))
  | ((with_reducible refine' ev_lst6 ?h1); (case h1 => walk_at "ea"))
  | ((with_reducible refine' ev_lst7 ?h1); (case h1 => walk_at "ea"))
  | ((with_reducible refine' ev_lst8 ?h1); (case h1 => walk_at "ea"))
  | ((with_reducible refine' ev_opM ?h1 ?h2 (oRM (o_cat ?h3))); (case h1 => walk_at "ev"); (case h2 => walk_at "ev"); (case h3 => walk_at "side"))
  | walk_at "evm2")
local macro_rules | `(tactic| walk_at "cx") => `(tactic| dsimp only [cxOf, Cx.nox, Cx.wish, Cx.blk, List.map, List.cons_append, List.nil_append, List.append_nil, List.length_cons, List.length_nil, List.replicate, Nat.reduceSub, Nat.reduceAdd])
local macro_rules | `(tactic| walk_at "ls") => `(tactic| try dsimp only [List.set_cons_zero, List.set_cons_succ])
local macro_rules | `(tactic| walk_at "set") => `(tactic| (refine' go_seq (go_set1 ?h ?k); (case h => walk_at "ev"); walk_at "ls"))
local macro_rules | `(tactic| walk_at "set!") => `(tactic| (refine' go_set1 ?h ?k; (case h => walk_at "ev"); walk_at "ls"))
local macro_rules | `(tactic| walk_at "if") => `(tactic| (refine' go_seq (go_if ?c ?x ?y); (case c => walk_at "et")))
local macro_rules | `(tactic| walk_at "if!") => `(tactic| (refine' go_if ?c ?x ?y; (case c => walk_at "et")))
local macro_rules | `(tactic| walk_at "ret") => `(tactic| (refine' go_ret1 ?q ?h ?p ?e; (case e => exact rfl); (case q => assumption); (case h => walk_at "ev")))
local macro_rules | `(tactic| walk_at "nx") => `(tactic| (refine go_next ?_; try dsimp only))
local macro_rules | `(tactic| walk_at "sp") => `(tactic| fail "sp")
local macro_rules | `(tactic| walk_at "ev2") => `(tactic| ((with_reducible refine' ev_call1 ?h1 ?h2); (case h1 => walk_at "ea"); (case h2 => walk_at "sp")))
local macro_rules | `(tactic| walk_at "evm2") => `(tactic| ((with_reducible refine' ev_callM1 ?h1 ?h2); (case h1 => walk_at "ea"); (case h2 => walk_at "sp")))
local macro_rules | `(tactic| walk_at "setM") => `(tactic| (refine' go_seq (go_setM1 ?h ?k); (case h => walk_at "evm")))
local macro_rules | `(tactic| walk_at "setM!") => `(tactic| (refine' go_setM1 ?h ?k; (case h => walk_at "evm")))
local macro_rules | `(tactic| walk_at "app") => `(tactic| (refine' go_seq (go_app1 ?a ?b ?h ?z ?k); (case a => exact rfl); (case b => walk_at "mj"); (case h => walk_at "ev"); (case z => walk_at "sz"); walk_at "ls"))
local macro_rules | `(tactic| walk_at "app!") => `(tactic| (refine' go_app1 ?a ?b ?h ?z ?k; (case a => exact rfl); (case b => walk_at "mj"); (case h => walk_at "ev"); (case z => walk_at "sz"); walk_at "ls"))
local macro_rules | `(tactic| walk_at "sz") => `(tactic| (have hsz_ := sizeLine_eq; first | omega | (simp only [List.length_append, List.length_cons, List.length_nil, List.length_map, List.length_range]; omega)))
local macro_rules | `(tactic| walk_at "retV") => `(tactic| (refine' go_retV1 ?q ?a ?b ?p ?e; (case e => exact rfl); (case q => assumption); (case a => exact rfl); (case b => walk_at "mj")))
local macro_rules | `(tactic| walk_at "evm2") => `(tactic| ((with_reducible refine' ev_opM ?h1 ?h2 (oRM (o_rep ?h3 ?h4 ?h5))); (case h1 => walk_at "ev"); (case h2 => walk_at "ev"); (case h3 => walk_at "side"); (case h4 => walk_at "side"); (case h5 => walk_at "side")))
local macro_rules | `(tactic| walk_at "op2") => `(tactic| first | with_reducible exact o_eqLI | with_reducible exact o_neLI | with_reducible exact o_eqLLI | with_reducible exact o_neLLI | with_reducible exact o_inO)
local macro_rules | `(tactic| walk_at "ix") => `(tactic| first | exact mj0 | exact mj1 | exact mj2 | exact mj3 | exact mj4 | exact mj5 | exact mj6 | exact mj7 | exact mj8 | exact mj9 | exact mj10 | exact mj11 | exact mj12)
local macro_rules | `(tactic| walk_at "ev") => `(tactic| first | ((with_reducible refine' ev_varS ?s ?h); (case h => with_reducible walk_at "ix"); (case s => first | exact Same.refl _ | assumption)) | fail "no")
local macro_rules | `(tactic| walk_at "ev") => `(tactic| first | ((with_reducible refine' ev_varN ?h); (case h => with_reducible walk_at "ix")) | fail "no")
local macro_rules | `(tactic| walk_at "sp") => `(tactic| with_reducible exact S_ii_i)
local macro_rules | `(tactic| walk_at "sp") => `(tactic| ((with_reducible refine' S_parts_i ?a ?b); (case a => first | assumption | (simp; done)); (case b => first | assumption | (simp; done) | omega)))
local macro_rules | `(tactic| walk_at "sp") => `(tactic| ((with_reducible refine' S_far_i ?a); (case a => walk_at "side")))
/-! ### tables -/
abbrev Tb := Int × Int × List (List (Int × Int))
abbrev rTab : Rl Tb := r3 rI rI (rT (rT (r2 rI rI)))
structure Tok (t : Tb) (n m : Nat) : Prop where
  rows : t.2.2.length = n
  cols : ∀ row ∈ t.2.2, row.length = m
  tg : ∀ row ∈ t.2.2, ∀ p ∈ row, 0 ≤ p.1 ∧ p.1 < (n : Int)
  i0 : 0 ≤ t.1
  i6 : t.1 ≤ 6
  mm : (m : Int) = 1 * 2 ^ t.1.toNat
  n0 : 0 < n
  nz : n ≤ 1000
def row (t : Tb) (s : Int) : List (Int × Int) := t.2.2.getD s.toNat []
def pr (t : Tb) (s l : Int) : Int × Int := (row t s).getD l.toNat (0, 0)
def δ (t : Tb) (s l : Int) : Int := (pr t s l).1
section
variable {t : Tb} {n m : Nat} {s l : Int}
theorem Tok.m64 (h : Tok t n m) : 1 ≤ m ∧ m ≤ 64 := by
  have h1 := h.mm
  have h2 : t.1.toNat ≤ 6 := by have := h.i6; omega
  have h3 : (2 : Int) ^ t.1.toNat ≤ 64 ∧ 1 ≤ (2 : Int) ^ t.1.toNat := by
    generalize t.1.toNat = k at h2
    have : k = 0 ∨ k = 1 ∨ k = 2 ∨ k = 3 ∨ k = 4 ∨ k = 5 ∨ k = 6 := by omega
    rcases this with e | e | e | e | e | e | e <;> subst e <;> decide
  omega
theorem row_at (h : Tok t n m) (h0 : 0 ≤ s) (h1 : s < n) : atI t.2.2 s = some (row t s) := by
  have e : s = ((s.toNat : Nat) : Int) := by omega
  have hk : s.toNat < t.2.2.length := by rw [h.rows]; omega
  have h2 : t.2.2[s.toNat]? = some (row t s) := by
    unfold row
    rw [List.getD_eq_getElem?_getD, List.getElem?_eq_getElem hk]
    rfl
  have h3 := atI_nat h2
  rw [← e] at h3
  exact h3
theorem row_mem (h : Tok t n m) (h0 : 0 ≤ s) (h1 : s < n) : row t s ∈ t.2.2 := by
  have hk : s.toNat < t.2.2.length := by rw [h.rows]; omega
  have h2 : t.2.2[s.toNat]? = some (row t s) := by
    unfold row
    rw [List.getD_eq_getElem?_getD, List.getElem?_eq_getElem hk]
    rfl
  exact List.mem_of_getElem? h2
theorem row_len (h : Tok t n m) (h0 : 0 ≤ s) (h1 : s < n) : (row t s).length = m := h.cols _ (row_mem h h0 h1)
theorem pr_get (h : Tok t n m) (h0 : 0 ≤ s) (h1 : s < n) (h2 : 0 ≤ l) (h3 : l < m) : (row t s)[l.toNat]? = some (pr t s l) := by
  have hk : l.toNat < (row t s).length := by rw [row_len h h0 h1]; omega
  unfold pr
  rw [List.getD_eq_getElem?_getD, List.getElem?_eq_getElem hk]
  rfl
theorem pr_at (h : Tok t n m) (h0 : 0 ≤ s) (h1 : s < n) (h2 : 0 ≤ l) (h3 : l < m) : atI (row t s) l = some (pr t s l) := by
  have e : l = ((l.toNat : Nat) : Int) := by omega
  have h3 := atI_nat (pr_get h h0 h1 h2 h3)
  rw [← e] at h3
  exact h3
theorem δ_ok (h : Tok t n m) (h0 : 0 ≤ s) (h1 : s < n) (h2 : 0 ≤ l) (h3 : l < m) : 0 ≤ δ t s l ∧ δ t s l < n := h.tg _ (row_mem h h0 h1) _ (List.mem_of_getElem? (pr_get h h0 h1 h2 h3))
theorem runW_ok (h : Tok t n m) : ∀ (w : List Int) (s : Int), 0 ≤ s → s < n → Wd m w → 0 ≤ runW (δ t) s w ∧ runW (δ t) s w < n
  | [], s, h0, h1, _ => ⟨h0, h1⟩
  | x :: w, s, h0, h1, hw => by
    have := δ_ok h h0 h1 hw.head.1 hw.head.2
    exact runW_ok h w _ this.1 this.2 hw.tail
end

/-! ### step -/
def S_step (ars : List Sl) (post : Int × Int → Prop) : Prop := ∃ (t : Tb) (s l : Int) (n m : Nat), ars = [sl rTab t, sl rI s, sl rI l] ∧ Tok t n m ∧ 0 ≤ s ∧ s < n ∧ 0 ≤ l ∧ l < m ∧ post = fun y => y = pr t s l
theorem S_step_i {t : Tb} {s l : Int} {n m : Nat} (h : Tok t n m) (h0 : 0 ≤ s) (h1 : s < n) (h2 : 0 ≤ l) (h3 : l < m) : S_step [sl rTab t, sl rI s, sl rI l] (fun y => y = pr t s l) := ⟨t, s, l, n, m, rfl, h, h0, h1, h2, h3, rfl⟩
local macro_rules | `(tactic| walk_at "sp") => `(tactic| ((with_reducible refine' S_step_i ?a ?b ?c ?d ?e); (case a => assumption); (case b => walk_at "side"); (case c => walk_at "side"); (case d => walk_at "side"); (case e => walk_at "side")))
section
variable {P : Program} {w : World} {K : PySem.W.Frag} {mg : Str → Option Value} {base : Heap}
theorem ok_step (B : Bl mg) {f : Addr} {fd : FuncData} (F : Fun K "step" "step" s_step f fd) : FnOk P w K mg base CX0 1 f fd ["table", "state", "letter"] (mkSp (r2 rI rI) S_step) := by
  refine def_ok F sc_step (fun _ _ ⟨_, _, _, _, _, h, _⟩ => by rw [h]; rfl) fun cdv A outer s H E hr => ?_
  refine ⟨_, (pss_one (ps_ret (pe_ix ix_seq (pe_ix ix_seq (pe_ix ix_seq (pv 0) (pe_gk rfl B.kROWS) (fun _ _ => rfl)) (pv 1) (fun _ _ => rfl)) (pv 2) (fun _ _ => rfl)))), ?_⟩
  intro F0 ars post Q ⟨t, s, l, n, m, ea, ht, h0, h1, h2, h3, ep⟩ hQ
  subst ea ep
  walk_at "cx"
  have g1 := row_at ht h0 h1
  have g2 := pr_at ht h0 h1 h2 h3
  walk_at "ret"
  rfl
/-! ### letter_count, state_count, check_states, run -/
def S_lc (ars : List Sl) (post : Int → Prop) : Prop := ∃ (t : Tb) (n m : Nat), ars = [sl rTab t] ∧ Tok t n m ∧ post = fun y => y = (m : Int)
theorem S_lc_i {t : Tb} {n m : Nat} (h : Tok t n m) : S_lc [sl rTab t] (fun y => y = (m : Int)) := ⟨t, n, m, rfl, h, rfl⟩
local macro_rules | `(tactic| walk_at "sp") => `(tactic| ((with_reducible refine' S_lc_i ?a); (case a => assumption)))
def S_sc (ars : List Sl) (post : Int → Prop) : Prop := ∃ (t : Tb) (n m : Nat), ars = [sl rTab t] ∧ Tok t n m ∧ post = fun y => y = (n : Int)
theorem S_sc_i {t : Tb} {n m : Nat} (h : Tok t n m) : S_sc [sl rTab t] (fun y => y = (n : Int)) := ⟨t, n, m, rfl, h, rfl⟩
local macro_rules | `(tactic| walk_at "sp") => `(tactic| ((with_reducible refine' S_sc_i ?a); (case a => assumption)))
def S_cs (ars : List Sl) (post : Unit → Prop) : Prop := ∃ (t : Tb) (ss : List Int) (n m : Nat), ars = [sl rTab t, sl (rL rI) ss] ∧ Tok t n m ∧ (∀ s ∈ ss, 0 ≤ s ∧ s < (n : Int)) ∧ post = fun y => y = ()
theorem S_cs_i {t : Tb} {ss : List Int} {n m : Nat} (h : Tok t n m) (h2 : ∀ s ∈ ss, 0 ≤ s ∧ s < (n : Int)) : S_cs [sl rTab t, sl (rL rI) ss] (fun y => y = ()) := ⟨t, ss, n, m, rfl, h, h2, rfl⟩
local macro_rules | `(tactic| walk_at "sp") => `(tactic| ((with_reducible refine' S_cs_i ?a ?b); (case a => assumption); (case b => first | assumption | (simp; omega))))
def runA (t : Tb) (s : Int) : List Int → List Int
  | [] => []
  | x :: w => (pr t s x).2 :: runA t (δ t s x) w
theorem runA_snoc (t : Tb) (s : Int) (w : List Int) (x : Int) : runA t s (w ++ [x]) = runA t s w ++ [(pr t (runW (δ t) s w) x).2] := by
  induction w generalizing s with
  | nil => rfl
  | cons y w ih =>
    show _ :: runA t (δ t s y) (w ++ [x]) = _
    rw [ih]
    rfl
theorem runA_len (t : Tb) (s : Int) (w : List Int) : (runA t s w).length = w.length := by
  induction w generalizing s with
  | nil => rfl
  | cons y w ih => show (runA t _ w).length + 1 = w.length + 1; rw [ih]
def S_run (ars : List Sl) (post : List Int × Int → Prop) : Prop := ∃ (t : Tb) (s : Int) (w : List Int) (n m : Nat), ars = [sl rTab t, sl rI s, sl (rL rI) w] ∧ Tok t n m ∧ 0 ≤ s ∧ s < n ∧ Wd m w ∧ w.length ≤ 1000000 ∧ post = fun y => y = (runA t s w, runW (δ t) s w)
theorem S_run_i {t : Tb} {s : Int} {w : List Int} {n m : Nat} (h : Tok t n m) (h0 : 0 ≤ s) (h1 : s < n) (h2 : Wd m w) (h3 : w.length ≤ 1000000) : S_run [sl rTab t, sl rI s, sl (rL rI) w] (fun y => y = (runA t s w, runW (δ t) s w)) := ⟨t, s, w, n, m, rfl, h, h0, h1, h2, h3, rfl⟩
local macro_rules | `(tactic| walk_at "sp") => `(tactic| ((with_reducible refine' S_run_i ?a ?b ?c ?d ?e); (case a => assumption); (case b => walk_at "side"); (case c => walk_at "side"); (case d => assumption); (case e => walk_at "side")))
theorem ok_letter_count (B : Bl mg) {f : Addr} {fd : FuncData} (F : Fun K "letter_count" "letter_count" s_letter_count f fd) : FnOk P w K mg base CX0 1 f fd ["table"] (mkSp rI S_lc) := by
  refine def_ok F sc_letter_count (fun _ _ ⟨_, _, _, h, _⟩ => by rw [h]; rfl) fun cdv A outer s H E hr => ?_
  refine ⟨_, (pss_one (ps_ret (pe_op op_shl pe_int (pe_ix ix_seq (pv 0) pe_int (fun _ _ => rfl))))), ?_⟩
  intro F0 ars post Q ⟨t, n, m, ea, ht, ep⟩ hQ
  subst ea ep
  walk_at "cx"
  have i0 := ht.i0
  have i6 := ht.i6
  walk_at "ret"
  exact ht.mm.symm
theorem ok_state_count (B : Bl mg) {f : Addr} {fd : FuncData} (F : Fun K "state_count" "state_count" s_state_count f fd) : FnOk P w K mg base CX0 1 f fd ["table"] (mkSp rI S_sc) := by
  refine def_ok F sc_state_count (fun _ _ ⟨_, _, _, h, _⟩ => by rw [h]; rfl) fun cdv A outer s H E hr => ?_
  refine ⟨_, (pss_one (ps_ret (pe_callB call_len (by rfl) B.blen PySem.boot_len (pa_cons (pe_ix ix_seq (pv 0) (pe_gk rfl B.kROWS) (fun _ _ => rfl)) pa_nil)))), ?_⟩
  intro F0 ars post Q ⟨t, n, m, ea, ht, ep⟩ hQ
  subst ea ep
  walk_at "cx"
  walk_at "ret"
  rw [ht.rows]
theorem ok_check_states (B : Bl mg) (d_state_count : Df P w K mg base "state_count" ["table"] (mkSp rI S_sc) 1) {f : Addr} {fd : FuncData} (F : Fun K "check_states" "check_states" s_check_states f fd) :
    FnOk P w K mg base CX0 2 f fd ["table", "states"] (mkSp rN S_cs) := by
  refine def_ok F sc_check_states (fun _ _ ⟨_, _, _, _, h, _⟩ => by rw [h]; rfl) fun cdv A outer s H E hr => ?_
  refine ⟨_, (pss_one (ps_for PassesOwn.never rfl (pi_seq (pv 1)) (pg_name (i := 2) sc_check_states.nd rfl (.inl rfl))
        (pss_one (ps_if (pt_not (pt_chain op_le op_lt pe_int (pv 2) (pe_df d_state_count hr (by decide) rfl (pa_cons (pv 0) pa_nil))))
          (pss_one ps_never) pss_nil)))), ?_⟩
  intro F0 ars post Q ⟨t, ss, n, m, ea, ht, hss, ep⟩ hQ
  subst ea ep
  walk_at "cx"
  refine' go_forLs (ι := Unit) (r := rI) (xs := ss) (fun k b => True) (fun _ => [sl rTab t, sl (rL rI) ss, s_]) (fun x _ => [sl rTab t, sl (rL rI) ss, sl rI x]) (fun _ => []) ?hl () (Wk.refl _) rfl trivial (fun _ _ _ => tg_name) ?hs ?hd
  case hl => walk_at "ev"
  case hd => exact fun _ _ => go_end hQ rfl
  case hs =>
    intro F1 bs k b x hx _ N hN _
    have hx2 := hss x (List.mem_of_getElem? hx)
    walk_at "if!"
    case x =>
      intro hyes
      simp at hyes
      omega
    intro _
    walk_at "nx"
    exact Go.weak (.same (.same (.drop .nil))) (hN () trivial)
theorem ok_run (B : Bl mg) (d_step : Df P w K mg base "step" ["table", "state", "letter"] (mkSp (r2 rI rI) S_step) 1) {f : Addr} {fd : FuncData} (F : Fun K "run" "run" s_run f fd) :
    FnOk P w K mg base CX0 2 f fd ["table", "state", "word"] (mkSp (r2 (rL rI) rI) S_run) := by
  refine def_ok F sc_run (fun _ _ ⟨_, _, _, _, _, h, _⟩ => by rw [h]; rfl) fun cdv A outer s H E hr => ?_
  refine ⟨_, (pss_cons (ps_set (i := 3) sc_run.nd rfl (.inl rfl) (pe_lst pa_nil))
      (pss_cons (ps_for PassesOwn.never rfl (pi_seq (pv 2)) (pg_name (i := 4) sc_run.nd rfl (.inl rfl))
        (pss_cons (ps_asg (pe_df d_step hr (by decide) rfl (pa_cons (pv 0) (pa_cons (pv 1) (pa_cons (pv 4) pa_nil)))) (pg_tup rfl (pgs_cons (pg_name (i := 1) sc_run.nd rfl (.inl rfl)) (pgs_cons (pg_name (i := 5) sc_run.nd rfl (.inl rfl)) pgs_nil))))
        (pss_one (ps_expr (pe_bm PySem.F.plainAttrs_list PySem.F.slot_list_append PySem.F.type_list_append mt_append (pv 3) (pa_cons (pv 5) pa_nil))))))
      (pss_one (ps_ret (pe_tup (pa_cons (pv 3) (pa_cons (pv 1) pa_nil))))))), ?_⟩
  intro F0 ars post Q ⟨t, s, w, n, m, ea, ht, h0, h1, hw, hl, ep⟩ hQ
  subst ea ep
  walk_at "cx"
  refine go_seq (go_setM1 (ev_lst0 rI) fun p => ?_)
  walk_at "ls"
  refine' go_seq (go_forLs (ι := List Int) (r := rI) (xs := w) (fun k b => b = w.take k) (fun b => [sl rTab t, sl rI (runW (δ t) s b), sl (rL rI) w, sl rV (.ref p), s_, s_]) (fun x b => [sl rTab t, sl rI (runW (δ t) s b), sl (rL rI) w, sl rV (.ref p), sl rI x, s_]) (fun b => [(p, mL rI (runA t s b))]) ?hl [] (Wk.refl _) rfl rfl (fun _ _ _ => tg_name) ?hs ?hd)
  case hl => walk_at "ev"
  case hd =>
    intro b hb
    rw [List.take_length] at hb
    subst hb
    walk_at "ls"
    refine go_frz (p := p) (mo := mL rI (runA t s b)) (i := 3) (.refl _) rfl frzL ?_
    walk_at "ls"
    walk_at "ret"
    rfl
  case hs =>
    intro F1 bs k b x hx hb N hN _
    have hsplit : w.take (k + 1) = b ++ [x] := by rw [List.take_add_one, hx, hb]; rfl
    have hwb : Wd m (b ++ [x]) := by
      have h2 : Wd m (w.take (k + 1) ++ w.drop (k + 1)) := by rw [List.take_append_drop]; exact hw
      rw [hsplit] at h2
      exact h2.left
    have hx2 := (hwb.right).head
    have hr2 := runW_ok ht b s h0 h1 hwb.left
    have hlen : (runA t s b).length ≤ 1000000 := by
      rw [runA_len]
      have := congrArg List.length hb
      rw [List.length_take] at this
      omega
    have fin := hN (b ++ [x]) hsplit.symm
    rw [runW_snoc, runA_snoc] at fin
    refine' go_seq (go_asg (Pv := fun y => y = pr t (runW (δ t) s b) x) ?h (fun _ _ => tg_pair) ?k)
    case h => walk_at "ev"
    case k =>
      intro y ey
      rw [ey]
      walk_at "ls"
      walk_at "app!"
      exact Go.weak (.same (.same (.same (.same (.drop (.drop .nil)))))) fin
end

end T

namespace T
open PySem PySem.Spec PyProof.Rows L2
local macro_rules | `(tactic| walk_at "side") => `(tactic| first | with_reducible assumption | omega | (dsimp only; omega) | exact CMul_l (by omega) (by omega) | exact CMul_r (by omega) (by omega) | (refine' (⟨?_, ?_⟩ : CDivN _ _) <;> omega) | (refine' (⟨?_, ?_, ?_⟩ : CPow _ _) <;> first | decide | omega) | (simp; done))
local macro_rules | `(tactic| walk_at "op") => `(tactic| first
  | ((with_reducible refine' oI0 (t := rI) ?c); (case c => exact fun _ => rfl))
  | ((with_reducible refine' oI0 (t := rB) ?c); (case c => exact fun _ => rfl))
  | ((with_reducible refine' oL (oI0 (t := rI) ?c)); (case c => exact fun _ => rfl))
  | ((with_reducible refine' oI (t := rI) ?c ?d); (case d => exact fun _ => rfl); (case c => walk_at "side"))
  | ((with_reducible refine' oL (oI (t := rI) ?c ?d)); (case d => exact fun _ => rfl); (case c => walk_at "side"))
  | with_reducible exact o_eqI | with_reducible exact oL o_eqI | with_reducible exact o_neI | with_reducible exact oL o_neI | with_reducible exact o_isN | with_reducible exact o_notN
  | with_reducible exact o_ix20' | with_reducible exact o_ix21' | with_reducible exact o_ix30' | with_reducible exact o_ix31' | with_reducible exact o_ix32'
  | ((with_reducible refine' o_ixL' ?s); (case s => walk_at "side"))
  | ((with_reducible refine' o_ixT' ?s); (case s => walk_at "side"))
  | ((with_reducible refine' o_ixQ' ?s); (case s => walk_at "side"))
  | ((with_reducible refine' o_ixM' ?h ?s); (case h => walk_at "mj"); (case s => walk_at "side"))
  | walk_at "op2")
local macro_rules | `(tactic| walk_at "mj") => `(tactic| first | exact mj0 | exact mj1 | exact mj2 | exact mj3)
local macro_rules | `(tactic| walk_at "ca") => `(tactic| first
  | with_reducible exact c_lenL | with_reducible exact c_lenT | with_reducible exact c_lenQ | ((with_reducible refine' c_lenM ?h); (case h => walk_at "mj")) | with_reducible exact c_int | with_reducible exact c_tupL | ((with_reducible refine' c_tupM ?h); (case h => walk_at "mj"))
  | with_reducible exact c_all | with_reducible exact c_max2 | with_reducible exact c_min2 | walk_at "ca2")
local macro_rules | `(tactic| walk_at "ea") => `(tactic| first
  | with_reducible exact ea_nil
  | ((with_reducible refine' ea_cons ?h1 ?h2); (case h1 => walk_at "ev"); (case h2 => walk_at "ea")))
local macro_rules | `(tactic| walk_at "ev") => `(tactic| first
  | ((with_reducible refine' ev_var ?h); (case h => exact rfl))
  | with_reducible exact ev_int | with_reducible exact ev_bl | with_reducible exact ev_non | with_reducible exact ev_str | with_reducible exact ev_val
  | with_reducible assumption
  | ((with_reducible refine' ev_op ?h1 ?h2 ?h3); (case h1 => walk_at "ev"); (case h2 => walk_at "ev"); (case h3 => walk_at "op"))
  | ((with_reducible refine' ev_ca ?h1 ?h2); (case h1 => walk_at "ea"); (case h2 => walk_at "ca"))
  | ((with_reducible refine' ev_neg ?h1); (case h1 => walk_at "ev"))
  | ((with_reducible refine' ev_chain ?h1 ?h2 ?h3 ?h4 ?h5); (case h1 => walk_at "ev"); (case h2 => walk_at "ev"); (case h3 => walk_at "op"); (case h4 => walk_at "ev"); (case h5 => walk_at "op"))
  | ((with_reducible refine' ev_tup2 ?h1); (case h1 => walk_at "ea"))
  | ((with_reducible refine' ev_tup3 ?h1); (case h1 => walk_at "ea"))
  | ((with_reducible refine' ev_notV ?h1); (case h1 => walk_at "ev"))
  | ((with_reducible refine' ev_andV ?h1 (fun _ => ?h2)); (case h1 => walk_at "ev"); (case h2 => walk_at "ev"))
  | ((with_reducible refine' ev_orV ?h1 (fun _ => ?h2)); (case h1 => walk_at "ev"); (case h2 => walk_at "ev"))
  | ((with_reducible refine' ev_frzL ?h1); (case h1 => walk_at "evm"))
  | walk_at "ev2")
local macro_rules | `(tactic| walk_at "et") => `(tactic| first
  | ((with_reducible refine' et_test ?h1); (case h1 => walk_at "ev"))
  | ((with_reducible refine' et_B ?h1); (case h1 => walk_at "ev"))
  | ((with_reducible refine' et_not ?h1); (case h1 => walk_at "et"))
  | ((with_reducible refine' et_and ?h1 (fun _ => ?h2)); (case h1 => walk_at "et"); (case h2 => walk_at "et"))
  | ((with_reducible refine' et_or ?h1 (fun _ => ?h2)); (case h1 => walk_at "et"); (case h2 => walk_at "et")))
local macro_rules | `(tactic| walk_at "ca2") => `(tactic| fail "ca2")
local macro_rules | `(tactic| walk_at "ca2") => `(tactic| first | with_reducible exact c_isi_ii | with_reducible exact c_isi_ib | with_reducible exact c_isi_ll | ((with_reducible refine' c_lenD ?h); (case h => walk_at "mj")))
local macro_rules | `(tactic| walk_at "op2") => `(tactic| fail "op2")
local macro_rules | `(tactic| walk_at "ev2") => `(tactic| fail "ev2")
local macro_rules | `(tactic| walk_at "evm2") => `(tactic| fail "evm2")
local macro_rules | `(tactic| walk_at "evm") => `(tactic| first
  | with_reducible exact ev_lst0 _
  | ((with_reducible refine' ev_lst1 ?h1); (case h1 => walk_at "ea"))
  | ((with_reducible refine' ev_lst2 ?h1); (case h1 => walk_at "ea"))
  | ((with_reducible refine' ev_lst3 ?h1); (case h1 => walk_at "ea"))
  | ((with_reducible refine' ev_lst4 ?h1); (case h1 => walk_at "ea"))
  | ((with_reducible refine' ev_lst5 ?h1); (case h1 => walk_at "ea"))
  | ((with_reducible refine' ev_lst6 ?h1); (case h1 => walk_at "ea"))
  | ((with_reducible refine' ev_lst7 ?h1); (case h1 => walk_at "ea"))
  | ((with_reducible refine' ev_lst8 ?h1); (case h1 => walk_at "ea"))
  | ((with_reducible refine' ev_opM ?h1 ?h2 (oRM (o_cat ?h3))); (case h1 => walk_at "ev"); (case h2 => walk_at "ev"); (case h3 => walk_at "side"))
  | walk_at "evm2")
local macro_rules | `(tactic| walk_at "cx") => `(tactic| dsimp only [cxOf, Cx.nox, Cx.wish, Cx.blk, List.map, List.cons_append, List.nil_append, List.append_nil, List.length_cons, List.length_nil, List.replicate, Nat.reduceSub, Nat.reduceAdd])
local macro_rules | `(tactic| walk_at "ls") => `(tactic| try dsimp only [List.set_cons_zero, List.set_cons_succ])
local macro_rules | `(tactic| walk_at "set") => `(tactic| (refine' go_seq (go_set1 ?h ?k); (case h => walk_at "ev"); walk_at "ls"))
local macro_rules | `(tactic| walk_at "set!") => `(tactic| (refine' go_set1 ?h ?k; (case h => walk_at "ev"); walk_at "ls"))
local macro_rules | `(tactic| walk_at "if") => `(tactic| (refine' go_seq (go_if ?c ?x ?y); (case c => walk_at "et")))
local macro_rules | `(tactic| walk_at "if!") => `(tactic| (refine' go_if ?c ?x ?y; (case c => walk_at "et")))
local macro_rules | `(tactic| walk_at "ret") => `(tactic| (refine' go_ret1 ?q ?h ?p ?e; (case e => exact rfl); (case q => assumption); (case h => walk_at "ev")))
local macro_rules | `(tactic| walk_at "nx") => `(tactic| (refine go_next ?_; try dsimp only))
local macro_rules | `(tactic| walk_at "sp") => `(tactic| fail "sp")
local macro_rules | `(tactic| walk_at "ev2") => `(tactic| ((with_reducible refine' ev_call1 ?h1 ?h2); (case h1 => walk_at "ea"); (case h2 => walk_at "sp")))
local macro_rules | `(tactic| walk_at "evm2") => `(tactic| ((with_reducible refine' ev_callM1 ?h1 ?h2); (case h1 => walk_at "ea"); (case h2 => walk_at "sp")))
local macro_rules | `(tactic| walk_at "setM") => `(tactic| (refine' go_seq (go_setM1 ?h ?k); (case h => walk_at "evm")))
local macro_rules | `(tactic| walk_at "setM!") => `(tactic| (refine' go_setM1 ?h ?k; (case h => walk_at "evm")))
local macro_rules | `(tactic| walk_at "app") => `(tactic| (refine' go_seq (go_app1 ?a ?b ?h ?z ?k); (case a => exact rfl); (case b => walk_at "mj"); (case h => walk_at "ev"); (case z => walk_at "sz"); walk_at "ls"))
local macro_rules | `(tactic| walk_at "app!") => `(tactic| (refine' go_app1 ?a ?b ?h ?z ?k; (case a => exact rfl); (case b => walk_at "mj"); (case h => walk_at "ev"); (case z => walk_at "sz"); walk_at "ls"))
local macro_rules | `(tactic| walk_at "sz") => `(tactic| (have hsz_ := sizeLine_eq; first | omega | (simp only [List.length_append, List.length_cons, List.length_nil, List.length_map, List.length_range]; omega)))
local macro_rules | `(tactic| walk_at "retV") => `(tactic| (refine' go_retV1 ?q ?a ?b ?p ?e; (case e => exact rfl); (case q => assumption); (case a => exact rfl); (case b => walk_at "mj")))
local macro_rules | `(tactic| walk_at "evm2") => `(tactic| ((with_reducible refine' ev_opM ?h1 ?h2 (oRM (o_rep ?h3 ?h4 ?h5))); (case h1 => walk_at "ev"); (case h2 => walk_at "ev"); (case h3 => walk_at "side"); (case h4 => walk_at "side"); (case h5 => walk_at "side")))
local macro_rules | `(tactic| walk_at "op2") => `(tactic| first | with_reducible exact o_eqLI | with_reducible exact o_neLI | with_reducible exact o_eqLLI | with_reducible exact o_neLLI | with_reducible exact o_inO)
local macro_rules | `(tactic| walk_at "ix") => `(tactic| first | exact mj0 | exact mj1 | exact mj2 | exact mj3 | exact mj4 | exact mj5 | exact mj6 | exact mj7 | exact mj8 | exact mj9 | exact mj10 | exact mj11 | exact mj12)
local macro_rules | `(tactic| walk_at "ev") => `(tactic| first | ((with_reducible refine' ev_varS ?s ?h); (case h => with_reducible walk_at "ix"); (case s => first | exact Same.refl _ | assumption)) | fail "no")
local macro_rules | `(tactic| walk_at "ev") => `(tactic| first | ((with_reducible refine' ev_varN ?h); (case h => with_reducible walk_at "ix")) | fail "no")
local macro_rules | `(tactic| walk_at "sp") => `(tactic| with_reducible exact S_ii_i)
local macro_rules | `(tactic| walk_at "sp") => `(tactic| ((with_reducible refine' S_parts_i ?a ?b); (case a => first | assumption | (simp; done)); (case b => first | assumption | (simp; done) | omega)))
local macro_rules | `(tactic| walk_at "sp") => `(tactic| ((with_reducible refine' S_far_i ?a); (case a => walk_at "side")))
local macro_rules | `(tactic| walk_at "sp") => `(tactic| ((with_reducible refine' S_step_i ?a ?b ?c ?d ?e); (case a => assumption); (case b => walk_at "side"); (case c => walk_at "side"); (case d => walk_at "side"); (case e => walk_at "side")))
local macro_rules | `(tactic| walk_at "sp") => `(tactic| ((with_reducible refine' S_lc_i ?a); (case a => assumption)))
local macro_rules | `(tactic| walk_at "sp") => `(tactic| ((with_reducible refine' S_sc_i ?a); (case a => assumption)))
local macro_rules | `(tactic| walk_at "sp") => `(tactic| ((with_reducible refine' S_cs_i ?a ?b); (case a => assumption); (case b => first | assumption | (simp; omega))))
local macro_rules | `(tactic| walk_at "sp") => `(tactic| ((with_reducible refine' S_run_i ?a ?b ?c ?d ?e); (case a => assumption); (case b => walk_at "side"); (case c => walk_at "side"); (case d => assumption); (case e => walk_at "side")))
/-! ### _law_answer, _law_table -/
def ansF (md top p : Int) : Int := if md = 0 then p.fmod (top + 1) else if md = 1 then p.fmod 2 else top * p.fdiv 48
def S_ans (ars : List Sl) (post : Int → Prop) : Prop := ∃ (md top p : Int), ars = [sl rI md, sl rI top, sl rI p] ∧ 0 ≤ top ∧ top ≤ 1000 ∧ post = fun y => y = ansF md top p
theorem S_ans_i {md top p : Int} (h : 0 ≤ top) (h2 : top ≤ 1000) : S_ans [sl rI md, sl rI top, sl rI p] (fun y => y = ansF md top p) := ⟨md, top, p, rfl, h, h2, rfl⟩
local macro_rules | `(tactic| walk_at "sp") => `(tactic| ((with_reducible refine' S_ans_i ?a ?b); (case a => walk_at "side"); (case b => walk_at "side")))
def topF (o : Int) : Int := [1, 3, 7, 15, 31, 63].getD o.toNat 0
def letF (i : Int) : Int := [1, 2, 4, 8, 16, 32, 64].getD i.toNat 0
theorem top_at {o : Int} (h0 : 0 ≤ o) (h1 : o ≤ 5) : atI [1, 3, 7, 15, 31, 63] o = some (topF o) ∧ 0 ≤ topF o ∧ topF o ≤ 63 := by
  have : o = 0 ∨ o = 1 ∨ o = 2 ∨ o = 3 ∨ o = 4 ∨ o = 5 := by omega
  rcases this with e | e | e | e | e | e <;> subst e <;> exact ⟨rfl, by decide, by decide⟩
theorem let_at {o : Int} (h0 : 0 ≤ o) (h1 : o ≤ 6) : atI [1, 2, 4, 8, 16, 32, 64] o = some (letF o) ∧ 1 ≤ letF o ∧ letF o ≤ 64 ∧ letF o = 1 * 2 ^ o.toNat := by
  have : o = 0 ∨ o = 1 ∨ o = 2 ∨ o = 3 ∨ o = 4 ∨ o = 5 ∨ o = 6 := by omega
  rcases this with e | e | e | e | e | e | e <;> subst e <;> exact ⟨rfl, by decide, by decide, by decide⟩
def rowF (ps : List Int) (n top md : Int) (m : Nat) : List (Int × Int) := (List.range m).map fun i : Nat => ((ps.getD (2 * i) 0).fmod n, ansF md top (ps.getD (2 * i + 1) 0))
def tabRow (ns : List Int) (a md top n : Int) (m k : Nat) : List (Int × Int) := rowF (parts (far ns (a + (k : Int))) (reps [32, 64] m)) n top md m
def tabF (ns : List Int) (a inp o st md : Int) : Tb := (inp, 1 + o, (List.range (1 + st).toNat).map fun k : Nat => tabRow ns a md (topF o) (1 + st) (letF inp).toNat k)
theorem reps_mem {α : Type} {xs : List α} {k : Nat} {x : α} (h : x ∈ reps xs k) : x ∈ xs := by
  unfold reps at h
  obtain ⟨l, hl, hx⟩ := List.mem_flatten.mp h
  rw [List.mem_replicate] at hl
  rw [← hl.2]
  exact hx
theorem tabF_ok {ns : List Int} {a inp o st md : Int} (h0 : 0 ≤ inp) (h1 : inp ≤ 6) (h2 : 0 ≤ st) (h3 : st ≤ 100) : Tok (tabF ns a inp o st md) (1 + st).toNat (letF inp).toNat := by
  have hl := let_at h0 h1
  refine ⟨by show (List.map _ (List.range (1 + st).toNat)).length = _; simp, fun row hr => ?_, fun row hr p hp => ?_, h0, h1, ?_, by omega, by omega⟩
  · obtain ⟨k, _, e⟩ := List.mem_map.mp hr
    rw [← e]
    unfold tabRow rowF
    simp
  · obtain ⟨k, _, e⟩ := List.mem_map.mp hr
    rw [← e] at hp
    unfold tabRow rowF at hp
    obtain ⟨i, _, e⟩ := List.mem_map.mp hp
    rw [← e]
    have := @fmod_lt ((parts (far ns (a + (k : Int))) (reps [32, 64] (letF inp).toNat)).getD (2 * i) 0) (1 + st) (by omega)
    exact ⟨this.1, by have := this.2; show _ < (((1 + st).toNat : Nat) : Int); omega⟩
  · show (((letF inp).toNat : Nat) : Int) = 1 * 2 ^ inp.toNat
    omega
def S_table (K : PySem.W.Frag) (ars : List Sl) (post : Tb → Prop) : Prop := ∃ (ns : List Int) (a inp o st md : Int), ars = [sl (rQ K) ns, sl rI a, sl (rL rI) [inp, o, st, md]] ∧ 0 ≤ a ∧ 0 ≤ inp ∧ inp ≤ 6 ∧ 0 ≤ o ∧ o ≤ 5 ∧ 0 ≤ st ∧ st ≤ 100 ∧ post = fun y => y = tabF ns a inp o st md
theorem S_table_i {K : PySem.W.Frag} {ns : List Int} {a inp o st md : Int} (h0 : 0 ≤ a) (h1 : 0 ≤ inp) (h2 : inp ≤ 6) (h3 : 0 ≤ o) (h4 : o ≤ 5) (h5 : 0 ≤ st) (h6 : st ≤ 100) :
    S_table K [sl (rQ K) ns, sl rI a, sl (rL rI) [inp, o, st, md]] (fun y => y = tabF ns a inp o st md) := ⟨ns, a, inp, o, st, md, rfl, h0, h1, h2, h3, h4, h5, h6, rfl⟩
local macro_rules | `(tactic| walk_at "sp") => `(tactic| ((with_reducible refine' S_table_i ?a ?b ?c ?d ?e ?f ?g); (case a => walk_at "side"); (case b => walk_at "side"); (case c => walk_at "side"); (case d => walk_at "side"); (case e => walk_at "side"); (case f => walk_at "side"); (case g => walk_at "side")))
section
variable {P : Program} {w : World} {K : PySem.W.Frag} {mg : Str → Option Value} {base : Heap}
theorem ok_answer (B : Bl mg) {f : Addr} {fd : FuncData} (F : Fun K "_law_answer" "_law_answer" s_law_answer f fd) : FnOk P w K mg base CX0 1 f fd ["mode", "top", "part"] (mkSp rI S_ans) := by
  refine def_ok F sc_law_answer (fun _ _ ⟨_, _, _, h, _⟩ => by rw [h]; rfl) fun cdv A outer s H E hr => ?_
  refine ⟨_, (pss_cons (ps_if (pt_cmpR (op_eqA hr.units) (pv 0) pe_int (nomark _))
        (pss_one (ps_ret (pe_op op_modN (pe_callTy call_int1 (by rfl) B.bint (by decide +kernel) (pa_cons (pv 2) pa_nil)) (pe_op op_addA (pv 1) pe_int)))) pss_nil)
      (pss_cons (ps_if (pt_cmpR (op_eqA hr.units) (pv 0) pe_int (nomark _))
        (pss_one (ps_ret (pe_op op_modN (pe_callTy call_int1 (by rfl) B.bint (by decide +kernel) (pa_cons (pv 2) pa_nil)) pe_int))) pss_nil)
      (pss_one (ps_ret (pe_op op_mulA (pv 1) (pe_op op_fdivN (pv 2) pe_int)))))), ?_⟩
  intro F0 ars post Q ⟨md, top, p, ea, h0, h1, ep⟩ hQ
  subst ea ep
  walk_at "cx"
  walk_at "if"
  case x =>
    intro hy
    have hy := of_decide_eq_true hy
    walk_at "ret"
    show _ = ansF md top p
    unfold ansF
    rw [if_pos hy]
  intro hn
  have hn := of_decide_eq_false hn
  walk_at "nx"
  walk_at "if"
  case x =>
    intro hy
    have hy := of_decide_eq_true hy
    walk_at "ret"
    show _ = ansF md top p
    unfold ansF
    rw [if_neg hn, if_pos hy]
  intro hn2
  have hn2 := of_decide_eq_false hn2
  walk_at "nx"
  walk_at "ret"
  show _ = ansF md top p
  unfold ansF
  rw [if_neg hn, if_neg hn2]
theorem ok_table (B : Bl mg) (d_law_far : Df P w K mg base "_law_far" ["script", "k"] (mkSp rI (S_far K)) 1) (d_law_parts : Df P w K mg base "_law_parts" ["cell", "sizes"] (mkSpM (mL rI) S_parts) 1)
    (d_law_answer : Df P w K mg base "_law_answer" ["mode", "top", "part"] (mkSp rI S_ans) 1) {f : Addr} {fd : FuncData} (F : Fun K "_law_table" "_law_table" s_law_table f fd) : FnOk P w K mg base CX0 2 f fd ["script", "at", "head"] (mkSp rTab (S_table K)) := by
  refine def_ok F sc_law_table (fun _ _ ⟨_, _, _, _, _, _, h, _⟩ => by rw [h]; rfl) fun cdv A outer s H E hr => ?_
  refine ⟨_, (pss_cons (ps_set (i := 3) sc_law_table.nd rfl (.inl rfl) (pe_ix ix_seq (pe_lst (pa_cons pe_int (pa_cons pe_int (pa_cons pe_int (pa_cons pe_int (pa_cons pe_int (pa_cons pe_int pa_nil))))))) (pe_ix ix_seq (pv 2) pe_int (fun _ _ => rfl)) (fun _ _ => rfl)))
      (pss_cons (ps_set (i := 4) sc_law_table.nd rfl (.inl rfl) (pe_lst pa_nil))
      (pss_cons (ps_for PassesOwn.never rfl (pi_range1 (by rfl) B.brange (pa_cons (pe_op op_addA pe_int (pe_ix ix_seq (pv 2) pe_int (fun _ _ => rfl))) pa_nil)) (pg_name (i := 5) sc_law_table.nd rfl (.inl rfl))
        (pss_cons (ps_set (i := 6) sc_law_table.nd rfl (.inl rfl) (pe_df d_law_parts hr (by decide) rfl (pa_cons (pe_df d_law_far hr (by decide) rfl (pa_cons (pv 0) (pa_cons (pe_op op_addA (pv 1) (pv 5)) pa_nil))) (pa_cons (pe_op op_mulA (pe_lst (pa_cons pe_int (pa_cons pe_int pa_nil))) (pe_ix ix_seq (pe_lst (pa_cons pe_int (pa_cons pe_int (pa_cons pe_int (pa_cons pe_int (pa_cons pe_int (pa_cons pe_int (pa_cons pe_int pa_nil)))))))) (pe_ix ix_seq (pv 2) pe_int (fun _ _ => rfl)) (fun _ _ => rfl))) pa_nil))))
        (pss_cons (ps_set (i := 7) sc_law_table.nd rfl (.inl rfl) (pe_lst pa_nil))
        (pss_cons (ps_for PassesOwn.never rfl (pi_range1 (by rfl) B.brange (pa_cons (pe_op op_fdivN (pe_callB call_len (by rfl) B.blen PySem.boot_len (pa_cons (pv 6) pa_nil)) pe_int) pa_nil)) (pg_name (i := 8) sc_law_table.nd rfl (.inl rfl))
          (pss_one (ps_expr (pe_bm PySem.F.plainAttrs_list PySem.F.slot_list_append PySem.F.type_list_append mt_append (pv 7) (pa_cons (pe_tup (pa_cons (pe_op op_modN (pe_callTy call_int1 (by rfl) B.bint (by decide +kernel) (pa_cons (pe_ix ix_seq (pv 6) (pe_op op_mulA pe_int (pv 8)) (fun _ _ => rfl)) pa_nil)) (pe_op op_addA pe_int (pe_ix ix_seq (pv 2) pe_int (fun _ _ => rfl)))) (pa_cons (pe_df d_law_answer hr (by decide) rfl (pa_cons (pe_ix ix_seq (pv 2) pe_int (fun _ _ => rfl)) (pa_cons (pv 3) (pa_cons (pe_ix ix_seq (pv 6) (pe_op op_addA (pe_op op_mulA pe_int (pv 8)) pe_int) (fun _ _ => rfl)) pa_nil)))) pa_nil))) pa_nil)))))
        (pss_one (ps_expr (pe_bm PySem.F.plainAttrs_list PySem.F.slot_list_append PySem.F.type_list_append mt_append (pv 4) (pa_cons (pe_callTy call_tuple_of (by rfl) B.btuple (by decide +kernel) (pa_cons (pv 7) pa_nil)) pa_nil))))))))
      (pss_one (ps_ret (pe_tup (pa_cons (pe_ix ix_seq (pv 2) pe_int (fun _ _ => rfl)) (pa_cons (pe_op op_addA pe_int (pe_ix ix_seq (pv 2) pe_int (fun _ _ => rfl))) (pa_cons (pe_callTy call_tuple_of (by rfl) B.btuple (by decide +kernel) (pa_cons (pv 4) pa_nil)) pa_nil))))))))), ?_⟩
  intro F0 ars post Q ⟨ns, a, inp, o, st, md, ea, ha, hi0, hi1, ho0, ho1, hs0, hs1, ep⟩ hQ
  subst ea ep
  walk_at "cx"
  have hz := sizeLine_eq
  obtain ⟨gt, ht0, ht1⟩ := top_at ho0 ho1
  obtain ⟨gl, hl0, hl1, hl2⟩ := let_at hi0 hi1
  have g0 : atI [inp, o, st, md] 0 = some inp := atI_nat (j := 0) rfl
  have g1 : atI [inp, o, st, md] 1 = some o := atI_nat (j := 1) rfl
  have g2 : atI [inp, o, st, md] 2 = some st := atI_nat (j := 2) rfl
  have g3 : atI [inp, o, st, md] 3 = some md := atI_nat (j := 3) rfl
  have hst : (((1 + st).toNat : Nat) : Int) = 1 + st := by omega
  have hlt : (((letF inp).toNat : Nat) : Int) = letF inp := by omega
  walk_at "set"
  refine go_seq (go_setM1 (ev_lst0 (rT (r2 rI rI))) fun p => ?_)
  walk_at "ls"
  refine' go_seq (go_range (ι := Nat) (n := (1 + st).toNat) (fun k b => b = k) (fun _ => [sl (rQ K) ns, sl rI a, sl (rL rI) [inp, o, st, md], sl rI (topF o), sl rV (.ref p), s_, s_, s_, s_]) (fun k => [(p, mL (rT (r2 rI rI)) ((List.range k).map fun k : Nat => tabRow ns a md (topF o) (1 + st) (letF inp).toNat k))]) ?ea ?hn 0 (Wk.refl _) rfl rfl ?hs ?hd)
  case ea =>
    refine' ea_is (i := 1 + st) ?h hst.symm
    walk_at "ea"
  case hn => omega
  case hd =>
    intro b hb
    subst hb
    walk_at "ls"
    walk_at "ret"
    rfl
  case hs =>
    intro k b hk hb N hN
    subst hb
    walk_at "ls"
    have hreps : ∀ s ∈ reps [(32 : Int), 64] (letF inp).toNat, 0 < s ∧ s < 1073741824 := fun s hs => by
      have := reps_mem hs
      simp at this
      omega
    have hrl : (reps [(32 : Int), 64] (letF inp).toNat).length = 2 * (letF inp).toNat := by rw [reps_len]; rfl
    have hrl2 : (reps [(32 : Int), 64] (letF inp).toNat).length ≤ 1000000 := by rw [hrl]; omega
    have hsz : [(32 : Int), 64].length * (letF inp).toNat ≤ sizeLine := by show 2 * _ ≤ _; omega
    walk_at "set"
    have hpl := parts_len (far ns (a + (b : Int))) (reps [(32 : Int), 64] (letF inp).toNat)
    generalize hps : parts (far ns (a + (b : Int))) (reps [(32 : Int), 64] (letF inp).toNat) = ps at hpl
    refine go_seq (go_setM1 (ev_lst0 (r2 rI rI)) fun p2 => ?_)
    walk_at "ls"
    refine' go_seq (go_range (ι := Nat) (n := (letF inp).toNat) (fun k b => b = k) (fun _ => [sl (rQ K) ns, sl rI a, sl (rL rI) [inp, o, st, md], sl rI (topF o), sl rV (.ref p), sl rI (b : Int), sl (rL rI) ps, sl rV (.ref p2), s_])
      (fun j => [(p2, mL (r2 rI rI) ((List.range j).map fun i : Nat => ((ps.getD (2 * i) 0).fmod (1 + st), ansF md (topF o) (ps.getD (2 * i + 1) 0)))), (p, mL (rT (r2 rI rI)) ((List.range b).map fun k : Nat => tabRow ns a md (topF o) (1 + st) (letF inp).toNat k))]) ?ea2 ?hn2 0 (Wk.refl _) rfl rfl ?hs2 ?hd2)
    case ea2 =>
      refine' ea_is (i := (ps.length : Int).fdiv 2) ?h ?e
      case h => walk_at "ea"
      case e =>
        rw [hpl, hrl, Int.fdiv_eq_ediv_of_nonneg _ (by omega)]
        omega
    case hn2 => omega
    case hd2 =>
      intro j hj
      subst hj
      walk_at "ls"
      have hll : ((List.range b).map fun k : Nat => tabRow ns a md (topF o) (1 + st) (letF inp).toNat k).length < sizeLine := by simp; omega
      have fin := hN (b + 1) rfl
      have e1 : ((List.range (b + 1)).map fun k : Nat => tabRow ns a md (topF o) (1 + st) (letF inp).toNat k) = ((List.range b).map fun k : Nat => tabRow ns a md (topF o) (1 + st) (letF inp).toNat k) ++ [rowF ps (1 + st) (topF o) md (letF inp).toNat] := by
        rw [List.range_succ, List.map_append, ← hps]
        rfl
      rw [e1] at fin
      walk_at "app!"
      exact Go.less (List.sublist_cons_self _ _) (Go.weak (.same (.same (.same (.same (.same (.drop (.drop (.drop (.drop .nil))))))))) fin)
    case hs2 =>
      intro j jj hj ej N2 hN2
      subst ej
      walk_at "ls"
      have fin := hN2 (jj + 1) rfl
      rw [List.range_succ, List.map_append] at fin
      have hjl : 2 * jj + 1 < ps.length := by omega
      have ga : atI ps (2 * (jj : Int)) = some (ps.getD (2 * jj) 0) := atI_of (n := 2 * jj) (by omega) (by rw [List.getD_eq_getElem?_getD, List.getElem?_eq_getElem (by omega)]; rfl)
      have gb : atI ps (2 * (jj : Int) + 1) = some (ps.getD (2 * jj + 1) 0) := atI_of (n := 2 * jj + 1) (by omega) (by rw [List.getD_eq_getElem?_getD, List.getElem?_eq_getElem hjl]; rfl)
      walk_at "app!"
      exact Go.weak (.same (.same (.same (.same (.same (.same (.same (.same (.drop .nil))))))))) fin
end

end T

namespace T
open PySem PySem.Spec PyProof.Rows L2
local macro_rules | `(tactic| walk_at "side") => `(tactic| first | with_reducible assumption | omega | (dsimp only; omega) | exact CMul_l (by omega) (by omega) | exact CMul_r (by omega) (by omega) | (refine' (⟨?_, ?_⟩ : CDivN _ _) <;> omega) | (refine' (⟨?_, ?_, ?_⟩ : CPow _ _) <;> first | decide | omega) | (simp; done))
local macro_rules | `(tactic| walk_at "op") => `(tactic| first
  | ((with_reducible refine' oI0 (t := rI) ?c); (case c => exact fun _ => rfl))
  | ((with_reducible refine' oI0 (t := rB) ?c); (case c => exact fun _ => rfl))
  | ((with_reducible refine' oL (oI0 (t := rI) ?c)); (case c => exact fun _ => rfl))
  | ((with_reducible refine' oI (t := rI) ?c ?d); (case d => exact fun _ => rfl); (case c => walk_at "side"))
  | ((with_reducible refine' oL (oI (t := rI) ?c ?d)); (case d => exact fun _ => rfl); (case c => walk_at "side"))
  | with_reducible exact o_eqI | with_reducible exact oL o_eqI | with_reducible exact o_neI | with_reducible exact oL o_neI | with_reducible exact o_isN | with_reducible exact o_notN
  | with_reducible exact o_ix20' | with_reducible exact o_ix21' | with_reducible exact o_ix30' | with_reducible exact o_ix31' | with_reducible exact o_ix32'
  | ((with_reducible refine' o_ixL' ?s); (case s => walk_at "side"))
  | ((with_reducible refine' o_ixT' ?s); (case s => walk_at "side"))
  | ((with_reducible refine' o_ixQ' ?s); (case s => walk_at "side"))
  | ((with_reducible refine' o_ixM' ?h ?s); (case h => walk_at "mj"); (case s => walk_at "side"))
  | walk_at "op2")
local macro_rules | `(tactic| walk_at "mj") => `(tactic| first | exact mj0 | exact mj1 | exact mj2 | exact mj3)
local macro_rules | `(tactic| walk_at "ca") => `(tactic| first
  | with_reducible exact c_lenL | with_reducible exact c_lenT | with_reducible exact c_lenQ | ((with_reducible refine' c_lenM ?h); (case h => walk_at "mj")) | with_reducible exact c_int | with_reducible exact c_tupL | ((with_reducible refine' c_tupM ?h); (case h => walk_at "mj"))
  | with_reducible exact c_all | with_reducible exact c_max2 | with_reducible exact c_min2 | walk_at "ca2")
local macro_rules | `(tactic| walk_at "ea") => `(tactic| first
  | with_reducible exact ea_nil
  | ((with_reducible refine' ea_cons ?h1 ?h2); (case h1 => walk_at "ev"); (case h2 => walk_at "ea")))
local macro_rules | `(tactic| walk_at "ev") => `(tactic| first
  | ((with_reducible refine' ev_var ?h); (case h => exact rfl))
  | with_reducible exact ev_int | with_reducible exact ev_bl | with_reducible exact ev_non | with_reducible exact ev_str | with_reducible exact ev_val
  | with_reducible assumption
  | ((with_reducible refine' ev_op ?h1 ?h2 ?h3); (case h1 => walk_at "ev"); (case h2 => walk_at "ev"); (case h3 => walk_at "op"))
  | ((with_reducible refine' ev_ca ?h1 ?h2); (case h1 => walk_at "ea"); (case h2 => walk_at "ca"))
  | ((with_reducible refine' ev_neg ?h1); (case h1 => walk_at "ev"))
  | ((with_reducible refine' ev_chain ?h1 ?h2 ?h3 ?h4 ?h5); (case h1 => walk_at "ev"); (case h2 => walk_at "ev"); (case h3 => walk_at "op"); (case h4 => walk_at "ev"); (case h5 => walk_at "op"))
  | ((with_reducible refine' ev_tup2 ?h1); (case h1 => walk_at "ea"))
  | ((with_reducible refine' ev_tup3 ?h1); (case h1 => walk_at "ea"))
  | ((with_reducible refine' ev_notV ?h1); (case h1 => walk_at "ev"))
  | ((with_reducible refine' ev_andV ?h1 (fun _ => ?h2)); (case h1 => walk_at "ev"); (case h2 => walk_at "ev"))
  | ((with_reducible refine' ev_orV ?h1 (fun _ => ?h2)); (case h1 => walk_at "ev"); (case h2 => walk_at "ev"))
  | ((with_reducible refine' ev_frzL ?h1); (case h1 => walk_at "evm"))
  | walk_at "ev2")
local macro_rules | `(tactic| walk_at "et") => `(tactic| first
  | ((with_reducible refine' et_test ?h1); (case h1 => walk_at "ev"))
  | ((with_reducible refine' et_B ?h1); (case h1 => walk_at "ev"))
  | ((with_reducible refine' et_not ?h1); (case h1 => walk_at "et"))
  | ((with_reducible refine' et_and ?h1 (fun _ => ?h2)); (case h1 => walk_at "et"); (case h2 => walk_at "et"))
  | ((with_reducible refine' et_or ?h1 (fun _ => ?h2)); (case h1 => walk_at "et"); (case h2 => walk_at "et")))
local macro_rules | `(tactic| walk_at "ca2") => `(tactic| fail "ca2")
local macro_rules | `(tactic| walk_at "ca2") => `(tactic| first | with_reducible exact c_isi_ii | with_reducible exact c_isi_ib | with_reducible exact c_isi_ll | ((with_reducible refine' c_lenD ?h); (case h => walk_at "mj")))
local macro_rules | `(tactic| walk_at "op2") => `(tactic| fail "op2")
local macro_rules | `(tactic| walk_at "ev2") => `(tactic| fail "ev2")
local macro_rules | `(tactic| walk_at "evm2") => `(tactic| fail "evm2")
local macro_rules | `(tactic| walk_at "evm") => `(tactic| first
  | with_reducible exact ev_lst0 _
  | ((with_reducible refine' ev_lst1 ?h1); (case h1 => walk_at "ea"))
  | ((with_reducible refine' ev_lst2 ?h1); (case h1 => walk_at "ea"))
  | ((with_reducible refine' ev_lst3 ?h1); (case h1 => walk_at "ea"))
  | ((with_reducible refine' ev_lst4 ?h1); (case h1 => walk_at "ea"))
  | ((with_reducible refine' ev_lst5 ?h1); (case h1 => walk_at "ea"))
  | ((with_reducible refine' ev_lst6 ?h1); (case h1 => walk_at "ea"))
  | ((with_reducible refine' ev_lst7 ?h1); (case h1 => walk_at "ea"))
  | ((with_reducible refine' ev_lst8 ?h1); (case h1 => walk_at "ea"))
  | ((with_reducible refine' ev_opM ?h1 ?h2 (oRM (o_cat ?h3))); (case h1 => walk_at "ev"); (case h2 => walk_at "ev"); (case h3 => walk_at "side"))
  | walk_at "evm2")
local macro_rules | `(tactic| walk_at "cx") => `(tactic| dsimp only [cxOf, Cx.nox, Cx.wish, Cx.blk, List.map, List.cons_append, List.nil_append, List.append_nil, List.length_cons, List.length_nil, List.replicate, Nat.reduceSub, Nat.reduceAdd])
local macro_rules | `(tactic| walk_at "ls") => `(tactic| try dsimp only [List.set_cons_zero, List.set_cons_succ])
local macro_rules | `(tactic| walk_at "set") => `(tactic| (refine' go_seq (go_set1 ?h ?k); (case h => walk_at "ev"); walk_at "ls"))
local macro_rules | `(tactic| walk_at "set!") => `(tactic| (refine' go_set1 ?h ?k; (case h => walk_at "ev"); walk_at "ls"))
local macro_rules | `(tactic| walk_at "if") => `(tactic| (refine' go_seq (go_if ?c ?x ?y); (case c => walk_at "et")))
local macro_rules | `(tactic| walk_at "if!") => `(tactic| (refine' go_if ?c ?x ?y; (case c => walk_at "et")))
local macro_rules | `(tactic| walk_at "ret") => `(tactic| (refine' go_ret1 ?q ?h ?p ?e; (case e => exact rfl); (case q => assumption); (case h => walk_at "ev")))
local macro_rules | `(tactic| walk_at "nx") => `(tactic| (refine go_next ?_; try dsimp only))
local macro_rules | `(tactic| walk_at "sp") => `(tactic| fail "sp")
local macro_rules | `(tactic| walk_at "ev2") => `(tactic| ((with_reducible refine' ev_call1 ?h1 ?h2); (case h1 => walk_at "ea"); (case h2 => walk_at "sp")))
local macro_rules | `(tactic| walk_at "evm2") => `(tactic| ((with_reducible refine' ev_callM1 ?h1 ?h2); (case h1 => walk_at "ea"); (case h2 => walk_at "sp")))
local macro_rules | `(tactic| walk_at "setM") => `(tactic| (refine' go_seq (go_setM1 ?h ?k); (case h => walk_at "evm")))
local macro_rules | `(tactic| walk_at "setM!") => `(tactic| (refine' go_setM1 ?h ?k; (case h => walk_at "evm")))
local macro_rules | `(tactic| walk_at "app") => `(tactic| (refine' go_seq (go_app1 ?a ?b ?h ?z ?k); (case a => exact rfl); (case b => walk_at "mj"); (case h => walk_at "ev"); (case z => walk_at "sz"); walk_at "ls"))
local macro_rules | `(tactic| walk_at "app!") => `(tactic| (refine' go_app1 ?a ?b ?h ?z ?k; (case a => exact rfl); (case b => walk_at "mj"); (case h => walk_at "ev"); (case z => walk_at "sz"); walk_at "ls"))
local macro_rules | `(tactic| walk_at "sz") => `(tactic| (have hsz_ := sizeLine_eq; first | omega | (simp only [List.length_append, List.length_cons, List.length_nil, List.length_map, List.length_range]; omega)))
local macro_rules | `(tactic| walk_at "retV") => `(tactic| (refine' go_retV1 ?q ?a ?b ?p ?e; (case e => exact rfl); (case q => assumption); (case a => exact rfl); (case b => walk_at "mj")))
local macro_rules | `(tactic| walk_at "evm2") => `(tactic| ((with_reducible refine' ev_opM ?h1 ?h2 (oRM (o_rep ?h3 ?h4 ?h5))); (case h1 => walk_at "ev"); (case h2 => walk_at "ev"); (case h3 => walk_at "side"); (case h4 => walk_at "side"); (case h5 => walk_at "side")))
local macro_rules | `(tactic| walk_at "op2") => `(tactic| first | with_reducible exact o_eqLI | with_reducible exact o_neLI | with_reducible exact o_eqLLI | with_reducible exact o_neLLI | with_reducible exact o_inO)
local macro_rules | `(tactic| walk_at "ix") => `(tactic| first | exact mj0 | exact mj1 | exact mj2 | exact mj3 | exact mj4 | exact mj5 | exact mj6 | exact mj7 | exact mj8 | exact mj9 | exact mj10 | exact mj11 | exact mj12)
local macro_rules | `(tactic| walk_at "ev") => `(tactic| first | ((with_reducible refine' ev_varS ?s ?h); (case h => with_reducible walk_at "ix"); (case s => first | exact Same.refl _ | assumption)) | fail "no")
local macro_rules | `(tactic| walk_at "ev") => `(tactic| first | ((with_reducible refine' ev_varN ?h); (case h => with_reducible walk_at "ix")) | fail "no")
local macro_rules | `(tactic| walk_at "sp") => `(tactic| with_reducible exact S_ii_i)
local macro_rules | `(tactic| walk_at "sp") => `(tactic| ((with_reducible refine' S_parts_i ?a ?b); (case a => first | assumption | (simp; done)); (case b => first | assumption | (simp; done) | omega)))
local macro_rules | `(tactic| walk_at "sp") => `(tactic| ((with_reducible refine' S_far_i ?a); (case a => walk_at "side")))
local macro_rules | `(tactic| walk_at "sp") => `(tactic| ((with_reducible refine' S_step_i ?a ?b ?c ?d ?e); (case a => assumption); (case b => walk_at "side"); (case c => walk_at "side"); (case d => walk_at "side"); (case e => walk_at "side")))
local macro_rules | `(tactic| walk_at "sp") => `(tactic| ((with_reducible refine' S_lc_i ?a); (case a => assumption)))
local macro_rules | `(tactic| walk_at "sp") => `(tactic| ((with_reducible refine' S_sc_i ?a); (case a => assumption)))
local macro_rules | `(tactic| walk_at "sp") => `(tactic| ((with_reducible refine' S_cs_i ?a ?b); (case a => assumption); (case b => first | assumption | (simp; omega))))
local macro_rules | `(tactic| walk_at "sp") => `(tactic| ((with_reducible refine' S_run_i ?a ?b ?c ?d ?e); (case a => assumption); (case b => walk_at "side"); (case c => walk_at "side"); (case d => assumption); (case e => walk_at "side")))
local macro_rules | `(tactic| walk_at "sp") => `(tactic| ((with_reducible refine' S_ans_i ?a ?b); (case a => walk_at "side"); (case b => walk_at "side")))
local macro_rules | `(tactic| walk_at "sp") => `(tactic| ((with_reducible refine' S_table_i ?a ?b ?c ?d ?e ?f ?g); (case a => walk_at "side"); (case b => walk_at "side"); (case c => walk_at "side"); (case d => walk_at "side"); (case e => walk_at "side"); (case f => walk_at "side"); (case g => walk_at "side")))
/-! ### the number of letters that are left -/
/-- k letters lead from s to a state of T -/
def Rk (t : Tb) (m : Nat) (T : Int → Prop) (s : Int) (k : Nat) : Prop := ∃ w, Wd m w ∧ w.length = k ∧ T (runW (δ t) s w)
def Ds (t : Tb) (m : Nat) (T : Int → Prop) (s : Int) (k : Nat) : Prop := Rk t m T s k ∧ ∀ j, j < k → ¬ Rk t m T s j
section
variable {t : Tb} {n m : Nat} {T : Int → Prop} {s : Int} {k : Nat}
theorem Rk.zero : Rk t m T s 0 ↔ T s := ⟨fun ⟨w, _, h, h2⟩ => by rw [List.length_eq_zero_iff.mp h] at h2; exact h2, fun h => ⟨[], Wd.nil, rfl, h⟩⟩
theorem Rk.succ : Rk t m T s (k + 1) ↔ ∃ x : Int, 0 ≤ x ∧ x < m ∧ Rk t m T (δ t s x) k := by
  constructor
  · rintro ⟨w, hw, hl, hr⟩
    cases w with
    | nil => cases hl
    | cons x w =>
      have := hw.head
      exact ⟨x, this.1, this.2, w, hw.tail, by simpa using hl, hr⟩
  · rintro ⟨x, h0, h1, w, hw, hl, hr⟩
    exact ⟨x :: w, hw.cons h0 h1, by rw [List.length_cons, hl], hr⟩
theorem Ds.uniq {j : Nat} (h : Ds t m T s j) (h' : Ds t m T s k) : j = k := by
  by_cases e : j < k
  · exact absurd h.1 (h'.2 j e)
  · by_cases e2 : k < j
    · exact absurd h'.1 (h.2 k e2)
    · omega
theorem Rk.least : ∀ k, Rk t m T s k → ∃ j, j ≤ k ∧ Ds t m T s j := by
  intro k
  induction k using Nat.strongRecOn with
  | _ k ih =>
    intro h
    by_cases z : ∃ j, j < k ∧ Rk t m T s j
    · obtain ⟨j, hj, h2⟩ := z
      obtain ⟨i, hi, h3⟩ := ih j hj h2
      exact ⟨i, by omega, h3⟩
    · exact ⟨k, Nat.le_refl _, h, fun j hj h2 => z ⟨j, hj, h2⟩⟩
theorem Ds.step (h : Ds t m T s (k + 1)) {x : Int} (h0 : 0 ≤ x) (h1 : x < m) (hx : Rk t m T (δ t s x) k) : Ds t m T (δ t s x) k := ⟨hx, fun j hj h2 => h.2 (j + 1) (by omega) (Rk.succ.mpr ⟨x, h0, h1, h2⟩)⟩
theorem Ds.next (h : Ds t m T s (k + 1)) : ∃ x : Int, 0 ≤ x ∧ x < m ∧ Ds t m T (δ t s x) k := by
  obtain ⟨x, h0, h1, h2⟩ := Rk.succ.mp h.1
  exact ⟨x, h0, h1, h.step h0 h1 h2⟩
theorem Ds.up {x : Int} (h0 : 0 ≤ x) (h1 : x < m) (h : Ds t m T (δ t s x) k) (hn : ∀ j, j ≤ k → ¬ Ds t m T s j) : Ds t m T s (k + 1) :=
  ⟨Rk.succ.mpr ⟨x, h0, h1, h.1⟩, fun j hj h2 => by
    obtain ⟨i, hi, h3⟩ := Rk.least j h2
    exact hn i (by omega) h3⟩
theorem Ds.none_up (ht : Tok t n m) (h : ∀ s, 0 ≤ s → s < (n : Int) → ¬ Ds t m T s k) : ∀ j, k ≤ j → ∀ s, 0 ≤ s → s < (n : Int) → ¬ Ds t m T s j := by
  intro j
  induction j with
  | zero =>
    intro hj
    rw [show k = 0 by omega] at h
    exact h
  | succ j ih =>
    intro hj s h0 h1 hd
    by_cases e : k = j + 1
    · subst e; exact h s h0 h1 hd
    · obtain ⟨x, hx0, hx1, hd2⟩ := hd.next
      have := δ_ok ht h0 h1 hx0 hx1
      exact ih (by omega) _ this.1 this.2 hd2
/-- the numbers as a list of pairs: all states of a number at most k -/
structure Lf (t : Tb) (n m : Nat) (T : Int → Prop) (L : List (Int × Int)) (k : Nat) (b : Int) : Prop where
  nd : (L.map (·.1)).Nodup
  ok : ∀ e ∈ L, 0 ≤ e.1 ∧ e.1 < (n : Int) ∧ ∃ j : Nat, e.2 = (j : Int) ∧ j ≤ k + 1 ∧ Ds t m T e.1 j
  all : ∀ s, 0 ≤ s → s < (n : Int) → ∀ j, j ≤ k → Ds t m T s j → s ∈ L.map (·.1)
  nx : ∀ s, 0 ≤ s → s < b → s < (n : Int) → Ds t m T s (k + 1) → s ∈ L.map (·.1)
/-- the numbers of all states -/
structure Lfull (t : Tb) (n m : Nat) (T : Int → Prop) (L : List (Int × Int)) : Prop where
  nd : (L.map (·.1)).Nodup
  ok : ∀ e ∈ L, 0 ≤ e.1 ∧ e.1 < (n : Int) ∧ ∃ j : Nat, e.2 = (j : Int) ∧ Ds t m T e.1 j
  all : ∀ s, 0 ≤ s → s < (n : Int) → ∀ j, Ds t m T s j → s ∈ L.map (·.1)
  le : ∀ e ∈ L, e.2 ≤ (n : Int)
theorem Lfull.get {L : List (Int × Int)} (h : Lfull t n m T L) {s : Int} (h0 : 0 ≤ s) (h1 : s < (n : Int)) {j : Nat} (hd : Ds t m T s j) : dget (kv L) (Sum.inl s) = some (j : Int) := by
  obtain ⟨e, he, es⟩ := List.mem_map.mp (h.all s h0 h1 j hd)
  obtain ⟨_, _, i, ei, hi⟩ := h.ok e he
  rw [dget_some h.nd]
  rw [es] at hi
  have := hi.uniq hd
  subst this
  rw [← ei, ← es]
  exact he
theorem Lfull.of {L : List (Int × Int)} (h : Lfull t n m T L) {s d : Int} (hd : dget (kv L) (Sum.inl s) = some d) : 0 ≤ s ∧ s < (n : Int) ∧ ∃ j : Nat, d = (j : Int) ∧ Ds t m T s j := by
  rw [dget_some h.nd] at hd
  exact h.ok _ hd
theorem Lfull.no {L : List (Int × Int)} (h : Lfull t n m T L) {s : Int} (h0 : 0 ≤ s) (h1 : s < (n : Int)) (hd : dget (kv L) (Sum.inl s) = none) : ∀ w, Wd m w → ¬ T (runW (δ t) s w) := fun w hw hT => by
  obtain ⟨j, _, hj⟩ := Rk.least (T := T) w.length ⟨w, hw, rfl, hT⟩
  exact dget_none.mp hd (h.all s h0 h1 j hj)
theorem mem_snoc_map {L : List (Int × Int)} {a b s : Int} (h : s ∈ L.map (·.1)) : s ∈ (L ++ [(a, b)]).map (·.1) := by
  rw [List.map_append]
  exact List.mem_append_left _ h
/-- the marks of the states that follow -/
def marks (t : Tb) (L : List (Int × Int)) (s : Int) : List (Option Int) := (row t s).map fun p => dget (kv L) (Sum.inl p.1)
theorem marks_at (ht : Tok t n m) {L : List (Int × Int)} (h0 : 0 ≤ s) (h1 : s < (n : Int)) {x : Int} (hx0 : 0 ≤ x) (hx1 : x < m) : (marks t L s)[x.toNat]? = some (dget (kv L) (Sum.inl (δ t s x))) := by
  unfold marks
  rw [List.getElem?_map, pr_get ht h0 h1 hx0 hx1]
  rfl
theorem marks_mem (ht : Tok t n m) {L : List (Int × Int)} (h0 : 0 ≤ s) (h1 : s < (n : Int)) {v : Option Int} : v ∈ marks t L s ↔ ∃ x : Int, 0 ≤ x ∧ x < m ∧ dget (kv L) (Sum.inl (δ t s x)) = v := by
  constructor
  · intro h
    obtain ⟨i, hi⟩ := List.mem_iff_getElem?.mp h
    have hl : i < (marks t L s).length := (List.getElem?_eq_some_iff.mp hi).1
    unfold marks at hl
    rw [List.length_map, row_len ht h0 h1] at hl
    refine ⟨(i : Int), by omega, by omega, ?_⟩
    have := marks_at ht (L := L) h0 h1 (x := (i : Int)) (by omega) (by omega)
    rw [Int.toNat_natCast, hi] at this
    exact (Option.some.inj this).symm
  · rintro ⟨x, hx0, hx1, e⟩
    have := marks_at ht (L := L) h0 h1 hx0 hx1
    rw [e] at this
    exact List.mem_of_getElem? this
theorem Lf.start {T' : Int} (h0 : 0 ≤ T') (h1 : T' < (n : Int)) : Lf t n m (fun s => s = T') [(T', 0)] 0 0 := by
  have d0 : Ds t m (fun s => s = T') T' 0 := ⟨Rk.zero.mpr rfl, fun j hj => by omega⟩
  refine ⟨by simp, fun e he => ?_, fun s _ _ j hj hd => ?_, fun s a b => by omega⟩
  · rw [List.mem_singleton.mp he]
    exact ⟨h0, h1, 0, rfl, by omega, d0⟩
  · have : j = 0 := by omega
    subst this
    have e : s = T' := (Rk.zero (T := fun s => s = T')).mp hd.1
    rw [e]
    exact List.mem_singleton.mpr rfl
/-- one state looked at -/
theorem Lf.skip {L : List (Int × Int)} {b : Int} (ht : Tok t n m) (h : Lf t n m T L k b) (h0 : 0 ≤ b) (h1 : b < (n : Int)) (hc : ¬ (b ∉ L.map (·.1) ∧ some (k : Int) ∈ marks t L b)) : Lf t n m T L k (b + 1) :=
  ⟨h.nd, h.ok, h.all, fun s hs0 hs1 hs2 hd => by
    by_cases e : s < b
    · exact h.nx s hs0 e hs2 hd
    · have e : s = b := by omega
      subst e
      by_cases z : s ∈ L.map (·.1)
      · exact z
      · exfalso
        obtain ⟨x, hx0, hx1, hd2⟩ := hd.next
        have hv := δ_ok ht h0 h1 hx0 hx1
        obtain ⟨e, he, es⟩ := List.mem_map.mp (h.all _ hv.1 hv.2 k (Nat.le_refl _) hd2)
        obtain ⟨_, _, j, ej, _, hj⟩ := h.ok e he
        rw [es] at hj
        have := hj.uniq hd2
        subst this
        refine hc ⟨z, (marks_mem ht h0 h1).mpr ⟨x, hx0, hx1, ?_⟩⟩
        rw [dget_some h.nd, ← ej, ← es]
        exact he⟩
theorem Lf.put {L : List (Int × Int)} {b : Int} (ht : Tok t n m) (h : Lf t n m T L k b) (h0 : 0 ≤ b) (h1 : b < (n : Int)) (hn : b ∉ L.map (·.1)) (hm : some (k : Int) ∈ marks t L b) : Lf t n m T (L ++ [(b, (k : Int) + 1)]) k (b + 1) := by
  obtain ⟨x, hx0, hx1, hg⟩ := (marks_mem ht h0 h1).mp hm
  rw [dget_some h.nd] at hg
  obtain ⟨_, _, j, ej, _, hj⟩ := h.ok _ hg
  have : j = k := by have : ((k : Int)) = (j : Int) := ej; omega
  subst this
  have hd : Ds t m T b (j + 1) := hj.up hx0 hx1 fun i hi hd => hn (h.all b h0 h1 i hi hd)
  refine ⟨?_, fun e he => ?_, fun s a b' i hi hd => mem_snoc_map (h.all s a b' i hi hd), fun s hs0 hs1 hs2 hd2 => ?_⟩
  · rw [List.map_append]
    refine List.nodup_append.mpr ⟨h.nd, by simp, fun a ha c hc => ?_⟩
    have : c = b := by simpa using hc
    subst this
    intro e
    exact hn (e ▸ ha)
  · rcases List.mem_append.mp he with he | he
    · exact h.ok e he
    · rw [List.mem_singleton.mp he]
      exact ⟨h0, h1, j + 1, by show (j : Int) + 1 = _; omega, by omega, hd⟩
  · by_cases e : s < b
    · exact mem_snoc_map (h.nx s hs0 e hs2 hd2)
    · have : s = b := by omega
      subst this
      rw [List.map_append]
      exact List.mem_append_right _ (List.mem_singleton.mpr rfl)
/-- a turn through -/
theorem Lf.turn {L : List (Int × Int)} (h : Lf t n m T L k n) : Lf t n m T L (k + 1) 0 :=
  ⟨h.nd, fun e he => by
    obtain ⟨a, b, j, ej, hj, hd⟩ := h.ok e he
    exact ⟨a, b, j, ej, by omega, hd⟩, fun s h0 h1 j hj hd => by
    by_cases e : j ≤ k
    · exact h.all s h0 h1 j e hd
    · have : j = k + 1 := by omega
      subst this
      exact h.nx s h0 h1 h1 hd, fun s a b => by omega⟩
theorem Lf.full {L : List (Int × Int)} (ht : Tok t n m) (h0 : Lf t n m T L k n) (hk : ∀ e ∈ L, ∃ j : Nat, e.2 = (j : Int) ∧ j ≤ k) (hkn : k ≤ n) : Lfull t n m T L := by
  have no : ∀ s, 0 ≤ s → s < (n : Int) → ¬ Ds t m T s (k + 1) := fun s a b hd => by
    obtain ⟨e, he, es⟩ := List.mem_map.mp (h0.nx s a b b hd)
    obtain ⟨_, _, j, ej, _, hj⟩ := h0.ok e he
    rw [es] at hj
    have h2 := hj.uniq hd
    obtain ⟨i, ei, hi⟩ := hk e he
    omega
  exact ⟨h0.nd, fun e he => by
    obtain ⟨a, b, j, ej, _, hd⟩ := h0.ok e he
    exact ⟨a, b, j, ej, hd⟩, fun s a b j hd => by
    by_cases e : j ≤ k
    · exact h0.all s a b j e hd
    · exact absurd hd (Ds.none_up ht no j (by omega) s a b), fun e he => by
    obtain ⟨j, ej, hj⟩ := hk e he
    omega⟩
/-- what the law asks of a first word: none leads there, or it is the first -/
def DueOk (t : Tb) (m : Nat) (T : Int → Prop) (y : Option (List Int)) : Prop := match y with
  | none => ∀ w, Wd m w → ¬ T (runW (δ t) 0 w)
  | some w => Best (δ t) m 0 T w
theorem DueOk.uniq {y z : Option (List Int)} (h : DueOk t m T y) (h' : DueOk t m T z) : y = z := by
  cases y with
  | none =>
    cases z with
    | none => rfl
    | some w => exact absurd h'.2.1 (h w h'.1)
  | some v =>
    cases z with
    | none => exact absurd h.2.1 (h' v h.1)
    | some w => rw [Best.uniq (by omega) h h']
/-- the word by the least letters that lead nearer -/
structure Gr1 (t : Tb) (m : Nat) (T : Int → Prop) (d : Nat) (w : List Int) (s : Int) (k : Nat) : Prop where
  wd : Wd m w
  len : w.length = k
  run : runW (δ t) 0 w = s
  ds : Ds t m T s (d - k)
  le : k ≤ d
  min : ∀ v, Wd m v → v.length = d → T (runW (δ t) 0 v) → code m w ≤ code m (v.take k)
theorem Gr1.init {d : Nat} (h : Ds t m T 0 d) : Gr1 t m T d [] 0 0 := ⟨Wd.nil, rfl, rfl, h, Nat.zero_le _, fun _ _ _ _ => Int.le_refl _⟩
theorem Gr1.next {d : Nat} {w : List Int} {x : Int} (h : Gr1 t m T d w s k) (hk : k < d) (hx0 : 0 ≤ x) (hx1 : x < m) (hd : Ds t m T (δ t s x) (d - k - 1)) (hmin : ∀ y : Int, 0 ≤ y → y < x → ¬ Ds t m T (δ t s y) (d - k - 1)) : Gr1 t m T d (w ++ [x]) (δ t s x) (k + 1) := by
  refine ⟨h.wd.snoc hx0 hx1, by rw [List.length_append, h.len]; rfl, by rw [runW_snoc, h.run], by rw [show d - (k + 1) = d - k - 1 by omega]; exact hd, hk, fun v hv hl hT => ?_⟩
  have hkv : k < v.length := by omega
  have gv := List.getElem?_eq_getElem hkv
  generalize v[k] = y at gv
  have e1 : v.take (k + 1) = v.take k ++ [y] := by rw [List.take_add_one, gv]; rfl
  have hy := hv y (List.mem_of_getElem? gv)
  have hvk : Wd m (v.take k) := fun z hz => hv z (List.mem_of_mem_take hz)
  rw [e1, code_snoc, code_snoc]
  have h1 := h.min v hv hl hT
  by_cases e : code m w < code m (v.take k)
  · have h2 : (code m w + 1) * m ≤ code m (v.take k) * m := mul_mono (by omega) (by omega)
    rw [Int.add_mul] at h2
    omega
  · have e2 : w = v.take k := code_inj (by omega) h.wd hvk (by omega)
    have hrest : v = v.take k ++ y :: v.drop (k + 1) := by
      obtain ⟨q1, q2⟩ := List.getElem?_eq_some_iff.mp gv
      rw [← q2, ← List.drop_eq_getElem_cons q1, List.take_append_drop]
    have hT2 : T (runW (δ t) (δ t s y) (v.drop (k + 1))) := by
      rw [hrest, runW_app, ← e2, h.run, runW_cons] at hT
      exact hT
    have hRy : Rk t m T (δ t s y) (d - k - 1) := ⟨v.drop (k + 1), fun z hz => hv z (List.mem_of_mem_drop hz), by rw [List.length_drop, hl]; omega, hT2⟩
    have hds := h.ds
    rw [show d - k = d - k - 1 + 1 by omega] at hds
    have hdy := hds.step hy.1 hy.2 hRy
    have hxy : x ≤ y := by
      by_cases z : x ≤ y
      · exact z
      · exact absurd hdy (hmin y hy.1 (by omega))
    rw [e2]
    omega
theorem Gr1.best {d : Nat} {w : List Int} (h : Gr1 t m T d w s d) (hd : Ds t m T 0 d) : Best (δ t) m 0 T w := by
  have h0 := h.ds
  rw [Nat.sub_self] at h0
  refine ⟨h.wd, by rw [h.run]; exact Rk.zero.mp h0.1, fun v hv hT => ?_⟩
  by_cases e : v.length = d
  · have := h.min v hv e hT
    rw [List.take_of_length_le (by omega)] at this
    exact this
  · have h2 : d < v.length := by
      by_cases z : v.length < d
      · exact absurd ⟨v, hv, rfl, hT⟩ (hd.2 _ z)
      · omega
    exact Int.le_of_lt (code_len (by omega) h.wd hv (by rw [h.len]; exact h2))
end

end T

namespace T
open PySem PySem.Spec PyProof.Rows L2
local macro_rules | `(tactic| walk_at "side") => `(tactic| first | with_reducible assumption | omega | (dsimp only; omega) | exact CMul_l (by omega) (by omega) | exact CMul_r (by omega) (by omega) | (refine' (⟨?_, ?_⟩ : CDivN _ _) <;> omega) | (refine' (⟨?_, ?_, ?_⟩ : CPow _ _) <;> first | decide | omega) | (simp; done))
local macro_rules | `(tactic| walk_at "op") => `(tactic| first
  | ((with_reducible refine' oI0 (t := rI) ?c); (case c => exact fun _ => rfl))
  | ((with_reducible refine' oI0 (t := rB) ?c); (case c => exact fun _ => rfl))
  | ((with_reducible refine' oL (oI0 (t := rI) ?c)); (case c => exact fun _ => rfl))
  | ((with_reducible refine' oI (t := rI) ?c ?d); (case d => exact fun _ => rfl); (case c => walk_at "side"))
  | ((with_reducible refine' oL (oI (t := rI) ?c ?d)); (case d => exact fun _ => rfl); (case c => walk_at "side"))
  | with_reducible exact o_eqI | with_reducible exact oL o_eqI | with_reducible exact o_neI | with_reducible exact oL o_neI | with_reducible exact o_isN | with_reducible exact o_notN
  | with_reducible exact o_ix20' | with_reducible exact o_ix21' | with_reducible exact o_ix30' | with_reducible exact o_ix31' | with_reducible exact o_ix32'
  | ((with_reducible refine' o_ixL' ?s); (case s => walk_at "side"))
  | ((with_reducible refine' o_ixT' ?s); (case s => walk_at "side"))
  | ((with_reducible refine' o_ixQ' ?s); (case s => walk_at "side"))
  | ((with_reducible refine' o_ixM' ?h ?s); (case h => walk_at "mj"); (case s => walk_at "side"))
  | walk_at "op2")
local macro_rules | `(tactic| walk_at "mj") => `(tactic| first | exact mj0 | exact mj1 | exact mj2 | exact mj3)
local macro_rules | `(tactic| walk_at "ca") => `(tactic| first
  | with_reducible exact c_lenL | with_reducible exact c_lenT | with_reducible exact c_lenQ | ((with_reducible refine' c_lenM ?h); (case h => walk_at "mj")) | with_reducible exact c_int | with_reducible exact c_tupL | ((with_reducible refine' c_tupM ?h); (case h => walk_at "mj"))
  | with_reducible exact c_all | with_reducible exact c_max2 | with_reducible exact c_min2 | walk_at "ca2")
local macro_rules | `(tactic| walk_at "ea") => `(tactic| first
  | with_reducible exact ea_nil
  | ((with_reducible refine' ea_cons ?h1 ?h2); (case h1 => walk_at "ev"); (case h2 => walk_at "ea")))
local macro_rules | `(tactic| walk_at "ev") => `(tactic| first
  | ((with_reducible refine' ev_var ?h); (case h => exact rfl))
  | with_reducible exact ev_int | with_reducible exact ev_bl | with_reducible exact ev_non | with_reducible exact ev_str | with_reducible exact ev_val
  | with_reducible assumption
  | ((with_reducible refine' ev_op ?h1 ?h2 ?h3); (case h1 => walk_at "ev"); (case h2 => walk_at "ev"); (case h3 => walk_at "op"))
  | ((with_reducible refine' ev_ca ?h1 ?h2); (case h1 => walk_at "ea"); (case h2 => walk_at "ca"))
  | ((with_reducible refine' ev_neg ?h1); (case h1 => walk_at "ev"))
  | ((with_reducible refine' ev_chain ?h1 ?h2 ?h3 ?h4 ?h5); (case h1 => walk_at "ev"); (case h2 => walk_at "ev"); (case h3 => walk_at "op"); (case h4 => walk_at "ev"); (case h5 => walk_at "op"))
  | ((with_reducible refine' ev_tup2 ?h1); (case h1 => walk_at "ea"))
  | ((with_reducible refine' ev_tup3 ?h1); (case h1 => walk_at "ea"))
  | ((with_reducible refine' ev_notV ?h1); (case h1 => walk_at "ev"))
  | ((with_reducible refine' ev_andV ?h1 (fun _ => ?h2)); (case h1 => walk_at "ev"); (case h2 => walk_at "ev"))
  | ((with_reducible refine' ev_orV ?h1 (fun _ => ?h2)); (case h1 => walk_at "ev"); (case h2 => walk_at "ev"))
  | ((with_reducible refine' ev_frzL ?h1); (case h1 => walk_at "evm"))
  | walk_at "ev2")
local macro_rules | `(tactic| walk_at "et") => `(tactic| first
  | ((with_reducible refine' et_test ?h1); (case h1 => walk_at "ev"))
  | ((with_reducible refine' et_B ?h1); (case h1 => walk_at "ev"))
  | ((with_reducible refine' et_not ?h1); (case h1 => walk_at "et"))
  | ((with_reducible refine' et_and ?h1 (fun _ => ?h2)); (case h1 => walk_at "et"); (case h2 => walk_at "et"))
  | ((with_reducible refine' et_or ?h1 (fun _ => ?h2)); (case h1 => walk_at "et"); (case h2 => walk_at "et")))
local macro_rules | `(tactic| walk_at "ca2") => `(tactic| fail "ca2")
local macro_rules | `(tactic| walk_at "ca2") => `(tactic| first | with_reducible exact c_isi_ii | with_reducible exact c_isi_ib | with_reducible exact c_isi_ll | ((with_reducible refine' c_lenD ?h); (case h => walk_at "mj")))
local macro_rules | `(tactic| walk_at "op2") => `(tactic| fail "op2")
local macro_rules | `(tactic| walk_at "ev2") => `(tactic| fail "ev2")
local macro_rules | `(tactic| walk_at "evm2") => `(tactic| fail "evm2")
local macro_rules | `(tactic| walk_at "evm") => `(tactic| first
  | with_reducible exact ev_lst0 _
  | ((with_reducible refine' ev_lst1 ?h1); (case h1 => walk_at "ea"))
  | ((with_reducible refine' ev_lst2 ?h1); (case h1 => walk_at "ea"))
  | ((with_reducible refine' ev_lst3 ?h1); (case h1 => walk_at "ea"))
  | ((with_reducible refine' ev_lst4 ?h1); (case h1 => walk_at "ea"))
  | ((with_reducible refine' ev_lst5 ?h1); (case h1 => walk_at "ea"))
  | ((with_reducible refine' ev_lst6 ?h1); (case h1 => walk_at "ea"))
  | ((with_reducible refine' ev_lst7 ?h1); (case h1 => walk_at "ea"))
  | ((with_reducible refine' ev_lst8 ?h1); (case h1 => walk_at "ea"))
  | ((with_reducible refine' ev_opM ?h1 ?h2 (oRM (o_cat ?h3))); (case h1 => walk_at "ev"); (case h2 => walk_at "ev"); (case h3 => walk_at "side"))
  | walk_at "evm2")
local macro_rules | `(tactic| walk_at "cx") => `(tactic| dsimp only [cxOf, Cx.nox, Cx.wish, Cx.blk, List.map, List.cons_append, List.nil_append, List.append_nil, List.length_cons, List.length_nil, List.replicate, Nat.reduceSub, Nat.reduceAdd])
local macro_rules | `(tactic| walk_at "ls") => `(tactic| try dsimp only [List.set_cons_zero, List.set_cons_succ])
local macro_rules | `(tactic| walk_at "set") => `(tactic| (refine' go_seq (go_set1 ?h ?k); (case h => walk_at "ev"); walk_at "ls"))
local macro_rules | `(tactic| walk_at "set!") => `(tactic| (refine' go_set1 ?h ?k; (case h => walk_at "ev"); walk_at "ls"))
local macro_rules | `(tactic| walk_at "if") => `(tactic| (refine' go_seq (go_if ?c ?x ?y); (case c => walk_at "et")))
local macro_rules | `(tactic| walk_at "if!") => `(tactic| (refine' go_if ?c ?x ?y; (case c => walk_at "et")))
local macro_rules | `(tactic| walk_at "ret") => `(tactic| (refine' go_ret1 ?q ?h ?p ?e; (case e => exact rfl); (case q => assumption); (case h => walk_at "ev")))
local macro_rules | `(tactic| walk_at "nx") => `(tactic| (refine go_next ?_; try dsimp only))
local macro_rules | `(tactic| walk_at "sp") => `(tactic| fail "sp")
local macro_rules | `(tactic| walk_at "ev2") => `(tactic| ((with_reducible refine' ev_call1 ?h1 ?h2); (case h1 => walk_at "ea"); (case h2 => walk_at "sp")))
local macro_rules | `(tactic| walk_at "evm2") => `(tactic| ((with_reducible refine' ev_callM1 ?h1 ?h2); (case h1 => walk_at "ea"); (case h2 => walk_at "sp")))
local macro_rules | `(tactic| walk_at "setM") => `(tactic| (refine' go_seq (go_setM1 ?h ?k); (case h => walk_at "evm")))
local macro_rules | `(tactic| walk_at "setM!") => `(tactic| (refine' go_setM1 ?h ?k; (case h => walk_at "evm")))
local macro_rules | `(tactic| walk_at "app") => `(tactic| (refine' go_seq (go_app1 ?a ?b ?h ?z ?k); (case a => exact rfl); (case b => walk_at "mj"); (case h => walk_at "ev"); (case z => walk_at "sz"); walk_at "ls"))
local macro_rules | `(tactic| walk_at "app!") => `(tactic| (refine' go_app1 ?a ?b ?h ?z ?k; (case a => exact rfl); (case b => walk_at "mj"); (case h => walk_at "ev"); (case z => walk_at "sz"); walk_at "ls"))
local macro_rules | `(tactic| walk_at "sz") => `(tactic| (have hsz_ := sizeLine_eq; first | omega | (simp only [List.length_append, List.length_cons, List.length_nil, List.length_map, List.length_range]; omega)))
local macro_rules | `(tactic| walk_at "retV") => `(tactic| (refine' go_retV1 ?q ?a ?b ?p ?e; (case e => exact rfl); (case q => assumption); (case a => exact rfl); (case b => walk_at "mj")))
local macro_rules | `(tactic| walk_at "evm2") => `(tactic| ((with_reducible refine' ev_opM ?h1 ?h2 (oRM (o_rep ?h3 ?h4 ?h5))); (case h1 => walk_at "ev"); (case h2 => walk_at "ev"); (case h3 => walk_at "side"); (case h4 => walk_at "side"); (case h5 => walk_at "side")))
local macro_rules | `(tactic| walk_at "op2") => `(tactic| first | with_reducible exact o_eqLI | with_reducible exact o_neLI | with_reducible exact o_eqLLI | with_reducible exact o_neLLI | with_reducible exact o_inO)
local macro_rules | `(tactic| walk_at "ix") => `(tactic| first | exact mj0 | exact mj1 | exact mj2 | exact mj3 | exact mj4 | exact mj5 | exact mj6 | exact mj7 | exact mj8 | exact mj9 | exact mj10 | exact mj11 | exact mj12)
local macro_rules | `(tactic| walk_at "ev") => `(tactic| first | ((with_reducible refine' ev_varS ?s ?h); (case h => with_reducible walk_at "ix"); (case s => first | exact Same.refl _ | assumption)) | fail "no")
local macro_rules | `(tactic| walk_at "ev") => `(tactic| first | ((with_reducible refine' ev_varN ?h); (case h => with_reducible walk_at "ix")) | fail "no")
local macro_rules | `(tactic| walk_at "sp") => `(tactic| with_reducible exact S_ii_i)
local macro_rules | `(tactic| walk_at "sp") => `(tactic| ((with_reducible refine' S_parts_i ?a ?b); (case a => first | assumption | (simp; done)); (case b => first | assumption | (simp; done) | omega)))
local macro_rules | `(tactic| walk_at "sp") => `(tactic| ((with_reducible refine' S_far_i ?a); (case a => walk_at "side")))
local macro_rules | `(tactic| walk_at "sp") => `(tactic| ((with_reducible refine' S_step_i ?a ?b ?c ?d ?e); (case a => assumption); (case b => walk_at "side"); (case c => walk_at "side"); (case d => walk_at "side"); (case e => walk_at "side")))
local macro_rules | `(tactic| walk_at "sp") => `(tactic| ((with_reducible refine' S_lc_i ?a); (case a => assumption)))
local macro_rules | `(tactic| walk_at "sp") => `(tactic| ((with_reducible refine' S_sc_i ?a); (case a => assumption)))
local macro_rules | `(tactic| walk_at "sp") => `(tactic| ((with_reducible refine' S_cs_i ?a ?b); (case a => assumption); (case b => first | assumption | (simp; omega))))
local macro_rules | `(tactic| walk_at "sp") => `(tactic| ((with_reducible refine' S_run_i ?a ?b ?c ?d ?e); (case a => assumption); (case b => walk_at "side"); (case c => walk_at "side"); (case d => assumption); (case e => walk_at "side")))
local macro_rules | `(tactic| walk_at "sp") => `(tactic| ((with_reducible refine' S_ans_i ?a ?b); (case a => walk_at "side"); (case b => walk_at "side")))
local macro_rules | `(tactic| walk_at "sp") => `(tactic| ((with_reducible refine' S_table_i ?a ?b ?c ?d ?e ?f ?g); (case a => walk_at "side"); (case b => walk_at "side"); (case c => walk_at "side"); (case d => walk_at "side"); (case e => walk_at "side"); (case f => walk_at "side"); (case g => walk_at "side")))
/-! ### is_word, check_words, state_after -/
def S_iw (ars : List Sl) (post : Bool → Prop) : Prop := ∃ (t : Tb) (w : List Int) (n m : Nat), ars = [sl rTab t, sl (rL rI) w] ∧ Tok t n m ∧ Wd m w ∧ w.length ≤ 1000000 ∧ post = fun y => y = true
theorem S_iw_i {t : Tb} {w : List Int} {n m : Nat} (h : Tok t n m) (h2 : Wd m w) (h3 : w.length ≤ 1000000) : S_iw [sl rTab t, sl (rL rI) w] (fun y => y = true) := ⟨t, w, n, m, rfl, h, h2, h3, rfl⟩
local macro_rules | `(tactic| walk_at "sp") => `(tactic| ((with_reducible refine' S_iw_i ?a ?b ?c); (case a => assumption); (case b => assumption); (case c => walk_at "side")))
def S_cw (ars : List Sl) (post : Unit → Prop) : Prop := ∃ (t : Tb) (ws : List (List Int)) (n m : Nat), ars = [sl rTab t, sl (rL (rL rI)) ws] ∧ Tok t n m ∧ (∀ w ∈ ws, Wd m w ∧ w.length ≤ 1000000) ∧ post = fun y => y = ()
theorem S_cw_i {t : Tb} {ws : List (List Int)} {n m : Nat} (h : Tok t n m) (h2 : ∀ w ∈ ws, Wd m w ∧ w.length ≤ 1000000) : S_cw [sl rTab t, sl (rL (rL rI)) ws] (fun y => y = ()) := ⟨t, ws, n, m, rfl, h, h2, rfl⟩
local macro_rules | `(tactic| walk_at "sp") => `(tactic| ((with_reducible refine' S_cw_i ?a ?b); (case a => assumption); (case b => assumption)))
def S_sa (ars : List Sl) (post : Int → Prop) : Prop := ∃ (t : Tb) (s : Int) (w : List Int) (n m : Nat), ars = [sl rTab t, sl rI s, sl (rL rI) w] ∧ Tok t n m ∧ 0 ≤ s ∧ s < n ∧ Wd m w ∧ w.length ≤ 1000000 ∧ post = fun y => y = runW (δ t) s w
theorem S_sa_i {t : Tb} {s : Int} {w : List Int} {n m : Nat} (h : Tok t n m) (h0 : 0 ≤ s) (h1 : s < n) (h2 : Wd m w) (h3 : w.length ≤ 1000000) : S_sa [sl rTab t, sl rI s, sl (rL rI) w] (fun y => y = runW (δ t) s w) := ⟨t, s, w, n, m, rfl, h, h0, h1, h2, h3, rfl⟩
local macro_rules | `(tactic| walk_at "sp") => `(tactic| ((with_reducible refine' S_sa_i ?a ?b ?c ?d ?e); (case a => assumption); (case b => walk_at "side"); (case c => walk_at "side"); (case d => assumption); (case e => walk_at "side")))
section
variable {P : Program} {w : World} {K : PySem.W.Frag} {mg : Str → Option Value} {base : Heap}
theorem ok_is_word (B : Bl mg) (d_letter_count : Df P w K mg base "letter_count" ["table"] (mkSp rI S_lc) 1) {f : Addr} {fd : FuncData} (F : Fun K "is_word" "is_word" s_is_word f fd) : FnOk P w K mg base CX0 2 f fd ["table", "word"] (mkSp rB S_iw) := by
  refine def_ok F sc_is_word (fun _ _ ⟨_, _, _, _, h, _⟩ => by rw [h]; rfl) fun cdv A outer s H E hr => ?_
  refine ⟨_, (pss_one (ps_ret (pe_callB (cr_all rfl) (by rfl) B.ball (by decide +kernel) (pa_cons (pe_lc (own := [("letter", 2)]) rfl sc_is_word.nd (pi_seq (pv 1)) (blkOk_by (N := N_is_word) (sc := defScope s_is_word) (by decide +kernel)) (fun _ _ _ _ _ => (pg_name (i := 2) sc_is_word.nd rfl (.inl rfl))) (fun _ _ _ _ _ => pts_nil) (fun _ _ _ _ _ => (pe_chain op_le op_lt pe_int (pv 2) (pe_df d_letter_count hr (by decide) rfl (pa_cons (pv 0) pa_nil))))) pa_nil)))), ?_⟩
  intro F0 ars post Q ⟨t, ww, n, m, ea, ht, hw, hl, ep⟩ hQ
  subst ea ep
  walk_at "cx"
  have hz := sizeLine_eq
  refine' go_ret1 hQ (y := (ww.map fun x => decide (0 ≤ x) && decide (x < (m : Int))).all id) ?h ?p rfl
  case h =>
    refine' ev_ca (ea_cons (ev_frzL (ev_lcLs (r := rI) (xs := ww) (q := rB) (fun x => decide (0 ≤ x) && decide (x < (m : Int))) ?hl (by omega) (fun _ _ _ => tw_name) ?he)) ea_nil) c_all
    case hl => walk_at "ev"
    case he =>
      intro F1 Dd ys k x hx
      walk_at "ls"
      walk_at "ev"
  case p =>
    show _ = true
    rw [List.all_map, List.all_eq_true]
    intro x hx
    have := hw x hx
    simp
    omega
theorem ok_check_words (B : Bl mg) (d_is_word : Df P w K mg base "is_word" ["table", "word"] (mkSp rB S_iw) 2) {f : Addr} {fd : FuncData} (F : Fun K "check_words" "check_words" s_check_words f fd) :
    FnOk P w K mg base CX0 3 f fd ["table", "words"] (mkSp rN S_cw) := by
  refine def_ok F sc_check_words (fun _ _ ⟨_, _, _, _, h, _⟩ => by rw [h]; rfl) fun cdv A outer s H E hr => ?_
  refine ⟨_, (pss_one (ps_for PassesOwn.never rfl (pi_seq (pv 1)) (pg_name (i := 2) sc_check_words.nd rfl (.inl rfl))
        (pss_one (ps_if (pt_not (pt_val (pe_df d_is_word hr (by decide) rfl (pa_cons (pv 0) (pa_cons (pv 2) pa_nil)))))
          (pss_one ps_never) pss_nil)))), ?_⟩
  intro F0 ars post Q ⟨t, ws, n, m, ea, ht, hws, ep⟩ hQ
  subst ea ep
  walk_at "cx"
  refine' go_forLs (ι := Unit) (r := rL rI) (xs := ws) (fun k b => True) (fun _ => [sl rTab t, sl (rL (rL rI)) ws, s_]) (fun x _ => [sl rTab t, sl (rL (rL rI)) ws, sl (rL rI) x]) (fun _ => []) ?hl () (Wk.refl _) rfl trivial (fun _ _ _ => tg_name) ?hs ?hd
  case hl => walk_at "ev"
  case hd => exact fun _ _ => go_end hQ rfl
  case hs =>
    intro F1 bs k b x hx _ N hN _
    have hx2 := hws x (List.mem_of_getElem? hx)
    have hx3 := hx2.1
    have hx4 := hx2.2
    walk_at "if!"
    case x =>
      intro hyes
      cases hyes
    intro _
    walk_at "nx"
    exact Go.weak (.same (.same (.drop .nil))) (hN () trivial)
theorem ok_state_after (B : Bl mg) (d_check_states : Df P w K mg base "check_states" ["table", "states"] (mkSp rN S_cs) 2) (d_check_words : Df P w K mg base "check_words" ["table", "words"] (mkSp rN S_cw) 3)
    (d_run : Df P w K mg base "run" ["table", "state", "word"] (mkSp (r2 (rL rI) rI) S_run) 2) {f : Addr} {fd : FuncData} (F : Fun K "state_after" "state_after" s_state_after f fd) :
    FnOk P w K mg base CX0 4 f fd ["table", "state", "word"] (mkSp rI S_sa) := by
  refine def_ok F sc_state_after (fun _ _ ⟨_, _, _, _, _, h, _⟩ => by rw [h]; rfl) fun cdv A outer s H E hr => ?_
  refine ⟨_, (pss_cons (ps_expr (pe_df d_check_states hr (by decide) rfl (pa_cons (pv 0) (pa_cons (pe_lst (pa_cons (pv 1) pa_nil)) pa_nil))))
      (pss_cons (ps_expr (pe_df d_check_words hr (by decide) rfl (pa_cons (pv 0) (pa_cons (pe_lst (pa_cons (pv 2) pa_nil)) pa_nil))))
      (pss_one (ps_ret (pe_ix ix_seq (pe_df d_run hr (by decide) rfl (pa_cons (pv 0) (pa_cons (pv 1) (pa_cons (pv 2) pa_nil)))) pe_int (fun _ _ => rfl)))))), ?_⟩
  intro F0 ars post Q ⟨t, s, ww, n, m, ea, ht, h0, h1, hw, hl, ep⟩ hQ
  subst ea ep
  walk_at "cx"
  have hw1 : ∀ v ∈ [ww], Wd m v ∧ v.length ≤ 1000000 := fun v hv => by rw [List.mem_singleton.mp hv]; exact ⟨hw, hl⟩
  have hs1 : ∀ v ∈ [s], 0 ≤ v ∧ v < (n : Int) := fun v hv => by rw [List.mem_singleton.mp hv]; exact ⟨h0, h1⟩
  refine' go_seq (go_drop (Pv := fun y => y = ()) ?h1 ?k1)
  case h1 => walk_at "ev"
  walk_at "ls"
  refine' go_seq (go_drop (Pv := fun y => y = ()) ?h2 ?k2)
  case h2 => walk_at "ev"
  walk_at "ls"
  walk_at "ret"
  rfl
/-! ### reach, first_words -/
abbrev Ent := List (Int × List Int)
/-- the search's answer -/
def Rch (t : Tb) (m : Nat) (e : Ent) : Prop := Bq (δ t) m 0 e e.length 0
def S_reach (ars : List Sl) (post : List Int × List (Key × List Int) → Prop) : Prop := ∃ (t : Tb) (n m : Nat), ars = [sl rTab t] ∧ Tok t n m ∧ post = fun y => ∃ e : Ent, Rch t m e ∧ (∀ x ∈ e, 0 ≤ x.1 ∧ x.1 < n ∧ x.2.length ≤ n) ∧ y = (e.map (·.1), kv e)
theorem ok_reach (B : Bl mg) {f : Addr} {fd : FuncData} (F : Fun K "reach" "reach" s_reach f fd) : FnOk P w K mg base CX0 1 f fd ["table"] (mkSpN (fun H => r2 (rL rI) (rDK (rLn H rI))) S_reach) := by
  refine def_okN F sc_reach (fun _ _ ⟨_, _, _, h, _⟩ => by rw [h]; rfl) fun cdv A outer s H E hr => ?_
  refine ⟨_, (pss_cons (ps_set (i := 1) sc_reach.nd rfl (.inl rfl) (pe_disp (pps_cons pe_int (pe_lst pa_nil) pps_nil) (by rfl) (by rfl) (fun z => by cases z) (by decide)))
      (pss_cons (ps_set (i := 2) sc_reach.nd rfl (.inl rfl) (pe_lst (pa_cons pe_int pa_nil)))
      (pss_cons (ps_set (i := 3) sc_reach.nd rfl (.inl rfl) pe_int)
      (pss_cons (ps_while PassesOwn.never (pt_cmpR op_lt (pv 3) (pe_callB call_len (by rfl) B.blen PySem.boot_len (pa_cons (pv 2) pa_nil)) (nomark _))
        (pss_cons (ps_for PassesOwn.never rfl (pi_enumA (by rfl) B.benumerate (pa_cons (pe_ix ix_seq (pe_ix ix_seq (pv 0) (pe_gk rfl B.kROWS) (fun _ _ => rfl)) (pe_ix ix_seq (pv 2) (pv 3) (fun _ _ => rfl)) (fun _ _ => rfl)) pa_nil)) (pg_tup rfl (pgs_cons (pg_name (i := 4) sc_reach.nd rfl (.inl rfl)) (pgs_cons (pg_name (i := 5) sc_reach.nd rfl (.inl rfl)) pgs_nil)))
          (pss_one (ps_if (pt_cmp (pc_dnotin (hu_of hr) (pe_ix ix_seq (pv 5) pe_int (fun _ _ => rfl)) (pv 1)) rfl)
            (pss_cons (ps_dput (hu_of hr) (pv 1) (pe_ix ix_seq (pv 5) pe_int (fun _ _ => rfl)) (pe_op op_addA (pe_dget (hu_of hr) (pv 1) (pe_ix ix_seq (pv 2) (pv 3) (fun _ _ => rfl)) (fun _ _ => rfl)) (pe_lst (pa_cons (pv 4) pa_nil))) rfl)
            (pss_one (ps_expr (pe_bm PySem.F.plainAttrs_list PySem.F.slot_list_append PySem.F.type_list_append mt_append (pv 2) (pa_cons (pe_ix ix_seq (pv 5) pe_int (fun _ _ => rfl)) pa_nil))))) pss_nil)))
        (pss_one (ps_aug (i := 3) sc_reach.nd rfl (.inl rfl) pe_int ip_add))))
      (pss_one (ps_ret (pe_tup (pa_cons (pv 2) (pa_cons (pv 1) pa_nil))))))))), ?_⟩
  intro F0 ars post Q ⟨t, n, m, ea, ht, ep⟩ hQ
  subst ea ep
  walk_at "cx"
  have hz := sizeLine_eq
  have hn0 := ht.n0
  have hnz := ht.nz
  have hmm := ht.m64
  refine' go_seq (go_setM1 (ev_disp1K (r := rLn H rI) (i := 0) (y := []) (fun _ => ev_int) (fun _ => ev_frzN (ev_lst0 rI))) fun pw => ?_)
  walk_at "ls"
  refine' go_seq (go_setM1 (mo := mL rI [0]) ?h1 fun ps => ?_)
  case h1 => walk_at "evm"
  walk_at "ls"
  walk_at "set"
  refine' go_seq (go_while (ι := Ent × Nat) (fun b => Bq (δ t) m 0 b.1 b.2 0 ∧ b.2 ≤ b.1.length ∧ ∀ x ∈ b.1, 0 ≤ x.1 ∧ x.1 < (n : Int) ∧ x.2.length ≤ b.2) (fun b => n - b.2)
    (fun b => [sl rTab t, sl rV (.ref pw), sl rV (.ref ps), sl rI (b.2 : Int), s_, s_]) (fun b => [(ps, mL rI (b.1.map (·.1))), (pw, mK (rLn H rI) (kv b.1))]) (fun b => decide ((b.2 : Int) < ((b.1.map (·.1)).length : Int))) ([(0, [])], 0)
    ⟨Bq.init, Nat.zero_le _, fun x hx => by rw [List.mem_singleton.mp hx]; exact ⟨Int.le_refl _, by omega, Nat.le_refl _⟩⟩ ?hc ?hs ?hd)
  case hc =>
    intro b hb
    walk_at "ls"
    walk_at "et"
  case hd =>
    intro b ⟨hB, hle, hv⟩ hf
    walk_at "ls"
    have hf : ¬ (b.2 : Int) < ((b.1.map (·.1)).length : Int) := of_decide_eq_false hf
    rw [List.length_map] at hf
    refine go_frz (p := ps) (mo := mL rI (b.1.map (·.1))) (i := 2) (.refl _) rfl frzL ?_
    walk_at "ls"
    refine go_frz (p := pw) (mo := mK (rLn H rI) (kv b.1)) (i := 1) (.refl _) rfl frzK ?_
    walk_at "ls"
    refine' go_ret1 hQ ?hrt (y := (b.1.map (·.1), kv b.1)) ?prt rfl
    case hrt => walk_at "ev"
    case prt =>
      have e : b.2 = b.1.length := by omega
      refine ⟨b.1, ?_, fun x hx => ?_, rfl⟩
      · show Bq _ _ _ _ _ _
        rw [← e]
        exact hB
      · have h1 := hv x hx
        have h2 : b.1.length ≤ n := by
          have := nodup_le n (b.1.map (·.1)) hB.nd (fun y hy => by
            obtain ⟨x, hx, e⟩ := List.mem_map.mp hy
            rw [← e]
            exact ⟨(hv x hx).1, (hv x hx).2.1⟩)
          rw [List.length_map] at this
          exact this
        exact ⟨h1.1, h1.2.1, by omega⟩
  case hs =>
    intro b ⟨hB, hle, hv⟩ hf N hN
    walk_at "ls"
    have hf : (b.2 : Int) < ((b.1.map (·.1)).length : Int) := of_decide_eq_true hf
    rw [List.length_map] at hf
    have hlt : b.2 < b.1.length := by omega
    have hc := List.getElem?_eq_getElem hlt
    generalize b.1[b.2] = c at hc
    obtain ⟨cs, cw⟩ := c
    have hcv := hv _ (List.mem_of_getElem? hc)
    have hcs0 : 0 ≤ cs := hcv.1
    have hcs1 : cs < (n : Int) := hcv.2.1
    have g1 : ∀ e : Ent, e[b.2]? = some (cs, cw) → atI (e.map (·.1)) (b.2 : Int) = some cs := fun e he => atI_nat (by rw [List.getElem?_map, he]; rfl)
    have g1b := g1 _ hc
    have g2 := row_at ht hcs0 hcs1
    have hnb : b.1.length ≤ n := by
      have := nodup_le n (b.1.map (·.1)) hB.nd (fun y hy => by
        obtain ⟨x, hx, e⟩ := List.mem_map.mp hy
        rw [← e]
        exact ⟨(hv x hx).1, (hv x hx).2.1⟩)
      rw [List.length_map] at this
      exact this
    refine' go_seq (go_enumT (ι := Ent) (r := r2 rI rI) (xs := row t cs) (fun k e => Bq (δ t) m 0 e b.2 (k : Int) ∧ e[b.2]? = some (cs, cw) ∧ ∀ x ∈ e, 0 ≤ x.1 ∧ x.1 < (n : Int) ∧ x.2.length ≤ b.2 + 1)
      (fun _ => [sl rTab t, sl rV (.ref pw), sl rV (.ref ps), sl rI (b.2 : Int), s_, s_]) (fun e => [(ps, mL rI (e.map (·.1))), (pw, mK (rLn H rI) (kv e))]) ?hl b.1 (Wk.refl _) rfl ⟨hB, hc, fun x hx => ⟨(hv x hx).1, (hv x hx).2.1, by have := (hv x hx).2.2; omega⟩⟩ ?hs2 ?hd2)
    case hl => walk_at "ea"
    case hd2 =>
      intro e ⟨hBe, hce, hve⟩
      walk_at "ls"
      rw [row_len ht hcs0 hcs1] at hBe
      have hel : b.2 < e.length := (List.getElem?_eq_some_iff.mp hce).1
      refine' go_aug (a := (b.2 : Int)) (b := 1) rfl ?h (Go.to ?e (Go.weak ?w (hN (e, b.2 + 1) ⟨hBe.adv (by omega) hel, hel, hve⟩ ?μ)))
      case h => walk_at "ev"
      case e => exact rfl
      case w => exact .same (.same (.same (.same (.same (.same .nil)))))
      case μ =>
        show n - (b.2 + 1) < n - b.2
        omega
    case hs2 =>
      intro F1 bs k e x hx ⟨hBe, hce, hve⟩ N2 hN2
      walk_at "ls"
      have hkl : k < m := by
        have := (List.getElem?_eq_some_iff.mp hx).1
        rw [row_len ht hcs0 hcs1] at this
        exact this
      have hpr : pr t cs (k : Int) = x := by
        have := pr_get ht hcs0 hcs1 (l := (k : Int)) (by omega) (by omega)
        rw [Int.toNat_natCast, hx] at this
        exact (Option.some.inj this).symm
      have hδ : δ t cs (k : Int) = x.1 := by unfold δ; rw [hpr]
      have hδ2 := δ_ok ht hcs0 hcs1 (l := (k : Int)) (by omega) (by omega)
      rw [hδ] at hδ2
      have g1e := g1 _ hce
      have hdg : dget (kv e) (Sum.inl cs) = some cw := (dget_some hBe.nd).mpr (List.mem_of_getElem? hce)
      have hel : e.length ≤ n := by
        have := nodup_le n (e.map (·.1)) hBe.nd (fun y hy => by
          obtain ⟨x, hx, e⟩ := List.mem_map.mp hy
          rw [← e]
          exact ⟨(hve x hx).1, (hve x hx).2.1⟩)
        rw [List.length_map] at this
        exact this
      have hkel : (kv e).length < sizeLine := by unfold kv; rw [List.length_map]; omega
      have hmel : (e.map (·.1)).length < sizeLine := by rw [List.length_map]; omega
      have hcwl : cw.length ≤ b.2 := hcv.2.2
      refine' go_if (b := (dget (kv e) (Sum.inl x.1)).isNone) ?c ?y ?n
      case c =>
        refine' et_B (ev_dnotM1 mj1 ?k ?d)
        case k => walk_at "ev"
        case d => walk_at "ev"
      case n =>
        intro hno
        walk_at "nx"
        have hin : δ t (cs, cw).1 (k : Int) ∈ e.map (·.1) := by
          rw [show δ t (cs, cw).1 (k : Int) = x.1 from hδ]
          by_cases z : x.1 ∈ e.map (·.1)
          · exact z
          · rw [dget_none.mpr z] at hno
            cases hno
        exact Go.weak (.same (.same (.same (.same (.drop (.drop .nil)))))) (hN2 e ⟨hBe.old hce hin, hce, hve⟩)
      case y =>
        intro hyes
        have hdn : dget (kv e) (Sum.inl x.1) = none := Option.isNone_iff_eq_none.mp hyes
        have hni : δ t (cs, cw).1 (k : Int) ∉ e.map (·.1) := by
          rw [show δ t (cs, cw).1 (k : Int) = x.1 from hδ]
          exact dget_none.mp hdn
        have hB2 := hBe.new hce hni (by omega) (by omega)
        rw [show δ t (cs, cw).1 (k : Int) = x.1 from hδ] at hB2
        have hve2 : ∀ z ∈ e ++ [(x.1, (cs, cw).2 ++ [(k : Int)])], 0 ≤ z.1 ∧ z.1 < (n : Int) ∧ z.2.length ≤ b.2 + 1 := fun z hz => by
          rcases List.mem_append.mp hz with hz | hz
          · exact hve z hz
          · rw [List.mem_singleton.mp hz]
            refine ⟨hδ2.1, hδ2.2, ?_⟩
            show (cw ++ [(k : Int)]).length ≤ _
            rw [List.length_append, List.length_singleton]
            omega
        have hce2 : (e ++ [(x.1, (cs, cw).2 ++ [(k : Int)])])[b.2]? = some (cs, cw) := by
          rw [List.getElem?_append_left (List.getElem?_eq_some_iff.mp hce).1]
          exact hce
        have fin := hN2 _ ⟨hB2, hce2, hve2⟩
        have e1 : kv (e ++ [(x.1, (cs, cw).2 ++ [(k : Int)])]) = kv e ++ [(Sum.inl x.1, cw ++ [(k : Int)])] := by unfold kv; rw [List.map_append]; rfl
        have e2 : (e ++ [(x.1, (cs, cw).2 ++ [(k : Int)])]).map (·.1) = e.map (·.1) ++ [x.1] := by rw [List.map_append]; rfl
        rw [e1, e2] at fin
        refine' go_seq (go_dputM1 (jj := 1) (i := x.1) (y := cw ++ [(k : Int)]) ?hv ?hd3 mj1 ?hk3 hdn hkel ?k3)
        case hv =>
          refine' ev_frzN (ev_opM (ev_LnL (ev_dgetM1 (jj := 1) (i := cs) (y := cw) ?a mj1 ?b hdg)) (ev_frzL ?d) (oRM (o_cat ?c)))
          case a => walk_at "ev"
          case b => walk_at "ev"
          case d => walk_at "evm"
          case c => walk_at "sz"
        case hd3 => walk_at "ev"
        case hk3 => walk_at "ev"
        case k3 =>
          walk_at "ls"
          walk_at "app!"
          exact Go.weak (.same (.same (.same (.same (.drop (.drop .nil)))))) fin
end

end T

namespace T
open PySem PySem.Spec PyProof.Rows L2
local macro_rules | `(tactic| walk_at "side") => `(tactic| first | with_reducible assumption | omega | (dsimp only; omega) | exact CMul_l (by omega) (by omega) | exact CMul_r (by omega) (by omega) | (refine' (⟨?_, ?_⟩ : CDivN _ _) <;> omega) | (refine' (⟨?_, ?_, ?_⟩ : CPow _ _) <;> first | decide | omega) | (simp; done))
local macro_rules | `(tactic| walk_at "op") => `(tactic| first
  | ((with_reducible refine' oI0 (t := rI) ?c); (case c => exact fun _ => rfl))
  | ((with_reducible refine' oI0 (t := rB) ?c); (case c => exact fun _ => rfl))
  | ((with_reducible refine' oL (oI0 (t := rI) ?c)); (case c => exact fun _ => rfl))
  | ((with_reducible refine' oI (t := rI) ?c ?d); (case d => exact fun _ => rfl); (case c => walk_at "side"))
  | ((with_reducible refine' oL (oI (t := rI) ?c ?d)); (case d => exact fun _ => rfl); (case c => walk_at "side"))
  | with_reducible exact o_eqI | with_reducible exact oL o_eqI | with_reducible exact o_neI | with_reducible exact oL o_neI | with_reducible exact o_isN | with_reducible exact o_notN
  | with_reducible exact o_ix20' | with_reducible exact o_ix21' | with_reducible exact o_ix30' | with_reducible exact o_ix31' | with_reducible exact o_ix32'
  | ((with_reducible refine' o_ixL' ?s); (case s => walk_at "side"))
  | ((with_reducible refine' o_ixT' ?s); (case s => walk_at "side"))
  | ((with_reducible refine' o_ixQ' ?s); (case s => walk_at "side"))
  | ((with_reducible refine' o_ixM' ?h ?s); (case h => walk_at "mj"); (case s => walk_at "side"))
  | walk_at "op2")
local macro_rules | `(tactic| walk_at "mj") => `(tactic| first | exact mj0 | exact mj1 | exact mj2 | exact mj3)
local macro_rules | `(tactic| walk_at "ca") => `(tactic| first
  | with_reducible exact c_lenL | with_reducible exact c_lenT | with_reducible exact c_lenQ | ((with_reducible refine' c_lenM ?h); (case h => walk_at "mj")) | with_reducible exact c_int | with_reducible exact c_tupL | ((with_reducible refine' c_tupM ?h); (case h => walk_at "mj"))
  | with_reducible exact c_all | with_reducible exact c_max2 | with_reducible exact c_min2 | walk_at "ca2")
local macro_rules | `(tactic| walk_at "ea") => `(tactic| first
  | with_reducible exact ea_nil
  | ((with_reducible refine' ea_cons ?h1 ?h2); (case h1 => walk_at "ev"); (case h2 => walk_at "ea")))
local macro_rules | `(tactic| walk_at "ev") => `(tactic| first
  | ((with_reducible refine' ev_var ?h); (case h => exact rfl))
  | with_reducible exact ev_int | with_reducible exact ev_bl | with_reducible exact ev_non | with_reducible exact ev_str | with_reducible exact ev_val
  | with_reducible assumption
  | ((with_reducible refine' ev_op ?h1 ?h2 ?h3); (case h1 => walk_at "ev"); (case h2 => walk_at "ev"); (case h3 => walk_at "op"))
  | ((with_reducible refine' ev_ca ?h1 ?h2); (case h1 => walk_at "ea"); (case h2 => walk_at "ca"))
  | ((with_reducible refine' ev_neg ?h1); (case h1 => walk_at "ev"))
  | ((with_reducible refine' ev_chain ?h1 ?h2 ?h3 ?h4 ?h5); (case h1 => walk_at "ev"); (case h2 => walk_at "ev"); (case h3 => walk_at "op"); (case h4 => walk_at "ev"); (case h5 => walk_at "op"))
  | ((with_reducible refine' ev_tup2 ?h1); (case h1 => walk_at "ea"))
  | ((with_reducible refine' ev_tup3 ?h1); (case h1 => walk_at "ea"))
  | ((with_reducible refine' ev_notV ?h1); (case h1 => walk_at "ev"))
  | ((with_reducible refine' ev_andV ?h1 (fun _ => ?h2)); (case h1 => walk_at "ev"); (case h2 => walk_at "ev"))
  | ((with_reducible refine' ev_orV ?h1 (fun _ => ?h2)); (case h1 => walk_at "ev"); (case h2 => walk_at "ev"))
  | ((with_reducible refine' ev_frzL ?h1); (case h1 => walk_at "evm"))
  | walk_at "ev2")
local macro_rules | `(tactic| walk_at "et") => `(tactic| first
  | ((with_reducible refine' et_test ?h1); (case h1 => walk_at "ev"))
  | ((with_reducible refine' et_B ?h1); (case h1 => walk_at "ev"))
  | ((with_reducible refine' et_not ?h1); (case h1 => walk_at "et"))
  | ((with_reducible refine' et_and ?h1 (fun _ => ?h2)); (case h1 => walk_at "et"); (case h2 => walk_at "et"))
  | ((with_reducible refine' et_or ?h1 (fun _ => ?h2)); (case h1 => walk_at "et"); (case h2 => walk_at "et")))
local macro_rules | `(tactic| walk_at "ca2") => `(tactic| fail "ca2")
local macro_rules | `(tactic| walk_at "ca2") => `(tactic| first | with_reducible exact c_isi_ii | with_reducible exact c_isi_ib | with_reducible exact c_isi_ll | ((with_reducible refine' c_lenD ?h); (case h => walk_at "mj")))
local macro_rules | `(tactic| walk_at "op2") => `(tactic| fail "op2")
local macro_rules | `(tactic| walk_at "ev2") => `(tactic| fail "ev2")
local macro_rules | `(tactic| walk_at "evm2") => `(tactic| fail "evm2")
local macro_rules | `(tactic| walk_at "evm") => `(tactic| first
  | with_reducible exact ev_lst0 _
  | ((with_reducible refine' ev_lst1 ?h1); (case h1 => walk_at "ea"))
  | ((with_reducible refine' ev_lst2 ?h1); (case h1 => walk_at "ea"))
  | ((with_reducible refine' ev_lst3 ?h1); (case h1 => walk_at "ea"))
  | ((with_reducible refine' ev_lst4 ?h1); (case h1 => walk_at "ea"))
  | ((with_reducible refine' ev_lst5 ?h1); (case h1 => walk_at "ea"))
  | ((with_reducible refine' ev_lst6 ?h1); (case h1 => walk_at "ea"))
  | ((with_reducible refine' ev_lst7 ?h1); (case h1 => walk_at "ea"))
  | ((with_reducible refine' ev_lst8 ?h1); (case h1 => walk_at "ea"))
  | ((with_reducible refine' ev_opM ?h1 ?h2 (oRM (o_cat ?h3))); (case h1 => walk_at "ev"); (case h2 => walk_at "ev"); (case h3 => walk_at "side"))
  | walk_at "evm2")
local macro_rules | `(tactic| walk_at "cx") => `(tactic| dsimp only [cxOf, Cx.nox, Cx.wish, Cx.blk, List.map, List.cons_append, List.nil_append, List.append_nil, List.length_cons, List.length_nil, List.replicate, Nat.reduceSub, Nat.reduceAdd])
local macro_rules | `(tactic| walk_at "ls") => `(tactic| try dsimp only [List.set_cons_zero, List.set_cons_succ])
local macro_rules | `(tactic| walk_at "set") => `(tactic| (refine' go_seq (go_set1 ?h ?k); (case h => walk_at "ev"); walk_at "ls"))
local macro_rules | `(tactic| walk_at "set!") => `(tactic| (refine' go_set1 ?h ?k; (case h => walk_at "ev"); walk_at "ls"))
local macro_rules | `(tactic| walk_at "if") => `(tactic| (refine' go_seq (go_if ?c ?x ?y); (case c => walk_at "et")))
local macro_rules | `(tactic| walk_at "if!") => `(tactic| (refine' go_if ?c ?x ?y; (case c => walk_at "et")))
local macro_rules | `(tactic| walk_at "ret") => `(tactic| (refine' go_ret1 ?q ?h ?p ?e; (case e => exact rfl); (case q => assumption); (case h => walk_at "ev")))
local macro_rules | `(tactic| walk_at "nx") => `(tactic| (refine go_next ?_; try dsimp only))
local macro_rules | `(tactic| walk_at "sp") => `(tactic| fail "sp")
local macro_rules | `(tactic| walk_at "ev2") => `(tactic| ((with_reducible refine' ev_call1 ?h1 ?h2); (case h1 => walk_at "ea"); (case h2 => walk_at "sp")))
local macro_rules | `(tactic| walk_at "evm2") => `(tactic| ((with_reducible refine' ev_callM1 ?h1 ?h2); (case h1 => walk_at "ea"); (case h2 => walk_at "sp")))
local macro_rules | `(tactic| walk_at "setM") => `(tactic| (refine' go_seq (go_setM1 ?h ?k); (case h => walk_at "evm")))
local macro_rules | `(tactic| walk_at "setM!") => `(tactic| (refine' go_setM1 ?h ?k; (case h => walk_at "evm")))
local macro_rules | `(tactic| walk_at "app") => `(tactic| (refine' go_seq (go_app1 ?a ?b ?h ?z ?k); (case a => exact rfl); (case b => walk_at "mj"); (case h => walk_at "ev"); (case z => walk_at "sz"); walk_at "ls"))
local macro_rules | `(tactic| walk_at "app!") => `(tactic| (refine' go_app1 ?a ?b ?h ?z ?k; (case a => exact rfl); (case b => walk_at "mj"); (case h => walk_at "ev"); (case z => walk_at "sz"); walk_at "ls"))
local macro_rules | `(tactic| walk_at "sz") => `(tactic| (have hsz_ := sizeLine_eq; first | omega | (simp only [List.length_append, List.length_cons, List.length_nil, List.length_map, List.length_range]; omega)))
local macro_rules | `(tactic| walk_at "retV") => `(tactic| (refine' go_retV1 ?q ?a ?b ?p ?e; (case e => exact rfl); (case q => assumption); (case a => exact rfl); (case b => walk_at "mj")))
local macro_rules | `(tactic| walk_at "evm2") => `(tactic| ((with_reducible refine' ev_opM ?h1 ?h2 (oRM (o_rep ?h3 ?h4 ?h5))); (case h1 => walk_at "ev"); (case h2 => walk_at "ev"); (case h3 => walk_at "side"); (case h4 => walk_at "side"); (case h5 => walk_at "side")))
local macro_rules | `(tactic| walk_at "op2") => `(tactic| first | with_reducible exact o_eqLI | with_reducible exact o_neLI | with_reducible exact o_eqLLI | with_reducible exact o_neLLI | with_reducible exact o_inO)
local macro_rules | `(tactic| walk_at "ix") => `(tactic| first | exact mj0 | exact mj1 | exact mj2 | exact mj3 | exact mj4 | exact mj5 | exact mj6 | exact mj7 | exact mj8 | exact mj9 | exact mj10 | exact mj11 | exact mj12)
local macro_rules | `(tactic| walk_at "ev") => `(tactic| first | ((with_reducible refine' ev_varS ?s ?h); (case h => with_reducible walk_at "ix"); (case s => first | exact Same.refl _ | assumption)) | fail "no")
local macro_rules | `(tactic| walk_at "ev") => `(tactic| first | ((with_reducible refine' ev_varN ?h); (case h => with_reducible walk_at "ix")) | fail "no")
local macro_rules | `(tactic| walk_at "sp") => `(tactic| with_reducible exact S_ii_i)
local macro_rules | `(tactic| walk_at "sp") => `(tactic| ((with_reducible refine' S_parts_i ?a ?b); (case a => first | assumption | (simp; done)); (case b => first | assumption | (simp; done) | omega)))
local macro_rules | `(tactic| walk_at "sp") => `(tactic| ((with_reducible refine' S_far_i ?a); (case a => walk_at "side")))
local macro_rules | `(tactic| walk_at "sp") => `(tactic| ((with_reducible refine' S_step_i ?a ?b ?c ?d ?e); (case a => assumption); (case b => walk_at "side"); (case c => walk_at "side"); (case d => walk_at "side"); (case e => walk_at "side")))
local macro_rules | `(tactic| walk_at "sp") => `(tactic| ((with_reducible refine' S_lc_i ?a); (case a => assumption)))
local macro_rules | `(tactic| walk_at "sp") => `(tactic| ((with_reducible refine' S_sc_i ?a); (case a => assumption)))
local macro_rules | `(tactic| walk_at "sp") => `(tactic| ((with_reducible refine' S_cs_i ?a ?b); (case a => assumption); (case b => first | assumption | (simp; omega))))
local macro_rules | `(tactic| walk_at "sp") => `(tactic| ((with_reducible refine' S_run_i ?a ?b ?c ?d ?e); (case a => assumption); (case b => walk_at "side"); (case c => walk_at "side"); (case d => assumption); (case e => walk_at "side")))
local macro_rules | `(tactic| walk_at "sp") => `(tactic| ((with_reducible refine' S_ans_i ?a ?b); (case a => walk_at "side"); (case b => walk_at "side")))
local macro_rules | `(tactic| walk_at "sp") => `(tactic| ((with_reducible refine' S_table_i ?a ?b ?c ?d ?e ?f ?g); (case a => walk_at "side"); (case b => walk_at "side"); (case c => walk_at "side"); (case d => walk_at "side"); (case e => walk_at "side"); (case f => walk_at "side"); (case g => walk_at "side")))
local macro_rules | `(tactic| walk_at "sp") => `(tactic| ((with_reducible refine' S_iw_i ?a ?b ?c); (case a => assumption); (case b => assumption); (case c => walk_at "side")))
local macro_rules | `(tactic| walk_at "sp") => `(tactic| ((with_reducible refine' S_cw_i ?a ?b); (case a => assumption); (case b => assumption)))
local macro_rules | `(tactic| walk_at "sp") => `(tactic| ((with_reducible refine' S_sa_i ?a ?b ?c ?d ?e); (case a => assumption); (case b => walk_at "side"); (case c => walk_at "side"); (case d => assumption); (case e => walk_at "side")))
/-! ### first_words -/
def fwOf (e : Ent) (n : Nat) : List (Option (List Int)) := (List.range n).map fun s : Nat => dget (kv e) (Sum.inl (s : Int))
def S_fw (ars : List Sl) (post : List (Option (List Int)) → Prop) : Prop := ∃ (t : Tb) (n m : Nat), ars = [sl rTab t] ∧ Tok t n m ∧ post = fun y => ∃ e : Ent, Rch t m e ∧ (∀ x ∈ e, 0 ≤ x.1 ∧ x.1 < n ∧ x.2.length ≤ n) ∧ y = fwOf e n
section
variable {P : Program} {w : World} {K : PySem.W.Frag} {mg : Str → Option Value} {base : Heap}
theorem ok_first_words (B : Bl mg) (d_reach : Df P w K mg base "reach" ["table"] (mkSpN (fun H => r2 (rL rI) (rDK (rLn H rI))) S_reach) 1) {f : Addr} {fd : FuncData} (F : Fun K "first_words" "first_words" s_first_words f fd) :
    FnOk P w K mg base CX0 2 f fd ["table"] (mkSpN (fun H => rLn H (rO (rLn H rI))) S_fw) := by
  refine def_okN F sc_first_words (fun _ _ ⟨_, _, _, h, _⟩ => by rw [h]; rfl) fun cdv A outer s H E hr => ?_
  refine ⟨_, (pss_cons (ps_set (i := 1) sc_first_words.nd rfl (.inr rfl) (pe_ix ix_seq (pe_df d_reach hr (by decide) rfl (pa_cons (pv 0) pa_nil)) pe_int (fun _ _ => rfl)))
      (pss_one (ps_ret (pe_lc (own := [("state", 2)]) rfl sc_first_words.nd (pi_range1 (by rfl) B.brange (pa_cons (pe_callB call_len (by rfl) B.blen PySem.boot_len (pa_cons (pe_ix ix_seq (pv 0) (pe_gk rfl B.kROWS) (fun _ _ => rfl)) pa_nil)) pa_nil)) (blkOk_by (N := N_first_words) (sc := defScope s_first_words) (by decide +kernel)) (fun _ _ _ _ _ => (pg_name (i := 2) sc_first_words.nd rfl (.inl rfl))) (fun _ _ _ _ _ => pts_nil) (fun _ _ _ _ _ => (pe_dget1 (hu_of hr) (pv 1) (pv 2) ⟨rfl, rfl, rfl, rfl⟩)))))), ?_⟩
  intro F0 ars post Q ⟨t, n, m, ea, ht, ep⟩ hQ
  subst ea ep
  walk_at "cx"
  have hz := sizeLine_eq
  have hnz := ht.nz
  refine' go_seq (go_set (r := rDK (rLn H rI)) (evn_op (q := rI) (y := 1) (f := fun z => z.2) (ev_callN (q := fun H => r2 (rL rI) (rDK (rLn H rI))) (r2_anti c_anti (rDK_anti (rLn_anti c_anti))) ?ha ?hS) ev_int (fun _ _ => o_ix21')) ?k)
  case ha => walk_at "ea"
  case hS =>
    intro ars ea
    rw [show ars = [sl rTab t] from ea]
    exact ⟨_, ⟨t, n, m, rfl, ht, rfl⟩, fun y hy => hy⟩
  case k =>
    rintro x ⟨y, ⟨e, he, hv, rfl⟩, rfl⟩
    walk_at "ls"
    refine' go_ret1 hQ (ev_frzN (ev_lcR (n := n) (fun s : Nat => dget (kv e) (Sum.inl (s : Int))) ?h1 (by omega) (fun _ _ _ => tw_name) ?h2)) ?hp rfl
    case h1 =>
      rw [← ht.rows]
      walk_at "ea"
    case h2 =>
      intro F1 Dd ys k hk
      walk_at "ls"
      refine' ev_dget1 nn_Ln ?a ?b
      case a => walk_at "ev"
      case b => walk_at "ev"
    case hp => exact ⟨e, he, hv, rfl⟩
end

end T

namespace T
open PySem PySem.Spec PyProof.Rows L2
local macro_rules | `(tactic| walk_at "side") => `(tactic| first | with_reducible assumption | omega | (dsimp only; omega) | exact CMul_l (by omega) (by omega) | exact CMul_r (by omega) (by omega) | (refine' (⟨?_, ?_⟩ : CDivN _ _) <;> omega) | (refine' (⟨?_, ?_, ?_⟩ : CPow _ _) <;> first | decide | omega) | (simp; done))
local macro_rules | `(tactic| walk_at "op") => `(tactic| first
  | ((with_reducible refine' oI0 (t := rI) ?c); (case c => exact fun _ => rfl))
  | ((with_reducible refine' oI0 (t := rB) ?c); (case c => exact fun _ => rfl))
  | ((with_reducible refine' oL (oI0 (t := rI) ?c)); (case c => exact fun _ => rfl))
  | ((with_reducible refine' oI (t := rI) ?c ?d); (case d => exact fun _ => rfl); (case c => walk_at "side"))
  | ((with_reducible refine' oL (oI (t := rI) ?c ?d)); (case d => exact fun _ => rfl); (case c => walk_at "side"))
  | with_reducible exact o_eqI | with_reducible exact oL o_eqI | with_reducible exact o_neI | with_reducible exact oL o_neI | with_reducible exact o_isN | with_reducible exact o_notN
  | with_reducible exact o_ix20' | with_reducible exact o_ix21' | with_reducible exact o_ix30' | with_reducible exact o_ix31' | with_reducible exact o_ix32'
  | ((with_reducible refine' o_ixL' ?s); (case s => walk_at "side"))
  | ((with_reducible refine' o_ixT' ?s); (case s => walk_at "side"))
  | ((with_reducible refine' o_ixQ' ?s); (case s => walk_at "side"))
  | ((with_reducible refine' o_ixM' ?h ?s); (case h => walk_at "mj"); (case s => walk_at "side"))
  | walk_at "op2")
local macro_rules | `(tactic| walk_at "mj") => `(tactic| first | exact mj0 | exact mj1 | exact mj2 | exact mj3)
local macro_rules | `(tactic| walk_at "ca") => `(tactic| first
  | with_reducible exact c_lenL | with_reducible exact c_lenT | with_reducible exact c_lenQ | ((with_reducible refine' c_lenM ?h); (case h => walk_at "mj")) | with_reducible exact c_int | with_reducible exact c_tupL | ((with_reducible refine' c_tupM ?h); (case h => walk_at "mj"))
  | with_reducible exact c_all | with_reducible exact c_max2 | with_reducible exact c_min2 | walk_at "ca2")
local macro_rules | `(tactic| walk_at "ea") => `(tactic| first
  | with_reducible exact ea_nil
  | ((with_reducible refine' ea_cons ?h1 ?h2); (case h1 => walk_at "ev"); (case h2 => walk_at "ea")))
local macro_rules | `(tactic| walk_at "ev") => `(tactic| first
  | ((with_reducible refine' ev_var ?h); (case h => exact rfl))
  | with_reducible exact ev_int | with_reducible exact ev_bl | with_reducible exact ev_non | with_reducible exact ev_str | with_reducible exact ev_val
  | with_reducible assumption
  | ((with_reducible refine' ev_op ?h1 ?h2 ?h3); (case h1 => walk_at "ev"); (case h2 => walk_at "ev"); (case h3 => walk_at "op"))
  | ((with_reducible refine' ev_ca ?h1 ?h2); (case h1 => walk_at "ea"); (case h2 => walk_at "ca"))
  | ((with_reducible refine' ev_neg ?h1); (case h1 => walk_at "ev"))
  | ((with_reducible refine' ev_chain ?h1 ?h2 ?h3 ?h4 ?h5); (case h1 => walk_at "ev"); (case h2 => walk_at "ev"); (case h3 => walk_at "op"); (case h4 => walk_at "ev"); (case h5 => walk_at "op"))
  | ((with_reducible refine' ev_tup2 ?h1); (case h1 => walk_at "ea"))
  | ((with_reducible refine' ev_tup3 ?h1); (case h1 => walk_at "ea"))
  | ((with_reducible refine' ev_notV ?h1); (case h1 => walk_at "ev"))
  | ((with_reducible refine' ev_andV ?h1 (fun _ => ?h2)); (case h1 => walk_at "ev"); (case h2 => walk_at "ev"))
  | ((with_reducible refine' ev_orV ?h1 (fun _ => ?h2)); (case h1 => walk_at "ev"); (case h2 => walk_at "ev"))
  | ((with_reducible refine' ev_frzL ?h1); (case h1 => walk_at "evm"))
  | walk_at "ev2")
local macro_rules | `(tactic| walk_at "et") => `(tactic| first
  | ((with_reducible refine' et_test ?h1); (case h1 => walk_at "ev"))
  | ((with_reducible refine' et_B ?h1); (case h1 => walk_at "ev"))
  | ((with_reducible refine' et_not ?h1); (case h1 => walk_at "et"))
  | ((with_reducible refine' et_and ?h1 (fun _ => ?h2)); (case h1 => walk_at "et"); (case h2 => walk_at "et"))
  | ((with_reducible refine' et_or ?h1 (fun _ => ?h2)); (case h1 => walk_at "et"); (case h2 => walk_at "et")))
local macro_rules | `(tactic| walk_at "ca2") => `(tactic| fail "ca2")
local macro_rules | `(tactic| walk_at "ca2") => `(tactic| first | with_reducible exact c_isi_ii | with_reducible exact c_isi_ib | with_reducible exact c_isi_ll | ((with_reducible refine' c_lenD ?h); (case h => walk_at "mj")))
local macro_rules | `(tactic| walk_at "op2") => `(tactic| fail "op2")
local macro_rules | `(tactic| walk_at "ev2") => `(tactic| fail "ev2")
local macro_rules | `(tactic| walk_at "evm2") => `(tactic| fail "evm2")
local macro_rules | `(tactic| walk_at "evm") => `(tactic| first
  | with_reducible exact ev_lst0 _
  | ((with_reducible refine' ev_lst1 ?h1); (case h1 => walk_at "ea"))
  | ((with_reducible refine' ev_lst2 ?h1); (case h1 => walk_at "ea"))
  | ((with_reducible refine' ev_lst3 ?h1); (case h1 => walk_at "ea"))
  | ((with_reducible refine' ev_lst4 ?h1); (case h1 => walk_at "ea"))
  | ((with_reducible refine' ev_lst5 ?h1); (case h1 => walk_at "ea"))
  | ((with_reducible refine' ev_lst6 ?h1); (case h1 => walk_at "ea"))
  | ((with_reducible refine' ev_lst7 ?h1); (case h1 => walk_at "ea"))
  | ((with_reducible refine' ev_lst8 ?h1); (case h1 => walk_at "ea"))
  | ((with_reducible refine' ev_opM ?h1 ?h2 (oRM (o_cat ?h3))); (case h1 => walk_at "ev"); (case h2 => walk_at "ev"); (case h3 => walk_at "side"))
  | walk_at "evm2")
local macro_rules | `(tactic| walk_at "cx") => `(tactic| dsimp only [cxOf, Cx.nox, Cx.wish, Cx.blk, List.map, List.cons_append, List.nil_append, List.append_nil, List.length_cons, List.length_nil, List.replicate, Nat.reduceSub, Nat.reduceAdd])
local macro_rules | `(tactic| walk_at "ls") => `(tactic| try dsimp only [List.set_cons_zero, List.set_cons_succ])
local macro_rules | `(tactic| walk_at "set") => `(tactic| (refine' go_seq (go_set1 ?h ?k); (case h => walk_at "ev"); walk_at "ls"))
local macro_rules | `(tactic| walk_at "set!") => `(tactic| (refine' go_set1 ?h ?k; (case h => walk_at "ev"); walk_at "ls"))
local macro_rules | `(tactic| walk_at "if") => `(tactic| (refine' go_seq (go_if ?c ?x ?y); (case c => walk_at "et")))
local macro_rules | `(tactic| walk_at "if!") => `(tactic| (refine' go_if ?c ?x ?y; (case c => walk_at "et")))
local macro_rules | `(tactic| walk_at "ret") => `(tactic| (refine' go_ret1 ?q ?h ?p ?e; (case e => exact rfl); (case q => assumption); (case h => walk_at "ev")))
local macro_rules | `(tactic| walk_at "nx") => `(tactic| (refine go_next ?_; try dsimp only))
local macro_rules | `(tactic| walk_at "sp") => `(tactic| fail "sp")
local macro_rules | `(tactic| walk_at "ev2") => `(tactic| ((with_reducible refine' ev_call1 ?h1 ?h2); (case h1 => walk_at "ea"); (case h2 => walk_at "sp")))
local macro_rules | `(tactic| walk_at "evm2") => `(tactic| ((with_reducible refine' ev_callM1 ?h1 ?h2); (case h1 => walk_at "ea"); (case h2 => walk_at "sp")))
local macro_rules | `(tactic| walk_at "setM") => `(tactic| (refine' go_seq (go_setM1 ?h ?k); (case h => walk_at "evm")))
local macro_rules | `(tactic| walk_at "setM!") => `(tactic| (refine' go_setM1 ?h ?k; (case h => walk_at "evm")))
local macro_rules | `(tactic| walk_at "app") => `(tactic| (refine' go_seq (go_app1 ?a ?b ?h ?z ?k); (case a => exact rfl); (case b => walk_at "mj"); (case h => walk_at "ev"); (case z => walk_at "sz"); walk_at "ls"))
local macro_rules | `(tactic| walk_at "app!") => `(tactic| (refine' go_app1 ?a ?b ?h ?z ?k; (case a => exact rfl); (case b => walk_at "mj"); (case h => walk_at "ev"); (case z => walk_at "sz"); walk_at "ls"))
local macro_rules | `(tactic| walk_at "sz") => `(tactic| (have hsz_ := sizeLine_eq; first | omega | (simp only [List.length_append, List.length_cons, List.length_nil, List.length_map, List.length_range]; omega)))
local macro_rules | `(tactic| walk_at "retV") => `(tactic| (refine' go_retV1 ?q ?a ?b ?p ?e; (case e => exact rfl); (case q => assumption); (case a => exact rfl); (case b => walk_at "mj")))
local macro_rules | `(tactic| walk_at "evm2") => `(tactic| ((with_reducible refine' ev_opM ?h1 ?h2 (oRM (o_rep ?h3 ?h4 ?h5))); (case h1 => walk_at "ev"); (case h2 => walk_at "ev"); (case h3 => walk_at "side"); (case h4 => walk_at "side"); (case h5 => walk_at "side")))
local macro_rules | `(tactic| walk_at "op2") => `(tactic| first | with_reducible exact o_eqLI | with_reducible exact o_neLI | with_reducible exact o_eqLLI | with_reducible exact o_neLLI | with_reducible exact o_inO)
local macro_rules | `(tactic| walk_at "ix") => `(tactic| first | exact mj0 | exact mj1 | exact mj2 | exact mj3 | exact mj4 | exact mj5 | exact mj6 | exact mj7 | exact mj8 | exact mj9 | exact mj10 | exact mj11 | exact mj12)
local macro_rules | `(tactic| walk_at "ev") => `(tactic| first | ((with_reducible refine' ev_varS ?s ?h); (case h => with_reducible walk_at "ix"); (case s => first | exact Same.refl _ | assumption)) | fail "no")
local macro_rules | `(tactic| walk_at "ev") => `(tactic| first | ((with_reducible refine' ev_varN ?h); (case h => with_reducible walk_at "ix")) | fail "no")
local macro_rules | `(tactic| walk_at "sp") => `(tactic| with_reducible exact S_ii_i)
local macro_rules | `(tactic| walk_at "sp") => `(tactic| ((with_reducible refine' S_parts_i ?a ?b); (case a => first | assumption | (simp; done)); (case b => first | assumption | (simp; done) | omega)))
local macro_rules | `(tactic| walk_at "sp") => `(tactic| ((with_reducible refine' S_far_i ?a); (case a => walk_at "side")))
local macro_rules | `(tactic| walk_at "sp") => `(tactic| ((with_reducible refine' S_step_i ?a ?b ?c ?d ?e); (case a => assumption); (case b => walk_at "side"); (case c => walk_at "side"); (case d => walk_at "side"); (case e => walk_at "side")))
local macro_rules | `(tactic| walk_at "sp") => `(tactic| ((with_reducible refine' S_lc_i ?a); (case a => assumption)))
local macro_rules | `(tactic| walk_at "sp") => `(tactic| ((with_reducible refine' S_sc_i ?a); (case a => assumption)))
local macro_rules | `(tactic| walk_at "sp") => `(tactic| ((with_reducible refine' S_cs_i ?a ?b); (case a => assumption); (case b => first | assumption | (simp; omega))))
local macro_rules | `(tactic| walk_at "sp") => `(tactic| ((with_reducible refine' S_run_i ?a ?b ?c ?d ?e); (case a => assumption); (case b => walk_at "side"); (case c => walk_at "side"); (case d => assumption); (case e => walk_at "side")))
local macro_rules | `(tactic| walk_at "sp") => `(tactic| ((with_reducible refine' S_ans_i ?a ?b); (case a => walk_at "side"); (case b => walk_at "side")))
local macro_rules | `(tactic| walk_at "sp") => `(tactic| ((with_reducible refine' S_table_i ?a ?b ?c ?d ?e ?f ?g); (case a => walk_at "side"); (case b => walk_at "side"); (case c => walk_at "side"); (case d => walk_at "side"); (case e => walk_at "side"); (case f => walk_at "side"); (case g => walk_at "side")))
local macro_rules | `(tactic| walk_at "sp") => `(tactic| ((with_reducible refine' S_iw_i ?a ?b ?c); (case a => assumption); (case b => assumption); (case c => walk_at "side")))
local macro_rules | `(tactic| walk_at "sp") => `(tactic| ((with_reducible refine' S_cw_i ?a ?b); (case a => assumption); (case b => assumption)))
local macro_rules | `(tactic| walk_at "sp") => `(tactic| ((with_reducible refine' S_sa_i ?a ?b ?c ?d ?e); (case a => assumption); (case b => walk_at "side"); (case c => walk_at "side"); (case d => assumption); (case e => walk_at "side")))
/-! ### _law_fewer, _law_before, _law_is_due -/
def S_fewer (ars : List Sl) (post : Tb → Prop) : Prop := ∃ (t : Tb) (c : Int) (n m : Nat), ars = [sl rTab t, sl rI c] ∧ Tok t n m ∧ post = fun y => Tok y n m
def S_before (ars : List Sl) (post : Bool → Prop) : Prop := ∃ (a b : List Int) (m : Nat), ars = [sl (rL rI) a, sl (rL rI) b] ∧ Wd m a ∧ Wd m b ∧ a.length ≤ 1000000 ∧ post = fun y => y = true → code m a < code m b
def S_isdue (ars : List Sl) (post : Bool → Prop) : Prop := ∃ (d : List (Option (List Int))), ars = [sl (rL (rO (rL rI))) d, sl (rL (rO (rL rI))) d] ∧ d.length ≤ 1000000 ∧ (∀ w, some w ∈ d → w.length ≤ 1000000) ∧ post = fun y => y = true
theorem S_isdue_i {d : List (Option (List Int))} (h : d.length ≤ 1000000) (h2 : ∀ w, some w ∈ d → w.length ≤ 1000000) : S_isdue [sl (rL (rO (rL rI))) d, sl (rL (rO (rL rI))) d] (fun y => y = true) := ⟨d, rfl, h, h2, rfl⟩
local macro_rules | `(tactic| walk_at "sp") => `(tactic| ((with_reducible refine' S_isdue_i ?a ?b); (case a => assumption); (case b => assumption)))
section
variable {P : Program} {w : World} {K : PySem.W.Frag} {mg : Str → Option Value} {base : Heap}
theorem ok_fewer (B : Bl mg) {f : Addr} {fd : FuncData} (F : Fun K "_law_fewer" "_law_fewer" s_law_fewer f fd) : FnOk P w K mg base CX0 1 f fd ["table", "cell"] (mkSp rTab S_fewer) := by
  refine def_ok F sc_law_fewer (fun _ _ ⟨_, _, _, _, h, _⟩ => by rw [h]; rfl) fun cdv A outer s H E hr => ?_
  refine ⟨_, (pss_cons (ps_if (pt_cmpR (op_neA hr.units) (pe_op op_modN (pe_callTy call_int1 (by rfl) B.bint (by decide +kernel) (pa_cons (pv 1) pa_nil)) pe_int) pe_int (nomark _))
        (pss_one (ps_ret (pv 0))) pss_nil)
      (pss_cons (ps_set (i := 2) sc_law_fewer.nd rfl (.inl rfl) (pe_lst pa_nil))
      (pss_cons (ps_for PassesOwn.never rfl (pi_range1 (by rfl) B.brange (pa_cons (pe_callB call_len (by rfl) B.blen PySem.boot_len (pa_cons (pe_ix ix_seq (pv 0) pe_int (fun _ _ => rfl)) pa_nil)) pa_nil)) (pg_name (i := 3) sc_law_fewer.nd rfl (.inl rfl))
        (pss_one (ps_expr (pe_bm PySem.F.plainAttrs_list PySem.F.slot_list_append PySem.F.type_list_append mt_append (pv 2) (pa_cons (pe_callTy call_tuple_of (by rfl) B.btuple (by decide +kernel) (pa_cons (pe_lc (own := [("pair", 4)]) rfl sc_law_fewer.nd (pi_seq (pe_ix ix_seq (pe_ix ix_seq (pv 0) pe_int (fun _ _ => rfl)) (pv 3) (fun _ _ => rfl))) (blkOk_by (N := N_law_fewer) (sc := defScope s_law_fewer) (by decide +kernel)) (fun _ _ _ _ _ => (pg_name (i := 4) sc_law_fewer.nd rfl (.inl rfl))) (fun _ _ _ _ _ => pts_nil) (fun _ _ _ _ _ => (pe_tup (pa_cons (pe_op op_fdivN (pe_ix (r := rIx K) ix_seq (pv 4) pe_int (fun _ _ => rfl)) pe_int) (pa_cons (pe_ix (r := rIx K) ix_seq (pv 4) pe_int (fun _ _ => rfl)) pa_nil))))) pa_nil)) pa_nil)))))
      (pss_one (ps_ret (pe_tup (pa_cons (pe_ix ix_seq (pv 0) pe_int (fun _ _ => rfl)) (pa_cons (pe_ix ix_seq (pv 0) pe_int (fun _ _ => rfl)) (pa_cons (pe_callTy call_tuple_of (by rfl) B.btuple (by decide +kernel) (pa_cons (pv 2) pa_nil)) pa_nil))))))))), ?_⟩
  intro F0 ars post Q ⟨t, c, n, m, ea, ht, ep⟩ hQ
  subst ea ep
  walk_at "cx"
  have hz := sizeLine_eq
  have hnz := ht.nz
  have hmm := ht.m64
  walk_at "if"
  case x =>
    intro _
    walk_at "ret"
    exact ht
  intro _
  walk_at "nx"
  refine go_seq (go_setM1 (ev_lst0 (rT (r2 rI rI))) fun p => ?_)
  walk_at "ls"
  refine' go_seq (go_range (ι := Nat) (n := t.2.2.length) (fun k b => b = k) (fun _ => [sl rTab t, sl rI c, sl rV (.ref p), s_, s_]) (fun k => [(p, mL (rT (r2 rI rI)) ((List.range k).map fun k : Nat => (row t (k : Int)).map fun z => (z.1.fdiv 2, z.2)))]) ?ea ?hn 0 (Wk.refl _) rfl rfl ?hs ?hd)
  case ea => walk_at "ea"
  case hn => rw [ht.rows]; omega
  case hd =>
    intro b hb
    subst hb
    walk_at "ls"
    refine' go_ret1 hQ (y := (t.1, t.2.1, (List.range t.2.2.length).map fun k : Nat => (row t (k : Int)).map fun z => (z.1.fdiv 2, z.2))) ?hrt ?prt rfl
    case hrt => walk_at "ev"
    case prt =>
      refine ⟨by show (List.map _ _).length = n; rw [List.length_map, List.length_range, ht.rows], fun r hr => ?_, fun r hr z hz => ?_, ht.i0, ht.i6, ht.mm, ht.n0, ht.nz⟩
      · obtain ⟨k, hk, e⟩ := List.mem_map.mp hr
        rw [List.mem_range, ht.rows] at hk
        rw [← e, List.length_map]
        exact row_len ht (by omega) (by omega)
      · obtain ⟨k, hk, e⟩ := List.mem_map.mp hr
        rw [List.mem_range, ht.rows] at hk
        rw [← e] at hz
        obtain ⟨z', hz', e⟩ := List.mem_map.mp hz
        rw [← e]
        have := ht.tg _ (row_mem ht (s := (k : Int)) (by omega) (by omega)) z' hz'
        show 0 ≤ z'.1.fdiv 2 ∧ z'.1.fdiv 2 < _
        rw [Int.fdiv_eq_ediv_of_nonneg _ (by decide)]
        omega
  case hs =>
    intro k b hk hb N hN
    subst hb
    walk_at "ls"
    rw [ht.rows] at hk
    have g := row_at ht (s := (b : Int)) (by omega) (by omega)
    have hrl := row_len ht (s := (b : Int)) (by omega) (by omega)
    have fin := hN (b + 1) rfl
    rw [List.range_succ, List.map_append] at fin
    refine' go_app1 rfl mj0 (x := (row t (b : Int)).map fun z => (z.1.fdiv 2, z.2)) ?h ?z ?k
    case h =>
      refine' ev_ca (ea_cons (ev_frzL (ev_lcTs (r := r2 rI rI) (xs := row t (b : Int)) (q := r2 rI rI) (fun z => (z.1.fdiv 2, z.2)) ?hl (by omega) (fun _ _ _ => tw_name) ?he)) ea_nil) c_tupL
      case hl => walk_at "ev"
      case he =>
        intro F1 Dd ys k x hx
        walk_at "ls"
        walk_at "ev"
    case z => walk_at "sz"
    case k =>
      walk_at "ls"
      exact Go.weak (.same (.same (.same (.drop (.drop .nil))))) fin
theorem ok_before (B : Bl mg) {f : Addr} {fd : FuncData} (F : Fun K "_law_before" "_law_before" s_law_before f fd) : FnOk P w K mg base CX0 1 f fd ["one", "other"] (mkSp rB S_before) := by
  refine def_ok F sc_law_before (fun _ _ ⟨_, _, _, h, _⟩ => by rw [h]; rfl) fun cdv A outer s H E hr => ?_
  refine ⟨_, (pss_cons (ps_if (pt_cmpR (op_neA hr.units) (pe_callB call_len (by rfl) B.blen PySem.boot_len (pa_cons (pv 0) pa_nil)) (pe_callB call_len (by rfl) B.blen PySem.boot_len (pa_cons (pv 1) pa_nil)) (nomark _))
        (pss_one (ps_ret (pe_cmpR op_lt (pe_callB call_len (by rfl) B.blen PySem.boot_len (pa_cons (pv 0) pa_nil)) (pe_callB call_len (by rfl) B.blen PySem.boot_len (pa_cons (pv 1) pa_nil)) (nomark _)))) pss_nil)
      (pss_cons (ps_for PassesOwn.never rfl (pi_range1 (by rfl) B.brange (pa_cons (pe_callB call_len (by rfl) B.blen PySem.boot_len (pa_cons (pv 0) pa_nil)) pa_nil)) (pg_name (i := 2) sc_law_before.nd rfl (.inl rfl))
        (pss_one (ps_if (pt_cmpR (op_neA hr.units) (pe_ix ix_seq (pv 0) (pv 2) (fun _ _ => rfl)) (pe_ix ix_seq (pv 1) (pv 2) (fun _ _ => rfl)) (nomark _))
          (pss_one (ps_ret (pe_cmpR op_lt (pe_ix ix_seq (pv 0) (pv 2) (fun _ _ => rfl)) (pe_ix ix_seq (pv 1) (pv 2) (fun _ _ => rfl)) (nomark _)))) pss_nil)))
      (pss_one (ps_ret pe_bl)))), ?_⟩
  intro F0 ars post Q ⟨a, b, m, ea, ha, hb, hl, ep⟩ hQ
  subst ea ep
  walk_at "cx"
  walk_at "if"
  case x =>
    intro _
    walk_at "ret"
    intro h
    have h := of_decide_eq_true h
    exact code_len (by omega) ha hb (by omega)
  intro hno
  have hlen : a.length = b.length := by
    simp at hno
    omega
  walk_at "nx"
  refine' go_seq (go_range (ι := Unit) (n := a.length) (fun k _ => a.take k = b.take k) (fun _ => [sl (rL rI) a, sl (rL rI) b, s_]) (fun _ => []) ?ea ?hn () (Wk.refl _) rfl rfl ?hs ?hd)
  case ea => walk_at "ea"
  case hn => omega
  case hd =>
    intro _ _
    walk_at "ls"
    refine' go_ret1 hQ ?h (y := false) ?hp rfl
    case h => walk_at "ev"
    case hp => exact fun h => by cases h
  case hs =>
    intro k _ hk he N hN
    walk_at "ls"
    have hkb : k < b.length := by omega
    have ga := List.getElem?_eq_getElem hk
    have gb := List.getElem?_eq_getElem hkb
    generalize a[k] = x at ga
    generalize b[k] = y at gb
    have g1 := atI_nat ga
    have g2 := atI_nat gb
    have cut : ∀ (l : List Int) (z : Int), l[k]? = some z → l = l.take k ++ z :: l.drop (k + 1) := fun l z h => by
      obtain ⟨h1, h2⟩ := List.getElem?_eq_some_iff.mp h
      rw [← h2, ← List.drop_eq_getElem_cons h1, List.take_append_drop]
    walk_at "if!"
    case x =>
      intro hne
      walk_at "ret"
      intro hlt
      have hlt := of_decide_eq_true hlt
      have ea := cut a x ga
      have eb := cut b y gb
      rw [ea, eb, he]
      rw [ea] at ha
      rw [eb] at hb
      refine code_lex (by omega) ha.right.tail hb.right.tail ?_ hlt
      rw [List.length_drop, List.length_drop, hlen]
    intro heq
    walk_at "nx"
    have exy : x = y := by simpa using heq
    have e2 : a.take (k + 1) = b.take (k + 1) := by rw [List.take_add_one, List.take_add_one, he, ga, gb, exy]
    exact Go.weak (.same (.same (.drop .nil))) (hN () e2)
end

end T

namespace T
open PySem PySem.Spec PyProof.Rows L2
local macro_rules | `(tactic| walk_at "side") => `(tactic| first | with_reducible assumption | omega | (dsimp only; omega) | exact CMul_l (by omega) (by omega) | exact CMul_r (by omega) (by omega) | (refine' (⟨?_, ?_⟩ : CDivN _ _) <;> omega) | (refine' (⟨?_, ?_, ?_⟩ : CPow _ _) <;> first | decide | omega) | (simp; done))
local macro_rules | `(tactic| walk_at "op") => `(tactic| first
  | ((with_reducible refine' oI0 (t := rI) ?c); (case c => exact fun _ => rfl))
  | ((with_reducible refine' oI0 (t := rB) ?c); (case c => exact fun _ => rfl))
  | ((with_reducible refine' oL (oI0 (t := rI) ?c)); (case c => exact fun _ => rfl))
  | ((with_reducible refine' oI (t := rI) ?c ?d); (case d => exact fun _ => rfl); (case c => walk_at "side"))
  | ((with_reducible refine' oL (oI (t := rI) ?c ?d)); (case d => exact fun _ => rfl); (case c => walk_at "side"))
  | with_reducible exact o_eqI | with_reducible exact oL o_eqI | with_reducible exact o_neI | with_reducible exact oL o_neI | with_reducible exact o_isN | with_reducible exact o_notN
  | with_reducible exact o_ix20' | with_reducible exact o_ix21' | with_reducible exact o_ix30' | with_reducible exact o_ix31' | with_reducible exact o_ix32'
  | ((with_reducible refine' o_ixL' ?s); (case s => walk_at "side"))
  | ((with_reducible refine' o_ixT' ?s); (case s => walk_at "side"))
  | ((with_reducible refine' o_ixQ' ?s); (case s => walk_at "side"))
  | ((with_reducible refine' o_ixM' ?h ?s); (case h => walk_at "mj"); (case s => walk_at "side"))
  | walk_at "op2")
local macro_rules | `(tactic| walk_at "mj") => `(tactic| first | exact mj0 | exact mj1 | exact mj2 | exact mj3)
local macro_rules | `(tactic| walk_at "ca") => `(tactic| first
  | with_reducible exact c_lenL | with_reducible exact c_lenT | with_reducible exact c_lenQ | ((with_reducible refine' c_lenM ?h); (case h => walk_at "mj")) | with_reducible exact c_int | with_reducible exact c_tupL | ((with_reducible refine' c_tupM ?h); (case h => walk_at "mj"))
  | with_reducible exact c_all | with_reducible exact c_max2 | with_reducible exact c_min2 | walk_at "ca2")
local macro_rules | `(tactic| walk_at "ea") => `(tactic| first
  | with_reducible exact ea_nil
  | ((with_reducible refine' ea_cons ?h1 ?h2); (case h1 => walk_at "ev"); (case h2 => walk_at "ea")))
local macro_rules | `(tactic| walk_at "ev") => `(tactic| first
  | ((with_reducible refine' ev_var ?h); (case h => exact rfl))
  | with_reducible exact ev_int | with_reducible exact ev_bl | with_reducible exact ev_non | with_reducible exact ev_str | with_reducible exact ev_val
  | with_reducible assumption
  | ((with_reducible refine' ev_op ?h1 ?h2 ?h3); (case h1 => walk_at "ev"); (case h2 => walk_at "ev"); (case h3 => walk_at "op"))
  | ((with_reducible refine' ev_ca ?h1 ?h2); (case h1 => walk_at "ea"); (case h2 => walk_at "ca"))
  | ((with_reducible refine' ev_neg ?h1); (case h1 => walk_at "ev"))
  | ((with_reducible refine' ev_chain ?h1 ?h2 ?h3 ?h4 ?h5); (case h1 => walk_at "ev"); (case h2 => walk_at "ev"); (case h3 => walk_at "op"); (case h4 => walk_at "ev"); (case h5 => walk_at "op"))
  | ((with_reducible refine' ev_tup2 ?h1); (case h1 => walk_at "ea"))
  | ((with_reducible refine' ev_tup3 ?h1); (case h1 => walk_at "ea"))
  | ((with_reducible refine' ev_notV ?h1); (case h1 => walk_at "ev"))
  | ((with_reducible refine' ev_andV ?h1 (fun _ => ?h2)); (case h1 => walk_at "ev"); (case h2 => walk_at "ev"))
  | ((with_reducible refine' ev_orV ?h1 (fun _ => ?h2)); (case h1 => walk_at "ev"); (case h2 => walk_at "ev"))
  | ((with_reducible refine' ev_frzL ?h1); (case h1 => walk_at "evm"))
  | walk_at "ev2")
local macro_rules | `(tactic| walk_at "et") => `(tactic| first
  | ((with_reducible refine' et_test ?h1); (case h1 => walk_at "ev"))
  | ((with_reducible refine' et_B ?h1); (case h1 => walk_at "ev"))
  | ((with_reducible refine' et_not ?h1); (case h1 => walk_at "et"))
  | ((with_reducible refine' et_and ?h1 (fun _ => ?h2)); (case h1 => walk_at "et"); (case h2 => walk_at "et"))
  | ((with_reducible refine' et_or ?h1 (fun _ => ?h2)); (case h1 => walk_at "et"); (case h2 => walk_at "et")))
local macro_rules | `(tactic| walk_at "ca2") => `(tactic| fail "ca2")
local macro_rules | `(tactic| walk_at "ca2") => `(tactic| first | with_reducible exact c_isi_ii | with_reducible exact c_isi_ib | with_reducible exact c_isi_ll | ((with_reducible refine' c_lenD ?h); (case h => walk_at "mj")))
local macro_rules | `(tactic| walk_at "op2") => `(tactic| fail "op2")
local macro_rules | `(tactic| walk_at "ev2") => `(tactic| fail "ev2")
local macro_rules | `(tactic| walk_at "evm2") => `(tactic| fail "evm2")
local macro_rules | `(tactic| walk_at "evm") => `(tactic| first
  | with_reducible exact ev_lst0 _
  | ((with_reducible refine' ev_lst1 ?h1); (case h1 => walk_at "ea"))
  | ((with_reducible refine' ev_lst2 ?h1); (case h1 => walk_at "ea"))
  | ((with_reducible refine' ev_lst3 ?h1); (case h1 => walk_at "ea"))
  | ((with_reducible refine' ev_lst4 ?h1); (case h1 => walk_at "ea"))
  | ((with_reducible refine' ev_lst5 ?h1); (case h1 => walk_at "ea"))
  | ((with_reducible refine' ev_lst6 ?h1); (case h1 => walk_at "ea"))
  | ((with_reducible refine' ev_lst7 ?h1); (case h1 => walk_at "ea"))
  | ((with_reducible refine' ev_lst8 ?h1); (case h1 => walk_at "ea"))
  | ((with_reducible refine' ev_opM ?h1 ?h2 (oRM (o_cat ?h3))); (case h1 => walk_at "ev"); (case h2 => walk_at "ev"); (case h3 => walk_at "side"))
  | walk_at "evm2")
local macro_rules | `(tactic| walk_at "cx") => `(tactic| dsimp only [cxOf, Cx.nox, Cx.wish, Cx.blk, List.map, List.cons_append, List.nil_append, List.append_nil, List.length_cons, List.length_nil, List.replicate, Nat.reduceSub, Nat.reduceAdd])
local macro_rules | `(tactic| walk_at "ls") => `(tactic| try dsimp only [List.set_cons_zero, List.set_cons_succ])
local macro_rules | `(tactic| walk_at "set") => `(tactic| (refine' go_seq (go_set1 ?h ?k); (case h => walk_at "ev"); walk_at "ls"))
local macro_rules | `(tactic| walk_at "set!") => `(tactic| (refine' go_set1 ?h ?k; (case h => walk_at "ev"); walk_at "ls"))
local macro_rules | `(tactic| walk_at "if") => `(tactic| (refine' go_seq (go_if ?c ?x ?y); (case c => walk_at "et")))
local macro_rules | `(tactic| walk_at "if!") => `(tactic| (refine' go_if ?c ?x ?y; (case c => walk_at "et")))
local macro_rules | `(tactic| walk_at "ret") => `(tactic| (refine' go_ret1 ?q ?h ?p ?e; (case e => exact rfl); (case q => assumption); (case h => walk_at "ev")))
local macro_rules | `(tactic| walk_at "nx") => `(tactic| (refine go_next ?_; try dsimp only))
local macro_rules | `(tactic| walk_at "sp") => `(tactic| fail "sp")
local macro_rules | `(tactic| walk_at "ev2") => `(tactic| ((with_reducible refine' ev_call1 ?h1 ?h2); (case h1 => walk_at "ea"); (case h2 => walk_at "sp")))
local macro_rules | `(tactic| walk_at "evm2") => `(tactic| ((with_reducible refine' ev_callM1 ?h1 ?h2); (case h1 => walk_at "ea"); (case h2 => walk_at "sp")))
local macro_rules | `(tactic| walk_at "setM") => `(tactic| (refine' go_seq (go_setM1 ?h ?k); (case h => walk_at "evm")))
local macro_rules | `(tactic| walk_at "setM!") => `(tactic| (refine' go_setM1 ?h ?k; (case h => walk_at "evm")))
local macro_rules | `(tactic| walk_at "app") => `(tactic| (refine' go_seq (go_app1 ?a ?b ?h ?z ?k); (case a => exact rfl); (case b => walk_at "mj"); (case h => walk_at "ev"); (case z => walk_at "sz"); walk_at "ls"))
local macro_rules | `(tactic| walk_at "app!") => `(tactic| (refine' go_app1 ?a ?b ?h ?z ?k; (case a => exact rfl); (case b => walk_at "mj"); (case h => walk_at "ev"); (case z => walk_at "sz"); walk_at "ls"))
local macro_rules | `(tactic| walk_at "sz") => `(tactic| (have hsz_ := sizeLine_eq; first | omega | (simp only [List.length_append, List.length_cons, List.length_nil, List.length_map, List.length_range]; omega)))
local macro_rules | `(tactic| walk_at "retV") => `(tactic| (refine' go_retV1 ?q ?a ?b ?p ?e; (case e => exact rfl); (case q => assumption); (case a => exact rfl); (case b => walk_at "mj")))
local macro_rules | `(tactic| walk_at "evm2") => `(tactic| ((with_reducible refine' ev_opM ?h1 ?h2 (oRM (o_rep ?h3 ?h4 ?h5))); (case h1 => walk_at "ev"); (case h2 => walk_at "ev"); (case h3 => walk_at "side"); (case h4 => walk_at "side"); (case h5 => walk_at "side")))
local macro_rules | `(tactic| walk_at "op2") => `(tactic| first | with_reducible exact o_eqLI | with_reducible exact o_neLI | with_reducible exact o_eqLLI | with_reducible exact o_neLLI | with_reducible exact o_inO)
local macro_rules | `(tactic| walk_at "ix") => `(tactic| first | exact mj0 | exact mj1 | exact mj2 | exact mj3 | exact mj4 | exact mj5 | exact mj6 | exact mj7 | exact mj8 | exact mj9 | exact mj10 | exact mj11 | exact mj12)
local macro_rules | `(tactic| walk_at "ev") => `(tactic| first | ((with_reducible refine' ev_varS ?s ?h); (case h => with_reducible walk_at "ix"); (case s => first | exact Same.refl _ | assumption)) | fail "no")
local macro_rules | `(tactic| walk_at "ev") => `(tactic| first | ((with_reducible refine' ev_varN ?h); (case h => with_reducible walk_at "ix")) | fail "no")
local macro_rules | `(tactic| walk_at "sp") => `(tactic| with_reducible exact S_ii_i)
local macro_rules | `(tactic| walk_at "sp") => `(tactic| ((with_reducible refine' S_parts_i ?a ?b); (case a => first | assumption | (simp; done)); (case b => first | assumption | (simp; done) | omega)))
local macro_rules | `(tactic| walk_at "sp") => `(tactic| ((with_reducible refine' S_far_i ?a); (case a => walk_at "side")))
local macro_rules | `(tactic| walk_at "sp") => `(tactic| ((with_reducible refine' S_step_i ?a ?b ?c ?d ?e); (case a => assumption); (case b => walk_at "side"); (case c => walk_at "side"); (case d => walk_at "side"); (case e => walk_at "side")))
local macro_rules | `(tactic| walk_at "sp") => `(tactic| ((with_reducible refine' S_lc_i ?a); (case a => assumption)))
local macro_rules | `(tactic| walk_at "sp") => `(tactic| ((with_reducible refine' S_sc_i ?a); (case a => assumption)))
local macro_rules | `(tactic| walk_at "sp") => `(tactic| ((with_reducible refine' S_cs_i ?a ?b); (case a => assumption); (case b => first | assumption | (simp; omega))))
local macro_rules | `(tactic| walk_at "sp") => `(tactic| ((with_reducible refine' S_run_i ?a ?b ?c ?d ?e); (case a => assumption); (case b => walk_at "side"); (case c => walk_at "side"); (case d => assumption); (case e => walk_at "side")))
local macro_rules | `(tactic| walk_at "sp") => `(tactic| ((with_reducible refine' S_ans_i ?a ?b); (case a => walk_at "side"); (case b => walk_at "side")))
local macro_rules | `(tactic| walk_at "sp") => `(tactic| ((with_reducible refine' S_table_i ?a ?b ?c ?d ?e ?f ?g); (case a => walk_at "side"); (case b => walk_at "side"); (case c => walk_at "side"); (case d => walk_at "side"); (case e => walk_at "side"); (case f => walk_at "side"); (case g => walk_at "side")))
local macro_rules | `(tactic| walk_at "sp") => `(tactic| ((with_reducible refine' S_iw_i ?a ?b ?c); (case a => assumption); (case b => assumption); (case c => walk_at "side")))
local macro_rules | `(tactic| walk_at "sp") => `(tactic| ((with_reducible refine' S_cw_i ?a ?b); (case a => assumption); (case b => assumption)))
local macro_rules | `(tactic| walk_at "sp") => `(tactic| ((with_reducible refine' S_sa_i ?a ?b ?c ?d ?e); (case a => assumption); (case b => walk_at "side"); (case c => walk_at "side"); (case d => assumption); (case e => walk_at "side")))
local macro_rules | `(tactic| walk_at "sp") => `(tactic| ((with_reducible refine' S_isdue_i ?a ?b); (case a => assumption); (case b => assumption)))
section
variable {P : Program} {w : World} {K : PySem.W.Frag} {mg : Str → Option Value} {base : Heap}
theorem ok_is_due (B : Bl mg) (d_law_is_integer : Df P w K mg base "_law_is_integer" ["actual"] (mkSp rB S_ii) 1) {f : Addr} {fd : FuncData} (F : Fun K "_law_is_due" "_law_is_due" s_law_is_due f fd) :
    FnOk P w K mg base CX0 2 f fd ["told", "due"] (mkSp rB S_isdue) := by
  refine def_ok F sc_law_is_due (fun _ _ ⟨_, h, _⟩ => by rw [h]; rfl) fun cdv A outer s H E hr => ?_
  refine ⟨_, (pss_cons (ps_if (PW.pt (pw_or (pt_not (pt_val (pe_callB call_isi (by rfl) B.bisinstance (by decide +kernel) (pa_cons (pv 0) (pa_cons (pe_bltn (v := .ty "list") (by rfl) B.blist (by decide +kernel) rfl) pa_nil))))) (pw_or1 (pt_cmpR (op_neA hr.units) (pe_callB call_len (by rfl) B.blen PySem.boot_len (pa_cons (pv 0) pa_nil)) (pe_callB call_len (by rfl) B.blen PySem.boot_len (pa_cons (pv 1) pa_nil)) (nomark _)))))
        (pss_one (ps_ret pe_bl)) pss_nil)
      (pss_cons (ps_for PassesOwn.never rfl (pi_range1 (by rfl) B.brange (pa_cons (pe_callB call_len (by rfl) B.blen PySem.boot_len (pa_cons (pv 1) pa_nil)) pa_nil)) (pg_name (i := 2) sc_law_is_due.nd rfl (.inl rfl))
        (pss_one (ps_if (pt_cmpR op_isN (pe_ix ix_seq (pv 1) (pv 2) (fun _ _ => rfl)) pe_non (nomark _))
          (pss_one (ps_if (pt_cmpR op_notN (pe_ix ix_seq (pv 0) (pv 2) (fun _ _ => rfl)) pe_non (nomark _))
            (pss_one (ps_ret pe_bl)) pss_nil)) (pss_one (ps_if (PW.pt (pw_or (pt_not (pt_val (pe_callB call_isi (by rfl) B.bisinstance (by decide +kernel) (pa_cons (pe_ix ix_seq (pv 0) (pv 2) (fun _ _ => rfl)) (pa_cons (pe_bltn (v := .ty "list") (by rfl) B.blist (by decide +kernel) rfl) pa_nil))))) (pw_or1 (pt_not (pt_val (pe_callB (cr_all rfl) (by rfl) B.ball (by decide +kernel) (pa_cons (pe_lc (own := [("item", 3)]) rfl sc_law_is_due.nd (pi_seq (pe_ix ix_seq (pv 0) (pv 2) (fun _ _ => rfl))) (blkOk_by (N := N_law_is_due) (sc := defScope s_law_is_due) (by decide +kernel)) (fun _ _ _ _ _ => (pg_name (i := 3) sc_law_is_due.nd rfl (.inl rfl))) (fun _ _ _ _ _ => pts_nil) (fun _ _ _ _ _ => (pe_df d_law_is_integer hr (by decide) rfl (pa_cons (pv 3) pa_nil)))) pa_nil)))))))
            (pss_one (ps_ret pe_bl)) (pss_one (ps_if (pt_cmpR (op_neA hr.units) (pe_ix ix_seq (pv 0) (pv 2) (fun _ _ => rfl)) (pe_ix ix_seq (pv 1) (pv 2) (fun _ _ => rfl)) (nomark _))
              (pss_one (ps_ret pe_bl)) pss_nil)))))))
      (pss_one (ps_ret pe_bl)))), ?_⟩
  intro F0 ars post Q ⟨d, ea, hl, hw, ep⟩ hQ
  subst ea ep
  walk_at "cx"
  have hz := sizeLine_eq
  walk_at "if"
  case x =>
    intro h
    simp at h
  intro _
  walk_at "nx"
  refine' go_seq (go_range (ι := Unit) (n := d.length) (fun k _ => True) (fun _ => [sl (rL (rO (rL rI))) d, sl (rL (rO (rL rI))) d, s_, s_]) (fun _ => []) ?ea ?hn () (Wk.refl _) rfl trivial ?hs ?hd)
  case ea => walk_at "ea"
  case hn => omega
  case hd =>
    intro _ _
    walk_at "ls"
    walk_at "ret"
    rfl
  case hs =>
    intro k _ hk _ N hN
    walk_at "ls"
    have fin : Go F0 H [sl (rL (rO (rL rI))) d, sl (rL (rO (rL rI))) d, sl rI (k : Int), s_] [] N := Go.weak (.same (.same (.drop (.same .nil)))) (hN () trivial)
    have gd := List.getElem?_eq_getElem hk
    generalize d[k] = o at gd
    have g := atI_nat gd
    walk_at "if!"
    case x =>
      intro hy
      walk_at "if!"
      case x =>
        intro hy2
        cases o with
        | none => cases hy2
        | some _ => cases hy
      intro _
      walk_at "nx"
      exact fin
    intro hn
    cases o with
    | none => cases hn
    | some v =>
      have hvl := hw v (List.mem_of_getElem? gd)
      have e0 : ∀ F0 H M (L : List Sl), L[0]? = some (sl (rL (rO (rL rI))) d) → L[2]? = some (sl rI (k : Int)) → Ev F0 H L M (tOp (rIx K) (tVar 0) (tVar 2)) (rL rI) v := fun F0 H M L h0 h2 => Evn.rel (ev_op (ev_var h0) (ev_var h2) (o_ixL' g)) fun x F u p kk => by
        rw [show x = some v from p] at kk
        exact ⟨v, rfl, kk.2⟩
      have e1 : ∀ F0 H M (L : List Sl), L[1]? = some (sl (rL (rO (rL rI))) d) → L[2]? = some (sl rI (k : Int)) → Ev F0 H L M (tOp (rIx K) (tVar 1) (tVar 2)) (rL rI) v := fun F0 H M L h0 h2 => Evn.rel (ev_op (ev_var h0) (ev_var h2) (o_ixL' g)) fun x F u p kk => by
        rw [show x = some v from p] at kk
        exact ⟨v, rfl, kk.2⟩
      have e0' := e0 F0 H [] [sl (rL (rO (rL rI))) d, sl (rL (rO (rL rI))) d, sl rI (k : Int), s_] rfl rfl
      have e1' := e1 F0 H [] [sl (rL (rO (rL rI))) d, sl (rL (rO (rL rI))) d, sl rI (k : Int), s_] rfl rfl
      refine' go_if (b := !true || !((v.map fun _ => true).all id)) ?c ?x ?y
      case c =>
        refine' et_or (et_not (et_B (ev_ca (ea_cons e0' (ea_cons ev_val ea_nil)) (c_isiL (by decide +kernel))))) (fun _ => et_not (et_B (ev_ca (ea_cons (ev_frzL (ev_lcLs (r := rI) (xs := v) (q := rB) (fun _ => true) e0' (by omega) (fun _ _ _ => tw_name) ?he)) ea_nil) c_all)))
        case he =>
          intro F1 Dd ys k x hx
          walk_at "ls"
          walk_at "ev"
      case x =>
        intro h
        exfalso
        have : (v.map fun _ => true).all id = true := by
          rw [List.all_map, List.all_eq_true]
          intro _ _
          rfl
        rw [this] at h
        cases h
      case y =>
        intro _
        refine' go_if (b := !decide (v = v)) ?c2 ?x2 ?y2
        case c2 => exact et_test (ev_op e0' e1' o_neLI)
        case x2 =>
          intro h
          simp at h
        case y2 =>
          intro _
          walk_at "nx"
          exact fin
end

end T

namespace T
open PySem PySem.Spec PyProof.Rows L2
local macro_rules | `(tactic| walk_at "side") => `(tactic| first | with_reducible assumption | omega | (dsimp only; omega) | exact CMul_l (by omega) (by omega) | exact CMul_r (by omega) (by omega) | (refine' (⟨?_, ?_⟩ : CDivN _ _) <;> omega) | (refine' (⟨?_, ?_, ?_⟩ : CPow _ _) <;> first | decide | omega) | (simp; done))
local macro_rules | `(tactic| walk_at "op") => `(tactic| first
  | ((with_reducible refine' oI0 (t := rI) ?c); (case c => exact fun _ => rfl))
  | ((with_reducible refine' oI0 (t := rB) ?c); (case c => exact fun _ => rfl))
  | ((with_reducible refine' oL (oI0 (t := rI) ?c)); (case c => exact fun _ => rfl))
  | ((with_reducible refine' oI (t := rI) ?c ?d); (case d => exact fun _ => rfl); (case c => walk_at "side"))
  | ((with_reducible refine' oL (oI (t := rI) ?c ?d)); (case d => exact fun _ => rfl); (case c => walk_at "side"))
  | with_reducible exact o_eqI | with_reducible exact oL o_eqI | with_reducible exact o_neI | with_reducible exact oL o_neI | with_reducible exact o_isN | with_reducible exact o_notN
  | with_reducible exact o_ix20' | with_reducible exact o_ix21' | with_reducible exact o_ix30' | with_reducible exact o_ix31' | with_reducible exact o_ix32'
  | ((with_reducible refine' o_ixL' ?s); (case s => walk_at "side"))
  | ((with_reducible refine' o_ixT' ?s); (case s => walk_at "side"))
  | ((with_reducible refine' o_ixQ' ?s); (case s => walk_at "side"))
  | ((with_reducible refine' o_ixM' ?h ?s); (case h => walk_at "mj"); (case s => walk_at "side"))
  | walk_at "op2")
local macro_rules | `(tactic| walk_at "mj") => `(tactic| first | exact mj0 | exact mj1 | exact mj2 | exact mj3)
local macro_rules | `(tactic| walk_at "ca") => `(tactic| first
  | with_reducible exact c_lenL | with_reducible exact c_lenT | with_reducible exact c_lenQ | ((with_reducible refine' c_lenM ?h); (case h => walk_at "mj")) | with_reducible exact c_int | with_reducible exact c_tupL | ((with_reducible refine' c_tupM ?h); (case h => walk_at "mj"))
  | with_reducible exact c_all | with_reducible exact c_max2 | with_reducible exact c_min2 | walk_at "ca2")
local macro_rules | `(tactic| walk_at "ea") => `(tactic| first
  | with_reducible exact ea_nil
  | ((with_reducible refine' ea_cons ?h1 ?h2); (case h1 => walk_at "ev"); (case h2 => walk_at "ea")))
local macro_rules | `(tactic| walk_at "ev") => `(tactic| first
  | ((with_reducible refine' ev_var ?h); (case h => exact rfl))
  | with_reducible exact ev_int | with_reducible exact ev_bl | with_reducible exact ev_non | with_reducible exact ev_str | with_reducible exact ev_val
  | with_reducible assumption
  | ((with_reducible refine' ev_op ?h1 ?h2 ?h3); (case h1 => walk_at "ev"); (case h2 => walk_at "ev"); (case h3 => walk_at "op"))
  | ((with_reducible refine' ev_ca ?h1 ?h2); (case h1 => walk_at "ea"); (case h2 => walk_at "ca"))
  | ((with_reducible refine' ev_neg ?h1); (case h1 => walk_at "ev"))
  | ((with_reducible refine' ev_chain ?h1 ?h2 ?h3 ?h4 ?h5); (case h1 => walk_at "ev"); (case h2 => walk_at "ev"); (case h3 => walk_at "op"); (case h4 => walk_at "ev"); (case h5 => walk_at "op"))
  | ((with_reducible refine' ev_tup2 ?h1); (case h1 => walk_at "ea"))
  | ((with_reducible refine' ev_tup3 ?h1); (case h1 => walk_at "ea"))
  | ((with_reducible refine' ev_notV ?h1); (case h1 => walk_at "ev"))
  | ((with_reducible refine' ev_andV ?h1 (fun _ => ?h2)); (case h1 => walk_at "ev"); (case h2 => walk_at "ev"))
  | ((with_reducible refine' ev_orV ?h1 (fun _ => ?h2)); (case h1 => walk_at "ev"); (case h2 => walk_at "ev"))
  | ((with_reducible refine' ev_frzL ?h1); (case h1 => walk_at "evm"))
  | walk_at "ev2")
local macro_rules | `(tactic| walk_at "et") => `(tactic| first
  | ((with_reducible refine' et_test ?h1); (case h1 => walk_at "ev"))
  | ((with_reducible refine' et_B ?h1); (case h1 => walk_at "ev"))
  | ((with_reducible refine' et_not ?h1); (case h1 => walk_at "et"))
  | ((with_reducible refine' et_and ?h1 (fun _ => ?h2)); (case h1 => walk_at "et"); (case h2 => walk_at "et"))
  | ((with_reducible refine' et_or ?h1 (fun _ => ?h2)); (case h1 => walk_at "et"); (case h2 => walk_at "et")))
local macro_rules | `(tactic| walk_at "ca2") => `(tactic| fail "ca2")
local macro_rules | `(tactic| walk_at "ca2") => `(tactic| first | with_reducible exact c_isi_ii | with_reducible exact c_isi_ib | with_reducible exact c_isi_ll | ((with_reducible refine' c_lenD ?h); (case h => walk_at "mj")))
local macro_rules | `(tactic| walk_at "op2") => `(tactic| fail "op2")
local macro_rules | `(tactic| walk_at "ev2") => `(tactic| fail "ev2")
local macro_rules | `(tactic| walk_at "evm2") => `(tactic| fail "evm2")
local macro_rules | `(tactic| walk_at "evm") => `(tactic| first
  | with_reducible exact ev_lst0 _
  | ((with_reducible refine' ev_lst1 ?h1); (case h1 => walk_at "ea"))
  | ((with_reducible refine' ev_lst2 ?h1); (case h1 => walk_at "ea"))
  | ((with_reducible refine' ev_lst3 ?h1); (case h1 => walk_at "ea"))
  | ((with_reducible refine' ev_lst4 ?h1); (case h1 => walk_at "ea"))
  | ((with_reducible refine' ev_lst5 ?h1); (case h1 => walk_at "ea"))
  | ((with_reducible refine' ev_lst6 ?h1); (case h1 => walk_at "ea"))
  | ((with_reducible refine' ev_lst7 ?h1); (case h1 => walk_at "ea"))
  | ((with_reducible refine' ev_lst8 ?h1); (case h1 => walk_at "ea"))
  | ((with_reducible refine' ev_opM ?h1 ?h2 (oRM (o_cat ?h3))); (case h1 => walk_at "ev"); (case h2 => walk_at "ev"); (case h3 => walk_at "side"))
  | walk_at "evm2")
local macro_rules | `(tactic| walk_at "cx") => `(tactic| dsimp only [cxOf, Cx.nox, Cx.wish, Cx.blk, List.map, List.cons_append, List.nil_append, List.append_nil, List.length_cons, List.length_nil, List.replicate, Nat.reduceSub, Nat.reduceAdd])
local macro_rules | `(tactic| walk_at "ls") => `(tactic| try dsimp only [List.set_cons_zero, List.set_cons_succ])
local macro_rules | `(tactic| walk_at "set") => `(tactic| (refine' go_seq (go_set1 ?h ?k); (case h => walk_at "ev"); walk_at "ls"))
local macro_rules | `(tactic| walk_at "set!") => `(tactic| (refine' go_set1 ?h ?k; (case h => walk_at "ev"); walk_at "ls"))
local macro_rules | `(tactic| walk_at "if") => `(tactic| (refine' go_seq (go_if ?c ?x ?y); (case c => walk_at "et")))
local macro_rules | `(tactic| walk_at "if!") => `(tactic| (refine' go_if ?c ?x ?y; (case c => walk_at "et")))
local macro_rules | `(tactic| walk_at "ret") => `(tactic| (refine' go_ret1 ?q ?h ?p ?e; (case e => exact rfl); (case q => assumption); (case h => walk_at "ev")))
local macro_rules | `(tactic| walk_at "nx") => `(tactic| (refine go_next ?_; try dsimp only))
local macro_rules | `(tactic| walk_at "sp") => `(tactic| fail "sp")
local macro_rules | `(tactic| walk_at "ev2") => `(tactic| ((with_reducible refine' ev_call1 ?h1 ?h2); (case h1 => walk_at "ea"); (case h2 => walk_at "sp")))
local macro_rules | `(tactic| walk_at "evm2") => `(tactic| ((with_reducible refine' ev_callM1 ?h1 ?h2); (case h1 => walk_at "ea"); (case h2 => walk_at "sp")))
local macro_rules | `(tactic| walk_at "setM") => `(tactic| (refine' go_seq (go_setM1 ?h ?k); (case h => walk_at "evm")))
local macro_rules | `(tactic| walk_at "setM!") => `(tactic| (refine' go_setM1 ?h ?k; (case h => walk_at "evm")))
local macro_rules | `(tactic| walk_at "app") => `(tactic| (refine' go_seq (go_app1 ?a ?b ?h ?z ?k); (case a => exact rfl); (case b => walk_at "mj"); (case h => walk_at "ev"); (case z => walk_at "sz"); walk_at "ls"))
local macro_rules | `(tactic| walk_at "app!") => `(tactic| (refine' go_app1 ?a ?b ?h ?z ?k; (case a => exact rfl); (case b => walk_at "mj"); (case h => walk_at "ev"); (case z => walk_at "sz"); walk_at "ls"))
local macro_rules | `(tactic| walk_at "sz") => `(tactic| (have hsz_ := sizeLine_eq; first | omega | (simp only [List.length_append, List.length_cons, List.length_nil, List.length_map, List.length_range]; omega)))
local macro_rules | `(tactic| walk_at "retV") => `(tactic| (refine' go_retV1 ?q ?a ?b ?p ?e; (case e => exact rfl); (case q => assumption); (case a => exact rfl); (case b => walk_at "mj")))
local macro_rules | `(tactic| walk_at "evm2") => `(tactic| ((with_reducible refine' ev_opM ?h1 ?h2 (oRM (o_rep ?h3 ?h4 ?h5))); (case h1 => walk_at "ev"); (case h2 => walk_at "ev"); (case h3 => walk_at "side"); (case h4 => walk_at "side"); (case h5 => walk_at "side")))
local macro_rules | `(tactic| walk_at "op2") => `(tactic| first | with_reducible exact o_eqLI | with_reducible exact o_neLI | with_reducible exact o_eqLLI | with_reducible exact o_neLLI | with_reducible exact o_inO)
local macro_rules | `(tactic| walk_at "ix") => `(tactic| first | exact mj0 | exact mj1 | exact mj2 | exact mj3 | exact mj4 | exact mj5 | exact mj6 | exact mj7 | exact mj8 | exact mj9 | exact mj10 | exact mj11 | exact mj12)
local macro_rules | `(tactic| walk_at "ev") => `(tactic| first | ((with_reducible refine' ev_varS ?s ?h); (case h => with_reducible walk_at "ix"); (case s => first | exact Same.refl _ | assumption)) | fail "no")
local macro_rules | `(tactic| walk_at "ev") => `(tactic| first | ((with_reducible refine' ev_varN ?h); (case h => with_reducible walk_at "ix")) | fail "no")
local macro_rules | `(tactic| walk_at "sp") => `(tactic| with_reducible exact S_ii_i)
local macro_rules | `(tactic| walk_at "sp") => `(tactic| ((with_reducible refine' S_parts_i ?a ?b); (case a => first | assumption | (simp; done)); (case b => first | assumption | (simp; done) | omega)))
local macro_rules | `(tactic| walk_at "sp") => `(tactic| ((with_reducible refine' S_far_i ?a); (case a => walk_at "side")))
local macro_rules | `(tactic| walk_at "sp") => `(tactic| ((with_reducible refine' S_step_i ?a ?b ?c ?d ?e); (case a => assumption); (case b => walk_at "side"); (case c => walk_at "side"); (case d => walk_at "side"); (case e => walk_at "side")))
local macro_rules | `(tactic| walk_at "sp") => `(tactic| ((with_reducible refine' S_lc_i ?a); (case a => assumption)))
local macro_rules | `(tactic| walk_at "sp") => `(tactic| ((with_reducible refine' S_sc_i ?a); (case a => assumption)))
local macro_rules | `(tactic| walk_at "sp") => `(tactic| ((with_reducible refine' S_cs_i ?a ?b); (case a => assumption); (case b => first | assumption | (simp; omega))))
local macro_rules | `(tactic| walk_at "sp") => `(tactic| ((with_reducible refine' S_run_i ?a ?b ?c ?d ?e); (case a => assumption); (case b => walk_at "side"); (case c => walk_at "side"); (case d => assumption); (case e => walk_at "side")))
local macro_rules | `(tactic| walk_at "sp") => `(tactic| ((with_reducible refine' S_ans_i ?a ?b); (case a => walk_at "side"); (case b => walk_at "side")))
local macro_rules | `(tactic| walk_at "sp") => `(tactic| ((with_reducible refine' S_table_i ?a ?b ?c ?d ?e ?f ?g); (case a => walk_at "side"); (case b => walk_at "side"); (case c => walk_at "side"); (case d => walk_at "side"); (case e => walk_at "side"); (case f => walk_at "side"); (case g => walk_at "side")))
local macro_rules | `(tactic| walk_at "sp") => `(tactic| ((with_reducible refine' S_iw_i ?a ?b ?c); (case a => assumption); (case b => assumption); (case c => walk_at "side")))
local macro_rules | `(tactic| walk_at "sp") => `(tactic| ((with_reducible refine' S_cw_i ?a ?b); (case a => assumption); (case b => assumption)))
local macro_rules | `(tactic| walk_at "sp") => `(tactic| ((with_reducible refine' S_sa_i ?a ?b ?c ?d ?e); (case a => assumption); (case b => walk_at "side"); (case c => walk_at "side"); (case d => assumption); (case e => walk_at "side")))
local macro_rules | `(tactic| walk_at "sp") => `(tactic| ((with_reducible refine' S_isdue_i ?a ?b); (case a => assumption); (case b => assumption)))
/-! ### _law_left, _law_due -/
def S_left (ars : List Sl) (post : List (Key × Int) → Prop) : Prop := ∃ (t : Tb) (a : Int) (n m : Nat), ars = [sl rTab t, sl rI a] ∧ Tok t n m ∧ 0 ≤ a ∧ a < n ∧ post = fun y => ∃ L, Lfull t n m (fun s => s = a) L ∧ y = kv L
def S_due (ars : List Sl) (post : Option (List Int) → Prop) : Prop := ∃ (t : Tb) (a : Int) (n m : Nat), ars = [sl rTab t, sl rI a] ∧ Tok t n m ∧ 0 ≤ a ∧ a < n ∧ post = fun y => DueOk t m (fun s => s = a) y
section
variable {P : Program} {w : World} {K : PySem.W.Frag} {mg : Str → Option Value} {base : Heap}
theorem ok_left (B : Bl mg) {f : Addr} {fd : FuncData} (F : Fun K "_law_left" "_law_left" s_law_left f fd) : FnOk P w K mg base CX0 1 f fd ["table", "target"] (mkSp (rDK rI) S_left) := by
  refine def_ok F sc_law_left (fun _ _ ⟨_, _, _, _, h, _⟩ => by rw [h]; rfl) fun cdv A outer s H E hr => ?_
  refine ⟨_, (pss_cons (ps_set (i := 2) sc_law_left.nd rfl (.inr rfl) (pe_disp (pps_cons (pv 1) pe_int pps_nil) (by rfl) (by rfl) (fun z => by cases z) (by decide)))
      (pss_cons (ps_for PassesOwn.never rfl (pi_range1 (by rfl) B.brange (pa_cons (pe_callB call_len (by rfl) B.blen PySem.boot_len (pa_cons (pe_ix ix_seq (pv 0) pe_int (fun _ _ => rfl)) pa_nil)) pa_nil)) (pg_name (i := 3) sc_law_left.nd rfl (.inl rfl))
        (pss_cons (ps_set (i := 4) sc_law_left.nd rfl (.inl rfl) (pe_callB call_lenD (by rfl) B.blen PySem.boot_len (pa_cons (pv 2) pa_nil)))
        (pss_cons (ps_for PassesOwn.never rfl (pi_range1 (by rfl) B.brange (pa_cons (pe_callB call_len (by rfl) B.blen PySem.boot_len (pa_cons (pe_ix ix_seq (pv 0) pe_int (fun _ _ => rfl)) pa_nil)) pa_nil)) (pg_name (i := 5) sc_law_left.nd rfl (.inl rfl))
          (pss_one (ps_if (PW.pt (pw_and (pt_cmp (pc_dnotin (hu_of hr) (pv 5) (pv 2)) rfl) (pw_and1 (pt_cmpR op_in_seq (pv 3) (pe_lc (own := [("pair", 6)]) rfl sc_law_left.nd (pi_seq (pe_ix ix_seq (pe_ix ix_seq (pv 0) pe_int (fun _ _ => rfl)) (pv 5) (fun _ _ => rfl))) (blkOk_by (N := N_law_left) (sc := defScope s_law_left) (by decide +kernel)) (fun _ _ _ _ _ => (pg_name (i := 6) sc_law_left.nd rfl (.inl rfl))) (fun _ _ _ _ _ => pts_nil) (fun _ _ _ _ _ => (pe_dget1 (hu_of hr) (pv 2) (pe_ix (r := rIx K) ix_seq (pv 6) pe_int (fun _ _ => rfl)) ⟨rfl, rfl, rfl, rfl⟩))) rfl))))
            (pss_one (ps_dput (hu_of hr) (pv 2) (pv 5) (pe_op op_addA (pv 3) pe_int) rfl)) pss_nil)))
        (pss_one (ps_if (pt_cmpR (op_eqA hr.units) (pe_callB call_lenD (by rfl) B.blen PySem.boot_len (pa_cons (pv 2) pa_nil)) (pv 4) (nomark _))
          (pss_one ps_break) pss_nil)))))
      (pss_one (ps_ret (pv 2))))), ?_⟩
  intro F0 ars post Q ⟨t, a, n, m, ea, ht, ha0, ha1, ep⟩ hQ
  subst ea ep
  walk_at "cx"
  have hz := sizeLine_eq
  have hn0 := ht.n0
  have hnz := ht.nz
  have hmm := ht.m64
  have hrows := ht.rows
  refine' go_seq (go_setM1 (ev_disp1K (r := rI) (i := a) (y := 0) (fun _ => ?h1) (fun _ => ev_int)) fun p => ?_)
  case h1 => walk_at "ev"
  walk_at "ls"
  refine' go_seq (go_range (ι := List (Int × Int)) (n := t.2.2.length) (fun k b => Lf t n m (fun s => s = a) b k 0 ∧ (∀ e ∈ b, ∃ j : Nat, e.2 = (j : Int) ∧ j ≤ k) ∧ k + 1 ≤ b.length)
    (fun _ => [sl rTab t, sl rI a, sl rV (.ref p), s_, s_, s_, s_]) (fun b => [(p, mK rI (kv b))]) ?ea ?hn [(a, 0)] (Wk.refl _) rfl ⟨Lf.start ha0 ha1, fun e he => by rw [List.mem_singleton.mp he]; exact ⟨0, rfl, Nat.le_refl _⟩, Nat.le_refl _⟩ ?hs ?hd)
  case ea => walk_at "ea"
  case hn => omega
  case hd =>
    intro b ⟨hb, _, hl⟩
    exfalso
    have := nodup_le n (b.map (·.1)) hb.nd (fun y hy => by
      obtain ⟨x, hx, e⟩ := List.mem_map.mp hy
      rw [← e]
      exact ⟨(hb.ok x hx).1, (hb.ok x hx).2.1⟩)
    rw [List.length_map] at this
    omega
  case hs =>
    intro k b hk ⟨hb, hbk, hbl⟩ N hN
    walk_at "ls"
    walk_at "set"
    refine' go_seq (go_range (ι := List (Int × Int)) (n := t.2.2.length) (fun i L => Lf t n m (fun s => s = a) L k (i : Int) ∧ ∃ add, L = b ++ add)
      (fun _ => [sl rTab t, sl rI a, sl rV (.ref p), sl rI (k : Int), sl rI ((kv b).length : Int), s_, s_]) (fun L => [(p, mK rI (kv L))]) ?ea2 ?hn2 b (Wk.refl _) rfl ⟨hb, [], by simp⟩ ?hs2 ?hd2)
    case ea2 => walk_at "ea"
    case hn2 => omega
    case hd2 =>
      intro L ⟨hL, add, eadd⟩
      walk_at "ls"
      rw [hrows] at hL
      refine' go_if (b := decide (((kv L).length : Int) = ((kv b).length : Int))) ?c ?x ?y
      case c => walk_at "et"
      case x =>
        intro hy
        have hy := of_decide_eq_true hy
        refine go_brk ?_
        walk_at "ls"
        have e2 : add = [] := by
          unfold kv at hy
          rw [List.length_map, List.length_map, eadd, List.length_append] at hy
          exact List.length_eq_zero_iff.mp (by omega)
        rw [e2, List.append_nil] at eadd
        refine go_frz (p := p) (mo := mK rI (kv L)) (i := 2) (.refl _) rfl frzK ?_
        walk_at "ls"
        refine' go_ret1 hQ (y := kv L) ?h ?hp rfl
        case h => walk_at "ev"
        case hp => exact ⟨L, hL.full ht (by rw [eadd]; exact hbk) (by omega), rfl⟩
      case y =>
        intro hno
        have hno := of_decide_eq_false hno
        walk_at "nx"
        refine Go.weak (.same (.same (.same (.drop (.drop (.drop (.drop .nil))))))) (hN L ⟨hL.turn, fun e he => ?_, ?_⟩)
        · obtain ⟨_, _, j, ej, hj, _⟩ := hL.ok e he
          exact ⟨j, ej, hj⟩
        · unfold kv at hno
          rw [List.length_map, List.length_map, eadd, List.length_append] at hno
          rw [eadd, List.length_append]
          omega
    case hs2 =>
      intro i L hi ⟨hL, add, eadd⟩ N2 hN2
      walk_at "ls"
      rw [hrows] at hi
      have hi0 : (0 : Int) ≤ (i : Int) := by omega
      have hi1 : (i : Int) < (n : Int) := by omega
      have g := row_at ht hi0 hi1
      have hrl := row_len ht hi0 hi1
      have hLl : L.length ≤ n := by
        have := nodup_le n (L.map (·.1)) hL.nd (fun y hy => by
          obtain ⟨x, hx, e⟩ := List.mem_map.mp hy
          rw [← e]
          exact ⟨(hL.ok x hx).1, (hL.ok x hx).2.1⟩)
        rw [List.length_map] at this
        exact this
      have hkl : (kv L).length < sizeLine := by unfold kv; rw [List.length_map]; omega
      refine' go_if (b := (dget (kv L) (Sum.inl (i : Int))).isNone && decide (some (k : Int) ∈ marks t L (i : Int))) ?c ?x ?y
      case c =>
        refine' et_and (et_B (ev_dnotM1 mj0 ?k ?d)) (fun _ => et_test (ev_op ?e1 (ev_frzL (ev_lcTs (r := r2 rI rI) (xs := row t (i : Int)) (q := rO rI) (fun z => dget (kv L) (Sum.inl z.1)) ?hl (by omega) (fun _ _ _ => tw_name) ?he)) o_inO))
        case k => walk_at "ev"
        case d => walk_at "ev"
        case e1 => walk_at "ev"
        case hl => walk_at "ev"
        case he =>
          intro F1 Dd ys k x hx
          walk_at "ls"
          refine' ev_dgetG1 nn_int ?a mj1 ?b
          case a => walk_at "ev"
          case b => walk_at "ev"
      case x =>
        intro hy
        rw [Bool.and_eq_true] at hy
        have hdn : dget (kv L) (Sum.inl (i : Int)) = none := Option.isNone_iff_eq_none.mp hy.1
        have hm := of_decide_eq_true hy.2
        have hp := hL.put ht hi0 hi1 (dget_none.mp hdn) hm
        have fin := hN2 _ ⟨hp, add ++ [((i : Int), (k : Int) + 1)], by rw [eadd, List.append_assoc]⟩
        have e1 : kv (L ++ [((i : Int), (k : Int) + 1)]) = kv L ++ [(Sum.inl (i : Int), (k : Int) + 1)] := by unfold kv; rw [List.map_append]; rfl
        rw [e1] at fin
        refine' go_dputM1 (jj := 0) (i := (i : Int)) (y := (k : Int) + 1) ?hv ?hd3 mj0 ?hk3 hdn hkl ?k3
        case hv => walk_at "ev"
        case hd3 => walk_at "ev"
        case hk3 => walk_at "ev"
        case k3 =>
          walk_at "ls"
          exact Go.weak (.same (.same (.same (.same (.same (.drop (.same .nil))))))) fin
      case y =>
        intro hno
        walk_at "nx"
        refine Go.weak (.same (.same (.same (.same (.same (.drop (.same .nil))))))) (hN2 L ⟨hL.skip ht hi0 hi1 fun ⟨z1, z2⟩ => ?_, add, eadd⟩)
        rw [dget_none.mpr z1, decide_eq_true z2] at hno
        cases hno
theorem ok_due (B : Bl mg) (d_law_left : Df P w K mg base "_law_left" ["table", "target"] (mkSp (rDK rI) S_left) 1) {f : Addr} {fd : FuncData} (F : Fun K "_law_due" "_law_due" s_law_due f fd) :
    FnOk P w K mg base CX0 2 f fd ["table", "target"] (mkSp (rO (rL rI)) S_due) := by
  refine def_ok F sc_law_due (fun _ _ ⟨_, _, _, _, h, _⟩ => by rw [h]; rfl) fun cdv A outer s H E hr => ?_
  refine ⟨_, (pss_cons (ps_set (i := 2) sc_law_due.nd rfl (.inr rfl) (pe_df d_law_left hr (by decide) rfl (pa_cons (pv 0) (pa_cons (pv 1) pa_nil))))
      (pss_cons (ps_if (pt_cmp (pc_dnotin (hu_of hr) pe_int (pv 2)) rfl)
        (pss_one (ps_ret pe_non)) pss_nil)
      (pss_cons (ps_set (i := 3) sc_law_due.nd rfl (.inl rfl) (pe_lst pa_nil))
      (pss_cons (ps_set (i := 4) sc_law_due.nd rfl (.inl rfl) pe_int)
      (pss_cons (ps_for PassesOwn.never rfl (pi_range1 (by rfl) B.brange (pa_cons (pe_dget (hu_of hr) (pv 2) pe_int (fun _ _ => rfl)) pa_nil)) (pg_name (i := 5) sc_law_due.nd rfl (.inl rfl))
        (pss_cons (ps_setLc (i := 6) (own := [("pair", 7)]) rfl sc_law_due.nd rfl rfl (sw_true rfl rfl rfl (by decide +kernel)) (pi_seq (pe_ix ix_seq (pe_ix ix_seq (pv 0) pe_int (fun _ _ => rfl)) (pv 4) (fun _ _ => rfl))) (blkOk_by (N := N_law_due) (sc := defScope s_law_due) (by decide +kernel)) (fun _ _ _ _ _ => (pg_name (i := 7) sc_law_due.nd rfl (.inl rfl))) (fun _ _ _ _ _ => pts_nil) (fun _ _ _ _ _ => (pe_dget1 (hu_of hr) (pv 2) (pe_ix (r := rIx K) ix_seq (pv 7) pe_int (fun _ _ => rfl)) ⟨rfl, rfl, rfl, rfl⟩)))
        (pss_cons (ps_expr (pe_bm PySem.F.plainAttrs_list PySem.F.slot_list_append PySem.F.type_list_append mt_append (pv 3) (pa_cons (pe_bm PySem.F.plainAttrs_list PySem.F.slot_list_index PySem.F.type_list_index mt_index (pv 6) (pa_cons (pe_op op_sub (pe_dget (hu_of hr) (pv 2) (pv 4) (fun _ _ => rfl)) pe_int) pa_nil)) pa_nil)))
        (pss_one (ps_set (i := 4) sc_law_due.nd rfl (.inl rfl) (pe_ix ix_seq (pe_ix ix_seq (pe_ix ix_seq (pe_ix ix_seq (pv 0) pe_int (fun _ _ => rfl)) (pv 4) (fun _ _ => rfl)) (pe_ix ix_seq (pv 3) (pe_un un_neg pe_int) (fun _ _ => rfl)) (fun _ _ => rfl)) pe_int (fun _ _ => rfl)))))))
      (pss_one (ps_ret (pv 3)))))))), ?_⟩
  intro F0 ars post Q ⟨t, a, n, m, ea, ht, ha0, ha1, ep⟩ hQ
  subst ea ep
  walk_at "cx"
  have hz := sizeLine_eq
  have hn0 := ht.n0
  have hnz := ht.nz
  have hmm := ht.m64
  refine' go_seq (go_set (r := rDK rI) (ev_call ?ha ?hS) ?k)
  case ha => walk_at "ea"
  case hS =>
    intro ars ea
    rw [show ars = [sl rTab t, sl rI a] from ea]
    exact ⟨_, ⟨t, a, n, m, rfl, ht, ha0, ha1, rfl⟩, fun y hy => hy⟩
  case k =>
    rintro x ⟨L, hL, rfl⟩
    walk_at "ls"
    refine' go_seq (go_if (b := (dget (kv L) (Sum.inl 0)).isNone) (et_B (ev_dnotF1 ev_int ?d)) ?x ?y)
    case d => walk_at "ev"
    case x =>
      intro hy
      refine go_ret1 hQ (y := none) ev_nonO ?_ rfl
      exact hL.no (by omega) (by omega) (Option.isNone_iff_eq_none.mp hy)
    case y =>
      intro hno
      walk_at "nx"
      obtain ⟨d, hd⟩ : ∃ d, dget (kv L) (Sum.inl 0) = some d := by
        cases e : dget (kv L) (Sum.inl 0) with
        | none => rw [e] at hno; cases hno
        | some d => exact ⟨d, rfl⟩
      obtain ⟨_, _, d0, rfl, hd0⟩ := hL.of hd
      refine go_seq (go_setM1 (ev_lst0 rI) fun p => ?_)
      walk_at "ls"
      walk_at "set"
      have hdn : (d0 : Int) ≤ (n : Int) := hL.le _ ((dget_some hL.nd).mp hd)
      refine' go_seq (go_range (ι := List Int × Int) (n := d0) (fun k b => Gr1 t m (fun s => s = a) d0 b.1 b.2 k)
        (fun b => [sl rTab t, sl rI a, sl (rDK rI) (kv L), sl rV (.ref p), sl rI b.2, s_, s_, s_]) (fun b => [(p, mL rI b.1)]) ?ea ?hn ([], 0) (Wk.refl _) rfl (Gr1.init hd0) ?hs ?hd2)
      case ea =>
        refine' ea_cons (ev_dgetF1 ?a1 ev_int hd) ea_nil
        case a1 => walk_at "ev"
      case hn => omega
      case hd2 =>
        intro b hb
        walk_at "ls"
        refine go_frz (p := p) (mo := mL rI b.1) (i := 3) (.refl _) rfl frzL ?_
        walk_at "ls"
        refine' go_ret1 hQ (y := some b.1) ?h ?hp rfl
        case h => exact Evn.rel (r := rL rI) (P := fun y => y = b.1) (ev_var rfl) fun x F v p kk => ⟨some b.1, rfl, nn_L _ _ _ kk, by rw [← show x = b.1 from p]; exact kk⟩
        case hp => exact hb.best hd0
      case hs =>
        intro k b hk hb N hN
        walk_at "ls"
        obtain ⟨bw, bs⟩ := b
        have hbs : 0 ≤ bs ∧ bs < (n : Int) := by
          have h2 : runW (δ t) 0 bw = bs := hb.run
          rw [← h2]
          exact runW_ok ht bw 0 (by omega) (by omega) hb.wd
        have g := row_at ht hbs.1 hbs.2
        have hrl := row_len ht hbs.1 hbs.2
        have hds := hb.ds
        rw [show d0 - k = d0 - k - 1 + 1 by omega] at hds
        have hgb := hL.get hbs.1 hbs.2 hds
        -- the least letter that leads nearer
        obtain ⟨x, hx0, hx1, hxd⟩ := hds.next
        have hex : ∃ j : Nat, j < m ∧ (marks t L bs)[j]? = some (some ((d0 - k - 1 : Nat) : Int)) ∧ ∀ i, i < j → (marks t L bs)[i]? ≠ some (some ((d0 - k - 1 : Nat) : Int)) := by
          have key : ∀ j : Nat, j < m → (marks t L bs)[j]? = some (some ((d0 - k - 1 : Nat) : Int)) → ∃ j : Nat, j < m ∧ (marks t L bs)[j]? = some (some ((d0 - k - 1 : Nat) : Int)) ∧ ∀ i, i < j → (marks t L bs)[i]? ≠ some (some ((d0 - k - 1 : Nat) : Int)) := by
            intro j
            induction j using Nat.strongRecOn with
            | _ j ih =>
              intro hj h
              by_cases z : ∃ i, i < j ∧ (marks t L bs)[i]? = some (some ((d0 - k - 1 : Nat) : Int))
              · obtain ⟨i, hi, h2⟩ := z
                exact ih i hi (by omega) h2
              · exact ⟨j, hj, h, fun i hi h2 => z ⟨i, hi, h2⟩⟩
          refine key x.toNat (by omega) ?_
          have hv := δ_ok ht hbs.1 hbs.2 hx0 hx1
          rw [marks_at ht hbs.1 hbs.2 hx0 hx1, hL.get hv.1 hv.2 hxd]
        obtain ⟨j, hjm, hj, hjno⟩ := hex
        have mk : ∀ y : Int, 0 ≤ y → y < m → Ds t m (fun s => s = a) (δ t bs y) (d0 - k - 1) → (marks t L bs)[y.toNat]? = some (some ((d0 - k - 1 : Nat) : Int)) := fun y h0 h1 hd => by
          have hv := δ_ok ht hbs.1 hbs.2 h0 h1
          rw [marks_at ht hbs.1 hbs.2 h0 h1, hL.get hv.1 hv.2 hd]
        have hjd : Ds t m (fun s => s = a) (δ t bs (j : Int)) (d0 - k - 1) := by
          have h2 := marks_at ht (L := L) hbs.1 hbs.2 (x := (j : Int)) (by omega) (by omega)
          rw [Int.toNat_natCast, hj] at h2
          obtain ⟨_, _, i, ei, hi⟩ := hL.of (Option.some.inj h2).symm
          have : i = d0 - k - 1 := by omega
          rw [← this]
          exact hi
        have hnext := hb.next hk (x := (j : Int)) (by omega) (by omega) hjd fun y hy0 hy1 hd => by
          have := mk y hy0 (by omega) hd
          exact hjno y.toNat (by omega) this
        have gp := pr_at ht hbs.1 hbs.2 (l := (j : Int)) (by omega) (by omega)
        have gl : atI (bw ++ [(j : Int)]) (-1) = some (j : Int) := atI_last _ _
        have hbl : bw.length = k := hb.len
        refine' go_seq (go_set1 (r := rL (rO rI)) (x := marks t L bs) ?h1 ?k1)
        case h1 =>
          refine' ev_frzL (ev_lcTs (r := r2 rI rI) (xs := row t bs) (q := rO rI) (fun z => dget (kv L) (Sum.inl z.1)) ?hl (by omega) (fun _ _ _ => tw_name) ?he)
          case hl => walk_at "ev"
          case he =>
            intro F1 Dd ys k x hx
            walk_at "ls"
            refine' ev_dget1 nn_int ?a ?b
            case a => walk_at "ev"
            case b => walk_at "ev"
        case k1 =>
          walk_at "ls"
          refine' go_seq (go_app1 rfl mj0 (x := (j : Int)) ?h2 ?z2 ?k2)
          case h2 =>
            refine' ev_index (k := (((d0 - k - 1 + 1 : Nat) : Int)) - 1) ?a (ev_op (ev_dgetF1 ?b ?c hgb) ev_int (oI0 (t := rI) (fun _ => rfl))) ?e ?f
            case a => walk_at "ev"
            case b => walk_at "ev"
            case c => walk_at "ev"
            case e => rw [show (((d0 - k - 1 + 1 : Nat) : Int)) - 1 = ((d0 - k - 1 : Nat) : Int) by omega]; exact hj
            case f => rw [show (((d0 - k - 1 + 1 : Nat) : Int)) - 1 = ((d0 - k - 1 : Nat) : Int) by omega]; exact hjno
          case z2 =>
            show bw.length < _
            omega
          case k2 =>
            walk_at "ls"
            refine' go_set1 (r := rI) (x := (pr t bs (j : Int)).1) ?h3 ?k3
            case h3 => walk_at "ev"
            case k3 =>
              walk_at "ls"
              exact Go.weak (.same (.same (.same (.same (.same (.drop (.drop (.same .nil)))))))) (hN (bw ++ [(j : Int)], δ t bs (j : Int)) hnext)
end

end T

namespace T
open PySem PySem.Spec PyProof.Rows L2
local macro_rules | `(tactic| walk_at "side") => `(tactic| first | with_reducible assumption | omega | (dsimp only; omega) | exact CMul_l (by omega) (by omega) | exact CMul_r (by omega) (by omega) | (refine' (⟨?_, ?_⟩ : CDivN _ _) <;> omega) | (refine' (⟨?_, ?_, ?_⟩ : CPow _ _) <;> first | decide | omega) | (simp; done))
local macro_rules | `(tactic| walk_at "op") => `(tactic| first
  | ((with_reducible refine' oI0 (t := rI) ?c); (case c => exact fun _ => rfl))
  | ((with_reducible refine' oI0 (t := rB) ?c); (case c => exact fun _ => rfl))
  | ((with_reducible refine' oL (oI0 (t := rI) ?c)); (case c => exact fun _ => rfl))
  | ((with_reducible refine' oI (t := rI) ?c ?d); (case d => exact fun _ => rfl); (case c => walk_at "side"))
  | ((with_reducible refine' oL (oI (t := rI) ?c ?d)); (case d => exact fun _ => rfl); (case c => walk_at "side"))
  | with_reducible exact o_eqI | with_reducible exact oL o_eqI | with_reducible exact o_neI | with_reducible exact oL o_neI | with_reducible exact o_isN | with_reducible exact o_notN
  | with_reducible exact o_ix20' | with_reducible exact o_ix21' | with_reducible exact o_ix30' | with_reducible exact o_ix31' | with_reducible exact o_ix32'
  | ((with_reducible refine' o_ixL' ?s); (case s => walk_at "side"))
  | ((with_reducible refine' o_ixT' ?s); (case s => walk_at "side"))
  | ((with_reducible refine' o_ixQ' ?s); (case s => walk_at "side"))
  | ((with_reducible refine' o_ixM' ?h ?s); (case h => walk_at "mj"); (case s => walk_at "side"))
  | walk_at "op2")
local macro_rules | `(tactic| walk_at "mj") => `(tactic| first | exact mj0 | exact mj1 | exact mj2 | exact mj3)
local macro_rules | `(tactic| walk_at "ca") => `(tactic| first
  | with_reducible exact c_lenL | with_reducible exact c_lenT | with_reducible exact c_lenQ | ((with_reducible refine' c_lenM ?h); (case h => walk_at "mj")) | with_reducible exact c_int | with_reducible exact c_tupL | ((with_reducible refine' c_tupM ?h); (case h => walk_at "mj"))
  | with_reducible exact c_all | with_reducible exact c_max2 | with_reducible exact c_min2 | walk_at "ca2")
local macro_rules | `(tactic| walk_at "ea") => `(tactic| first
  | with_reducible exact ea_nil
  | ((with_reducible refine' ea_cons ?h1 ?h2); (case h1 => walk_at "ev"); (case h2 => walk_at "ea")))
local macro_rules | `(tactic| walk_at "ev") => `(tactic| first
  | ((with_reducible refine' ev_var ?h); (case h => exact rfl))
  | with_reducible exact ev_int | with_reducible exact ev_bl | with_reducible exact ev_non | with_reducible exact ev_str | with_reducible exact ev_val
  | with_reducible assumption
  | ((with_reducible refine' ev_op ?h1 ?h2 ?h3); (case h1 => walk_at "ev"); (case h2 => walk_at "ev"); (case h3 => walk_at "op"))
  | ((with_reducible refine' ev_ca ?h1 ?h2); (case h1 => walk_at "ea"); (case h2 => walk_at "ca"))
  | ((with_reducible refine' ev_neg ?h1); (case h1 => walk_at "ev"))
  | ((with_reducible refine' ev_chain ?h1 ?h2 ?h3 ?h4 ?h5); (case h1 => walk_at "ev"); (case h2 => walk_at "ev"); (case h3 => walk_at "op"); (case h4 => walk_at "ev"); (case h5 => walk_at "op"))
  | ((with_reducible refine' ev_tup2 ?h1); (case h1 => walk_at "ea"))
  | ((with_reducible refine' ev_tup3 ?h1); (case h1 => walk_at "ea"))
  | ((with_reducible refine' ev_notV ?h1); (case h1 => walk_at "ev"))
  | ((with_reducible refine' ev_andV ?h1 (fun _ => ?h2)); (case h1 => walk_at "ev"); (case h2 => walk_at "ev"))
  | ((with_reducible refine' ev_orV ?h1 (fun _ => ?h2)); (case h1 => walk_at "ev"); (case h2 => walk_at "ev"))
  | ((with_reducible refine' ev_frzL ?h1); (case h1 => walk_at "evm"))
  | walk_at "ev2")
local macro_rules | `(tactic| walk_at "et") => `(tactic| first
  | ((with_reducible refine' et_test ?h1); (case h1 => walk_at "ev"))
  | ((with_reducible refine' et_B ?h1); (case h1 => walk_at "ev"))
  | ((with_reducible refine' et_not ?h1); (case h1 => walk_at "et"))
  | ((with_reducible refine' et_and ?h1 (fun _ => ?h2)); (case h1 => walk_at "et"); (case h2 => walk_at "et"))
  | ((with_reducible refine' et_or ?h1 (fun _ => ?h2)); (case h1 => walk_at "et"); (case h2 => walk_at "et")))
local macro_rules | `(tactic| walk_at "ca2") => `(tactic| fail "ca2")
local macro_rules | `(tactic| walk_at "ca2") => `(tactic| first | with_reducible exact c_isi_ii | with_reducible exact c_isi_ib | with_reducible exact c_isi_ll | ((with_reducible refine' c_lenD ?h); (case h => walk_at "mj")))
local macro_rules | `(tactic| walk_at "op2") => `(tactic| fail "op2")
local macro_rules | `(tactic| walk_at "ev2") => `(tactic| fail "ev2")
local macro_rules | `(tactic| walk_at "evm2") => `(tactic| fail "evm2")
local macro_rules | `(tactic| walk_at "evm") => `(tactic| first
  | with_reducible exact ev_lst0 _
  | ((with_reducible refine' ev_lst1 ?h1); (case h1 => walk_at "ea"))
  | ((with_reducible refine' ev_lst2 ?h1); (case h1 => walk_at "ea"))
  | ((with_reducible refine' ev_lst3 ?h1); (case h1 => walk_at "ea"))
  | ((with_reducible refine' ev_lst4 ?h1); (case h1 => walk_at "ea"))
  | ((with_reducible refine' ev_lst5 ?h1); (case h1 => walk_at "ea"))
  | ((with_reducible refine' ev_lst6 ?h1); (case h1 => walk_at "ea"))
  | ((with_reducible refine' ev_lst7 ?h1); (case h1 => walk_at "ea"))
  | ((with_reducible refine' ev_lst8 ?h1); (case h1 => walk_at "ea"))
  | ((with_reducible refine' ev_opM ?h1 ?h2 (oRM (o_cat ?h3))); (case h1 => walk_at "ev"); (case h2 => walk_at "ev"); (case h3 => walk_at "side"))
  | walk_at "evm2")
local macro_rules | `(tactic| walk_at "cx") => `(tactic| dsimp only [cxOf, Cx.nox, Cx.wish, Cx.blk, List.map, List.cons_append, List.nil_append, List.append_nil, List.length_cons, List.length_nil, List.replicate, Nat.reduceSub, Nat.reduceAdd])
local macro_rules | `(tactic| walk_at "ls") => `(tactic| try dsimp only [List.set_cons_zero, List.set_cons_succ])
local macro_rules | `(tactic| walk_at "set") => `(tactic| (refine' go_seq (go_set1 ?h ?k); (case h => walk_at "ev"); walk_at "ls"))
local macro_rules | `(tactic| walk_at "set!") => `(tactic| (refine' go_set1 ?h ?k; (case h => walk_at "ev"); walk_at "ls"))
local macro_rules | `(tactic| walk_at "if") => `(tactic| (refine' go_seq (go_if ?c ?x ?y); (case c => walk_at "et")))
local macro_rules | `(tactic| walk_at "if!") => `(tactic| (refine' go_if ?c ?x ?y; (case c => walk_at "et")))
local macro_rules | `(tactic| walk_at "ret") => `(tactic| (refine' go_ret1 ?q ?h ?p ?e; (case e => exact rfl); (case q => assumption); (case h => walk_at "ev")))
local macro_rules | `(tactic| walk_at "nx") => `(tactic| (refine go_next ?_; try dsimp only))
local macro_rules | `(tactic| walk_at "sp") => `(tactic| fail "sp")
local macro_rules | `(tactic| walk_at "ev2") => `(tactic| ((with_reducible refine' ev_call1 ?h1 ?h2); (case h1 => walk_at "ea"); (case h2 => walk_at "sp")))
local macro_rules | `(tactic| walk_at "evm2") => `(tactic| ((with_reducible refine' ev_callM1 ?h1 ?h2); (case h1 => walk_at "ea"); (case h2 => walk_at "sp")))
local macro_rules | `(tactic| walk_at "setM") => `(tactic| (refine' go_seq (go_setM1 ?h ?k); (case h => walk_at "evm")))
local macro_rules | `(tactic| walk_at "setM!") => `(tactic| (refine' go_setM1 ?h ?k; (case h => walk_at "evm")))
local macro_rules | `(tactic| walk_at "app") => `(tactic| (refine' go_seq (go_app1 ?a ?b ?h ?z ?k); (case a => exact rfl); (case b => walk_at "mj"); (case h => walk_at "ev"); (case z => walk_at "sz"); walk_at "ls"))
local macro_rules | `(tactic| walk_at "app!") => `(tactic| (refine' go_app1 ?a ?b ?h ?z ?k; (case a => exact rfl); (case b => walk_at "mj"); (case h => walk_at "ev"); (case z => walk_at "sz"); walk_at "ls"))
local macro_rules | `(tactic| walk_at "sz") => `(tactic| (have hsz_ := sizeLine_eq; first | omega | (simp only [List.length_append, List.length_cons, List.length_nil, List.length_map, List.length_range]; omega)))
local macro_rules | `(tactic| walk_at "retV") => `(tactic| (refine' go_retV1 ?q ?a ?b ?p ?e; (case e => exact rfl); (case q => assumption); (case a => exact rfl); (case b => walk_at "mj")))
local macro_rules | `(tactic| walk_at "evm2") => `(tactic| ((with_reducible refine' ev_opM ?h1 ?h2 (oRM (o_rep ?h3 ?h4 ?h5))); (case h1 => walk_at "ev"); (case h2 => walk_at "ev"); (case h3 => walk_at "side"); (case h4 => walk_at "side"); (case h5 => walk_at "side")))
local macro_rules | `(tactic| walk_at "op2") => `(tactic| first | with_reducible exact o_eqLI | with_reducible exact o_neLI | with_reducible exact o_eqLLI | with_reducible exact o_neLLI | with_reducible exact o_inO)
local macro_rules | `(tactic| walk_at "ix") => `(tactic| first | exact mj0 | exact mj1 | exact mj2 | exact mj3 | exact mj4 | exact mj5 | exact mj6 | exact mj7 | exact mj8 | exact mj9 | exact mj10 | exact mj11 | exact mj12)
local macro_rules | `(tactic| walk_at "ev") => `(tactic| first | ((with_reducible refine' ev_varS ?s ?h); (case h => with_reducible walk_at "ix"); (case s => first | exact Same.refl _ | assumption)) | fail "no")
local macro_rules | `(tactic| walk_at "ev") => `(tactic| first | ((with_reducible refine' ev_varN ?h); (case h => with_reducible walk_at "ix")) | fail "no")
local macro_rules | `(tactic| walk_at "sp") => `(tactic| with_reducible exact S_ii_i)
local macro_rules | `(tactic| walk_at "sp") => `(tactic| ((with_reducible refine' S_parts_i ?a ?b); (case a => first | assumption | (simp; done)); (case b => first | assumption | (simp; done) | omega)))
local macro_rules | `(tactic| walk_at "sp") => `(tactic| ((with_reducible refine' S_far_i ?a); (case a => walk_at "side")))
local macro_rules | `(tactic| walk_at "sp") => `(tactic| ((with_reducible refine' S_step_i ?a ?b ?c ?d ?e); (case a => assumption); (case b => walk_at "side"); (case c => walk_at "side"); (case d => walk_at "side"); (case e => walk_at "side")))
local macro_rules | `(tactic| walk_at "sp") => `(tactic| ((with_reducible refine' S_lc_i ?a); (case a => assumption)))
local macro_rules | `(tactic| walk_at "sp") => `(tactic| ((with_reducible refine' S_sc_i ?a); (case a => assumption)))
local macro_rules | `(tactic| walk_at "sp") => `(tactic| ((with_reducible refine' S_cs_i ?a ?b); (case a => assumption); (case b => first | assumption | (simp; omega))))
local macro_rules | `(tactic| walk_at "sp") => `(tactic| ((with_reducible refine' S_run_i ?a ?b ?c ?d ?e); (case a => assumption); (case b => walk_at "side"); (case c => walk_at "side"); (case d => assumption); (case e => walk_at "side")))
local macro_rules | `(tactic| walk_at "sp") => `(tactic| ((with_reducible refine' S_ans_i ?a ?b); (case a => walk_at "side"); (case b => walk_at "side")))
local macro_rules | `(tactic| walk_at "sp") => `(tactic| ((with_reducible refine' S_table_i ?a ?b ?c ?d ?e ?f ?g); (case a => walk_at "side"); (case b => walk_at "side"); (case c => walk_at "side"); (case d => walk_at "side"); (case e => walk_at "side"); (case f => walk_at "side"); (case g => walk_at "side")))
local macro_rules | `(tactic| walk_at "sp") => `(tactic| ((with_reducible refine' S_iw_i ?a ?b ?c); (case a => assumption); (case b => assumption); (case c => walk_at "side")))
local macro_rules | `(tactic| walk_at "sp") => `(tactic| ((with_reducible refine' S_cw_i ?a ?b); (case a => assumption); (case b => assumption)))
local macro_rules | `(tactic| walk_at "sp") => `(tactic| ((with_reducible refine' S_sa_i ?a ?b ?c ?d ?e); (case a => assumption); (case b => walk_at "side"); (case c => walk_at "side"); (case d => assumption); (case e => walk_at "side")))
local macro_rules | `(tactic| walk_at "sp") => `(tactic| ((with_reducible refine' S_isdue_i ?a ?b); (case a => assumption); (case b => assumption)))
/-! ### the law -/
section
variable {t : Tb} {n m : Nat}
theorem due_ex (t : Tb) (m : Nat) (T : Int → Prop) : ∃ y, DueOk t m T y := by
  by_cases h : ∃ w, Wd m w ∧ T (runW (δ t) 0 w)
  · have key : ∀ (c : Nat) (w : List Int), (code m w).toNat = c → Wd m w → T (runW (δ t) 0 w) → ∃ y, DueOk t m T y := by
      intro c
      induction c using Nat.strongRecOn with
      | _ c ih =>
        intro w hc hw hT
        by_cases z : ∃ v, Wd m v ∧ T (runW (δ t) 0 v) ∧ code m v < code m w
        · obtain ⟨v, h1, h2, h3⟩ := z
          have hv := code_nn (m := (m : Int)) (by omega) h1
          exact ih (code m v).toNat (by omega) v rfl h1 h2
        · refine ⟨some w, hw, hT, fun v hv hT' => ?_⟩
          by_cases q : code m w ≤ code m v
          · exact q
          · exact absurd ⟨v, hv, hT', by omega⟩ z
    obtain ⟨w, hw, hT⟩ := h
    exact key _ w rfl hw hT
  · exact ⟨none, fun w hw hT => h ⟨w, hw, hT⟩⟩
noncomputable def dueF (t : Tb) (m : Nat) (k : Nat) : Option (List Int) := Classical.choose (due_ex t m (fun s => s = (k : Int)))
theorem dueF_ok (t : Tb) (m : Nat) (k : Nat) : DueOk t m (fun s => s = (k : Int)) (dueF t m k) := Classical.choose_spec (due_ex t m (fun s => s = (k : Int)))
noncomputable def dueL (t : Tb) (n m : Nat) : List (Option (List Int)) := (List.range n).map fun k => dueF t m k
theorem fw_due (ht : Tok t n m) {e : Ent} (he : Rch t m e) (hv : ∀ x ∈ e, 0 ≤ x.1 ∧ x.1 < (n : Int) ∧ x.2.length ≤ n) : fwOf e n = dueL t n m := by
  refine List.map_congr_left fun k hk => ?_
  refine DueOk.uniq (t := t) (m := m) (T := fun s => s = (k : Int)) ?_ (dueF_ok t m k)
  have hm := ht.m64
  cases h : dget (kv e) (Sum.inl (k : Int)) with
  | none =>
    intro w hw hr
    obtain ⟨x, hx, er, _⟩ := Bq.all he (by omega) (Nat.le_refl _) hw
    exact dget_none.mp h (List.mem_map.mpr ⟨x, hx, er.trans hr⟩)
  | some w =>
    have h2 := (dget_some he.nd).mp h
    exact Bq.best he (by omega) (Nat.le_refl _) h2
theorem due_len (ht : Tok t n m) {e : Ent} (he : Rch t m e) (hv : ∀ x ∈ e, 0 ≤ x.1 ∧ x.1 < (n : Int) ∧ x.2.length ≤ n) : ∀ w, some w ∈ dueL t n m → w.length ≤ 1000 := fun w hw => by
  rw [← fw_due ht he hv] at hw
  obtain ⟨k, _, h⟩ := List.mem_map.mp hw
  have h2 := (dget_some he.nd).mp h
  have h3 : w.length ≤ n := (hv _ h2).2.2
  have := ht.nz
  omega
theorem due_at {k : Nat} (hk : k < n) : (dueL t n m)[k]? = some (dueF t m k) := by
  unfold dueL
  rw [List.getElem?_map, List.getElem?_range hk]
  rfl
end
def S_law (K : PySem.W.Frag) (ars : List Sl) (post : Bool → Prop) : Prop := ∃ (ns : List Int), ars = [sl (rQ K) ns] ∧ post = fun y => y = true
theorem six {ps : List Int} {ss : List Int} {c : Int} (h : ps = parts c ss) (hs : ∀ s ∈ ss, 0 < s) {i : Nat} {s : Int} (hi : ss[i]? = some s) : ∃ x, atI ps (i : Int) = some x ∧ 0 ≤ x ∧ x < s := by
  obtain ⟨x, h1, h2, h3⟩ := parts_at (cell := c) hs hi
  rw [← h] at h1
  exact ⟨x, atI_nat h1, h2, h3⟩
theorem m32 {i : Int} (h0 : 0 ≤ i) (h1 : i ≤ 6) : ∃ x : Int, atI ([32, 32, 32, 32, 32, 32, 16] : List Int) i = some x ∧ 0 < x ∧ x ≤ 32 := by
  have : i = 0 ∨ i = 1 ∨ i = 2 ∨ i = 3 ∨ i = 4 ∨ i = 5 ∨ i = 6 := by omega
  rcases this with e | e | e | e | e | e | e <;> subst e <;> exact ⟨_, rfl, by decide, by decide⟩
section
variable {P : Program} {w : World} {K : PySem.W.Frag} {mg : Str → Option Value} {base : Heap}
theorem ok_law (B : Bl mg) (d_law_parts : Df P w K mg base "_law_parts" ["cell", "sizes"] (mkSpM (mL rI) S_parts) 1) (d_law_far : Df P w K mg base "_law_far" ["script", "k"] (mkSp rI (S_far K)) 1)
    (d_law_fewer : Df P w K mg base "_law_fewer" ["table", "cell"] (mkSp rTab S_fewer) 1) (d_law_table : Df P w K mg base "_law_table" ["script", "at", "head"] (mkSp rTab (S_table K)) 2)
    (d_law_due : Df P w K mg base "_law_due" ["table", "target"] (mkSp (rO (rL rI)) S_due) 2) (d_first_words : Df P w K mg base "first_words" ["table"] (mkSpN (fun H => rLn H (rO (rLn H rI))) S_fw) 2)
    (d_law_is_due : Df P w K mg base "_law_is_due" ["told", "due"] (mkSp rB S_isdue) 2) (d_state_after : Df P w K mg base "state_after" ["table", "state", "word"] (mkSp rI S_sa) 4)
    (d_law_before : Df P w K mg base "_law_before" ["one", "other"] (mkSp rB S_before) 1) {f : Addr} {fd : FuncData} (F : Fun K "law" "law" s_law f fd) :
    FnOk P w K mg base CX0 5 f fd ["script"] (mkSp rB (S_law K)) := by
  refine def_ok F sc_law (fun _ _ ⟨_, h, _⟩ => by rw [h]; rfl) fun cdv A outer s H E hr => ?_
  refine ⟨_, (pss_cons (ps_set (i := 1) sc_law.nd rfl (.inl rfl) (pe_df d_law_parts hr (by decide) rfl (pa_cons (pe_df d_law_far hr (by decide) rfl (pa_cons (pv 0) (pa_cons pe_int pa_nil))) (pa_cons (pe_lst (pa_cons pe_int (pa_cons pe_int (pa_cons pe_int (pa_cons pe_int (pa_cons pe_int (pa_cons pe_int pa_nil))))))) pa_nil))))
      (pss_cons (ps_set (i := 2) sc_law.nd rfl (.inl rfl) (pe_op op_modN (pe_callTy call_int1 (by rfl) B.bint (by decide +kernel) (pa_cons (pe_ix ix_seq (pv 1) pe_int (fun _ _ => rfl)) pa_nil)) pe_int))
      (pss_cons (ps_set (i := 3) sc_law.nd rfl (.inl rfl) (pe_ix ix_seq (pv 1) pe_int (fun _ _ => rfl)))
      (pss_cons (ps_if (pt_cmpR (op_eqA hr.units) (pe_ix ix_seq (pv 1) pe_int (fun _ _ => rfl)) pe_int (nomark _))
        (pss_cons (ps_set (i := 2) sc_law.nd rfl (.inl rfl) (pe_ix ix_seq (pv 1) pe_int (fun _ _ => rfl)))
        (pss_one (ps_set (i := 3) sc_law.nd rfl (.inl rfl) (pe_op op_modN (pe_callTy call_int1 (by rfl) B.bint (by decide +kernel) (pa_cons (pe_ix ix_seq (pv 1) pe_int (fun _ _ => rfl)) pa_nil)) (pe_ix ix_seq (pe_lst (pa_cons pe_int (pa_cons pe_int (pa_cons pe_int (pa_cons pe_int (pa_cons pe_int (pa_cons pe_int (pa_cons pe_int pa_nil)))))))) (pv 2) (fun _ _ => rfl)))))) pss_nil)
      (pss_cons (ps_if (pt_cmpR op_gt (pe_ix ix_seq (pv 1) pe_int (fun _ _ => rfl)) pe_int (nomark _))
        (pss_one (ps_set (i := 3) sc_law.nd rfl (.inl rfl) (pe_op op_modN (pe_callTy call_int1 (by rfl) B.bint (by decide +kernel) (pa_cons (pe_ix ix_seq (pv 1) pe_int (fun _ _ => rfl)) pa_nil)) pe_int))) pss_nil)
      (pss_cons (ps_set (i := 4) sc_law.nd rfl (.inr rfl) (pe_df d_law_fewer hr (by decide) rfl (pa_cons (pe_df d_law_table hr (by decide) rfl (pa_cons (pv 0) (pa_cons pe_int (pa_cons (pe_lst (pa_cons (pv 2) (pa_cons (pe_ix ix_seq (pv 1) pe_int (fun _ _ => rfl)) (pa_cons (pv 3) (pa_cons (pe_ix ix_seq (pv 1) pe_int (fun _ _ => rfl)) pa_nil))))) pa_nil)))) (pa_cons (pe_op op_addA (pe_df d_law_far hr (by decide) rfl (pa_cons (pv 0) (pa_cons pe_int pa_nil))) pe_int) pa_nil))))
      (pss_cons (ps_setLc (i := 6) (own := [("state", 5)]) rfl sc_law.nd rfl rfl (sw_true rfl rfl rfl (by decide +kernel)) (pi_range1 (by rfl) B.brange (pa_cons (pe_callB call_len (by rfl) B.blen PySem.boot_len (pa_cons (pe_ix ix_seq (pv 4) pe_int (fun _ _ => rfl)) pa_nil)) pa_nil)) (blkOk_by (N := N_law) (sc := defScope s_law) (by decide +kernel)) (fun _ _ _ _ _ => (pg_name (i := 5) sc_law.nd rfl (.inl rfl))) (fun _ _ _ _ _ => pts_nil) (fun _ _ _ _ _ => (pe_df d_law_due hr (by decide) rfl (pa_cons (pv 4) (pa_cons (pv 5) pa_nil)))))
      (pss_cons (ps_set (i := 7) sc_law.nd rfl (.inl rfl) (pe_df d_first_words hr (by decide) rfl (pa_cons (pv 4) pa_nil)))
      (pss_cons (ps_if (pt_not (pt_val (pe_df d_law_is_due hr (by decide) rfl (pa_cons (pv 7) (pa_cons (pv 6) pa_nil)))))
        (pss_one (ps_ret pe_bl)) pss_nil)
      (pss_cons (ps_for PassesOwn.never rfl (pi_range1 (by rfl) B.brange (pa_cons (pe_callB call_len (by rfl) B.blen PySem.boot_len (pa_cons (pv 6) pa_nil)) pa_nil)) (pg_name (i := 5) sc_law.nd rfl (.inl rfl))
        (pss_one (ps_if (PW.pt (pw_and (pt_cmpR op_notN (pe_ix ix_seq (pv 6) (pv 5) (fun _ _ => rfl)) pe_non (nomark _)) (pw_and1 (pt_cmpR (op_neA hr.units) (pe_df d_state_after hr (by decide) rfl (pa_cons (pv 4) (pa_cons pe_int (pa_cons (pe_ix ix_seq (pv 6) (pv 5) (fun _ _ => rfl)) pa_nil)))) (pv 5) (nomark _)))))
          (pss_one (ps_ret pe_bl)) pss_nil)))
      (pss_cons (ps_setLc (i := 8) (own := [("part", 10)]) rfl sc_law.nd rfl rfl (sw_true rfl rfl rfl (by decide +kernel)) (pi_seq (pe_df d_law_parts hr (by decide) rfl (pa_cons (pe_df d_law_far hr (by decide) rfl (pa_cons (pv 0) (pa_cons pe_int pa_nil))) (pa_cons (pe_op op_mulA (pe_lst (pa_cons pe_int pa_nil)) (pe_ix ix_seq (pv 1) pe_int (fun _ _ => rfl))) pa_nil)))) (blkOk_by (N := N_law) (sc := defScope s_law) (by decide +kernel)) (fun _ _ _ _ _ => (pg_name (i := 10) sc_law.nd rfl (.inl rfl))) (fun _ _ _ _ _ => pts_nil) (fun _ _ _ _ _ => (pe_op op_modN (pe_callTy call_int1 (by rfl) B.bint (by decide +kernel) (pa_cons (pv 10) pa_nil)) (pe_callB (r := cLen K) call_len (by rfl) B.blen PySem.boot_len (pa_cons (pe_ix (r := rIx K) ix_seq (pe_ix (r := rIx K) ix_seq (pv 4) pe_int (fun _ _ => rfl)) pe_int (fun _ _ => rfl)) pa_nil)))))
      (pss_cons (ps_set (i := 5) sc_law.nd rfl (.inl rfl) pe_int)
      (pss_cons (ps_for PassesOwn.never rfl (pi_range1 (by rfl) B.brange (pa_cons (pe_op op_addA (pe_callB call_len (by rfl) B.blen PySem.boot_len (pa_cons (pv 8) pa_nil)) pe_int) pa_nil)) (pg_name (i := 9) sc_law.nd rfl (.inl rfl))
        (pss_cons (ps_if (PW.pt (pw_or (pt_cmpR op_isN (pe_ix ix_seq (pv 7) (pv 5) (fun _ _ => rfl)) pe_non (nomark _)) (pw_or1 (pt_val (pe_df d_law_before hr (by decide) rfl (pa_cons (pe_slice sl_list (pv 8) po_none (po_some (pv 9))) (pa_cons (pe_ix ix_seq (pv 7) (pv 5) (fun _ _ => rfl)) pa_nil)))))))
          (pss_one (ps_ret pe_bl)) pss_nil)
        (pss_one (ps_if (pt_cmpR op_lt (pv 9) (pe_callB call_len (by rfl) B.blen PySem.boot_len (pa_cons (pv 8) pa_nil)) (nomark _))
          (pss_one (ps_set (i := 5) sc_law.nd rfl (.inl rfl) (pe_ix ix_seq (pe_ix ix_seq (pe_ix ix_seq (pe_ix ix_seq (pv 4) pe_int (fun _ _ => rfl)) (pv 5) (fun _ _ => rfl)) (pe_ix ix_seq (pv 8) (pv 9) (fun _ _ => rfl)) (fun _ _ => rfl)) pe_int (fun _ _ => rfl)))) pss_nil))))
      (pss_cons (ps_for PassesOwn.never rfl (pi_range1 (by rfl) B.brange (pa_cons (pe_callB call_len (by rfl) B.blen PySem.boot_len (pa_cons (pv 7) pa_nil)) pa_nil)) (pg_name (i := 9) sc_law.nd rfl (.inl rfl))
        (pss_one (ps_if (pt_cmpR op_notN (pe_ix ix_seq (pv 7) (pv 9) (fun _ _ => rfl)) pe_non (nomark _))
          (pss_one (ps_expr (pe_bm PySem.F.plainAttrs_list PySem.F.slot_list_append PySem.F.type_list_append mt_append (pe_ix ix_seq (pv 7) (pv 9) (fun _ _ => rfl)) (pa_cons pe_int pa_nil)))) pss_nil)))
      (pss_cons (ps_expr (pe_bm0 PySem.F.plainAttrs_list PySem.F.slot_list_reverse PySem.F.type_list_reverse mt_reverse (pv 7)))
      (pss_one (ps_ret (pe_df d_law_is_due hr (by decide) rfl (pa_cons (pe_df d_first_words hr (by decide) rfl (pa_cons (pv 4) pa_nil)) (pa_cons (pv 6) pa_nil)))))))))))))))))))), ?_⟩
  intro F0 ars post Q ⟨ns, ea, ep⟩ hQ
  subst ea ep
  walk_at "cx"
  have hz := sizeLine_eq
  walk_at "set"
  generalize hhd : parts (far ns 0) [7, 6, 32, 4, 8, 25] = hd
  have hpos : ∀ s ∈ [(7 : Int), 6, 32, 4, 8, 25], 0 < s := by simp
  obtain ⟨x0, g0, x00, x01⟩ := six hhd.symm hpos (i := 0) rfl
  obtain ⟨x1, g1, x10, x11⟩ := six hhd.symm hpos (i := 1) rfl
  obtain ⟨x2, g2, x20, x21⟩ := six hhd.symm hpos (i := 2) rfl
  obtain ⟨x3, g3, x30, x31⟩ := six hhd.symm hpos (i := 3) rfl
  obtain ⟨x4, g4, x40, x41⟩ := six hhd.symm hpos (i := 4) rfl
  obtain ⟨x5, g5, x50, x51⟩ := six hhd.symm hpos (i := 5) rfl
  replace g0 : atI hd 0 = some x0 := g0
  replace g1 : atI hd 1 = some x1 := g1
  replace g2 : atI hd 2 = some x2 := g2
  replace g3 : atI hd 3 = some x3 := g3
  replace g4 : atI hd 4 = some x4 := g4
  replace g5 : atI hd 5 = some x5 := g5
  walk_at "set"
  walk_at "set"
  have hf3 := fmod_lt (a := x0) (b := 3) (by decide)
  refine' go_seq (go_ifj (ι := Int × Int) (b := decide (x4 = 0)) (fun p => [sl (rQ K) ns, sl (rL rI) hd, sl rI p.1, sl rI p.2, s_, s_, s_, s_, s_, s_, s_]) (fun p => 0 ≤ p.1 ∧ p.1 ≤ 6 ∧ 0 ≤ p.2 ∧ p.2 ≤ 31) ?c1 ?h11 ?h12 ?tail1)
  case c1 => walk_at "et"
  case h12 =>
    intro _ N hN
    walk_at "nx"
    exact hN (x0.fmod 3, x2) ⟨hf3.1, by omega, x20, by omega⟩
  case h11 =>
    intro _ N hN
    obtain ⟨c, gc, c0, c1⟩ := m32 x00 (show x0 ≤ 6 by omega)
    have hc := fmod_lt (a := x2) (b := c) c0
    have hc0 : c ≠ 0 := by omega
    walk_at "set"
    walk_at "set!"
    exact hN (x0, x2.fmod c) ⟨x00, by omega, hc.1, by omega⟩
  case tail1 =>
  rintro ⟨inp, st⟩ ⟨hi0, hi1, hs0, hs1⟩
  walk_at "ls"
  have hf8 := fmod_lt (a := x2) (b := 8) (by decide)
  refine' go_seq (go_ifj (ι := Int) (b := decide (1 < x4)) (fun p => [sl (rQ K) ns, sl (rL rI) hd, sl rI inp, sl rI p, s_, s_, s_, s_, s_, s_, s_]) (fun p => 0 ≤ p ∧ p ≤ 31) ?c2 ?h21 ?h22 ?tail2)
  case c2 => walk_at "et"
  case h22 =>
    intro _ N hN
    walk_at "nx"
    exact hN st ⟨hs0, hs1⟩
  case h21 =>
    intro _ N hN
    walk_at "set!"
    exact hN (x2.fmod 8) ⟨hf8.1, by omega⟩
  case tail2 =>
  replace hi0 : 0 ≤ inp := hi0
  replace hi1 : inp ≤ 6 := hi1
  rintro st ⟨hs0, hs1⟩
  walk_at "ls"
  -- the table
  generalize hnn : (1 + st).toNat = n
  generalize hmm : (letF inp).toNat = m
  have htab := tabF_ok (ns := ns) (a := 2) (o := x1) (md := x3) hi0 hi1 hs0 (show st ≤ 100 by omega)
  rw [hnn, hmm] at htab
  refine' go_seq (go_set (r := rTab) (Pv := fun t => Tok t n m) (ev_call (PA := fun l => l = [sl rTab (tabF ns 2 inp x1 st x3), sl rI (far ns 1 + 3)]) ?ha ?hS) ?k)
  case ha => walk_at "ea"
  case hS =>
    intro ars ea
    exact ⟨_, ⟨_, _, n, m, ea, htab, rfl⟩, fun y hy => hy⟩
  case k =>
  intro t ht
  walk_at "ls"
  have hmm2 := ht.m64
  have hn0 := ht.n0
  have hnz := ht.nz
  have hrows := ht.rows
  -- what is due
  refine' go_seq (go_set1 (r := rL (rO (rL rI))) (x := dueL t n m) (ev_frzL (ev_lcR (n := n) (fun k : Nat => dueF t m k) ?h1 (by omega) (fun _ _ _ => tw_name) ?h2)) ?k2)
  case h1 =>
    refine' ea_is (i := (t.2.2.length : Int)) ?hh (by rw [hrows])
    walk_at "ea"
  case h2 =>
    intro F1 Dd ys k hk
    walk_at "ls"
    refine' Evn.imp (ev_call (PA := fun l => l = [sl rTab t, sl rI (k : Int)]) (Pv := fun y => DueOk t m (fun s => s = (k : Int)) y) ?ha ?hS) fun y hy => hy.uniq (dueF_ok t m k)
    case ha => walk_at "ea"
    case hS =>
      intro ars ea
      exact ⟨_, ⟨t, (k : Int), n, m, ea, ht, by omega, by omega, rfl⟩, fun y hy => hy⟩
  case k2 =>
  walk_at "ls"
  -- from here on what comes may be spoilt
  refine go_rebase fun F1 H1 hgr hsf => ⟨_, .pin (.pin (.same (.same (.pin (.same (.pin (.same (.same (.same (.same .nil)))))))))), ?_⟩
  have hQ1 := hQ.gr hgr
  clear hQ hgr
  have anti : Anti (fun H => rLn H (rO (rLn H rI))) := rLn_anti (rO_anti (rLn_anti c_anti))
  refine' go_seq (go_set (r := rLn H1 (rO (rLn H1 rI))) (Pv := fun y => y = dueL t n m ∧ ∀ w, some w ∈ dueL t n m → w.length ≤ 1000) (ev_callN anti (PA := fun l => l = [sl rTab t]) ?ha ?hS) ?k)
  case ha => walk_at "ea"
  case hS =>
    intro ars ea
    exact ⟨_, ⟨t, n, m, ea, ht, rfl⟩, fun y ⟨e, he, hv, ey⟩ => ⟨by rw [ey]; exact fw_due ht he hv, due_len ht he hv⟩⟩
  case k =>
  rintro told ⟨rfl, hlen⟩
  walk_at "ls"
  have hdl : (dueL t n m).length = n := by unfold dueL; simp
  have hdl2 : (dueL t n m).length ≤ 1000000 := by omega
  have hlen2 : ∀ w, some w ∈ dueL t n m → w.length ≤ 1000000 := fun w hw => Nat.le_trans (hlen w hw) (by decide)
  have e_told : ∀ {F0 H0 M} {L : List Sl} {i : Nat}, L[i]? = some (sl (rLn H1 (rO (rLn H1 rI))) (dueL t n m)) → Ev F0 H0 L M (tVar i) (rL (rO (rL rI))) (dueL t n m) := fun h => Evn.rel (ev_var h) fun x F v p ⟨a, vs, e, nn, k, pr⟩ => ⟨x, p, a, vs, e, k, Paired.imp pr fun v y z => by
    cases y with
    | none => exact z
    | some y =>
      obtain ⟨z1, b, us, z2, _, z3⟩ := z
      exact ⟨z1, b, us, z2, z3⟩⟩
  refine' go_seq (go_if (b := !true) ?c3 ?x3 ?y3)
  case c3 =>
    refine' et_not (et_B (ev_call1 (ea_cons (e_told rfl) (ea_cons ?d ea_nil)) (S_isdue_i hdl2 hlen2)))
    case d => walk_at "ev"
  case x3 => exact fun h => by cases h
  case y3 =>
  intro _
  walk_at "nx"
  -- each due word leads to its state
  refine' go_seq (go_range (ι := Unit) (n := n) (fun _ _ => True) (fun _ => [sl (rAt F1 (rQ K)) ns, sl (rAt F1 (rL rI)) hd, sl rI inp, sl rI st, sl (rAt F1 rTab) t, s_, sl (rAt F1 (rL (rO (rL rI)))) (dueL t n m), sl (rLn H1 (rO (rLn H1 rI))) (dueL t n m), s_, s_, s_]) (fun _ => []) ?ea4 ?hn4 () (Wk.refl _) rfl trivial ?hs4 ?hd4)
  case ea4 =>
    refine' ea_is (i := ((dueL t n m).length : Int)) ?hh4 (by rw [hdl])
    walk_at "ea"
  case hn4 => omega
  case hs4 =>
    intro k _ hk _ N hN
    walk_at "ls"
    have gd := atI_nat (due_at (t := t) (m := m) hk)
    have fin : Go F1 H1 [sl (rAt F1 (rQ K)) ns, sl (rAt F1 (rL rI)) hd, sl rI inp, sl rI st, sl (rAt F1 rTab) t, sl rI (k : Int), sl (rAt F1 (rL (rO (rL rI)))) (dueL t n m), sl (rLn H1 (rO (rLn H1 rI))) (dueL t n m), s_, s_, s_] [] N :=
      Go.weak (.same (.same (.same (.same (.same (.drop (.same (.same (.same (.same (.same .nil))))))))))) (hN () trivial)
    have hok := dueF_ok t m k
    have hme : dueF t m k ∈ dueL t n m := List.mem_of_getElem? (due_at (t := t) (m := m) hk)
    generalize dueF t m k = o at gd hok hme
    refine' go_if (b := o.isSome && !o.isSome) ?c5 ?x5 ?y5
    case x5 =>
      intro h
      cases o <;> cases h
    case y5 =>
      intro _
      walk_at "nx"
      exact fin
    case c5 =>
      refine' et_and (et_test (ev_op ?e1 ev_non o_notN)) fun hsome => ?_
      case e1 => walk_at "ev"
      cases o with
      | none => cases hsome
      | some ww =>
        have hwd : Wd m ww := hok.1
        have hwl := hlen2 ww hme
        have hrun : runW (δ t) 0 ww = (k : Int) := hok.2.1
        refine' et_is (a := !decide (runW (δ t) 0 ww = (k : Int))) (et_test (ev_op (ev_call1 (ea_cons ?a1 (ea_cons ev_int (ea_cons (Evn.rel (r := rO (rL rI)) (P := fun y => y = some ww) ?a2 fun x F v p kk => by rw [show x = some ww from p] at kk; exact ⟨ww, rfl, kk.2⟩) ea_nil))) (S_sa_i ht (by omega) (by omega) hwd hwl)) ?a3 (oL o_neI))) (by rw [hrun]; simp)
        case a1 => walk_at "ev"
        case a2 => walk_at "ev"
        case a3 => walk_at "ev"
  case hd4 =>
  intro _ _
  walk_at "ls"
  -- a drawn word
  have hx5 : (x5.toNat : Int) = x5 := by omega
  have hr64 : ∀ s ∈ reps [(64 : Int)] x5.toNat, 0 < s ∧ s < 1073741824 := fun s hs => by
    have := reps_mem hs
    simp at this
    omega
  have hr64l : (reps [(64 : Int)] x5.toNat).length ≤ 1000000 := by rw [reps_len]; simp; omega
  have hr64s : [(64 : Int)].length * x5.toNat ≤ sizeLine := by simp; omega
  have hpl := parts_len (far ns 1) (reps [(64 : Int)] x5.toNat)
  generalize hps : parts (far ns 1) (reps [(64 : Int)] x5.toNat) = ps at hpl
  have hpsl : ps.length ≤ 24 := by rw [hpl, reps_len]; simp; omega
  have gr0 := row_at ht (s := 0) (by omega) (by omega)
  have hrl0 := row_len ht (s := 0) (by omega) (by omega)
  refine' go_seq (go_set1 (r := rL rI) (x := ps.map fun x => x.fmod ((row t 0).length : Int)) (ev_frzL (ev_lcLb (r := rI) (xs := ps) (q := rI) (fun x => x.fmod ((row t 0).length : Int)) ?hl6 (by omega) (fun _ _ _ => tw_name) ?he6)) ?k6)
  case hl6 =>
    rw [← hps]
    refine' ev_frzL (ev_callM1 (ea_cons ?q1 (ea_cons ?q2 ea_nil)) ?q3)
    case q1 => walk_at "ev"
    case q2 => walk_at "ev"
    case q3 => walk_at "sp"
  case he6 =>
    intro F2 hF2 Dd ys k x hx
    walk_at "ls"
    walk_at "ev"
  case k6 =>
  walk_at "ls"
  rw [hrl0]
  generalize hwo : (ps.map fun x => x.fmod (m : Int)) = wo
  have hwol : wo.length ≤ 24 := by rw [← hwo, List.length_map]; exact hpsl
  have hwow : Wd m wo := fun x hx => by
    rw [← hwo] at hx
    obtain ⟨y, _, e⟩ := List.mem_map.mp hx
    rw [← e]
    exact fmod_lt (by omega)
  walk_at "set"
  refine' go_seq (go_range (ι := Nat) (n := wo.length + 1) (fun k b => b = k) (fun k => [sl (rAt F1 (rQ K)) ns, sl (rAt F1 (rL rI)) hd, sl rI inp, sl rI st, sl (rAt F1 rTab) t, sl rI (runW (δ t) 0 (wo.take k)), sl (rAt F1 (rL (rO (rL rI)))) (dueL t n m), sl (rLn H1 (rO (rLn H1 rI))) (dueL t n m), sl (rL rI) wo, s_, s_]) (fun _ => []) ?ea7 ?hn7 0 (Wk.refl _) rfl rfl ?hs7 ?hd7)
  case ea7 =>
    refine' ea_is (i := (wo.length : Int) + 1) ?hh7 (by omega)
    walk_at "ea"
  case hn7 => omega
  case hs7 =>
    intro k b hk hb N hN
    subst hb
    walk_at "ls"
    have fin := hN (b + 1) rfl
    have hwk : Wd m (wo.take b) := fun x hx => hwow x (List.mem_of_mem_take hx)
    have hsv := runW_ok ht (wo.take b) 0 (by omega) (by omega) hwk
    generalize hsg : runW (δ t) 0 (wo.take b) = sg at hsv fin
    have esg : ((sg.toNat : Nat) : Int) = sg := by omega
    have gd0 := atI_nat (due_at (t := t) (m := m) (k := sg.toNat) (show sg.toNat < n by omega))
    rw [esg] at gd0
    have hok := dueF_ok t m sg.toNat
    rw [esg] at hok
    generalize dueF t m sg.toNat = o at gd0 hok
    cases o with
    | none => exact absurd hsg (hok _ hwk)
    | some v =>
      have hvd : Wd m v := hok.1
      have hmin := hok.2.2 _ hwk hsg
      have eo : Ev F1 H1 [sl (rAt F1 (rQ K)) ns, sl (rAt F1 (rL rI)) hd, sl rI inp, sl rI st, sl (rAt F1 rTab) t, sl rI sg, sl (rAt F1 (rL (rO (rL rI)))) (dueL t n m), sl (rLn H1 (rO (rLn H1 rI))) (dueL t n m), sl (rL rI) wo, sl rI (b : Int), s_] [] (tOp (rIx K) (tVar 7) (tVar 5)) (rO (rL rI)) (some v) := ev_op (e_told rfl) (ev_var rfl) (o_ixL' gd0)
      have eo2 := Evn.rel (q := rL rI) (P' := fun y => y = v) eo fun x F u p kk => by
        rw [show x = some v from p] at kk
        exact ⟨v, rfl, kk.2⟩
      refine' go_seq (go_if (b := (some v).isNone || false) (et_or (et_test (ev_op eo ev_non o_isN)) (fun _ => et_B ?c8)) ?x8 ?y8)
      case x8 => exact fun h => by cases h
      case c8 =>
        refine' Evn.imp (ev_call (PA := fun l => l = [sl (rL rI) (wo.take b), sl (rL rI) v]) (Pv := fun y => y = true → code m (wo.take b) < code m v) (ea_cons (ev_frzL (ev_slTake ?q1 ?q2)) (ea_cons eo2 ea_nil)) ?hS) fun y hy => ?_
        case q1 => walk_at "ev"
        case q2 => walk_at "ev"
        case hS =>
          intro ars ea
          exact ⟨_, ⟨wo.take b, v, m, ea, hwk, hvd, by rw [List.length_take]; omega, rfl⟩, fun y hy => hy⟩
        cases y with
        | false => rfl
        | true =>
          have := hy rfl
          omega
      case y8 =>
      intro _
      walk_at "nx"
      refine' go_if (b := decide ((b : Int) < (wo.length : Int))) ?c9 ?x9 ?y9
      case c9 => walk_at "et"
      case y9 =>
        intro hno
        have hno := of_decide_eq_false hno
        walk_at "nx"
        have e1 : wo.take (b + 1) = wo.take b := by rw [List.take_of_length_le (by omega), List.take_of_length_le (by omega)]
        rw [e1, hsg] at fin
        exact Go.weak (.same (.same (.same (.same (.same (.same (.same (.same (.same (.drop (.same .nil))))))))))) fin
      case x9 =>
        intro hy
        have hy := of_decide_eq_true hy
        have hbw : b < wo.length := by omega
        have gw := List.getElem?_eq_getElem hbw
        generalize wo[b] = z at gw
        have hzz := hwow z (List.mem_of_getElem? gw)
        have gwo := atI_nat gw
        have gr := row_at ht hsv.1 hsv.2
        have gp := pr_at ht hsv.1 hsv.2 hzz.1 hzz.2
        have e1 : wo.take (b + 1) = wo.take b ++ [z] := by rw [List.take_add_one, gw]; rfl
        rw [e1, runW_snoc, hsg] at fin
        refine' go_set1 (r := rI) (x := (pr t sg z).1) ?h9 ?k9
        case h9 => walk_at "ev"
        case k9 =>
          walk_at "ls"
          exact Go.weak (.same (.same (.same (.same (.same (.same (.same (.same (.same (.drop (.same .nil))))))))))) fin
  case hd7 =>
  intro b hb
  walk_at "ls"
  -- what came is spoilt
  refine Go.weak (L' := [sl (rAt F1 (rQ K)) ns, sl (rAt F1 (rL rI)) hd, sl rI inp, sl rI st, sl (rAt F1 rTab) t, s_, sl (rAt F1 (rL (rO (rL rI)))) (dueL t n m), sl (rLn H1 (rO (rLn H1 rI))) (dueL t n m), s_, s_, s_]) (.same (.same (.same (.same (.same (.drop (.same (.same (.drop (.same (.same .nil))))))))))) ?_
  intro σ HH ⟨FF, SS⟩
  obtain ⟨v, kv, S2⟩ := SS.pinV (i := 7) (r := rLn H1 (rO (rLn H1 rI))) (x := dueL t n m) rfl
  dsimp only [List.set_cons_zero, List.set_cons_succ] at S2
  have hind : Ind [sl (rAt F1 (rQ K)) ns, sl (rAt F1 (rL rI)) hd, sl rI inp, sl rI st, sl (rAt F1 rTab) t, s_, sl (rAt F1 (rL (rO (rL rI)))) (dueL t n m), sl rV v, s_, s_, s_] :=
    .cons ind_At (.cons ind_At (.cons ind_I (.cons ind_I (.cons ind_At (.cons ind_s (.cons ind_At (.cons ind_V (.cons ind_s (.cons ind_s (.cons ind_s .nil))))))))))
  obtain ⟨p, vs, rfl, hvl, J⟩ := Jn.of (c := 1000) S2 hind kv hlen
  refine go_spoil (K := K) (n := n) (c0 := 1000) (iv := 7) (ik := 9) hsf hind rfl rfl (by decide) (by show 9 < 11; decide) (by omega) (fun σ HH vs J => ?_) J (by rw [hvl, hdl])
  refine go_rev (K := K) hsf rfl J (fun σ HH a => ?_)
  revert σ HH
  show Go F1 H1 _ [] _
  have hres := ev_callN anti (F0 := F1) (H0 := H1) (L := [sl (rAt F1 (rQ K)) ns, sl (rAt F1 (rL rI)) hd, sl rI inp, sl rI st, sl (rAt F1 rTab) t, s_, sl (rAt F1 (rL (rO (rL rI)))) (dueL t n m), sl rV (.ref p), s_, s_, s_]) (M := []) (S := S_fw) (E := E0) (tr := tCons (tVar 4) tNil) (PA := fun l => l = [sl rTab t]) (Pv := fun y => y = dueL t n m)
    (ea_cons (ev_varS (Same.refl _) mj4) ea_nil) (fun ars ea => ⟨_, ⟨t, n, m, ea, ht, rfl⟩, fun y ⟨e, he, hv, ey⟩ => by rw [ey]; exact fw_due ht he hv⟩)
  refine go_ret1 hQ1 (y := true) (ev_call1 (ea_cons (Evn.rel (q := rL (rO (rL rI))) (P' := fun y => y = dueL t n m) hres fun x F v pp ⟨a, vs, e, nn, k, pr⟩ => ⟨x, pp, a, vs, e, k, Paired.imp pr fun v y z => by
    cases y with
    | none => exact z
    | some y =>
      obtain ⟨z1, b, us, z2, _, z3⟩ := z
      exact ⟨z1, b, us, z2, z3⟩⟩) (ea_cons (ev_varS (Same.refl _) mj6) ea_nil)) (S_isdue_i hdl2 hlen2)) rfl rfl
end

end T
/-! ### the end -/
namespace T
open PySem PySem.Spec PyProof.Rows L2
theorem all_mk {l : PySem.W.OpenLaw} {w : World} {K : PySem.W.Frag} {h : Heap} {mg : Str → Option Value} {fa : Addr} (X : K.In h) (G : h.Ns mainGlobals mg) (hfa : mg "law" = some (.ref fa))
    {f0 : Addr} {od0 an0 : Option Addr} {sl0 : Array (Option Value)} {oc0 kV0 dc0 pm0 cd0 ct0 : Value}
    {f1 : Addr} {od1 an1 : Option Addr} {sl1 : Array (Option Value)} {oc1 kV1 dc1 pm1 cd1 ct1 : Value}
    {f2 : Addr} {od2 an2 : Option Addr} {sl2 : Array (Option Value)} {oc2 kV2 dc2 pm2 cd2 ct2 : Value}
    {f3 : Addr} {od3 an3 : Option Addr} {sl3 : Array (Option Value)} {oc3 kV3 dc3 pm3 cd3 ct3 : Value}
    {f4 : Addr} {od4 an4 : Option Addr} {sl4 : Array (Option Value)} {oc4 kV4 dc4 pm4 cd4 ct4 : Value}
    {f5 : Addr} {od5 an5 : Option Addr} {sl5 : Array (Option Value)} {oc5 kV5 dc5 pm5 cd5 ct5 : Value}
    {f6 : Addr} {od6 an6 : Option Addr} {sl6 : Array (Option Value)} {oc6 kV6 dc6 pm6 cd6 ct6 : Value}
    {f7 : Addr} {od7 an7 : Option Addr} {sl7 : Array (Option Value)} {oc7 kV7 dc7 pm7 cd7 ct7 : Value}
    {f8 : Addr} {od8 an8 : Option Addr} {sl8 : Array (Option Value)} {oc8 kV8 dc8 pm8 cd8 ct8 : Value}
    {f9 : Addr} {od9 an9 : Option Addr} {sl9 : Array (Option Value)} {oc9 kV9 dc9 pm9 cd9 ct9 : Value}
    {f10 : Addr} {od10 an10 : Option Addr} {sl10 : Array (Option Value)} {oc10 kV10 dc10 pm10 cd10 ct10 : Value}
    {f11 : Addr} {od11 an11 : Option Addr} {sl11 : Array (Option Value)} {oc11 kV11 dc11 pm11 cd11 ct11 : Value}
    {f12 : Addr} {od12 an12 : Option Addr} {sl12 : Array (Option Value)} {oc12 kV12 dc12 pm12 cd12 ct12 : Value}
    {f13 : Addr} {od13 an13 : Option Addr} {sl13 : Array (Option Value)} {oc13 kV13 dc13 pm13 cd13 ct13 : Value}
    {f14 : Addr} {od14 an14 : Option Addr} {sl14 : Array (Option Value)} {oc14 kV14 dc14 pm14 cd14 ct14 : Value}
    {f15 : Addr} {od15 an15 : Option Addr} {sl15 : Array (Option Value)} {oc15 kV15 dc15 pm15 cd15 ct15 : Value}
    {f16 : Addr} {od16 an16 : Option Addr} {sl16 : Array (Option Value)} {oc16 kV16 dc16 pm16 cd16 ct16 : Value}
    {f17 : Addr} {od17 an17 : Option Addr} {sl17 : Array (Option Value)} {oc17 kV17 dc17 pm17 cd17 ct17 : Value}
    {f18 : Addr} {od18 an18 : Option Addr} {sl18 : Array (Option Value)} {oc18 kV18 dc18 pm18 cd18 ct18 : Value}
    {f19 : Addr} {od19 an19 : Option Addr} {sl19 : Array (Option Value)} {oc19 kV19 dc19 pm19 cd19 ct19 : Value}
    {f20 : Addr} {od20 an20 : Option Addr} {sl20 : Array (Option Value)} {oc20 kV20 dc20 pm20 cd20 ct20 : Value}
    {tROWS : PySem.Tok}
    (a0 : PySem.W.nsIn K mainGlobals "letter_count" = some (some (.ref f0)))
    (l0 : K.lookup f0 = some ⟨oc0, od0, .func (PySem.W.fnOf "letter_count" "letter_count" (defArgs s_letter_count) (defBody s_letter_count) (defScope s_letter_count) .none kV0 dc0 pm0 an0 cd0 ct0), sl0⟩)
    (c0 : PySem.W.codeIn K cd0 "letter_count" = true)
    (k0 : PySem.W.keepIn K (.ref f0) = true)
    (a1 : PySem.W.nsIn K mainGlobals "state_count" = some (some (.ref f1)))
    (l1 : K.lookup f1 = some ⟨oc1, od1, .func (PySem.W.fnOf "state_count" "state_count" (defArgs s_state_count) (defBody s_state_count) (defScope s_state_count) .none kV1 dc1 pm1 an1 cd1 ct1), sl1⟩)
    (c1 : PySem.W.codeIn K cd1 "state_count" = true)
    (k1 : PySem.W.keepIn K (.ref f1) = true)
    (a2 : PySem.W.nsIn K mainGlobals "is_word" = some (some (.ref f2)))
    (l2 : K.lookup f2 = some ⟨oc2, od2, .func (PySem.W.fnOf "is_word" "is_word" (defArgs s_is_word) (defBody s_is_word) (defScope s_is_word) .none kV2 dc2 pm2 an2 cd2 ct2), sl2⟩)
    (c2 : PySem.W.codeIn K cd2 "is_word" = true)
    (k2 : PySem.W.keepIn K (.ref f2) = true)
    (a3 : PySem.W.nsIn K mainGlobals "check_states" = some (some (.ref f3)))
    (l3 : K.lookup f3 = some ⟨oc3, od3, .func (PySem.W.fnOf "check_states" "check_states" (defArgs s_check_states) (defBody s_check_states) (defScope s_check_states) .none kV3 dc3 pm3 an3 cd3 ct3), sl3⟩)
    (c3 : PySem.W.codeIn K cd3 "check_states" = true)
    (k3 : PySem.W.keepIn K (.ref f3) = true)
    (a4 : PySem.W.nsIn K mainGlobals "check_words" = some (some (.ref f4)))
    (l4 : K.lookup f4 = some ⟨oc4, od4, .func (PySem.W.fnOf "check_words" "check_words" (defArgs s_check_words) (defBody s_check_words) (defScope s_check_words) .none kV4 dc4 pm4 an4 cd4 ct4), sl4⟩)
    (c4 : PySem.W.codeIn K cd4 "check_words" = true)
    (k4 : PySem.W.keepIn K (.ref f4) = true)
    (a5 : PySem.W.nsIn K mainGlobals "step" = some (some (.ref f5)))
    (l5 : K.lookup f5 = some ⟨oc5, od5, .func (PySem.W.fnOf "step" "step" (defArgs s_step) (defBody s_step) (defScope s_step) .none kV5 dc5 pm5 an5 cd5 ct5), sl5⟩)
    (c5 : PySem.W.codeIn K cd5 "step" = true)
    (k5 : PySem.W.keepIn K (.ref f5) = true)
    (a6 : PySem.W.nsIn K mainGlobals "run" = some (some (.ref f6)))
    (l6 : K.lookup f6 = some ⟨oc6, od6, .func (PySem.W.fnOf "run" "run" (defArgs s_run) (defBody s_run) (defScope s_run) .none kV6 dc6 pm6 an6 cd6 ct6), sl6⟩)
    (c6 : PySem.W.codeIn K cd6 "run" = true)
    (k6 : PySem.W.keepIn K (.ref f6) = true)
    (a7 : PySem.W.nsIn K mainGlobals "state_after" = some (some (.ref f7)))
    (l7 : K.lookup f7 = some ⟨oc7, od7, .func (PySem.W.fnOf "state_after" "state_after" (defArgs s_state_after) (defBody s_state_after) (defScope s_state_after) .none kV7 dc7 pm7 an7 cd7 ct7), sl7⟩)
    (c7 : PySem.W.codeIn K cd7 "state_after" = true)
    (k7 : PySem.W.keepIn K (.ref f7) = true)
    (a8 : PySem.W.nsIn K mainGlobals "reach" = some (some (.ref f8)))
    (l8 : K.lookup f8 = some ⟨oc8, od8, .func (PySem.W.fnOf "reach" "reach" (defArgs s_reach) (defBody s_reach) (defScope s_reach) .none kV8 dc8 pm8 an8 cd8 ct8), sl8⟩)
    (c8 : PySem.W.codeIn K cd8 "reach" = true)
    (k8 : PySem.W.keepIn K (.ref f8) = true)
    (a9 : PySem.W.nsIn K mainGlobals "first_words" = some (some (.ref f9)))
    (l9 : K.lookup f9 = some ⟨oc9, od9, .func (PySem.W.fnOf "first_words" "first_words" (defArgs s_first_words) (defBody s_first_words) (defScope s_first_words) .none kV9 dc9 pm9 an9 cd9 ct9), sl9⟩)
    (c9 : PySem.W.codeIn K cd9 "first_words" = true)
    (k9 : PySem.W.keepIn K (.ref f9) = true)
    (a10 : PySem.W.nsIn K mainGlobals "_law_far" = some (some (.ref f10)))
    (l10 : K.lookup f10 = some ⟨oc10, od10, .func (PySem.W.fnOf "_law_far" "_law_far" (defArgs s_law_far) (defBody s_law_far) (defScope s_law_far) .none kV10 dc10 pm10 an10 cd10 ct10), sl10⟩)
    (c10 : PySem.W.codeIn K cd10 "_law_far" = true)
    (k10 : PySem.W.keepIn K (.ref f10) = true)
    (a11 : PySem.W.nsIn K mainGlobals "_law_parts" = some (some (.ref f11)))
    (l11 : K.lookup f11 = some ⟨oc11, od11, .func (PySem.W.fnOf "_law_parts" "_law_parts" (defArgs s_law_parts) (defBody s_law_parts) (defScope s_law_parts) .none kV11 dc11 pm11 an11 cd11 ct11), sl11⟩)
    (c11 : PySem.W.codeIn K cd11 "_law_parts" = true)
    (k11 : PySem.W.keepIn K (.ref f11) = true)
    (a12 : PySem.W.nsIn K mainGlobals "_law_is_integer" = some (some (.ref f12)))
    (l12 : K.lookup f12 = some ⟨oc12, od12, .func (PySem.W.fnOf "_law_is_integer" "_law_is_integer" (defArgs s_law_is_integer) (defBody s_law_is_integer) (defScope s_law_is_integer) .none kV12 dc12 pm12 an12 cd12 ct12), sl12⟩)
    (c12 : PySem.W.codeIn K cd12 "_law_is_integer" = true)
    (k12 : PySem.W.keepIn K (.ref f12) = true)
    (a13 : PySem.W.nsIn K mainGlobals "_law_answer" = some (some (.ref f13)))
    (l13 : K.lookup f13 = some ⟨oc13, od13, .func (PySem.W.fnOf "_law_answer" "_law_answer" (defArgs s_law_answer) (defBody s_law_answer) (defScope s_law_answer) .none kV13 dc13 pm13 an13 cd13 ct13), sl13⟩)
    (c13 : PySem.W.codeIn K cd13 "_law_answer" = true)
    (k13 : PySem.W.keepIn K (.ref f13) = true)
    (a14 : PySem.W.nsIn K mainGlobals "_law_table" = some (some (.ref f14)))
    (l14 : K.lookup f14 = some ⟨oc14, od14, .func (PySem.W.fnOf "_law_table" "_law_table" (defArgs s_law_table) (defBody s_law_table) (defScope s_law_table) .none kV14 dc14 pm14 an14 cd14 ct14), sl14⟩)
    (c14 : PySem.W.codeIn K cd14 "_law_table" = true)
    (k14 : PySem.W.keepIn K (.ref f14) = true)
    (a15 : PySem.W.nsIn K mainGlobals "_law_fewer" = some (some (.ref f15)))
    (l15 : K.lookup f15 = some ⟨oc15, od15, .func (PySem.W.fnOf "_law_fewer" "_law_fewer" (defArgs s_law_fewer) (defBody s_law_fewer) (defScope s_law_fewer) .none kV15 dc15 pm15 an15 cd15 ct15), sl15⟩)
    (c15 : PySem.W.codeIn K cd15 "_law_fewer" = true)
    (k15 : PySem.W.keepIn K (.ref f15) = true)
    (a16 : PySem.W.nsIn K mainGlobals "_law_left" = some (some (.ref f16)))
    (l16 : K.lookup f16 = some ⟨oc16, od16, .func (PySem.W.fnOf "_law_left" "_law_left" (defArgs s_law_left) (defBody s_law_left) (defScope s_law_left) .none kV16 dc16 pm16 an16 cd16 ct16), sl16⟩)
    (c16 : PySem.W.codeIn K cd16 "_law_left" = true)
    (k16 : PySem.W.keepIn K (.ref f16) = true)
    (a17 : PySem.W.nsIn K mainGlobals "_law_due" = some (some (.ref f17)))
    (l17 : K.lookup f17 = some ⟨oc17, od17, .func (PySem.W.fnOf "_law_due" "_law_due" (defArgs s_law_due) (defBody s_law_due) (defScope s_law_due) .none kV17 dc17 pm17 an17 cd17 ct17), sl17⟩)
    (c17 : PySem.W.codeIn K cd17 "_law_due" = true)
    (k17 : PySem.W.keepIn K (.ref f17) = true)
    (a18 : PySem.W.nsIn K mainGlobals "_law_before" = some (some (.ref f18)))
    (l18 : K.lookup f18 = some ⟨oc18, od18, .func (PySem.W.fnOf "_law_before" "_law_before" (defArgs s_law_before) (defBody s_law_before) (defScope s_law_before) .none kV18 dc18 pm18 an18 cd18 ct18), sl18⟩)
    (c18 : PySem.W.codeIn K cd18 "_law_before" = true)
    (k18 : PySem.W.keepIn K (.ref f18) = true)
    (a19 : PySem.W.nsIn K mainGlobals "_law_is_due" = some (some (.ref f19)))
    (l19 : K.lookup f19 = some ⟨oc19, od19, .func (PySem.W.fnOf "_law_is_due" "_law_is_due" (defArgs s_law_is_due) (defBody s_law_is_due) (defScope s_law_is_due) .none kV19 dc19 pm19 an19 cd19 ct19), sl19⟩)
    (c19 : PySem.W.codeIn K cd19 "_law_is_due" = true)
    (k19 : PySem.W.keepIn K (.ref f19) = true)
    (a20 : PySem.W.nsIn K mainGlobals "law" = some (some (.ref f20)))
    (l20 : K.lookup f20 = some ⟨oc20, od20, .func (PySem.W.fnOf "law" "law" (defArgs s_law) (defBody s_law) (defScope s_law) .none kV20 dc20 pm20 an20 cd20 ct20), sl20⟩)
    (c20 : PySem.W.codeIn K cd20 "law" = true)
    (k20 : PySem.W.keepIn K (.ref f20) = true)
    (zValueError : PySem.W.nsIn K mainGlobals "ValueError" = some none)
    (zall : PySem.W.nsIn K mainGlobals "all" = some none)
    (zbool : PySem.W.nsIn K mainGlobals "bool" = some none)
    (zenumerate : PySem.W.nsIn K mainGlobals "enumerate" = some none)
    (zint : PySem.W.nsIn K mainGlobals "int" = some none)
    (zisinstance : PySem.W.nsIn K mainGlobals "isinstance" = some none)
    (zlen : PySem.W.nsIn K mainGlobals "len" = some none)
    (zlist : PySem.W.nsIn K mainGlobals "list" = some none)
    (zrange : PySem.W.nsIn K mainGlobals "range" = some none)
    (ztuple : PySem.W.nsIn K mainGlobals "tuple" = some none)
    (zROWS : PySem.W.nsIn K mainGlobals "ROWS" = some (some (.int 2 tROWS))) :
    ∃ fd : FuncData, (∀ (s : Shared) (v : Value), BindsTo s fd ⟨[v], []⟩ [("script", v)]) ∧ ∀ base : Heap, K.In base → base.Ns mainGlobals mg → FnOk l.prog w K mg base CX0 5 fa fd ["script"] (mkSp rB (S_law K)) := by
  have e := hfa.symm.trans (PySem.W.mg_of X G a20)
  cases e
  have F0 := fun_mk (st := s_letter_count) l0 c0 k0
  have b0 := F0.binds (ps := ["table"]) fun _ _ _ _ _ _ us hl => match us, hl with | [_], _ => rfl
  have F1 := fun_mk (st := s_state_count) l1 c1 k1
  have b1 := F1.binds (ps := ["table"]) fun _ _ _ _ _ _ us hl => match us, hl with | [_], _ => rfl
  have F2 := fun_mk (st := s_is_word) l2 c2 k2
  have b2 := F2.binds (ps := ["table", "word"]) fun _ _ _ _ _ _ us hl => match us, hl with | [_, _], _ => rfl
  have F3 := fun_mk (st := s_check_states) l3 c3 k3
  have b3 := F3.binds (ps := ["table", "states"]) fun _ _ _ _ _ _ us hl => match us, hl with | [_, _], _ => rfl
  have F4 := fun_mk (st := s_check_words) l4 c4 k4
  have b4 := F4.binds (ps := ["table", "words"]) fun _ _ _ _ _ _ us hl => match us, hl with | [_, _], _ => rfl
  have F5 := fun_mk (st := s_step) l5 c5 k5
  have b5 := F5.binds (ps := ["table", "state", "letter"]) fun _ _ _ _ _ _ us hl => match us, hl with | [_, _, _], _ => rfl
  have F6 := fun_mk (st := s_run) l6 c6 k6
  have b6 := F6.binds (ps := ["table", "state", "word"]) fun _ _ _ _ _ _ us hl => match us, hl with | [_, _, _], _ => rfl
  have F7 := fun_mk (st := s_state_after) l7 c7 k7
  have b7 := F7.binds (ps := ["table", "state", "word"]) fun _ _ _ _ _ _ us hl => match us, hl with | [_, _, _], _ => rfl
  have F8 := fun_mk (st := s_reach) l8 c8 k8
  have b8 := F8.binds (ps := ["table"]) fun _ _ _ _ _ _ us hl => match us, hl with | [_], _ => rfl
  have F9 := fun_mk (st := s_first_words) l9 c9 k9
  have b9 := F9.binds (ps := ["table"]) fun _ _ _ _ _ _ us hl => match us, hl with | [_], _ => rfl
  have F10 := fun_mk (st := s_law_far) l10 c10 k10
  have b10 := F10.binds (ps := ["script", "k"]) fun _ _ _ _ _ _ us hl => match us, hl with | [_, _], _ => rfl
  have F11 := fun_mk (st := s_law_parts) l11 c11 k11
  have b11 := F11.binds (ps := ["cell", "sizes"]) fun _ _ _ _ _ _ us hl => match us, hl with | [_, _], _ => rfl
  have F12 := fun_mk (st := s_law_is_integer) l12 c12 k12
  have b12 := F12.binds (ps := ["actual"]) fun _ _ _ _ _ _ us hl => match us, hl with | [_], _ => rfl
  have F13 := fun_mk (st := s_law_answer) l13 c13 k13
  have b13 := F13.binds (ps := ["mode", "top", "part"]) fun _ _ _ _ _ _ us hl => match us, hl with | [_, _, _], _ => rfl
  have F14 := fun_mk (st := s_law_table) l14 c14 k14
  have b14 := F14.binds (ps := ["script", "at", "head"]) fun _ _ _ _ _ _ us hl => match us, hl with | [_, _, _], _ => rfl
  have F15 := fun_mk (st := s_law_fewer) l15 c15 k15
  have b15 := F15.binds (ps := ["table", "cell"]) fun _ _ _ _ _ _ us hl => match us, hl with | [_, _], _ => rfl
  have F16 := fun_mk (st := s_law_left) l16 c16 k16
  have b16 := F16.binds (ps := ["table", "target"]) fun _ _ _ _ _ _ us hl => match us, hl with | [_, _], _ => rfl
  have F17 := fun_mk (st := s_law_due) l17 c17 k17
  have b17 := F17.binds (ps := ["table", "target"]) fun _ _ _ _ _ _ us hl => match us, hl with | [_, _], _ => rfl
  have F18 := fun_mk (st := s_law_before) l18 c18 k18
  have b18 := F18.binds (ps := ["one", "other"]) fun _ _ _ _ _ _ us hl => match us, hl with | [_, _], _ => rfl
  have F19 := fun_mk (st := s_law_is_due) l19 c19 k19
  have b19 := F19.binds (ps := ["told", "due"]) fun _ _ _ _ _ _ us hl => match us, hl with | [_, _], _ => rfl
  have F20 := fun_mk (st := s_law) l20 c20 k20
  have b20 := F20.binds (ps := ["script"]) fun _ _ _ _ _ _ us hl => match us, hl with | [_], _ => rfl
  have B : Bl mg := ⟨PySem.W.mg_none_of X G zValueError, PySem.W.mg_none_of X G zall, PySem.W.mg_none_of X G zbool, PySem.W.mg_none_of X G zenumerate, PySem.W.mg_none_of X G zint, PySem.W.mg_none_of X G zisinstance, PySem.W.mg_none_of X G zlen, PySem.W.mg_none_of X G zlist, PySem.W.mg_none_of X G zrange, PySem.W.mg_none_of X G ztuple, ⟨_, PySem.W.mg_of X G zROWS⟩⟩
  refine ⟨PySem.W.fnOf "law" "law" (defArgs s_law) (defBody s_law) (defScope s_law) .none kV20 dc20 pm20 an20 cd20 ct20, fun s v => .of_eq rfl, fun base hb hg => ?_⟩
  have d_letter_count : Df l.prog w K mg base "letter_count" ["table"] (mkSp rI S_lc) 1 := ⟨f0, _, ok_letter_count B  F0, PySem.W.mg_of X G a0, k0, b0⟩
  have d_state_count : Df l.prog w K mg base "state_count" ["table"] (mkSp rI S_sc) 1 := ⟨f1, _, ok_state_count B  F1, PySem.W.mg_of X G a1, k1, b1⟩
  have d_is_word : Df l.prog w K mg base "is_word" ["table", "word"] (mkSp rB S_iw) 2 := ⟨f2, _, ok_is_word B d_letter_count F2, PySem.W.mg_of X G a2, k2, b2⟩
  have d_check_states : Df l.prog w K mg base "check_states" ["table", "states"] (mkSp rN S_cs) 2 := ⟨f3, _, ok_check_states B d_state_count F3, PySem.W.mg_of X G a3, k3, b3⟩
  have d_check_words : Df l.prog w K mg base "check_words" ["table", "words"] (mkSp rN S_cw) 3 := ⟨f4, _, ok_check_words B d_is_word F4, PySem.W.mg_of X G a4, k4, b4⟩
  have d_step : Df l.prog w K mg base "step" ["table", "state", "letter"] (mkSp (r2 rI rI) S_step) 1 := ⟨f5, _, ok_step B  F5, PySem.W.mg_of X G a5, k5, b5⟩
  have d_run : Df l.prog w K mg base "run" ["table", "state", "word"] (mkSp (r2 (rL rI) rI) S_run) 2 := ⟨f6, _, ok_run B d_step F6, PySem.W.mg_of X G a6, k6, b6⟩
  have d_state_after : Df l.prog w K mg base "state_after" ["table", "state", "word"] (mkSp rI S_sa) 4 := ⟨f7, _, ok_state_after B d_check_states d_check_words d_run F7, PySem.W.mg_of X G a7, k7, b7⟩
  have d_reach : Df l.prog w K mg base "reach" ["table"] (mkSpN (fun H => r2 (rL rI) (rDK (rLn H rI))) S_reach) 1 := ⟨f8, _, ok_reach B  F8, PySem.W.mg_of X G a8, k8, b8⟩
  have d_first_words : Df l.prog w K mg base "first_words" ["table"] (mkSpN (fun H => rLn H (rO (rLn H rI))) S_fw) 2 := ⟨f9, _, ok_first_words B d_reach F9, PySem.W.mg_of X G a9, k9, b9⟩
  have d_law_far : Df l.prog w K mg base "_law_far" ["script", "k"] (mkSp rI (S_far K)) 1 := ⟨f10, _, ok_far B  F10, PySem.W.mg_of X G a10, k10, b10⟩
  have d_law_parts : Df l.prog w K mg base "_law_parts" ["cell", "sizes"] (mkSpM (mL rI) S_parts) 1 := ⟨f11, _, ok_parts B  F11, PySem.W.mg_of X G a11, k11, b11⟩
  have d_law_is_integer : Df l.prog w K mg base "_law_is_integer" ["actual"] (mkSp rB S_ii) 1 := ⟨f12, _, ok_is_integer B  F12, PySem.W.mg_of X G a12, k12, b12⟩
  have d_law_answer : Df l.prog w K mg base "_law_answer" ["mode", "top", "part"] (mkSp rI S_ans) 1 := ⟨f13, _, ok_answer B  F13, PySem.W.mg_of X G a13, k13, b13⟩
  have d_law_table : Df l.prog w K mg base "_law_table" ["script", "at", "head"] (mkSp rTab (S_table K)) 2 := ⟨f14, _, ok_table B d_law_far d_law_parts d_law_answer F14, PySem.W.mg_of X G a14, k14, b14⟩
  have d_law_fewer : Df l.prog w K mg base "_law_fewer" ["table", "cell"] (mkSp rTab S_fewer) 1 := ⟨f15, _, ok_fewer B  F15, PySem.W.mg_of X G a15, k15, b15⟩
  have d_law_left : Df l.prog w K mg base "_law_left" ["table", "target"] (mkSp (rDK rI) S_left) 1 := ⟨f16, _, ok_left B  F16, PySem.W.mg_of X G a16, k16, b16⟩
  have d_law_due : Df l.prog w K mg base "_law_due" ["table", "target"] (mkSp (rO (rL rI)) S_due) 2 := ⟨f17, _, ok_due B d_law_left F17, PySem.W.mg_of X G a17, k17, b17⟩
  have d_law_before : Df l.prog w K mg base "_law_before" ["one", "other"] (mkSp rB S_before) 1 := ⟨f18, _, ok_before B  F18, PySem.W.mg_of X G a18, k18, b18⟩
  have d_law_is_due : Df l.prog w K mg base "_law_is_due" ["told", "due"] (mkSp rB S_isdue) 2 := ⟨f19, _, ok_is_due B d_law_is_integer F19, PySem.W.mg_of X G a19, k19, b19⟩
  exact ok_law B d_law_parts d_law_far d_law_fewer d_law_table d_law_due d_first_words d_law_is_due d_state_after d_law_before F20
end T
open PySem PySem.W PyProof.Rows
set_option maxHeartbeats 0 in
theorem PySem.Challenge.cw_pinsalone_k63_first_words_holds : PySem.Challenge.rw_pinsalone_k63_first_words.Holds := by
  w_on; o_law; k_head; (case hw => w_witness2)
  k_fill
  refine L2.walk_ofK (l := PySem.Challenge.rw_pinsalone_k63_first_words) (n := 63) (k := 5) (x := "script") (CX := L2.CX0) (sp := fun K => T.mkSp T.rB (T.S_law K)) rfl (by decide) rfl ⟨rfl, by decide, by decide⟩ (fun w h Y => PySem.W.kIn_of Y) ?F (fun K H a ns hl hb hS => ?S) (fun _ _ _ _ h => h)
  case S => exact ⟨_, _, _, ⟨ns, rfl, rfl⟩, L2.Same.refl _, .cons ⟨_, rfl, a, rfl, hS⟩ .nil, fun y v H' F' hy _ _ hv => by rw [show y = true from hy] at hv; exact hv⟩
  case F =>
    intro w mg fa h KX G hmg
    refine' T.all_mk KX G hmg ?a0 ?l0 ?c0 ?k0 ?a1 ?l1 ?c1 ?k1 ?a2 ?l2 ?c2 ?k2 ?a3 ?l3 ?c3 ?k3 ?a4 ?l4 ?c4 ?k4 ?a5 ?l5 ?c5 ?k5 ?a6 ?l6 ?c6 ?k6 ?a7 ?l7 ?c7 ?k7 ?a8 ?l8 ?c8 ?k8 ?a9 ?l9 ?c9 ?k9 ?a10 ?l10 ?c10 ?k10 ?a11 ?l11 ?c11 ?k11 ?a12 ?l12 ?c12 ?k12 ?a13 ?l13 ?c13 ?k13 ?a14 ?l14 ?c14 ?k14 ?a15 ?l15 ?c15 ?k15 ?a16 ?l16 ?c16 ?k16 ?a17 ?l17 ?c17 ?k17 ?a18 ?l18 ?c18 ?k18 ?a19 ?l19 ?c19 ?k19 ?a20 ?l20 ?c20 ?k20 ?zValueError ?zall ?zbool ?zenumerate ?zint ?zisinstance ?zlen ?zlist ?zrange ?ztuple ?zROWS
    (case a0 => k_is)
    (case l0 => k_is)
    (case c0 => k_is)
    (case k0 => k_is)
    (case a1 => k_is)
    (case l1 => k_is)
    (case c1 => k_is)
    (case k1 => k_is)
    (case a2 => k_is)
    (case l2 => k_is)
    (case c2 => k_is)
    (case k2 => k_is)
    (case a3 => k_is)
    (case l3 => k_is)
    (case c3 => k_is)
    (case k3 => k_is)
    (case a4 => k_is)
    (case l4 => k_is)
    (case c4 => k_is)
    (case k4 => k_is)
    (case a5 => k_is)
    (case l5 => k_is)
    (case c5 => k_is)
    (case k5 => k_is)
    (case a6 => k_is)
    (case l6 => k_is)
    (case c6 => k_is)
    (case k6 => k_is)
    (case a7 => k_is)
    (case l7 => k_is)
    (case c7 => k_is)
    (case k7 => k_is)
    (case a8 => k_is)
    (case l8 => k_is)
    (case c8 => k_is)
    (case k8 => k_is)
    (case a9 => k_is)
    (case l9 => k_is)
    (case c9 => k_is)
    (case k9 => k_is)
    (case a10 => k_is)
    (case l10 => k_is)
    (case c10 => k_is)
    (case k10 => k_is)
    (case a11 => k_is)
    (case l11 => k_is)
    (case c11 => k_is)
    (case k11 => k_is)
    (case a12 => k_is)
    (case l12 => k_is)
    (case c12 => k_is)
    (case k12 => k_is)
    (case a13 => k_is)
    (case l13 => k_is)
    (case c13 => k_is)
    (case k13 => k_is)
    (case a14 => k_is)
    (case l14 => k_is)
    (case c14 => k_is)
    (case k14 => k_is)
    (case a15 => k_is)
    (case l15 => k_is)
    (case c15 => k_is)
    (case k15 => k_is)
    (case a16 => k_is)
    (case l16 => k_is)
    (case c16 => k_is)
    (case k16 => k_is)
    (case a17 => k_is)
    (case l17 => k_is)
    (case c17 => k_is)
    (case k17 => k_is)
    (case a18 => k_is)
    (case l18 => k_is)
    (case c18 => k_is)
    (case k18 => k_is)
    (case a19 => k_is)
    (case l19 => k_is)
    (case c19 => k_is)
    (case k19 => k_is)
    (case a20 => k_is)
    (case l20 => k_is)
    (case c20 => k_is)
    (case k20 => k_is)
    (case zValueError => k_is)
    (case zall => k_is)
    (case zbool => k_is)
    (case zenumerate => k_is)
    (case zint => k_is)
    (case zisinstance => k_is)
    (case zlen => k_is)
    (case zlist => k_is)
    (case zrange => k_is)
    (case ztuple => k_is)
    (case zROWS => k_is)
