import PyProof.Rows.All
import Wide.All
import OpenK.AllK
import Wide.FinOn
import HandS.ForMost
import HandS.ForExc
import HandS.Evl
import HandS.HeadHook2
import HandS.Defaults
import HandS.CallSlots
import HandS.IsInst
import HandS.Wide
import HandS.WideBits
import HandS.Gcd
import HandS.SortRule
import HandS.SortInts
import HandS.Zip
import KE.DatumOrd
import HandS.Head0
import HandS.Head1
import HandS.Head2
import HandS.HeadEnd
import HandS.HeadHook1
import PySem.Challenge.RW_productrows_k12_whole_rows_far_out
set_option Elab.async false
set_option linter.all false
section
set_option Elab.async false
set_option linter.all false
set_option maxRecDepth 100000
/-! Mx: a layer of value semantics over HandS. Data D (trees), environments of cells, mirrors M : Env → ER RV;
a judgement «the expression e keeps the mirror m» for every construct. -/
namespace L2.MX
open PySem PySem.Spec PyProof.Rows

/-! ### data -/
inductive D where
  | non | bl (b : Bool) | int (i : Int) | str (x : Str)
  | tup (ds : List D) | lst (ds : List D) | flst (ds : List D) | ftup (ds : List D) | dic (ks : List Key) (ds : List D)

mutual
def Rep (K : PySem.W.Frag) (G : Hp) : D → V → Prop
  | .non, v => v = .non
  | .bl b, v => v = .bl b
  | .int i, v => v = .int i
  | .str x, v => v = .str x
  | .tup ds, v => ∃ a vs, v = .ref a ∧ G a = some (.tup vs) ∧ Reps K G ds vs
  | .lst ds, v => ∃ a vs, v = .ref a ∧ G a = some (.lst vs) ∧ Reps K G ds vs
  | .flst ds, v => ∃ a vs, v = .ref a ∧ SqL K G a vs ∧ Reps K G ds vs
  | .ftup ds, v => ∃ a vs, v = .ref a ∧ SqT K G a vs ∧ Reps K G ds vs
  | .dic ks ds, v => ∃ a vs, v = .ref a ∧ G a = some (.dK (ks.zip vs)) ∧ ks.length = vs.length ∧ Reps K G ds vs
def Reps (K : PySem.W.Frag) (G : Hp) : List D → List V → Prop
  | [], vs => vs = []
  | d :: ds, vs => ∃ v r, vs = v :: r ∧ Rep K G d v ∧ Reps K G ds r
end

/-- G is within H -/
abbrev Ex (G H : Hp) : Prop := ∀ a o, G a = some o → H a = some o
theorem Ex.refl (G : Hp) : Ex G G := fun _ _ h => h
theorem Ex.trans {A B C : Hp} (h : Ex A B) (k : Ex B C) : Ex A C := fun a o e => k a o (h a o e)

section
variable {K : PySem.W.Frag} {G G' : Hp}
theorem sqL_mono {a : Addr} {vs : List V} (e : Ex G G') (h : SqL K G a vs) : SqL K G' a vs := Evl.ex_l e h
theorem sqT_mono {a : Addr} {vs : List V} (e : Ex G G') (h : SqT K G a vs) : SqT K G' a vs := Evl.ex_t e h
mutual
theorem Rep.mono (e : Ex G G') : ∀ (d : D) {v : V}, Rep K G d v → Rep K G' d v
  | .non, _, h => h
  | .bl _, _, h => h
  | .int _, _, h => h
  | .str _, _, h => h
  | .tup ds, _, h => by
    obtain ⟨a, vs, rfl, hs, hr⟩ := h
    exact ⟨a, vs, rfl, e _ _ hs, Reps.mono e ds hr⟩
  | .lst ds, _, h => by
    obtain ⟨a, vs, rfl, hs, hr⟩ := h
    exact ⟨a, vs, rfl, e _ _ hs, Reps.mono e ds hr⟩
  | .ftup ds, _, h => by
    obtain ⟨a, vs, rfl, hs, hr⟩ := h
    exact ⟨a, vs, rfl, sqT_mono e hs, Reps.mono e ds hr⟩
  | .flst ds, _, h => by
    obtain ⟨a, vs, rfl, hs, hr⟩ := h
    exact ⟨a, vs, rfl, sqL_mono e hs, Reps.mono e ds hr⟩
  | .dic ks ds, _, h => by
    obtain ⟨a, vs, rfl, hs, hl, hr⟩ := h
    exact ⟨a, vs, rfl, e _ _ hs, hl, Reps.mono e ds hr⟩
theorem Reps.mono (e : Ex G G') : ∀ (ds : List D) {vs : List V}, Reps K G ds vs → Reps K G' ds vs
  | [], _, h => h
  | d :: ds, _, h => by
    obtain ⟨v, r, rfl, hv, hr⟩ := h
    exact ⟨v, r, rfl, Rep.mono e d hv, Reps.mono e ds hr⟩
end
theorem Reps.length : ∀ {ds : List D} {vs : List V}, Reps K G ds vs → ds.length = vs.length
  | [], vs, h => by
    have e : vs = [] := h
    subst e
    rfl
  | d :: ds, _, h => by
    obtain ⟨v, r, rfl, _, hr⟩ := h
    simp [Reps.length hr]
theorem Reps.get : ∀ {ds : List D} {vs : List V} {i : Nat} {d : D}, Reps K G ds vs → ds[i]? = some d → ∃ v, vs[i]? = some v ∧ Rep K G d v
  | [], _, i, d, _, e => by simp at e
  | c :: ds, _, 0, d, h, e => by
    obtain ⟨v, r, rfl, hv, _⟩ := h
    simp at e; subst e
    exact ⟨v, rfl, hv⟩
  | c :: ds, _, i + 1, d, h, e => by
    obtain ⟨v, r, rfl, _, hr⟩ := h
    obtain ⟨w, h1, h2⟩ := Reps.get (i := i) (d := d) hr (by simpa using e)
    exact ⟨w, by simpa using h1, h2⟩
theorem Reps.get' : ∀ {ds : List D} {vs : List V} {i : Nat} {v : V}, Reps K G ds vs → vs[i]? = some v → ∃ d, ds[i]? = some d ∧ Rep K G d v := fun {ds vs i v} h e => by
  have hl := h.length
  obtain ⟨hi, _⟩ := List.getElem?_eq_some_iff.mp e
  have hd : ds[i]? = some (ds[i]'(by omega)) := List.getElem?_eq_getElem (by omega)
  obtain ⟨w, h1, h2⟩ := h.get hd
  rw [e] at h1; cases h1
  exact ⟨_, hd, h2⟩
theorem Reps.append : ∀ {ds es : List D} {vs ws : List V}, Reps K G ds vs → Reps K G es ws → Reps K G (ds ++ es) (vs ++ ws)
  | [], _, _, _, h, k => by
    have e : _ = [] := h
    subst e
    exact k
  | d :: ds, _, _, _, h, k => by
    obtain ⟨v, r, rfl, hv, hr⟩ := h
    exact ⟨v, _, rfl, hv, Reps.append hr k⟩
theorem Reps.one {d : D} {v : V} (h : Rep K G d v) : Reps K G [d] [v] := ⟨v, [], rfl, h, rfl⟩
theorem Reps.set : ∀ {ds : List D} {vs : List V} (i : Nat) {d : D} {v : V}, Rep K G d v → Reps K G ds vs → Reps K G (ds.set i d) (vs.set i v)
  | [], _, _, _, _, _, h => by
    have e : _ = [] := h
    subst e
    exact rfl
  | c :: ds, _, 0, d, v, hd, h => by
    obtain ⟨w, r, rfl, _, hr⟩ := h
    exact ⟨v, r, rfl, hd, hr⟩
  | c :: ds, _, i + 1, d, v, hd, h => by
    obtain ⟨w, r, rfl, hw, hr⟩ := h
    exact ⟨w, _, rfl, hw, Reps.set i hd hr⟩
theorem Reps.drop : ∀ {ds : List D} {vs : List V} (n : Nat), Reps K G ds vs → Reps K G (ds.drop n) (vs.drop n)
  | _, _, 0, h => h
  | [], _, n + 1, h => by
    have e : _ = [] := h
    subst e
    exact rfl
  | _ :: _, _, n + 1, h => by
    obtain ⟨w, r, rfl, _, hr⟩ := h
    exact Reps.drop n hr
theorem Reps.take : ∀ {ds : List D} {vs : List V} (n : Nat), Reps K G ds vs → Reps K G (ds.take n) (vs.take n)
  | [], _, n, h => by
    have e : _ = [] := h
    subst e
    cases n <;> exact rfl
  | _ :: _, _, 0, h => rfl
  | _ :: _, _, n + 1, h => by
    obtain ⟨w, r, rfl, hw, hr⟩ := h
    exact ⟨w, _, rfl, hw, Reps.take n hr⟩
theorem Reps.eraseIdx : ∀ {ds : List D} {vs : List V} (n : Nat), Reps K G ds vs → Reps K G (ds.eraseIdx n) (vs.eraseIdx n)
  | [], _, n, h => by
    have e : _ = [] := h
    subst e
    exact rfl
  | _ :: _, _, 0, h => by
    obtain ⟨w, r, rfl, hw, hr⟩ := h
    exact hr
  | _ :: _, _, n + 1, h => by
    obtain ⟨w, r, rfl, hw, hr⟩ := h
    exact ⟨w, _, rfl, hw, Reps.eraseIdx n hr⟩
theorem Reps.rep : ∀ {d : D} {v : V} (n : Nat), Rep K G d v → Reps K G (List.replicate n d) (List.replicate n v)
  | _, _, 0, _ => rfl
  | _, _, n + 1, h => ⟨_, _, rfl, h, Reps.rep n h⟩
theorem Reps.ints : ∀ (ns : List Int), Reps K G (ns.map D.int) (ns.map V.int)
  | [] => rfl
  | _ :: ns => ⟨_, _, rfl, rfl, Reps.ints ns⟩
end

/-! ### environments -/
inductive Cell where
  | un | pl (d : D) | ow (d : D) | io (d : D)
abbrev Env := List Cell
/-- what an expression gives: plain data | a new list or dict that none else holds -/
inductive RV where
  | pl (d : D) | fr (d : D)
def RV.d : RV → D
  | .pl d => d
  | .fr d => d
structure Exc where
  cls : Str
  fs : List Str
  ds : List D
inductive ER (α : Type) where
  | bad | ok (a : α) (ρ : Env) | ex (x : Exc) (ρ : Env)
inductive SR where
  | bad | nx (ρ : Env) | br (ρ : Env) | ct (ρ : Env) | rt (r : RV) (ρ : Env) | ex (x : Exc) (ρ : Env)
abbrev M := Env → ER RV
abbrev MT := Env → ER Bool
abbrev MS := Env → SR

/-- a is a list or dict of d; what is within stands in G -/
def Top (K : PySem.W.Frag) (G H : Hp) (a : Addr) : D → Prop
  | .lst ds => ∃ vs, H a = some (.lst vs) ∧ Reps K G ds vs
  | .dic ks ds => ∃ vs, H a = some (.dK (ks.zip vs)) ∧ ks.length = vs.length ∧ Reps K G ds vs
  | _ => False
/-- slot i is owned, with d -/
def Owns (ρ : Env) (i : Nat) (d : D) : Prop := ρ[i]? = some (Cell.ow d) ∨ ρ[i]? = some (Cell.io d)
def Own (σ : St) (ρ : Env) (a : Addr) : Prop := ∃ (i : Nat) (d : D), Owns ρ i d ∧ σ[i]? = some (some (.ref a))

structure Rel (K : PySem.W.Frag) (G H : Hp) (σ : St) (ρ : Env) : Prop where
  sub : Ex G H
  len : σ.length = ρ.length
  pl : ∀ (i : Nat) (d : D), ρ[i]? = some (Cell.pl d) → ∃ v, σ[i]? = some (some v) ∧ Rep K G d v
  ow : ∀ (i : Nat) (d : D), Owns ρ i d → ∃ a, σ[i]? = some (some (.ref a)) ∧ G a = none ∧ Top K G H a d
  dis : ∀ (i j : Nat) (d e : D) (a : Addr), Owns ρ i d → Owns ρ j e → σ[i]? = some (some (.ref a)) → σ[j]? = some (some (.ref a)) → i = j

/-- from (G, H) to (G', H'): I may be written, else only new objects come -/
structure Go (I : Addr → Prop) (G H G' H' : Hp) : Prop where
  ext : Ex G G'
  keep : ∀ a o, H a = some o → ¬ I a → H' a = some o
  live : ∀ a o, H a = some o → ∃ o', H' a = some o'
  new : ∀ a o, G' a = some o → G a = some o ∨ H a = none ∨ I a
/-- the owned slots stay owned or are let go -/
def Sub (ρ ρ' : Env) : Prop := ∀ i : Nat, (∀ d : D, ρ'[i]? = some (Cell.ow d) → ∃ c : D, ρ[i]? = some (Cell.ow c)) ∧ (∀ d : D, ρ'[i]? = some (Cell.io d) → ∃ c : D, ρ[i]? = some (Cell.io c))
def RVok (K : PySem.W.Frag) (G' H H' : Hp) : RV → V → Prop
  | .pl d, v => Rep K G' d v
  | .fr d, v => ∃ a, v = .ref a ∧ H a = none ∧ G' a = none ∧ Top K G' H' a d

abbrev NoI : Addr → Prop := fun _ => False

section
variable {K : PySem.W.Frag} {I J : Addr → Prop} {G H G1 H1 G2 H2 : Hp} {σ σ' : St} {ρ ρ1 ρ2 : Env}
theorem Sub.refl (ρ : Env) : Sub ρ ρ := fun _ => ⟨fun d h => ⟨d, h⟩, fun d h => ⟨d, h⟩⟩
theorem Sub.trans {a b c : Env} (h : Sub a b) (k : Sub b c) : Sub a c := fun i =>
  ⟨fun d e => by obtain ⟨d1, e1⟩ := (k i).1 d e; exact (h i).1 d1 e1, fun d e => by obtain ⟨d1, e1⟩ := (k i).2 d e; exact (h i).2 d1 e1⟩
theorem Sub.owns (s : Sub ρ ρ1) {i : Nat} {d : D} (h : Owns ρ1 i d) : ∃ c, Owns ρ i c := by
  rcases h with h | h
  · obtain ⟨c, e⟩ := (s i).1 d h; exact ⟨c, .inl e⟩
  · obtain ⟨c, e⟩ := (s i).2 d h; exact ⟨c, .inr e⟩
theorem Sub.own (s : Sub ρ ρ1) {a : Addr} (h : Own σ ρ1 a) : Own σ ρ a := by
  obtain ⟨i, d, h1, h2⟩ := h
  obtain ⟨c, hc⟩ := s.owns h1
  exact ⟨i, c, hc, h2⟩
theorem Go.refl : Go I G H G H := ⟨Ex.refl G, fun _ _ h _ => h, fun _ o h => ⟨o, h⟩, fun _ _ h => .inl h⟩
theorem Go.weak (g : Go I G H G1 H1) (h : ∀ a, I a → J a) : Go J G H G1 H1 :=
  ⟨g.ext, fun a o e n => g.keep a o e fun z => n (h a z), g.live, fun a o e => (g.new a o e).imp id (Or.imp id (h a))⟩
theorem Go.trans (a : Go I G H G1 H1) (b : Go J G1 H1 G2 H2) (hj : ∀ x, J x → I x ∨ H x = none) : Go I G H G2 H2 where
  ext := a.ext.trans b.ext
  keep := fun x o e n => b.keep x o (a.keep x o e n) fun z => by
    rcases hj x z with z | z
    · exact n z
    · rw [e] at z; cases z
  live := fun x o e => by
    obtain ⟨o1, e1⟩ := a.live x o e
    exact b.live x o1 e1
  new := fun x o e => by
    have dead : H1 x = none → H x = none := fun z => by
      cases q : H x with
      | none => rfl
      | some u =>
        obtain ⟨o1, e1⟩ := a.live x u q
        rw [z] at e1; cases e1
    rcases b.new x o e with z | z | z
    · exact a.new x o z
    · exact .inr (.inl (dead z))
    · rcases hj x z with y | y
      · exact .inr (.inr y)
      · exact .inr (.inl y)
theorem Go.trans0 (a : Go I G H G1 H1) (b : Go NoI G1 H1 G2 H2) : Go I G H G2 H2 := a.trans b fun _ z => z.elim
theorem Go.fresh (g : Go I G H G1 H1) {a : Addr} (h : H1 a = none) : H a = none := by
  cases q : H a with
  | none => rfl
  | some u =>
    obtain ⟨o1, e1⟩ := g.live a u q
    rw [h] at e1; cases e1
theorem Top.alive {a : Addr} : ∀ {d : D}, Top K G H a d → ∃ o, H a = some o
  | .lst _, ⟨_, h, _⟩ => ⟨_, h⟩
  | .dic _ _, ⟨_, h, _, _⟩ => ⟨_, h⟩
  | .non, h => h.elim
  | .bl _, h => h.elim
  | .int _, h => h.elim
  | .str _, h => h.elim
  | .tup _, h => h.elim
  | .flst _, h => h.elim
  | .ftup _, h => h.elim
theorem Top.mono {a : Addr} (e : Ex G G1) (k : ∀ o, H a = some o → H1 a = some o) : ∀ {d : D}, Top K G H a d → Top K G1 H1 a d
  | .lst ds, ⟨vs, h, r⟩ => ⟨vs, k _ h, Reps.mono e ds r⟩
  | .dic _ ds, ⟨vs, h, l, r⟩ => ⟨vs, k _ h, l, Reps.mono e ds r⟩
  | .non, h => h.elim
  | .bl _, h => h.elim
  | .int _, h => h.elim
  | .str _, h => h.elim
  | .tup _, h => h.elim
  | .flst _, h => h.elim
  | .ftup _, h => h.elim
/-- published: it stands in G -/
theorem Top.rep {a : Addr} (e : Ex G G1) (k : G1 a = H a) : ∀ {d : D}, Top K G H a d → Rep K G1 d (.ref a)
  | .lst ds, ⟨vs, h, r⟩ => ⟨a, vs, rfl, k.trans h, Reps.mono e ds r⟩
  | .dic _ ds, ⟨vs, h, l, r⟩ => ⟨a, vs, rfl, k.trans h, l, Reps.mono e ds r⟩
  | .non, h => h.elim
  | .bl _, h => h.elim
  | .int _, h => h.elim
  | .str _, h => h.elim
  | .tup _, h => h.elim
  | .flst _, h => h.elim
  | .ftup _, h => h.elim
theorem Rel.alive (r : Rel K G H σ ρ) {a : Addr} (h : Own σ ρ a) : ∃ o, H a = some o := by
  obtain ⟨i, d, h1, h2⟩ := h
  obtain ⟨b, e1, _, t⟩ := r.ow i d h1
  rw [h2] at e1; cases e1
  exact t.alive
theorem Rel.out (r : Rel K G H σ ρ) {a : Addr} (h : Own σ ρ a) : G a = none := by
  obtain ⟨i, d, h1, h2⟩ := h
  obtain ⟨b, e1, n, _⟩ := r.ow i d h1
  rw [h2] at e1; cases e1
  exact n
/-- the environment stands through a step that writes nothing -/
theorem Rel.step (r : Rel K G H σ ρ) (g : Go NoI G H G1 H1) (s : Ex G1 H1) : Rel K G1 H1 σ ρ where
  sub := s
  len := r.len
  pl := fun i d h => by
    obtain ⟨v, e, q⟩ := r.pl i d h
    exact ⟨v, e, Rep.mono g.ext d q⟩
  ow := fun i d h => by
    obtain ⟨a, e, n, t⟩ := r.ow i d h
    refine ⟨a, e, ?_, t.mono g.ext fun o z => g.keep a o z fun y => y⟩
    cases q : G1 a with
    | none => rfl
    | some o =>
      obtain ⟨u, hu⟩ := t.alive
      rcases g.new a o q with z | z | z
      · rw [n] at z; cases z
      · rw [hu] at z; cases z
      · exact z.elim
  dis := r.dis
/-- a new object of which none knows comes into G -/
theorem publish (r0 : Rel K G H σ ρ) (g : Go (Own σ ρ) G H G1 H1) (r : Rel K G1 H1 σ ρ1) (s : Sub ρ ρ1) {rv : RV} {v : V} (h : RVok K G1 H H1 rv v) :
    ∃ G2, Go (Own σ ρ) G H G2 H1 ∧ Rel K G2 H1 σ ρ1 ∧ Ex G1 G2 ∧ Rep K G2 rv.d v := by
  cases rv with
  | pl d => exact ⟨G1, g, r, Ex.refl _, h⟩
  | fr d =>
    obtain ⟨a, rfl, ha, hg, t⟩ := h
    obtain ⟨o, ho⟩ := t.alive
    have ex : Ex G1 (upd G1 a o) := fun b u e => by
      by_cases hb : b = a
      · rw [hb, hg] at e; cases e
      · rw [upd_ne hb]; exact e
    have nown : ∀ b, Own σ ρ1 b → b ≠ a := fun b hb z => by
      obtain ⟨u, hu⟩ := r0.alive (s.own hb)
      rw [z, ha] at hu; cases hu
    refine ⟨upd G1 a o, ⟨g.ext.trans ex, g.keep, g.live, fun b u e => ?_⟩, ⟨fun b u e => ?_, r.len, fun i d h => ?_, fun i d h => ?_, r.dis⟩, ex, t.rep ex (by rw [upd_same, ho])⟩
    · by_cases hb : b = a
      · rw [hb]; exact .inr (.inl ha)
      · rw [upd_ne hb] at e; exact g.new b u e
    · by_cases hb : b = a
      · rw [hb, upd_same] at e; rw [hb, ← e]; exact ho
      · rw [upd_ne hb] at e; exact r.sub b u e
    · obtain ⟨v, e, q⟩ := r.pl i d h
      exact ⟨v, e, Rep.mono ex d q⟩
    · obtain ⟨b, e, n, t⟩ := r.ow i d h
      refine ⟨b, e, ?_, t.mono ex fun _ z => z⟩
      rw [upd_ne (nown b ⟨i, d, h, e⟩)]
      exact n
end

/-! ### an exception's data: its class by name, its fields -/
def XRep (K : PySem.W.Frag) (G H : Hp) (x : Exc) (cls : Value) (d : Option Addr) : Prop :=
  cls = .ref (He.ga K x.cls) ∧ ∃ (dd : Addr) (vs : List V), d = some dd ∧ G dd = none ∧ H dd = some (.xd (x.fs.zip vs)) ∧ x.fs.length = vs.length ∧ Reps K G x.ds vs

/-! ### what a mirror's answer asks of what follows -/
def PostE (K : PySem.W.Frag) (G H : Hp) (σ : St) (ρ : Env) (W : WX) (Q : VK) : ER RV → Prop
  | .bad => False
  | .ok r ρ1 => ∀ v G1 H1, Go (Own σ ρ) G H G1 H1 → Rel K G1 H1 σ ρ1 → Sub ρ ρ1 → RVok K G1 H H1 r v → Q v H1
  | .ex x ρ1 => ∀ cls d G1 H1, Go (Own σ ρ) G H G1 H1 → Rel K G1 H1 σ ρ1 → Sub ρ ρ1 → XRep K G1 H1 x cls d → W cls d σ H1
def PostT (K : PySem.W.Frag) (G H : Hp) (σ : St) (ρ : Env) (W : WX) (Q : Bool → Hp → Prop) : ER Bool → Prop
  | .bad => False
  | .ok b ρ1 => ∀ G1 H1, Go (Own σ ρ) G H G1 H1 → Rel K G1 H1 σ ρ1 → Sub ρ ρ1 → Q b H1
  | .ex x ρ1 => ∀ cls d G1 H1, Go (Own σ ρ) G H G1 H1 → Rel K G1 H1 σ ρ1 → Sub ρ ρ1 → XRep K G1 H1 x cls d → W cls d σ H1
/-- a statement's step -/
structure Ss (G H : Hp) (σ : St) (ρ : Env) (G1 H1 : Hp) (σ1 : St) (ρ1 : Env) : Prop where
  go : Go (Own σ ρ) G H G1 H1
  own : ∀ a, Own σ1 ρ1 a → Own σ ρ a ∨ H a = none
  io : ∀ (i : Nat) (d : D), ρ1[i]? = some (Cell.io d) → σ1[i]? = σ[i]? ∧ ∃ c : D, ρ[i]? = some (Cell.io c)
def PostS (K : PySem.W.Frag) (G H : Hp) (σ : St) (ρ : Env) (W : WX) (D : Ends) : SR → Prop
  | .bad => False
  | .nx ρ1 => ∀ σ1 G1 H1, Ss G H σ ρ G1 H1 σ1 ρ1 → Rel K G1 H1 σ1 ρ1 → D.nx σ1 H1
  | .br ρ1 => ∀ σ1 G1 H1, Ss G H σ ρ G1 H1 σ1 ρ1 → Rel K G1 H1 σ1 ρ1 → D.bk σ1 H1
  | .ct ρ1 => ∀ σ1 G1 H1, Ss G H σ ρ G1 H1 σ1 ρ1 → Rel K G1 H1 σ1 ρ1 → D.ct σ1 H1
  | .rt r ρ1 => ∀ σ1 v G1 H1, Ss G H σ ρ G1 H1 σ1 ρ1 → Rel K G1 H1 σ1 ρ1 → RVok K G1 H H1 r v → D.rt v H1
  | .ex x ρ1 => ∀ cls d σ1 G1 H1, Ss G H σ ρ G1 H1 σ1 ρ1 → Rel K G1 H1 σ1 ρ1 → XRep K G1 H1 x cls d → W cls d σ1 H1
def tM (K : PySem.W.Frag) (W : WX) (m : M) : TE := fun σ H Q => ∃ G ρ, Rel K G H σ ρ ∧ PostE K G H σ ρ W Q (m ρ)
def tMT (K : PySem.W.Frag) (W : WX) (m : MT) : TT := fun σ H Q => ∃ G ρ, Rel K G H σ ρ ∧ PostT K G H σ ρ W Q (m ρ)
def tMS (K : PySem.W.Frag) (W : WX) (m : MS) : TS := fun D σ H => ∃ G ρ, Rel K G H σ ρ ∧ PostS K G H σ ρ W D (m ρ)

theorem _root_.L2.PE.imp {X : Cx} {e : Expr} {t t' : TE} (h : PE X e t) (k : ∀ σ H Q, t' σ H Q → t σ H Q) : PE X e t' := ⟨fun pins s σ H Q I q => h.run pins s σ H Q I (k σ H Q q)⟩
theorem _root_.L2.PT.imp {X : Cx} {e : Expr} {t t' : TT} (h : PT X e t) (k : ∀ σ H Q, t' σ H Q → t σ H Q) : PT X e t' := ⟨fun pins s σ H Q I q => h.run pins s σ H Q I (k σ H Q q)⟩
theorem _root_.L2.PS.imp {X : Cx} {e : Stmt} {t t' : TS} (h : PS X e t) (k : ∀ D σ H, t' D σ H → t D σ H) : PS X e t' := ⟨fun pins s σ H D I q => h.run pins s σ H D I (k D σ H q)⟩
theorem _root_.L2.PSs.imp {X : Cx} {e : List Stmt} {t t' : TS} (h : PSs X e t) (k : ∀ D σ H, t' D σ H → t D σ H) : PSs X e t' := ⟨fun pins s σ H D I q => h.run pins s σ H D I (k D σ H q)⟩

/-! ### sequencing -/
def bindM {α β : Type} (a : ER α) (k : α → Env → ER β) : ER β := match a with
  | .bad => .bad
  | .ok r ρ => k r ρ
  | .ex x ρ => .ex x ρ
section
variable {K : PySem.W.Frag} {G H G1 H1 : Hp} {σ : St} {ρ ρ1 : Env} {W : WX} {Q : VK}
/-- what holds behind a first step holds behind both -/
theorem PostE.after (r0 : Rel K G H σ ρ) (g : Go (Own σ ρ) G H G1 H1) (s : Sub ρ ρ1) {e : ER RV} (h : PostE K G H σ ρ W Q e) : PostE K G1 H1 σ ρ1 W Q e := by
  have go2 : ∀ {G2 H2}, Go (Own σ ρ1) G1 H1 G2 H2 → Go (Own σ ρ) G H G2 H2 := fun g2 => g.trans g2 fun x z => .inl (s.own z)
  cases e with
  | bad => exact h
  | ok r ρ2 =>
    intro v G2 H2 g2 r2 s2 q
    refine h v G2 H2 (go2 g2) r2 (s.trans s2) ?_
    cases r with
    | pl d => exact q
    | fr d =>
      obtain ⟨a, e, n, z⟩ := q
      exact ⟨a, e, g.fresh n, z⟩
  | ex x ρ2 => exact fun cls d G2 H2 g2 r2 s2 q => h cls d G2 H2 (go2 g2) r2 (s.trans s2) q
theorem PostT.after {Q : Bool → Hp → Prop} (g : Go (Own σ ρ) G H G1 H1) (s : Sub ρ ρ1) {e : ER Bool} (h : PostT K G H σ ρ W Q e) : PostT K G1 H1 σ ρ1 W Q e := by
  have go2 : ∀ {G2 H2}, Go (Own σ ρ1) G1 H1 G2 H2 → Go (Own σ ρ) G H G2 H2 := fun g2 => g.trans g2 fun x z => .inl (s.own z)
  cases e with
  | bad => exact h
  | ok r ρ2 => exact fun G2 H2 g2 r2 s2 => h G2 H2 (go2 g2) r2 (s.trans s2)
  | ex x ρ2 => exact fun cls d G2 H2 g2 r2 s2 q => h cls d G2 H2 (go2 g2) r2 (s.trans s2) q
theorem Ss.refl (G H : Hp) (σ : St) (ρ : Env) : Ss G H σ ρ G H σ ρ := ⟨Go.refl, fun _ h => .inl h, fun _ d h => ⟨rfl, d, h⟩⟩
theorem Ss.trans {G2 H2 : Hp} {σ1 σ2 : St} {ρ2 : Env} (a : Ss G H σ ρ G1 H1 σ1 ρ1) (b : Ss G1 H1 σ1 ρ1 G2 H2 σ2 ρ2) : Ss G H σ ρ G2 H2 σ2 ρ2 where
  go := a.go.trans b.go a.own
  own := fun x h => by
    rcases b.own x h with z | z
    · exact a.own x z
    · exact .inr (a.go.fresh z)
  io := fun i d h => by
    obtain ⟨e1, c, h1⟩ := b.io i d h
    obtain ⟨e2, c2, h2⟩ := a.io i c h1
    exact ⟨e1.trans e2, c2, h2⟩
theorem Ss.ofE (g : Go (Own σ ρ) G H G1 H1) (s : Sub ρ ρ1) : Ss G H σ ρ G1 H1 σ ρ1 := ⟨g, fun _ h => .inl (s.own h), fun i d h => ⟨rfl, (s i).2 d h⟩⟩
theorem PostS.after {σ1 : St} {D : Ends} (a : Ss G H σ ρ G1 H1 σ1 ρ1) {e : SR} (h : PostS K G H σ ρ W D e) : PostS K G1 H1 σ1 ρ1 W D e := by
  cases e with
  | bad => exact h
  | nx ρ2 => exact fun σ2 G2 H2 b r => h σ2 G2 H2 (a.trans b) r
  | br ρ2 => exact fun σ2 G2 H2 b r => h σ2 G2 H2 (a.trans b) r
  | ct ρ2 => exact fun σ2 G2 H2 b r => h σ2 G2 H2 (a.trans b) r
  | ex x ρ2 => exact fun cls d σ2 G2 H2 b r q => h cls d σ2 G2 H2 (a.trans b) r q
  | rt r ρ2 =>
    intro σ2 v G2 H2 b r2 q
    refine h σ2 v G2 H2 (a.trans b) r2 ?_
    cases r with
    | pl d => exact q
    | fr d =>
      obtain ⟨x, e, n, z⟩ := q
      exact ⟨x, e, a.go.fresh n, z⟩
/-- an operand, then the rest: its value is plain from now on -/
theorem tM_then {m : M} {k : RV → Env → ER RV} {R : V → Hp → Prop} (r0 : Rel K G H σ ρ) (h : PostE K G H σ ρ W Q (bindM (m ρ) k))
    (hk : ∀ G1 H1 ρ1 rv v, Ex G G1 → Rel K G1 H1 σ ρ1 → Rep K G1 rv.d v → PostE K G1 H1 σ ρ1 W Q (k rv ρ1) → R v H1) : tM K W m σ H R := by
  refine ⟨G, ρ, r0, ?_⟩
  cases e : m ρ with
  | bad =>
    rw [e] at h
    exact h
  | ex x ρ1 =>
    rw [e] at h
    exact h
  | ok rv ρ1 =>
    rw [e] at h
    intro v G1 H1 g r s q
    obtain ⟨G2, g2, r2, _, rep⟩ := publish r0 g r s q
    exact hk G2 H1 ρ1 rv v g2.ext r2 rep (PostE.after r0 g2 s h)
theorem tM_thenT {m : M} {k : RV → Env → ER Bool} {R : V → Hp → Prop} {Q : Bool → Hp → Prop} (r0 : Rel K G H σ ρ) (h : PostT K G H σ ρ W Q (bindM (m ρ) k))
    (hk : ∀ G1 H1 ρ1 rv v, Ex G G1 → Rel K G1 H1 σ ρ1 → Rep K G1 rv.d v → PostT K G1 H1 σ ρ1 W Q (k rv ρ1) → R v H1) : tM K W m σ H R := by
  refine ⟨G, ρ, r0, ?_⟩
  cases e : m ρ with
  | bad =>
    rw [e] at h
    exact h
  | ex x ρ1 =>
    rw [e] at h
    exact h
  | ok rv ρ1 =>
    rw [e] at h
    intro v G1 H1 g r s q
    obtain ⟨G2, g2, r2, _, rep⟩ := publish r0 g r s q
    exact hk G2 H1 ρ1 rv v g2.ext r2 rep (PostT.after g2 s h)
theorem tMT_then {m : MT} {k : Bool → Env → ER RV} {R : Bool → Hp → Prop} (r0 : Rel K G H σ ρ) (h : PostE K G H σ ρ W Q (bindM (m ρ) k))
    (hk : ∀ G1 H1 ρ1 b, Ex G G1 → Rel K G1 H1 σ ρ1 → PostE K G1 H1 σ ρ1 W Q (k b ρ1) → R b H1) : tMT K W m σ H R := by
  refine ⟨G, ρ, r0, ?_⟩
  cases e : m ρ with
  | bad =>
    rw [e] at h
    exact h
  | ex x ρ1 =>
    rw [e] at h
    exact h
  | ok b ρ1 =>
    rw [e] at h
    intro G1 H1 g r s
    exact hk G1 H1 ρ1 b g.ext r (PostE.after r0 g s h)
theorem tMT_thenT {m : MT} {k : Bool → Env → ER Bool} {R : Bool → Hp → Prop} {Q : Bool → Hp → Prop} (r0 : Rel K G H σ ρ) (h : PostT K G H σ ρ W Q (bindM (m ρ) k))
    (hk : ∀ G1 H1 ρ1 b, Ex G G1 → Rel K G1 H1 σ ρ1 → PostT K G1 H1 σ ρ1 W Q (k b ρ1) → R b H1) : tMT K W m σ H R := by
  refine ⟨G, ρ, r0, ?_⟩
  cases e : m ρ with
  | bad =>
    rw [e] at h
    exact h
  | ex x ρ1 =>
    rw [e] at h
    exact h
  | ok b ρ1 =>
    rw [e] at h
    intro G1 H1 g r s
    exact hk G1 H1 ρ1 b g.ext r (PostT.after g s h)
end
end L2.MX
end
section
set_option Elab.async false
set_option linter.all false
set_option maxRecDepth 100000
/-! MxA: expressions: names, constants, operands, operators, comparisons, tests, displays. -/
namespace L2.MX
open PySem PySem.Spec PyProof.Rows

abbrev ME (X : Cx) (W : WX) (e : Expr) (m : M) : Prop := PE X e (tM X.K W m)
abbrev MTe (X : Cx) (W : WX) (e : Expr) (m : MT) : Prop := PT X e (tMT X.K W m)
abbrev MW (X : Cx) (W : WX) (e : Expr) (m : MT) : Prop := PW X e (tMT X.K W m)
abbrev MSt (X : Cx) (W : WX) (s : Stmt) (m : MS) : Prop := PS X s (tMS X.K W m)
abbrev MSs (X : Cx) (W : WX) (s : List Stmt) (m : MS) : Prop := PSs X s (tMS X.K W m)

/-! ### data seen through the whole heap: a plain thing, or an owned one that is looked at -/
def Rep2 (K : PySem.W.Frag) (G H : Hp) : D → V → Prop
  | .tup ds, v => ∃ a vs, v = .ref a ∧ G a = some (.tup vs) ∧ Reps K G ds vs
  | .ftup ds, v => ∃ a vs, v = .ref a ∧ SqT K H a vs ∧ Reps K G ds vs
  | .lst ds, v => ∃ a vs, v = .ref a ∧ H a = some (.lst vs) ∧ Reps K G ds vs
  | .flst ds, v => ∃ a vs, v = .ref a ∧ SqL K H a vs ∧ Reps K G ds vs
  | .dic ks ds, v => ∃ a vs, v = .ref a ∧ H a = some (.dK (ks.zip vs)) ∧ ks.length = vs.length ∧ Reps K G ds vs
  | d, v => Rep K G d v
section
variable {K : PySem.W.Frag} {G H : Hp}
theorem Rep.two (s : Ex G H) : ∀ {d : D} {v : V}, Rep K G d v → Rep2 K G H d v
  | .non, _, h => h
  | .bl _, _, h => h
  | .int _, _, h => h
  | .str _, _, h => h
  | .tup _, _, h => h
  | .ftup _, _, h => by obtain ⟨a, vs, e, q, r⟩ := h; exact ⟨a, vs, e, sqT_mono s q, r⟩
  | .lst _, _, h => by obtain ⟨a, vs, e, q, r⟩ := h; exact ⟨a, vs, e, s _ _ q, r⟩
  | .flst _, _, h => by obtain ⟨a, vs, e, q, r⟩ := h; exact ⟨a, vs, e, sqL_mono s q, r⟩
  | .dic _ _, _, h => by obtain ⟨a, vs, e, q, l, r⟩ := h; exact ⟨a, vs, e, s _ _ q, l, r⟩
theorem Top.two {a : Addr} : ∀ {d : D}, Top K G H a d → Rep2 K G H d (.ref a)
  | .lst _, ⟨vs, h, r⟩ => ⟨a, vs, rfl, h, r⟩
  | .dic _ _, ⟨vs, h, l, r⟩ => ⟨a, vs, rfl, h, l, r⟩
  | .non, h => h.elim
  | .bl _, h => h.elim
  | .int _, h => h.elim
  | .str _, h => h.elim
  | .tup _, h => h.elim
  | .flst _, h => h.elim
  | .ftup _, h => h.elim
end

/-! ### operands: a value, or a slot that is looked at when the operation comes -/
inductive Opd where
  | val (d : D) | slot (i : Nat)
def Cell.get : Cell → Option D
  | .un => none
  | .pl d => some d
  | .ow d => some d
  | .io d => some d
def Opd.get (ρ : Env) : Opd → Option D
  | .val d => some d
  | .slot i => (ρ[i]?).bind Cell.get
abbrev MO := Env → ER Opd
def OpdOk (K : PySem.W.Frag) (G : Hp) (σ : St) : Opd → V → Prop
  | .val d, v => Rep K G d v
  | .slot i, v => σ[i]? = some (some v)
def PostO (K : PySem.W.Frag) (G H : Hp) (σ : St) (ρ : Env) (W : WX) (Q : VK) : ER Opd → Prop
  | .bad => False
  | .ok o ρ1 => ∀ v G1 H1, Go (Own σ ρ) G H G1 H1 → Rel K G1 H1 σ ρ1 → Sub ρ ρ1 → OpdOk K G1 σ o v → Q v H1
  | .ex x ρ1 => ∀ cls d G1 H1, Go (Own σ ρ) G H G1 H1 → Rel K G1 H1 σ ρ1 → Sub ρ ρ1 → XRep K G1 H1 x cls d → W cls d σ H1
def tMO (K : PySem.W.Frag) (W : WX) (m : MO) : TE := fun σ H Q => ∃ G ρ, Rel K G H σ ρ ∧ PostO K G H σ ρ W Q (m ρ)
abbrev MOp (X : Cx) (W : WX) (e : Expr) (m : MO) : Prop := PE X e (tMO X.K W m)
/-- a list of operands -/
inductive PairAll (P : Opd → V → Prop) : List Opd → List V → Prop
  | nil : PairAll P [] []
  | cons {o v os vs} : P o v → PairAll P os vs → PairAll P (o :: os) (v :: vs)
abbrev MA := Env → ER (List Opd)
def PostA (K : PySem.W.Frag) (G H : Hp) (σ : St) (ρ : Env) (W : WX) (Q : List V → Hp → Prop) : ER (List Opd) → Prop
  | .bad => False
  | .ok os ρ1 => ∀ vs G1 H1, Go (Own σ ρ) G H G1 H1 → Rel K G1 H1 σ ρ1 → Sub ρ ρ1 → PairAll (OpdOk K G1 σ) os vs → Q vs H1
  | .ex x ρ1 => ∀ cls d G1 H1, Go (Own σ ρ) G H G1 H1 → Rel K G1 H1 σ ρ1 → Sub ρ ρ1 → XRep K G1 H1 x cls d → W cls d σ H1
def tMA (K : PySem.W.Frag) (W : WX) (m : MA) : TA := fun σ H Q => ∃ G ρ, Rel K G H σ ρ ∧ PostA K G H σ ρ W Q (m ρ)
abbrev MAr (X : Cx) (W : WX) (es : List Expr) (m : MA) : Prop := PA X es (tMA X.K W m)
theorem _root_.L2.PA.imp {X : Cx} {e : List Expr} {t t' : TA} (h : PA X e t) (k : ∀ σ H Q, t' σ H Q → t σ H Q) : PA X e t' := ⟨fun pos pins s σ H Q I q => h.run pos pins s σ H Q I (k σ H Q q)⟩

section
variable {K : PySem.W.Frag} {G H G1 H1 : Hp} {σ : St} {ρ ρ1 : Env} {W : WX} {Q : VK}
theorem OpdOk.mono (e : Ex G G1) {o : Opd} {v : V} (h : OpdOk K G σ o v) : OpdOk K G1 σ o v := by
  cases o with
  | val d => exact Rep.mono e d h
  | slot i => exact h
theorem PairAll.mono (e : Ex G G1) {os : List Opd} {vs : List V} (h : PairAll (OpdOk K G σ) os vs) : PairAll (OpdOk K G1 σ) os vs := by
  induction h with
  | nil => exact .nil
  | cons a _ ih => exact .cons (a.mono e) ih
/-- at the operation -/
theorem OpdOk.look (r : Rel K G H σ ρ) {o : Opd} {v : V} {d : D} (h : OpdOk K G σ o v) (e : o.get ρ = some d) : Rep2 K G H d v := by
  cases o with
  | val d' =>
    have e' : d' = d := Option.some.inj e
    subst e'
    exact Rep.two r.sub h
  | slot i =>
    have h : σ[i]? = some (some v) := h
    have e : (ρ[i]?).bind Cell.get = some d := e
    cases q : ρ[i]? with
    | none => rw [q] at e; cases e
    | some c =>
      rw [q] at e
      have own : Owns ρ i d → Rep2 K G H d v := fun o => by
        obtain ⟨a, e1, _, t⟩ := r.ow i d o
        rw [h] at e1; cases e1
        exact t.two
      cases c with
      | un => cases e
      | pl d' =>
        have e' : d' = d := Option.some.inj e
        subst e'
        obtain ⟨w, e1, e2⟩ := r.pl i d' q
        rw [h] at e1; cases e1
        exact Rep.two r.sub e2
      | ow d' =>
        have e' : d' = d := Option.some.inj e
        subst e'
        exact own (.inl q)
      | io d' =>
        have e' : d' = d := Option.some.inj e
        subst e'
        exact own (.inr q)
theorem PostO.after (g : Go (Own σ ρ) G H G1 H1) (s : Sub ρ ρ1) {e : ER Opd} (h : PostO K G H σ ρ W Q e) : PostO K G1 H1 σ ρ1 W Q e := by
  have go2 : ∀ {G2 H2}, Go (Own σ ρ1) G1 H1 G2 H2 → Go (Own σ ρ) G H G2 H2 := fun g2 => g.trans g2 fun x z => .inl (s.own z)
  cases e with
  | bad => exact h
  | ok r ρ2 => exact fun v G2 H2 g2 r2 s2 => h v G2 H2 (go2 g2) r2 (s.trans s2)
  | ex x ρ2 => exact fun cls d G2 H2 g2 r2 s2 q => h cls d G2 H2 (go2 g2) r2 (s.trans s2) q
theorem PostA.after {Q : List V → Hp → Prop} (g : Go (Own σ ρ) G H G1 H1) (s : Sub ρ ρ1) {e : ER (List Opd)} (h : PostA K G H σ ρ W Q e) : PostA K G1 H1 σ ρ1 W Q e := by
  have go2 : ∀ {G2 H2}, Go (Own σ ρ1) G1 H1 G2 H2 → Go (Own σ ρ) G H G2 H2 := fun g2 => g.trans g2 fun x z => .inl (s.own z)
  cases e with
  | bad => exact h
  | ok r ρ2 => exact fun v G2 H2 g2 r2 s2 => h v G2 H2 (go2 g2) r2 (s.trans s2)
  | ex x ρ2 => exact fun cls d G2 H2 g2 r2 s2 q => h cls d G2 H2 (go2 g2) r2 (s.trans s2) q
/-- a first step of any kind, then a rest of any kind -/
theorem tMO_then {β : Type} {P : Hp → Hp → Env → ER β → Prop} {m : MO} {k : Opd → Env → ER β} {R : V → Hp → Prop} (r0 : Rel K G H σ ρ)
    (hbad : P G H ρ .bad → False) (hex : ∀ x ρ1, P G H ρ (.ex x ρ1) → ∀ cls d G1 H1, Go (Own σ ρ) G H G1 H1 → Rel K G1 H1 σ ρ1 → Sub ρ ρ1 → XRep K G1 H1 x cls d → W cls d σ H1)
    (haft : ∀ G1 H1 ρ1 e, Go (Own σ ρ) G H G1 H1 → Sub ρ ρ1 → P G H ρ e → P G1 H1 ρ1 e)
    (h : P G H ρ (bindM (m ρ) k)) (hk : ∀ G1 H1 ρ1 o v, Ex G G1 → Rel K G1 H1 σ ρ1 → OpdOk K G1 σ o v → P G1 H1 ρ1 (k o ρ1) → R v H1) : tMO K W m σ H R := by
  refine ⟨G, ρ, r0, ?_⟩
  cases e : m ρ with
  | bad =>
    rw [e] at h
    exact hbad h
  | ex x ρ1 =>
    rw [e] at h
    exact hex x ρ1 h
  | ok o ρ1 =>
    rw [e] at h
    intro v G1 H1 g r s q
    exact hk G1 H1 ρ1 o v g.ext r q (haft G1 H1 ρ1 _ g s h)
theorem tMO_thenE {m : MO} {k : Opd → Env → ER RV} {R : V → Hp → Prop} (r0 : Rel K G H σ ρ) (h : PostE K G H σ ρ W Q (bindM (m ρ) k))
    (hk : ∀ G1 H1 ρ1 o v, Ex G G1 → Rel K G1 H1 σ ρ1 → OpdOk K G1 σ o v → PostE K G1 H1 σ ρ1 W Q (k o ρ1) → R v H1) : tMO K W m σ H R :=
  tMO_then (P := fun G H ρ e => PostE K G H σ ρ W Q e) r0 (fun z => z) (fun _ _ z => z) (fun _ _ _ _ g s z => PostE.after r0 g s z) h hk
theorem tMO_thenT {m : MO} {k : Opd → Env → ER Bool} {R : V → Hp → Prop} {Q : Bool → Hp → Prop} (r0 : Rel K G H σ ρ) (h : PostT K G H σ ρ W Q (bindM (m ρ) k))
    (hk : ∀ G1 H1 ρ1 o v, Ex G G1 → Rel K G1 H1 σ ρ1 → OpdOk K G1 σ o v → PostT K G1 H1 σ ρ1 W Q (k o ρ1) → R v H1) : tMO K W m σ H R :=
  tMO_then (P := fun G H ρ e => PostT K G H σ ρ W Q e) r0 (fun z => z) (fun _ _ z => z) (fun _ _ _ _ g s z => PostT.after g s z) h hk
theorem tMO_thenA {m : MO} {k : Opd → Env → ER (List Opd)} {R : V → Hp → Prop} {Q : List V → Hp → Prop} (r0 : Rel K G H σ ρ) (h : PostA K G H σ ρ W Q (bindM (m ρ) k))
    (hk : ∀ G1 H1 ρ1 o v, Ex G G1 → Rel K G1 H1 σ ρ1 → OpdOk K G1 σ o v → PostA K G1 H1 σ ρ1 W Q (k o ρ1) → R v H1) : tMO K W m σ H R :=
  tMO_then (P := fun G H ρ e => PostA K G H σ ρ W Q e) r0 (fun z => z) (fun _ _ z => z) (fun _ _ _ _ g s z => PostA.after g s z) h hk
theorem tMA_then {β : Type} {P : Hp → Hp → Env → ER β → Prop} {m : MA} {k : List Opd → Env → ER β} {R : List V → Hp → Prop} (r0 : Rel K G H σ ρ)
    (hbad : P G H ρ .bad → False) (hex : ∀ x ρ1, P G H ρ (.ex x ρ1) → ∀ cls d G1 H1, Go (Own σ ρ) G H G1 H1 → Rel K G1 H1 σ ρ1 → Sub ρ ρ1 → XRep K G1 H1 x cls d → W cls d σ H1)
    (haft : ∀ G1 H1 ρ1 e, Go (Own σ ρ) G H G1 H1 → Sub ρ ρ1 → P G H ρ e → P G1 H1 ρ1 e)
    (h : P G H ρ (bindM (m ρ) k)) (hk : ∀ G1 H1 ρ1 o v, Ex G G1 → Rel K G1 H1 σ ρ1 → PairAll (OpdOk K G1 σ) o v → P G1 H1 ρ1 (k o ρ1) → R v H1) : tMA K W m σ H R := by
  refine ⟨G, ρ, r0, ?_⟩
  cases e : m ρ with
  | bad =>
    rw [e] at h
    exact hbad h
  | ex x ρ1 =>
    rw [e] at h
    exact hex x ρ1 h
  | ok o ρ1 =>
    rw [e] at h
    intro v G1 H1 g r s q
    exact hk G1 H1 ρ1 o v g.ext r q (haft G1 H1 ρ1 _ g s h)
theorem tMA_thenE {m : MA} {k : List Opd → Env → ER RV} {R : List V → Hp → Prop} (r0 : Rel K G H σ ρ) (h : PostE K G H σ ρ W Q (bindM (m ρ) k))
    (hk : ∀ G1 H1 ρ1 o v, Ex G G1 → Rel K G1 H1 σ ρ1 → PairAll (OpdOk K G1 σ) o v → PostE K G1 H1 σ ρ1 W Q (k o ρ1) → R v H1) : tMA K W m σ H R :=
  tMA_then (P := fun G H ρ e => PostE K G H σ ρ W Q e) r0 (fun z => z) (fun _ _ z => z) (fun _ _ _ _ g s z => PostE.after r0 g s z) h hk
theorem tMA_thenA {m : MA} {k : List Opd → Env → ER (List Opd)} {R : List V → Hp → Prop} {Q : List V → Hp → Prop} (r0 : Rel K G H σ ρ) (h : PostA K G H σ ρ W Q (bindM (m ρ) k))
    (hk : ∀ G1 H1 ρ1 o v, Ex G G1 → Rel K G1 H1 σ ρ1 → PairAll (OpdOk K G1 σ) o v → PostA K G1 H1 σ ρ1 W Q (k o ρ1) → R v H1) : tMA K W m σ H R :=
  tMA_then (P := fun G H ρ e => PostA K G H σ ρ W Q e) r0 (fun z => z) (fun _ _ z => z) (fun _ _ _ _ g s z => PostA.after g s z) h hk
/-- an end: a value, with a step that writes nothing -/
theorem PostE.done {r : RV} {v : V} (r0 : Rel K G H σ ρ) (h : PostE K G H σ ρ W Q (.ok r ρ)) (g : Go NoI G H G1 H1) (s : Ex G1 H1) (q : RVok K G1 H H1 r v) : Q v H1 :=
  h v G1 H1 (g.weak fun _ z => z.elim) (r0.step g s) (Sub.refl ρ) q
end

/-! ### names, constants -/
def mK (d : D) : M := fun ρ => .ok (.pl d) ρ
def oVal (m : M) : MO := fun ρ => bindM (m ρ) fun r ρ1 => .ok (.val r.d) ρ1
def oVar (i : Nat) : MO := fun ρ => match ρ[i]? with
  | some (.pl _) => .ok (.slot i) ρ
  | some (.ow _) => .ok (.slot i) ρ
  | some (.io _) => .ok (.slot i) ρ
  | _ => .bad
/-- a name as a value: an owned thing is let go -/
def mVar (i : Nat) : M := fun ρ => match ρ[i]? with
  | some (.pl d) => .ok (.pl d) ρ
  | some (.ow d) => .ok (.pl d) (ρ.set i (.pl d))
  | _ => .bad
section
variable {X : Cx} {W : WX} {pos : Pos}
theorem me_of {e : Expr} {d : D} {v : V} (h : PE X e (tC v)) (k : ∀ G, Rep X.K G d v) : ME X W e (mK d) := h.imp fun σ H Q ⟨G, ρ, r, q⟩ => q v G H Go.refl r (Sub.refl ρ) (k G)
theorem me_int {i j} : ME X W (.Constant (.int i) j pos) (mK (.int i)) := me_of pe_int fun _ => rfl
theorem me_bl {b j} : ME X W (.Constant (.bool b) j pos) (mK (.bl b)) := me_of pe_bl fun _ => rfl
theorem me_non {j} : ME X W (.Constant .none j pos) (mK .non) := me_of pe_non fun _ => rfl
theorem me_str {x j} : ME X W (.Constant (.str x) j pos) (mK (.str x)) := me_of pe_str fun _ => rfl
theorem me_gint {x : Str} {i : Int} (hg : Gl X x) (hm : ∃ t, X.mg x = some (.int i t)) (hd : (x == ("__debug__" : Str)) = false := by decide) : ME X W (.Name x pos) (mK (.int i)) := by
  obtain ⟨t, e⟩ := hm
  exact me_of (v := .int i) (pe_glob hg e ⟨t, rfl⟩ hd) fun _ => rfl
theorem me_gstr {x z : Str} (hg : Gl X x) (hm : ∃ t, X.mg x = some (.str z t)) (hd : (x == ("__debug__" : Str)) = false := by decide) : ME X W (.Name x pos) (mK (.str z)) := by
  obtain ⟨t, e⟩ := hm
  exact me_of (v := .str z) (pe_glob hg e ⟨t, rfl⟩ hd) fun _ => rfl
theorem mo_of {e : Expr} {m : M} (h : ME X W e m) : MOp X W e (oVal m) := h.imp fun σ H Q ⟨G, ρ, r, q⟩ => by
  refine ⟨G, ρ, r, ?_⟩
  have q : PostO X.K G H σ ρ W Q (bindM (m ρ) fun r ρ1 => .ok (.val r.d) ρ1) := q
  cases e : m ρ with
  | bad => rw [e] at q; exact q
  | ex x ρ1 => rw [e] at q; exact q
  | ok rv ρ1 =>
    rw [e] at q
    intro v G1 H1 g r1 s z
    obtain ⟨G2, g2, r2, _, rep⟩ := publish r g r1 s z
    exact q v G2 H1 g2 r2 s rep
theorem mo_var (i : Nat) {x : Str} (hN : X.N[i]? = some x := by rfl) (hv : Vis X.env.scope x := by first | exact Or.inl rfl | exact Or.inr (Or.inl rfl) | exact Or.inr (Or.inr rfl)) (hd : (x == ("__debug__" : Str)) = false := by decide)
    (hcd : (x == ("__classdict__" : Str)) = false := by decide) : MOp X W (.Name x pos) (oVar i) := by
  refine (pe_var hN hv hd hcd).imp fun σ H Q ⟨G, ρ, r, q⟩ => ?_
  unfold oVar at q
  have own : ∀ d, Owns ρ i d → (∀ v G1 H1, Go (Own σ ρ) G H G1 H1 → Rel X.K G1 H1 σ ρ → Sub ρ ρ → OpdOk X.K G1 σ (.slot i) v → Q v H1) → tVar i σ H Q := fun d o q => by
    obtain ⟨a, e, _⟩ := r.ow i d o
    exact ⟨_, e, q _ G H Go.refl r (Sub.refl ρ) e⟩
  split at q
  · rename_i d e
    obtain ⟨v, e1, _⟩ := r.pl i d e
    exact ⟨v, e1, q v G H Go.refl r (Sub.refl ρ) e1⟩
  · rename_i d e
    exact own d (.inl e) q
  · rename_i d e
    exact own d (.inr e) q
  · exact q.elim
theorem Rel.freeze {K : PySem.W.Frag} {G H : Hp} {σ : St} {ρ : Env} {i : Nat} {d : D} {a : Addr} {o : HO} (r : Rel K G H σ ρ) (e : ρ[i]? = some (Cell.ow d)) (ea : σ[i]? = some (some (.ref a))) (eo : H a = some o) (hg : G a = none) (t : Top K G H a d) :
    Rel K (upd G a o) H σ (ρ.set i (.pl d)) ∧ Sub ρ (ρ.set i (.pl d)) ∧ Go (Own σ ρ) G H (upd G a o) H ∧ Rep K (upd G a o) d (.ref a) := by
  have ex : Ex G (upd G a o) := fun b u e => by
    by_cases hb : b = a
    · rw [hb, hg] at e; cases e
    · rw [upd_ne hb]; exact e
  have rep : Rep K (upd G a o) d (.ref a) := t.rep ex (by rw [upd_same, eo])
  have hi : i < ρ.length := (List.getElem?_eq_some_iff.mp e).1
  have at_ : ∀ (j : Nat) (c : Cell), (ρ.set i (.pl d))[j]? = some c → (j = i ∧ c = .pl d) ∨ (j ≠ i ∧ ρ[j]? = some c) := fun j c h => by
    by_cases hj : j = i
    · subst hj
      rw [List.getElem?_set_self hi] at h
      exact .inl ⟨rfl, (Option.some.inj h).symm⟩
    · rw [List.getElem?_set_ne (Ne.symm hj)] at h
      exact .inr ⟨hj, h⟩
  have own : ∀ (j : Nat) (c : D), Owns (ρ.set i (.pl d)) j c → j ≠ i ∧ Owns ρ j c := fun j c h => by
    rcases h with h | h
    · rcases at_ j _ h with ⟨_, z⟩ | ⟨n, z⟩
      · cases z
      · exact ⟨n, .inl z⟩
    · rcases at_ j _ h with ⟨_, z⟩ | ⟨n, z⟩
      · cases z
      · exact ⟨n, .inr z⟩
  refine ⟨⟨fun b u z => ?_, by simpa using r.len, fun j c h => ?_, fun j c h => ?_, fun j k c c2 b h1 h2 => r.dis j k c c2 b (own j c h1).2 (own k c2 h2).2⟩, fun j => ⟨fun c h => ?_, fun c h => ?_⟩, ⟨ex, fun b u z _ => z, fun b u z => ⟨u, z⟩, fun b u z => ?_⟩, rep⟩
  · by_cases hb : b = a
    · rw [hb, upd_same] at z; rw [hb, ← z]; exact eo
    · rw [upd_ne hb] at z; exact r.sub b u z
  · rcases at_ j _ h with ⟨rfl, z⟩ | ⟨n, z⟩
    · cases z; exact ⟨_, ea, rep⟩
    · obtain ⟨v, e1, e2⟩ := r.pl j c z
      exact ⟨v, e1, Rep.mono ex c e2⟩
  · obtain ⟨n, o⟩ := own j c h
    obtain ⟨b, e1, n1, t1⟩ := r.ow j c o
    refine ⟨b, e1, ?_, t1.mono ex fun _ z => z⟩
    rw [upd_ne (fun z => n (r.dis j i c d a o (.inl e) (by rw [e1, z]) ea))]
    exact n1
  · exact ⟨c, (at_ j _ h).elim (fun z => nomatch z.2) fun z => z.2⟩
  · exact ⟨c, (at_ j _ h).elim (fun z => nomatch z.2) fun z => z.2⟩
  · by_cases hb : b = a
    · exact .inr (.inr ⟨i, d, .inl e, by rw [hb]; exact ea⟩)
    · rw [upd_ne hb] at z; exact .inl z
theorem me_var (i : Nat) {x : Str} (hN : X.N[i]? = some x := by rfl) (hv : Vis X.env.scope x := by first | exact Or.inl rfl | exact Or.inr (Or.inl rfl) | exact Or.inr (Or.inr rfl)) (hd : (x == ("__debug__" : Str)) = false := by decide)
    (hcd : (x == ("__classdict__" : Str)) = false := by decide) : ME X W (.Name x pos) (mVar i) := by
  refine (pe_var hN hv hd hcd).imp fun σ H Q ⟨G, ρ, r, q⟩ => ?_
  unfold mVar at q
  split at q
  · rename_i d e
    obtain ⟨v, e1, e2⟩ := r.pl i d e
    exact ⟨v, e1, q v G H Go.refl r (Sub.refl ρ) e2⟩
  · rename_i d e
    obtain ⟨a, e1, n, t⟩ := r.ow i d (.inl e)
    obtain ⟨o, ho⟩ := t.alive
    obtain ⟨r2, s2, g2, rep⟩ := r.freeze e e1 ho n t
    exact ⟨_, e1, q _ _ H g2 r2 s2 rep⟩
  · exact q.elim
end
end L2.MX
end
section
set_option Elab.async false
set_option linter.all false
set_option maxRecDepth 100000
/-! MxB: operators, comparisons, tests, displays, subscripts. -/
namespace L2.MX
open PySem PySem.Spec PyProof.Rows

/-! ### two operands -/
abbrev Fn2 := D → D → Option RV
def OpS (K : PySem.W.Frag) (f : Fn2) (r : R2) : Prop := ∀ (G H : Hp) (x y : V) (d1 d2 : D) (rv : RV) (Q : VK), Ex G H → Rep2 K G H d1 x → Rep2 K G H d2 y → f d1 d2 = some rv →
  (∀ v G1 H1, Go NoI G H G1 H1 → Ex G1 H1 → RVok K G1 H H1 rv v → Q v H1) → r x y H Q
def ap2 (f : Fn2) (ρ : Env) (o p : Opd) : ER RV := match o.get ρ, p.get ρ with
  | some d1, some d2 => (match f d1 d2 with
    | some rv => .ok rv ρ
    | none => .bad)
  | _, _ => .bad
def mOp (f : Fn2) (a b : MO) : M := fun ρ => bindM (a ρ) fun o ρ1 => bindM (b ρ1) fun p ρ2 => ap2 f ρ2 o p
def mtB (m : M) : MT := fun ρ => bindM (m ρ) fun r ρ1 => match r.d with
  | .bl b => .ok b ρ1
  | _ => .bad
section
variable {K : PySem.W.Frag} {σ : St} {H : Hp} {W : WX}
theorem ap2_ok {G : Hp} {ρ : Env} {f : Fn2} {r : R2} {Q : VK} {o p : Opd} {x y : V} (hs : OpS K f r) (r0 : Rel K G H σ ρ) (ho : OpdOk K G σ o x) (hp : OpdOk K G σ p y) (h : PostE K G H σ ρ W Q (ap2 f ρ o p)) : r x y H Q := by
  unfold ap2 at h
  split at h
  · rename_i d1 d2 e1 e2
    split at h
    · rename_i rv e
      exact hs G H x y d1 d2 rv Q r0.sub (ho.look r0 e1) (hp.look r0 e2) e fun v G1 H1 g s q => PostE.done r0 h g s q
    · exact h.elim
  · exact h.elim
theorem op_then {f : Fn2} {a b : MO} {r : R2} {Q : VK} (hs : OpS K f r) (h : tM K W (mOp f a b) σ H Q) : tOp r (tMO K W a) (tMO K W b) σ H Q := by
  obtain ⟨G, ρ, r0, h⟩ := h
  refine tMO_thenE (Q := Q) r0 h fun G1 H1 ρ1 o v e1 r1 ov h1 => ?_
  refine tMO_thenE (Q := Q) r1 h1 fun G2 H2 ρ2 p w e2 r2 pw h2 => ?_
  exact ap2_ok hs r2 (ov.mono e2) pw h2
theorem test_then {m : M} {Q : Bool → Hp → Prop} (h : tMT K W (mtB m) σ H Q) : tM K W m σ H fun x H1 => ∃ c, x = .bl c ∧ Q c H1 := by
  obtain ⟨G, ρ, r0, h⟩ := h
  refine tM_thenT (Q := Q) r0 h fun G1 H1 ρ1 rv v e1 r1 q h1 => ?_
  split at h1
  · rename_i b e
    rw [e] at q
    exact ⟨b, q, h1 G1 H1 Go.refl r1 (Sub.refl _)⟩
  · exact h1.elim
end
section
variable {X : Cx} {W : WX} {pos : Pos} {a b : Expr} {ma mb : MO} {f : Fn2} {r : R2}
theorem me_op {op : Operator} (ho : OpR X (binaryOp op) r) (hs : OpS X.K f r) (ha : MOp X W a ma) (hb : MOp X W b mb) : ME X W (.BinOp a op b pos) (mOp f ma mb) := (pe_op ho ha hb).imp fun _ _ _ h => op_then hs h
theorem me_cmp {op : CmpOp} (ho : OpR X (compareOp op) r) (hs : OpS X.K f r) (ha : MOp X W a ma) (hb : MOp X W b mb) (hm : behindInMarks op b = false := by first | exact nomark _ | rfl) : ME X W (.Compare a [op] [b] pos) (mOp f ma mb) :=
  (pe_cmpR ho ha hb hm).imp fun _ _ _ h => op_then hs h
/-- a comparison as a test -/
theorem mt_cmp {op : CmpOp} (ho : OpR X (compareOp op) r) (hs : OpS X.K f r) (ha : MOp X W a ma) (hb : MOp X W b mb) (hm : behindInMarks op b = false := by first | exact nomark _ | rfl) : MTe X W (.Compare a [op] [b] pos) (mtB (mOp f ma mb)) := by
  refine (pt_cmpR ho ha hb hm).imp fun σ H Q h => ?_
  have h2 := test_then h
  exact op_then hs h2
/-- an expression that gives a truth value, as a test -/
theorem mt_val {e : Expr} {m : M} (h : ME X W e m) (he : ∀ whole, isTrue e X.env whole = (do let v ← whole; standAt e.pos; holding [v] (truthy v)) := by intro _; rfl) : MTe X W e (mtB m) :=
  (pt_val h he).imp fun σ H Q h => test_then h
end

/-! ### and, or, not, if else -/
def mtAnd (a b : MT) : MT := fun ρ => bindM (a ρ) fun c ρ1 => if c = true then b ρ1 else .ok false ρ1
def mtOr (a b : MT) : MT := fun ρ => bindM (a ρ) fun c ρ1 => if c = true then .ok true ρ1 else b ρ1
def mtNot (a : MT) : MT := fun ρ => bindM (a ρ) fun c ρ1 => .ok (!c) ρ1
def mIf (c : MT) (a b : M) : M := fun ρ => bindM (c ρ) fun k ρ1 => if k = true then a ρ1 else b ρ1
/-- the same as values (truth values all) -/
def mAnd (a b : M) : M := fun ρ => bindM (mtB a ρ) fun c ρ1 => if c = true then b ρ1 else .ok (.pl (.bl false)) ρ1
def mOr (a b : M) : M := fun ρ => bindM (mtB a ρ) fun c ρ1 => if c = true then .ok (.pl (.bl true)) ρ1 else b ρ1
def mNot (a : M) : M := fun ρ => bindM (mtB a ρ) fun c ρ1 => .ok (.pl (.bl (!c))) ρ1
section
variable {X : Cx} {W : WX} {pos : Pos} {a b c : Expr} {rest : List Expr} {ta tb : MT} {ma mb : M}
theorem mw_and1 (h : MTe X W a ta) : MW X W (.BoolOp .And [a] pos) ta := pw_and1 h
theorem mw_or1 (h : MTe X W a ta) : MW X W (.BoolOp .Or [a] pos) ta := pw_or1 h
theorem _root_.L2.PW.imp {X : Cx} {e : Expr} {t t' : TT} (h : PW X e t) (k : ∀ σ H Q, t' σ H Q → t σ H Q) : PW X e t' := ⟨fun wh pins s σ H Q I q => h.run wh pins s σ H Q I (k σ H Q q)⟩
theorem mw_and (ha : MTe X W a ta) (hb : MW X W (.BoolOp .And (b :: rest) pos) tb) : MW X W (.BoolOp .And (a :: b :: rest) pos) (mtAnd ta tb) := by
  refine (pw_and ha hb).imp fun σ H Q ⟨G, ρ, r, h⟩ => ?_
  refine tMT_thenT (Q := Q) r h fun G1 H1 ρ1 k e1 r1 h1 => ?_
  cases k with
  | true => exact ⟨G1, ρ1, r1, h1⟩
  | false => exact h1 G1 H1 Go.refl r1 (Sub.refl _)
theorem mw_or (ha : MTe X W a ta) (hb : MW X W (.BoolOp .Or (b :: rest) pos) tb) : MW X W (.BoolOp .Or (a :: b :: rest) pos) (mtOr ta tb) := by
  refine (pw_or ha hb).imp fun σ H Q ⟨G, ρ, r, h⟩ => ?_
  refine tMT_thenT (Q := Q) r h fun G1 H1 ρ1 k e1 r1 h1 => ?_
  cases k with
  | false => exact ⟨G1, ρ1, r1, h1⟩
  | true => exact h1 G1 H1 Go.refl r1 (Sub.refl _)
theorem mt_w {e : Expr} {t : MT} (h : MW X W e t) : MTe X W e t := PW.pt h
theorem mt_not (ha : MTe X W a ta) : MTe X W (.UnaryOp .Not a pos) (mtNot ta) := by
  refine (pt_not ha).imp fun σ H Q ⟨G, ρ, r, h⟩ => ?_
  refine tMT_thenT (Q := Q) r h fun G1 H1 ρ1 k e1 r1 h1 => ?_
  exact h1 G1 H1 Go.refl r1 (Sub.refl _)
theorem me_if (hc : MTe X W c ta) (ha : ME X W a ma) (hb : ME X W b mb) : ME X W (.IfExp c a b pos) (mIf ta ma mb) := by
  refine (pe_ifExp hc ha hb).imp fun σ H Q ⟨G, ρ, r, h⟩ => ?_
  refine tMT_then (Q := Q) r h fun G1 H1 ρ1 k e1 r1 h1 => ?_
  cases k with
  | true => exact ⟨G1, ρ1, r1, h1⟩
  | false => exact ⟨G1, ρ1, r1, h1⟩
theorem me_one {op} (h : ME X W a ma) : ME X W (.BoolOp op [a] pos) ma := pe_one h
theorem mtB_then {K : PySem.W.Frag} {G H : Hp} {σ : St} {ρ : Env} {m : M} {k : Bool → Env → ER RV} {Q : VK} {R : V → Hp → Prop} (r0 : Rel K G H σ ρ) (h : PostE K G H σ ρ W Q (bindM (mtB m ρ) k))
    (hk : ∀ G1 H1 ρ1 c, Ex G G1 → Rel K G1 H1 σ ρ1 → PostE K G1 H1 σ ρ1 W Q (k c ρ1) → R (.bl c) H1) : tM K W m σ H R := by
  refine ⟨G, ρ, r0, ?_⟩
  unfold mtB at h
  cases e : m ρ with
  | bad =>
    rw [e] at h
    exact h
  | ex x ρ1 =>
    rw [e] at h
    exact h
  | ok rv ρ1 =>
    rw [e] at h
    intro v G1 H1 g r s q
    obtain ⟨G2, g2, r2, _, rep⟩ := publish r0 g r s q
    have h : PostE K G H σ ρ W Q (bindM (match rv.d with
      | .bl b => ER.ok b ρ1
      | _ => .bad) k) := h
    split at h
    · rename_i c ec
      rw [ec] at rep
      have ev : v = .bl c := rep
      subst ev
      exact hk G2 H1 ρ1 c g2.ext r2 (PostE.after r0 g2 s h)
    · exact h.elim
theorem me_and (ha : ME X W a ma) (hb : ME X W (.BoolOp .And (b :: rest) pos) mb) : ME X W (.BoolOp .And (a :: b :: rest) pos) (mAnd ma mb) := by
  refine (pe_and ha hb).imp fun σ H Q ⟨G, ρ, r, h⟩ => ?_
  refine mtB_then (Q := Q) r h fun G1 H1 ρ1 k e1 r1 h1 => ⟨k, rfl, ?_⟩
  cases k with
  | true => exact ⟨G1, ρ1, r1, h1⟩
  | false => exact h1 _ G1 H1 Go.refl r1 (Sub.refl _) rfl
theorem me_or (ha : ME X W a ma) (hb : ME X W (.BoolOp .Or (b :: rest) pos) mb) : ME X W (.BoolOp .Or (a :: b :: rest) pos) (mOr ma mb) := by
  refine (pe_or ha hb).imp fun σ H Q ⟨G, ρ, r, h⟩ => ?_
  refine mtB_then (Q := Q) r h fun G1 H1 ρ1 k e1 r1 h1 => ⟨k, rfl, ?_⟩
  cases k with
  | false => exact ⟨G1, ρ1, r1, h1⟩
  | true => exact h1 _ G1 H1 Go.refl r1 (Sub.refl _) rfl
theorem me_not (ha : ME X W a ma) : ME X W (.UnaryOp .Not a pos) (mNot ma) := by
  refine (pe_not ha).imp fun σ H Q ⟨G, ρ, r, h⟩ => ?_
  refine mtB_then (Q := Q) r h fun G1 H1 ρ1 k e1 r1 h1 => ⟨k, rfl, ?_⟩
  exact h1 _ G1 H1 Go.refl r1 (Sub.refl _) rfl
end

/-! ### a chain a < b <= c -/
def mChain (f f' : Fn2) (a b c : MO) : M := fun ρ => bindM (a ρ) fun o ρ1 => bindM (b ρ1) fun p ρ2 => bindM (mtB (fun ρ => ap2 f ρ o p) ρ2) fun k ρ3 =>
  if k = true then bindM (c ρ3) fun q ρ4 => ap2 f' ρ4 p q else .ok (.pl (.bl false)) ρ3
section
variable {X : Cx} {W : WX} {pos : Pos} {a b c : Expr} {ma mb mc : MO} {f f' : Fn2} {r r' : R2}
theorem ap2_then {K : PySem.W.Frag} {G H : Hp} {σ : St} {ρ : Env} {Q : VK} {R : V → Hp → Prop} {k : Bool → Env → ER RV} {o p : Opd} {x y : V} (hs : OpS K f r) (r0 : Rel K G H σ ρ) (ho : OpdOk K G σ o x) (hp : OpdOk K G σ p y)
    (h : PostE K G H σ ρ W Q (bindM (mtB (fun ρ => ap2 f ρ o p) ρ) k)) (hk : ∀ G1 H1 c, Ex G G1 → Rel K G1 H1 σ ρ → PostE K G1 H1 σ ρ W Q (k c ρ) → R (.bl c) H1) : r x y H R := by
  unfold mtB ap2 at h
  dsimp only at h
  split at h
  · rename_i d1 d2 e1 e2
    split at h
    · rename_i rv e
      refine hs G H x y d1 d2 rv R r0.sub (ho.look r0 e1) (hp.look r0 e2) e fun v G1 H1 g s q => ?_
      have h : PostE K G H σ ρ W Q (bindM (match rv.d with
        | .bl b => ER.ok b ρ
        | _ => .bad) k) := h
      split at h
      · rename_i c ec
        have ev : v = .bl c := by
          cases rv with
          | pl d =>
            have ed : d = .bl c := ec
            subst ed
            exact q
          | fr d =>
            have ed : d = .bl c := ec
            subst ed
            obtain ⟨_, _, _, _, t⟩ := q
            exact t.elim
        subst ev
        have g' : Go (Own σ ρ) G H G1 H1 := g.weak fun _ z => z.elim
        exact hk G1 H1 c g.ext (r0.step g s) (PostE.after r0 g' (Sub.refl ρ) h)
      · exact h.elim
    · exact h.elim
  · exact h.elim
theorem chain_then {K : PySem.W.Frag} {σ : St} {H : Hp} {Q : VK} (hs : OpS K f r) (hs' : OpS K f' r') (h : tM K W (mChain f f' ma mb mc) σ H Q) : tChain r r' (tMO K W ma) (tMO K W mb) (tMO K W mc) σ H Q := by
  obtain ⟨G, ρ, r0, h⟩ := h
  refine tMO_thenE (Q := Q) r0 h fun G1 H1 ρ1 o v e1 r1 ov h1 => ?_
  refine tMO_thenE (Q := Q) r1 h1 fun G2 H2 ρ2 p w e2 r2 pw h2 => ?_
  refine ap2_then (Q := Q) hs r2 (ov.mono e2) pw h2 fun G3 H3 k e3 r3 h3 => ⟨k, rfl, ?_⟩
  cases k with
  | true =>
    refine tMO_thenE (Q := Q) r3 h3 fun G4 H4 ρ4 q u e4 r4 qu h4 => ?_
    exact ap2_ok hs' r4 (pw.mono (e3.trans e4)) qu h4
  | false => exact h3 _ G3 H3 Go.refl r3 (Sub.refl _) rfl
theorem me_chain {op op' : CmpOp} (ho : OpR X (compareOp op) r) (hs : OpS X.K f r) (ho' : OpR X (compareOp op') r') (hs' : OpS X.K f' r') (ha : MOp X W a ma) (hb : MOp X W b mb) (hc : MOp X W c mc)
    (hm : lastMarks [op, op'] [b, c] = false := by with_unfolding_all rfl) : ME X W (.Compare a [op, op'] [b, c] pos) (mChain f f' ma mb mc) :=
  (pe_chain ho ho' ha hb hc hm).imp fun _ _ _ h => chain_then hs hs' h
theorem mt_chain {op op' : CmpOp} (ho : OpR X (compareOp op) r) (hs : OpS X.K f r) (ho' : OpR X (compareOp op') r') (hs' : OpS X.K f' r') (ha : MOp X W a ma) (hb : MOp X W b mb) (hc : MOp X W c mc)
    (hm : lastMarks [op, op'] [b, c] = false := by with_unfolding_all rfl) : MTe X W (.Compare a [op, op'] [b, c] pos) (mtB (mChain f f' ma mb mc)) :=
  (pt_chain ho ho' ha hb hc hm).imp fun _ _ _ h => chain_then hs hs' (test_then h)
end
end L2.MX
end
section
set_option Elab.async false
set_option linter.all false
set_option maxRecDepth 100000
/-! MxC: the operators' functions on data. -/
namespace L2.MX
open PySem PySem.Spec PyProof.Rows

theorem RVok.plain {K : PySem.W.Frag} {G H H' : Hp} {d : D} {v : V} (h : Rep K G d v) : RVok K G H H' (.pl d) v := h
/-- an answer without a new object -/
theorem same_end {K : PySem.W.Frag} {G H : Hp} {d : D} {v : V} {Q : VK} (s : Ex G H) (r : Rep K G d v) (h : ∀ v G1 H1, Go NoI G H G1 H1 → Ex G1 H1 → RVok K G1 H H1 (.pl d) v → Q v H1) : Q v H := h v G H Go.refl s r
theorem end_int {K : PySem.W.Frag} {G H : Hp} {i : Int} {Q : VK} (s : Ex G H) (h : ∀ v G1 H1, Go NoI G H G1 H1 → Ex G1 H1 → RVok K G1 H H1 (.pl (.int i)) v → Q v H1) : Q (.int i) H := h _ G H Go.refl s rfl
theorem end_bl {K : PySem.W.Frag} {G H : Hp} {b : Bool} {Q : VK} (s : Ex G H) (h : ∀ v G1 H1, Go NoI G H G1 H1 → Ex G1 H1 → RVok K G1 H H1 (.pl (.bl b)) v → Q v H1) : Q (.bl b) H := h _ G H Go.refl s rfl
theorem end_str {K : PySem.W.Frag} {G H : Hp} {x : Str} {Q : VK} (s : Ex G H) (h : ∀ v G1 H1, Go NoI G H G1 H1 → Ex G1 H1 → RVok K G1 H H1 (.pl (.str x)) v → Q v H1) : Q (.str x) H := h _ G H Go.refl s rfl
theorem end_non {K : PySem.W.Frag} {G H : Hp} {Q : VK} (s : Ex G H) (h : ∀ v G1 H1, Go NoI G H G1 H1 → Ex G1 H1 → RVok K G1 H H1 (.pl .non) v → Q v H1) : Q .non H := h _ G H Go.refl s rfl
/-- a new list of plain things -/
theorem new_list {K : PySem.W.Frag} {G H : Hp} {ds : List D} {vs : List V} {p : Addr} {Q : VK} (s : Ex G H) (r : Reps K G ds vs) (hp : H p = none) (h : ∀ v G1 H1, Go NoI G H G1 H1 → Ex G1 H1 → RVok K G1 H H1 (.fr (.lst ds)) v → Q v H1) : Q (.ref p) (upd H p (.lst vs)) := by
  have gn : G p = none := by
    cases q : G p with
    | none => rfl
    | some u => rw [s p u q] at hp; cases hp
  have ex : Ex H (upd H p (.lst vs)) := fun b u e => by rw [upd_ne (ne_of_none e hp)]; exact e
  exact h _ G _ ⟨Ex.refl G, fun b u e _ => ex b u e, fun b u e => ⟨u, ex b u e⟩, fun _ _ e => .inl e⟩ (s.trans ex) ⟨p, rfl, hp, gn, vs, upd_same, r⟩
/-- a new tuple of plain things -/
theorem new_tup {K : PySem.W.Frag} {G H : Hp} {ds : List D} {vs : List V} {p : Addr} {Q : VK} (s : Ex G H) (r : Reps K G ds vs) (hp : H p = none) (h : ∀ v G1 H1, Go NoI G H G1 H1 → Ex G1 H1 → RVok K G1 H H1 (.pl (.tup ds)) v → Q v H1) : Q (.ref p) (upd H p (.tup vs)) := by
  have gn : G p = none := by
    cases q : G p with
    | none => rfl
    | some u => rw [s p u q] at hp; cases hp
  have ex : Ex H (upd H p (.tup vs)) := fun b u e => by rw [upd_ne (ne_of_none e hp)]; exact e
  have exG : Ex G (upd G p (.tup vs)) := fun b u e => by rw [upd_ne (ne_of_none e gn)]; exact e
  refine h _ (upd G p (.tup vs)) _ ⟨exG, fun b u e _ => ex b u e, fun b u e => ⟨u, ex b u e⟩, fun b u e => ?_⟩ (fun b u e => ?_) ⟨p, vs, rfl, upd_same, Reps.mono exG ds r⟩
  · by_cases hb : b = p
    · rw [hb]; exact .inr (.inl hp)
    · rw [upd_ne hb] at e; exact .inl e
  · by_cases hb : b = p
    · rw [hb, upd_same] at e; rw [hb, upd_same]; exact e
    · rw [upd_ne hb] at e; rw [upd_ne hb]; exact s b u e
theorem OpS.or {K : PySem.W.Frag} {f : Fn2} {r r' : R2} (h : ∀ (G H : Hp) (x y : V) (d1 d2 : D) (rv : RV) (Q : VK), Ex G H → Rep2 K G H d1 x → Rep2 K G H d2 y → f d1 d2 = some rv →
  (∀ v G1 H1, Go NoI G H G1 H1 → Ex G1 H1 → RVok K G1 H H1 rv v → Q v H1) → r x y H Q ∨ r' x y H Q) : OpS K f (fun x y H Q => r x y H Q ∨ r' x y H Q) := h

/-! ### arithmetic -/
def pI (i : Int) : Option RV := some (.pl (.int i))
def pB (b : Bool) : Option RV := some (.pl (.bl b))
def lineN : Nat := 16777216
theorem line_eq : sizeLine = lineN := sizeLine_eq
def dAdd : Fn2
  | .int i, .int j => pI (i + j)
  | .str a, .str b => if a.length + b.length ≤ lineN then some (.pl (.str (a ++ b))) else none
  | .lst a, .lst b => if a.length + b.length ≤ lineN then some (.fr (.lst (a ++ b))) else none
  | _, _ => none
def dSub : Fn2
  | .int i, .int j => pI (i - j)
  | _, _ => none
def smallI (i : Int) : Bool := Nat.ble i.natAbs 18446744073709551615
theorem smallI_iff {i : Int} : smallI i = true ↔ -18446744073709551616 < i ∧ i < 18446744073709551616 := by
  unfold smallI
  rw [Nat.ble_eq]
  omega
def dMul : Fn2
  | .int i, .int j => if smallI i || smallI j then pI (i * j) else none
  | .lst a, .int k => if 0 ≤ k ∧ k < 16777216 ∧ a.length * k.toNat ≤ lineN then some (.fr (.lst (List.replicate k.toNat a).flatten)) else none
  | _, _ => none
def dFdiv : Fn2
  | .int i, .int j => if 0 < j ∧ j < 1073741824 then pI (i / j) else none
  | _, _ => none
def dMod : Fn2
  | .int i, .int j => if 0 < j then pI (i % j) else none
  | _, _ => none
def dPow : Fn2
  | .int i, .int j => if (0 ≤ j ∧ j ≤ 1000000) ∧ smallI i then pI (i ^ j.toNat) else none
  | _, _ => none
def dShl : Fn2
  | .int i, .int j => if (0 ≤ j ∧ j ≤ 1000000) ∧ smallI i then pI (i * 2 ^ j.toNat) else none
  | _, _ => none
def dShr : Fn2
  | .int i, .int j => if 0 ≤ j then pI (i / 2 ^ j.toNat) else none
  | _, _ => none
/-- i & 1 -/
def dAnd : Fn2
  | .int i, .int j => if 0 ≤ i ∧ 0 ≤ j then pI ((i.toNat &&& j.toNat : Nat) : Int) else none
  | _, _ => none
section
variable {X : Cx} {K : PySem.W.Frag}
theorem int_of {G H : Hp} {i : Int} {x : V} (h : Rep2 K G H (.int i) x) : x = .int i := h
theorem rI_ok {C : Int → Int → Prop} {g : Int → Int → Int} {f : Fn2} (hf : ∀ d1 d2 rv, f d1 d2 = some rv → ∃ i j, d1 = .int i ∧ d2 = .int j ∧ C i j ∧ rv = .pl (.int (g i j))) : OpS K f (rI C fun i j => .int (g i j)) := by
  intro G H x y d1 d2 rv Q s h1 h2 e k
  obtain ⟨i, j, rfl, rfl, c, rfl⟩ := hf d1 d2 rv e
  obtain rfl := int_of h1
  obtain rfl := int_of h2
  exact ⟨i, j, rfl, rfl, c, end_int s k⟩
theorem rI0_ok {g : Int → Int → V} {w : Int → Int → D} {f : Fn2} (hw : ∀ i j (K : PySem.W.Frag) G, Rep K G (w i j) (g i j)) (hf : ∀ d1 d2 rv, f d1 d2 = some rv → ∃ i j, d1 = .int i ∧ d2 = .int j ∧ rv = .pl (w i j)) : OpS K f (rI0 g) := by
  intro G H x y d1 d2 rv Q s h1 h2 e k
  obtain ⟨i, j, rfl, rfl, rfl⟩ := hf d1 d2 rv e
  obtain rfl := int_of h1
  obtain rfl := int_of h2
  exact ⟨i, j, rfl, rfl, same_end s (hw i j K G) k⟩
abbrev rAddAll : R2 := fun x y H Q => rI0 (fun i j => .int (i + j)) x y H Q ∨ (∃ i j, x = .str i ∧ y = .str j ∧ i.length + j.length ≤ sizeLine ∧ Q (.str (i ++ j)) H) ∨ rCat x y H Q
theorem op_addAll : OpR X (binaryOp .Add) rAddAll := op_add.or (op_add_str.or op_cat)
theorem s_add : OpS K dAdd rAddAll := by
  intro G H x y d1 d2 rv Q s h1 h2 e k
  unfold dAdd at e
  split at e
  · cases e
    exact .inl ⟨_, _, h1, h2, end_int s k⟩
  · split at e
    · rename_i hl
      cases e
      exact .inr (.inl ⟨_, _, h1, h2, by rw [line_eq]; exact hl, end_str s k⟩)
    · cases e
  · split at e
    · rename_i a b hl
      cases e
      obtain ⟨p, vs, rfl, hp, r1⟩ := h1
      obtain ⟨q, ws, rfl, hq, r2⟩ := h2
      exact .inr (.inr ⟨p, q, vs, ws, rfl, rfl, hp, hq, by rw [← r1.length, ← r2.length, line_eq]; exact hl, fun t ht => new_list s (r1.append r2) ht k⟩)
    · cases e
  · cases e
theorem s_sub : OpS K dSub (rI0 fun i j => .int (i - j)) := rI0_ok (w := fun i j => .int (i - j)) (fun _ _ _ _ => rfl) fun d1 d2 rv e => by
  unfold dSub at e
  split at e
  · cases e; exact ⟨_, _, rfl, rfl, rfl⟩
  · cases e
theorem smallI_ok {i : Int} (h : smallI i = true) : -(2 ^ 64) < i ∧ i < 2 ^ 64 := by
  have := smallI_iff.mp h
  omega
abbrev rMulAll : R2 := fun x y H Q => rI CMul (fun i j => .int (i * j)) x y H Q ∨ rRep x y H Q
theorem op_mulAll : OpR X (binaryOp .Mult) rMulAll := op_mul.or op_rep
theorem reps_flat {G : Hp} {ds : List D} {vs : List V} (r : Reps K G ds vs) : ∀ n : Nat, Reps K G (List.replicate n ds).flatten (List.replicate n vs).flatten
  | 0 => rfl
  | n + 1 => by
    rw [List.replicate_succ, List.replicate_succ, List.flatten_cons, List.flatten_cons]
    exact r.append (reps_flat r n)
theorem s_mul : OpS K dMul rMulAll := by
  intro G H x y d1 d2 rv Q s h1 h2 e k
  unfold dMul at e
  split at e
  · split at e
    · rename_i i j hc
      cases e
      refine .inl ⟨_, _, h1, h2, ?_, end_int s k⟩
      rw [Bool.or_eq_true] at hc
      rcases hc with z | z
      · exact .inl (smallI_ok z)
      · exact .inr (smallI_ok z)
    · cases e
  · split at e
    · rename_i a kk hc
      cases e
      obtain ⟨p, vs, rfl, hp, r1⟩ := h1
      obtain ⟨c1, c2, c3⟩ := hc
      exact .inr ⟨p, kk, vs, rfl, h2, hp, by omega, by omega, by rw [← r1.length, line_eq]; exact c3, fun t ht => new_list s (reps_flat r1 _) ht k⟩
    · cases e
  · cases e
theorem s_fdiv : OpS K dFdiv (rI CDiv fun i j => .int (i / j)) := rI_ok fun d1 d2 rv e => by
  unfold dFdiv at e
  split at e
  · split at e
    · rename_i hc
      cases e
      exact ⟨_, _, rfl, rfl, hc, rfl⟩
    · cases e
  · cases e
theorem s_mod : OpS K dMod (rI (fun _ j => 0 < j) fun i j => .int (i % j)) := rI_ok fun d1 d2 rv e => by
  unfold dMod at e
  split at e
  · split at e
    · rename_i hc
      cases e
      exact ⟨_, _, rfl, rfl, hc, rfl⟩
    · cases e
  · cases e
theorem cpow_ok {i j : Int} (h : (0 ≤ j ∧ j ≤ 1000000) ∧ smallI i = true) : CPow i j := ⟨h.1.1, h.1.2, by have := smallI_ok h.2; omega⟩
theorem s_pow : OpS K dPow (rI CPow fun i j => .int (i ^ j.toNat)) := rI_ok fun d1 d2 rv e => by
  unfold dPow at e
  split at e
  · split at e
    · rename_i hc
      cases e
      exact ⟨_, _, rfl, rfl, cpow_ok hc, rfl⟩
    · cases e
  · cases e
theorem s_shl : OpS K dShl (rI CPow fun i j => .int (i * 2 ^ j.toNat)) := rI_ok fun d1 d2 rv e => by
  unfold dShl at e
  split at e
  · split at e
    · rename_i hc
      cases e
      exact ⟨_, _, rfl, rfl, cpow_ok hc, rfl⟩
    · cases e
  · cases e
theorem s_shr : OpS K dShr (rI (fun _ j => 0 ≤ j) fun i j => .int (i / 2 ^ j.toNat)) := rI_ok fun d1 d2 rv e => by
  unfold dShr at e
  split at e
  · split at e
    · rename_i hc
      cases e
      exact ⟨_, _, rfl, rfl, hc, rfl⟩
    · cases e
  · cases e
theorem bitAnd_nat {i j : Int} (hi : 0 ≤ i) (hj : 0 ≤ j) : Builtin.bitAnd i j = ((i.toNat &&& j.toNat : Nat) : Int) := by
  obtain ⟨n, rfl⟩ := Int.eq_ofNat_of_zero_le hi
  obtain ⟨m, rfl⟩ := Int.eq_ofNat_of_zero_le hj
  rfl
theorem s_and : OpS K dAnd (rI0 fun i j => .int (Builtin.bitAnd i j)) := rI0_ok (w := fun i j => .int (Builtin.bitAnd i j)) (fun _ _ _ _ => rfl) fun d1 d2 rv e => by
  unfold dAnd at e
  split at e
  · split at e
    · rename_i hc
      cases e
      exact ⟨_, _, rfl, rfl, by rw [bitAnd_nat hc.1 hc.2]⟩
    · cases e
  · cases e
/-! ### order -/
def dLt : Fn2
  | .int i, .int j => pB (decide (i < j))
  | _, _ => none
def dLe : Fn2
  | .int i, .int j => pB (decide (i ≤ j))
  | _, _ => none
def dGt : Fn2
  | .int i, .int j => pB (decide (j < i))
  | _, _ => none
def dGe : Fn2
  | .int i, .int j => pB (decide (j ≤ i))
  | _, _ => none
theorem s_lt : OpS K dLt (rI0 fun i j => .bl (decide (i < j))) := rI0_ok (w := fun i j => .bl (decide (i < j))) (fun _ _ _ _ => rfl) fun d1 d2 rv e => by
  unfold dLt at e
  split at e
  · cases e; exact ⟨_, _, rfl, rfl, rfl⟩
  · cases e
theorem s_le : OpS K dLe (rI0 fun i j => .bl (decide (i ≤ j))) := rI0_ok (w := fun i j => .bl (decide (i ≤ j))) (fun _ _ _ _ => rfl) fun d1 d2 rv e => by
  unfold dLe at e
  split at e
  · cases e; exact ⟨_, _, rfl, rfl, rfl⟩
  · cases e
theorem s_gt : OpS K dGt (rI0 fun i j => .bl (decide (j < i))) := rI0_ok (w := fun i j => .bl (decide (j < i))) (fun _ _ _ _ => rfl) fun d1 d2 rv e => by
  unfold dGt at e
  split at e
  · cases e; exact ⟨_, _, rfl, rfl, rfl⟩
  · cases e
theorem s_ge : OpS K dGe (rI0 fun i j => .bl (decide (j ≤ i))) := rI0_ok (w := fun i j => .bl (decide (j ≤ i))) (fun _ _ _ _ => rfl) fun d1 d2 rv e => by
  unfold dGe at e
  split at e
  · cases e; exact ⟨_, _, rfl, rfl, rfl⟩
  · cases e
/-! ### is None -/
def isNon : D → Bool
  | .non => true
  | _ => false
def dIsN : Fn2
  | d, .non => pB (isNon d)
  | _, _ => none
def dNotN : Fn2
  | d, .non => pB (!isNon d)
  | _, _ => none
theorem isNon_ok {G H : Hp} {d : D} {x : V} (h : Rep2 K G H d x) : decide (x = .non) = isNon d := by
  cases d with
  | non => obtain rfl : x = .non := h; rfl
  | bl b => obtain rfl : x = .bl b := h; rfl
  | int i => obtain rfl : x = .int i := h; rfl
  | str z => obtain rfl : x = .str z := h; rfl
  | tup ds => obtain ⟨a, vs, rfl, _⟩ := h; rfl
  | lst ds => obtain ⟨a, vs, rfl, _⟩ := h; rfl
  | flst ds => obtain ⟨a, vs, rfl, _⟩ := h; rfl
  | ftup ds => obtain ⟨a, vs, rfl, _⟩ := h; rfl
  | dic ks ds => obtain ⟨a, vs, rfl, _⟩ := h; rfl
theorem s_isN : OpS K dIsN (fun x y H Q => y = .non ∧ Q (.bl (decide (x = .non))) H) := by
  intro G H x y d1 d2 rv Q s h1 h2 e k
  unfold dIsN at e
  split at e
  · cases e
    obtain rfl : y = .non := h2
    exact ⟨rfl, by rw [isNon_ok h1]; exact end_bl s k⟩
  · cases e
theorem s_notN : OpS K dNotN (fun x y H Q => y = .non ∧ Q (.bl (!decide (x = .non))) H) := by
  intro G H x y d1 d2 rv Q s h1 h2 e k
  unfold dNotN at e
  split at e
  · cases e
    obtain rfl : y = .non := h2
    exact ⟨rfl, by rw [isNon_ok h1]; exact end_bl s k⟩
  · cases e
/-! ### == of data -/
mutual
def toPy : D → Option PyData
  | .non => some .none
  | .bl b => some (.bool b)
  | .int i => some (.int i)
  | .str x => some (.str x)
  | .tup ds => (toPys ds).map .tuple
  | .lst ds => (toPys ds).map .list
  | .flst ds => (toPys ds).map .list
  | .ftup ds => (toPys ds).map .tuple
  | .dic _ _ => none
def toPys : List D → Option (List PyData)
  | [] => some []
  | d :: ds => (toPy d).bind fun p => (toPys ds).map fun ps => p :: ps
end
mutual
theorem toPy_ok {G H : Hp} (s : Ex G H) : ∀ (d : D) {v : V} {p : PyData}, Rep K G d v → toPy d = some p → Dp K H v p
  | .non, v, p, h, e => by
    obtain rfl : v = .non := h
    cases e; exact .non
  | .bl b, v, p, h, e => by
    obtain rfl : v = .bl b := h
    cases e; exact .bl b
  | .int i, v, p, h, e => by
    obtain rfl : v = .int i := h
    cases e; exact .int i
  | .str x, v, p, h, e => by
    obtain rfl : v = .str x := h
    cases e; exact .str x
  | .tup ds, v, p, h, e => by
    obtain ⟨a, vs, rfl, hs, hr⟩ := h
    unfold toPy at e
    cases q : toPys ds with
    | none => rw [q] at e; cases e
    | some ps =>
      rw [q] at e; cases e
      exact .tup (SqT.of (s _ _ hs)) (toPys_ok s ds hr q)
  | .lst ds, v, p, h, e => by
    obtain ⟨a, vs, rfl, hs, hr⟩ := h
    unfold toPy at e
    cases q : toPys ds with
    | none => rw [q] at e; cases e
    | some ps =>
      rw [q] at e; cases e
      exact .lst (SqL.of (s _ _ hs)) (toPys_ok s ds hr q)
  | .ftup ds, v, p, h, e => by
    obtain ⟨a, vs, rfl, hs, hr⟩ := h
    unfold toPy at e
    cases q : toPys ds with
    | none => rw [q] at e; cases e
    | some ps =>
      rw [q] at e; cases e
      exact .tup (sqT_mono s hs) (toPys_ok s ds hr q)
  | .flst ds, v, p, h, e => by
    obtain ⟨a, vs, rfl, hs, hr⟩ := h
    unfold toPy at e
    cases q : toPys ds with
    | none => rw [q] at e; cases e
    | some ps =>
      rw [q] at e; cases e
      exact .lst (sqL_mono s hs) (toPys_ok s ds hr q)
  | .dic _ _, v, p, h, e => by cases e
theorem toPys_ok {G H : Hp} (s : Ex G H) : ∀ (ds : List D) {vs : List V} {ps : List PyData}, Reps K G ds vs → toPys ds = some ps → DpAll K H vs ps
  | [], vs, ps, h, e => by
    obtain rfl : vs = [] := h
    cases e; exact .nil
  | d :: ds, vs, ps, h, e => by
    obtain ⟨v, r, rfl, hv, hr⟩ := h
    unfold toPys at e
    cases q : toPy d with
    | none => rw [q] at e; cases e
    | some p =>
      rw [q] at e
      cases q2 : toPys ds with
      | none => rw [q2] at e; cases e
      | some pr =>
        rw [q2] at e; cases e
        exact .cons (toPy_ok s d hv q) (toPys_ok s ds hr q2)
end
theorem toPy2 {G H : Hp} (s : Ex G H) {d : D} {v : V} {p : PyData} (h : Rep2 K G H d v) (e : toPy d = some p) : Dp K H v p := by
  cases d with
  | non => exact toPy_ok s .non h e
  | bl b => exact toPy_ok s (.bl b) h e
  | int i => exact toPy_ok s (.int i) h e
  | str x => exact toPy_ok s (.str x) h e
  | tup ds =>
    obtain ⟨a, vs, rfl, hs, hr⟩ := h
    unfold toPy at e
    cases q : toPys ds with
    | none => rw [q] at e; cases e
    | some ps =>
      rw [q] at e; cases e
      exact .tup (SqT.of (s _ _ hs)) (toPys_ok s ds hr q)
  | lst ds =>
    obtain ⟨a, vs, rfl, hs, hr⟩ := h
    unfold toPy at e
    cases q : toPys ds with
    | none => rw [q] at e; cases e
    | some ps =>
      rw [q] at e; cases e
      exact .lst (SqL.of hs) (toPys_ok s ds hr q)
  | ftup ds =>
    obtain ⟨a, vs, rfl, hs, hr⟩ := h
    unfold toPy at e
    cases q : toPys ds with
    | none => rw [q] at e; cases e
    | some ps =>
      rw [q] at e; cases e
      exact .tup hs (toPys_ok s ds hr q)
  | flst ds =>
    obtain ⟨a, vs, rfl, hs, hr⟩ := h
    unfold toPy at e
    cases q : toPys ds with
    | none => rw [q] at e; cases e
    | some ps =>
      rw [q] at e; cases e
      exact .lst hs (toPys_ok s ds hr q)
  | dic ks ds => cases e
def dEqB (a b : D) : Option Bool := match toPy a, toPy b with
  | some p, some q => if SeqAt.shaped p && SeqAt.shaped q then some (PyData.eqv p q) else none
  | _, _ => none
def dEq : Fn2 := fun a b => (dEqB a b).bind pB
def dNe : Fn2 := fun a b => (dEqB a b).bind fun k => pB (!k)
theorem eqB_ok {G H : Hp} (s : Ex G H) {a b : D} {x y : V} {k : Bool} (h1 : Rep2 K G H a x) (h2 : Rep2 K G H b y) (e : dEqB a b = some k) : ∃ d e, Dp K H x d ∧ Dp K H y e ∧ SeqAt.shaped d = true ∧ SeqAt.shaped e = true ∧ PyData.eqv d e = k := by
  unfold dEqB at e
  split at e
  · rename_i p q e1 e2
    split at e
    · rename_i hs
      rw [Bool.and_eq_true] at hs
      exact ⟨p, q, toPy2 s h1 e1, toPy2 s h2 e2, hs.1, hs.2, Option.some.inj e⟩
    · cases e
  · cases e
theorem s_eq : OpS K dEq (rEqD K) := by
  intro G H x y d1 d2 rv Q s h1 h2 e k
  unfold dEq at e
  cases q : dEqB d1 d2 with
  | none => rw [q] at e; cases e
  | some c =>
    rw [q] at e; cases e
    obtain ⟨d, e, a1, a2, a3, a4, a5⟩ := eqB_ok s h1 h2 q
    exact ⟨d, e, a1, a2, a3, a4, by rw [a5]; exact end_bl s k⟩
theorem s_ne : OpS K dNe (rNeD K) := by
  intro G H x y d1 d2 rv Q s h1 h2 e k
  unfold dNe at e
  cases q : dEqB d1 d2 with
  | none => rw [q] at e; cases e
  | some c =>
    rw [q] at e; cases e
    obtain ⟨d, e, a1, a2, a3, a4, a5⟩ := eqB_ok s h1 h2 q
    exact ⟨d, e, a1, a2, a3, a4, by rw [a5]; exact end_bl s k⟩
/-! ### items -/
def dIx : Fn2
  | .tup ds, .int i => (atI ds i).map .pl
  | .lst ds, .int i => (atI ds i).map .pl
  | .flst ds, .int i => (atI ds i).map .pl
  | .ftup ds, .int i => (atI ds i).map .pl
  | .str x, .int i => if x.length ≤ lineN then (atI x.cps.toList i).map fun c => .pl (.str ⟨#[c]⟩) else none
  | _, _ => none
theorem reps_at {G : Hp} {ds : List D} {vs : List V} {i : Int} {d : D} (r : Reps K G ds vs) (e : atI ds i = some d) : ∃ v, atI vs i = some v ∧ Rep K G d v := by
  have hl := r.length
  unfold atI at e ⊢
  rw [← hl]
  cases q : ixN ds.length i with
  | none => rw [q] at e; cases e
  | some j =>
    rw [q] at e
    obtain ⟨v, h1, h2⟩ := r.get (show ds[j]? = some d from e)
    exact ⟨v, h1, h2⟩
theorem s_ix : OpS K dIx (rIx K) := by
  intro G H x y d1 d2 rv Q s h1 h2 e k
  unfold dIx at e
  split at e
  · rename_i ds i
    obtain ⟨d, e1, rfl⟩ := Option.map_eq_some_iff.mp e
    obtain ⟨a, vs, rfl, hs, r⟩ := h1
    obtain ⟨v, a1, a2⟩ := reps_at r e1
    exact .inr (.inl ⟨a, vs, i, v, rfl, h2, SqT.of (s _ _ hs), a1, same_end s a2 k⟩)
  · rename_i ds i
    obtain ⟨d, e1, rfl⟩ := Option.map_eq_some_iff.mp e
    obtain ⟨a, vs, rfl, hs, r⟩ := h1
    obtain ⟨v, a1, a2⟩ := reps_at r e1
    exact .inl ⟨a, vs, i, v, rfl, h2, SqL.of hs, a1, same_end s a2 k⟩
  · rename_i ds i
    obtain ⟨d, e1, rfl⟩ := Option.map_eq_some_iff.mp e
    obtain ⟨a, vs, rfl, hs, r⟩ := h1
    obtain ⟨v, a1, a2⟩ := reps_at r e1
    exact .inl ⟨a, vs, i, v, rfl, h2, hs, a1, same_end s a2 k⟩
  · rename_i ds i
    obtain ⟨d, e1, rfl⟩ := Option.map_eq_some_iff.mp e
    obtain ⟨a, vs, rfl, hs, r⟩ := h1
    obtain ⟨v, a1, a2⟩ := reps_at r e1
    exact .inr (.inl ⟨a, vs, i, v, rfl, h2, hs, a1, same_end s a2 k⟩)
  · rename_i z i
    split at e
    · rename_i hl
      obtain ⟨c, e1, rfl⟩ := Option.map_eq_some_iff.mp e
      exact .inr (.inr ⟨z, i, c, h1, h2, by rw [line_eq]; exact hl, e1, end_str s k⟩)
    · cases e
  · cases e
end
section
variable {X : Cx} {W : WX} {pos : Pos} {a b : Expr} {ma mb : MO}
theorem me_ix (ha : MOp X W a ma) (hb : MOp X W b mb) (hs : PlainIx b := by intro _ _; rfl) : ME X W (.Subscript a b pos) (mOp dIx ma mb) := (pe_ix ix_seq ha hb hs).imp fun _ _ _ h => op_then s_ix h
/-! ### -x -/
def ap1 (f : D → Option RV) (ρ : Env) (o : Opd) : ER RV := match o.get ρ with
  | some d => (match f d with
    | some rv => .ok rv ρ
    | none => .bad)
  | none => .bad
def mUn (f : D → Option RV) (a : MO) : M := fun ρ => bindM (a ρ) fun o ρ1 => ap1 f ρ1 o
def UnS (K : PySem.W.Frag) (f : D → Option RV) (r : V → Hp → VK → Prop) : Prop := ∀ (G H : Hp) (x : V) (d : D) (rv : RV) (Q : VK), Ex G H → Rep2 K G H d x → f d = some rv →
  (∀ v G1 H1, Go NoI G H G1 H1 → Ex G1 H1 → RVok K G1 H H1 rv v → Q v H1) → r x H Q
theorem ap1_ok {K : PySem.W.Frag} {G H : Hp} {σ : St} {ρ : Env} {f : D → Option RV} {r : V → Hp → VK → Prop} {Q : VK} {o : Opd} {x : V} (hs : UnS K f r) (r0 : Rel K G H σ ρ) (ho : OpdOk K G σ o x) (h : PostE K G H σ ρ W Q (ap1 f ρ o)) : r x H Q := by
  unfold ap1 at h
  split at h
  · rename_i d e
    split at h
    · rename_i rv e2
      exact hs G H x d rv Q r0.sub (ho.look r0 e) e2 fun v G1 H1 g s q => PostE.done r0 h g s q
    · exact h.elim
  · exact h.elim
theorem un_then {K : PySem.W.Frag} {σ : St} {H : Hp} {f : D → Option RV} {r : V → Hp → VK → Prop} {Q : VK} (hs : UnS K f r) (h : tM K W (mUn f ma) σ H Q) : tUn r (tMO K W ma) σ H Q := by
  obtain ⟨G, ρ, r0, h⟩ := h
  exact tMO_thenE (Q := Q) r0 h fun G1 H1 ρ1 o v e1 r1 ov h1 => ap1_ok hs r1 ov h1
theorem me_un {op : UnaryOp} {f : D → Option RV} {r : V → Hp → VK → Prop} (ho : UnR X (unaryOp op) r) (hs : UnS X.K f r) (ha : MOp X W a ma) : ME X W (.UnaryOp op a pos) (mUn f ma) := (pe_un ho ha).imp fun _ _ _ h => un_then hs h
def dNeg : D → Option RV
  | .int i => pI (-i)
  | _ => none
theorem s_neg {K : PySem.W.Frag} : UnS K dNeg (rU fun i => .int (-i)) := by
  intro G H x d rv Q s h e k
  unfold dNeg at e
  split at e
  · cases e
    exact ⟨_, h, end_int s k⟩
  · cases e
end
end L2.MX
end
section
set_option Elab.async false
set_option linter.all false
set_option maxRecDepth 100000
/-! MxD: arguments, displays, calls of built-ins, statements of blocks. -/
namespace L2.MX
open PySem PySem.Spec PyProof.Rows

/-! ### arguments -/
def mA0 : MA := fun ρ => .ok [] ρ
def mAc (m : MO) (ms : MA) : MA := fun ρ => bindM (m ρ) fun o ρ1 => bindM (ms ρ1) fun os ρ2 => .ok (o :: os) ρ2
section
variable {X : Cx} {W : WX} {e : Expr} {es : List Expr} {m : MO} {ms : MA}
theorem ma_nil : MAr X W [] mA0 := pa_nil.imp fun σ H Q ⟨G, ρ, r, h⟩ => h [] G H Go.refl r (Sub.refl ρ) .nil
theorem ma_cons (h1 : MOp X W e m) (h2 : MAr X W es ms) (hs : starEach (e :: es) X.env = (false, eval e X.env) :: starEach es X.env := by rfl) : MAr X W (e :: es) (mAc m ms) := by
  refine (pa_cons h1 h2 hs).imp fun σ H Q ⟨G, ρ, r0, h⟩ => ?_
  refine tMO_thenA (Q := Q) r0 h fun G1 H1 ρ1 o v e1 r1 ov h1 => ?_
  refine tMA_thenA (Q := Q) r1 h1 fun G2 H2 ρ2 os vs e2 r2 ovs h2 => ?_
  exact h2 (v :: vs) G2 H2 Go.refl r2 (Sub.refl _) (.cons (ov.mono e2) ovs)
end

/-! ### a function of operands -/
def getAll (ρ : Env) : List Opd → Option (List D)
  | [] => some []
  | o :: os => (o.get ρ).bind fun d => (getAll ρ os).map fun ds => d :: ds
inductive Reps2 (K : PySem.W.Frag) (G H : Hp) : List D → List V → Prop
  | nil : Reps2 K G H [] []
  | cons {d v ds vs} : Rep2 K G H d v → Reps2 K G H ds vs → Reps2 K G H (d :: ds) (v :: vs)
def CallS (K : PySem.W.Frag) (f : List D → Option RV) (r : List V → Hp → VK → Prop) : Prop := ∀ (G H : Hp) (xs : List V) (ds : List D) (rv : RV) (Q : VK), Ex G H → Reps2 K G H ds xs → f ds = some rv →
  (∀ v G1 H1, Go NoI G H G1 H1 → Ex G1 H1 → RVok K G1 H H1 rv v → Q v H1) → r xs H Q
def apL (f : List D → Option RV) (ρ : Env) (os : List Opd) : ER RV := match getAll ρ os with
  | some ds => (match f ds with
    | some rv => .ok rv ρ
    | none => .bad)
  | none => .bad
def mCall (f : List D → Option RV) (args : MA) : M := fun ρ => bindM (args ρ) fun os ρ1 => apL f ρ1 os
section
variable {K : PySem.W.Frag} {G H : Hp} {σ : St} {ρ : Env} {W : WX}
theorem looks (r : Rel K G H σ ρ) : ∀ {os : List Opd} {vs : List V} {ds : List D}, PairAll (OpdOk K G σ) os vs → getAll ρ os = some ds → Reps2 K G H ds vs
  | _, _, _, .nil, e => by cases e; exact .nil
  | _, _, _, .cons (o := o) (os := os) h t, e => by
    unfold getAll at e
    cases q : o.get ρ with
    | none => rw [q] at e; cases e
    | some d =>
      rw [q] at e
      cases q2 : getAll ρ os with
      | none => rw [q2] at e; cases e
      | some ds' =>
        rw [q2] at e; cases e
        exact .cons (h.look r q) (looks r t q2)
theorem apL_ok {f : List D → Option RV} {r : List V → Hp → VK → Prop} {Q : VK} {os : List Opd} {vs : List V} (hs : CallS K f r) (r0 : Rel K G H σ ρ) (ho : PairAll (OpdOk K G σ) os vs) (h : PostE K G H σ ρ W Q (apL f ρ os)) : r vs H Q := by
  unfold apL at h
  split at h
  · rename_i ds e
    split at h
    · rename_i rv e2
      exact hs G H vs ds rv Q r0.sub (looks r0 ho e) e2 fun v G1 H1 g s q => PostE.done r0 h g s q
    · exact h.elim
  · exact h.elim
theorem call_then {f : List D → Option RV} {r : List V → Hp → VK → Prop} {ma : MA} {Q : VK} (hs : CallS K f r) (h : tM K W (mCall f ma) σ H Q) : tCB r (tMA K W ma) σ H Q := by
  obtain ⟨G, ρ, r0, h⟩ := h
  exact tMA_thenE (Q := Q) r0 h fun G1 H1 ρ1 os vs e1 r1 ovs h1 => apL_ok hs r1 ovs h1
end
section
variable {X : Cx} {W : WX} {e : Expr} {es : List Expr} {ma : MA} {f : List D → Option RV} {r : List V → Hp → VK → Prop} {x : Str} {p pos : Pos} {id T : String}
theorem me_callB (hc : CallR X (.builtin id) r) (hs : CallS X.K f r) (hg : Gl X x) (hm : X.mg x = none) (hv : bootBuiltins x = some (.builtin id)) (ha : MAr X W (e :: es) ma) (hn : x ≠ "__name__" := by decide) (hdb : (x == ("__debug__" : Str)) = false := by decide)
    (he : starEach (e :: es) X.env = (false, eval e X.env) :: starEach es X.env := by rfl) (hpl : (backTo pos (starEach es X.env)).any (·.1) = false := by rfl) : ME X W (.Call (.Name x p) (e :: es) [] pos) (mCall f ma) :=
  (pe_callB hc hg hm hv ha hn hdb he hpl).imp fun _ _ _ h => call_then hs h
theorem me_callTy (hc : CallR X (.type T) r) (hs : CallS X.K f r) (hg : Gl X x) (hm : X.mg x = none) (hv : bootBuiltins x = some (.type T)) (ha : MAr X W (e :: es) ma) (hn : x ≠ "__name__" := by decide) (hdb : (x == ("__debug__" : Str)) = false := by decide)
    (he : starEach (e :: es) X.env = (false, eval e X.env) :: starEach es X.env := by rfl) (hpl : (backTo pos (starEach es X.env)).any (·.1) = false := by rfl) : ME X W (.Call (.Name x p) (e :: es) [] pos) (mCall f ma) :=
  (pe_callTy hc hg hm hv ha hn hdb he hpl).imp fun _ _ _ h => call_then hs h
theorem me_callF (hc : CallR X (.builtin id) r) (hs : CallS X.K f r) (hg : Gl X x) (hm : X.mg x = some (.builtin id)) (ha : MAr X W (e :: es) ma) (hdb : (x == ("__debug__" : Str)) = false := by decide)
    (he : starEach (e :: es) X.env = (false, eval e X.env) :: starEach es X.env := by rfl) (hpl : (backTo pos (starEach es X.env)).any (·.1) = false := by rfl) : ME X W (.Call (.Name x p) (e :: es) [] pos) (mCall f ma) :=
  (pe_callBfun hc hg hm ha hdb he hpl).imp fun _ _ _ h => call_then hs h
end
/-! ### displays: what is put in is plain -/
def vals : List Opd → Option (List D)
  | [] => some []
  | .val d :: os => (vals os).map fun ds => d :: ds
  | .slot _ :: _ => none
def mTup (args : MA) : M := fun ρ => bindM (args ρ) fun os ρ1 => match vals os with
  | some ds => if ds.length ≤ 1000 then .ok (.pl (.tup ds)) ρ1 else .bad
  | none => .bad
def mLst (args : MA) : M := fun ρ => bindM (args ρ) fun os ρ1 => match vals os with
  | some ds => if ds.length ≤ 1000 then .ok (.fr (.lst ds)) ρ1 else .bad
  | none => .bad
theorem vals_reps {K : PySem.W.Frag} {G : Hp} {σ : St} : ∀ {os : List Opd} {vs : List V} {ds : List D}, PairAll (OpdOk K G σ) os vs → vals os = some ds → Reps K G ds vs
  | _, _, _, .nil, e => by cases e; exact rfl
  | _, _, _, .cons (o := o) (os := os) h t, e => by
    cases o with
    | slot i => cases e
    | val d =>
      have e : (vals os).map (fun ds => d :: ds) = some _ := e
      obtain ⟨ds', e1, rfl⟩ := Option.map_eq_some_iff.mp e
      exact ⟨_, _, rfl, h, vals_reps t e1⟩
theorem small_line {n : Nat} (h : n ≤ 1000) : n ≤ sizeLine := by rw [line_eq]; exact Nat.le_trans h (by decide)
section
variable {X : Cx} {W : WX} {es : List Expr} {ma : MA} {pos : Pos}
theorem me_tup {x1} (h : MAr X W es ma) : ME X W (.Tuple es x1 pos) (mTup ma) := by
  refine (pe_tup h).imp fun σ H Q ⟨G, ρ, r0, h⟩ => ?_
  refine tMA_thenE (Q := Q) r0 h fun G1 H1 ρ1 os vs e1 r1 ovs h1 => ?_
  split at h1
  · rename_i ds e
    split at h1
    · rename_i hl
      have r := vals_reps ovs e
      exact ⟨by rw [← r.length]; exact small_line hl, fun p hp => new_tup (K := X.K) r1.sub r hp fun v G2 H2 g s q => PostE.done r1 h1 g s q⟩
    · exact h1.elim
  · exact h1.elim
theorem me_lst (h : MAr X W es ma) : ME X W (.List es pos) (mLst ma) := by
  refine (pe_lst h).imp fun σ H Q ⟨G, ρ, r0, h⟩ => ?_
  refine tMA_thenE (Q := Q) r0 h fun G1 H1 ρ1 os vs e1 r1 ovs h1 => ?_
  split at h1
  · rename_i ds e
    split at h1
    · rename_i hl
      have r := vals_reps ovs e
      exact ⟨by rw [← r.length]; exact small_line hl, fun p hp => new_list (K := X.K) r1.sub r hp fun v G2 H2 g s q => PostE.done r1 h1 g s q⟩
    · exact h1.elim
  · exact h1.elim
end
/-! ### the built-ins' functions -/
def dLen : List D → Option RV
  | [.tup ds] => pI ds.length
  | [.lst ds] => pI ds.length
  | [.flst ds] => pI ds.length
  | [.ftup ds] => pI ds.length
  | [.str x] => if x.length ≤ lineN then pI x.length else none
  | _ => none
def dAbs : List D → Option RV
  | [.int i] => pI (if i < 0 then -i else i)
  | _ => none
def dInt : List D → Option RV
  | [.int i] => pI i
  | [.bl b] => pI (if b then 1 else 0)
  | _ => none
def dList : List D → Option RV
  | [.lst ds] => some (.fr (.lst ds))
  | [.flst ds] => some (.fr (.lst ds))
  | [.ftup ds] => some (.fr (.lst ds))
  | [.tup ds] => some (.fr (.lst ds))
  | _ => none
def dTuple : List D → Option RV
  | [.lst ds] => some (.pl (.tup ds))
  | [.flst ds] => some (.pl (.tup ds))
  | [.tup ds] => some (.pl (.tup ds))
  | _ => none
/-- a list of ints -/
def intsOf : List D → Option (List Int)
  | [] => some []
  | .int i :: ds => (intsOf ds).map fun ns => i :: ns
  | _ => none
def boolsOf : List D → Option (List Bool)
  | [] => some []
  | .bl i :: ds => (boolsOf ds).map fun ns => i :: ns
  | _ => none
def dSum : List D → Option RV
  | [.lst ds] => (intsOf ds).bind fun ns => pI ns.sum
  | _ => none
def dAll : List D → Option RV
  | [.lst ds] => (boolsOf ds).bind fun ns => pB (ns.all id)
  | _ => none
def dAny : List D → Option RV
  | [.lst ds] => (boolsOf ds).bind fun ns => pB (ns.any id)
  | _ => none
section
variable {X : Cx} {K : PySem.W.Frag}
theorem reps2_1 {G H : Hp} {d : D} {xs : List V} (h : Reps2 K G H [d] xs) : ∃ v, xs = [v] ∧ Rep2 K G H d v := by
  cases h with
  | cons h t =>
    cases t
    exact ⟨_, rfl, h⟩
theorem reps2_2 {G H : Hp} {d e : D} {xs : List V} (h : Reps2 K G H [d, e] xs) : ∃ v w, xs = [v, w] ∧ Rep2 K G H d v ∧ Rep2 K G H e w := by
  cases h with
  | cons h t =>
    cases t with
    | cons h2 t2 =>
      cases t2
      exact ⟨_, _, rfl, h, h2⟩
theorem ints_reps {G : Hp} : ∀ {ds : List D} {vs : List V} {ns : List Int}, intsOf ds = some ns → Reps K G ds vs → vs = ns.map V.int
  | [], vs, ns, e, h => by
    obtain rfl : vs = [] := h
    cases e; rfl
  | d :: ds, vs, ns, e, h => by
    obtain ⟨v, r, rfl, hv, hr⟩ := h
    cases d with
    | int i =>
      obtain ⟨ms, e1, rfl⟩ := Option.map_eq_some_iff.mp (show (intsOf ds).map (fun ns => i :: ns) = some ns from e)
      obtain rfl : v = .int i := hv
      rw [ints_reps e1 hr]; rfl
    | _ => cases e
theorem bools_reps {G : Hp} : ∀ {ds : List D} {vs : List V} {ns : List Bool}, boolsOf ds = some ns → Reps K G ds vs → vs = ns.map V.bl
  | [], vs, ns, e, h => by
    obtain rfl : vs = [] := h
    cases e; rfl
  | d :: ds, vs, ns, e, h => by
    obtain ⟨v, r, rfl, hv, hr⟩ := h
    cases d with
    | bl i =>
      obtain ⟨ms, e1, rfl⟩ := Option.map_eq_some_iff.mp (show (boolsOf ds).map (fun ns => i :: ns) = some ns from e)
      obtain rfl : v = .bl i := hv
      rw [bools_reps e1 hr]; rfl
    | _ => cases e
theorem s_len : CallS K dLen (fun xs H Q => ∃ x n, xs = [x] ∧ LenV K x H n ∧ Q (.int (n : Nat)) H) := by
  intro G H xs ds rv Q s h e k
  unfold dLen at e
  split at e
  · cases e
    obtain ⟨v, rfl, a, vs, rfl, hs, r⟩ := reps2_1 h
    rename_i ds
    exact ⟨_, ds.length, rfl, .inr ⟨vs, SqT.of (s _ _ hs), r.length⟩, end_int s k⟩
  · cases e
    obtain ⟨v, rfl, a, vs, rfl, hs, r⟩ := reps2_1 h
    rename_i ds
    exact ⟨_, ds.length, rfl, .inl ⟨vs, SqL.of hs, r.length⟩, end_int s k⟩
  · cases e
    obtain ⟨v, rfl, a, vs, rfl, hs, r⟩ := reps2_1 h
    rename_i ds
    exact ⟨_, ds.length, rfl, .inl ⟨vs, hs, r.length⟩, end_int s k⟩
  · cases e
    obtain ⟨v, rfl, a, vs, rfl, hs, r⟩ := reps2_1 h
    rename_i ds
    exact ⟨_, ds.length, rfl, .inr ⟨vs, hs, r.length⟩, end_int s k⟩
  · split at e
    · rename_i x hl
      cases e
      obtain ⟨v, rfl, hv⟩ := reps2_1 h
      obtain rfl : v = .str x := hv
      exact ⟨_, x.length, rfl, ⟨by rw [line_eq]; exact hl, rfl⟩, end_int s k⟩
    · cases e
  · cases e
theorem s_abs : CallS K dAbs (fun xs H Q => ∃ i, xs = [.int i] ∧ Q (.int (if i < 0 then -i else i)) H) := by
  intro G H xs ds rv Q s h e k
  unfold dAbs at e
  split at e
  · cases e
    rename_i i
    obtain ⟨v, rfl, hv⟩ := reps2_1 h
    obtain rfl : v = .int i := hv
    exact ⟨_, rfl, end_int s k⟩
  · cases e
theorem s_int : CallS K dInt (fun xs H Q => (∃ i, xs = [.int i] ∧ Q (.int i) H) ∨ ∃ k, xs = [.bl k] ∧ Q (.int (if k then 1 else 0)) H) := by
  intro G H xs ds rv Q s h e k
  unfold dInt at e
  split at e
  · cases e
    rename_i i
    obtain ⟨v, rfl, hv⟩ := reps2_1 h
    obtain rfl : v = .int i := hv
    exact .inl ⟨_, rfl, end_int s k⟩
  · cases e
    rename_i i
    obtain ⟨v, rfl, hv⟩ := reps2_1 h
    obtain rfl : v = .bl i := hv
    exact .inr ⟨_, rfl, end_int s k⟩
  · cases e
theorem s_list : CallS K dList (fun xs H Q => ∃ p ys, xs = [.ref p] ∧ (SqL K H p ys ∨ SqT K H p ys) ∧ ∀ l, H l = none → Q (.ref l) (upd H l (.lst ys))) := by
  intro G H xs ds rv Q s h e k
  unfold dList at e
  split at e
  · cases e
    obtain ⟨v, rfl, a, vs, rfl, hs, r⟩ := reps2_1 h
    exact ⟨a, vs, rfl, .inl (SqL.of hs), fun l hl => new_list s r hl k⟩
  · cases e
    obtain ⟨v, rfl, a, vs, rfl, hs, r⟩ := reps2_1 h
    exact ⟨a, vs, rfl, .inl hs, fun l hl => new_list s r hl k⟩
  · cases e
    obtain ⟨v, rfl, a, vs, rfl, hs, r⟩ := reps2_1 h
    exact ⟨a, vs, rfl, .inr hs, fun l hl => new_list s r hl k⟩
  · cases e
    obtain ⟨v, rfl, a, vs, rfl, hs, r⟩ := reps2_1 h
    exact ⟨a, vs, rfl, .inr (SqT.of (s _ _ hs)), fun l hl => new_list s r hl k⟩
  · cases e
theorem s_tuple : CallS K dTuple (fun xs H Q => ∃ p ys, xs = [.ref p] ∧ ((SqL K H p ys ∧ ∀ l, H l = none → Q (.ref l) (upd H l (.tup ys))) ∨ (SqT K H p ys ∧ Q (.ref p) H))) := by
  intro G H xs ds rv Q s h e k
  unfold dTuple at e
  split at e
  · cases e
    obtain ⟨v, rfl, a, vs, rfl, hs, r⟩ := reps2_1 h
    exact ⟨a, vs, rfl, .inl ⟨SqL.of hs, fun l hl => new_tup s r hl k⟩⟩
  · cases e
    obtain ⟨v, rfl, a, vs, rfl, hs, r⟩ := reps2_1 h
    exact ⟨a, vs, rfl, .inl ⟨hs, fun l hl => new_tup s r hl k⟩⟩
  · cases e
    obtain ⟨v, rfl, a, vs, rfl, hs, r⟩ := reps2_1 h
    exact ⟨a, vs, rfl, .inr ⟨SqT.of (s _ _ hs), k (.ref a) G H Go.refl s ⟨a, vs, rfl, hs, r⟩⟩⟩
  · cases e
theorem s_sum : CallS K dSum (rSum K) := by
  intro G H xs ds rv Q s h e k
  unfold dSum at e
  split at e
  · rename_i es
    cases q : intsOf es with
    | none => rw [q] at e; cases e
    | some ns =>
      rw [q] at e; cases e
      obtain ⟨v, rfl, a, vs, rfl, hs, r⟩ := reps2_1 h
      rw [ints_reps q r] at hs
      exact ⟨a, ns, rfl, SqL.of hs, end_int s k⟩
  · cases e
theorem s_all : CallS K dAll (rAll K) := by
  intro G H xs ds rv Q s h e k
  unfold dAll at e
  split at e
  · rename_i es
    cases q : boolsOf es with
    | none => rw [q] at e; cases e
    | some ns =>
      rw [q] at e; cases e
      obtain ⟨v, rfl, a, vs, rfl, hs, r⟩ := reps2_1 h
      rw [bools_reps q r] at hs
      exact ⟨a, ns, rfl, SqL.of hs, end_bl s k⟩
  · cases e
theorem s_any : CallS K dAny (rAny K) := by
  intro G H xs ds rv Q s h e k
  unfold dAny at e
  split at e
  · rename_i es
    cases q : boolsOf es with
    | none => rw [q] at e; cases e
    | some ns =>
      rw [q] at e; cases e
      obtain ⟨v, rfl, a, vs, rfl, hs, r⟩ := reps2_1 h
      rw [bools_reps q r] at hs
      exact ⟨a, ns, rfl, SqL.of hs, end_bl s k⟩
  · cases e
end
end L2.MX
end
section
set_option Elab.async false
set_option linter.all false
set_option maxRecDepth 100000
/-! MxS: blocks, assignments, stores, control. -/
namespace L2.MX
open PySem PySem.Spec PyProof.Rows

/-! ### blocks -/
def sNil : MS := fun ρ => .nx ρ
def sSeq (a b : MS) : MS := fun ρ => match a ρ with
  | .nx ρ1 => b ρ1
  | r => r
section
variable {X : Cx} {W : WX} {st : Stmt} {rest : List Stmt} {a b : MS} {pos : Pos}
theorem PostS.nx_only {K : PySem.W.Frag} {G H : Hp} {σ : St} {ρ : Env} {D : Ends} {nx : St → Hp → Prop} {e : SR} (h : PostS K G H σ ρ W D e) (hn : ∀ ρ1, e ≠ .nx ρ1) : PostS K G H σ ρ W { D with nx := nx } e := by
  cases e with
  | nx ρ1 => exact (hn ρ1 rfl).elim
  | _ => exact h
theorem mss_nil : MSs X W [] sNil := pss_nil.imp fun D σ H ⟨G, ρ, r, h⟩ => h σ G H (Ss.refl _ _ _ _) r
theorem mss_cons (h1 : MSt X W st a) (h2 : MSs X W rest b) : MSs X W (st :: rest) (sSeq a b) := by
  refine (pss_cons h1 h2).imp fun D σ H ⟨G, ρ, r, h⟩ => ⟨G, ρ, r, ?_⟩
  unfold sSeq at h
  cases e : a ρ with
  | nx ρ1 =>
    rw [e] at h
    exact fun σ1 G1 H1 s r1 => ⟨G1, ρ1, r1, PostS.after s h⟩
  | bad => rw [e] at h; exact h
  | br ρ1 => rw [e] at h; exact h
  | ct ρ1 => rw [e] at h; exact h
  | rt x ρ1 => rw [e] at h; exact h
  | ex x ρ1 => rw [e] at h; exact h
theorem mss_one (h : MSt X W st a) : MSs X W [st] a := pss_one h
/-- code that is never reached -/
def sNever : MS := fun _ => .bad
theorem ms_never : MSt X W st sNever := ps_never.imp fun D σ H ⟨G, ρ, r, h⟩ => h
theorem mss_never {sts : List Stmt} : MSs X W sts sNever := pss_never.imp fun D σ H ⟨G, ρ, r, h⟩ => h
theorem ms_pass : MSt X W (.Pass pos) sNil := ps_pass.imp fun D σ H ⟨G, ρ, r, h⟩ => h σ G H (Ss.refl _ _ _ _) r
def sBrk : MS := fun ρ => .br ρ
def sCont : MS := fun ρ => .ct ρ
theorem ms_break : MSt X W (.Break pos) sBrk := ps_break.imp fun D σ H ⟨G, ρ, r, h⟩ => h σ G H (Ss.refl _ _ _ _) r
theorem ms_continue : MSt X W (.Continue pos) sCont := ps_continue.imp fun D σ H ⟨G, ρ, r, h⟩ => h σ G H (Ss.refl _ _ _ _) r
/-! ### return, an expression alone, if -/
def ofE (e : ER RV) (k : RV → Env → SR) : SR := match e with
  | .bad => .bad
  | .ok r ρ => k r ρ
  | .ex x ρ => .ex x ρ
def ofT (e : ER Bool) (k : Bool → Env → SR) : SR := match e with
  | .bad => .bad
  | .ok r ρ => k r ρ
  | .ex x ρ => .ex x ρ
def sRet (m : M) : MS := fun ρ => ofE (m ρ) fun r ρ1 => .rt r ρ1
def sRetN : MS := fun ρ => .rt (.pl .non) ρ
def sExpr (m : M) : MS := fun ρ => ofE (m ρ) fun _ ρ1 => .nx ρ1
def sIf (c : MT) (a b : MS) : MS := fun ρ => ofT (c ρ) fun k ρ1 => if k = true then a ρ1 else b ρ1
theorem tM_thenS {K : PySem.W.Frag} {G H : Hp} {σ : St} {ρ : Env} {D : Ends} {m : M} {k : RV → Env → SR} {R : V → Hp → Prop} (r0 : Rel K G H σ ρ) (h : PostS K G H σ ρ W D (ofE (m ρ) k))
    (hk : ∀ G1 H1 ρ1 rv v, Go (Own σ ρ) G H G1 H1 → Sub ρ ρ1 → Rel K G1 H1 σ ρ1 → RVok K G1 H H1 rv v → PostS K G H σ ρ W D (k rv ρ1) → R v H1) : tM K W m σ H R := by
  refine ⟨G, ρ, r0, ?_⟩
  cases e : m ρ with
  | bad =>
    rw [e] at h
    exact h
  | ex x ρ1 =>
    rw [e] at h
    exact fun cls d G1 H1 g r s q => h cls d σ G1 H1 (Ss.ofE g s) r q
  | ok rv ρ1 =>
    rw [e] at h
    exact fun v G1 H1 g r s q => hk G1 H1 ρ1 rv v g s r q h
theorem tMT_thenS {K : PySem.W.Frag} {G H : Hp} {σ : St} {ρ : Env} {D : Ends} {m : MT} {k : Bool → Env → SR} {R : Bool → Hp → Prop} (r0 : Rel K G H σ ρ) (h : PostS K G H σ ρ W D (ofT (m ρ) k))
    (hk : ∀ G1 H1 ρ1 b, Go (Own σ ρ) G H G1 H1 → Sub ρ ρ1 → Rel K G1 H1 σ ρ1 → PostS K G1 H1 σ ρ1 W D (k b ρ1) → R b H1) : tMT K W m σ H R := by
  refine ⟨G, ρ, r0, ?_⟩
  cases e : m ρ with
  | bad =>
    rw [e] at h
    exact h
  | ex x ρ1 =>
    rw [e] at h
    exact fun cls d G1 H1 g r s q => h cls d σ G1 H1 (Ss.ofE g s) r q
  | ok rv ρ1 =>
    rw [e] at h
    exact fun G1 H1 g r s => hk G1 H1 ρ1 rv g s r (PostS.after (Ss.ofE g s) h)
theorem ms_ret {e : Expr} {m : M} (h : ME X W e m) : MSt X W (.Return (some e) pos) (sRet m) := by
  refine (ps_ret h).imp fun D σ H ⟨G, ρ, r, h⟩ => ?_
  exact tM_thenS (D := D) r h fun G1 H1 ρ1 rv v g s r1 q h1 => h1 σ v G1 H1 (Ss.ofE g s) r1 q
theorem ms_retN : MSt X W (.Return none pos) sRetN := ps_retN.imp fun D σ H ⟨G, ρ, r, h⟩ => h σ .non G H (Ss.refl _ _ _ _) r rfl
theorem ms_expr {e : Expr} {m : M} (h : ME X W e m) (hs : swapsWith e none pos.line X.env = pure false := by rfl) : MSt X W (.Expr e pos) (sExpr m) := by
  refine (ps_expr h hs).imp fun D σ H ⟨G, ρ, r, h⟩ => ?_
  exact tM_thenS (D := D) r h fun G1 H1 ρ1 rv v g s r1 q h1 => h1 σ G1 H1 (Ss.ofE g s) r1
theorem ms_if {c : Expr} {xs ys : List Stmt} {tc : MT} (hc : MTe X W c tc) (ha : MSs X W xs a) (hb : MSs X W ys b) : MSt X W (.If c xs ys pos) (sIf tc a b) := by
  refine (ps_if hc ha hb).imp fun D σ H ⟨G, ρ, r, h⟩ => ?_
  refine tMT_thenS (D := D) r h fun G1 H1 ρ1 k g s r1 h1 => ?_
  cases k with
  | true => exact ⟨G1, ρ1, r1, h1⟩
  | false => exact ⟨G1, ρ1, r1, h1⟩
end

/-! ### slots set -/
def cellOf : RV → Cell
  | .pl d => .pl d
  | .fr d => .ow d
def isIo : Option Cell → Bool
  | some (.io _) => true
  | none => true
  | _ => false
def putC (i : Nat) (r : RV) (ρ : Env) : Option Env := if isIo ρ[i]? then none else some (ρ.set i (cellOf r))
section
variable {K : PySem.W.Frag} {G H G1 H1 : Hp} {σ : St} {ρ ρ1 ρ2 : Env}
theorem set_at {α : Type} {l : List α} {i j : Nat} {x c : α} (h : (l.set i x)[j]? = some c) : (j = i ∧ c = x) ∨ (j ≠ i ∧ l[j]? = some c) := by
  by_cases hj : j = i
  · subst hj
    by_cases hl : j < l.length
    · rw [List.getElem?_set_self hl] at h
      exact .inl ⟨rfl, (Option.some.inj h).symm⟩
    · rw [List.getElem?_eq_none (by simpa using hl)] at h; cases h
  · rw [List.getElem?_set_ne (Ne.symm hj)] at h
    exact .inr ⟨hj, h⟩
/-- a name is set: plain, or a thing that none else holds (fresh since (G, H)) -/
theorem Rel.put {i : Nat} {rv : RV} {v : V} (r0 : Rel K G H σ ρ) (g : Go (Own σ ρ) G H G1 H1) (s : Sub ρ ρ1) (r : Rel K G1 H1 σ ρ1) (q : RVok K G1 H H1 rv v) (e : putC i rv ρ1 = some ρ2) :
    Rel K G1 H1 (σ.set i (some v)) ρ2 ∧ Ss G H σ ρ G1 H1 (σ.set i (some v)) ρ2 := by
  unfold putC at e
  split at e
  · cases e
  rename_i hio
  have e := (Option.some.inj e).symm
  subst e
  have hi : i < ρ1.length := by
    cases z : ρ1[i]? with
    | none => rw [z] at hio; exact (hio rfl).elim
    | some c => exact (List.getElem?_eq_some_iff.mp z).1
  have hiσ : i < σ.length := by rw [r.len]; exact hi
  have noio : ∀ d, ρ1[i]? ≠ some (.io d) := fun d z => by rw [z] at hio; exact hio rfl
  have at_i : (σ.set i (some v))[i]? = some (some v) := List.getElem?_set_self hiσ
  have at_j : ∀ j, j ≠ i → (σ.set i (some v))[j]? = σ[j]? := fun j hj => List.getElem?_set_ne (Ne.symm hj)
  -- who owns
  have own : ∀ (j : Nat) (d : D), Owns (ρ1.set i (cellOf rv)) j d → (j = i ∧ rv = .fr d) ∨ (j ≠ i ∧ Owns ρ1 j d) := fun j d h => by
    rcases h with h | h
    · rcases set_at h with ⟨z, y⟩ | ⟨n, z⟩
      · cases rv with
        | pl d' => cases y
        | fr d' => cases y; exact .inl ⟨z, rfl⟩
      · exact .inr ⟨n, .inl z⟩
    · rcases set_at h with ⟨z, y⟩ | ⟨n, z⟩
      · cases rv with
        | pl d' => cases y
        | fr d' => cases y
      · exact .inr ⟨n, .inr z⟩
  -- a fresh one is none of the owned
  have apart : ∀ (d : D) (a : Addr), rv = .fr d → v = .ref a → ∀ (j : Nat) (c : D), Owns ρ1 j c → σ[j]? ≠ some (some (.ref a)) := fun d a e1 e2 j c o z => by
    subst e1 e2
    obtain ⟨b, e3, n, _⟩ := q
    cases e3
    obtain ⟨c', o'⟩ := s.owns o
    obtain ⟨u, hu⟩ := r0.alive ⟨j, c', o', z⟩
    rw [n] at hu; cases hu
  refine ⟨⟨r.sub, by simpa using r.len, fun j d h => ?_, fun j d h => ?_, fun j k d d' a h1 h2 e1 e2 => ?_⟩, g, fun a h => ?_, fun j d h => ?_⟩
  · rcases set_at h with ⟨rfl, y⟩ | ⟨n, z⟩
    · cases rv with
      | pl d' => cases y; exact ⟨v, at_i, q⟩
      | fr d' => cases y
    · obtain ⟨w, e1, e2⟩ := r.pl j d z
      exact ⟨w, (at_j j n).trans e1, e2⟩
  · rcases own j d h with ⟨rfl, y⟩ | ⟨n, o⟩
    · subst y
      obtain ⟨a, e1, _, n, t⟩ := q
      exact ⟨a, by rw [at_i, e1], n, t⟩
    · obtain ⟨a, e1, n1, t⟩ := r.ow j d o
      exact ⟨a, (at_j j n).trans e1, n1, t⟩
  · rcases own j d h1 with ⟨rfl, y⟩ | ⟨n, o⟩
    · rcases own k d' h2 with ⟨rfl, _⟩ | ⟨n2, o2⟩
      · rfl
      · rw [at_i] at e1
        rw [at_j k n2] at e2
        exact (apart d a y (Option.some.inj (Option.some.inj e1)) k d' o2 e2).elim
    · rw [at_j j n] at e1
      rcases own k d' h2 with ⟨rfl, y⟩ | ⟨n2, o2⟩
      · rw [at_i] at e2
        exact (apart d' a y (Option.some.inj (Option.some.inj e2)) j d o e1).elim
      · rw [at_j k n2] at e2
        exact r.dis j k d d' a o o2 e1 e2
  · obtain ⟨j, d, o, e1⟩ := h
    rcases own j d o with ⟨rfl, y⟩ | ⟨n, o1⟩
    · subst y
      obtain ⟨b, e2, n, _⟩ := q
      rw [at_i] at e1
      have : v = .ref a := Option.some.inj (Option.some.inj e1)
      rw [e2] at this; cases this
      exact .inr n
    · rw [at_j j n] at e1
      exact .inl (s.own ⟨j, d, o1, e1⟩)
  · rcases set_at h with ⟨rfl, y⟩ | ⟨n, z⟩
    · cases rv <;> cases y
    · exact ⟨at_j j n, (s j).2 d z⟩
end
def sSet (i : Nat) (m : M) : MS := fun ρ => ofE (m ρ) fun r ρ1 => match putC i r ρ1 with
  | some ρ2 => .nx ρ2
  | none => .bad
section
variable {X : Cx} {W : WX} {pos : Pos}
theorem asg_then {K : PySem.W.Frag} {m : M} {i : Nat} {D : Ends} {σ : St} {H : Hp} (h : tMS K W (sSet i m) D σ H) : tAsg (tM K W m) (gName i) D σ H := by
  obtain ⟨G, ρ, r, h⟩ := h
  refine tM_thenS (D := D) r h fun G1 H1 ρ1 rv v g s r1 q h1 => ?_
  split at h1
  · rename_i ρ2 e
    obtain ⟨r2, s2⟩ := Rel.put r g s r1 q e
    exact h1 _ G1 H1 s2 r2
  · exact h1.elim
theorem ms_set {i : Nat} {x : Str} {e : Expr} {m : M} {pos' : Pos} (hN : X.N.Nodup) (hi : X.N[i]? = some x) (hx : Loc X.env.scope x) (he : ME X W e m) (hs : swapsWith e (some (.Name x pos')) pos.line X.env = pure false := by rfl)
    (hf : X.fn x = true ∨ X.env.scope.names.lookup x = some .local := by first | exact .inl rfl | exact .inr rfl | assumption) : MSt X W (.Assign [.Name x pos'] e pos) (sSet i m) := (ps_set hN hi hx he hs hf).imp fun _ _ _ h => asg_then h
end

/-! ### targets of plain data: names, tuples of them -/
abbrev G1 := D → Env → Option Env
def gNm (i : Nat) : G1 := fun d ρ => putC i (.pl d) ρ
def gAll : List G1 → List D → Env → Option Env
  | [], [], ρ => some ρ
  | g :: gs, d :: ds, ρ => (g d ρ).bind fun ρ1 => gAll gs ds ρ1
  | _, _, _ => none
def gTp (gs : List G1) : G1 := fun d ρ => match d with
  | .tup ds => gAll gs ds ρ
  | .ftup ds => gAll gs ds ρ
  | .lst ds => gAll gs ds ρ
  | .flst ds => gAll gs ds ρ
  | _ => none
/-- ss: the slots that are set -/
def Out (ss : List Nat) (σ σ1 : St) : Prop := σ1.length = σ.length ∧ ∀ j, j ∉ ss → σ1[j]? = σ[j]?
theorem Out.refl (ss : List Nat) (σ : St) : Out ss σ σ := ⟨rfl, fun _ _ => rfl⟩
theorem Out.trans {s1 s2 : List Nat} {a b c : St} (h : Out s1 a b) (k : Out s2 b c) : Out (s1 ++ s2) a c := ⟨k.1.trans h.1, fun j hj => (k.2 j fun z => hj (List.mem_append_right _ z)).trans (h.2 j fun z => hj (List.mem_append_left _ z))⟩
def tMG (K : PySem.W.Frag) (g : G1) (ss : List Nat) : TG := fun v σ H Q => ∃ G ρ d ρ1, Rel K G H σ ρ ∧ Rep K G d v ∧ g d ρ = some ρ1 ∧ ∀ σ1, Ss G H σ ρ G H σ1 ρ1 → Rel K G H σ1 ρ1 → Out ss σ σ1 ∧ Sub ρ ρ1 → Q σ1 H
def tMGs (K : PySem.W.Frag) (gs : List G1) (ss : List Nat) : TGs := fun vs σ H Q => ∃ G ρ ds ρ1, Rel K G H σ ρ ∧ Reps K G ds vs ∧ gAll gs ds ρ = some ρ1 ∧ ∀ σ1, Ss G H σ ρ G H σ1 ρ1 → Rel K G H σ1 ρ1 → Out ss σ σ1 ∧ Sub ρ ρ1 → Q σ1 H
abbrev MG (X : Cx) (e : Expr) (g : G1) (ss : List Nat) : Prop := PG X e (tMG X.K g ss)
abbrev MGs (X : Cx) (es : List Expr) (gs : List G1) (ss : List Nat) : Prop := PGs X es (tMGs X.K gs ss)
theorem _root_.L2.PG.imp {X : Cx} {e : Expr} {t t' : TG} (h : PG X e t) (k : ∀ v σ H Q, t' v σ H Q → t v σ H Q) : PG X e t' := ⟨fun pins s σ H v u Q I r q => h.run pins s σ H v u Q I r (k v σ H Q q)⟩
theorem _root_.L2.PGs.imp {X : Cx} {e : List Expr} {t t' : TGs} (h : PGs X e t) (k : ∀ v σ H Q, t' v σ H Q → t v σ H Q) : PGs X e t' := ⟨fun pins s σ H v u Q I r q => h.run pins s σ H v u Q I r (k v σ H Q q)⟩
section
variable {X : Cx} {W : WX} {pos : Pos}
theorem putC_sub {i : Nat} {d : D} {ρ ρ1 : Env} (e : putC i (.pl d) ρ = some ρ1) : Sub ρ ρ1 := by
  unfold putC at e
  split at e
  · cases e
  have e := (Option.some.inj e).symm
  subst e
  refine fun j => ⟨fun d' h => ?_, fun d' h => ?_⟩
  · rcases set_at h with ⟨_, y⟩ | ⟨_, z⟩
    · cases y
    · exact ⟨d', z⟩
  · rcases set_at h with ⟨_, y⟩ | ⟨_, z⟩
    · cases y
    · exact ⟨d', z⟩
theorem mg_name {i : Nat} {x : Str} (hN : X.N.Nodup) (hi : X.N[i]? = some x) (hx : Loc X.env.scope x) (hf : X.fn x = true ∨ X.env.scope.names.lookup x = some .local := by first | exact .inl rfl | exact .inr rfl | assumption) : MG X (.Name x pos) (gNm i) [i] :=
  (pg_name hN hi hx hf).imp fun v σ H Q ⟨G, ρ, d, ρ1, r, q, e, h⟩ => by
    obtain ⟨r2, s2⟩ := Rel.put (rv := .pl d) r Go.refl (Sub.refl ρ) r q e
    exact h _ s2 r2 ⟨⟨by simp, fun j hj => List.getElem?_set_ne (fun z => hj (by simp [z]))⟩, putC_sub e⟩
theorem mgs_nil : MGs X [] [] [] := pgs_nil.imp fun v σ H Q ⟨G, ρ, ds, ρ1, r, q, e, h⟩ => by
  cases ds with
  | nil =>
    obtain rfl : v = [] := q
    cases e
    exact ⟨rfl, h σ (Ss.refl _ _ _ _) r ⟨Out.refl _ _, Sub.refl _⟩⟩
  | cons d ds => cases e
theorem mgs_cons {e : Expr} {es : List Expr} {g : G1} {gs : List G1} {s1 s2 : List Nat} (h1 : MG X e g s1) (h2 : MGs X es gs s2)
    (hs : (assignEach (e :: es) X.env).map (·.2) = assign e X.env :: (assignEach es X.env).map (·.2) := by rfl) : MGs X (e :: es) (g :: gs) (s1 ++ s2) := (pgs_cons h1 h2 hs).imp fun v σ H Q ⟨G, ρ, ds, ρ1, r, q, e, h⟩ => by
  cases ds with
  | nil => cases e
  | cons d ds =>
    obtain ⟨w, ws, rfl, hw, hws⟩ := q
    have e : (g d ρ).bind (fun ρ1 => gAll gs ds ρ1) = some ρ1 := e
    cases q1 : g d ρ with
    | none => rw [q1] at e; cases e
    | some ρ2 =>
      rw [q1] at e
      refine ⟨w, ws, rfl, G, ρ, d, ρ2, r, hw, q1, fun σ1 s1 r1 o1 => ?_⟩
      exact ⟨G, ρ2, ds, ρ1, r1, hws, e, fun σ2 s2 r2 o2 => h σ2 (s1.trans s2) r2 ⟨o1.1.trans o2.1, o1.2.trans o2.2⟩⟩
theorem gAll_len : ∀ (gs : List G1) (ds : List D) (ρ ρ1 : Env), gAll gs ds ρ = some ρ1 → gs.length = ds.length := by
  intro gs
  induction gs with
  | nil =>
    intro ds ρ ρ1 e
    cases ds with
    | nil => rfl
    | cons => cases e
  | cons g gs ih =>
    intro ds ρ ρ1 e
    cases ds with
    | nil => cases e
    | cons d ds =>
      have e : (g d ρ).bind (fun ρ1 => gAll gs ds ρ1) = some ρ1 := e
      cases q1 : g d ρ with
      | none => rw [q1] at e; cases e
      | some ρ2 =>
        rw [q1] at e
        simp [ih ds ρ2 ρ1 e]
theorem _root_.L2.PG.or {X : Cx} {e : Expr} {t t' : TG} (h : PG X e t) (h' : PG X e t') : PG X e (fun v σ H Q => t v σ H Q ∨ t' v σ H Q) := ⟨fun pins s σ H v u Q I r q => q.elim (fun q => h.run pins s σ H v u Q I r q) fun q => h'.run pins s σ H v u Q I r q⟩
theorem mg_tup {es : List Expr} {k : Nat} {gs : List G1} {ss : List Nat} {n : Nat} (hc : X.calm = true) (h : MGs X es gs ss) (hl : gs.length = n)
    (hn : (assignEach es X.env).length = n := by rfl) (hst : (assignEach es X.env).findIdx? (·.1) = none := by rfl) : MG X (.Tuple es k pos) (gTp gs) ss := ((pg_tup hc h hn hst).or (pg_lst hc h hn hst)).imp fun v σ H Q ⟨G, ρ, d, ρ1, r, q, e, h⟩ => by
  cases d with
  | tup ds =>
    obtain ⟨a, vs, rfl, hs, hr⟩ := q
    have e : gAll gs ds ρ = some ρ1 := e
    exact .inl ⟨a, vs, rfl, SqT.of (r.sub _ _ hs), by rw [← hr.length, ← gAll_len gs ds ρ ρ1 e, hl], G, ρ, ds, ρ1, r, hr, e, h⟩
  | ftup ds =>
    obtain ⟨a, vs, rfl, hs, hr⟩ := q
    have e : gAll gs ds ρ = some ρ1 := e
    exact .inl ⟨a, vs, rfl, sqT_mono r.sub hs, by rw [← hr.length, ← gAll_len gs ds ρ ρ1 e, hl], G, ρ, ds, ρ1, r, hr, e, h⟩
  | lst ds =>
    obtain ⟨a, vs, rfl, hs, hr⟩ := q
    have e : gAll gs ds ρ = some ρ1 := e
    exact .inr ⟨a, vs, rfl, SqL.of (r.sub _ _ hs), by rw [← hr.length, ← gAll_len gs ds ρ ρ1 e, hl], G, ρ, ds, ρ1, r, hr, e, h⟩
  | flst ds =>
    obtain ⟨a, vs, rfl, hs, hr⟩ := q
    have e : gAll gs ds ρ = some ρ1 := e
    exact .inr ⟨a, vs, rfl, sqL_mono r.sub hs, by rw [← hr.length, ← gAll_len gs ds ρ ρ1 e, hl], G, ρ, ds, ρ1, r, hr, e, h⟩
  | _ => cases e
/-- targets = a plain value -/
def sAsg (g : G1) (m : M) : MS := fun ρ => ofE (m ρ) fun r ρ1 => match g r.d ρ1 with
  | some ρ2 => .nx ρ2
  | none => .bad
theorem ms_asg {tg e : Expr} {m : M} {g : G1} {ss : List Nat} (he : ME X W e m) (hg : MG X tg g ss) (hs : swapsWithSole [tg] e pos.line X.env = pure false := by rfl) (hw : swappedStores [tg] e X.env = pure none := by rfl)
    (h1 : (assignEach [tg] X.env).map (·.2) = [assign tg X.env] := by rfl) : MSt X W (.Assign [tg] e pos) (sAsg g m) := (ps_asg he hg hs hw h1).imp fun D σ H ⟨G, ρ, r, h⟩ => by
  refine tM_thenS (D := D) r h fun G1 H1 ρ1 rv v g1 s r1 q h1 => ?_
  split at h1
  · rename_i ρ2 e
    obtain ⟨G2, g2, r2, _, rep⟩ := publish r g1 r1 s q
    exact ⟨G2, ρ1, rv.d, ρ2, r2, rep, e, fun σ1 s1 r3 _ => h1 σ1 G2 H1 ((Ss.ofE g2 s).trans s1) r3⟩
  · exact h1.elim
end
end L2.MX
end
section
set_option Elab.async false
set_option linter.all false
set_option maxRecDepth 100000
/-! MxU: owned lists and dicts changed; two names at once; name op= e. -/
namespace L2.MX
open PySem PySem.Spec PyProof.Rows

/-- the owned slot i holds d -/
def Cell.setD (d : D) : Cell → Cell
  | .ow _ => .ow d
  | .io _ => .io d
  | c => c
def ownedAt (ρ : Env) (i : Nat) : Option D := match ρ[i]? with
  | some (.ow d) => some d
  | some (.io d) => some d
  | _ => none
def setOwn (ρ : Env) (i : Nat) (d : D) : Env := match ρ[i]? with
  | some c => ρ.set i (c.setD d)
  | none => ρ
theorem ownedAt_owns {ρ : Env} {i : Nat} {d : D} (h : ownedAt ρ i = some d) : Owns ρ i d := by
  unfold ownedAt at h
  split at h
  · rename_i c e; cases h; exact .inl e
  · rename_i c e; cases h; exact .inr e
  · cases h
section
variable {K : PySem.W.Frag} {G H : Hp} {σ : St} {ρ : Env}
theorem setOwn_at {i : Nat} {d d' : D} (h : Owns ρ i d) : (∀ (j : Nat) (c : Cell), (setOwn ρ i d')[j]? = some c → (j = i ∧ ((ρ[i]? = some (.ow d) ∧ c = .ow d') ∨ (ρ[i]? = some (.io d) ∧ c = .io d'))) ∨ (j ≠ i ∧ ρ[j]? = some c)) ∧ (setOwn ρ i d').length = ρ.length := by
  unfold setOwn
  rcases h with h | h
  · rw [h]
    refine ⟨fun j c z => ?_, by simp⟩
    rcases set_at z with ⟨e, y⟩ | y
    · exact .inl ⟨e, .inl ⟨rfl, y⟩⟩
    · exact .inr y
  · rw [h]
    refine ⟨fun j c z => ?_, by simp⟩
    rcases set_at z with ⟨e, y⟩ | y
    · exact .inl ⟨e, .inr ⟨rfl, y⟩⟩
    · exact .inr y
/-- an owned thing is written -/
theorem Rel.write {i : Nat} {d d' : D} {a : Addr} {o : HO} (r : Rel K G H σ ρ) (h : Owns ρ i d) (ea : σ[i]? = some (some (.ref a))) (t : Top K G (upd H a o) a d') :
    Rel K G (upd H a o) σ (setOwn ρ i d') ∧ Sub ρ (setOwn ρ i d') ∧ Go (Own σ ρ) G H G (upd H a o) := by
  obtain ⟨at_, hl⟩ := setOwn_at (d' := d') h
  obtain ⟨b, e1, n, told⟩ := r.ow i d h
  rw [ea] at e1; cases e1
  obtain ⟨u, hu⟩ := told.alive
  have own : ∀ (j : Nat) (c : D), Owns (setOwn ρ i d') j c → (j = i ∧ c = d') ∨ (j ≠ i ∧ Owns ρ j c) := fun j c z => by
    rcases z with z | z
    · rcases at_ j _ z with ⟨e, y⟩ | ⟨n, y⟩
      · rcases y with ⟨_, y⟩ | ⟨_, y⟩
        · cases y; exact .inl ⟨e, rfl⟩
        · cases y
      · exact .inr ⟨n, .inl y⟩
    · rcases at_ j _ z with ⟨e, y⟩ | ⟨n, y⟩
      · rcases y with ⟨_, y⟩ | ⟨_, y⟩
        · cases y
        · cases y; exact .inl ⟨e, rfl⟩
      · exact .inr ⟨n, .inr y⟩
  have own0 : ∀ (j : Nat) (c : D), Owns (setOwn ρ i d') j c → ∃ c', Owns ρ j c' := fun j c z => by
    rcases own j c z with ⟨e, _⟩ | ⟨_, y⟩
    · exact ⟨d, e ▸ h⟩
    · exact ⟨c, y⟩
  have key : ∀ (b : Addr) (p : HO), H b = some p → b ≠ a → upd H a o b = some p := fun b p e ne => by rw [upd_ne ne]; exact e
  refine ⟨⟨fun b p e => ?_, by rw [hl]; exact r.len, fun j c z => ?_, fun j c z => ?_, fun j k c c' b z1 z2 => ?_⟩, fun j => ⟨fun c z => ?_, fun c z => ?_⟩, ⟨Ex.refl G, fun b p e ni => key b p e fun z => ni ⟨i, d, h, by rw [z]; exact ea⟩, fun b p e => ?_, fun _ _ e => .inl e⟩⟩
  · refine key b p (r.sub b p e) fun z => ?_
    rw [z, n] at e; cases e
  · rcases at_ j _ z with ⟨e, y⟩ | ⟨n2, y⟩
    · rcases y with ⟨_, y⟩ | ⟨_, y⟩ <;> cases y
    · exact r.pl j c y
  · rcases own j c z with ⟨rfl, rfl⟩ | ⟨n2, y⟩
    · exact ⟨a, ea, n, t⟩
    · obtain ⟨b, e1, n1, t1⟩ := r.ow j c y
      refine ⟨b, e1, n1, t1.mono (Ex.refl G) fun p hp => key b p hp fun z => ?_⟩
      exact n2 (r.dis j i c d b y h e1 (by rw [ea, z]))
  · obtain ⟨c1, y1⟩ := own0 j c z1
    obtain ⟨c2, y2⟩ := own0 k c' z2
    exact r.dis j k c1 c2 b y1 y2
  · rcases at_ j _ z with ⟨e, y⟩ | ⟨_, y⟩
    · rcases y with ⟨y1, y⟩ | ⟨y1, y⟩
      · rw [e]; exact ⟨d, y1⟩
      · cases y
    · exact ⟨c, y⟩
  · rcases at_ j _ z with ⟨e, y⟩ | ⟨_, y⟩
    · rcases y with ⟨y1, y⟩ | ⟨y1, y⟩
      · cases y
      · rw [e]; exact ⟨d, y1⟩
    · exact ⟨c, y⟩
  · by_cases hb : b = a
    · exact ⟨o, by rw [hb, upd_same]⟩
    · exact ⟨p, key b p e hb⟩
end

/-! ### x[k] = e, x[k] op= e, x.append(e), x.pop(k) of an owned list x -/
def asInt : D → Option Int
  | .int i => some i
  | _ => none
def putIx (ρ : Env) (i : Nat) (k d : D) : Option Env := match ownedAt ρ i, k with
  | some (.lst ds), .int z => (ixN ds.length z).map fun j => setOwn ρ i (.lst (ds.set j d))
  | _, _ => none
def sSetIx (i : Nat) (mk : M) (me : M) : MS := fun ρ => ofE (me ρ) fun r ρ1 => if (ownedAt ρ1 i).isSome = true then ofE (mk ρ1) fun k ρ2 => match putIx ρ2 i k.d r.d with
  | some ρ3 => .nx ρ3
  | none => .bad else .bad
section
variable {X : Cx} {W : WX} {pos : Pos}
/-- a first expression of a statement, plain from now on -/
theorem tM_thenP {K : PySem.W.Frag} {G H : Hp} {σ : St} {ρ : Env} {D : Ends} {m : M} {k : RV → Env → SR} {R : V → Hp → Prop} (r0 : Rel K G H σ ρ) (h : PostS K G H σ ρ W D (ofE (m ρ) k))
    (hk : ∀ G1 H1 ρ1 rv v, Ex G G1 → Rel K G1 H1 σ ρ1 → Rep K G1 rv.d v → PostS K G1 H1 σ ρ1 W D (k rv ρ1) → R v H1) : tM K W m σ H R :=
  tM_thenS r0 h fun G1 H1 ρ1 rv v g s r q h1 => by
    obtain ⟨G2, g2, r2, _, rep⟩ := publish r0 g r s q
    exact hk G2 H1 ρ1 rv v g2.ext r2 rep (PostS.after (Ss.ofE g2 s) h1)
theorem putIx_ok {K : PySem.W.Frag} {G H : Hp} {σ : St} {ρ ρ3 : Env} {i : Nat} {k d : D} {kv v : V} (r : Rel K G H σ ρ) (hk : Rep K G k kv) (hd : Rep K G d v) (e : putIx ρ i k d = some ρ3) :
    ∃ (p : Addr) (xs : List V) (z : Int) (j : Nat), σ[i]? = some (some (.ref p)) ∧ kv = .int z ∧ H p = some (.lst xs) ∧ ixN xs.length z = some j ∧ Rel K G (upd H p (.lst (xs.set j v))) σ ρ3 ∧ Ss G H σ ρ G (upd H p (.lst (xs.set j v))) σ ρ3 := by
  unfold putIx at e
  split at e
  · rename_i ds z e1
    obtain ⟨j, ej, rfl⟩ := Option.map_eq_some_iff.mp e
    have o := ownedAt_owns e1
    obtain ⟨p, ep, n, vs, hp, rep⟩ := r.ow i _ o
    have t : Top K G (upd H p (.lst (vs.set j v))) p (.lst (ds.set j d)) := ⟨_, upd_same, rep.set j hd⟩
    obtain ⟨r2, s2, g2⟩ := r.write o ep t
    exact ⟨p, vs, z, j, ep, hk, hp, by rw [← rep.length]; exact ej, r2, Ss.ofE g2 s2⟩
  · cases e
variable {st : Stmt}
theorem ms_setIx {i : Nat} {mk me : M} (h : PS X st (tAsg (tM X.K W me) (gSub (tVar i) (tM X.K W mk) rSetL))) : MSt X W st (sSetIx i mk me) := by
  refine h.imp fun D σ H ⟨G, ρ, r, h⟩ => ?_
  refine tM_thenP (D := D) r h fun G1 H1 ρ1 rv v e1 r1 q1 h1 => ?_
  show tVar i σ H1 fun o H2 => tM X.K W mk σ H2 fun z H3 => rSetL o z v H3 fun H4 => D.nx σ H4
  split at h1
  · rename_i ho
    obtain ⟨d, ed⟩ := Option.isSome_iff_exists.mp ho
    obtain ⟨o, eo, _⟩ := r1.ow i d (ownedAt_owns ed)
    refine ⟨_, eo, ?_⟩
    refine tM_thenP (D := D) r1 h1 fun G2 H2 ρ2 kv z e2 r2 q2 h2 => ?_
    split at h2
    · rename_i ρ3 e3
      obtain ⟨p, xs, z', j, ep, ez, hp, ej, r3, s3⟩ := putIx_ok r2 q2 (Rep.mono e2 rv.d q1) e3
      rw [eo] at ep; cases ep
      exact ⟨o, xs, z', j, rfl, ez, hp, ej, h2 σ G2 _ s3 r3⟩
    · exact h2.elim
  · exact h1.elim
/-! x.append(e) -/
def appTo (ρ : Env) (i : Nat) (d : D) : Option Env := match ownedAt ρ i with
  | some (.lst ds) => if ds.length < lineN then some (setOwn ρ i (.lst (ds ++ [d]))) else none
  | _ => none
theorem owned_list {K : PySem.W.Frag} {G H : Hp} {σ : St} {ρ : Env} {i : Nat} {ds : List D} (r : Rel K G H σ ρ) (e : ownedAt ρ i = some (.lst ds)) : ∃ (p : Addr) (vs : List V), σ[i]? = some (some (.ref p)) ∧ H p = some (.lst vs) ∧ Reps K G ds vs := by
  obtain ⟨p, ep, n, vs, hp, rep⟩ := r.ow i _ (ownedAt_owns e)
  exact ⟨p, vs, ep, hp, rep⟩
theorem appTo_ok {K : PySem.W.Frag} {G H : Hp} {σ : St} {ρ ρ2 : Env} {i : Nat} {d : D} {v : V} (r : Rel K G H σ ρ) (hd : Rep K G d v) (e : appTo ρ i d = some ρ2) :
    ∃ (p : Addr) (xs : List V), σ[i]? = some (some (.ref p)) ∧ H p = some (.lst xs) ∧ xs.length < sizeLine ∧ Rel K G (upd H p (.lst (xs ++ [v]))) σ ρ2 ∧ Sub ρ ρ2 ∧ Go (Own σ ρ) G H G (upd H p (.lst (xs ++ [v]))) := by
  unfold appTo at e
  split at e
  · rename_i ds e1
    split at e
    · rename_i hl
      have e := (Option.some.inj e).symm
      subst e
      obtain ⟨p, vs, ep, hp, rep⟩ := owned_list r e1
      have t : Top K G (upd H p (.lst (vs ++ [v]))) p (.lst (ds ++ [d])) := ⟨_, upd_same, rep.append (Reps.one hd)⟩
      obtain ⟨r2, s2, g2⟩ := r.write (ownedAt_owns e1) ep t
      exact ⟨p, vs, ep, hp, by rw [← rep.length, line_eq]; exact hl, r2, s2, g2⟩
    · cases e
  · cases e
theorem list_ty {K : PySem.W.Frag} {G H : Hp} {σ : St} {ρ : Env} {i : Nat} {d : D} (r : Rel K G H σ ρ) (e : ownedAt ρ i = some d) (hl : ∃ ds, d = .lst ds) : ∃ p, σ[i]? = some (some (.ref p)) ∧ tyV K "list" (.ref p) H := by
  obtain ⟨ds, rfl⟩ := hl
  obtain ⟨p, vs, ep, hp, _⟩ := owned_list r e
  exact ⟨p, ep, .inl ⟨rfl, vs, SqL.of hp⟩⟩
def isLst : Option D → Bool
  | some (.lst _) => true
  | _ => false
theorem isLst_ok {o : Option D} (h : isLst o = true) : ∃ ds, o = some (.lst ds) := by
  unfold isLst at h
  split at h
  · exact ⟨_, rfl⟩
  · cases h
/-- x.append(e) -/
def sApp (i : Nat) (me : M) : MS := fun ρ => if isLst (ownedAt ρ i) = true then ofE (me ρ) fun r ρ1 => match appTo ρ1 i r.d with
  | some ρ2 => .nx ρ2
  | none => .bad else .bad
theorem ms_app {i : Nat} {me : M} (h : PS X st (tDrop (tBM X.K "list" rAppend (tVar i) (tCons (tM X.K W me) tNil)))) : MSt X W st (sApp i me) := by
  refine h.imp fun D σ H ⟨G, ρ, r, h⟩ => ?_
  unfold sApp at h
  split at h
  · rename_i ho
    obtain ⟨ds, ed⟩ := isLst_ok ho
    obtain ⟨p, ep, ty⟩ := list_ty r ed ⟨ds, rfl⟩
    refine ⟨_, ep, ty, ?_⟩
    refine tM_thenP (D := D) r h fun G1 H1 ρ1 rv v e1 r1 q1 h1 => ?_
    split at h1
    · rename_i ρ2 e2
      obtain ⟨p2, xs, ep2, hp, hz, r2, s2, g2⟩ := appTo_ok r1 q1 e2
      rw [ep] at ep2; cases ep2
      exact ⟨p, xs, v, rfl, rfl, hp, hz, h1 σ G1 _ (Ss.ofE g2 s2) r2⟩
    · exact h1.elim
  · exact h.elim
/-- x.pop(k) -/
def popOf (ρ : Env) (i : Nat) (k : D) : Option (D × Env) := match ownedAt ρ i, k with
  | some (.lst ds), .int z => if -(1000000000 : Int) ≤ z ∧ z < 1000000000 then (seqIndex? z ds.length).bind fun j => (ds[j]?).map fun d => (d, setOwn ρ i (.lst (ds.eraseIdx j))) else none
  | _, _ => none
def mPopAt (i : Nat) (mk : M) : M := fun ρ => if isLst (ownedAt ρ i) = true then bindM (mk ρ) fun k ρ1 => match popOf ρ1 i k.d with
  | some (d, ρ2) => .ok (.pl d) ρ2
  | none => .bad else .bad
theorem me_popAt {i : Nat} {mk : M} {e : Expr} (h : PE X e (tBM X.K "list" rPopAt (tVar i) (tCons (tM X.K W mk) tNil))) : ME X W e (mPopAt i mk) := by
  refine h.imp fun σ H Q ⟨G, ρ, r, h⟩ => ?_
  unfold mPopAt at h
  split at h
  · rename_i ho
    obtain ⟨ds, ed⟩ := isLst_ok ho
    obtain ⟨p, ep, ty⟩ := list_ty r ed ⟨ds, rfl⟩
    refine ⟨_, ep, ty, ?_⟩
    refine tM_then (Q := Q) r h fun G1 H1 ρ1 rv v e1 r1 q1 h1 => ?_
    split at h1
    · rename_i d ρ2 e2
      unfold popOf at e2
      split at e2
      · rename_i ds2 z e3 e4
        split at e2
        · rename_i hz
          cases q : seqIndex? z ds2.length with
          | none => rw [q] at e2; cases e2
          | some j =>
            rw [q] at e2
            obtain ⟨d', ej, e5⟩ := Option.map_eq_some_iff.mp (show (ds2[j]?).map (fun d => (d, setOwn ρ1 i (.lst (ds2.eraseIdx j)))) = some (d, ρ2) from e2)
            cases e5
            obtain ⟨p2, vs, ep2, hp, rep⟩ := owned_list r1 e3
            rw [ep] at ep2; cases ep2
            obtain ⟨y, ey, ry⟩ := rep.get ej
            have t : Top X.K G1 (upd H1 p (.lst (vs.eraseIdx j))) p (.lst (ds2.eraseIdx j)) := ⟨_, upd_same, rep.eraseIdx j⟩
            obtain ⟨r2, s2, g2⟩ := r1.write (ownedAt_owns e3) ep t
            rw [e4] at q1
            exact ⟨p, vs, z, j, y, rfl, congrArg (fun a => [a]) q1, hp, by omega, by omega, by rw [← rep.length]; exact q, ey, h1 y G1 _ g2 r2 s2 ry⟩
        · cases e2
      · cases e2
    · exact h1.elim
  · exact h.elim
/-- x.pop() -/
def mPop (i : Nat) : M := fun ρ => match ownedAt ρ i with
  | some (.lst ds) => (match ds[ds.length - 1]? with
    | some d => .ok (.pl d) (setOwn ρ i (.lst (ds.take (ds.length - 1))))
    | none => .bad)
  | _ => .bad
theorem me_pop {i : Nat} {e : Expr} (h : PE X e (tBM0 X.K "list" rPop (tVar i))) : ME X W e (mPop i) := by
  refine h.imp fun σ H Q ⟨G, ρ, r, h⟩ => ?_
  unfold mPop at h
  split at h
  · rename_i ds ed
    obtain ⟨p, ep, ty⟩ := list_ty r ed ⟨ds, rfl⟩
    refine ⟨_, ep, ty, ?_⟩
    split at h
    · rename_i d e1
      obtain ⟨p2, vs, ep2, hp, rep⟩ := owned_list r ed
      rw [ep] at ep2; cases ep2
      rw [rep.length] at e1
      obtain ⟨y, ey, ry⟩ := rep.get e1
      have t : Top X.K G (upd H p (.lst vs.dropLast)) p (.lst (ds.take (ds.length - 1))) := ⟨_, upd_same, by
        rw [List.dropLast_eq_take, ← rep.length]
        exact rep.take _⟩
      obtain ⟨r2, s2, g2⟩ := r.write (ownedAt_owns ed) ep t
      exact ⟨p, vs, y, rfl, rfl, hp, ey, h y G _ g2 r2 s2 ry⟩
    · exact h.elim
  · exact h.elim
end
/-! ### x[k] op= e -/
section
variable {X : Cx} {W : WX} {st : Stmt}
/-- reading an item by values -/
theorem get_list {X : Cx} : PGet X (rIxL X.K) := by
  intro pins s σ H x y v u Q I rx ry h
  obtain ⟨p, xs, i, z, rfl, rfl, hq, he, q⟩ := h
  cases rx
  obtain ⟨t, rfl⟩ := ry
  obtain ⟨its, r, pl, hz⟩ := I.list hq
  obtain ⟨j, h1, h2, h3, h4, h5⟩ := atI_get he
  obtain ⟨w, ew, rw'⟩ := r.get h2
  have hl := r.length
  have hn := line63
  have fin : EP X pins σ Q w s := ⟨z, H, I, rw', q⟩
  by_cases h0 : 0 ≤ i
  · have hj : i.toNat = j := by
      rw [seqIndex_of h0 h5] at h1
      exact Option.some.inj h1
    exact wpAny_getItem_list pl.isList h0 (by omega) (by rw [hj]; simpa using ew) fin
  · have hj : (i + (its.toArray.size : Int)).toNat = j := by
      rw [seqIndex_neg (by omega) h4] at h1
      rw [List.size_toArray, ← hl]
      exact Option.some.inj h1
    exact wpAny_getItem_list_neg pl.isList (by omega) (by rw [List.size_toArray] <;> omega) (by omega) (by rw [hj]; simpa using ew) fin
/-- the item at k of an owned list, as an int-like thing; f its operation -/
def sAugIx (i : Nat) (mk : M) (f : Fn2) (me : M) : MS := fun ρ => if isLst (ownedAt ρ i) = true then ofE (mk ρ) fun k ρ1 => match ownedAt ρ1 i, k.d with
  | some (.lst ds), .int z => (match atI ds z with
    | some d => ofE (me ρ1) fun r ρ2 => (match f d r.d with
      | some (.pl d2) => (match putIx ρ2 i (.int z) d2 with
        | some ρ3 => .nx ρ3
        | none => .bad)
      | _ => .bad)
    | none => .bad)
  | _, _ => .bad else .bad
theorem ms_augIx {i : Nat} {mk me : M} {f : Fn2} {r2 : R2} (hs : OpS X.K f r2) (h : PS X st (tAugS (tVar i) (tM X.K W mk) (tM X.K W me) (rIxL X.K) r2 rSetL)) : MSt X W st (sAugIx i mk f me) := by
  refine h.imp fun D σ H ⟨G, ρ, r, h⟩ => ?_
  unfold sAugIx at h
  split at h
  · rename_i ho
    obtain ⟨ds, ed⟩ := isLst_ok ho
    obtain ⟨p, ep, ty⟩ := list_ty r ed ⟨ds, rfl⟩
    refine ⟨_, ep, ?_⟩
    refine tM_thenP (D := D) r h fun G1 H1 ρ1 rv v e1 r1 q1 h1 => ?_
    split at h1
    · rename_i ds1 z e2 e3
      rw [e3] at q1
      obtain rfl : v = .int z := q1
      split at h1
      · rename_i d e4
        obtain ⟨p2, vs, ep2, hp, rep⟩ := owned_list r1 e2
        rw [ep] at ep2; cases ep2
        obtain ⟨y, ey, ry⟩ := reps_at rep e4
        refine ⟨p, vs, z, y, rfl, rfl, SqL.of hp, ey, ?_⟩
        refine tM_thenP (D := D) r1 h1 fun G2 H2 ρ2 rv2 w e5 r3 q2 h2 => ?_
        split at h2
        · rename_i d2 e6
          refine hs G2 H2 y w d rv2.d _ _ r3.sub (Rep.two r3.sub (Rep.mono e5 d ry)) (Rep.two r3.sub q2) e6 fun v3 G3 H3 g3 s3 q3 => ?_
          have r4 := r3.step g3 s3
          split at h2
          · rename_i ρ3 e7
            obtain ⟨p3, xs3, z3, j3, ep3, ez3, hp3, ej3, r5, ss5⟩ := putIx_ok (k := .int z) (kv := .int z) r4 (show Rep X.K G3 (.int z) (.int z) from rfl) q3 e7
            rw [ep] at ep3; cases ep3
            have gg : Go (Own σ ρ2) G2 H2 G3 H3 := g3.weak fun _ z => z.elim
            exact ⟨p, xs3, z3, j3, rfl, ez3, hp3, ej3, h2 σ G3 _ ((Ss.ofE gg (Sub.refl ρ2)).trans ss5) r5⟩
          · exact h2.elim
        · exact h2.elim
      · exact h1.elim
    · exact h1.elim
  · exact h.elim
/-! ### name op= e -/
def sAug (i : Nat) (f : Fn2) (me : M) : MS := fun ρ => match ρ[i]? with
  | some (.pl d) => ofE (me ρ) fun r ρ1 => (match f d r.d with
    | some (.pl d2) => (match putC i (.pl d2) ρ1 with
      | some ρ2 => .nx ρ2
      | none => .bad)
    | _ => .bad)
  | _ => .bad
theorem ms_aug {i : Nat} {me : M} {f : Fn2} {r2 : R2} (hs : OpS X.K f r2) (h : PS X st (tAug i (tM X.K W me) r2)) : MSt X W st (sAug i f me) := by
  refine h.imp fun D σ H ⟨G, ρ, r, h⟩ => ?_
  unfold sAug at h
  split at h
  · rename_i d e
    obtain ⟨x, ex, qx⟩ := r.pl i d e
    refine ⟨x, ex, ?_⟩
    refine tM_thenP (D := D) r h fun G1 H1 ρ1 rv v e1 r1 q1 h1 => ?_
    split at h1
    · rename_i d2 e2
      refine hs G1 H1 x v d rv.d _ _ r1.sub (Rep.two r1.sub (Rep.mono e1 d qx)) (Rep.two r1.sub q1) e2 fun v3 G3 H3 g3 s3 q3 => ?_
      split at h1
      · rename_i ρ2 e3
        have gg : Go (Own σ ρ1) G1 H1 G3 H3 := g3.weak fun _ z => z.elim
        obtain ⟨r4, s4⟩ := Rel.put (rv := .pl d2) r1 gg (Sub.refl ρ1) (r1.step g3 s3) q3 e3
        exact h1 _ G3 H3 s4 r4
      · exact h1.elim
    · exact h1.elim
  · exact h.elim
end
end L2.MX
end
section
set_option Elab.async false
set_option linter.all false
set_option maxRecDepth 100000
/-! MxL: dicts; two names at once; loops; comprehensions. -/
namespace L2.MX
open PySem PySem.Spec PyProof.Rows

/-! ### dicts -/
def keyOf : D → Option Key
  | .int i => some (.inl i)
  | .str x => some (.inr x)
  | _ => none
def findK : List Key → List D → Key → Option D
  | k :: ks, d :: ds, j => if k = j then some d else findK ks ds j
  | _, _, _ => none
def putD : List Key → List D → Key → D → List Key × List D
  | k :: ks, d :: ds, j, x => if k = j then (k :: ks, x :: ds) else ((k :: (putD ks ds j x).1), (d :: (putD ks ds j x).2))
  | _, _, j, x => ([j], [x])
section
variable {K : PySem.W.Frag} {G H : Hp}
theorem key_ok {d : D} {k : Key} {v : V} (e : keyOf d = some k) (h : Rep K G d v) : v = kV k := by
  cases d with
  | int i => cases e; exact h
  | str x => cases e; exact h
  | _ => cases e
theorem findK_ok : ∀ {ks : List Key} {ds : List D} {vs : List V} {j : Key}, ks.length = vs.length → Reps K G ds vs → match findK ks ds j with
    | some d => ∃ v, valV (ks.zip vs) j = some v ∧ Rep K G d v
    | none => valV (ks.zip vs) j = none
  | [], ds, vs, j, hl, h => by
    unfold findK
    rfl
  | k :: ks, [], vs, j, hl, h => by
    obtain rfl : vs = [] := h
    cases hl
  | k :: ks, d :: ds, vs, j, hl, h => by
    obtain ⟨v, r, rfl, hv, hr⟩ := h
    unfold findK
    by_cases hk : k = j
    · rw [if_pos hk]
      exact ⟨v, valV_pos (p := (k, v)) hk, hv⟩
    · rw [if_neg hk]
      have ih := findK_ok (ks := ks) (ds := ds) (vs := r) (j := j) (by simpa using hl) hr
      rw [show valV ((k :: ks).zip (v :: r)) j = valV (ks.zip r) j from valV_neg (p := (k, v)) hk]
      exact ih
theorem putD_ok : ∀ {ks : List Key} {ds : List D} {vs : List V} {j : Key} {x : D} {y : V}, ks.length = vs.length → Reps K G ds vs → Rep K G x y → ks.Nodup →
    ∃ vs', putK (ks.zip vs) j y = (putD ks ds j x).1.zip vs' ∧ (putD ks ds j x).1.length = vs'.length ∧ Reps K G (putD ks ds j x).2 vs' ∧ (putD ks ds j x).1.Nodup ∧ (∀ z, z ∈ (putD ks ds j x).1 → z ∈ ks ∨ z = j)
  | [], ds, vs, j, x, y, hl, h, hx, hn => by
    obtain rfl : vs = [] := by cases vs with | nil => rfl | cons => cases hl
    unfold putD
    exact ⟨[y], rfl, rfl, Reps.one hx, by simp, fun z hz => .inr (by simpa using hz)⟩
  | k :: ks, [], vs, j, x, y, hl, h, hx, hn => by
    obtain rfl : vs = [] := h
    cases hl
  | k :: ks, d :: ds, vs, j, x, y, hl, h, hx, hn => by
    obtain ⟨v, r, rfl, hv, hr⟩ := h
    obtain ⟨nk, hn'⟩ := List.nodup_cons.mp hn
    unfold putD
    by_cases hk : k = j
    · subst hk
      rw [if_pos rfl]
      refine ⟨y :: r, ?_, hl, ⟨y, r, rfl, hx, hr⟩, hn, fun z hz => .inl hz⟩
      unfold putK
      have hany : (((k :: ks).zip (v :: r)).any fun kv => decide (kv.1 = k)) = true := by simp
      rw [if_pos hany]
      show (if k = k then (k, y) else (k, v)) :: (ks.zip r).map _ = (k, y) :: ks.zip r
      rw [if_pos rfl]
      congr 1
      have : ∀ p ∈ ks.zip r, (if p.1 = k then (p.1, y) else p) = p := fun p hp => by
        have hp1 : p.1 ∈ ks := (List.of_mem_zip hp).1
        rw [if_neg (show ¬ p.1 = k from fun z => nk (z ▸ hp1))]
      rw [List.map_congr_left this]
      simp
    · rw [if_neg hk]
      obtain ⟨vs', e1, e2, e3, e4, e5⟩ := putD_ok (ks := ks) (ds := ds) (vs := r) (j := j) (x := x) (y := y) (by simpa using hl) hr hx hn'
      refine ⟨v :: vs', ?_, by simpa using e2, ⟨v, vs', rfl, hv, e3⟩, List.nodup_cons.mpr ⟨fun z => (e5 k z).elim nk hk, e4⟩, fun z hz => ?_⟩
      · show putK ((k, v) :: ks.zip r) j y = (k, v) :: (putD ks ds j x).1.zip vs'
        rw [← e1]
        unfold putK
        by_cases ha : ((ks.zip r).any fun kv => decide (kv.1 = j)) = true
        · have ha2 : (((k, v) :: ks.zip r).any fun kv => decide (kv.1 = j)) = true := by rw [List.any_cons, ha, Bool.or_true]
          rw [if_pos ha, if_pos ha2]
          show (if k = j then (k, y) else (k, v)) :: _ = _
          rw [if_neg hk]
        · have ha2 : ¬ (((k, v) :: ks.zip r).any fun kv => decide (kv.1 = j)) = true := by
            rw [List.any_cons, Bool.or_eq_true]
            rintro (z | z)
            · exact hk (of_decide_eq_true z)
            · exact ha z
          rw [if_neg ha, if_neg ha2]
          rfl
      · rcases List.mem_cons.mp hz with z1 | z1
        · exact .inl (by rw [z1]; exact List.mem_cons_self)
        · rcases e5 z z1 with z2 | z2
          · exact .inl (List.mem_cons_of_mem _ z2)
          · exact .inr z2
end
def dDGet : Fn2
  | .dic ks ds, d => (keyOf d).bind fun k => (findK ks ds k).map .pl
  | _, _ => none
def rDGet : R2 := fun x y H Q => ∃ a v, x = .ref a ∧ DGet H a y (some v) ∧ Q v H
section
variable {K : PySem.W.Frag}
theorem s_dget : OpS K dDGet rDGet := by
  intro G H x y d1 d2 rv Q s h1 h2 e k
  unfold dDGet at e
  split at e
  · rename_i ks ds
    cases ek : keyOf d2 with
    | none => rw [ek] at e; cases e
    | some j =>
      rw [ek] at e
      obtain ⟨d, ed, rfl⟩ := Option.map_eq_some_iff.mp (show (findK ks ds j).map RV.pl = some rv from e)
      obtain ⟨a, vs, rfl, ha, hl, hr⟩ := h1
      have f := findK_ok (j := j) hl hr
      rw [ed] at f
      obtain ⟨v, e1, e2⟩ := f
      have hy : y = kV j := by
        cases d2 with
        | int i => cases ek; exact h2
        | str x => cases ek; exact h2
        | _ => cases ek
      subst hy
      have g := DGet.k (k := j) ha
      rw [e1] at g
      exact ⟨a, v, rfl, g, same_end s e2 k⟩
  · cases e
end
section
variable {X : Cx} {W : WX} {pos : Pos} {st : Stmt}
theorem me_dget {o i : Expr} {ma mb : MO} (hu : X.A.units + 1 < cLine) (ho : MOp X W o ma) (hi : MOp X W i mb) (hs : NoSl i := by intro _ _; rfl) : ME X W (.Subscript o i pos) (mOp dDGet ma mb) :=
  (pe_dget hu ho hi hs).imp fun _ _ _ h => op_then s_dget h
def isDic : Option D → Bool
  | some (.dic _ _) => true
  | _ => false
theorem isDic_ok {o : Option D} (h : isDic o = true) : ∃ ks ds, o = some (.dic ks ds) := by
  unfold isDic at h
  split at h
  · exact ⟨_, _, rfl⟩
  · cases h
def putKey (ρ : Env) (i : Nat) (k d : D) : Option Env := match ownedAt ρ i with
  | some (.dic ks ds) => if ks.length < 1000000 ∧ ks.Nodup then (keyOf k).map fun j => setOwn ρ i (.dic (putD ks ds j d).1 (putD ks ds j d).2) else none
  | _ => none
/-- d[k] = e -/
def sDPut1 (i : Nat) (mk me : M) : MS := fun ρ => ofE (me ρ) fun r ρ1 => if isDic (ownedAt ρ1 i) = true then ofE (mk ρ1) fun k ρ2 => match putKey ρ2 i k.d r.d with
  | some ρ3 => .nx ρ3
  | none => .bad else .bad
theorem ms_dput {i : Nat} {mk me : M} (h : PS X st (sDPut (tVar i) (tM X.K W mk) (tM X.K W me))) : MSt X W st (sDPut1 i mk me) := by
  refine h.imp fun D σ H ⟨G, ρ, r, h⟩ => ?_
  refine tM_thenP (D := D) r h fun G1 H1 ρ1 rv v e1 r1 q1 h1 => ?_
  split at h1
  · rename_i ho
    obtain ⟨ks, ds, ed⟩ := isDic_ok ho
    obtain ⟨a, ea, _, t⟩ := r1.ow i _ (ownedAt_owns ed)
    refine ⟨_, ea, ?_⟩
    refine tM_thenP (D := D) r1 h1 fun G2 H2 ρ2 kv y e2 r2 q2 h2 => ?_
    split at h2
    · rename_i ρ3 e3
      unfold putKey at e3
      split at e3
      · rename_i ks2 ds2 e4
        split at e3
        · rename_i hz
          obtain ⟨j, ej, rfl⟩ := Option.map_eq_some_iff.mp e3
          obtain ⟨a2, ea2, _, vs, hp, hl, rep⟩ := r2.ow i _ (ownedAt_owns e4)
          rw [ea] at ea2; cases ea2
          obtain ⟨vs', b1, b2, b3, b4, _⟩ := putD_ok (j := j) hl rep (Rep.mono e2 rv.d q1) hz.2
          have t2 : Top X.K G2 (upd H2 a (.dK (putK (ks2.zip vs) j v))) a (.dic (putD ks2 ds2 j rv.d).1 (putD ks2 ds2 j rv.d).2) := ⟨vs', by rw [upd_same, b1], b2, b3⟩
          obtain ⟨r3, s3, g3⟩ := r2.write (ownedAt_owns e4) ea t2
          rw [key_ok ej q2]
          refine ⟨a, _, rfl, DPut.k hp ?_, h2 σ G2 _ (Ss.ofE g3 s3) r3⟩
          have : (ks2.zip vs).length ≤ ks2.length := by rw [List.length_zip]; exact Nat.min_le_left _ _
          rw [line_eq]
          unfold lineN
          omega
        · cases e3
      · cases e3
    · exact h2.elim
  · exact h1.elim
/-! ### two names at once: a, b = x, y -/
inductive RVs (K : PySem.W.Frag) (G1 H H1 : Hp) : List RV → List V → Prop
  | nil : RVs K G1 H H1 [] []
  | cons {r v rs vs} : RVok K G1 H H1 r v → (∀ d, r = .fr d → ∀ (j : Nat) (d' : D), rs[j]? = some (.fr d') → vs[j]? ≠ some v) → RVs K G1 H H1 rs vs → RVs K G1 H H1 (r :: rs) (v :: vs)
abbrev MR := Env → ER (List RV)
def PostR (K : PySem.W.Frag) (G H : Hp) (σ : St) (ρ : Env) (W : WX) (Q : List V → Hp → Prop) : ER (List RV) → Prop
  | .bad => False
  | .ok rs ρ1 => ∀ vs G1 H1, Go (Own σ ρ) G H G1 H1 → Rel K G1 H1 σ ρ1 → Sub ρ ρ1 → RVs K G1 H H1 rs vs → Q vs H1
  | .ex x ρ1 => ∀ cls d G1 H1, Go (Own σ ρ) G H G1 H1 → Rel K G1 H1 σ ρ1 → Sub ρ ρ1 → XRep K G1 H1 x cls d → W cls d σ H1
def tMR (K : PySem.W.Frag) (W : WX) (m : MR) : TA := fun σ H Q => ∃ G ρ, Rel K G H σ ρ ∧ PostR K G H σ ρ W Q (m ρ)
abbrev MRr (X : Cx) (W : WX) (es : List Expr) (m : MR) : Prop := PA X es (tMR X.K W m)
def mR0 : MR := fun ρ => .ok [] ρ
def mRc (m : M) (ms : MR) : MR := fun ρ => bindM (m ρ) fun r ρ1 => bindM (ms ρ1) fun rs ρ2 => .ok (r :: rs) ρ2
theorem mr_nil : MRr X W [] mR0 := pa_nil.imp fun σ H Q ⟨G, ρ, r, h⟩ => h [] G H Go.refl r (Sub.refl ρ) .nil
theorem mr_cons {e : Expr} {es : List Expr} {m : M} {ms : MR} (h1 : ME X W e m) (h2 : MRr X W es ms) (hs : starEach (e :: es) X.env = (false, eval e X.env) :: starEach es X.env := by rfl) : MRr X W (e :: es) (mRc m ms) := by
  refine (pa_cons h1 h2 hs).imp fun σ H Q ⟨G, ρ, r0, h⟩ => ?_
  have h : PostR X.K G H σ ρ W Q (bindM (m ρ) fun r ρ1 => bindM (ms ρ1) fun rs ρ2 => .ok (r :: rs) ρ2) := h
  refine ⟨G, ρ, r0, ?_⟩
  cases e : m ρ with
  | bad => rw [e] at h; exact h
  | ex x ρ1 => rw [e] at h; exact h
  | ok rv ρ1 =>
    rw [e] at h
    intro v G1 H1 g r1 s q
    have h : PostR X.K G H σ ρ W Q (bindM (ms ρ1) fun rs ρ2 => .ok (rv :: rs) ρ2) := h
    refine ⟨G1, ρ1, r1, ?_⟩
    have g12 : ∀ {G2 H2}, Go (Own σ ρ1) G1 H1 G2 H2 → Go (Own σ ρ) G H G2 H2 := fun g2 => g.trans g2 fun x z => .inl (s.own z)
    cases e2 : ms ρ1 with
    | bad => rw [e2] at h; exact h
    | ex x ρ2 =>
      rw [e2] at h
      exact fun cls d G2 H2 g2 r2 s2 q2 => h cls d G2 H2 (g12 g2) r2 (s.trans s2) q2
    | ok rs ρ2 =>
      rw [e2] at h
      intro vs G2 H2 g2 r2 s2 q2
      -- the first value through the second step
      have first : RVok X.K G2 H H2 rv v := by
        cases rv with
        | pl d => exact Rep.mono g2.ext d q
        | fr d =>
          obtain ⟨a, ev, na, ng, t⟩ := q
          obtain ⟨o, ho⟩ := t.alive
          have nown : ¬ Own σ ρ1 a := fun z => by
            obtain ⟨u, hu⟩ := r0.alive (s.own z)
            rw [na] at hu; cases hu
          refine ⟨a, ev, na, ?_, t.mono g2.ext fun p hp => g2.keep a p hp nown⟩
          cases z : G2 a with
          | none => rfl
          | some u =>
            rcases g2.new a u z with y | y | y
            · rw [ng] at y; cases y
            · rw [ho] at y; cases y
            · exact (nown y).elim
      have rest : ∀ {rs : List RV} {vs : List V}, RVs X.K G2 H1 H2 rs vs → RVs X.K G2 H H2 rs vs := fun z => by
        induction z with
        | nil => exact .nil
        | cons a b _ ih =>
          refine .cons ?_ b ih
          rename_i r' v' _ _ _
          cases r' with
          | pl d => exact a
          | fr d =>
            obtain ⟨x, e1, n, z⟩ := a
            exact ⟨x, e1, g.fresh n, z⟩
      have apart : ∀ d, rv = .fr d → ∀ (j : Nat) (d' : D), rs[j]? = some (.fr d') → vs[j]? ≠ some v := fun d e1 j d' e3 e4 => by
        subst e1
        obtain ⟨a, ev, na, ng, t⟩ := q
        obtain ⟨o, ho⟩ := t.alive
        have : ∀ {rs : List RV} {vs : List V} {j : Nat}, RVs X.K G2 H1 H2 rs vs → rs[j]? = some (.fr d') → vs[j]? = some v → False := fun {rs} => by
          induction rs with
          | nil => intro vs j _ z; simp at z
          | cons r' rs' ih =>
            intro vs j z y w
            cases z with
            | cons a1 b1 c1 =>
              cases j with
              | zero =>
                have y : r' = .fr d' := Option.some.inj y
                subst y
                obtain ⟨b, e5, n5, _⟩ := a1
                have w : _ = v := Option.some.inj w
                rw [w, ev] at e5
                cases e5
                rw [ho] at n5; cases n5
              | succ j => exact ih c1 (by simpa using y) (by simpa using w)
        exact this q2 e3 e4
      exact h (v :: vs) G2 H2 (g12 g2) r2 (s.trans s2) (.cons first apart (rest q2))
def putAll : List Nat → List RV → Env → Option Env
  | [], [], ρ => some ρ
  | i :: is, r :: rs, ρ => (putC i r ρ).bind fun ρ1 => putAll is rs ρ1
  | _, _, _ => none
def ofR (e : ER (List RV)) (k : List RV → Env → SR) : SR := match e with
  | .bad => .bad
  | .ok r ρ => k r ρ
  | .ex x ρ => .ex x ρ
def sPar (is : List Nat) (m : MR) : MS := fun ρ => ofR (m ρ) fun rs ρ1 => match putAll is rs ρ1 with
  | some ρ2 => .nx ρ2
  | none => .bad
theorem tMR_thenS {K : PySem.W.Frag} {G H : Hp} {σ : St} {ρ : Env} {D : Ends} {m : MR} {k : List RV → Env → SR} {R : List V → Hp → Prop} (r0 : Rel K G H σ ρ) (h : PostS K G H σ ρ W D (ofR (m ρ) k))
    (hk : ∀ G1 H1 ρ1 rs vs, Go (Own σ ρ) G H G1 H1 → Sub ρ ρ1 → Rel K G1 H1 σ ρ1 → RVs K G1 H H1 rs vs → PostS K G H σ ρ W D (k rs ρ1) → R vs H1) : tMR K W m σ H R := by
  refine ⟨G, ρ, r0, ?_⟩
  cases e : m ρ with
  | bad =>
    rw [e] at h
    exact h
  | ex x ρ1 =>
    rw [e] at h
    exact fun cls d G1 H1 g r s q => h cls d σ G1 H1 (Ss.ofE g s) r q
  | ok rv ρ1 =>
    rw [e] at h
    exact fun v G1 H1 g r s q => hk G1 H1 ρ1 rv v g s r q h
/-- a value to be stored, as the heap stands -/
def RVq (K : PySem.W.Frag) (G H : Hp) : RV → V → Prop
  | .pl d, v => Rep K G d v
  | .fr d, v => ∃ a, v = .ref a ∧ G a = none ∧ Top K G H a d
theorem RVok.q {K : PySem.W.Frag} {G1 H H1 : Hp} {r : RV} {v : V} (h : RVok K G1 H H1 r v) : RVq K G1 H1 r v := by
  cases r with
  | pl d => exact h
  | fr d =>
    obtain ⟨a, e, _, n, t⟩ := h
    exact ⟨a, e, n, t⟩
theorem Rel.put1 {K : PySem.W.Frag} {G1 H1 : Hp} {σ : St} {ρ1 ρ2 : Env} {i : Nat} {rv : RV} {v : V} (r : Rel K G1 H1 σ ρ1) (q : RVq K G1 H1 rv v)
    (apart : ∀ (d : D) (a : Addr), rv = .fr d → v = .ref a → ∀ (j : Nat) (c : D), Owns ρ1 j c → σ[j]? ≠ some (some (.ref a))) (e : putC i rv ρ1 = some ρ2) :
    Rel K G1 H1 (σ.set i (some v)) ρ2 ∧ (∀ a, Own (σ.set i (some v)) ρ2 a → Own σ ρ1 a ∨ ∃ d, rv = .fr d ∧ v = .ref a) ∧ ∀ (j : Nat) (d : D), ρ2[j]? = some (Cell.io d) → (σ.set i (some v))[j]? = σ[j]? ∧ ρ1[j]? = some (Cell.io d) := by
  unfold putC at e
  split at e
  · cases e
  rename_i hio
  have e := (Option.some.inj e).symm
  subst e
  have hi : i < ρ1.length := by
    cases z : ρ1[i]? with
    | none => rw [z] at hio; exact (hio rfl).elim
    | some c => exact (List.getElem?_eq_some_iff.mp z).1
  have hiσ : i < σ.length := by rw [r.len]; exact hi
  have at_i : (σ.set i (some v))[i]? = some (some v) := List.getElem?_set_self hiσ
  have at_j : ∀ j, j ≠ i → (σ.set i (some v))[j]? = σ[j]? := fun j hj => List.getElem?_set_ne (Ne.symm hj)
  have own : ∀ (j : Nat) (d : D), Owns (ρ1.set i (cellOf rv)) j d → (j = i ∧ rv = .fr d) ∨ (j ≠ i ∧ Owns ρ1 j d) := fun j d h => by
    rcases h with h | h
    · rcases set_at h with ⟨z, y⟩ | ⟨n, z⟩
      · cases rv with
        | pl d' => cases y
        | fr d' => cases y; exact .inl ⟨z, rfl⟩
      · exact .inr ⟨n, .inl z⟩
    · rcases set_at h with ⟨z, y⟩ | ⟨n, z⟩
      · cases rv with
        | pl d' => cases y
        | fr d' => cases y
      · exact .inr ⟨n, .inr z⟩
  refine ⟨⟨r.sub, by simpa using r.len, fun j d h => ?_, fun j d h => ?_, fun j k d d' a h1 h2 e1 e2 => ?_⟩, fun a h => ?_, fun j d h => ?_⟩
  · rcases set_at h with ⟨rfl, y⟩ | ⟨n, z⟩
    · cases rv with
      | pl d' => cases y; exact ⟨v, at_i, q⟩
      | fr d' => cases y
    · obtain ⟨w, e1, e2⟩ := r.pl j d z
      exact ⟨w, (at_j j n).trans e1, e2⟩
  · rcases own j d h with ⟨rfl, y⟩ | ⟨n, o⟩
    · subst y
      obtain ⟨a, e1, n, t⟩ := q
      exact ⟨a, by rw [at_i, e1], n, t⟩
    · obtain ⟨a, e1, n1, t⟩ := r.ow j d o
      exact ⟨a, (at_j j n).trans e1, n1, t⟩
  · rcases own j d h1 with ⟨rfl, y⟩ | ⟨n, o⟩
    · rcases own k d' h2 with ⟨rfl, _⟩ | ⟨n2, o2⟩
      · rfl
      · rw [at_i] at e1
        rw [at_j k n2] at e2
        exact (apart d a y (Option.some.inj (Option.some.inj e1)) k d' o2 e2).elim
    · rw [at_j j n] at e1
      rcases own k d' h2 with ⟨rfl, y⟩ | ⟨n2, o2⟩
      · rw [at_i] at e2
        exact (apart d' a y (Option.some.inj (Option.some.inj e2)) j d o e1).elim
      · rw [at_j k n2] at e2
        exact r.dis j k d d' a o o2 e1 e2
  · obtain ⟨j, d, o, e1⟩ := h
    rcases own j d o with ⟨rfl, y⟩ | ⟨n, o1⟩
    · rw [at_i] at e1
      exact .inr ⟨d, y, Option.some.inj (Option.some.inj e1)⟩
    · rw [at_j j n] at e1
      exact .inl ⟨j, d, o1, e1⟩
  · rcases set_at h with ⟨rfl, y⟩ | ⟨n, z⟩
    · cases rv <;> cases y
    · exact ⟨at_j j n, z⟩
def setAll : List Nat → List V → St → St
  | i :: is, v :: vs, σ => setAll is vs (σ.set i (some v))
  | _, _, σ => σ
/-- several values stored, one behind the other -/
theorem Rel.putAll {K : PySem.W.Frag} {G H G1 H1 : Hp} {σ0 : St} {ρ0 : Env} (r0 : Rel K G H σ0 ρ0) (g : Go (Own σ0 ρ0) G H G1 H1) : ∀ {is : List Nat} {rs : List RV} {vs : List V} {σ : St} {ρ1 ρ2 : Env},
    RVs K G1 H H1 rs vs → Rel K G1 H1 σ ρ1 → (∀ a, Own σ ρ1 a → Own σ0 ρ0 a ∨ (H a = none ∧ ∀ (j : Nat) (d : D), rs[j]? = some (.fr d) → vs[j]? ≠ some (.ref a))) → (∀ (j : Nat) (d : D), ρ1[j]? = some (Cell.io d) → σ[j]? = σ0[j]? ∧ ∃ c, ρ0[j]? = some (Cell.io c)) →
    MX.putAll is rs ρ1 = some ρ2 → Rel K G1 H1 (setAll is vs σ) ρ2 ∧ Ss G H σ0 ρ0 G1 H1 (setAll is vs σ) ρ2
  | [], [], vs, σ, ρ1, ρ2, q, r, own, io, e => by
    cases e
    have es : setAll [] vs σ = σ := by cases vs <;> rfl
    rw [es]
    exact ⟨r, g, fun a h => (own a h).imp id (·.1), io⟩
  | [], _ :: _, vs, σ, ρ1, ρ2, q, r, own, io, e => by cases e
  | _ :: _, [], vs, σ, ρ1, ρ2, q, r, own, io, e => by cases e
  | i :: is, rv :: rs, vs, σ, ρ1, ρ2, q, r, own, io, e => by
    cases q with
    | cons q1 ap qs =>
      rename_i v vs
      have e : (putC i rv ρ1).bind (fun ρ1 => MX.putAll is rs ρ1) = some ρ2 := e
      cases ep : putC i rv ρ1 with
      | none => rw [ep] at e; cases e
      | some ρ3 =>
        rw [ep] at e
        have apart : ∀ (d : D) (a : Addr), rv = .fr d → v = .ref a → ∀ (j : Nat) (c : D), Owns ρ1 j c → σ[j]? ≠ some (some (.ref a)) := fun d a e1 e2 j c o z => by
          subst e1 e2
          obtain ⟨b, e3, n, _⟩ := q1
          cases e3
          rcases own a ⟨j, c, o, z⟩ with y | ⟨_, y⟩
          · obtain ⟨u, hu⟩ := r0.alive y
            rw [n] at hu; cases hu
          · exact y 0 d rfl rfl
        obtain ⟨r3, own3, io3⟩ := Rel.put1 r q1.q apart ep
        refine Rel.putAll r0 g (is := is) qs r3 (fun a h => ?_) (fun j d h => ?_) e
        · rcases own3 a h with y | ⟨d, e1, e2⟩
          · rcases own a y with z | ⟨z1, z2⟩
            · exact .inl z
            · exact .inr ⟨z1, fun j d h => z2 (j + 1) d h⟩
          · subst e1
            obtain ⟨b, e3, n, _⟩ := q1
            rw [e2] at e3
            cases e3
            exact .inr ⟨n, fun j d' h z => ap d rfl j d' h (by rw [z, e2])⟩
        · obtain ⟨y1, y2⟩ := io3 j d h
          obtain ⟨z1, z2⟩ := io j d y2
          exact ⟨y1.trans z1, z2⟩
theorem par_then {K : PySem.W.Frag} {m : MR} {is : List Nat} {DE : Ends} {σ : St} {H : Hp} (h : tMS K W (sPar is m) DE σ H) : tMR K W m σ H fun vs H1 => vs.length = is.length ∧ DE.nx (setAll is vs σ) H1 ∧ ∃ G1, Ex G1 H1 ∧ ∀ H2, Ex H1 H2 → DE.nx (setAll is vs σ) H2 := by
  obtain ⟨G, ρ, r, h⟩ := h
  refine tMR_thenS (D := DE) r h fun G1 H1 ρ1 rs vs g s r1 q h1 => ?_
  split at h1
  · rename_i ρ2 e
    have len : ∀ {is : List Nat} {rs : List RV} {ρ ρ' : Env}, MX.putAll is rs ρ = some ρ' → is.length = rs.length := by
      intro is
      induction is with
      | nil =>
        intro rs ρ ρ' e
        cases rs with
        | nil => rfl
        | cons => cases e
      | cons i is ih =>
        intro rs ρ ρ' e
        cases rs with
        | nil => cases e
        | cons x xs =>
          have e : (putC i x ρ).bind (fun ρ1 => MX.putAll is xs ρ1) = some ρ' := e
          cases ep : putC i x ρ with
          | none => rw [ep] at e; cases e
          | some ρ3 =>
            rw [ep] at e
            simp [ih e]
    have len2 : ∀ {rs : List RV} {vs : List V}, RVs K G1 H H1 rs vs → rs.length = vs.length := fun z => by
      induction z with
      | nil => rfl
      | cons _ _ _ ih => simp [ih]
    have own0 : ∀ a, Own σ ρ1 a → Own σ ρ a ∨ (H a = none ∧ ∀ (j : Nat) (d : D), rs[j]? = some (.fr d) → vs[j]? ≠ some (.ref a)) := fun a h => .inl (s.own h)
    have io0 : ∀ (j : Nat) (d : D), ρ1[j]? = some (Cell.io d) → σ[j]? = σ[j]? ∧ ∃ c, ρ[j]? = some (Cell.io c) := fun j d h => ⟨rfl, (s j).2 d h⟩
    obtain ⟨r2, s2⟩ := Rel.putAll r g (is := is) q r1 own0 io0 e
    refine ⟨by rw [← len2 q, len e], h1 _ G1 H1 s2 r2, G1, r1.sub, fun H2 ex => ?_⟩
    have g2 : Go NoI G1 H1 G1 H2 := ⟨Ex.refl G1, fun a o e _ => ex a o e, fun a o e => ⟨o, ex a o e⟩, fun _ _ e => .inl e⟩
    refine h1 _ G1 H2 ⟨s2.go.trans0 g2, s2.own, s2.io⟩ (r2.step g2 (r1.sub.trans ex))
  · exact h1.elim
theorem ms_par {i j : Nat} {m : MR} (h : PS X st (tPar i j (tMR X.K W m))) : MSt X W st (sPar [i, j] m) := by
  refine h.imp fun D σ H h => ?_
  obtain ⟨G, ρ, r, q⟩ := par_then h
  refine ⟨G, ρ, r, ?_⟩
  cases e : m ρ with
  | bad => rw [e] at q; exact q
  | ex x ρ1 => rw [e] at q; exact q
  | ok rs ρ1 =>
    rw [e] at q
    intro vs G1 H1 g r1 s z
    obtain ⟨hl, hn, _⟩ := q vs G1 H1 g r1 s z
    match vs, hl with
    | [v, w], _ => exact ⟨v, w, rfl, hn⟩
/-- .. by way of a tuple (where a name is a cell) -/
theorem ms_parT {is : List Nat} {m : MR} {n : Nat} {t : TGs} (ht : ∀ (vs : List V) (σ : St) (H : Hp) (Q : St → Hp → Prop), vs.length = is.length → Q (setAll is vs σ) H → t vs σ H Q) (hn : is.length = n) (hz : n ≤ 1000) (h : PS X st (tAsg (tTup (tMR X.K W m)) (gTup X.K n t))) : MSt X W st (sPar is m) := by
  refine h.imp fun D σ H h => ?_
  obtain ⟨G, ρ, r, q⟩ := par_then h
  refine ⟨G, ρ, r, ?_⟩
  cases e : m ρ with
  | bad => rw [e] at q; exact q
  | ex x ρ1 => rw [e] at q; exact q
  | ok rs ρ1 =>
    rw [e] at q
    intro vs G1 H1 g r1 s z
    obtain ⟨hl, _, _, _, hx⟩ := q vs G1 H1 g r1 s z
    refine ⟨small_line (by omega), fun p hp => ?_⟩
    refine ⟨p, vs, rfl, SqT.of upd_same, by omega, ht vs σ _ _ hl ?_⟩
    exact hx _ fun b u e => by rw [upd_ne (ne_of_none e hp)]; exact e
theorem tg2 {i j : Nat} (vs : List V) (σ : St) (H : Hp) (Q : St → Hp → Prop) (hl : vs.length = [i, j].length) (h : Q (setAll [i, j] vs σ) H) : gCons (gName i) (gCons (gName j) gNil) vs σ H Q := by
  match vs, hl with
  | [v, w], _ => exact ⟨v, [w], rfl, w, [], rfl, rfl, h⟩
theorem tg3 {i j k : Nat} (vs : List V) (σ : St) (H : Hp) (Q : St → Hp → Prop) (hl : vs.length = [i, j, k].length) (h : Q (setAll [i, j, k] vs σ) H) : gCons (gName i) (gCons (gName j) (gCons (gName k) gNil)) vs σ H Q := by
  match vs, hl with
  | [v, w, x], _ => exact ⟨v, [w, x], rfl, w, [x], rfl, x, [], rfl, rfl, h⟩
end
end L2.MX
end
section
set_option Elab.async false
set_option linter.all false
set_option maxRecDepth 100000
/-! MxW: while, for, what is walked, comprehensions. -/
namespace L2.MX
open PySem PySem.Spec PyProof.Rows

/-! ### while -/
def loopW (c : MT) (b : MS) : Nat → Env → SR := fun n => Nat.rec (fun _ => .bad) (fun _ ih ρ => ofT (c ρ) fun k ρ1 => if k = true then (match b ρ1 with
  | .nx ρ2 => ih ρ2
  | .ct ρ2 => ih ρ2
  | .br ρ2 => .nx ρ2
  | r => r) else .nx ρ1) n
theorem loopW_succ (c : MT) (b : MS) (n : Nat) (ρ : Env) : loopW c b (n + 1) ρ = ofT (c ρ) fun k ρ1 => if k = true then (match b ρ1 with
  | .nx ρ2 => loopW c b n ρ2
  | .ct ρ2 => loopW c b n ρ2
  | .br ρ2 => .nx ρ2
  | r => r) else .nx ρ1 := rfl
def sWhile (fuel : Nat) (c : MT) (b : MS) : MS := fun ρ => loopW c b fuel ρ
section
variable {X : Cx} {W : WX} {pos : Pos}
theorem ms_while {c : Expr} {body : List Stmt} {tc : MT} {mb : MS} {fuel : Nat} (hp : PassesOwn (model X.prog X.w) X.A X.env X.xe) (hc : MTe X W c tc) (hb : MSs X W body mb) : MSt X W (.While c body [] pos) (sWhile fuel tc mb) := by
  refine (ps_while hp hc hb).imp fun DE σ H ⟨G, ρ, r, h⟩ => ?_
  refine ⟨fun m σ H => ∃ G ρ, Rel X.K G H σ ρ ∧ PostS X.K G H σ ρ W DE (loopW tc mb m ρ), ⟨fuel, G, ρ, r, h⟩, ?_⟩
  rintro m σ H ⟨G, ρ, r, h⟩
  cases m with
  | zero => exact h.elim
  | succ m =>
    rw [loopW_succ] at h
    refine tMT_thenS (D := DE) r h fun G1 H1 ρ1 k g s r1 h1 => ?_
    cases k with
    | false => exact h1 σ G1 H1 (Ss.refl _ _ _ _) r1
    | true =>
      refine ⟨fun σ2 H2 => ∃ G2 ρ2, Rel X.K G2 H2 σ2 ρ2 ∧ PostS X.K G2 H2 σ2 ρ2 W DE (loopW tc mb m ρ2), fun σ2 H2 z => ⟨m, Nat.lt_succ_self m, z⟩, G1, ρ1, r1, ?_⟩
      have h1 : PostS X.K G1 H1 σ ρ1 W DE (match mb ρ1 with
        | .nx ρ2 => loopW tc mb m ρ2
        | .ct ρ2 => loopW tc mb m ρ2
        | .br ρ2 => .nx ρ2
        | r => r) := h1
      cases e : mb ρ1 with
      | bad => rw [e] at h1; exact h1
      | nx ρ2 => rw [e] at h1; exact fun σ2 G2 H2 s2 r2 => ⟨G2, ρ2, r2, PostS.after s2 h1⟩
      | ct ρ2 => rw [e] at h1; exact fun σ2 G2 H2 s2 r2 => ⟨G2, ρ2, r2, PostS.after s2 h1⟩
      | br ρ2 => rw [e] at h1; exact h1
      | rt x ρ2 => rw [e] at h1; exact h1
      | ex x ρ2 => rw [e] at h1; exact h1
end

/-! ### what is walked -/
/-- J yields the data ds, over the plain heap G -/
structure Src (K : PySem.W.Frag) (G : Hp) (J : It) (ds : List D) : Prop where
  go : ∀ i H, i < ds.length → Ex G H → J.go i H
  yld : ∀ i H x H', i < ds.length → Ex G H → J.yld i H x H' → ∃ d, ds[i]? = some d ∧ ((H' = H ∧ Rep K G d x) ∨ ∃ T es vs, x = .ref T ∧ H T = none ∧ H' = upd H T (.tup vs) ∧ d = .tup es ∧ Reps K G es vs)
  stop : ∀ i H, ds.length ≤ i → Ex G H → J.stop i H
abbrev MIt := Env → ER (List D)
def PostI (K : PySem.W.Frag) (G H : Hp) (σ : St) (ρ : Env) (W : WX) (R : It → Hp → Prop) : ER (List D) → Prop
  | .bad => False
  | .ok ds ρ1 => ∀ J G1 H1, Go (Own σ ρ) G H G1 H1 → Rel K G1 H1 σ ρ1 → Sub ρ ρ1 → Src K G1 J ds → R J H1
  | .ex x ρ1 => ∀ cls d G1 H1, Go (Own σ ρ) G H G1 H1 → Rel K G1 H1 σ ρ1 → Sub ρ ρ1 → XRep K G1 H1 x cls d → W cls d σ H1
def tMI (K : PySem.W.Frag) (W : WX) (m : MIt) : TI := fun σ H R => ∃ G ρ, Rel K G H σ ρ ∧ PostI K G H σ ρ W R (m ρ)
abbrev MI (X : Cx) (W : WX) (tg iter : Expr) (m : MIt) : Prop := PI X tg iter (tMI X.K W m)
theorem _root_.L2.PI.imp {X : Cx} {tg e : Expr} {t t' : TI} (h : PI X tg e t) (k : ∀ σ H R, t' σ H R → t σ H R) : PI X tg e t' := ⟨fun pins s σ H R I q => h.run pins s σ H R I (k σ H R q)⟩
theorem _root_.L2.PI.or {X : Cx} {tg e : Expr} {t t' : TI} (h : PI X tg e t) (h' : PI X tg e t') : PI X tg e (fun σ H R => t σ H R ∨ t' σ H R) := ⟨fun pins s σ H R I q => q.elim (h.run pins s σ H R I) (h'.run pins s σ H R I)⟩
section
variable {K : PySem.W.Frag} {G H G1 H1 : Hp} {σ : St} {ρ ρ1 : Env} {W : WX}
theorem PostI.after {R : It → Hp → Prop} (g : Go (Own σ ρ) G H G1 H1) (s : Sub ρ ρ1) {e : ER (List D)} (h : PostI K G H σ ρ W R e) : PostI K G1 H1 σ ρ1 W R e := by
  have go2 : ∀ {G2 H2}, Go (Own σ ρ1) G1 H1 G2 H2 → Go (Own σ ρ) G H G2 H2 := fun g2 => g.trans g2 fun x z => .inl (s.own z)
  cases e with
  | bad => exact h
  | ok r ρ2 => exact fun v G2 H2 g2 r2 s2 => h v G2 H2 (go2 g2) r2 (s.trans s2)
  | ex x ρ2 => exact fun cls d G2 H2 g2 r2 s2 q => h cls d G2 H2 (go2 g2) r2 (s.trans s2) q
theorem tM_thenI {m : M} {k : RV → Env → ER (List D)} {R : V → Hp → Prop} {Q : It → Hp → Prop} (r0 : Rel K G H σ ρ) (h : PostI K G H σ ρ W Q (bindM (m ρ) k))
    (hk : ∀ G1 H1 ρ1 rv v, Ex G G1 → Rel K G1 H1 σ ρ1 → Rep K G1 rv.d v → PostI K G1 H1 σ ρ1 W Q (k rv ρ1) → R v H1) : tM K W m σ H R := by
  refine ⟨G, ρ, r0, ?_⟩
  cases e : m ρ with
  | bad =>
    rw [e] at h
    exact h
  | ex x ρ1 =>
    rw [e] at h
    exact h
  | ok rv ρ1 =>
    rw [e] at h
    intro v G1 H1 g r s q
    obtain ⟨G2, g2, r2, _, rep⟩ := publish r0 g r s q
    exact hk G2 H1 ρ1 rv v g2.ext r2 rep (PostI.after g2 s h)
theorem tMA_thenI {m : MA} {k : List Opd → Env → ER (List D)} {R : List V → Hp → Prop} {Q : It → Hp → Prop} (r0 : Rel K G H σ ρ) (h : PostI K G H σ ρ W Q (bindM (m ρ) k))
    (hk : ∀ G1 H1 ρ1 o v, Ex G G1 → Rel K G1 H1 σ ρ1 → PairAll (OpdOk K G1 σ) o v → PostI K G1 H1 σ ρ1 W Q (k o ρ1) → R v H1) : tMA K W m σ H R :=
  tMA_then (P := fun G H ρ e => PostI K G H σ ρ W Q e) r0 (fun z => z) (fun _ _ z => z) (fun _ _ _ _ g s z => PostI.after g s z) h hk
theorem src_list {a : Addr} {ds : List D} {vs : List V} (h : SqL K G a vs) (r : Reps K G ds vs) : Src K G (Itl K a) ds where
  go := fun i H hi e => ⟨vs, vs[i]'(by rw [← r.length]; exact hi), sqL_mono e h, List.getElem?_eq_getElem _⟩
  yld := fun i H x H' _ e y => by
    obtain ⟨rfl, y⟩ := y
    obtain ⟨d, e1, e2⟩ := r.get' (y vs (sqL_mono e h))
    exact ⟨d, e1, .inl ⟨rfl, e2⟩⟩
  stop := fun i H hi e => ⟨vs, sqL_mono e h, by rw [← r.length]; exact hi⟩
theorem src_tup {a : Addr} {ds : List D} {vs : List V} (h : SqT K G a vs) (r : Reps K G ds vs) : Src K G (Itt K a) ds where
  go := fun i H hi e => ⟨vs, vs[i]'(by rw [← r.length]; exact hi), sqT_mono e h, List.getElem?_eq_getElem _⟩
  yld := fun i H x H' _ e y => by
    obtain ⟨rfl, y⟩ := y
    obtain ⟨d, e1, e2⟩ := r.get' (y vs (sqT_mono e h))
    exact ⟨d, e1, .inl ⟨rfl, e2⟩⟩
  stop := fun i H hi e => ⟨vs, sqT_mono e h, by rw [← r.length]; exact hi⟩
end
/-- a list or a tuple -/
def itemsOf : D → Option (List D)
  | .lst ds => some ds
  | .flst ds => some ds
  | .tup ds => some ds
  | .ftup ds => some ds
  | _ => none
def iSeq (m : M) : MIt := fun ρ => bindM (m ρ) fun r ρ1 => match itemsOf r.d with
  | some ds => .ok ds ρ1
  | none => .bad
/-- range(n), range(a, b), range(a, b, c) -/
def smallR (i : Int) : Bool := Nat.ble i.natAbs 3999999999999999999
theorem smallR_iff {i : Int} : smallR i = true ↔ -4000000000000000000 < i ∧ i < 4000000000000000000 := by
  unfold smallR
  rw [Nat.ble_eq]
  omega
def rangeD (lo c : Int) (n : Nat) : List D := (List.range n).map fun k => .int (lo + (k : Nat) * c)
section
variable {X : Cx} {W : WX} {tg : Expr}
theorem mi_seq {e : Expr} {m : M} (h : ME X W e m) : MI X W tg e (iSeq m) := by
  refine ((pi_list (tg := tg) h).or (pi_tup h)).imp fun σ H R ⟨G, ρ, r, q⟩ => ?_
  have q : PostI X.K G H σ ρ W R (bindM (m ρ) fun r ρ1 => match itemsOf r.d with
    | some ds => .ok ds ρ1
    | none => .bad) := q
  cases em : m ρ with
  | bad => rw [em] at q; exact q.elim
  | ex x ρ1 =>
    refine .inl ⟨G, ρ, r, ?_⟩
    rw [em] at q ⊢
    exact q
  | ok rv ρ1 =>
    have end_ : ∀ {R' : V → Hp → Prop}, (∀ G1 H1 v, Rel X.K G1 H1 σ ρ1 → Rep X.K G1 rv.d v → (∀ J ds, itemsOf rv.d = some ds → Src X.K G1 J ds → R J H1) → R' v H1) → tM X.K W m σ H R' := fun {R'} hk => by
      refine ⟨G, ρ, r, ?_⟩
      rw [em]
      intro v G1 H1 g r1 s q1
      obtain ⟨G2, g2, r2, _, rep⟩ := publish r g r1 s q1
      refine hk G2 H1 v r2 rep fun J ds ei src => ?_
      rw [em] at q
      have q : PostI X.K G H σ ρ W R (match itemsOf rv.d with
        | some ds => ER.ok ds ρ1
        | none => .bad) := q
      rw [ei] at q
      exact q J G2 H1 g2 r2 s src
    cases ed : rv.d with
    | lst ds =>
      refine .inl (end_ fun G1 H1 v r1 rep k => ?_)
      rw [ed] at rep
      obtain ⟨a, vs, rfl, ha, rr⟩ := rep
      exact ⟨a, rfl, ⟨vs, SqL.of (r1.sub _ _ ha)⟩, k _ ds (by rw [ed]; rfl) (src_list (SqL.of ha) rr)⟩
    | flst ds =>
      refine .inl (end_ fun G1 H1 v r1 rep k => ?_)
      rw [ed] at rep
      obtain ⟨a, vs, rfl, ha, rr⟩ := rep
      exact ⟨a, rfl, ⟨vs, sqL_mono r1.sub ha⟩, k _ ds (by rw [ed]; rfl) (src_list ha rr)⟩
    | tup ds =>
      refine .inr (end_ fun G1 H1 v r1 rep k => ?_)
      rw [ed] at rep
      obtain ⟨a, vs, rfl, ha, rr⟩ := rep
      exact ⟨a, rfl, ⟨vs, SqT.of (r1.sub _ _ ha)⟩, k _ ds (by rw [ed]; rfl) (src_tup (SqT.of ha) rr)⟩
    | ftup ds =>
      refine .inr (end_ fun G1 H1 v r1 rep k => ?_)
      rw [ed] at rep
      obtain ⟨a, vs, rfl, ha, rr⟩ := rep
      exact ⟨a, rfl, ⟨vs, sqT_mono r1.sub ha⟩, k _ ds (by rw [ed]; rfl) (src_tup ha rr)⟩
    | _ =>
      rw [em] at q
      have q : PostI X.K G H σ ρ W R (match itemsOf rv.d with
        | some ds => ER.ok ds ρ1
        | none => .bad) := q
      rw [ed] at q
      exact q.elim
theorem smallR_ok {i : Int} (h : smallR i = true) : -(2 ^ 62) ≤ i ∧ i < 2 ^ 62 := by
  have := smallR_iff.mp h
  omega
theorem range_get {lo c : Int} {n i : Nat} (h : i < n) : (rangeD lo c n)[i]? = some (.int (lo + (i : Nat) * c)) := by
  unfold rangeD
  rw [List.getElem?_map, List.getElem?_range h]
  rfl
theorem range_len {lo c : Int} {n : Nat} : (rangeD lo c n).length = n := by unfold rangeD; rw [List.length_map, List.length_range]
theorem src_range {K : PySem.W.Frag} {G : Hp} {lo : Int} {n : Nat} : Src K G (Itr lo n) (rangeD lo 1 n) where
  go := fun i H hi _ => by rw [range_len] at hi; exact hi
  yld := fun i H x H' hi _ y => by
    obtain ⟨rfl, rfl⟩ := y
    rw [range_len] at hi
    exact ⟨_, range_get hi, .inl ⟨rfl, by rw [Int.mul_one]; rfl⟩⟩
  stop := fun i H hi _ => by rw [range_len] at hi; exact hi
theorem src_rangeC {K : PySem.W.Frag} {G : Hp} {lo c : Int} {n : Nat} : Src K G (Itc lo c n) (rangeD lo c n) where
  go := fun i H hi _ => by rw [range_len] at hi; exact hi
  yld := fun i H x H' hi _ y => by
    obtain ⟨rfl, rfl⟩ := y
    rw [range_len] at hi
    exact ⟨_, range_get hi, .inl ⟨rfl, rfl⟩⟩
  stop := fun i H hi _ => by rw [range_len] at hi; exact hi
theorem reps2_3 {K : PySem.W.Frag} {G H : Hp} {d e f : D} {xs : List V} (h : Reps2 K G H [d, e, f] xs) : ∃ v w u, xs = [v, w, u] ∧ Rep2 K G H d v ∧ Rep2 K G H e w ∧ Rep2 K G H f u := by
  cases h with
  | cons h t =>
    cases t with
    | cons h2 t2 =>
      cases t2 with
      | cons h3 t3 =>
        cases t3
        exact ⟨_, _, _, rfl, h, h2, h3⟩
/-- one argument, two, three are written: what the other counts would give is not asked -/
def iRangeN (k : Nat) (args : MA) : MIt := fun ρ => bindM (args ρ) fun os ρ1 => if os.length = k then (match getAll ρ1 os with
  | some [.int j] => if smallR j then .ok (rangeD 0 1 j.toNat) ρ1 else .bad
  | some [.int i, .int j] => if smallR i && smallR j then .ok (rangeD i 1 (j - i).toNat) ρ1 else .bad
  | some [.int i, .int j, .int c] => if (decide (0 < c) && decide (c < 1000000000)) && (Builtin.Range.small i j c && decide (0 ≤ Builtin.Range.rangeSize i j c)) then .ok (rangeD i c (Builtin.Range.rangeSize i j c).toNat) ρ1 else .bad
  | _ => .bad) else .bad
theorem getAll_len {ρ : Env} : ∀ {os : List Opd} {ds : List D}, getAll ρ os = some ds → os.length = ds.length
  | [], ds, e => by cases e; rfl
  | o :: os, ds, e => by
    unfold getAll at e
    cases q : o.get ρ with
    | none => rw [q] at e; cases e
    | some d =>
      rw [q] at e
      obtain ⟨es, e1, rfl⟩ := Option.map_eq_some_iff.mp (show (getAll ρ os).map (fun ds => d :: ds) = some ds from e)
      simp [getAll_len e1]
theorem mi_range1 {a : Expr} {ma : MA} {p pos : Pos} (hg : Gl X "range") (hm : X.mg "range" = none) (ha : MAr X W [a] ma) (hs : starEach [a] X.env = [(false, eval a X.env)] := by rfl) : MI X W tg (.Call (.Name "range" p) [a] [] pos) (iRangeN 1 ma) := by
  refine (pi_range1 hg hm ha hs).imp fun σ H R ⟨G, ρ, r, h⟩ => ?_
  refine tMA_thenI (Q := R) r h fun G1 H1 ρ1 os vs e1 r1 ov h1 => ?_
  split at h1
  · rename_i hl
    split at h1
    · rename_i j eg
      split at h1
      · rename_i hj
        obtain ⟨v, rfl, hv⟩ := reps2_1 (looks r1 ov eg)
        obtain rfl : v = .int j := hv
        exact ⟨j, rfl, (smallR_ok hj).1, (smallR_ok hj).2, h1 _ G1 H1 Go.refl r1 (Sub.refl _) src_range⟩
      · exact h1.elim
    · rename_i i j eg
      have := getAll_len eg
      rw [hl] at this; cases this
    · rename_i i j c eg
      have := getAll_len eg
      rw [hl] at this; cases this
    · exact h1.elim
  · exact h1.elim
theorem mi_range2 {a b : Expr} {ma : MA} {p pos : Pos} (hg : Gl X "range") (hm : X.mg "range" = none) (ha : MAr X W [a, b] ma) (hs : starEach [a, b] X.env = [(false, eval a X.env), (false, eval b X.env)] := by rfl) (hs2 : starEach [b] X.env = [(false, eval b X.env)] := by rfl) : MI X W tg (.Call (.Name "range" p) [a, b] [] pos) (iRangeN 2 ma) := by
  refine (pi_range2 hg hm ha hs hs2).imp fun σ H R ⟨G, ρ, r, h⟩ => ?_
  refine tMA_thenI (Q := R) r h fun G1 H1 ρ1 os vs e1 r1 ov h1 => ?_
  split at h1
  · rename_i hl
    split at h1
    · rename_i j eg
      have := getAll_len eg
      rw [hl] at this; cases this
    · rename_i i j eg
      split at h1
      · rename_i hj
        obtain ⟨v, w, rfl, hv, hw⟩ := reps2_2 (looks r1 ov eg)
        obtain rfl : v = .int i := hv
        obtain rfl : w = .int j := hw
        rw [Bool.and_eq_true] at hj
        exact ⟨i, j, rfl, ⟨(smallR_ok hj.1).1, (smallR_ok hj.1).2, (smallR_ok hj.2).1, (smallR_ok hj.2).2⟩, h1 _ G1 H1 Go.refl r1 (Sub.refl _) src_range⟩
      · exact h1.elim
    · rename_i i j c eg
      have := getAll_len eg
      rw [hl] at this; cases this
    · exact h1.elim
  · exact h1.elim
theorem mi_range3 {a b c : Expr} {ma : MA} {p pos : Pos} (hg : Gl X "range") (hm : X.mg "range" = none) (ha : MAr X W [a, b, c] ma)
    (hs : starEach [a, b, c] X.env = (false, eval a X.env) :: starEach [b, c] X.env := by rfl) (hpl : (backTo pos (starEach [b, c] X.env)).any (·.1) = false := by rfl) : MI X W tg (.Call (.Name "range" p) [a, b, c] [] pos) (iRangeN 3 ma) := by
  refine (pi_range3 hg hm ha hs hpl).imp fun σ H R ⟨G, ρ, r, h⟩ => ?_
  refine tMA_thenI (Q := R) r h fun G1 H1 ρ1 os vs e1 r1 ov h1 => ?_
  split at h1
  · rename_i hl
    split at h1
    · rename_i j eg
      have := getAll_len eg
      rw [hl] at this; cases this
    · rename_i i j eg
      have := getAll_len eg
      rw [hl] at this; cases this
    · rename_i i j c eg
      split at h1
      · rename_i hj
        obtain ⟨v, w, u, rfl, hv, hw, hu⟩ := reps2_3 (looks r1 ov eg)
        obtain rfl : v = .int i := hv
        obtain rfl : w = .int j := hw
        obtain rfl : u = .int c := hu
        simp only [Bool.and_eq_true, decide_eq_true_eq] at hj
        obtain ⟨⟨c1, c2⟩, c3, c4⟩ := hj
        exact ⟨i, j, c, _, rfl, ⟨by omega, by omega, c3, (Int.toNat_of_nonneg c4).symm⟩, h1 _ G1 H1 Go.refl r1 (Sub.refl _) src_rangeC⟩
      · exact h1.elim
    · exact h1.elim
  · exact h1.elim
end
/-! ### enumerate, zip, a text -/
def enumD : Nat → List D → List D
  | _, [] => []
  | n, d :: ds => .tup [.int (n : Nat), d] :: enumD (n + 1) ds
theorem enum_len : ∀ (ds : List D) (n : Nat), (enumD n ds).length = ds.length
  | [], _ => rfl
  | _ :: ds, n => by simp [enumD, enum_len ds]
theorem enum_get : ∀ {ds : List D} {n i : Nat} {d : D}, ds[i]? = some d → (enumD n ds)[i]? = some (.tup [.int ((n + i : Nat) : Int), d])
  | [], n, i, d, h => by simp at h
  | c :: ds, n, 0, d, h => by
    have e : c = d := Option.some.inj h
    subst e
    rfl
  | c :: ds, n, i + 1, d, h => by
    have ih := enum_get (ds := ds) (n := n + 1) (i := i) (d := d) h
    show (enumD (n + 1) ds)[i]? = _
    rw [ih, show n + 1 + i = n + (i + 1) by omega]
def listOf : D → Option (List D)
  | .lst ds => some ds
  | .flst ds => some ds
  | _ => none
theorem listOf_ok {K : PySem.W.Frag} {G : Hp} {d : D} {v : V} {ds : List D} (h : Rep K G d v) (e : listOf d = some ds) : ∃ a vs, v = .ref a ∧ SqL K G a vs ∧ Reps K G ds vs := by
  cases d with
  | lst es =>
    cases e
    obtain ⟨a, vs, rfl, ha, r⟩ := h
    exact ⟨a, vs, rfl, SqL.of ha, r⟩
  | flst es =>
    cases e
    obtain ⟨a, vs, rfl, ha, r⟩ := h
    exact ⟨a, vs, rfl, ha, r⟩
  | _ => cases e
def oneVal (os : List Opd) : Option D := match os with
  | [.val d] => some d
  | _ => none
def twoVal (os : List Opd) : Option (D × D) := match os with
  | [.val d, .val e] => some (d, e)
  | _ => none
def iEnumM (args : MA) : MIt := fun ρ => bindM (args ρ) fun os ρ1 => match (oneVal os).bind listOf with
  | some ds => .ok (enumD 0 ds) ρ1
  | none => .bad
def zipD : List D → List D → List D
  | d :: ds, e :: es => .tup [d, e] :: zipD ds es
  | _, _ => []
theorem zip_get : ∀ {ds es : List D} {i : Nat} {d e : D}, ds[i]? = some d → es[i]? = some e → (zipD ds es)[i]? = some (.tup [d, e])
  | [], _, _, _, _, h, _ => by simp at h
  | _ :: _, [], _, _, _, _, h => by simp at h
  | c :: ds, f :: es, 0, d, e, h, k => by
    have e1 : c = d := Option.some.inj h
    have e2 : f = e := Option.some.inj k
    subst e1 e2
    rfl
  | c :: ds, f :: es, i + 1, d, e, h, k => zip_get (ds := ds) (es := es) (i := i) (by simpa using h) (by simpa using k)
theorem zip_len : ∀ (ds es : List D), (zipD ds es).length = min ds.length es.length
  | [], _ => by simp [zipD]
  | _ :: _, [] => by simp [zipD]
  | _ :: ds, _ :: es => by
    simp only [zipD, List.length_cons, zip_len ds es]
    omega
def iZipM (args : MA) : MIt := fun ρ => bindM (args ρ) fun os ρ1 => match twoVal os with
  | some (d, e) => (match listOf d, listOf e with
    | some ds, some es => .ok (zipD ds es) ρ1
    | _, _ => .bad)
  | none => .bad
section
variable {X : Cx} {W : WX} {K : PySem.W.Frag}
theorem src_enum {G : Hp} {a : Addr} {ds : List D} {vs : List V} (h : SqL K G a vs) (r : Reps K G ds vs) : Src K G (Ite K a) (enumD 0 ds) where
  go := fun i H hi e => ⟨vs, vs[i]'(by rw [← r.length, ← enum_len ds 0]; exact hi), sqL_mono e h, List.getElem?_eq_getElem _⟩
  yld := fun i H x H' hi e y => by
    obtain ⟨T, z, rfl, nT, rfl, y⟩ := y
    obtain ⟨d, e1, e2⟩ := r.get' (y vs (sqL_mono e h))
    refine ⟨_, enum_get e1, .inr ⟨T, _, _, rfl, nT, rfl, rfl, _, _, rfl, ?_, _, _, rfl, e2, rfl⟩⟩
    rw [Nat.zero_add]
    rfl
  stop := fun i H hi e => ⟨vs, sqL_mono e h, by rw [← r.length, ← enum_len ds 0]; exact hi⟩
theorem src_zip {G : Hp} {a b : Addr} {ds es : List D} {vs ws : List V} (h : SqL K G a vs) (r : Reps K G ds vs) (h2 : SqL K G b ws) (r2 : Reps K G es ws) : Src K G (Itz K a b) (zipD ds es) where
  go := fun i H hi e => by
    rw [zip_len] at hi
    have l1 := r.length
    have l2 := r2.length
    exact ⟨vs, ws, vs[i]'(by omega), ws[i]'(by omega), sqL_mono e h, sqL_mono e h2, List.getElem?_eq_getElem _, List.getElem?_eq_getElem _⟩
  yld := fun i H x H' hi e y => by
    obtain ⟨T, z, u, rfl, nT, rfl, y1, y2⟩ := y
    obtain ⟨d, e1, e2⟩ := r.get' (y1 vs (sqL_mono e h))
    obtain ⟨d2, e3, e4⟩ := r2.get' (y2 ws (sqL_mono e h2))
    exact ⟨_, zip_get e1 e3, .inr ⟨T, _, _, rfl, nT, rfl, rfl, _, _, rfl, e2, _, _, rfl, e4, rfl⟩⟩
  stop := fun i H hi e => by
    rw [zip_len] at hi
    have l1 := r.length
    have l2 := r2.length
    exact ⟨vs, ws, sqL_mono e h, sqL_mono e h2, by omega⟩
theorem mi_enum {e : Expr} {ma : MA} {p pos tpos : Pos} {elts : List Expr} {kk : Nat} (hg : Gl X "enumerate") (hm : X.mg "enumerate" = none) (ha : MAr X W [e] ma) (hs : starEach [e] X.env = [(false, eval e X.env)] := by rfl) :
    MI X W (.Tuple elts kk tpos) (.Call (.Name "enumerate" p) [e] [] pos) (iEnumM ma) := by
  refine (pi_enum hg hm ha hs).imp fun σ H R ⟨G, ρ, r, h⟩ => ?_
  refine tMA_thenI (Q := R) r h fun G1 H1 ρ1 os vs e1 r1 ov h1 => ?_
  split at h1
  · rename_i ds eo
    match os, vs, ov with
    | [.val d], _, .cons q .nil =>
      have eo : listOf d = some ds := eo
      obtain ⟨a, ws, rfl, ha, rr⟩ := listOf_ok q eo
      exact ⟨a, ws, rfl, sqL_mono r1.sub ha, h1 _ G1 H1 Go.refl r1 (Sub.refl _) (src_enum ha rr)⟩
    | [.slot i], _, _ => cases eo
    | [], _, _ => cases eo
    | .val _ :: _ :: _, _, _ => cases eo
    | .slot _ :: _ :: _, _, _ => cases eo
  · exact h1.elim
theorem mi_zip {e e2 : Expr} {ma : MA} {p pos tpos : Pos} {elts : List Expr} {kk : Nat} (h : PI X (.Tuple elts kk tpos) (.Call (.Name "zip" p) [e, e2] [] pos) (iZip X.K (tMA X.K W ma))) :
    MI X W (.Tuple elts kk tpos) (.Call (.Name "zip" p) [e, e2] [] pos) (iZipM ma) := by
  refine h.imp fun σ H R ⟨G, ρ, r, h⟩ => ?_
  refine tMA_thenI (Q := R) r h fun G1 H1 ρ1 os vs e1 r1 ov h1 => ?_
  split at h1
  · rename_i d e eo
    split at h1
    · rename_i ds es ed ee
      match os, vs, ov with
      | [.val d', .val e'], _, .cons q (.cons q2 .nil) =>
        cases eo
        obtain ⟨a, ws, rfl, ha, rr⟩ := listOf_ok q ed
        obtain ⟨b, us, rfl, hb, rr2⟩ := listOf_ok q2 ee
        exact ⟨a, b, ws, us, rfl, sqL_mono r1.sub ha, sqL_mono r1.sub hb, h1 _ G1 H1 Go.refl r1 (Sub.refl _) (src_zip ha rr hb rr2)⟩
      | [], _, _ => cases eo
      | [.val _], _, _ => cases eo
      | [.slot _], _, _ => cases eo
      | .slot _ :: _ :: _, _, _ => cases eo
      | .val _ :: .slot _ :: _, _, _ => cases eo
      | .val _ :: .val _ :: _ :: _, _, _ => cases eo
    · exact h1.elim
  · exact h1.elim
end
end L2.MX
end
section
set_option Elab.async false
set_option linter.all false
set_option maxRecDepth 100000
/-! MxF: for, comprehensions. -/
namespace L2.MX
open PySem PySem.Spec PyProof.Rows

/-! ### for -/
def loopF (g : G1) (b : MS) : List D → Env → SR
  | [], ρ => .nx ρ
  | d :: ds, ρ => match g d ρ with
    | none => .bad
    | some ρ1 => (match b ρ1 with
      | .nx ρ2 => loopF g b ds ρ2
      | .ct ρ2 => loopF g b ds ρ2
      | .br ρ2 => .nx ρ2
      | r => r)
def ofI (e : ER (List D)) (k : List D → Env → SR) : SR := match e with
  | .bad => .bad
  | .ok r ρ => k r ρ
  | .ex x ρ => .ex x ρ
def sFor (mi : MIt) (g : G1) (b : MS) : MS := fun ρ => ofI (mi ρ) fun ds ρ1 => loopF g b ds ρ1
section
variable {K : PySem.W.Frag} {G H : Hp} {σ : St} {ρ : Env} {W : WX}
/-- an item comes: it is plain from now on -/
theorem item_in {J : It} {ds : List D} {G0 : Hp} {i : Nat} {x : V} {H' : Hp} (src : Src K G0 J ds) (ex : Ex G0 G) (r : Rel K G H σ ρ) (hi : i < ds.length) (y : J.yld i H x H') :
    ∃ d G', ds[i]? = some d ∧ Go NoI G H G' H' ∧ Rel K G' H' σ ρ ∧ Rep K G' d x ∧ Ex G0 G' := by
  obtain ⟨d, e1, z⟩ := src.yld i H x H' hi (ex.trans r.sub) y
  rcases z with ⟨rfl, q⟩ | ⟨T, es, vs, rfl, nT, rfl, rfl, q⟩
  · exact ⟨d, G, e1, Go.refl, r, Rep.mono ex d q, ex⟩
  · have gn : G T = none := by
      cases q : G T with
      | none => rfl
      | some u => rw [r.sub T u q] at nT; cases nT
    have exG : Ex G (upd G T (.tup vs)) := fun b u e => by rw [upd_ne (ne_of_none e gn)]; exact e
    have exH : Ex H (upd H T (.tup vs)) := fun b u e => by rw [upd_ne (ne_of_none e nT)]; exact e
    have sub : Ex (upd G T (.tup vs)) (upd H T (.tup vs)) := fun b u e => by
      by_cases hb : b = T
      · rw [hb, upd_same] at e; rw [hb, upd_same]; exact e
      · rw [upd_ne hb] at e; rw [upd_ne hb]; exact r.sub b u e
    have g : Go NoI G H (upd G T (.tup vs)) (upd H T (.tup vs)) := ⟨exG, fun b u e _ => exH b u e, fun b u e => ⟨u, exH b u e⟩, fun b u e => by
      by_cases hb : b = T
      · rw [hb]; exact .inr (.inl nT)
      · rw [upd_ne hb] at e; exact .inl e⟩
    exact ⟨_, _, e1, g, r.step g sub, ⟨T, vs, rfl, upd_same, Reps.mono (ex.trans exG) es q⟩, ex.trans exG⟩
theorem tMI_thenS {DE : Ends} {m : MIt} {k : List D → Env → SR} {R : It → Hp → Prop} (r0 : Rel K G H σ ρ) (h : PostS K G H σ ρ W DE (ofI (m ρ) k))
    (hk : ∀ G1 H1 ρ1 ds J, Rel K G1 H1 σ ρ1 → Src K G1 J ds → PostS K G1 H1 σ ρ1 W DE (k ds ρ1) → R J H1) : tMI K W m σ H R := by
  refine ⟨G, ρ, r0, ?_⟩
  cases e : m ρ with
  | bad =>
    rw [e] at h
    exact h
  | ex x ρ1 =>
    rw [e] at h
    exact fun cls d G1 H1 g r s q => h cls d σ G1 H1 (Ss.ofE g s) r q
  | ok ds ρ1 =>
    rw [e] at h
    exact fun J G1 H1 g r s src => hk G1 H1 ρ1 ds J r src (PostS.after (Ss.ofE g s) h)
end
section
variable {X : Cx} {W : WX} {pos : Pos}
theorem ms_for {tg iter : Expr} {body : List Stmt} {mi : MIt} {g : G1} {ss : List Nat} {mb : MS} (hp : PassesOwn (model X.prog X.w) X.A X.env X.xe) (hc : X.calm = true) (hi : MI X W tg iter mi) (hg : MG X tg g ss) (hb : MSs X W body mb)
    (hs : ∀ x, foldedSetIterable iter X.env x = pure x := by intro _; rfl) : MSt X W (.For tg iter body [] pos) (sFor mi g mb) := by
  refine (ps_for hp hc hi hg hb hs).imp fun DE σ H ⟨G, ρ, r, h⟩ => ?_
  refine tMI_thenS (DE := DE) r h fun G1 H1 ρ1 ds J r1 src h1 => ?_
  refine ⟨fun i m σ H => m = ds.length - i ∧ i ≤ ds.length ∧ ∃ G ρ, Ex G1 G ∧ Rel X.K G H σ ρ ∧ PostS X.K G H σ ρ W DE (loopF g mb (ds.drop i) ρ), ⟨ds.length, by simp, Nat.zero_le _, G1, ρ1, Ex.refl _, r1, h1⟩, ?_⟩
  rintro i m σ H ⟨rfl, hle, G, ρ, ex, r, h⟩
  by_cases hlt : i < ds.length
  · refine .inr ⟨src.go i H hlt (ex.trans r.sub), fun σ2 H2 => ∃ G2 ρ2, Ex G1 G2 ∧ Rel X.K G2 H2 σ2 ρ2 ∧ PostS X.K G2 H2 σ2 ρ2 W DE (loopF g mb (ds.drop (i + 1)) ρ2), fun σ2 H2 z => ⟨ds.length - (i + 1), by omega, rfl, hlt, z⟩, fun x H' y => ?_⟩
    obtain ⟨d, G', e1, g1, r1', rep, ex'⟩ := item_in src ex r hlt y
    have ed : ds.drop i = d :: ds.drop (i + 1) := by
      obtain ⟨hi', e2⟩ := List.getElem?_eq_some_iff.mp e1
      rw [List.drop_eq_getElem_cons hi', e2]
    rw [ed] at h
    have h' : PostS X.K G' H' σ ρ W DE (loopF g mb (d :: ds.drop (i + 1)) ρ) := PostS.after (Ss.ofE (g1.weak fun _ z => z.elim) (Sub.refl ρ)) h
    unfold loopF at h'
    cases eg : g d ρ with
    | none => rw [eg] at h'; exact h'.elim
    | some ρ2 =>
      rw [eg] at h'
      refine ⟨G', ρ, d, ρ2, r1', rep, eg, fun σ1 s1 r2 _ => ?_⟩
      have h2 : PostS X.K G' H' σ1 ρ2 W DE (match mb ρ2 with
        | .nx ρ2 => loopF g mb (ds.drop (i + 1)) ρ2
        | .ct ρ2 => loopF g mb (ds.drop (i + 1)) ρ2
        | .br ρ2 => .nx ρ2
        | r => r) := PostS.after s1 h'
      refine ⟨G', ρ2, r2, ?_⟩
      cases e : mb ρ2 with
      | bad => rw [e] at h2; exact h2
      | nx ρ3 => rw [e] at h2; exact fun σ2 G2 H2 s2 r3 => ⟨G2, ρ3, ex'.trans s2.go.ext, r3, PostS.after s2 h2⟩
      | ct ρ3 => rw [e] at h2; exact fun σ2 G2 H2 s2 r3 => ⟨G2, ρ3, ex'.trans s2.go.ext, r3, PostS.after s2 h2⟩
      | br ρ3 => rw [e] at h2; exact h2
      | rt x ρ3 => rw [e] at h2; exact h2
      | ex x ρ3 => rw [e] at h2; exact h2
  · have e : i = ds.length := by omega
    subst e
    rw [List.drop_length] at h
    exact .inl ⟨src.stop _ H (Nat.le_refl _) (ex.trans r.sub), h σ G H (Ss.refl _ _ _ _) r⟩
end

/-! ### comprehensions -/
/-- the block's own slots forgotten, and as they were -/
def wipeC (vs : List Nat) (ρ : Env) : Env := ρ.mapIdx fun j c => if j ∈ vs then .un else c
def backC (vs : List Nat) (ρ0 ρ : Env) : Env := ρ.mapIdx fun j c => if j ∈ vs then (ρ0[j]?).getD .un else c
def freeAt (ρ : Env) (j : Nat) : Bool := match ρ[j]? with
  | some (.ow _) => false
  | some (.io _) => false
  | _ => true
def loopC (g : G1) (vs : List Nat) (t : MT) (e : M) : List D → Env → List D → ER (List D)
  | [], ρ, acc => .ok acc ρ
  | d :: ds, ρ, acc => match g d ρ with
    | none => .bad
    | some ρ1 => (match t ρ1 with
      | .ok false ρ2 => loopC g vs t e ds (wipeC vs ρ2) acc
      | .ok true ρ2 => (match e ρ2 with
        | .ok r ρ3 => if acc.length < lineN then loopC g vs t e ds (wipeC vs ρ3) (acc ++ [r.d]) else .bad
        | _ => .bad)
      | _ => .bad)
def mLc (mi : MIt) (g : G1) (vs : List Nat) (t : MT) (e : M) : M := fun ρ => bindM (mi ρ) fun ds ρ1 => if vs.all (freeAt ρ1) = true then (match loopC g vs t e ds (wipeC vs ρ1) [] with
  | .ok acc ρ2 => .ok (.fr (.lst acc)) (backC vs ρ1 ρ2)
  | _ => .bad) else .bad
/-- no test -/
def mtYes : MT := fun ρ => .ok true ρ
section
theorem wipe_get (σ : St) : ∀ (vs : List Nat) (j : Nat), (wipe σ vs)[j]? = if j ∈ vs then (σ[j]?).map (fun _ => none) else σ[j]?
  | [], j => by simp [wipe]
  | v :: vs, j => by
    unfold wipe
    by_cases hj : v = j
    · subst hj
      rw [if_pos List.mem_cons_self]
      by_cases hl : v < σ.length
      · rw [List.getElem?_set_self (by rw [wipe_length]; exact hl), List.getElem?_eq_getElem hl]
        rfl
      · rw [List.getElem?_eq_none (by rw [List.length_set, wipe_length]; omega), List.getElem?_eq_none (by omega)]
        rfl
    · rw [List.getElem?_set_ne hj, wipe_get σ vs j]
      by_cases hm : j ∈ vs
      · rw [if_pos hm, if_pos (List.mem_cons_of_mem _ hm)]
      · rw [if_neg hm, if_neg (by rintro (_ | ⟨_, z⟩); exact hj rfl; exact hm z)]
theorem wipe_out {vs ss : List Nat} {σ σ1 : St} (h : Out ss (wipe σ vs) σ1) (hs : ∀ j ∈ ss, j ∈ vs) : wipe σ1 vs = wipe σ vs := by
  apply List.ext_getElem?
  intro j
  have hl : σ1.length = σ.length := by rw [h.1, wipe_length]
  rw [wipe_get, wipe_get]
  by_cases hj : j ∈ vs
  · rw [if_pos hj, if_pos hj]
    by_cases hx : j < σ.length
    · rw [List.getElem?_eq_getElem hx, List.getElem?_eq_getElem (by omega)]
      rfl
    · rw [List.getElem?_eq_none (by omega), List.getElem?_eq_none (by omega)]
  · rw [if_neg hj, if_neg hj]
    have := h.2 j fun z => hj (hs j z)
    rw [this, wipe_get, if_neg hj]
theorem wipeC_get (vs : List Nat) (ρ : Env) (j : Nat) : (wipeC vs ρ)[j]? = (ρ[j]?).map fun c => if j ∈ vs then .un else c := by
  unfold wipeC
  rw [List.getElem?_mapIdx]
theorem wipeC_at {vs : List Nat} {ρ : Env} {j : Nat} {c : Cell} (h : (wipeC vs ρ)[j]? = some c) (hc : c ≠ .un) : j ∉ vs ∧ ρ[j]? = some c := by
  rw [wipeC_get] at h
  obtain ⟨c', e1, e2⟩ := Option.map_eq_some_iff.mp h
  by_cases hj : j ∈ vs
  · rw [if_pos hj] at e2; exact (hc e2.symm).elim
  · rw [if_neg hj] at e2
    exact ⟨hj, by rw [e1, e2]⟩
/-- the environment with slots forgotten, over slots forgotten -/
theorem Rel.wiped {K : PySem.W.Frag} {G H : Hp} {σ : St} {ρ : Env} (vs : List Nat) (r : Rel K G H σ ρ) : Rel K G H (wipe σ vs) (wipeC vs ρ) := by
  have own : ∀ (j : Nat) (d : D), Owns (wipeC vs ρ) j d → j ∉ vs ∧ Owns ρ j d := fun j d h => by
    rcases h with h | h
    · obtain ⟨a, b⟩ := wipeC_at h (fun z => nomatch z)
      exact ⟨a, .inl b⟩
    · obtain ⟨a, b⟩ := wipeC_at h (fun z => nomatch z)
      exact ⟨a, .inr b⟩
  have at_ : ∀ j, j ∉ vs → (wipe σ vs)[j]? = σ[j]? := fun j hj => by rw [wipe_get, if_neg hj]
  refine ⟨r.sub, by rw [wipe_length, r.len]; unfold wipeC; rw [List.length_mapIdx], fun j d h => ?_, fun j d h => ?_, fun j k d e a h1 h2 e1 e2 => ?_⟩
  · obtain ⟨hj, h⟩ := wipeC_at h (fun z => nomatch z)
    obtain ⟨v, e1, e2⟩ := r.pl j d h
    exact ⟨v, (at_ j hj).trans e1, e2⟩
  · obtain ⟨hj, o⟩ := own j d h
    obtain ⟨a, e1, n, t⟩ := r.ow j d o
    exact ⟨a, (at_ j hj).trans e1, n, t⟩
  · obtain ⟨hj, o1⟩ := own j d h1
    obtain ⟨hk, o2⟩ := own k e h2
    rw [at_ j hj] at e1
    rw [at_ k hk] at e2
    exact r.dis j k d e a o1 o2 e1 e2
end
section
variable {X : Cx} {W : WX}
abbrev W0 : WX := fun _ _ _ _ => False
/-- what is owned within the block was owned ahead of it -/
structure Bk (vs : List Nat) (ρ1 ρ : Env) : Prop where
  ow : ∀ (j : Nat) (d : D), ρ[j]? = some (Cell.ow d) → j ∉ vs ∧ ∃ c, ρ1[j]? = some (Cell.ow c)
  io : ∀ (j : Nat) (d : D), ρ[j]? = some (Cell.io d) → j ∉ vs ∧ ∃ c, ρ1[j]? = some (Cell.io c)
theorem Bk.owns {vs : List Nat} {ρ1 ρ : Env} (b : Bk vs ρ1 ρ) {j : Nat} {d : D} (h : Owns ρ j d) : j ∉ vs ∧ ∃ c, Owns ρ1 j c := by
  rcases h with h | h
  · obtain ⟨n, c, e⟩ := b.ow j d h; exact ⟨n, c, .inl e⟩
  · obtain ⟨n, c, e⟩ := b.io j d h; exact ⟨n, c, .inr e⟩
theorem Bk.own {vs : List Nat} {σ : St} {ρ1 ρ : Env} (b : Bk vs ρ1 ρ) {a : Addr} (h : Own (wipe σ vs) ρ a) : Own σ ρ1 a := by
  obtain ⟨j, d, h1, h2⟩ := h
  obtain ⟨n, c, e⟩ := b.owns h1
  rw [wipe_get, if_neg n] at h2
  exact ⟨j, c, e, h2⟩
theorem Bk.start {vs : List Nat} {ρ1 : Env} : Bk vs ρ1 (wipeC vs ρ1) :=
  ⟨fun j d h => ⟨(wipeC_at h (fun z => nomatch z)).1, d, (wipeC_at h (fun z => nomatch z)).2⟩, fun j d h => ⟨(wipeC_at h (fun z => nomatch z)).1, d, (wipeC_at h (fun z => nomatch z)).2⟩⟩
/-- a heap written at an object that none owns and none reads -/
theorem Rel.updL {K : PySem.W.Frag} {G H : Hp} {σ : St} {ρ : Env} {L : Addr} {o : HO} (r : Rel K G H σ ρ) (hL : G L = none) (hn : ¬ Own σ ρ L) : Rel K G (upd H L o) σ ρ where
  sub := fun b u e => by
    have : b ≠ L := fun z => by rw [z, hL] at e; cases e
    rw [upd_ne this]; exact r.sub b u e
  len := r.len
  pl := r.pl
  ow := fun i d h => by
    obtain ⟨a, e, n, t⟩ := r.ow i d h
    have : a ≠ L := fun z => hn ⟨i, d, h, by rw [← z]; exact e⟩
    refine ⟨a, e, n, ?_⟩
    cases d with
    | lst ds => obtain ⟨vs, h1, h2⟩ := t; exact ⟨vs, by rw [upd_ne this]; exact h1, h2⟩
    | dic ks ds => obtain ⟨vs, h1, h2, h3⟩ := t; exact ⟨vs, by rw [upd_ne this]; exact h1, h2, h3⟩
    | _ => exact t.elim
  dis := r.dis
theorem Go.updL {G H : Hp} {L : Addr} {o : HO} {I : Addr → Prop} (hI : I L ∨ H L = none) : Go I G H G (upd H L o) where
  ext := Ex.refl G
  keep := fun a u e n => by
    have : a ≠ L := fun z => by
      rcases hI with y | y
      · rw [z] at n; exact n y
      · rw [z, y] at e; cases e
    rw [upd_ne this]; exact e
  live := fun a u e => by
    by_cases z : a = L
    · rw [z, upd_same]; exact ⟨_, rfl⟩
    · rw [upd_ne z]; exact ⟨u, e⟩
  new := fun a u e => .inl e
/-- out of the block -/
theorem Rel.back {K : PySem.W.Frag} {G1 G H : Hp} {H1 : Hp} {σ : St} {ρ1 ρ : Env} {vs : List Nat} (r1 : Rel K G1 H1 σ ρ1) (ex : Ex G1 G) (hf : ∀ j ∈ vs, freeAt ρ1 j = true) (r : Rel K G H (wipe σ vs) ρ) : Rel K G H σ (backC vs ρ1 ρ) := by
  have at_ : ∀ j, j ∉ vs → (wipe σ vs)[j]? = σ[j]? := fun j hj => by rw [wipe_get, if_neg hj]
  have hl : ρ.length = ρ1.length := by rw [← r.len, wipe_length, r1.len]
  have get : ∀ j c, (backC vs ρ1 ρ)[j]? = some c → c ≠ .un → (j ∉ vs ∧ ρ[j]? = some c) ∨ (j ∈ vs ∧ ρ1[j]? = some c) := fun j c h hc => by
    unfold backC at h
    rw [List.getElem?_mapIdx] at h
    obtain ⟨c', e1, e2⟩ := Option.map_eq_some_iff.mp h
    by_cases hj : j ∈ vs
    · rw [if_pos hj] at e2
      cases q : ρ1[j]? with
      | none => rw [q] at e2; exact (hc e2.symm).elim
      | some c2 => rw [q] at e2; exact .inr ⟨hj, by rw [← e2]; rfl⟩
    · rw [if_neg hj] at e2
      exact .inl ⟨hj, by rw [e1, e2]⟩
  have ow : ∀ j d, Owns (backC vs ρ1 ρ) j d → j ∉ vs ∧ Owns ρ j d := fun j d h => by
    rcases h with h | h
    · rcases get j _ h (fun z => nomatch z) with ⟨a, b⟩ | ⟨a, b⟩
      · exact ⟨a, .inl b⟩
      · have := hf j a
        unfold freeAt at this
        rw [b] at this
        cases this
    · rcases get j _ h (fun z => nomatch z) with ⟨a, b⟩ | ⟨a, b⟩
      · exact ⟨a, .inr b⟩
      · have := hf j a
        unfold freeAt at this
        rw [b] at this
        cases this
  refine ⟨r.sub, by unfold backC; rw [List.length_mapIdx, hl, r1.len], fun j d h => ?_, fun j d h => ?_, fun j k d e a h1 h2 e1 e2 => ?_⟩
  · rcases get j _ h (fun z => nomatch z) with ⟨a, b⟩ | ⟨a, b⟩
    · obtain ⟨v, e1, e2⟩ := r.pl j d b
      exact ⟨v, (at_ j a).symm.trans e1, e2⟩
    · obtain ⟨v, e1, e2⟩ := r1.pl j d b
      exact ⟨v, e1, Rep.mono ex d e2⟩
  · obtain ⟨hj, o⟩ := ow j d h
    obtain ⟨a, e1, n, t⟩ := r.ow j d o
    exact ⟨a, (at_ j hj).symm.trans e1, n, t⟩
  · obtain ⟨hj, o1⟩ := ow j d h1
    obtain ⟨hk, o2⟩ := ow k e h2
    rw [← at_ j hj] at e1
    rw [← at_ k hk] at e2
    exact r.dis j k d e a o1 o2 e1 e2
theorem lc_then {K : PySem.W.Frag} {mi : MIt} {g : G1} {vs ss : List Nat} {mt : MT} {me : M} {σ : St} {H : Hp} {Q : VK} (hss : ∀ j ∈ ss, j ∈ vs) (h : tM K W (mLc mi g vs mt me) σ H Q) : tLc (tMI K W mi) (tMG K g ss) (tMT K W0 mt) (tM K W0 me) vs σ H Q := by
  obtain ⟨G0, ρ0, r0, h⟩ := h
  have h : PostE K G0 H σ ρ0 W Q (bindM (mi ρ0) fun ds ρ1 => if vs.all (freeAt ρ1) = true then (match loopC g vs mt me ds (wipeC vs ρ1) [] with
    | .ok acc ρ2 => .ok (.fr (.lst acc)) (backC vs ρ1 ρ2)
    | _ => .bad) else .bad) := h
  refine ⟨G0, ρ0, r0, ?_⟩
  cases em : mi ρ0 with
  | bad => rw [em] at h; exact h
  | ex x ρ1 => rw [em] at h; exact h
  | ok ds ρ1 =>
    rw [em] at h
    intro J G1 H1 g1 r1 s1 src
    have h : PostE K G0 H σ ρ0 W Q (if vs.all (freeAt ρ1) = true then (match loopC g vs mt me ds (wipeC vs ρ1) [] with
      | .ok acc ρ2 => .ok (.fr (.lst acc)) (backC vs ρ1 ρ2)
      | _ => .bad) else .bad) := h
    split at h
    · rename_i hfree
      have hf : ∀ j ∈ vs, freeAt ρ1 j = true := List.all_eq_true.mp hfree
      intro L hL
      have noL : ∀ {ρ : Env}, Bk vs ρ1 ρ → ¬ Own (wipe σ vs) ρ L := fun b o => by
        obtain ⟨u, e⟩ := r1.alive (b.own o)
        rw [hL] at e; cases e
      have gL : G1 L = none := by
        cases q : G1 L with
        | none => rfl
        | some u => rw [r1.sub L u q] at hL; cases hL
      generalize hR : loopC g vs mt me ds (wipeC vs ρ1) [] = R at h
      -- what holds between two turns
      let Pv : Nat → Hp → Prop := fun i H' => i ≤ ds.length ∧ ∃ G ρ acc vsacc, Ex G1 G ∧ Rel K G H' (wipe σ vs) ρ ∧ Go (Own σ ρ1) G1 H1 G H' ∧ Bk vs ρ1 ρ ∧ G L = none ∧ H' L = some (.lst vsacc) ∧ Reps K G acc vsacc ∧
        loopC g vs mt me (ds.drop i) ρ acc = R
      refine ⟨fun i m H' => m = ds.length - i ∧ Pv i H', ⟨ds.length, by simp, Nat.zero_le _, G1, wipeC vs ρ1, [], [], Ex.refl _, (r1.wiped vs).updL gL (noL Bk.start), Go.updL (.inr hL), Bk.start, gL, upd_same, rfl, hR⟩, ?_⟩
      rintro i m H' ⟨rfl, hle, G, ρ, acc, vsacc, ex, r, go, bk, nL, hLv, racc, hloop⟩
      by_cases hlt : i < ds.length
      · refine .inr ⟨src.go i H' hlt (ex.trans r.sub), Pv (i + 1), fun H2 z => ⟨ds.length - (i + 1), by omega, rfl, z⟩, fun x H2 y => ?_⟩
        obtain ⟨d, G2, e1, g2, r2, rep, ex2⟩ := item_in src ex r hlt y
        have ed : ds.drop i = d :: ds.drop (i + 1) := by
          obtain ⟨hi', e2⟩ := List.getElem?_eq_some_iff.mp e1
          rw [List.drop_eq_getElem_cons hi', e2]
        rw [ed] at hloop
        have hL2 : H2 L = some (.lst vsacc) := g2.keep L _ hLv fun z => z
        have nL2 : G2 L = none := by
          cases q : G2 L with
          | none => rfl
          | some u =>
            rcases g2.new L u q with z | z | z
            · rw [nL] at z; cases z
            · rw [hLv] at z; cases z
            · exact z.elim
        have hk : loopC g vs mt me (d :: ds.drop (i + 1)) ρ acc ≠ .bad := fun z => by
          rw [← hloop, z] at h; exact h
        have hx : ∀ x q, loopC g vs mt me (d :: ds.drop (i + 1)) ρ acc ≠ .ex x q := fun x q z => by
          rw [← hloop, z] at h; exact h
        unfold loopC at hloop hk hx
        cases eg : g d ρ with
        | none => rw [eg] at hk; exact (hk rfl).elim
        | some ρa =>
          rw [eg] at hloop hk hx
          refine ⟨G2, ρ, d, ρa, r2, rep, eg, fun σ1 sa ra ⟨out, suba⟩ => ⟨wipe_out out hss, G2, ρa, ra, ?_⟩⟩
          cases et : mt ρa with
          | bad => simp only [et] at hk; exact (hk rfl).elim
          | ex x q => simp only [et] at hk; exact (hk rfl).elim
          | ok b ρb =>
            simp only [et] at hloop hk hx
            intro G3 H3 g3 r3 s3
            have st : Ss G2 H2 (wipe σ vs) ρ G3 H3 σ1 ρb := sa.trans (Ss.ofE g3 s3)
            have bkb : ∀ {G' H' ρ'}, Ss G2 H2 (wipe σ vs) ρ G' H' σ1 ρ' → Rel K G' H' σ1 ρ' → Go (Own σ ρ1) G1 H1 G' H' ∧ H' L = some (.lst vsacc) ∧ G' L = none ∧ ¬ Own (wipe σ1 vs) (wipeC vs ρ') L := fun {G' H' ρ'} st r' => by
              refine ⟨(go.trans g2 fun _ z => z.elim).trans st.go fun x z => .inl (bk.own z), st.go.keep L _ hL2 (noL bk), ?_, fun o => ?_⟩
              · cases q : G' L with
                | none => rfl
                | some u =>
                  rcases st.go.new L u q with z | z | z
                  · rw [nL2] at z; cases z
                  · rw [hL2] at z; cases z
                  · exact (noL bk z).elim
              · obtain ⟨j, d', h1, h2⟩ := o
                have o2 : Own σ1 ρ' L := by
                  rcases h1 with h1 | h1
                  · obtain ⟨a1, b1⟩ := wipeC_at h1 (fun z => nomatch z)
                    rw [wipe_get, if_neg a1] at h2
                    exact ⟨j, d', .inl b1, h2⟩
                  · obtain ⟨a1, b1⟩ := wipeC_at h1 (fun z => nomatch z)
                    rw [wipe_get, if_neg a1] at h2
                    exact ⟨j, d', .inr b1, h2⟩
                rcases st.own L o2 with z | z
                · exact noL bk z
                · rw [hL2] at z; cases z
            have bkc : ∀ {ρ'}, Sub ρ ρ' → Bk vs ρ1 (wipeC vs ρ') := fun {ρ'} sb => by
              refine ⟨fun j d' z => ?_, fun j d' z => ?_⟩
              · obtain ⟨n, y⟩ := wipeC_at z (fun z => nomatch z)
                obtain ⟨c, y⟩ := (sb j).1 d' y
                exact bk.ow j c y
              · obtain ⟨n, y⟩ := wipeC_at z (fun z => nomatch z)
                obtain ⟨c, y⟩ := (sb j).2 d' y
                exact bk.io j c y
            cases b with
            | false =>
              simp only [Bool.false_eq_true, if_false] at hloop hk ⊢
              obtain ⟨go3, hL3, nL3, no3⟩ := bkb st r3
              exact ⟨hlt, G3, wipeC vs ρb, acc, vsacc, ex2.trans st.go.ext, by rw [← wipe_out out hss]; exact r3.wiped vs, go3, bkc (suba.trans s3), nL3, hL3, Reps.mono (g2.ext.trans st.go.ext) acc racc, hloop⟩
            | true =>
              simp only [if_true] at hloop hk hx ⊢
              refine ⟨G3, ρb, r3, ?_⟩
              cases ee : me ρb with
              | bad => simp only [ee] at hk; exact (hk rfl).elim
              | ex x q => simp only [ee] at hk; exact (hk rfl).elim
              | ok rv ρc =>
                simp only [ee] at hloop hk hx
                intro v G4 H4 g4 r4 s4 q
                obtain ⟨G5, g5, r5, e5, rep5⟩ := publish r3 g4 r4 s4 q
                have st5 : Ss G2 H2 (wipe σ vs) ρ G5 H4 σ1 ρc := st.trans (Ss.ofE g5 s4)
                obtain ⟨go5, hL5, nL5, no5⟩ := bkb st5 r5
                split at hk
                · rename_i hln
                  simp only [hln, if_true] at hloop
                  refine ⟨vsacc, hL5, ?_, hlt, G5, wipeC vs ρc, acc ++ [rv.d], vsacc ++ [v], ex2.trans st5.go.ext, ?_, go5.trans (Go.updL (I := fun x => x = L) (.inl rfl)) fun x z => .inr (by rw [z]; exact hL), bkc ((suba.trans s3).trans s4), nL5, upd_same, (Reps.mono (g2.ext.trans st5.go.ext) acc racc).append (Reps.one rep5), hloop⟩
                  · rw [← racc.length]; exact hln
                  · rw [← wipe_out out hss]
                    exact (r5.wiped vs).updL nL5 no5
                · exact (hk rfl).elim
      · have e : i = ds.length := by omega
        subst e
        rw [List.drop_length] at hloop
        have hloop : ER.ok acc ρ = R := hloop
        rw [← hloop] at h
        refine .inl ⟨src.stop _ H' (Nat.le_refl _) (ex.trans r.sub), h (.ref L) G H' (g1.trans go fun x z => .inl (s1.own z)) (r1.back ex hf r) (s1.trans fun j => ?_) ⟨L, rfl, g1.fresh hL, nL, vsacc, hLv, racc⟩⟩
        have gt : ∀ c, (backC vs ρ1 ρ)[j]? = some c → c ≠ .un → (j ∉ vs ∧ ρ[j]? = some c) ∨ (j ∈ vs ∧ ρ1[j]? = some c) := fun c h hc => by
          unfold backC at h
          rw [List.getElem?_mapIdx] at h
          obtain ⟨c', e1, e2⟩ := Option.map_eq_some_iff.mp h
          by_cases hj : j ∈ vs
          · rw [if_pos hj] at e2
            cases q : ρ1[j]? with
            | none => rw [q] at e2; exact (hc e2.symm).elim
            | some c2 => rw [q] at e2; exact .inr ⟨hj, by rw [← e2]; rfl⟩
          · rw [if_neg hj] at e2
            exact .inl ⟨hj, by rw [e1, e2]⟩
        refine ⟨fun d hd => ?_, fun d hd => ?_⟩
        · rcases gt _ hd (fun z => nomatch z) with ⟨_, b⟩ | ⟨_, b⟩
          · exact (bk.ow j d b).2
          · exact ⟨d, b⟩
        · rcases gt _ hd (fun z => nomatch z) with ⟨_, b⟩ | ⟨_, b⟩
          · exact (bk.io j d b).2
          · exact ⟨d, b⟩
    · exact h.elim
theorem pts_mYes : PTs X [] (tMT X.K W0 mtYes) := ⟨fun pins s σ H Q I h => pts_nil.run pins s σ H Q I (by
  obtain ⟨G, ρ, r, h⟩ := h
  exact h G H Go.refl r (Sub.refl ρ))⟩
theorem me_lc {elt tg iter : Expr} {ifs : List Expr} {scope : Scope} {own : List (Str × Nat)} {pos : Pos} {mi : MIt} {g : G1} {ss : List Nat} {mt : MT} {m : M} (hc : X.calm = true) (hN : X.N.Nodup) (hi : MI X W tg iter mi)
    (hg : ∀ (s : Shared) (H : Hp) (C : Addr) (cl : List (Str × Addr)) (fp : List Addr), MG (X.blk s H scope (compEnvC scope cl C X.env) fp) tg g ss) (ht : ∀ (s : Shared) (H : Hp) (C : Addr) (cl : List (Str × Addr)) (fp : List Addr), PTs (X.blk s H scope (compEnvC scope cl C X.env) fp) ifs (tMT X.K W0 mt))
    (he : ∀ (s : Shared) (H : Hp) (C : Addr) (cl : List (Str × Addr)) (fp : List Addr), ME (X.blk s H scope (compEnvC scope cl C X.env) fp) W0 elt m) (ok : blkC X.N X.env.scope scope own = true) (hss : (ss.all fun j => (own.map (·.2)).contains j) = true := by rfl) (hs : ∀ x, foldedSetIterable iter X.env x = pure x := by intro _; rfl) :
    ME X W (.ListComp elt [⟨tg, iter, ifs, 0⟩] scope pos) (mLc mi g (own.map (·.2)) mt m) :=
  (pe_lc hc hN hi (blkOk_by ok) hg ht he hs).imp fun σ H Q h => lc_then (ss := ss) (fun j hj => by simpa using List.all_eq_true.mp hss j hj) h
theorem ms_setLc {i : Nat} {y : Str} {py : Pos} {elt tg iter : Expr} {ifs : List Expr} {scope : Scope} {own : List (Str × Nat)} {pos spos : Pos} {mi : MIt} {g : G1} {ss : List Nat} {mt : MT} {m : M} (hc : X.calm = true) (hN : X.N.Nodup) (hy : X.N[i]? = some y) (hyl : X.env.scope.names.lookup y = some .local)
    (hsw : swapsWith (.ListComp elt [⟨tg, iter, ifs, 0⟩] scope pos) (some (.Name y py)) spos.line X.env = pure true) (hi : MI X W tg iter mi)
    (hg : ∀ (s : Shared) (H : Hp) (C : Addr) (cl : List (Str × Addr)) (fp : List Addr), MG (X.blk s H scope (compEnvC scope cl C X.env) fp) tg g ss) (ht : ∀ (s : Shared) (H : Hp) (C : Addr) (cl : List (Str × Addr)) (fp : List Addr), PTs (X.blk s H scope (compEnvC scope cl C X.env) fp) ifs (tMT X.K W0 mt))
    (he : ∀ (s : Shared) (H : Hp) (C : Addr) (cl : List (Str × Addr)) (fp : List Addr), ME (X.blk s H scope (compEnvC scope cl C X.env) fp) W0 elt m) (ok : blkC X.N X.env.scope scope own = true) (hss : (ss.all fun j => (own.map (·.2)).contains j) = true := by rfl) (hs : ∀ x, foldedSetIterable iter X.env x = pure x := by intro _; rfl) :
    MSt X W (.Assign [.Name y py] (.ListComp elt [⟨tg, iter, ifs, 0⟩] scope pos) spos) (sSet i (mLc mi g (own.map (·.2)) mt m)) :=
  (ps_setLc hc hN hy hyl hsw hi (blkOk_by ok) hg ht he hs).imp fun D σ H h => lc_then (ss := ss) (fun j hj => by simpa using List.all_eq_true.mp hss j hj) (asg_then h)
end
end L2.MX
end
section
set_option Elab.async false
set_option linter.all false
set_option maxRecDepth 100000
/-! MxG: defs and calls of defs. -/
namespace L2.MX
open PySem PySem.Spec PyProof.Rows

/-- what a def answers: its parameters' cells at the end (only the in-out ones are kept) -/
inductive FR where
  | bad | rt (r : RV) (ρ : Env) | ex (x : Exc) (ρ : Env)
abbrev MF := Env → FR
def keepIo : Option Cell → Cell
  | some (.io d) => .io d
  | _ => .un
def outsOf (n : Nat) (ρ : Env) : Env := (List.range n).map fun i => keepIo ρ[i]?
def endF (n : Nat) : SR → FR
  | .nx ρ => .rt (.pl .non) (outsOf n ρ)
  | .rt r ρ => .rt r (outsOf n ρ)
  | .ex x ρ => .ex x (outsOf n ρ)
  | _ => .bad
def mDef (n l : Nat) (b : MS) : MF := fun args => if args.length = n then endF n (b (args ++ List.replicate l .un)) else .bad
def ioSub (ρ ρ1 : Env) : Prop := ∀ (i : Nat) (d : D), ρ1[i]? = some (Cell.io d) → ∃ c, ρ[i]? = some (Cell.io c)
def PostF (K : PySem.W.Frag) (G H : Hp) (σ : St) (ρ : Env) (Q : VK) (E : XK) : FR → Prop
  | .bad => False
  | .rt r ρ1 => ∀ v G1 H1, Go (Own σ ρ) G H G1 H1 → Rel K G1 H1 σ ρ1 → ioSub ρ ρ1 → RVok K G1 H H1 r v → Q v H1
  | .ex x ρ1 => ∀ cls d G1 H1, Go (Own σ ρ) G H G1 H1 → Rel K G1 H1 σ ρ1 → ioSub ρ ρ1 → XRep K G1 H1 x cls d → E cls d H1
def spM (K : PySem.W.Frag) (fm : MF) : Sp := fun vs H Q E => ∃ G ρ, Rel K G H (vs.map some) ρ ∧ PostF K G H (vs.map some) ρ Q E (fm ρ)
section
variable {K : PySem.W.Frag} {G H G1 H1 : Hp} {σ : St} {ρ : Env}
theorem get_uns {ρ : Env} {l j : Nat} {c : Cell} (h : (ρ ++ List.replicate l Cell.un)[j]? = some c) (hc : c ≠ .un) : ρ[j]? = some c := by
  by_cases hj : j < ρ.length
  · rw [List.getElem?_append_left hj] at h; exact h
  · rw [List.getElem?_append_right (by omega)] at h
    exact (hc (List.eq_of_mem_replicate (List.mem_of_getElem? h))).elim
theorem get_nos {σ : St} {l j : Nat} {x : V} (h : (σ ++ List.replicate l none)[j]? = some (some x)) : σ[j]? = some (some x) := by
  by_cases hj : j < σ.length
  · rw [List.getElem?_append_left hj] at h; exact h
  · rw [List.getElem?_append_right (by omega)] at h
    cases List.eq_of_mem_replicate (List.mem_of_getElem? h)
theorem put_nos {σ : St} {l j : Nat} {x : Option V} (h : σ[j]? = some x) : (σ ++ List.replicate l none)[j]? = some x := by
  rw [List.getElem?_append_left (List.getElem?_eq_some_iff.mp h).1]; exact h
theorem Own.uns {a : Addr} {l l' : Nat} (h : Own (σ ++ List.replicate l none) (ρ ++ List.replicate l' .un) a) : Own σ ρ a := by
  obtain ⟨j, d, o, e⟩ := h
  refine ⟨j, d, ?_, get_nos e⟩
  rcases o with o | o
  · exact .inl (get_uns o fun z => nomatch z)
  · exact .inr (get_uns o fun z => nomatch z)
theorem Rel.uns {l : Nat} (r : Rel K G H σ ρ) : Rel K G H (σ ++ List.replicate l none) (ρ ++ List.replicate l .un) := by
  have ow : ∀ j d, Owns (ρ ++ List.replicate l .un) j d → Owns ρ j d := fun j d h => by
    rcases h with h | h
    · exact .inl (get_uns h fun z => nomatch z)
    · exact .inr (get_uns h fun z => nomatch z)
  refine ⟨r.sub, by simp [r.len], fun j d h => ?_, fun j d h => ?_, fun j k d e a h1 h2 e1 e2 => r.dis j k d e a (ow j d h1) (ow k e h2) (get_nos e1) (get_nos e2)⟩
  · obtain ⟨v, e, q⟩ := r.pl j d (get_uns h fun z => nomatch z)
    exact ⟨v, put_nos e, q⟩
  · obtain ⟨a, e, n, t⟩ := r.ow j d (ow j d h)
    exact ⟨a, put_nos e, n, t⟩
theorem outs_get {n j : Nat} {ρ : Env} {c : Cell} (h : (outsOf n ρ)[j]? = some c) : j < n ∧ c = keepIo ρ[j]? := by
  have h0 := h
  unfold outsOf at h h0
  rw [List.getElem?_map] at h
  obtain ⟨i, e1, e2⟩ := Option.map_eq_some_iff.mp h
  rw [List.getElem?_range] at e1
  · obtain rfl := Option.some.inj e1
    refine ⟨?_, e2.symm⟩
    have := (List.getElem?_eq_some_iff.mp h0).1
    simpa using this
  · have := (List.getElem?_eq_some_iff.mp h0).1
    simpa using this
theorem outs_at {n j : Nat} {ρ : Env} {d : D} (h : (outsOf n ρ)[j]? = some (Cell.io d)) : ρ[j]? = some (Cell.io d) ∧ j < n := by
  obtain ⟨hj, e⟩ := outs_get h
  refine ⟨?_, hj⟩
  unfold keepIo at e
  split at e
  · rename_i d' e2
    cases e
    exact e2
  · cases e
theorem outs_no {n j : Nat} {ρ : Env} {c : Cell} (h : (outsOf n ρ)[j]? = some c) : (∃ d, c = .io d) ∨ c = .un := by
  obtain ⟨_, e⟩ := outs_get h
  unfold keepIo at e
  split at e
  · exact .inl ⟨_, e⟩
  · exact .inr e
/-- the parameters behind the body -/
theorem Rel.outs {σ1 : St} {ρ1 : Env} {vs : List V} {n l : Nat} (hl : vs.length = n) (hρ : ρ.length = n) (s : Ss G H (vs.map some ++ List.replicate l none) (ρ ++ List.replicate l .un) G1 H1 σ1 ρ1) (r : Rel K G1 H1 σ1 ρ1) :
    Rel K G1 H1 (vs.map some) (outsOf n ρ1) ∧ ioSub ρ (outsOf n ρ1) := by
  have io : ∀ j d, (outsOf n ρ1)[j]? = some (Cell.io d) → ρ1[j]? = some (Cell.io d) ∧ (vs.map some)[j]? = σ1[j]? ∧ ∃ c, ρ[j]? = some (Cell.io c) := fun j d h => by
    obtain ⟨h1, hj⟩ := outs_at h
    obtain ⟨e, c, hc⟩ := s.io j d h1
    refine ⟨h1, ?_, c, get_uns hc fun z => nomatch z⟩
    rw [e, List.getElem?_append_left (by simp; omega)]
  have ow : ∀ j d, Owns (outsOf n ρ1) j d → (outsOf n ρ1)[j]? = some (Cell.io d) := fun j d h => by
    rcases h with h | h
    · rcases outs_no h with ⟨_, e⟩ | e <;> cases e
    · exact h
  refine ⟨⟨r.sub, by unfold outsOf; simp [hl], fun j d h => ?_, fun j d h => ?_, fun j k d e a h1 h2 e1 e2 => ?_⟩, fun j d h => (io j d h).2.2⟩
  · rcases outs_no h with ⟨_, e⟩ | e <;> cases e
  · obtain ⟨h1, e, _⟩ := io j d (ow j d h)
    obtain ⟨a, e1, n1, t⟩ := r.ow j d (.inr h1)
    exact ⟨a, e.trans e1, n1, t⟩
  · obtain ⟨a1, b1, _⟩ := io j d (ow j d h1)
    obtain ⟨a2, b2, _⟩ := io k e (ow k e h2)
    exact r.dis j k d e a (.inr a1) (.inr a2) (b1.symm.trans e1) (b2.symm.trans e2)
theorem pure_def {N : List Str} {vs : List V} {Q : VK} {E : XK} {n l : Nat} {m : MS} (hN : N.length = n + l) (h : spM K (mDef n l m) vs H Q E) : tMS K (fun cls d _ H => E cls d H) m { nx := fun _ H' => Q .non H', rt := Q } (start N vs) H := by
  obtain ⟨G, ρ, r, h⟩ := h
  unfold mDef at h
  by_cases hρ : ρ.length = n
  case neg =>
    rw [if_neg hρ] at h
    exact h.elim
  rw [if_pos hρ] at h
  have hl : vs.length = n := by rw [← hρ, ← r.len]; simp
  unfold start
  rw [show N.length - vs.length = l by omega]
  refine ⟨G, ρ ++ List.replicate l .un, r.uns, ?_⟩
  cases e : m (ρ ++ List.replicate l .un) with
  | bad => rw [e] at h; exact h
  | br ρ1 => rw [e] at h; exact h.elim
  | ct ρ1 => rw [e] at h; exact h.elim
  | nx ρ1 =>
    rw [e] at h
    intro σ1 G1 H1 s r1
    obtain ⟨r2, io2⟩ := r1.outs hl hρ s
    exact h .non G1 H1 (s.go.weak fun _ z => z.uns) r2 io2 rfl
  | rt rv ρ1 =>
    rw [e] at h
    intro σ1 v G1 H1 s r1 q
    obtain ⟨r2, io2⟩ := r1.outs hl hρ s
    exact h v G1 H1 (s.go.weak fun _ z => z.uns) r2 io2 q
  | ex x ρ1 =>
    rw [e] at h
    intro cls d σ1 G1 H1 s r1 q
    obtain ⟨r2, io2⟩ := r1.outs hl hρ s
    exact h cls d G1 H1 (s.go.weak fun _ z => z.uns) r2 io2 q
/-! ### the rule for a def -/
theorem def_ok {P : Program} {w : World} {mg : Str → Option Value} {base : Heap} {x qual : Str} {params : Arguments} {body : List Stmt} {scope : Scope} {dvs : List V} {kws : List (Str × V)} {f : Addr} {fd : FuncData} {N ps : List Str} {k n : Nat} (l : Nat) {m : MS} (F : FunD K x qual params body scope dvs kws f fd) (S : FnScope N ps scope) (hn : ps.length = n) (hN : N.length = n + l)
    (hbody : ∀ (cdv : Value) (A : Around) (outer : List PySem.Env) (s : Shared) (H : Hp) (E : XK), Room k (A.deeper (envOfC qual scope s.heap.objs.size f cdv)) → MSs (cxOf (L2.CX P w) P w K mg base N qual scope f cdv A outer s H E) (fun cls d _ H => E cls d H) body m) :
    FnOk P w K mg base (L2.CX P w) (k + 1) f fd ps (spM K (mDef n l m)) :=
  F.ok S (fun vs H Q E ⟨G, ρ, r, h⟩ => by
    unfold mDef at h
    split at h
    · rename_i hρ
      rw [hn, ← hρ, ← r.len]; simp
    · exact h.elim) fun cdv A outer s H vs Q E hr h => ⟨_, hbody cdv A outer s H E hr, pure_def hN h⟩
end
/-! ### calls -/
def plainsOf (ρ : Env) : List Opd → Option Env
  | [] => some []
  | .val d :: os => (plainsOf ρ os).map fun cs => .pl d :: cs
  | .slot i :: os => (match ρ[i]? with
    | some (.pl d) => (plainsOf ρ os).map fun cs => .pl d :: cs
    | _ => none)
def scal : D → Bool
  | .non => true
  | .bl _ => true
  | .int _ => true
  | .str _ => true
  | _ => false
def scV : D → V
  | .bl b => .bl b
  | .int i => .int i
  | .str x => .str x
  | _ => .non
/-- all arguments plain -/
def mCallP (dfl : List D) (fm : MF) (args : MA) : M := fun ρ => bindM (args ρ) fun os ρ1 => match plainsOf ρ1 os with
  | some cs => (match fm (cs ++ dfl.map Cell.pl) with
    | .bad => .bad
    | .rt r _ => .ok r ρ1
    | .ex x _ => .ex x ρ1)
  | none => .bad
/-- the first argument is an owned name, written by the callee -/
def mCallQ (dfl : List D) (fm : MF) (args : MA) : M := fun ρ => bindM (args ρ) fun os ρ1 => match os with
  | .slot i :: os => (match plainsOf ρ1 os, ownedAt ρ1 i with
    | some cs, some d => (match fm (.io d :: (cs ++ dfl.map Cell.pl)) with
      | .bad => .bad
      | .rt r (.io d' :: _) => .ok r (setOwn ρ1 i d')
      | .ex x (.io d' :: _) => .ex x (setOwn ρ1 i d')
      | _ => .bad)
    | _, _ => .bad)
  | _ => .bad
section
variable {K : PySem.W.Frag} {G H G1 H1 : Hp} {σ : St} {ρ : Env} {W : WX}
theorem scV_rep : ∀ {d : D}, scal d = true → Rep K G d (scV d)
  | .non, _ => rfl
  | .bl _, _ => rfl
  | .int _, _ => rfl
  | .str _, _ => rfl
  | .tup _, h => by cases h
  | .lst _, h => by cases h
  | .flst _, h => by cases h
  | .ftup _, h => by cases h
  | .dic _ _, h => by cases h
theorem plains_rep (r : Rel K G H σ ρ) : ∀ {os : List Opd} {vs : List V} {cs : Env}, PairAll (OpdOk K G σ) os vs → plainsOf ρ os = some cs → ∃ ds, cs = ds.map Cell.pl ∧ Reps K G ds vs
  | _, _, _, .nil, e => by cases e; exact ⟨[], rfl, rfl⟩
  | _, _, _, .cons (o := o) (os := os) h t, e => by
    cases o with
    | val d =>
      have e : (plainsOf ρ os).map (fun cs => Cell.pl d :: cs) = some _ := e
      obtain ⟨cs, e1, rfl⟩ := Option.map_eq_some_iff.mp e
      obtain ⟨ds, rfl, q⟩ := plains_rep r t e1
      exact ⟨d :: ds, rfl, _, _, rfl, h, q⟩
    | slot i =>
      have h : σ[i]? = some (some _) := h
      unfold plainsOf at e
      cases q : ρ[i]? with
      | none => rw [q] at e; cases e
      | some c =>
        rw [q] at e
        cases c with
        | pl d =>
          have e : (plainsOf ρ os).map (fun cs => Cell.pl d :: cs) = some _ := e
          obtain ⟨cs, e1, rfl⟩ := Option.map_eq_some_iff.mp e
          obtain ⟨ds, rfl, q2⟩ := plains_rep r t e1
          obtain ⟨v, e2, q3⟩ := r.pl i d q
          rw [h] at e2; cases e2
          exact ⟨d :: ds, rfl, _, _, rfl, q3, q2⟩
        | un => cases e
        | ow d => cases e
        | io d => cases e
theorem dfl_reps : ∀ {dfl : List D}, dfl.all scal = true → Reps K G dfl (dfl.map scV)
  | [], _ => rfl
  | d :: ds, h => by
    have h : (scal d && ds.all scal) = true := h
    rw [Bool.and_eq_true] at h
    exact ⟨_, _, rfl, scV_rep h.1, dfl_reps h.2⟩
theorem plain_rel (s : Ex G H) {ds : List D} {vs : List V} (h : Reps K G ds vs) : Rel K G H (vs.map some) (ds.map Cell.pl) := by
  have pl : ∀ j c, (ds.map Cell.pl)[j]? = some c → ∃ d, c = Cell.pl d ∧ ds[j]? = some d := fun j c z => by
    rw [List.getElem?_map] at z
    obtain ⟨d, e1, e2⟩ := Option.map_eq_some_iff.mp z
    exact ⟨d, e2.symm, e1⟩
  have no : ∀ j d, ¬ Owns (ds.map Cell.pl) j d := fun j d z => by
    rcases z with z | z
    · obtain ⟨_, e, _⟩ := pl j _ z; cases e
    · obtain ⟨_, e, _⟩ := pl j _ z; cases e
  refine ⟨s, by simp [h.length], fun j d z => ?_, fun j d z => (no j d z).elim, fun j k d e a h1 => (no j d h1).elim⟩
  obtain ⟨d', e, z⟩ := pl j _ z
  cases e
  obtain ⟨v, e1, e2⟩ := h.get z
  exact ⟨v, by simp [e1], e2⟩
theorem plain_noown {ds : List D} {a : Addr} : ¬ Own σ (ds.map Cell.pl) a := fun ⟨j, d, o, _⟩ => by
  rcases o with o | o
  · rw [List.getElem?_map] at o
    obtain ⟨_, _, e⟩ := Option.map_eq_some_iff.mp o
    cases e
  · rw [List.getElem?_map] at o
    obtain ⟨_, _, e⟩ := Option.map_eq_some_iff.mp o
    cases e
theorem callP_then {dfl : List D} {fm : MF} {ma : MA} {Q : VK} (hd : dfl.all scal = true) (h : tM K W (mCallP dfl fm ma) σ H Q) : tCallSD (spM K fm) (dfl.map scV) (WE W) (tMA K W ma) σ H Q := by
  obtain ⟨G, ρ, r0, h⟩ := h
  refine tMA_thenE (Q := Q) r0 h fun G1 H1 ρ1 os vs e1 r1 ovs h1 => ?_
  split at h1
  · rename_i cs e
    obtain ⟨ds, rfl, q⟩ := plains_rep r1 ovs e
    have rr := q.append (dfl_reps (K := K) (G := G1) hd)
    refine ⟨G1, (ds ++ dfl).map Cell.pl, plain_rel r1.sub rr, ?_⟩
    rw [← List.map_append] at h1
    split at h1
    · exact h1.elim
    · rename_i rv ρc e2
      rw [e2]
      intro v G2 H2 g r2 _ q2
      have g' : Go NoI G1 H1 G2 H2 := g.weak fun _ z => plain_noown z
      exact PostE.done r1 h1 g' r2.sub q2
    · rename_i x ρc e2
      rw [e2]
      intro cls d G2 H2 g r2 _ q2
      have g' : Go NoI G1 H1 G2 H2 := g.weak fun _ z => plain_noown z
      exact h1 cls d G2 H2 (g'.weak fun _ z => z.elim) (r1.step g' r2.sub) (Sub.refl _) q2
  · exact h1.elim
theorem lend_own {a : Addr} {d : D} {ds : List D} {vs : List V} (b : Addr) (h : Own ((V.ref a :: vs).map some) (.io d :: ds.map Cell.pl) b) : b = a := by
  obtain ⟨j, c, o, e⟩ := h
  cases j with
  | zero =>
    have e : some (some (V.ref a)) = some (some (V.ref b)) := e
    cases e; rfl
  | succ j =>
    exfalso
    have o' : Owns (ds.map Cell.pl) j c := by
      rcases o with o | o
      · exact .inl (by simpa using o)
      · exact .inr (by simpa using o)
    have : Own (vs.map some) (ds.map Cell.pl) b := ⟨j, c, o', by simpa using e⟩
    exact plain_noown this
theorem lend_rel (s : Ex G H) {a : Addr} {d : D} {ds : List D} {vs : List V} (ha : G a = none) (t : Top K G H a d) (h : Reps K G ds vs) : Rel K G H ((V.ref a :: vs).map some) (.io d :: ds.map Cell.pl) := by
  have r := plain_rel (K := K) s h
  have ow : ∀ j c, Owns (Cell.io d :: ds.map Cell.pl) j c → j = 0 ∧ c = d := fun j c o => by
    cases j with
    | zero =>
      rcases o with o | o
      · have o : some (Cell.io d) = some (Cell.ow c) := o
        cases o
      · have o : some (Cell.io d) = some (Cell.io c) := o
        cases o; exact ⟨rfl, rfl⟩
    | succ j =>
      exfalso
      rcases o with o | o
      · have o : (ds.map Cell.pl)[j]? = _ := o
        rw [List.getElem?_map] at o
        obtain ⟨_, _, e⟩ := Option.map_eq_some_iff.mp o
        cases e
      · have o : (ds.map Cell.pl)[j]? = _ := o
        rw [List.getElem?_map] at o
        obtain ⟨_, _, e⟩ := Option.map_eq_some_iff.mp o
        cases e
  refine ⟨s, by have := r.len; simp at this ⊢; exact this, fun j c h => ?_, fun j c o => ?_, fun j k c c' b o1 o2 _ _ => by rw [(ow j c o1).1, (ow k c' o2).1]⟩
  · cases j with
    | zero => cases h
    | succ j => exact r.pl j c h
  · obtain ⟨rfl, rfl⟩ := ow j c o
    exact ⟨a, rfl, ha, t⟩
/-- what was lent comes back -/
theorem lend_back {ρ1 : Env} {G2 H2 : Hp} {i : Nat} {a : Addr} {d d' : D} {ds : List D} {vs : List V} {ρc : Env} (r1 : Rel K G1 H1 σ ρ1) (o : Owns ρ1 i d) (ea : σ[i]? = some (some (.ref a))) (g : Go (Own ((V.ref a :: vs).map some) (.io d :: ds.map Cell.pl)) G1 H1 G2 H2)
    (r2 : Rel K G2 H2 ((V.ref a :: vs).map some) (.io d' :: ρc)) : Go (Own σ ρ1) G1 H1 G2 H2 ∧ Rel K G2 H2 σ (setOwn ρ1 i d') ∧ Sub ρ1 (setOwn ρ1 i d') := by
  obtain ⟨at_, hl⟩ := setOwn_at (d' := d') o
  obtain ⟨b, e1, n, t⟩ := r2.ow 0 d' (.inr rfl)
  have e1 : some (some (V.ref a)) = some (some (V.ref b)) := e1
  cases e1
  have g' : Go (fun b => b = a) G1 H1 G2 H2 := g.weak fun b z => lend_own b z
  have own : ∀ (j : Nat) (c : D), Owns (setOwn ρ1 i d') j c → (j = i ∧ c = d') ∨ (j ≠ i ∧ Owns ρ1 j c) := fun j c z => by
    rcases z with z | z
    · rcases at_ j _ z with ⟨e, y⟩ | ⟨n, y⟩
      · rcases y with ⟨_, y⟩ | ⟨_, y⟩
        · cases y; exact .inl ⟨e, rfl⟩
        · cases y
      · exact .inr ⟨n, .inl y⟩
    · rcases at_ j _ z with ⟨e, y⟩ | ⟨n, y⟩
      · rcases y with ⟨_, y⟩ | ⟨_, y⟩
        · cases y
        · cases y; exact .inl ⟨e, rfl⟩
      · exact .inr ⟨n, .inr y⟩
  have own0 : ∀ (j : Nat) (c : D), Owns (setOwn ρ1 i d') j c → ∃ c', Owns ρ1 j c' := fun j c z => by
    rcases own j c z with ⟨e, _⟩ | ⟨_, y⟩
    · exact ⟨d, e ▸ o⟩
    · exact ⟨c, y⟩
  refine ⟨g'.weak fun b z => ⟨i, d, o, by rw [z]; exact ea⟩, ⟨r2.sub, by rw [hl]; exact r1.len, fun j c z => ?_, fun j c z => ?_, fun j k c c' b z1 z2 => ?_⟩, fun j => ⟨fun c z => ?_, fun c z => ?_⟩⟩
  · rcases at_ j _ z with ⟨e, y⟩ | ⟨n2, y⟩
    · rcases y with ⟨_, y⟩ | ⟨_, y⟩ <;> cases y
    · obtain ⟨v, e, q⟩ := r1.pl j c y
      exact ⟨v, e, Rep.mono g'.ext c q⟩
  · rcases own j c z with ⟨rfl, rfl⟩ | ⟨n2, y⟩
    · exact ⟨a, ea, n, t⟩
    · obtain ⟨b, e1, n1, t1⟩ := r1.ow j c y
      have ne : b ≠ a := fun z => n2 (r1.dis j i c d b y o e1 (by rw [ea, z]))
      refine ⟨b, e1, ?_, t1.mono g'.ext fun p hp => g'.keep b p hp ne⟩
      cases q : G2 b with
      | none => rfl
      | some u =>
        obtain ⟨w, hw⟩ := t1.alive
        rcases g'.new b u q with z | z | z
        · rw [n1] at z; cases z
        · rw [hw] at z; cases z
        · exact (ne z).elim
  · obtain ⟨c1, y1⟩ := own0 j c z1
    obtain ⟨c2, y2⟩ := own0 k c' z2
    exact r1.dis j k c1 c2 b y1 y2
  · rcases at_ j _ z with ⟨e, y⟩ | ⟨_, y⟩
    · rcases y with ⟨y1, y⟩ | ⟨y1, y⟩
      · rw [e]; exact ⟨d, y1⟩
      · cases y
    · exact ⟨c, y⟩
  · rcases at_ j _ z with ⟨e, y⟩ | ⟨_, y⟩
    · rcases y with ⟨y1, y⟩ | ⟨y1, y⟩
      · cases y
      · rw [e]; exact ⟨d, y1⟩
    · exact ⟨c, y⟩
theorem callQ_then {dfl : List D} {fm : MF} {ma : MA} {Q : VK} (hd : dfl.all scal = true) (h : tM K W (mCallQ dfl fm ma) σ H Q) : tCallSD (spM K fm) (dfl.map scV) (WE W) (tMA K W ma) σ H Q := by
  obtain ⟨G, ρ, r0, h⟩ := h
  refine tMA_thenE (Q := Q) r0 h fun G1 H1 ρ1 os vs e1 r1 ovs h1 => ?_
  split at h1
  · rename_i i os
    split at h1
    · rename_i cs d e eo
      cases ovs with
      | cons ov ovs =>
        rename_i v vs
        obtain ⟨ds, rfl, q⟩ := plains_rep r1 ovs e
        have rr := q.append (dfl_reps (K := K) (G := G1) hd)
        have o := ownedAt_owns eo
        obtain ⟨a, ea, n, t⟩ := r1.ow i d o
        have ov : σ[i]? = some (some v) := ov
        rw [ea] at ov; cases ov
        refine ⟨G1, .io d :: (ds ++ dfl).map Cell.pl, lend_rel r1.sub n t rr, ?_⟩
        rw [← List.map_append] at h1
        split at h1
        · exact h1.elim
        · rename_i rv d' ρc e2
          rw [e2]
          intro v G2 H2 g r2 _ q2
          obtain ⟨g3, r3, s3⟩ := lend_back r1 o ea g r2
          exact h1 v G2 H2 g3 r3 s3 q2
        · rename_i x d' ρc e2
          rw [e2]
          intro cls dx G2 H2 g r2 _ q2
          obtain ⟨g3, r3, s3⟩ := lend_back r1 o ea g r2
          exact h1 cls dx G2 H2 g3 r3 s3 q2
        · exact h1.elim
    · exact h1.elim
  · exact h1.elim
end
theorem takes0 {X : Cx} : Takes X W0 := fun _ _ ⟨_, _, _, _, _, _, _, _, _, _, _, _, _, _, _, _, w⟩ => w.elim
section
variable {X : Cx} {W : WX} {e : Expr} {es : List Expr} {ma : MA} {fm : MF} {dfl : List D} {x : Str} {p pos : Pos} {k : Nat} {f : Addr} {fd : FuncData} {ps : List Str} {ds : List Value}
theorem me_callP (F : FnOk X.prog X.w X.K X.mg X.base (L2.CX X.prog X.w) k f fd ps (spM X.K fm)) (hr : Room k X.A) (hg : Gl X x) (hm : X.mg x = some (.ref f)) (hk : PySem.W.keepIn X.K (.ref f) = true) (hb : Binds X.K fd ps ds) (hd : Vals (dfl.map scV) ds) (tk : Takes X W)
    (ha : MAr X W (e :: es) ma) (hsc : dfl.all scal = true := by rfl) (hdb : (x == ("__debug__" : Str)) = false := by decide) (he : starEach (e :: es) X.env = (false, eval e X.env) :: starEach es X.env := by rfl) (hpl : (backTo pos (starEach es X.env)).any (·.1) = false := by rfl) :
    ME X W (.Call (.Name x p) (e :: es) [] pos) (mCallP dfl fm ma) := (pe_callSD F hr hg hm hk hb hd (fun σ => passAt tk σ) ha hdb he hpl).imp fun _ _ _ h => callP_then hsc h
theorem me_callQ (F : FnOk X.prog X.w X.K X.mg X.base (L2.CX X.prog X.w) k f fd ps (spM X.K fm)) (hr : Room k X.A) (hg : Gl X x) (hm : X.mg x = some (.ref f)) (hk : PySem.W.keepIn X.K (.ref f) = true) (hb : Binds X.K fd ps ds) (hd : Vals (dfl.map scV) ds) (tk : Takes X W)
    (ha : MAr X W (e :: es) ma) (hsc : dfl.all scal = true := by rfl) (hdb : (x == ("__debug__" : Str)) = false := by decide) (he : starEach (e :: es) X.env = (false, eval e X.env) :: starEach es X.env := by rfl) (hpl : (backTo pos (starEach es X.env)).any (·.1) = false := by rfl) :
    ME X W (.Call (.Name x p) (e :: es) [] pos) (mCallQ dfl fm ma) := (pe_callSD F hr hg hm hk hb hd (fun σ => passAt tk σ) ha hdb he hpl).imp fun _ _ _ h => callQ_then hsc h
end
end L2.MX
end
section
set_option Elab.async false
set_option linter.all false
set_option maxRecDepth 100000
/-! MxH: isinstance, bit_length, len(set(..)), sorted, min. -/
namespace L2.MX
open PySem PySem.Spec PyProof.Rows

/-! ### isinstance -/
inductive Ty where
  | int | bool | str | list | tuple | dict
def Ty.n : Ty → String
  | .int => "int"
  | .bool => "bool"
  | .str => "str"
  | .list => "list"
  | .tuple => "tuple"
  | .dict => "dict"
inductive Kd where
  | non | bool | int | str | tuple | list | dict
def Kd.n : Kd → String
  | .non => "NoneType"
  | .bool => "bool"
  | .int => "int"
  | .str => "str"
  | .tuple => "tuple"
  | .list => "list"
  | .dict => "dict"
def kdD : D → Kd
  | .non => .non
  | .bl _ => .bool
  | .int _ => .int
  | .str _ => .str
  | .tup _ => .tuple
  | .ftup _ => .tuple
  | .lst _ => .list
  | .flst _ => .list
  | .dic _ _ => .dict
def isK : Ty → Kd → Bool
  | .int, .int => true
  | .int, .bool => true
  | .bool, .bool => true
  | .str, .str => true
  | .list, .list => true
  | .tuple, .tuple => true
  | .dict, .dict => true
  | _, _ => false
def tyD (d : D) : String := (kdD d).n
def isTy (t : Ty) (d : D) : Bool := isK t (kdD d)
theorem kit_one (K : PySem.W.Frag) (t : Ty) (d : D) : PySem.W.kitOne K (.type (tyD d)) (.type t.n) = some (isTy t d) := by
  unfold tyD isTy
  generalize kdD d = k
  refine kit_ty ?_
  cases t <;> cases k <;> decide +kernel
theorem kit_any (K : PySem.W.Frag) (d : D) : ∀ ts : List Ty, PySem.W.kitAny K (.type (tyD d)) (ts.map fun t => Value.type t.n) = some (ts.any fun t => isTy t d)
  | [] => rfl
  | t :: ts => by
    refine kitAny_cons (kit_one K t d) (fun h => ?_) fun h => ?_
    · show _ = some (isTy t d || _)
      rw [h, Bool.false_or]
      exact kit_any K d ts
    · show (isTy t d || _) = true
      rw [h, Bool.true_or]
theorem tyx_of {K : PySem.W.Frag} {G H : Hp} (s : Ex G H) : ∀ {d : D} {v : V}, Rep2 K G H d v → TyX K H v (.type (tyD d))
  | .non, _, h => by obtain rfl : _ = V.non := h; exact .base .non
  | .bl b, _, h => by obtain rfl : _ = V.bl b := h; exact .base (.bl b)
  | .int b, _, h => by obtain rfl : _ = V.int b := h; exact .base (.int b)
  | .str b, _, h => by obtain rfl : _ = V.str b := h; exact .base (.str b)
  | .tup ds, _, h => by obtain ⟨a, vs, rfl, e, _⟩ := h; exact .base (.tup (s _ _ e))
  | .lst ds, _, h => by obtain ⟨a, vs, rfl, e, _⟩ := h; exact .base (.lst e)
  | .dic ks ds, _, h => by obtain ⟨a, vs, rfl, e, _⟩ := h; exact .base (.dK e)
  | .flst ds, _, h => by
    obtain ⟨a, vs, rfl, e, _⟩ := h
    rcases e with (e | ⟨o, e⟩) | ⟨o, its, n, e, c, _⟩
    · exact .base (.lst e)
    · exact .base (.frz e)
    · exact .kList e c
  | .ftup ds, _, h => by
    obtain ⟨a, vs, rfl, e, _⟩ := h
    rcases e with (e | ⟨o, e⟩) | ⟨o, its, n, e, c, _⟩
    · exact .base (.tup e)
    · exact .fTuple e
    · exact .kTuple e c
def mIsi (ts : List Ty) (m : MO) : M := mUn (fun d => pB (ts.any fun t => isTy t d)) m
section
variable {X : Cx} {W : WX} {a : Expr} {m : MO} {p p2 tp pos : Pos} {tx : Str}
theorem me_isi (t : Ty) (ha : MOp X W a m) (hg : Gl X "isinstance" := by rfl) (hm : X.mg "isinstance" = none) (hg2 : Gl X tx := by rfl) (hm2 : X.mg tx = none) (hv2 : bootBuiltins tx = some (.type t.n)) (hn : tx ≠ "__name__" := by decide) (hdb : (tx == ("__debug__" : Str)) = false := by decide)
    (he : starEach [a, .Name tx p2] X.env = (false, eval a X.env) :: starEach [.Name tx p2] X.env := by rfl) (he2 : starEach [.Name tx p2] X.env = (false, eval (.Name tx p2) X.env) :: starEach [] X.env := by rfl) (hpl : (backTo pos (starEach [.Name tx p2] X.env)).any (·.1) = false := by rfl) :
    ME X W (.Call (.Name "isinstance" p) [a, .Name tx p2] [] pos) (mIsi [t] m) := by
  have pt : PE X (.Name tx p2) (tC (.ty t.n)) := pe_bltn hg2 hm2 hv2 rfl hn hdb
  refine (pe_callB call_isi hg hm (by decide +kernel) (pa_cons ha (pa_cons pt pa_nil he2) he) (he := he) (hpl := hpl)).imp fun σ H Q ⟨G, ρ, r0, h⟩ => ?_
  refine tMO_thenE (Q := Q) r0 h fun G1 H1 ρ1 o v e1 r1 ov h1 => ?_
  show ∃ (x c : V) (t' u : Value) (b : Bool), _
  unfold ap1 at h1
  split at h1
  · rename_i d ed
    have rep := ov.look r1 ed
    have ea : ([t].any fun t => isTy t d) = isTy t d := by simp
    have h1 : PostE X.K G1 H1 σ ρ1 W Q (.ok (.pl (.bl ([t].any fun t => isTy t d))) ρ1) := h1
    rw [ea] at h1
    exact ⟨v, .ty t.n, _, .type t.n, isTy t d, rfl, .ty _, tyx_of r1.sub rep, kit_one _ t d, PostE.done r1 h1 Go.refl r1.sub rfl⟩
  · exact h1.elim
/-- isinstance(x, (t1, t2)) -/
theorem me_isi2 {tx2 : Str} {p3 p4 : Pos} {j : Nat} (t t2 : Ty) (ha : MOp X W a m) (hg : Gl X "isinstance" := by rfl) (hm : X.mg "isinstance" = none) (hg2 : Gl X tx := by rfl) (hm2 : X.mg tx = none) (hv2 : bootBuiltins tx = some (.type t.n)) (hg3 : Gl X tx2 := by rfl) (hm3 : X.mg tx2 = none) (hv3 : bootBuiltins tx2 = some (.type t2.n)) (hn : tx ≠ "__name__" := by decide) (hdb : (tx == ("__debug__" : Str)) = false := by decide) (hn2 : tx2 ≠ "__name__" := by decide) (hdb2 : (tx2 == ("__debug__" : Str)) = false := by decide)
    (he : starEach [a, .Tuple [.Name tx p2, .Name tx2 p3] j p4] X.env = (false, eval a X.env) :: starEach [.Tuple [.Name tx p2, .Name tx2 p3] j p4] X.env := by rfl)
    (he2 : starEach [.Tuple [.Name tx p2, .Name tx2 p3] j p4] X.env = (false, eval (.Tuple [.Name tx p2, .Name tx2 p3] j p4) X.env) :: starEach [] X.env := by rfl)
    (he3 : starEach [.Name tx p2, .Name tx2 p3] X.env = (false, eval (.Name tx p2) X.env) :: starEach [.Name tx2 p3] X.env := by rfl) (he4 : starEach [.Name tx2 p3] X.env = (false, eval (.Name tx2 p3) X.env) :: starEach [] X.env := by rfl)
    (hpl : (backTo pos (starEach [.Tuple [.Name tx p2, .Name tx2 p3] j p4] X.env)).any (·.1) = false := by rfl) :
    ME X W (.Call (.Name "isinstance" p) [a, .Tuple [.Name tx p2, .Name tx2 p3] j p4] [] pos) (mIsi [t, t2] m) := by
  have pt : PE X (.Name tx p2) (tC (.ty t.n)) := pe_bltn hg2 hm2 hv2 rfl hn hdb
  have pt2 : PE X (.Name tx2 p3) (tC (.ty t2.n)) := pe_bltn hg3 hm3 hv3 rfl hn2 hdb2
  refine (pe_callB call_isiT hg hm (by decide +kernel) (pa_cons ha (pa_cons (pe_tup (pa_cons pt (pa_cons pt2 pa_nil he4) he3)) pa_nil he2) he) (he := he) (hpl := hpl)).imp fun σ H Q ⟨G, ρ, r0, h⟩ => ?_
  refine tMO_thenE (Q := Q) r0 h fun G1 H1 ρ1 o v e1 r1 ov h1 => ?_
  refine ⟨by show 2 ≤ sizeLine; rw [line_eq]; decide, fun T hT => ?_⟩
  unfold ap1 at h1
  split at h1
  · rename_i d ed
    have rep := ov.look r1 ed
    have exH : Ex H1 (upd H1 T (.tup [.ty t.n, .ty t2.n])) := fun b u e => by rw [upd_ne (ne_of_none e hT)]; exact e
    have gT : G1 T = none := by
      cases q : G1 T with
      | none => rfl
      | some u => rw [r1.sub T u q] at hT; cases hT
    have ty : TyX X.K (upd H1 T (.tup [.ty t.n, .ty t2.n])) v (.type (tyD d)) := by
      refine tyx_of (G := G1) (d := d) (fun b u e => exH _ _ (r1.sub b u e)) ?_
      cases d with
      | tup ds => exact rep
      | ftup ds => obtain ⟨a, vs, e, q, r⟩ := rep; exact ⟨a, vs, e, sqT_mono exH q, r⟩
      | lst ds => obtain ⟨a, vs, e, q, r⟩ := rep; exact ⟨a, vs, e, exH _ _ q, r⟩
      | flst ds => obtain ⟨a, vs, e, q, r⟩ := rep; exact ⟨a, vs, e, sqL_mono exH q, r⟩
      | dic ks ds => obtain ⟨a, vs, e, q, r⟩ := rep; exact ⟨a, vs, e, exH _ _ q, r⟩
      | non => exact rep
      | bl b => exact rep
      | int b => exact rep
      | str b => exact rep
    exact ⟨v, T, [.ty t.n, .ty t2.n], _, [.type t.n, .type t2.n], ([t, t2].any fun t => isTy t d), rfl, upd_same, .cons (.ty _) (.cons (.ty _) .nil), ty, kit_any X.K d [t, t2],
      PostE.done r1 h1 (Go.updL (.inr hT)) (fun b u e => by rw [upd_ne (ne_of_none e gT)]; exact r1.sub b u e) rfl⟩
  · exact h1.elim
end

/-! ### n.bit_length() -/
def dBits : D → Option RV
  | .int i => pI (Builtin.Int.intBits i : Nat)
  | _ => none
theorem me_bits {X : Cx} {W : WX} {o : Expr} {m : MO} {apos pos : Pos} (ho : MOp X W o m) (hbase : attributeBase o "bit_length" X.env (eval o X.env) = eval o X.env := by rfl) (hline : (apos.endLine == pos.line) = true := by rfl) : ME X W (.Call (.Attribute o "bit_length" apos) [] [] pos) (mUn dBits m) := by
  refine (pe_bits ho hbase hline).imp fun σ H Q ⟨G, ρ, r0, h⟩ => ?_
  refine tMO_thenE (Q := Q) r0 h fun G1 H1 ρ1 o v e1 r1 ov h1 => ?_
  unfold ap1 at h1
  split at h1
  · rename_i d ed
    have rep := ov.look r1 ed
    cases d with
    | int i =>
      obtain rfl : v = .int i := rep
      exact ⟨i, rfl, PostE.done r1 h1 Go.refl r1.sub rfl⟩
    | _ => exact h1.elim
  · exact h1.elim

/-! ### len(set(xs)), the items unlike ints -/
def dLenSet : D → Option RV
  | .lst ds => (intsOf ds).bind fun ns => if ns.Nodup ∧ ns.length ≤ 4000 then pI ns.length else none
  | _ => none
theorem me_lenSet {X : Cx} {W : WX} {a : Expr} {m : MO} {p p2 q pos : Pos} (hc : X.calm = true) (hg : Gl X "len") (hm : X.mg "len" = none) (hg2 : Gl X "set") (hm2 : X.mg "set" = none) (ha : MOp X W a m) (na : starEach [a] X.env = (false, eval a X.env) :: starEach [] X.env := by rfl) :
    ME X W (.Call (.Name "len" p) [.Call (.Name "set" p2) [a] [] q] [] pos) (mUn dLenSet m) := by
  refine (RZ.pe_lenSetI hg hm hg2 hm2 ha hc na).imp fun σ H Q ⟨G, ρ, r0, h⟩ => ?_
  refine tMO_thenE (Q := Q) r0 h fun G1 H1 ρ1 o v e1 r1 ov h1 => ?_
  unfold ap1 at h1
  split at h1
  · rename_i d ed
    have rep := ov.look r1 ed
    cases d with
    | lst ds =>
      obtain ⟨a, vs, rfl, hs, r⟩ := rep
      split at h1
      · rename_i rv e2
        have e2 : ((intsOf ds).bind fun ns => if ns.Nodup ∧ ns.length ≤ 4000 then pI ns.length else none) = some rv := e2
        cases q : intsOf ds with
        | none => rw [q] at e2; cases e2
        | some ns =>
          rw [q] at e2
          have e2 : (if ns.Nodup ∧ ns.length ≤ 4000 then pI ns.length else none) = some rv := e2
          split at e2
          · rename_i hn
            cases e2
            rw [ints_reps q r] at hs
            exact ⟨a, ns, rfl, SqL.of hs, hn.1, hn.2, PostE.done r1 h1 Go.refl r1.sub rfl⟩
          · cases e2
      · exact h1.elim
    | _ => exact h1.elim
  · exact h1.elim

/-! ### sorted -/
section
variable {α : Type} (le : α → α → Bool)
def insB (x : α) : List α → List α
  | [] => [x]
  | y :: ys => if le x y then x :: y :: ys else y :: insB x ys
def sortB : List α → List α
  | [] => []
  | x :: xs => insB le x (sortB xs)
theorem insB_perm (x : α) : ∀ l : List α, (insB le x l).Perm (x :: l)
  | [] => List.Perm.refl _
  | y :: ys => by
    unfold insB
    split
    · exact List.Perm.refl _
    · exact ((insB_perm x ys).cons y).trans (List.Perm.swap x y ys)
theorem sortB_perm : ∀ l : List α, (sortB le l).Perm l
  | [] => List.Perm.refl _
  | x :: xs => (insB_perm le x _).trans ((sortB_perm xs).cons x)
variable {le}
theorem insB_sorted (tot : ∀ a b, le a b = true ∨ le b a = true) (tr : ∀ a b c, le a b = true → le b c = true → le a c = true) (x : α) : ∀ l : List α, l.Pairwise (fun a b => le a b = true) → (insB le x l).Pairwise (fun a b => le a b = true)
  | [], _ => List.pairwise_singleton _ _
  | y :: ys, h => by
    have h' := List.pairwise_cons.mp h
    unfold insB
    split
    · rename_i c
      refine List.pairwise_cons.mpr ⟨fun z hz => ?_, h⟩
      rcases List.mem_cons.mp hz with e | hz
      · rw [e]; exact c
      · exact tr _ _ _ c (h'.1 z hz)
    · rename_i c
      have c2 : le y x = true := (tot x y).resolve_left c
      refine List.pairwise_cons.mpr ⟨fun z hz => ?_, insB_sorted tot tr x ys h'.2⟩
      rcases List.mem_cons.mp ((insB_perm le x ys).mem_iff.mp hz) with e | hz
      · rw [e]; exact c2
      · exact h'.1 z hz
theorem sortB_sorted (tot : ∀ a b, le a b = true ∨ le b a = true) (tr : ∀ a b c, le a b = true → le b c = true → le a c = true) : ∀ l : List α, (sortB le l).Pairwise (fun a b => le a b = true)
  | [] => List.Pairwise.nil
  | x :: xs => insB_sorted tot tr x _ (sortB_sorted tot tr xs)
/-- any sorted order of the same items is ours -/
theorem sortB_uniq (tot : ∀ a b, le a b = true ∨ le b a = true) (tr : ∀ a b c, le a b = true → le b c = true → le a c = true) (anti : ∀ a b, le a b = true → le b a = true → a = b) {l m : List α} (hp : m.Perm l) (hs : m.Pairwise fun a b => le a b = true) : m = sortB le l :=
  List.Perm.eq_of_pairwise (le := fun a b => le a b = true) (fun a b _ _ h1 h2 => anti a b h1 h2) hs (sortB_sorted tot tr l) (hp.trans (sortB_perm le l).symm)
end
def leI (a b : Int) : Bool := decide (a ≤ b)
def leP (p q : Int × Int) : Bool := !SrtO.lexB q p
theorem leP_iff {p q : Int × Int} : leP p q = true ↔ p.1 < q.1 ∨ (p.1 = q.1 ∧ p.2 ≤ q.2) := by
  unfold leP
  cases e : SrtO.lexB q p with
  | true =>
    have := SrtO.lexB_iff.mp e
    constructor
    · intro h; cases h
    · intro h; omega
  | false =>
    have : ¬ (q.1 < p.1 ∨ (q.1 = p.1 ∧ q.2 < p.2)) := fun z => by rw [SrtO.lexB_iff.mpr z] at e; cases e
    constructor
    · intro _; omega
    · intro _; rfl
def pairsOf : List D → Option (List (Int × Int))
  | [] => some []
  | .tup [.int i, .int j] :: ds => (pairsOf ds).map fun ps => (i, j) :: ps
  | _ => none
def pairD (p : Int × Int) : D := .tup [.int p.1, .int p.2]
def dSorted : List D → Option RV
  | [d] => (listOf d).bind fun ds => match intsOf ds with
    | some ns => some (.fr (.lst ((sortB leI ns).map .int)))
    | none => (pairsOf ds).map fun ps => .fr (.lst ((sortB leP ps).map pairD))
  | _ => none
def dMin : List D → Option RV
  | [d] => (itemsOf d).bind fun ds => (intsOf ds).bind fun ns => match ns with
    | n :: ns => pI (ns.foldl (fun a y => if y < a then y else a) n)
    | [] => none
  | _ => none
def dMax : List D → Option RV
  | [d] => (listOf d).bind fun ds => (intsOf ds).bind fun ns => match ns with
    | n :: ns => pI (ns.foldl (fun a y => if a < y then y else a) n)
    | [] => none
  | _ => none
section
variable {K : PySem.W.Frag}
theorem listOf_ok2 {G H : Hp} {d : D} {v : V} {ds : List D} (h : Rep2 K G H d v) (e : listOf d = some ds) : ∃ a vs, v = .ref a ∧ SqL K H a vs ∧ Reps K G ds vs := by
  cases d with
  | lst es =>
    cases e
    obtain ⟨a, vs, rfl, ha, r⟩ := h
    exact ⟨a, vs, rfl, SqL.of ha, r⟩
  | flst es =>
    cases e
    obtain ⟨a, vs, rfl, ha, r⟩ := h
    exact ⟨a, vs, rfl, ha, r⟩
  | _ => cases e
theorem itemsOf_ok2 {G H : Hp} (s : Ex G H) {d : D} {v : V} {ds : List D} (h : Rep2 K G H d v) (e : itemsOf d = some ds) : ∃ a vs, v = .ref a ∧ (SqL K H a vs ∨ SqT K H a vs) ∧ Reps K G ds vs := by
  cases d with
  | lst es => cases e; obtain ⟨a, vs, rfl, ha, r⟩ := h; exact ⟨a, vs, rfl, .inl (SqL.of ha), r⟩
  | flst es => cases e; obtain ⟨a, vs, rfl, ha, r⟩ := h; exact ⟨a, vs, rfl, .inl ha, r⟩
  | tup es => cases e; obtain ⟨a, vs, rfl, ha, r⟩ := h; exact ⟨a, vs, rfl, .inr (SqT.of (s _ _ ha)), r⟩
  | ftup es => cases e; obtain ⟨a, vs, rfl, ha, r⟩ := h; exact ⟨a, vs, rfl, .inr ha, r⟩
  | _ => cases e
def keyP (H : Hp) : V → Int × Int
  | .ref t => (match H t with
    | some (.tup [.int i, .int j]) => (i, j)
    | _ => (0, 0))
  | _ => (0, 0)
theorem pairs_reps {G H : Hp} (s : Ex G H) : ∀ {ds : List D} {vs : List V} {ps : List (Int × Int)}, pairsOf ds = some ps → Reps K G ds vs → vs.map (keyP H) = ps ∧ ∀ x ∈ vs, ∃ t, x = V.ref t ∧ G t = some (.tup [.int (keyP H x).1, .int (keyP H x).2])
  | [], vs, ps, e, h => by
    obtain rfl : vs = [] := h
    cases e; exact ⟨rfl, fun x hx => by cases hx⟩
  | d :: ds, vs, ps, e, h => by
    obtain ⟨v, r, rfl, hv, hr⟩ := h
    unfold pairsOf at e
    split at e
    · cases ‹_ :: _ = []›
    · rename_i i j ds' heq
      cases heq
      obtain ⟨ms, e1, rfl⟩ := Option.map_eq_some_iff.mp e
      obtain ⟨a, ws, rfl, hs, w, ws', rfl, hw, w2, ws2, rfl, hw2, hnil⟩ := hv
      obtain rfl : ws2 = [] := hnil
      obtain rfl : w = .int i := hw
      obtain rfl : w2 = .int j := hw2
      have hk : keyP H (.ref a) = (i, j) := by
        show (match H a with
          | some (.tup [.int i, .int j]) => (i, j)
          | _ => (0, 0)) = (i, j)
        rw [s _ _ hs]
      obtain ⟨h1, h2⟩ := pairs_reps s e1 hr
      refine ⟨by rw [List.map_cons, hk, h1], fun x hx => ?_⟩
      rcases List.mem_cons.mp hx with e | hx
      · rw [e, hk]; exact ⟨a, rfl, hs⟩
      · exact h2 x hx
    · cases e
theorem reps_pairs {G H : Hp} : ∀ {vs : List V}, (∀ x ∈ vs, ∃ t, x = V.ref t ∧ G t = some (.tup [.int (keyP H x).1, .int (keyP H x).2])) → Reps K G ((vs.map (keyP H)).map pairD) vs
  | [], _ => rfl
  | x :: vs, h => by
    obtain ⟨t, e, hs⟩ := h x List.mem_cons_self
    refine ⟨x, vs, rfl, ⟨t, _, e, hs, .int (keyP H x).1, _, rfl, rfl, .int (keyP H x).2, _, rfl, rfl, rfl⟩, reps_pairs fun y hy => h y (List.mem_cons_of_mem _ hy)⟩
theorem s_sorted : CallS K dSorted (fun xs H Q => rSortedI K xs H Q ∨ rSortedPO K xs H Q) := by
  intro G H xs ds rv Q s h e k
  unfold dSorted at e
  split at e
  · rename_i d
    obtain ⟨v, rfl, hv⟩ := reps2_1 h
    cases q : listOf d with
    | none => rw [q] at e; cases e
    | some es =>
      rw [q] at e
      obtain ⟨a, vs, rfl, hs, r⟩ := listOf_ok2 hv q
      have e : (match intsOf es with
        | some ns => some (RV.fr (.lst ((sortB leI ns).map .int)))
        | none => (pairsOf es).map fun ps => .fr (.lst ((sortB leP ps).map pairD))) = some rv := e
      cases qi : intsOf es with
      | some ns =>
        rw [qi] at e; cases e
        rw [ints_reps qi r] at hs
        refine .inl ⟨a, ns, rfl, hs, fun ns' p hp hord hl => ?_⟩
        have : ns' = sortB leI ns := sortB_uniq (fun a b => by unfold leI; simp only [decide_eq_true_eq]; omega) (fun a b c => by unfold leI; simp only [decide_eq_true_eq]; omega) (fun a b => by unfold leI; simp only [decide_eq_true_eq]; omega) hp (hord.imp fun {a b} h => by unfold leI; exact decide_eq_true h)
        rw [this]
        exact new_list s (Reps.ints _) hl k
      | none =>
        rw [qi] at e
        obtain ⟨ps, ep, rfl⟩ := Option.map_eq_some_iff.mp e
        obtain ⟨h1, h2⟩ := pairs_reps s ep r
        refine .inr ⟨a, vs, keyP H, rfl, hs, fun x hx => ?_, fun ys p hord hst hl => ?_⟩
        · obtain ⟨t, e1, e2⟩ := h2 x hx
          exact ⟨t, e1, s _ _ e2⟩
        · have hy : ∀ x ∈ ys, ∃ t, x = V.ref t ∧ G t = some (.tup [.int (keyP H x).1, .int (keyP H x).2]) := fun x hx => h2 x (hst.perm.mem_iff.mp hx)
          have : ys.map (keyP H) = sortB leP ps := by
            rw [← h1]
            refine sortB_uniq (fun a b => ?_) (fun a b c h1 h2 => ?_) (fun a b h1 h2 => ?_) (hst.perm.map _) (List.pairwise_map.mpr (hord.imp fun {a b} h => ?_))
            · rw [leP_iff, leP_iff]; omega
            · rw [leP_iff] at h1 h2 ⊢; omega
            · rw [leP_iff] at h1 h2
              exact Prod.ext (by omega) (by omega)
            · show (!SrtO.lexB (keyP H b) (keyP H a)) = true
              have h : SrtO.lexB (keyP H b) (keyP H a) = false := h
              rw [h]; rfl
          have rr := reps_pairs (K := K) hy
          rw [this] at rr
          exact new_list s rr hl k
  · cases e
/-- the least of a list or a tuple -/
theorem fold_min : ∀ (ns : List Int) (n : Int), (ns.foldl (fun a y => if y < a then y else a) n) ∈ n :: ns ∧ ∀ y ∈ n :: ns, ns.foldl (fun a y => if y < a then y else a) n ≤ y
  | [], n => ⟨List.mem_cons_self, fun y hy => by rw [List.mem_singleton.mp hy]; exact Int.le_refl _⟩
  | m :: ns, n => by
    obtain ⟨h1, h2⟩ := fold_min ns (if m < n then m else n)
    rw [List.foldl_cons]
    refine ⟨?_, fun y hy => ?_⟩
    · rcases List.mem_cons.mp h1 with e | e
      · rw [e]; split
        · exact List.mem_cons_of_mem _ List.mem_cons_self
        · exact List.mem_cons_self
      · exact List.mem_cons_of_mem _ (List.mem_cons_of_mem _ e)
    · have h0 := h2 _ List.mem_cons_self
      generalize List.foldl _ _ ns = z at h0 h2 ⊢
      rcases List.mem_cons.mp hy with e | hy
      · rw [e]; split at h0 <;> omega
      · rcases List.mem_cons.mp hy with e | hy
        · rw [e]; split at h0 <;> omega
        · exact h2 y (List.mem_cons_of_mem _ hy)
theorem fold_max : ∀ (ns : List Int) (n : Int), (ns.foldl (fun a y => if a < y then y else a) n) ∈ n :: ns ∧ ∀ y ∈ n :: ns, y ≤ ns.foldl (fun a y => if a < y then y else a) n
  | [], n => ⟨List.mem_cons_self, fun y hy => by rw [List.mem_singleton.mp hy]; exact Int.le_refl _⟩
  | m :: ns, n => by
    obtain ⟨h1, h2⟩ := fold_max ns (if n < m then m else n)
    rw [List.foldl_cons]
    refine ⟨?_, fun y hy => ?_⟩
    · rcases List.mem_cons.mp h1 with e | e
      · rw [e]; split
        · exact List.mem_cons_of_mem _ List.mem_cons_self
        · exact List.mem_cons_self
      · exact List.mem_cons_of_mem _ (List.mem_cons_of_mem _ e)
    · have h0 := h2 _ List.mem_cons_self
      generalize List.foldl _ _ ns = z at h0 h2 ⊢
      rcases List.mem_cons.mp hy with e | hy
      · rw [e]; split at h0 <;> omega
      · rcases List.mem_cons.mp hy with e | hy
        · rw [e]; split at h0 <;> omega
        · exact h2 y (List.mem_cons_of_mem _ hy)
def rMinT (K : PySem.W.Frag) : List V → Hp → VK → Prop := fun vs H Q => ∃ (a : Addr) (n : Int) (ns : List Int), vs = [V.ref a] ∧ SqT K H a ((n :: ns).map V.int) ∧ Q (.int (ns.foldl (fun a y => if y < a then y else a) n)) H
theorem min_of_fold : ∀ (ns : List Int) (n : Int), PySem.W.minOf n ns = ns.foldl (fun a y => if y < a then y else a) n
  | [], n => rfl
  | m :: ns, n => by
    show PySem.W.minOf (if PySem.W.DatumOrd.lt m n = true then m else n) ns = _
    rw [min_of_fold ns]
    show List.foldl _ (if decide (m < n) = true then m else n) ns = List.foldl _ (if m < n then m else n) ns
    simp only [decide_eq_true_eq]
theorem cr_minT {X : Cx} (hc : X.calm = true) (hu : X.A.units + 64 < PySem.cLine) : CallR X (.builtin "min") (rMinT X.K) := by
  intro pins s σ H vs us Q I r h
  obtain ⟨a, n, ns, rfl, hs, q⟩ := h
  obtain ⟨its, rv, hl, _⟩ := I.tuple hs
  rw [Vals.ref1 r]
  refine PySem.W.min_tuple_datum (α := Int) (x := n) (xs := ns) (I.ok.hd hc) hl (PySem.W.HoldAll.of_ints rv.ints) ?_ fun i v h' tk _ hv hk => ?_
  · show X.A.units + 1 + 0 < _
    omega
  · rw [min_of_fold] at hv
    have : ∃ t, v = .int (ns.foldl (fun a y => if y < a then y else a) n) t := by
      obtain ⟨as, ra⟩ := hv
      cases ra
      exact ⟨_, rfl⟩
    obtain ⟨t, rfl⟩ := this
    exact ⟨.int _, H, I.kept hk, ⟨_, rfl⟩, q⟩
theorem cr_or {X : Cx} {f : Value} {r r' : List V → Hp → VK → Prop} (a : CallR X f r) (b : CallR X f r') : CallR X f (fun xs H Q => r xs H Q ∨ r' xs H Q) := fun pins s σ H vs us Q I rv h => h.elim (a pins s σ H vs us Q I rv) (b pins s σ H vs us Q I rv)
theorem s_min : CallS K dMin (fun xs H Q => rMin K xs H Q ∨ rMinT K xs H Q) := by
  intro G H xs ds rv Q s h e k
  unfold dMin at e
  split at e
  · rename_i d
    obtain ⟨v, rfl, hv⟩ := reps2_1 h
    cases q : itemsOf d with
    | none => rw [q] at e; cases e
    | some es =>
      rw [q] at e
      have e : ((intsOf es).bind fun ns => match ns with
        | n :: ns => pI (ns.foldl (fun a y => if y < a then y else a) n)
        | [] => none) = some rv := e
      obtain ⟨a, vs, rfl, hs, r⟩ := itemsOf_ok2 s hv q
      cases qi : intsOf es with
      | none => rw [qi] at e; cases e
      | some ns =>
        rw [qi] at e
        cases ns with
        | nil => cases e
        | cons n ns =>
          cases e
          rw [ints_reps qi r] at hs
          rcases hs with hs | hs
          · refine .inl ⟨a, n :: ns, rfl, hs, by simp, fun m hm hl => ?_⟩
            obtain ⟨f1, f2⟩ := fold_min ns n
            have : m = ns.foldl (fun a y => if y < a then y else a) n := Int.le_antisymm (hl _ f1) (f2 m hm)
            rw [this]
            exact end_int s k
          · exact .inr ⟨a, n, ns, rfl, hs, end_int s k⟩
  · cases e
theorem s_max : CallS K dMax (rMax K) := by
  intro G H xs ds rv Q s h e k
  unfold dMax at e
  split at e
  · rename_i d
    obtain ⟨v, rfl, hv⟩ := reps2_1 h
    cases q : listOf d with
    | none => rw [q] at e; cases e
    | some es =>
      rw [q] at e
      have e : ((intsOf es).bind fun ns => match ns with
        | n :: ns => pI (ns.foldl (fun a y => if a < y then y else a) n)
        | [] => none) = some rv := e
      obtain ⟨a, vs, rfl, hs, r⟩ := listOf_ok2 hv q
      cases qi : intsOf es with
      | none => rw [qi] at e; cases e
      | some ns =>
        rw [qi] at e
        cases ns with
        | nil => cases e
        | cons n ns =>
          cases e
          rw [ints_reps qi r] at hs
          refine ⟨a, n :: ns, rfl, hs, by simp, fun m hm hl => ?_⟩
          obtain ⟨f1, f2⟩ := fold_max ns n
          have : m = ns.foldl (fun a y => if a < y then y else a) n := Int.le_antisymm (f2 m hm) (hl _ f1)
          rw [this]
          exact end_int s k
  · cases e
end
end L2.MX
end
section
set_option Elab.async false
set_option linter.all false
set_option maxRecDepth 100000
/-! MxI: dict displays; defs as facts. -/
namespace L2.MX
open PySem PySem.Spec PyProof.Rows

abbrev MP := Env → ER (List (Key × D))
def PostP (K : PySem.W.Frag) (G H : Hp) (σ : St) (ρ : Env) (W : WX) (Q : List (V × V) → Hp → Prop) : ER (List (Key × D)) → Prop
  | .bad => False
  | .ok ps ρ1 => ∀ vs G1 H1, Go (Own σ ρ) G H G1 H1 → Rel K G1 H1 σ ρ1 → Sub ρ ρ1 → Reps K G1 (ps.map (·.2)) vs → Q (((ps.map (·.1)).map kV).zip vs) H1
  | .ex x ρ1 => ∀ cls d G1 H1, Go (Own σ ρ) G H G1 H1 → Rel K G1 H1 σ ρ1 → Sub ρ ρ1 → XRep K G1 H1 x cls d → W cls d σ H1
def tMP (K : PySem.W.Frag) (W : WX) (m : MP) : St → Hp → (List (V × V) → Hp → Prop) → Prop := fun σ H Q => ∃ G ρ, Rel K G H σ ρ ∧ PostP K G H σ ρ W Q (m ρ)
theorem PostP.after {K : PySem.W.Frag} {G H G1 H1 : Hp} {σ : St} {ρ ρ1 : Env} {W : WX} {Q : List (V × V) → Hp → Prop} (g : Go (Own σ ρ) G H G1 H1) (s : Sub ρ ρ1) {e : ER (List (Key × D))} (h : PostP K G H σ ρ W Q e) : PostP K G1 H1 σ ρ1 W Q e := by
  have go2 : ∀ {G2 H2}, Go (Own σ ρ1) G1 H1 G2 H2 → Go (Own σ ρ) G H G2 H2 := fun g2 => g.trans g2 fun x z => .inl (s.own z)
  cases e with
  | bad => exact h
  | ok r ρ2 => exact fun v G2 H2 g2 r2 s2 => h v G2 H2 (go2 g2) r2 (s.trans s2)
  | ex x ρ2 => exact fun cls d G2 H2 g2 r2 s2 q => h cls d G2 H2 (go2 g2) r2 (s.trans s2) q
theorem tM_thenP' {K : PySem.W.Frag} {G H : Hp} {σ : St} {ρ : Env} {W : WX} {Q : List (V × V) → Hp → Prop} {m : M} {k : RV → Env → ER (List (Key × D))} {R : V → Hp → Prop} (r0 : Rel K G H σ ρ) (h : PostP K G H σ ρ W Q (bindM (m ρ) k))
    (hk : ∀ G1 H1 ρ1 rv v, Ex G G1 → Rel K G1 H1 σ ρ1 → Rep K G1 rv.d v → PostP K G1 H1 σ ρ1 W Q (k rv ρ1) → R v H1) : tM K W m σ H R := by
  refine ⟨G, ρ, r0, ?_⟩
  cases e : m ρ with
  | bad => rw [e] at h; exact h
  | ex x ρ1 => rw [e] at h; exact h
  | ok rv ρ1 =>
    rw [e] at h
    intro v G1 H1 g r s q
    obtain ⟨G2, g2, r2, _, rep⟩ := publish r0 g r s q
    exact hk G2 H1 ρ1 rv v g2.ext r2 rep (PostP.after g2 s h)
def mP0 : MP := fun ρ => .ok [] ρ
def mPc (mk mv : M) (r : MP) : MP := fun ρ => bindM (mk ρ) fun k ρ1 => bindM (mv ρ1) fun v ρ2 => bindM (r ρ2) fun ps ρ3 => match keyOf k.d with
  | some k => .ok ((k, v.d) :: ps) ρ3
  | none => .bad
def MPs (X : Cx) (W : WX) (pos : Pos) (keys : List (Option Expr)) (values : List Expr) (m : MP) : Prop := ∃ trs, PPs X pos keys values trs ∧ ∀ σ H Q, tMP X.K W m σ H Q → tPairs trs σ H Q
def mDict (m : MP) : M := fun ρ => bindM (m ρ) fun ps ρ1 => if (ps.map (·.1)).Nodup ∧ ps.length ≤ 15 then .ok (.fr (.dic (ps.map (·.1)) (ps.map (·.2)))) ρ1 else .bad
section
variable {X : Cx} {W : WX} {pos : Pos}
theorem mps_nil : MPs X W pos [] [] mP0 := ⟨[], pps_nil, fun σ H Q ⟨G, ρ, r, h⟩ => h [] G H Go.refl r (Sub.refl ρ) rfl⟩
theorem mps_cons {k v : Expr} {ks : List (Option Expr)} {vs : List Expr} {mk mv : M} {mr : MP} (hk : ME X W k mk) (hv : ME X W v mv) (hr : MPs X W pos ks vs mr) : MPs X W pos (some k :: ks) (v :: vs) (mPc mk mv mr) := by
  obtain ⟨trs, h1, h2⟩ := hr
  refine ⟨_, pps_cons hk hv h1, fun σ H Q ⟨G, ρ, r0, h⟩ => ?_⟩
  refine tM_thenP' (Q := Q) r0 h fun G1 H1 ρ1 kv x e1 r1 q1 h => ?_
  refine tM_thenP' (Q := Q) r1 h fun G2 H2 ρ2 vv y e2 r2 q2 h => ?_
  refine h2 _ _ _ ⟨G2, ρ2, r2, ?_⟩
  cases e : mr ρ2 with
  | bad => rw [e] at h; exact h
  | ex x ρ3 => rw [e] at h; exact h
  | ok ps ρ3 =>
    rw [e] at h
    intro vs G3 H3 g3 r3 s3 q3
    have h : PostP X.K G2 H2 σ ρ2 W Q (match keyOf kv.d with
      | some k => .ok ((k, vv.d) :: ps) ρ3
      | none => .bad) := h
    cases ek : keyOf kv.d with
    | none => rw [ek] at h; exact h.elim
    | some k =>
      rw [ek] at h
      have hx := key_ok ek q1
      rw [hx]
      exact h (y :: vs) G3 H3 g3 r3 s3 ⟨y, vs, rfl, Rep.mono g3.ext _ q2, q3⟩
theorem zip_kV : ∀ (ks : List Key) (vs : List V), (ks.map kV).zip vs = (ks.zip vs).map fun kv => (kV kv.1, kv.2)
  | [], _ => rfl
  | _ :: _, [] => rfl
  | k :: ks, v :: vs => by
    show (kV k, v) :: (ks.map kV).zip vs = _
    rw [zip_kV ks vs]
    rfl
theorem merge_nodup : ∀ (more acc : List (Key × V)), (acc ++ more).map (·.1) |>.Nodup → mergeK acc more = acc ++ more
  | [], acc, _ => by simp [mergeK]
  | p :: more, acc, h => by
    have np : ¬ (acc.any fun kv => decide (kv.1 = p.1)) = true := fun z => by
      obtain ⟨q, hq, e⟩ := List.any_eq_true.mp z
      rw [List.map_append, List.nodup_append] at h
      exact h.2.2 q.1 (List.mem_map.mpr ⟨q, hq, rfl⟩) p.1 (by simp) (of_decide_eq_true e)
    have e : putK acc p.1 p.2 = acc ++ [p] := by
      unfold putK
      rw [if_neg np]
    show mergeK (putK acc p.1 p.2) more = _
    rw [e, merge_nodup more (acc ++ [p]) (by rw [List.append_assoc]; exact h), List.append_assoc]
    rfl
theorem me_dict {keys : List (Option Expr)} {values : List Expr} {m : MP} (h : MPs X W pos keys values m) (hall : keys.all (·.isSome) = true := by rfl) (hl : keys.length = values.length := by rfl) (h0 : keys ≠ [] := by exact fun z => nomatch z) (h15 : keys.length ≤ 15 := by decide) : ME X W (.Dict keys values pos) (mDict m) := by
  obtain ⟨trs, h1, h2⟩ := h
  refine (pe_disp h1 hall hl h0 h15).imp fun σ H Q ⟨G, ρ, r0, h⟩ => fun p hp => ?_
  have gp : G p = none := by
    cases q : G p with
    | none => rfl
    | some u => rw [r0.sub p u q] at hp; cases hp
  have nown : ¬ Own σ ρ p := fun z => by
    obtain ⟨u, e⟩ := r0.alive z
    rw [hp] at e; cases e
  have r1 : Rel X.K G (upd H p (.dK [])) σ ρ := r0.updL gp nown
  refine h2 _ _ _ ⟨G, ρ, r1, ?_⟩
  have h : PostE X.K G H σ ρ W Q (bindM (m ρ) fun ps ρ1 => if (ps.map (·.1)).Nodup ∧ ps.length ≤ 15 then .ok (.fr (.dic (ps.map (·.1)) (ps.map (·.2)))) ρ1 else .bad) := h
  have g0 : Go (Own σ ρ) G H G (upd H p (.dK [])) := Go.updL (.inr hp)
  cases e : m ρ with
  | bad => rw [e] at h; exact h
  | ex x ρ1 =>
    rw [e] at h
    exact fun cls d G1 H1 g r s q => h cls d G1 H1 (g0.trans g fun _ z => .inl z) r s q
  | ok ps ρ1 =>
    rw [e] at h
    intro vs G1 H1 g r s q
    have h : PostE X.K G H σ ρ W Q (if (ps.map (·.1)).Nodup ∧ ps.length ≤ 15 then .ok (.fr (.dic (ps.map (·.1)) (ps.map (·.2)))) ρ1 else .bad) := h
    split at h
    · rename_i hn
      have h1p : H1 p = some (.dK []) := g.keep p _ upd_same nown
      have g1p : G1 p = none := by
        cases q : G1 p with
        | none => rfl
        | some u =>
          rcases g.new p u q with z | z | z
          · rw [gp] at z; cases z
          · rw [upd_same] at z; cases z
          · exact (nown z).elim
      have nown1 : ¬ Own σ ρ1 p := fun z => nown (s.own z)
      have hlen : (ps.map (·.1)).length = vs.length := by rw [← q.length]; simp
      refine ⟨h1p, (ps.map (·.1)).zip vs, ?_, by rw [List.length_zip, hlen, Nat.min_self, ← hlen]; simpa using hn.2, ?_⟩
      · exact zip_kV _ _
      · have em : mergeK [] ((ps.map (·.1)).zip vs) = (ps.map (·.1)).zip vs := merge_nodup _ [] (by
          show (((ps.map (·.1)).zip vs).map (·.1)).Nodup
          rw [List.map_fst_zip (by omega)]
          exact hn.1)
        rw [em]
        refine h (.ref p) G1 _ ((g0.trans g fun _ z => .inl z).trans (Go.updL (I := fun x => x = p) (.inl rfl)) fun x z => .inr (by rw [z]; exact hp)) (r.updL g1p nown1) s ⟨p, rfl, hp, g1p, vs, upd_same, hlen, q⟩
    · exact h.elim
end
end L2.MX
end
section
set_option Elab.async false
set_option linter.all false
set_option maxRecDepth 100000
/-! MxR: a def as a fact; what the generator leans on. -/
namespace L2.MX
open PySem PySem.Spec PyProof.Rows

/-- the function object that stands at f -/
def Lk (K : PySem.W.Frag) (f : Addr) (fd : FuncData) : Prop := ∃ oc od osl, K.lookup f = some ⟨oc, od, .func fd, osl⟩
theorem Lk.eq {K : PySem.W.Frag} {f : Addr} {fd fd' : FuncData} (h : Lk K f fd) (h' : Lk K f fd') : fd = fd' := by
  obtain ⟨_, _, _, e⟩ := h
  obtain ⟨_, _, _, e'⟩ := h'
  rw [e] at e'
  cases e'; rfl
theorem lk_of {K : PySem.W.Frag} {x qual : Str} {params : Arguments} {body : List Stmt} {scope : Scope} {dvs : List V} {kws : List (Str × V)} {f : Addr} {fd : FuncData} (F : FunD K x qual params body scope dvs kws f fd) : Lk K f fd := by
  obtain ⟨oc, od, dV, kV, doc, pm, an, cdv, ct, osl, rfl, lk, _⟩ := F.ex
  exact ⟨oc, od, osl, lk⟩
structure Fn (P : Program) (w : World) (K : PySem.W.Frag) (mg : Str → Option Value) (base : Heap) (k : Nat) (x : Str) (ps : List Str) (dfl : List D) (fm : MF) : Prop where
  ex : ∃ fd, FnOk P w K mg base (L2.CX P w) k (He.ga K x) fd ps (spM K fm) ∧ Lk K (He.ga K x) fd ∧ ∀ j, j ≤ dfl.length → ∃ ds, Vals ((dfl.drop j).map scV) ds ∧ Binds K fd ps ds
  gm : mg x = some (.ref (He.ga K x))
  kp : PySem.W.keepIn K (.ref (He.ga K x)) = true
section
variable {X : Cx} {W : WX} {e : Expr} {es : List Expr} {ma : MA} {fm : MF} {dfl : List D} {x : Str} {p pos : Pos} {k n : Nat} {ps : List Str}
theorem me_fnP (F : Fn X.prog X.w X.K X.mg X.base k x ps dfl fm) (j : Nat) (hr : Room n X.A) (tk : Takes X W) (ha : MAr X W (e :: es) ma) (hk : k ≤ n := by decide) (hj : j ≤ dfl.length := by decide) (hg : Gl X x := by rfl) (hsc : (dfl.drop j).all scal = true := by rfl)
    (hdb : (x == ("__debug__" : Str)) = false := by decide) (he : starEach (e :: es) X.env = (false, eval e X.env) :: starEach es X.env := by rfl) (hpl : (backTo pos (starEach es X.env)).any (·.1) = false := by rfl) :
    ME X W (.Call (.Name x p) (e :: es) [] pos) (mCallP (dfl.drop j) fm ma) := by
  obtain ⟨fd, F1, _, hb⟩ := F.ex
  obtain ⟨ds, v, b⟩ := hb j hj
  exact me_callP F1 (hr.mono hk) hg F.gm F.kp b v tk ha hsc hdb he hpl
theorem me_fnQ (F : Fn X.prog X.w X.K X.mg X.base k x ps dfl fm) (j : Nat) (hr : Room n X.A) (tk : Takes X W) (ha : MAr X W (e :: es) ma) (hk : k ≤ n := by decide) (hj : j ≤ dfl.length := by decide) (hg : Gl X x := by rfl) (hsc : (dfl.drop j).all scal = true := by rfl)
    (hdb : (x == ("__debug__" : Str)) = false := by decide) (he : starEach (e :: es) X.env = (false, eval e X.env) :: starEach es X.env := by rfl) (hpl : (backTo pos (starEach es X.env)).any (·.1) = false := by rfl) :
    ME X W (.Call (.Name x p) (e :: es) [] pos) (mCallQ (dfl.drop j) fm ma) := by
  obtain ⟨fd, F1, _, hb⟩ := F.ex
  obtain ⟨ds, v, b⟩ := hb j hj
  exact me_callQ F1 (hr.mono hk) hg F.gm F.kp b v tk ha hsc hdb he hpl
end
theorem b_len : bootBuiltins "len" = some (.builtin "len") := by decide +kernel
theorem b_abs : bootBuiltins "abs" = some (.builtin "abs") := by decide +kernel
theorem b_sum : bootBuiltins "sum" = some (.builtin "sum") := by decide +kernel
theorem b_all : bootBuiltins "all" = some (.builtin "all") := by decide +kernel
theorem b_any : bootBuiltins "any" = some (.builtin "any") := by decide +kernel
theorem b_min : bootBuiltins "min" = some (.builtin "min") := by decide +kernel
theorem b_max : bootBuiltins "max" = some (.builtin "max") := by decide +kernel
theorem b_sorted : bootBuiltins "sorted" = some (.builtin "sorted") := by decide +kernel
theorem b_int : bootBuiltins "int" = some (.type "int") := by decide +kernel
theorem b_bool : bootBuiltins "bool" = some (.type "bool") := by decide +kernel
theorem b_str : bootBuiltins "str" = some (.type "str") := by decide +kernel
theorem b_list : bootBuiltins "list" = some (.type "list") := by decide +kernel
theorem b_tuple : bootBuiltins "tuple" = some (.type "tuple") := by decide +kernel
theorem b_dict : bootBuiltins "dict" = some (.type "dict") := by decide +kernel
theorem u64 {k : Nat} {A : Around} (r : Room k A) : A.units + 64 < cLine := by have := r.un; omega
theorem u1 {k : Nat} {A : Around} (r : Room k A) : A.units + 1 < cLine := by have := r.un; omega
section
variable {X : Cx} {W : WX} {e : Expr} {es : List Expr} {ma : MA} {p pos : Pos} {n : Nat}
theorem me_len (hm : X.mg "len" = none) (ha : MAr X W (e :: es) ma) (hg : Gl X "len" := by rfl) (he : starEach (e :: es) X.env = (false, eval e X.env) :: starEach es X.env := by rfl) (hpl : (backTo pos (starEach es X.env)).any (·.1) = false := by rfl) : ME X W (.Call (.Name "len" p) (e :: es) [] pos) (mCall dLen ma) := me_callB call_len s_len hg hm b_len ha (by decide) (by decide) he hpl
theorem me_abs (hm : X.mg "abs" = none) (ha : MAr X W (e :: es) ma) (hg : Gl X "abs" := by rfl) (he : starEach (e :: es) X.env = (false, eval e X.env) :: starEach es X.env := by rfl) (hpl : (backTo pos (starEach es X.env)).any (·.1) = false := by rfl) : ME X W (.Call (.Name "abs" p) (e :: es) [] pos) (mCall dAbs ma) := me_callB call_abs s_abs hg hm b_abs ha (by decide) (by decide) he hpl
theorem me_sum (hc : X.calm = true) (hm : X.mg "sum" = none) (ha : MAr X W (e :: es) ma) (hg : Gl X "sum" := by rfl) (he : starEach (e :: es) X.env = (false, eval e X.env) :: starEach es X.env := by rfl) (hpl : (backTo pos (starEach es X.env)).any (·.1) = false := by rfl) : ME X W (.Call (.Name "sum" p) (e :: es) [] pos) (mCall dSum ma) := me_callB (cr_sum hc) s_sum hg hm b_sum ha (by decide) (by decide) he hpl
theorem me_all (hc : X.calm = true) (hm : X.mg "all" = none) (ha : MAr X W (e :: es) ma) (hg : Gl X "all" := by rfl) (he : starEach (e :: es) X.env = (false, eval e X.env) :: starEach es X.env := by rfl) (hpl : (backTo pos (starEach es X.env)).any (·.1) = false := by rfl) : ME X W (.Call (.Name "all" p) (e :: es) [] pos) (mCall dAll ma) := me_callB (cr_all hc) s_all hg hm b_all ha (by decide) (by decide) he hpl
theorem me_any (hc : X.calm = true) (hm : X.mg "any" = none) (ha : MAr X W (e :: es) ma) (hg : Gl X "any" := by rfl) (he : starEach (e :: es) X.env = (false, eval e X.env) :: starEach es X.env := by rfl) (hpl : (backTo pos (starEach es X.env)).any (·.1) = false := by rfl) : ME X W (.Call (.Name "any" p) (e :: es) [] pos) (mCall dAny ma) := me_callB (cr_any hc) s_any hg hm b_any ha (by decide) (by decide) he hpl
theorem me_sorted (hm : X.mg "sorted" = none) (ha : MAr X W (e :: es) ma) (hg : Gl X "sorted" := by rfl) (he : starEach (e :: es) X.env = (false, eval e X.env) :: starEach es X.env := by rfl) (hpl : (backTo pos (starEach es X.env)).any (·.1) = false := by rfl) : ME X W (.Call (.Name "sorted" p) (e :: es) [] pos) (mCall dSorted ma) := me_callB (cr_or cr_sortedI cr_sortedPO) s_sorted hg hm b_sorted ha (by decide) (by decide) he hpl
theorem me_min (hc : X.calm = true) (hr : Room n X.A) (hm : X.mg "min" = none) (ha : MAr X W (e :: es) ma) (hg : Gl X "min" := by rfl) (he : starEach (e :: es) X.env = (false, eval e X.env) :: starEach es X.env := by rfl) (hpl : (backTo pos (starEach es X.env)).any (·.1) = false := by rfl) : ME X W (.Call (.Name "min" p) (e :: es) [] pos) (mCall dMin ma) := me_callB (cr_or (cr_min hc) (cr_minT hc (u64 hr))) s_min hg hm b_min ha (by decide) (by decide) he hpl
theorem me_max (hc : X.calm = true) (hm : X.mg "max" = none) (ha : MAr X W (e :: es) ma) (hg : Gl X "max" := by rfl) (he : starEach (e :: es) X.env = (false, eval e X.env) :: starEach es X.env := by rfl) (hpl : (backTo pos (starEach es X.env)).any (·.1) = false := by rfl) : ME X W (.Call (.Name "max" p) (e :: es) [] pos) (mCall dMax ma) := me_callB (cr_max hc) s_max hg hm b_max ha (by decide) (by decide) he hpl
theorem me_toInt (hm : X.mg "int" = none) (ha : MAr X W (e :: es) ma) (hg : Gl X "int" := by rfl) (he : starEach (e :: es) X.env = (false, eval e X.env) :: starEach es X.env := by rfl) (hpl : (backTo pos (starEach es X.env)).any (·.1) = false := by rfl) : ME X W (.Call (.Name "int" p) (e :: es) [] pos) (mCall dInt ma) := me_callTy call_int1 s_int hg hm b_int ha (by decide) (by decide) he hpl
theorem me_toList (hm : X.mg "list" = none) (ha : MAr X W (e :: es) ma) (hg : Gl X "list" := by rfl) (he : starEach (e :: es) X.env = (false, eval e X.env) :: starEach es X.env := by rfl) (hpl : (backTo pos (starEach es X.env)).any (·.1) = false := by rfl) : ME X W (.Call (.Name "list" p) (e :: es) [] pos) (mCall dList ma) := me_callTy call_list_of s_list hg hm b_list ha (by decide) (by decide) he hpl
theorem me_toTuple (hm : X.mg "tuple" = none) (ha : MAr X W (e :: es) ma) (hg : Gl X "tuple" := by rfl) (he : starEach (e :: es) X.env = (false, eval e X.env) :: starEach es X.env := by rfl) (hpl : (backTo pos (starEach es X.env)).any (·.1) = false := by rfl) : ME X W (.Call (.Name "tuple" p) (e :: es) [] pos) (mCall dTuple ma) := me_callTy call_tuple_of s_tuple hg hm b_tuple ha (by decide) (by decide) he hpl
end
/-- name += e, x[i] += e: ints, texts -/
def dIAdd : Fn2
  | .int i, .int j => pI (i + j)
  | .str a, .str b => if a.length + b.length ≤ lineN then some (.pl (.str (a ++ b))) else none
  | _, _ => none
abbrev rIAdd : R2 := fun x y H Q => rI0 (fun i j => .int (i + j)) x y H Q ∨ (∃ i j, x = .str i ∧ y = .str j ∧ i.length + j.length ≤ sizeLine ∧ Q (.str (i ++ j)) H)
theorem iop_iadd {X : Cx} : OpR X (inplaceOp .Add) rIAdd := iop_add.or iop_add_str
theorem s_iadd {K : PySem.W.Frag} : OpS K dIAdd rIAdd := by
  intro G H x y d1 d2 rv Q s h1 h2 e k
  unfold dIAdd at e
  split at e
  · cases e
    exact .inl ⟨_, _, h1, h2, end_int s k⟩
  · split at e
    · rename_i hl
      cases e
      exact .inr ⟨_, _, h1, h2, by rw [line_eq]; exact hl, end_str s k⟩
    · cases e
  · cases e
def dIMul : Fn2
  | .int i, .int j => if smallI i || smallI j then pI (i * j) else none
  | _, _ => none
end L2.MX
end
section
set_option Elab.async false
set_option linter.all false
set_option maxRecDepth 100000
/-! MxE: the end of a law. -/
namespace L2.MX
open PySem PySem.Spec PyProof.Rows
/-- what a call may let out, in whichever world -/
def CXany (P : Program) : CXT := fun outer H s E e s' => ∃ w, L2.CX P w outer H s E e s'
theorem CXany_no {P : Program} : ∀ (H : Hp) (s : Shared) (e : Value) (s' : Shared), CXany P [] H s (fun _ _ _ => False) e s' → False := fun _ _ _ _ ⟨_, _, _, _, _, _, _, _, _, _, _, _, _, z⟩ => z
theorem fnok_any {P : Program} {w : World} {K : PySem.W.Frag} {mg : Str → Option Value} {base : Heap} {k : Nat} {f : Addr} {fd : FuncData} {ps : List Str} {sp : Sp} (F : FnOk P w K mg base (L2.CX P w) k f fd ps sp) : FnOk P w K mg base (CXany P) k f fd ps sp :=
  ⟨F.len, fun A outer s H args us vs Q E hr he hb hv hs => codeAny_mono (F.run A outer s H args us vs Q E hr he hb hv hs) fun r s' h => by
    cases r with
    | error e => exact ⟨w, h⟩
    | ok fl =>
      cases fl with
      | ret u => exact h
      | next => exact h
      | brk => exact h
      | cont => exact h⟩
theorem law_sp {K : PySem.W.Frag} {fm : MF} (ht : ∀ ns : List Int, ns.length ≤ 63 → ∃ outs, fm [.pl (.flst (ns.map .int))] = .rt (.pl (.bl true)) outs) :
    ∀ (H : Hp) (a : Addr) (ns : List Int), ns.length ≤ 63 → Only H → SqL K H a (ns.map V.int) → spM K fm [.ref a] H (fun v _ => v = .bl true) fun _ _ _ => False := fun H a ns hl _ hs => by
  obtain ⟨outs, e⟩ := ht ns hl
  have rr : Reps K H [.flst (ns.map .int)] [V.ref a] := Reps.one ⟨a, ns.map V.int, rfl, hs, Reps.ints ns⟩
  refine ⟨H, [.pl (.flst (ns.map .int))], plain_rel (Ex.refl H) rr, ?_⟩
  rw [e]
  intro v G1 H1 _ _ _ q
  exact q
theorem law_at {P : Program} {w : World} {K : PySem.W.Frag} {mg : Str → Option Value} {h : Heap} {k : Nat} {fm : MF} {fa : Addr} {dfl : List D} {params : Arguments} {body : List Stmt} {scope : Scope} (KX : K.In h) (hmg : mg ("law" : Str) = some (.ref fa))
    (F : ∀ base, Fn P w K mg base k "law" ["script"] dfl fm) (hd : ∃ fd, FunD K "law" "law" params body scope (dfl.map scV) [] (He.ga K "law") fd)
    (hb : ∀ {fd}, FunD K "law" "law" params body scope (dfl.map scV) [] (He.ga K "law") fd → ∀ (s : Shared) (us : List Value), us.length = 1 → BindsTo s fd ⟨us, []⟩ (([("script" : Str)] : List Str).zip us))
    (ht : ∀ ns : List Int, ns.length ≤ 63 → ∃ outs, fm [.pl (.flst (ns.map .int))] = .rt (.pl (.bl true)) outs) :
    ∃ (K : PySem.W.Frag) (fd : FuncData) (sp : Sp), K.In h ∧ (∀ (s : Shared) (u : Value), BindsTo s fd ⟨[u], []⟩ [("script", u)]) ∧
        (∀ (H : Hp) (a : Addr) (ns : List Int), ns.length ≤ 63 → Only H → SqL K H a (ns.map V.int) → sp [.ref a] H (fun v _ => v = .bl true) fun _ _ _ => False) ∧
        ∀ base : Heap, K.In base → base.Ns mainGlobals mg → FnOk P w K mg base (CXany P) k fa fd ["script"] sp := by
  obtain ⟨fd, FD⟩ := hd
  have ga : He.ga K "law" = fa := by
    have := (F h).gm
    rw [hmg] at this
    cases this; rfl
  refine ⟨K, fd, spM K fm, KX, fun s u => hb FD s [u] rfl, law_sp ht, fun base _ _ => ?_⟩
  obtain ⟨fd', F1, L, _⟩ := (F base).ex
  have : fd' = fd := L.eq (lk_of FD)
  rw [← this, ← ga]
  exact fnok_any F1
end L2.MX
end
section
set_option Elab.async false
set_option linter.all false
set_option maxRecDepth 100000
/-! MxT: what mirrors compute: loops by states, comprehensions, lists of ints by a function. -/
namespace L2.MX
open PySem PySem.Spec PyProof.Rows

/-! ### loops -/
/-- one turn -/
def Turn (g : G1) (b : MS) (d : D) (ρ ρ' : Env) : Prop := ∃ ρ1, g d ρ = some ρ1 ∧ (b ρ1 = .nx ρ' ∨ b ρ1 = .ct ρ')
theorem loopF_cons {g : G1} {b : MS} {d : D} {ds : List D} {ρ ρ' : Env} (h : Turn g b d ρ ρ') : loopF g b (d :: ds) ρ = loopF g b ds ρ' := by
  obtain ⟨ρ1, e1, e2⟩ := h
  show (match g d ρ with
    | none => SR.bad
    | some ρ1 => (match b ρ1 with
      | .nx ρ2 => loopF g b ds ρ2
      | .ct ρ2 => loopF g b ds ρ2
      | .br ρ2 => .nx ρ2
      | r => r)) = _
  rw [e1]
  rcases e2 with e2 | e2
  · show (match b ρ1 with
      | .nx ρ2 => loopF g b ds ρ2
      | .ct ρ2 => loopF g b ds ρ2
      | .br ρ2 => .nx ρ2
      | r => r) = _
    rw [e2]
  · show (match b ρ1 with
      | .nx ρ2 => loopF g b ds ρ2
      | .ct ρ2 => loopF g b ds ρ2
      | .br ρ2 => .nx ρ2
      | r => r) = _
    rw [e2]
theorem loopF_brk {g : G1} {b : MS} {d : D} {ds : List D} {ρ ρ1 ρ' : Env} (h : g d ρ = some ρ1) (h2 : b ρ1 = .br ρ') : loopF g b (d :: ds) ρ = .nx ρ' := by
  show (match g d ρ with
    | none => SR.bad
    | some ρ1 => (match b ρ1 with
      | .nx ρ2 => loopF g b ds ρ2
      | .ct ρ2 => loopF g b ds ρ2
      | .br ρ2 => .nx ρ2
      | r => r)) = _
  rw [h]
  show (match b ρ1 with
      | .nx ρ2 => loopF g b ds ρ2
      | .ct ρ2 => loopF g b ds ρ2
      | .br ρ2 => .nx ρ2
      | r => r) = _
  rw [h2]
theorem loopF_eq {g : G1} {b : MS} (En : Nat → Env) : ∀ (ds : List D) (i : Nat), (∀ j d, ds[j]? = some d → Turn g b d (En (i + j)) (En (i + j + 1))) → loopF g b ds (En i) = .nx (En (i + ds.length))
  | [], i, _ => rfl
  | d :: ds, i, h => by
    have h0 := h 0 d rfl
    rw [Nat.add_zero] at h0
    rw [loopF_cons h0, loopF_eq En ds (i + 1) (fun j d' e => by
      have := h (j + 1) d' (by simpa using e)
      rw [show i + (j + 1) = i + 1 + j by omega] at this
      exact this)]
    rw [show i + 1 + ds.length = i + (d :: ds).length by simp; omega]
/-- by an invariant -/
theorem loopF_inv {g : G1} {b : MS} (P : Nat → Env → Prop) : ∀ (ds : List D) (i : Nat) (ρ : Env), P i ρ → (∀ j d ρ, ds[j]? = some d → P (i + j) ρ → ∃ ρ', Turn g b d ρ ρ' ∧ P (i + j + 1) ρ') → ∃ ρ', loopF g b ds ρ = .nx ρ' ∧ P (i + ds.length) ρ'
  | [], i, ρ, p, _ => ⟨ρ, rfl, p⟩
  | d :: ds, i, ρ, p, h => by
    obtain ⟨ρ1, t, p1⟩ := h 0 d ρ rfl p
    obtain ⟨ρ2, e2, p2⟩ := loopF_inv P ds (i + 1) ρ1 p1 fun j d' ρ e q => by
      have := h (j + 1) d' ρ (by simpa using e) (by rw [show i + (j + 1) = i + 1 + j by omega]; exact q)
      rw [show i + (j + 1) = i + 1 + j by omega] at this
      exact this
    refine ⟨ρ2, ?_, by rw [show i + (d :: ds).length = i + 1 + ds.length by simp; omega]; exact p2⟩
    rw [loopF_cons t, e2]
/-- while: the test holds n times, then no more -/
theorem loopW_eq {c : MT} {b : MS} (En : Nat → Env) : ∀ (n i fuel : Nat), n < fuel → (∀ j, j < n → c (En (i + j)) = .ok true (En (i + j)) ∧ (b (En (i + j)) = .nx (En (i + j + 1)))) → c (En (i + n)) = .ok false (En (i + n)) → loopW c b fuel (En i) = .nx (En (i + n))
  | 0, i, 0, h, _, _ => by omega
  | 0, i, fuel + 1, _, _, e => by
    rw [loopW_succ]
    rw [Nat.add_zero] at e
    rw [e]
    rfl
  | n + 1, i, 0, h, _, _ => by omega
  | n + 1, i, fuel + 1, h, ht, e => by
    obtain ⟨h1, h2⟩ := ht 0 (by omega)
    rw [Nat.add_zero] at h1 h2
    rw [loopW_succ, h1]
    show (match b (En i) with
      | .nx ρ2 => loopW c b fuel ρ2
      | .ct ρ2 => loopW c b fuel ρ2
      | .br ρ2 => .nx ρ2
      | r => r) = _
    rw [h2]
    show loopW c b fuel (En (i + 1)) = _
    rw [loopW_eq En n (i + 1) fuel (by omega) (fun j hj => by
      have := ht (j + 1) (by omega)
      rw [show i + (j + 1) = i + 1 + j by omega] at this
      exact this) (by rw [show i + 1 + n = i + (n + 1) by omega]; exact e)]
    rw [show i + 1 + n = i + (n + 1) by omega]

/-! ### comprehensions whose turns leave the slots as they are -/
/-- what one turn gives: nothing (the test fails), or a value -/
def CTurn (g : G1) (vs : List Nat) (t : MT) (e : M) (ρ : Env) (d : D) (r : Option D) : Prop := ∃ ρ1 ρ2, g d ρ = some ρ1 ∧ match r with
  | none => t ρ1 = .ok false ρ2 ∧ wipeC vs ρ2 = ρ
  | some x => t ρ1 = .ok true ρ2 ∧ ∃ rv ρ3, e ρ2 = .ok rv ρ3 ∧ rv.d = x ∧ wipeC vs ρ3 = ρ
theorem loopC_pure {g : G1} {vs : List Nat} {t : MT} {e : M} {ρ : Env} (F : D → Option D) : ∀ (ds : List D) (acc : List D), acc.length + ds.length ≤ lineN → (∀ d ∈ ds, CTurn g vs t e ρ d (F d)) → loopC g vs t e ds ρ acc = .ok (acc ++ ds.filterMap F) ρ
  | [], acc, _, _ => by simp [loopC]
  | d :: ds, acc, hl, h => by
    obtain ⟨ρ1, ρ2, e1, h1⟩ := h d List.mem_cons_self
    have hd : ∀ x ∈ ds, CTurn g vs t e ρ x (F x) := fun x hx => h x (List.mem_cons_of_mem _ hx)
    have hl' : acc.length + ds.length + 1 ≤ lineN := by simpa [Nat.add_assoc] using hl
    unfold loopC
    rw [e1]
    cases q : F d with
    | none =>
      rw [q] at h1
      obtain ⟨h1, h2⟩ := h1
      simp only [h1]
      rw [h2, loopC_pure F ds acc (by omega) hd]
      simp [q]
    | some x =>
      rw [q] at h1
      obtain ⟨h1, rv, ρ3, h2, h3, h4⟩ := h1
      simp only [h1, h2]
      rw [if_pos (by omega), h4, h3, loopC_pure F ds _ (by rw [List.length_append]; simp; omega) hd]
      simp [q]
theorem wipeC_set {vs : List Nat} : ∀ {ρ : Env}, wipeC vs (wipeC vs ρ) = wipeC vs ρ := fun {ρ} => by
  apply List.ext_getElem?
  intro j
  rw [wipeC_get, wipeC_get]
  cases ρ[j]? with
  | none => rfl
  | some c =>
    show some _ = some _
    congr 1
    by_cases hj : j ∈ vs <;> simp [hj]
theorem backC_wipe (vs : List Nat) (ρ : Env) : backC vs ρ (wipeC vs ρ) = ρ := by
  apply List.ext_getElem?
  intro j
  unfold backC
  rw [List.getElem?_mapIdx, wipeC_get]
  cases q : ρ[j]? with
  | none => rfl
  | some c =>
    show some _ = some _
    congr 1
    by_cases hj : j ∈ vs <;> simp [hj]
theorem mLc_pure {mi : MIt} {g : G1} {vs : List Nat} {t : MT} {e : M} {ρ ρ1 : Env} {ds : List D} (F : D → Option D) (hi : mi ρ = .ok ds ρ1) (hf : vs.all (freeAt ρ1) = true) (hl : ds.length ≤ lineN) (h : ∀ d ∈ ds, CTurn g vs t e (wipeC vs ρ1) d (F d)) :
    mLc mi g vs t e ρ = .ok (.fr (.lst (ds.filterMap F))) ρ1 := by
  unfold mLc
  rw [hi]
  show (if vs.all (freeAt ρ1) = true then _ else _) = _
  rw [if_pos hf, loopC_pure F ds [] (by simpa using hl) h]
  show ER.ok _ _ = _
  rw [backC_wipe]
  rfl

/-! ### lists of ints by a function -/
def sqD (n : Nat) (f : Nat → Int) : List D := (List.range n).map fun i => .int (f i)
theorem sq_len (n : Nat) (f : Nat → Int) : (sqD n f).length = n := by simp [sqD]
theorem sq_get {n i : Nat} (f : Nat → Int) (h : i < n) : (sqD n f)[i]? = some (.int (f i)) := by
  unfold sqD
  rw [List.getElem?_map, List.getElem?_range h]
  rfl
theorem ixN_nat {n i : Nat} (h : i < n) : ixN n (i : Int) = some i := by
  unfold ixN
  rw [if_pos (by omega), if_pos (by omega)]
  rfl
theorem sq_atI {n i : Nat} (f : Nat → Int) (h : i < n) : atI (sqD n f) (i : Int) = some (.int (f i)) := by
  unfold atI
  rw [sq_len, ixN_nat h]
  exact sq_get f h
theorem sq_congr {n : Nat} {f g : Nat → Int} (h : ∀ i, i < n → f i = g i) : sqD n f = sqD n g := by
  unfold sqD
  refine List.map_congr_left fun i hi => ?_
  rw [h i (List.mem_range.mp hi)]
def updF (f : Nat → Int) (p : Nat) (x : Int) : Nat → Int := fun n => if n = p then x else f n
theorem sq_set {n p : Nat} (f : Nat → Int) (x : Int) : (sqD n f).set p (.int x) = sqD n (updF f p x) := by
  apply List.ext_getElem?
  intro j
  by_cases hj : j < n
  · rw [sq_get _ hj]
    by_cases hp : p = j
    · subst hp
      rw [List.getElem?_set_self (by rw [sq_len]; exact hj)]
      simp [updF]
    · rw [List.getElem?_set_ne hp, sq_get _ hj]
      simp [updF, Ne.symm hp]
  · rw [List.getElem?_eq_none (by rw [List.length_set, sq_len]; omega), List.getElem?_eq_none (by rw [sq_len]; omega)]
theorem sq_snoc (n : Nat) (f : Nat → Int) : sqD n f ++ [.int (f n)] = sqD (n + 1) f := by
  unfold sqD
  rw [List.range_succ, List.map_append]
  rfl
theorem sq_rep (n : Nat) (x : Int) : (List.replicate n [D.int x]).flatten = sqD n fun _ => x := by
  induction n with
  | zero => rfl
  | succ n ih =>
    rw [List.replicate_succ', List.flatten_append, ih]
    show sqD n (fun _ => x) ++ [D.int x] = _
    exact sq_snoc n fun _ => x
theorem range_sq (n : Nat) : rangeD 0 1 n = sqD n fun i => (i : Int) := by
  unfold rangeD sqD
  refine List.map_congr_left fun i _ => ?_
  simp
theorem rangeD_get {lo c : Int} {n i : Nat} {d : D} (h : (rangeD lo c n)[i]? = some d) : i < n ∧ d = .int (lo + (i : Nat) * c) := by
  unfold rangeD at h
  rw [List.getElem?_map] at h
  obtain ⟨k, e1, e2⟩ := Option.map_eq_some_iff.mp h
  have hk := (List.getElem?_eq_some_iff.mp e1).1
  rw [List.getElem?_range (by simpa using hk)] at e1
  cases e1
  exact ⟨by simpa using hk, e2.symm⟩
theorem rangeD_len (lo c : Int) (n : Nat) : (rangeD lo c n).length = n := by simp [rangeD]
theorem ints_sq (n : Nat) (f : Nat → Int) : intsOf (sqD n f) = some ((List.range n).map f) := by
  unfold sqD
  generalize List.range n = l
  induction l with
  | nil => rfl
  | cons a l ih =>
    show (intsOf (l.map fun i => D.int (f i))).map (fun ns => f a :: ns) = _
    rw [ih]
    rfl

/-! ### step by step -/
theorem sSeq_nx {a b : MS} {ρ ρ1 : Env} {r : SR} (h : a ρ = .nx ρ1) (k : b ρ1 = r) : sSeq a b ρ = r := by
  unfold sSeq
  rw [h]
  exact k
theorem sSeq_rt {a b : MS} {ρ ρ1 : Env} {x : RV} (h : a ρ = .rt x ρ1) : sSeq a b ρ = .rt x ρ1 := by
  unfold sSeq
  rw [h]
theorem sIf_of {c : MT} {a b : MS} {ρ ρ1 : Env} {k : Bool} {r : SR} (h : c ρ = .ok k ρ1) (h1 : k = true → a ρ1 = r) (h2 : k = false → b ρ1 = r) : sIf c a b ρ = r := by
  unfold sIf ofT
  rw [h]
  cases k with
  | true => exact h1 rfl
  | false => exact h2 rfl
theorem sFor_of {mi : MIt} {g : G1} {b : MS} {ρ ρ1 : Env} {ds : List D} {r : SR} (hi : mi ρ = .ok ds ρ1) (hl : loopF g b ds ρ1 = r) : sFor mi g b ρ = r := by
  unfold sFor ofI
  rw [hi]
  exact hl
theorem sSet_of {i : Nat} {m : M} {ρ ρ1 ρ2 : Env} {r : RV} (h : m ρ = .ok r ρ1) (hp : putC i r ρ1 = some ρ2) : sSet i m ρ = .nx ρ2 := by
  unfold sSet ofE
  rw [h]
  simp only [hp]
theorem sRet_of {m : M} {ρ ρ1 : Env} {r : RV} (h : m ρ = .ok r ρ1) : sRet m ρ = .rt r ρ1 := by
  unfold sRet ofE
  rw [h]
theorem mOp_of {f : Fn2} {a b : MO} {ρ ρ1 ρ2 : Env} {o p : Opd} {d1 d2 : D} {r : RV} (ha : a ρ = .ok o ρ1) (hb : b ρ1 = .ok p ρ2) (h1 : o.get ρ2 = some d1) (h2 : p.get ρ2 = some d2) (hf : f d1 d2 = some r) : mOp f a b ρ = .ok r ρ2 := by
  unfold mOp bindM
  simp only [ha, hb, ap2, h1, h2, hf]
theorem oVal_of {m : M} {ρ ρ1 : Env} {r : RV} (h : m ρ = .ok r ρ1) : oVal m ρ = .ok (.val r.d) ρ1 := by
  unfold oVal bindM
  rw [h]
theorem oVar_pl {i : Nat} {ρ : Env} {d : D} (h : ρ[i]? = some (.pl d)) : oVar i ρ = .ok (.slot i) ρ := by
  unfold oVar
  rw [h]
theorem get_slot {i : Nat} {ρ : Env} {d : D} (h : ρ[i]? = some (.pl d)) : (Opd.slot i).get ρ = some d := by
  show (ρ[i]?).bind Cell.get = some d
  rw [h]
  rfl
theorem mtB_of {m : M} {ρ ρ1 : Env} {b : Bool} (h : m ρ = .ok (.pl (.bl b)) ρ1) : mtB m ρ = .ok b ρ1 := by
  unfold mtB bindM
  rw [h]
  rfl
theorem mAc_of {m : MO} {ms : MA} {ρ ρ1 ρ2 : Env} {o : Opd} {os : List Opd} (h : m ρ = .ok o ρ1) (h2 : ms ρ1 = .ok os ρ2) : mAc m ms ρ = .ok (o :: os) ρ2 := by
  unfold mAc bindM
  simp only [h, h2]
theorem mUn_of {f : D → Option RV} {a : MO} {ρ ρ1 : Env} {o : Opd} {d : D} {r : RV} (h : a ρ = .ok o ρ1) (hd : o.get ρ1 = some d) (hf : f d = some r) : mUn f a ρ = .ok r ρ1 := by
  unfold mUn bindM
  simp only [h, ap1, hd, hf]
theorem mRc_of {m : M} {ms : MR} {ρ ρ1 ρ2 : Env} {r : RV} {rs : List RV} (h : m ρ = .ok r ρ1) (h2 : ms ρ1 = .ok rs ρ2) : mRc m ms ρ = .ok (r :: rs) ρ2 := by
  unfold mRc bindM
  simp only [h, h2]
theorem sPar_of {is : List Nat} {m : MR} {ρ ρ1 ρ2 : Env} {rs : List RV} (h : m ρ = .ok rs ρ1) (hp : putAll is rs ρ1 = some ρ2) : sPar is m ρ = .nx ρ2 := by
  unfold sPar ofR
  simp only [h, hp]
theorem mLst0 (ρ : Env) : mLst mA0 ρ = .ok (.fr (.lst [])) ρ := by
  unfold mLst mA0 bindM
  simp only [vals, List.length_nil]
  rw [if_pos (by omega)]
theorem sAugIx_of {i : Nat} {mk me : M} {f : Fn2} {ρ : Env} {ds : List D} {z : Int} {d d2 : D} {r : RV} {j : Nat} (ho : ownedAt ρ i = some (.lst ds)) (hk : mk ρ = .ok (.pl (.int z)) ρ) (ha : atI ds z = some d) (hm : me ρ = .ok r ρ) (hf : f d r.d = some (.pl d2)) (hj : ixN ds.length z = some j) :
    sAugIx i mk f me ρ = .nx (setOwn ρ i (.lst (ds.set j d2))) := by
  unfold sAugIx ofE
  simp only [ho, isLst, if_true, hk, ha, hm, RV.d] at hf ⊢
  simp only [RV.d, hf, putIx, ho, hj, Option.map_some]
theorem sSetIx_of {i : Nat} {mk me : M} {ρ : Env} {ds : List D} {z : Int} {r : RV} {j : Nat} (ho : ownedAt ρ i = some (.lst ds)) (hm : me ρ = .ok r ρ) (hk : mk ρ = .ok (.pl (.int z)) ρ) (hj : ixN ds.length z = some j) :
    sSetIx i mk me ρ = .nx (setOwn ρ i (.lst (ds.set j r.d))) := by
  unfold sSetIx ofE
  simp only [hm, ho, Option.isSome_some, if_true, hk, RV.d, putIx, hj, Option.map_some]
theorem sApp_of {i : Nat} {me : M} {ρ ρ1 : Env} {ds0 ds : List D} {r : RV} (h0 : ownedAt ρ i = some (.lst ds0)) (hm : me ρ = .ok r ρ1) (h1 : ownedAt ρ1 i = some (.lst ds)) (hl : ds.length < lineN) : sApp i me ρ = .nx (setOwn ρ1 i (.lst (ds ++ [r.d]))) := by
  unfold sApp ofE
  simp only [h0, isLst, if_true, hm, appTo, h1, hl]
theorem mDef_rt {n l : Nat} {b : MS} {args : Env} {r : RV} {ρ : Env} (h : b (args ++ List.replicate l .un) = .rt r ρ) (hn : args.length = n := by rfl) : mDef n l b args = .rt r (outsOf n ρ) := by
  unfold mDef
  rw [if_pos hn, h]
  rfl
theorem mDef_nx {n l : Nat} {b : MS} {args : Env} {ρ : Env} (h : b (args ++ List.replicate l .un) = .nx ρ) (hn : args.length = n := by rfl) : mDef n l b args = .rt (.pl .non) (outsOf n ρ) := by
  unfold mDef
  rw [if_pos hn, h]
  rfl
theorem mtNot_of {a : MT} {ρ ρ1 : Env} {c : Bool} (h : a ρ = .ok c ρ1) : mtNot a ρ = .ok (!c) ρ1 := by
  unfold mtNot bindM
  rw [h]
theorem mtOr_f {a b : MT} {ρ ρ1 : Env} {r : ER Bool} (h : a ρ = .ok false ρ1) (hb : b ρ1 = r) : mtOr a b ρ = r := by
  unfold mtOr bindM
  rw [h]
  exact hb
theorem mtOr_t {a b : MT} {ρ ρ1 : Env} (h : a ρ = .ok true ρ1) : mtOr a b ρ = .ok true ρ1 := by
  unfold mtOr bindM
  rw [h]
  rfl
theorem mtAnd_t {a b : MT} {ρ ρ1 : Env} {r : ER Bool} (h : a ρ = .ok true ρ1) (hb : b ρ1 = r) : mtAnd a b ρ = r := by
  unfold mtAnd bindM
  rw [h]
  exact hb
theorem mtAnd_f {a b : MT} {ρ ρ1 : Env} (h : a ρ = .ok false ρ1) : mtAnd a b ρ = .ok false ρ1 := by
  unfold mtAnd bindM
  rw [h]
  rfl
theorem mIf_t {c : MT} {a b : M} {ρ ρ1 : Env} {r : ER RV} (h : c ρ = .ok true ρ1) (ha : a ρ1 = r) : mIf c a b ρ = r := by
  unfold mIf bindM
  rw [h]
  exact ha
theorem mIf_f {c : MT} {a b : M} {ρ ρ1 : Env} {r : ER RV} (h : c ρ = .ok false ρ1) (hb : b ρ1 = r) : mIf c a b ρ = r := by
  unfold mIf bindM
  rw [h]
  exact hb
theorem mCallP_of {dfl : List D} {fm : MF} {args : MA} {ρ ρ1 : Env} {os : List Opd} {cs outs : Env} {r : RV} (h : args ρ = .ok os ρ1) (hp : plainsOf ρ1 os = some cs) (hf : fm (cs ++ dfl.map Cell.pl) = .rt r outs) : mCallP dfl fm args ρ = .ok r ρ1 := by
  unfold mCallP bindM
  rw [h]
  simp only [hp, hf]
theorem mCallQ_of {dfl : List D} {fm : MF} {args : MA} {ρ ρ1 : Env} {i : Nat} {os : List Opd} {cs outs : Env} {r : RV} {d d' : D} (h : args ρ = .ok (.slot i :: os) ρ1) (hp : plainsOf ρ1 os = some cs) (ho : ownedAt ρ1 i = some d) (hf : fm (.io d :: (cs ++ dfl.map Cell.pl)) = .rt r (.io d' :: outs)) :
    mCallQ dfl fm args ρ = .ok r (setOwn ρ1 i d') := by
  unfold mCallQ bindM
  rw [h]
  simp only [hp, ho, hf]
theorem mCall_of {f : List D → Option RV} {args : MA} {ρ ρ1 : Env} {os : List Opd} {ds : List D} {r : RV} (h : args ρ = .ok os ρ1) (hg : getAll ρ1 os = some ds) (hf : f ds = some r) : mCall f args ρ = .ok r ρ1 := by
  unfold mCall bindM
  rw [h]
  simp only [apL, hg, hf]
theorem iR1_of {ma : MA} {ρ ρ1 : Env} {os : List Opd} {j : Int} (h : ma ρ = .ok os ρ1) (hg : getAll ρ1 os = some [.int j]) (hj : smallR j = true) : iRangeN 1 ma ρ = .ok (rangeD 0 1 j.toNat) ρ1 := by
  have hl := getAll_len hg
  unfold iRangeN bindM
  rw [h]
  simp only [hg, hj, hl, List.length_cons, List.length_nil, if_true]
theorem iR2_of {ma : MA} {ρ ρ1 : Env} {os : List Opd} {i j : Int} (h : ma ρ = .ok os ρ1) (hg : getAll ρ1 os = some [.int i, .int j]) (hi : smallR i = true) (hj : smallR j = true) : iRangeN 2 ma ρ = .ok (rangeD i 1 (j - i).toNat) ρ1 := by
  have hl := getAll_len hg
  unfold iRangeN bindM
  rw [h]
  simp only [hg, hi, hj, hl, List.length_cons, List.length_nil, if_true, Bool.and_self]
theorem iSeq_of {m : M} {ρ ρ1 : Env} {r : RV} {ds : List D} (h : m ρ = .ok r ρ1) (hd : itemsOf r.d = some ds) : iSeq m ρ = .ok ds ρ1 := by
  unfold iSeq bindM
  rw [h]
  simp only [hd]

/-- how many: range(i, j, c) -/
def rn3 (i j c : Nat) : Nat := if i < j then (j - i - 1) / c + 1 else 0
theorem rn3_iff {i j c t : Nat} (hc : 0 < c) : t < rn3 i j c ↔ i + t * c < j := by
  unfold rn3
  by_cases h : i < j
  · rw [if_pos h]
    constructor
    · intro ht
      have h1 : t ≤ (j - i - 1) / c := by omega
      have h2 := (Nat.le_div_iff_mul_le hc).mp h1
      omega
    · intro ht
      have h1 : t * c ≤ j - i - 1 := by omega
      have h2 := (Nat.le_div_iff_mul_le hc).mpr h1
      omega
  · rw [if_neg h]
    constructor
    · intro ht; omega
    · intro ht
      have : i ≤ i + t * c := Nat.le_add_right _ _
      omega
theorem iR3_of {ma : MA} {ρ ρ1 : Env} {os : List Opd} {i j c : Nat} (h : ma ρ = .ok os ρ1) (hg : getAll ρ1 os = some [.int i, .int j, .int c]) (hi : i ≤ 1000000) (hj : j ≤ 1000000) (hc : 0 < c) (hc2 : c ≤ 1000000) : iRangeN 3 ma ρ = .ok (rangeD i c (rn3 i j c)) ρ1 := by
  have hl := getAll_len hg
  have hsz : Builtin.Range.rangeSize i j c = ((rn3 i j c : Nat) : Int) := by
    unfold Builtin.Range.rangeSize rn3
    rw [if_pos (by omega)]
    by_cases hij : i < j
    · rw [if_pos (by omega), if_pos hij]
      have : ((j : Int) - i - 1) = ((j - i - 1 : Nat) : Int) := by omega
      rw [this]
      rfl
    · rw [if_neg (by omega), if_neg hij]
      rfl
  have hcnt : rn3 i j c ≤ 1000000 := by
    have h0 := rn3_iff (i := i) (j := j) (c := c) (t := rn3 i j c - 1) hc
    by_cases hz : rn3 i j c = 0
    · omega
    · have h1 := h0.mp (by omega)
      have h2 : rn3 i j c - 1 ≤ (rn3 i j c - 1) * c := Nat.le_mul_of_pos_right _ hc
      omega
  have fl : ∀ z : Int, -2000000 ≤ z → z ≤ 2000000 → Builtin.Range.rangeFitsLong z = true := fun z h1 h2 => by
    unfold Builtin.Range.rangeFitsLong
    first
      | (simp only [Bool.and_eq_true, decide_eq_true_eq]; omega)
      | (unfold fitsSsize; simp; omega)
      | (simp; omega)
  have hsm : Builtin.Range.small i j c = true := by
    unfold Builtin.Range.small
    rw [fl i (by omega) (by omega), fl j (by omega) (by omega), fl c (by omega) (by omega), hsz, fl _ (by omega) (by omega), if_pos (by omega), fl _ (by omega) (by omega)]
    simp
  have h1 : decide ((0 : Int) < (c : Int)) = true := decide_eq_true (by omega)
  have h2 : decide ((c : Int) < 1000000000) = true := decide_eq_true (by omega)
  have h3 : decide ((0 : Int) ≤ Builtin.Range.rangeSize i j c) = true := decide_eq_true (by rw [hsz]; omega)
  unfold iRangeN bindM
  rw [h]
  simp only [hg, hl, List.length_cons, List.length_nil, h1, h2, h3, hsm, Bool.and_self, if_true]
  rw [hsz]
  rfl
/-- a cell that holds plain data or nothing -/
def pc (c : Cell) : Prop := c = .un ∨ ∃ d, c = .pl d
theorem pc_un : pc .un := .inl rfl
theorem pc_pl (d : D) : pc (.pl d) := .inr ⟨d, rfl⟩
theorem io_un : isIo (some Cell.un) = false := rfl
theorem io_pl (d : D) : isIo (some (Cell.pl d)) = false := rfl
theorem io_ow (d : D) : isIo (some (Cell.ow d)) = false := rfl
theorem pc_io {c : Cell} (h : pc c) : isIo (some c) = false := by
  rcases h with rfl | ⟨d, rfl⟩ <;> rfl
def smallN (N : Nat) : Prop := N ≤ 100000
theorem smallR_nat {N : Nat} (h : smallN N) : smallR (N : Int) = true := by
  unfold smallN at h
  exact smallR_iff.mpr (by omega)
def prD (q : Nat × Int) : D := .tup [.int q.1, .int q.2]

/-- for k in range(d, N, d): xs[k] += h(k) -/
theorem mult_loop {g : G1} {b : MS} {N d : Nat} (hd : 0 < d) (E : List D → Cell → Env) (h F : Nat → Int) (ht : ∀ (k : Nat) (G : Nat → Int) (c : Cell), k < N → d ∣ k → d ≤ k → pc c → Turn g b (.int k) (E (sqD N G) c) (E (sqD N (updF G k (G k + h k))) (.pl (.int k)))) {c : Cell} (hc : pc c) :
    ∃ c', pc c' ∧ loopF g b (rangeD d d (rn3 d N d)) (E (sqD N F) c) = .nx (E (sqD N fun m => F m + if d ∣ m ∧ d ≤ m then h m else 0) c') := by
  let cl : Nat → Cell := fun j => match j with
    | 0 => c
    | j + 1 => .pl (.int ((d + j * d : Nat) : Int))
  have hcl : ∀ j, pc (cl j) := fun j => by
    cases j with
    | zero => exact hc
    | succ j => exact pc_pl _
  let G : Nat → Nat → Int := fun t m => F m + if d ∣ m ∧ d ≤ m ∧ m < d + t * d then h m else 0
  have e0 : sqD N F = sqD N (G 0) := sq_congr fun i _ => by
    show F i = F i + if d ∣ i ∧ d ≤ i ∧ i < d + 0 * d then h i else 0
    rw [if_neg (by omega), Int.add_zero]
  have e1 : sqD N (G (rn3 d N d)) = sqD N fun m => F m + if d ∣ m ∧ d ≤ m then h m else 0 := sq_congr fun i hi => by
    show (F i + if d ∣ i ∧ d ≤ i ∧ i < d + rn3 d N d * d then h i else 0) = F i + if d ∣ i ∧ d ≤ i then h i else 0
    by_cases hi2 : d ∣ i ∧ d ≤ i
    · have : i < d + rn3 d N d * d := by
        have hn := (not_congr (rn3_iff (i := d) (j := N) (c := d) (t := rn3 d N d) hd)).mp (by omega)
        omega
      rw [if_pos ⟨hi2.1, hi2.2, this⟩, if_pos hi2]
    · rw [if_neg (fun z => hi2 ⟨z.1, z.2.1⟩), if_neg hi2]
  refine ⟨cl (rn3 d N d), hcl _, ?_⟩
  rw [e0, ← e1]
  have key := loopF_eq (g := g) (b := b) (fun t => E (sqD N (G t)) (cl t)) (rangeD d d (rn3 d N d)) 0 fun j x hx => by
    obtain ⟨hj, rfl⟩ := rangeD_get hx
    rw [Nat.zero_add]
    have hlt := (rn3_iff (i := d) (j := N) (c := d) (t := j) hd).mp hj
    have e2 : (d : Int) + (j : Nat) * (d : Int) = ((d + j * d : Nat) : Int) := by simp
    rw [e2]
    have t := ht (d + j * d) (G j) (cl j) hlt ⟨j + 1, by rw [Nat.mul_add, Nat.mul_comm]; omega⟩ (Nat.le_add_right _ _) (hcl j)
    have e3 : sqD N (updF (G j) (d + j * d) (G j (d + j * d) + h (d + j * d))) = sqD N (G (j + 1)) := sq_congr fun i hi => by
      show (if i = d + j * d then (F (d + j * d) + if d ∣ d + j * d ∧ d ≤ d + j * d ∧ d + j * d < d + j * d then h (d + j * d) else 0) + h (d + j * d) else F i + if d ∣ i ∧ d ≤ i ∧ i < d + j * d then h i else 0) = F i + if d ∣ i ∧ d ≤ i ∧ i < d + (j + 1) * d then h i else 0
      have hs : (j + 1) * d = j * d + d := by rw [Nat.add_mul, Nat.one_mul]
      by_cases hi : i = d + j * d
      · subst hi
        rw [if_pos rfl, if_neg (by omega), if_pos ⟨⟨j + 1, by rw [Nat.mul_add, Nat.mul_comm]; omega⟩, by omega, by omega⟩, Int.add_zero]
      · rw [if_neg hi]
        by_cases h2 : d ∣ i ∧ d ≤ i ∧ i < d + j * d
        · rw [if_pos h2, if_pos ⟨h2.1, h2.2.1, by omega⟩]
        · rw [if_neg h2, if_neg]
          rintro ⟨⟨q, rfl⟩, a1, a2⟩
          refine h2 ⟨⟨q, rfl⟩, a1, ?_⟩
          have hq : q < j + 2 := by
            have : d * q < d * (j + 2) := by rw [Nat.mul_add, Nat.mul_comm d j]; omega
            exact Nat.lt_of_mul_lt_mul_left this
          have hq2 : q ≠ j + 1 := fun z => hi (by rw [z, Nat.mul_add, Nat.mul_comm]; omega)
          have hq3 : q ≤ j := by omega
          have : d * q ≤ d * j := Nat.mul_le_mul_left d hq3
          rw [Nat.mul_comm d j] at this
          omega
    rw [e3] at t
    exact t
  rw [rangeD_len, Nat.zero_add] at key
  exact key

/-- [h(i) for i in range(..)] -/
theorem mLc_rg {mi : MIt} {g : G1} {vs : List Nat} {t : MT} {e : M} {ρ ρ1 : Env} {lo : Int} {n : Nat} {h : Nat → Int} (hi : mi ρ = .ok (rangeD lo 1 n) ρ1) (hf : vs.all (freeAt ρ1) = true) (hl : n ≤ lineN) (ht : ∀ i, i < n → CTurn g vs t e (wipeC vs ρ1) (.int (lo + (i : Nat) * 1)) (some (.int (h i)))) :
    mLc mi g vs t e ρ = .ok (.fr (.lst (sqD n h))) ρ1 := by
  let F : D → Option D := fun d => match d with
    | .int z => some (.int (h (z - lo).toNat))
    | _ => none
  have hF : ∀ i : Nat, F (.int (lo + (i : Nat) * 1)) = some (.int (h i)) := fun i => by
    show some (D.int (h (lo + (i : Int) * 1 - lo).toNat)) = _
    rw [show (lo + (i : Int) * 1 - lo).toNat = i by omega]
  have e1 : (rangeD lo 1 n).filterMap F = sqD n h := by
    unfold rangeD sqD
    rw [List.filterMap_map, ← List.filterMap_eq_map]
    congr 1
    funext i
    exact hF i
  rw [mLc_pure F hi hf (by rw [rangeD_len]; exact hl) (fun d hd => ?_), e1]
  obtain ⟨j, hj⟩ := List.mem_iff_getElem?.mp hd
  obtain ⟨hlt, rfl⟩ := rangeD_get hj
  rw [hF]
  exact ht j hlt
/-- one item into an owned list -/
theorem sum_sq (n : Nat) (h : Nat → Int) : dSum [.lst (sqD n h)] = some (.pl (.int (((List.range n).map h).sum))) := by
  show (intsOf (sqD n h)).bind (fun ns => pI ns.sum) = _
  rw [ints_sq]
  rfl
end L2.MX
end
section
set_option Elab.async false
set_option linter.all false
set_option maxRecDepth 100000
set_option maxHeartbeats 4000000
namespace L2.MX.Lw
open PySem PySem.Spec PyProof.Rows
/-! ### the text -/
def top (i : Nat) : Stmt := PySem.Challenge.pw_productrows_k12_whole_rows_far_out.main.body.getD i (.Pass ⟨0, 0, 0, 0⟩)
abbrev s__law_pen : Stmt := top 27
abbrev s__law_draw : Stmt := top 28
abbrev s__law_pick : Stmt := top 29
abbrev s_is_row : Stmt := top 7
abbrev s_is_integer : Stmt := top 5
abbrev s_are_integers : Stmt := top 8
abbrev s_is_item : Stmt := top 13
abbrev s_need_powers : Stmt := top 14
abbrev s_is_count : Stmt := top 6
abbrev s_need_many : Stmt := top 15
abbrev s_sums_for : Stmt := top 23
abbrev s_by_sums : Stmt := top 24
abbrev s_product_row : Stmt := top 25
abbrev s_euler_signs : Stmt := top 16
abbrev s_times_signs : Stmt := top 19
abbrev s_over_signs : Stmt := top 20
abbrev s_by_factors : Stmt := top 21
abbrev s_row_by_factors : Stmt := top 22
abbrev s_euler_row : Stmt := top 17
abbrev s_cube_row : Stmt := top 18
abbrev s__law_pentagons : Stmt := top 36
abbrev s__law_triangles : Stmt := top 37
abbrev s__law_isqrt : Stmt := top 32
abbrev s__law_root : Stmt := top 33
abbrev s__law_squares : Stmt := top 38
abbrev s__law_signed : Stmt := top 41
abbrev s__law_parts : Stmt := top 39
abbrev s__law_two_squares : Stmt := top 40
abbrev s__law_listed : Stmt := top 31
abbrev s__law_shuffled : Stmt := top 30
abbrev s__law_p_given : Stmt := top 34
abbrev s__law_spread : Stmt := top 35
abbrev s_law : Stmt := top 42
/-! ### what the defs do -/
def df__law_pen : List D := []
def b__law_pen : MS := (sSeq (sSet 1 (mK (.int 0))) (sSeq (sFor (iSeq (mVar 0)) (gNm 2) (sSeq (sSet 1 (mOp dMod (oVal (mCall dInt (mAc (oVal (mOp dAdd (oVal (mOp dMul (oVar 1) (oVal (mK (.int 67))))) (oVar 2))) mA0))) (oVal (mK (.int 1000000033))))) sNil)) (sSeq (sRet (mDict (mPc (mK (.str "cells")) (mCall dList (mAc (oVar 0) mA0)) (mPc (mK (.str "at")) (mK (.int 0)) (mPc (mK (.str "digits")) (mK (.int 0)) (mPc (mK (.str "count")) (mK (.int 0)) (mPc (mK (.str "fold")) (mVar 1) mP0))))))) sNil)))
def m__law_pen : MF := mDef 1 2 b__law_pen
def df__law_draw : List D := []
def b__law_draw : MS := (sSeq (sDPut1 0 (mK (.str "count")) (mOp dAdd (oVal (mOp dDGet (oVar 0) (oVal (mK (.str "count"))))) (oVal (mK (.int 1))))) (sSeq (sIf (mtAnd (mtB (mOp dEq (oVal (mOp dDGet (oVar 0) (oVal (mK (.str "digits"))))) (oVal (mK (.int 0))))) (mtB (mOp dLt (oVal (mOp dDGet (oVar 0) (oVal (mK (.str "at"))))) (oVal (mCall dLen (mAc (oVal (mOp dDGet (oVar 0) (oVal (mK (.str "cells"))))) mA0)))))) (sSeq (sSet 2 (mOp dIx (oVal (mOp dDGet (oVar 0) (oVal (mK (.str "cells"))))) (oVal (mOp dDGet (oVar 0) (oVal (mK (.str "at"))))))) (sSeq (sDPut1 0 (mK (.str "at")) (mOp dAdd (oVal (mOp dDGet (oVar 0) (oVal (mK (.str "at"))))) (oVal (mK (.int 1))))) (sSeq (sIf (mtB (mOp dGe (oVar 2) (oVal (mOp dPow (oVal (mK (.int 10))) (oVal (mK (.int 18))))))) (sSeq (sDPut1 0 (mK (.str "digits")) (mOp dSub (oVar 2) (oVal (mOp dPow (oVal (mK (.int 10))) (oVal (mK (.int 18))))))) sNil) (sSeq (sDPut1 0 (mK (.str "fold")) (mOp dMod (oVal (mCall dInt (mAc (oVal (mOp dAdd (oVal (mOp dMul (oVal (mOp dDGet (oVar 0) (oVal (mK (.str "fold"))))) (oVal (mK (.int 69069))))) (oVar 2))) mA0))) (oVal (mK (.int 2147483543))))) sNil)) sNil))) sNil) (sSeq (sIf (mtB (mOp dGt (oVal (mOp dDGet (oVar 0) (oVal (mK (.str "digits"))))) (oVal (mK (.int 0))))) (sSeq (sSet 3 (mOp dMod (oVal (mCall dInt (mAc (oVal (mOp dDGet (oVar 0) (oVal (mK (.str "digits"))))) mA0))) (oVar 1))) (sSeq (sDPut1 0 (mK (.str "digits")) (mOp dFdiv (oVal (mOp dDGet (oVar 0) (oVal (mK (.str "digits"))))) (oVar 1))) (sSeq (sRet (mVar 3)) sNil))) sNil) (sSeq (sSet 4 (mOp dAdd (oVal (mOp dAdd (oVal (mOp dDGet (oVar 0) (oVal (mK (.str "fold"))))) (oVal (mOp dMul (oVal (mOp dDGet (oVar 0) (oVal (mK (.str "count"))))) (oVal (mK (.int 8167))))))) (oVal (mK (.int 47))))) (sSeq (sRet (mOp dMod (oVal (mOp dFdiv (oVal (mCall dInt (mAc (oVal (mOp dMod (oVal (mOp dPow (oVar 4) (oVal (mK (.int 17))))) (oVal (mK (.int 2305843009213693951))))) mA0))) (oVal (mK (.int 128))))) (oVar 1))) sNil)))))
def m__law_draw : MF := mDef 2 3 b__law_draw
def df__law_pick : List D := []
def b__law_pick : MS := (sSeq (sRet (mOp dIx (oVar 1) (oVal (mCallQ (df__law_draw.drop 0) m__law_draw (mAc (oVar 0) (mAc (oVal (mCall dLen (mAc (oVar 1) mA0))) mA0)))))) sNil)
def m__law_pick : MF := mDef 2 0 b__law_pick
def df_is_row : List D := []
def b_is_row : MS := (sSeq (sRet (mIsi [.list, .tuple] (oVar 0))) sNil)
def m_is_row : MF := mDef 1 0 b_is_row
def df_is_integer : List D := []
def b_is_integer : MS := (sSeq (sRet (mAnd (mIsi [.int] (oVar 0)) (mNot (mIsi [.bool] (oVar 0))))) sNil)
def m_is_integer : MF := mDef 1 0 b_is_integer
def df_are_integers : List D := []
def b_are_integers : MS := (sSeq (sRet (mAnd (mCallP (df_is_row.drop 0) m_is_row (mAc (oVal (mVar 0)) mA0)) (mCall dAll (mAc (oVal (mLc (iSeq (mVar 0)) (gNm 1) ([1] : List Nat) mtYes (mCallP (df_is_integer.drop 0) m_is_integer (mAc (oVal (mVar 1)) mA0)))) mA0)))) sNil)
def m_are_integers : MF := mDef 1 1 b_are_integers
def df_is_item : List D := []
def b_is_item : MS := (sSeq (sIf (mtOr (mtNot (mtB (mCallP (df_are_integers.drop 0) m_are_integers (mAc (oVal (mVar 0)) mA0)))) (mtB (mOp dNe (oVal (mCall dLen (mAc (oVar 0) mA0))) (oVal (mK (.int 2)))))) (sSeq (sRet (mK (.bl false))) sNil) sNil) (sSeq (sRet (mAnd (mChain dLe dLe (oVal (mK (.int 1))) (oVal (mOp dIx (oVar 0) (oVal (mK (.int 0))))) (oVal (mK (.int 1000)))) (mAnd (mOp dNe (oVal (mOp dIx (oVar 0) (oVal (mK (.int 1))))) (oVal (mK (.int 0)))) (mChain dLe dLe (oVal (mUn dNeg (oVal (mK (.int 1000))))) (oVal (mOp dIx (oVar 0) (oVal (mK (.int 1))))) (oVal (mK (.int 1000))))))) sNil))
def m_is_item : MF := mDef 1 0 b_is_item
def df_need_powers : List D := []
def b_need_powers : MS := (sSeq (sIf (mtOr (mtNot (mtB (mCallP (df_is_row.drop 0) m_is_row (mAc (oVal (mVar 0)) mA0)))) (mtNot (mtB (mCall dAll (mAc (oVal (mLc (iSeq (mVar 0)) (gNm 1) ([1] : List Nat) mtYes (mCallP (df_is_item.drop 0) m_is_item (mAc (oVal (mVar 1)) mA0)))) mA0))))) (sSeq sNever sNil) sNil) (sSeq (sIf (mtB (mOp dNe (oVal (mUn dLenSet (oVal (mLc (iSeq (mVar 0)) (gNm 1) ([1] : List Nat) mtYes (mOp dIx (oVar 1) (oVal (mK (.int 0)))))))) (oVal (mCall dLen (mAc (oVar 0) mA0))))) (sSeq sNever sNil) sNil) (sSeq (sRet (mCall dTuple (mAc (oVal (mCall dSorted (mAc (oVal (mLc (iSeq (mVar 0)) (gTp [(gNm 2), (gNm 3)]) ([2, 3] : List Nat) mtYes (mTup (mAc (oVal (mVar 2)) (mAc (oVal (mVar 3)) mA0))))) mA0))) mA0))) sNil)))
def m_need_powers : MF := mDef 1 3 b_need_powers
def df_is_count : List D := [.non]
def b_is_count : MS := (sSeq (sRet (mAnd (mCallP (df_is_integer.drop 0) m_is_integer (mAc (oVal (mVar 0)) mA0)) (mAnd (mOp dGe (oVar 0) (oVal (mK (.int 0)))) (mOr (mOp dIsN (oVar 1) (oVal (mK .non))) (mOp dLe (oVar 0) (oVar 1)))))) sNil)
def m_is_count : MF := mDef 2 0 b_is_count
def df_need_many : List D := []
def b_need_many : MS := (sSeq (sIf (mtNot (mtB (mCallP (df_is_count.drop 1) m_is_count (mAc (oVal (mVar 0)) (mAc (oVal (mVar 1)) mA0))))) (sSeq sNever sNil) sNil) sNil)
def m_need_many : MF := mDef 2 0 b_need_many
def df_sums_for : List D := []
def b_sums_for : MS := (sSeq (sSet 2 (mOp dMul (oVal (mLst (mAc (oVal (mK (.int 0))) mA0))) (oVar 1))) (sSeq (sFor (iRangeN 2 (mAc (oVal (mK (.int 1))) (mAc (oVar 1) mA0))) (gNm 3) (sSeq (sFor (iRangeN 3 (mAc (oVar 3) (mAc (oVar 1) (mAc (oVar 3) mA0)))) (gNm 4) (sSeq (sAugIx 2 (mVar 4) dIAdd (mVar 3)) sNil)) sNil)) (sSeq (sSet 5 (mOp dMul (oVal (mLst (mAc (oVal (mK (.int 0))) mA0))) (oVar 1))) (sSeq (sFor (iSeq (mVar 0)) (gTp [(gNm 3), (gNm 6)]) (sSeq (sFor (iRangeN 3 (mAc (oVar 3) (mAc (oVar 1) (mAc (oVar 3) mA0)))) (gNm 7) (sSeq (sAugIx 5 (mVar 7) dIAdd (mOp dMul (oVal (mOp dMul (oVar 3) (oVar 6))) (oVal (mOp dIx (oVar 2) (oVal (mOp dFdiv (oVar 7) (oVar 3))))))) sNil)) sNil)) (sSeq (sRet (mVar 5)) sNil)))))
def m_sums_for : MF := mDef 2 6 b_sums_for
def df_by_sums : List D := []
def b_by_sums : MS := (sSeq (sPar [2, 3] (mRc (mCallP (df_sums_for.drop 0) m_sums_for (mAc (oVal (mVar 0)) (mAc (oVal (mVar 1)) mA0))) (mRc (mLst mA0) mR0))) (sSeq (sFor (iRangeN 1 (mAc (oVar 1) mA0)) (gNm 4) (sSeq (sIf (mtB (mOp dEq (oVar 4) (oVal (mK (.int 0))))) (sSeq (sApp 3 (mK (.int 1))) sNil) (sSeq (sApp 3 (mOp dFdiv (oVal (mUn dNeg (oVal (mCall dSum (mAc (oVal (mLc (iRangeN 2 (mAc (oVal (mK (.int 1))) (mAc (oVal (mOp dAdd (oVar 4) (oVal (mK (.int 1))))) mA0))) (gNm 5) ([5] : List Nat) mtYes (mOp dMul (oVal (mOp dIx (oVar 2) (oVar 5))) (oVal (mOp dIx (oVar 3) (oVal (mOp dSub (oVar 4) (oVar 5)))))))) mA0))))) (oVar 4))) sNil)) sNil)) (sSeq (sRet (mVar 3)) sNil)))
def m_by_sums : MF := mDef 2 4 b_by_sums
def df_product_row : List D := []
def b_product_row : MS := (sSeq (sSet 0 (mCallP (df_need_powers.drop 0) m_need_powers (mAc (oVal (mVar 0)) mA0))) (sSeq (sExpr (mCallP (df_need_many.drop 0) m_need_many (mAc (oVal (mVar 1)) (mAc (oVal (mK (.int 3000))) mA0)))) (sSeq (sRet (mCall dTuple (mAc (oVal (mCallP (df_by_sums.drop 0) m_by_sums (mAc (oVal (mVar 0)) (mAc (oVal (mVar 1)) mA0)))) mA0))) sNil)))
def m_product_row : MF := mDef 2 0 b_product_row
def df_euler_signs : List D := []
def b_euler_signs : MS := (sSeq (sPar [1, 2] (mRc (mLst mA0) (mRc (mK (.int 1)) mR0))) (sSeq (sWhile 100000 (mtB (mOp dLt (oVal (mOp dFdiv (oVal (mOp dMul (oVar 2) (oVal (mOp dSub (oVal (mOp dMul (oVal (mK (.int 3))) (oVar 2))) (oVal (mK (.int 1))))))) (oVal (mK (.int 2))))) (oVar 0))) (sSeq (sSet 3 (mIf (mtB (mOp dEq (oVal (mOp dAnd (oVar 2) (oVal (mK (.int 1))))) (oVal (mK (.int 1))))) (mUn dNeg (oVal (mK (.int 1)))) (mK (.int 1)))) (sSeq (sApp 1 (mTup (mAc (oVal (mOp dFdiv (oVal (mOp dMul (oVar 2) (oVal (mOp dSub (oVal (mOp dMul (oVal (mK (.int 3))) (oVar 2))) (oVal (mK (.int 1))))))) (oVal (mK (.int 2))))) (mAc (oVal (mVar 3)) mA0)))) (sSeq (sApp 1 (mTup (mAc (oVal (mOp dFdiv (oVal (mOp dMul (oVar 2) (oVal (mOp dAdd (oVal (mOp dMul (oVal (mK (.int 3))) (oVar 2))) (oVal (mK (.int 1))))))) (oVal (mK (.int 2))))) (mAc (oVal (mVar 3)) mA0)))) (sSeq (sAug 2 dIAdd (mK (.int 1))) sNil))))) (sSeq (sRet (mVar 1)) sNil)))
def m_euler_signs : MF := mDef 1 3 b_euler_signs
def df_times_signs : List D := []
def b_times_signs : MS := (sSeq (sSet 2 (mCall dList (mAc (oVar 0) mA0))) (sSeq (sFor (iSeq (mVar 1)) (gTp [(gNm 3), (gNm 4)]) (sSeq (sFor (iRangeN 2 (mAc (oVar 3) (mAc (oVal (mCall dLen (mAc (oVar 0) mA0))) mA0))) (gNm 5) (sSeq (sAugIx 2 (mVar 5) dIAdd (mOp dMul (oVar 4) (oVal (mOp dIx (oVar 0) (oVal (mOp dSub (oVar 5) (oVar 3))))))) sNil)) sNil)) (sSeq (sRet (mVar 2)) sNil)))
def m_times_signs : MF := mDef 2 4 b_times_signs
def df_over_signs : List D := []
def b_over_signs : MS := (sSeq (sSet 2 (mCall dList (mAc (oVar 0) mA0))) (sSeq (sFor (iRangeN 1 (mAc (oVal (mCall dLen (mAc (oVar 0) mA0))) mA0)) (gNm 3) (sSeq (sFor (iSeq (mVar 1)) (gTp [(gNm 4), (gNm 5)]) (sSeq (sIf (mtB (mOp dGt (oVar 4) (oVar 3))) (sSeq sBrk sNil) sNil) (sSeq (sAugIx 2 (mVar 3) dSub (mOp dMul (oVar 5) (oVal (mOp dIx (oVar 2) (oVal (mOp dSub (oVar 3) (oVar 4))))))) sNil))) sNil)) (sSeq (sRet (mVar 2)) sNil)))
def m_over_signs : MF := mDef 2 4 b_over_signs
def df_by_factors : List D := [(.int 0)]
def b_by_factors : MS := (sSeq (sSet 3 (mLc (iRangeN 1 (mAc (oVar 1) mA0)) (gNm 4) ([4] : List Nat) mtYes (mIf (mtB (mOp dEq (oVar 4) (oVal (mK (.int 0))))) (mK (.int 1)) (mK (.int 0))))) (sSeq (sFor (iSeq (mVar 0)) (gTp [(gNm 5), (gNm 6)]) (sSeq (sSet 7 (mLc (iSeq (mCallP (df_euler_signs.drop 0) m_euler_signs (mAc (oVal (mOp dAdd (oVal (mOp dFdiv (oVar 1) (oVar 5))) (oVal (mK (.int 1))))) mA0))) (gTp [(gNm 8), (gNm 9)]) ([8, 9] : List Nat) mtYes (mTup (mAc (oVal (mOp dMul (oVar 8) (oVar 5))) (mAc (oVal (mVar 9)) mA0))))) (sSeq (sFor (iRangeN 1 (mAc (oVal (mCall dAbs (mAc (oVar 6) mA0))) mA0)) (gNm 10) (sSeq (sSet 3 (mIf (mtB (mOp dGt (oVar 6) (oVal (mK (.int 0))))) (mCallP (df_times_signs.drop 0) m_times_signs (mAc (oVal (mVar 3)) (mAc (oVal (mVar 7)) mA0))) (mCallP (df_over_signs.drop 0) m_over_signs (mAc (oVal (mVar 3)) (mAc (oVal (mVar 7)) mA0))))) (sSeq (sIf (mtB (mOp dNe (oVar 2) (oVal (mK (.int 0))))) (sSeq (sSet 3 (mLc (iSeq (mVar 3)) (gNm 11) ([11] : List Nat) mtYes (mOp dMod (oVar 11) (oVar 2)))) sNil) sNil) sNil))) sNil))) (sSeq (sRet (mVar 3)) sNil)))
def m_by_factors : MF := mDef 3 9 b_by_factors
def df_row_by_factors : List D := []
def b_row_by_factors : MS := (sSeq (sSet 0 (mCallP (df_need_powers.drop 0) m_need_powers (mAc (oVal (mVar 0)) mA0))) (sSeq (sExpr (mCallP (df_need_many.drop 0) m_need_many (mAc (oVal (mVar 1)) (mAc (oVal (mK (.int 3000))) mA0)))) (sSeq (sRet (mCall dTuple (mAc (oVal (mCallP (df_by_factors.drop 0) m_by_factors (mAc (oVal (mVar 0)) (mAc (oVal (mVar 1)) mA0)))) mA0))) sNil)))
def m_row_by_factors : MF := mDef 2 0 b_row_by_factors
def df_euler_row : List D := []
def b_euler_row : MS := (sSeq (sExpr (mCallP (df_need_many.drop 0) m_need_many (mAc (oVal (mVar 0)) (mAc (oVal (mK (.int 3000))) mA0)))) (sSeq (sSet 1 (mLc (iRangeN 1 (mAc (oVar 0) mA0)) (gNm 2) ([2] : List Nat) mtYes (mIf (mtB (mOp dEq (oVar 2) (oVal (mK (.int 0))))) (mK (.int 1)) (mK (.int 0))))) (sSeq (sFor (iSeq (mCallP (df_euler_signs.drop 0) m_euler_signs (mAc (oVal (mVar 0)) mA0))) (gTp [(gNm 3), (gNm 4)]) (sSeq (sIf (mtB (mOp dLt (oVar 3) (oVar 0))) (sSeq (sSetIx 1 (mVar 3) (mVar 4)) sNil) sNil) sNil)) (sSeq (sRet (mCall dTuple (mAc (oVar 1) mA0))) sNil))))
def m_euler_row : MF := mDef 1 4 b_euler_row
def df_cube_row : List D := []
def b_cube_row : MS := (sSeq (sExpr (mCallP (df_need_many.drop 0) m_need_many (mAc (oVal (mVar 0)) (mAc (oVal (mK (.int 3000))) mA0)))) (sSeq (sPar [1, 2] (mRc (mOp dMul (oVal (mLst (mAc (oVal (mK (.int 0))) mA0))) (oVar 0)) (mRc (mK (.int 0)) mR0))) (sSeq (sWhile 100000 (mtB (mOp dLt (oVal (mOp dFdiv (oVal (mOp dMul (oVar 2) (oVal (mOp dAdd (oVar 2) (oVal (mK (.int 1))))))) (oVal (mK (.int 2))))) (oVar 0))) (sSeq (sSetIx 1 (mOp dFdiv (oVal (mOp dMul (oVar 2) (oVal (mOp dAdd (oVar 2) (oVal (mK (.int 1))))))) (oVal (mK (.int 2)))) (mIf (mtB (mOp dEq (oVal (mOp dAnd (oVar 2) (oVal (mK (.int 1))))) (oVal (mK (.int 0))))) (mOp dAdd (oVal (mOp dMul (oVal (mK (.int 2))) (oVar 2))) (oVal (mK (.int 1)))) (mOp dSub (oVal (mOp dMul (oVal (mUn dNeg (oVal (mK (.int 2))))) (oVar 2))) (oVal (mK (.int 1)))))) (sSeq (sAug 2 dIAdd (mK (.int 1))) sNil))) (sSeq (sRet (mCall dTuple (mAc (oVar 1) mA0))) sNil))))
def m_cube_row : MF := mDef 1 2 b_cube_row
def df__law_pentagons : List D := []
def b__law_pentagons : MS := (sSeq (sPar [1, 2] (mRc (mOp dMul (oVal (mLst (mAc (oVal (mK (.int 0))) mA0))) (oVar 0)) (mRc (mK (.int 0)) mR0))) (sSeq (sWhile 100000 (mtB (mOp dLt (oVal (mOp dFdiv (oVal (mOp dMul (oVar 2) (oVal (mOp dSub (oVal (mOp dMul (oVal (mK (.int 3))) (oVar 2))) (oVal (mK (.int 1))))))) (oVal (mK (.int 2))))) (oVar 0))) (sSeq (sFor (iSeq (mLst (mAc (oVal (mOp dFdiv (oVal (mOp dMul (oVar 2) (oVal (mOp dSub (oVal (mOp dMul (oVal (mK (.int 3))) (oVar 2))) (oVal (mK (.int 1))))))) (oVal (mK (.int 2))))) (mAc (oVal (mOp dFdiv (oVal (mOp dMul (oVar 2) (oVal (mOp dAdd (oVal (mOp dMul (oVal (mK (.int 3))) (oVar 2))) (oVal (mK (.int 1))))))) (oVal (mK (.int 2))))) mA0)))) (gNm 3) (sSeq (sIf (mtB (mOp dLt (oVar 3) (oVar 0))) (sSeq (sSetIx 1 (mVar 3) (mIf (mtB (mOp dEq (oVal (mOp dMod (oVar 2) (oVal (mK (.int 2))))) (oVal (mK (.int 0))))) (mK (.int 1)) (mUn dNeg (oVal (mK (.int 1)))))) sNil) sNil) sNil)) (sSeq (sSet 2 (mOp dAdd (oVar 2) (oVal (mK (.int 1))))) sNil))) (sSeq (sRet (mVar 1)) sNil)))
def m__law_pentagons : MF := mDef 1 3 b__law_pentagons
def df__law_triangles : List D := []
def b__law_triangles : MS := (sSeq (sPar [1, 2] (mRc (mOp dMul (oVal (mLst (mAc (oVal (mK (.int 0))) mA0))) (oVar 0)) (mRc (mK (.int 0)) mR0))) (sSeq (sWhile 100000 (mtB (mOp dLt (oVal (mOp dFdiv (oVal (mOp dMul (oVar 2) (oVal (mOp dAdd (oVar 2) (oVal (mK (.int 1))))))) (oVal (mK (.int 2))))) (oVar 0))) (sSeq (sSetIx 1 (mOp dFdiv (oVal (mOp dMul (oVar 2) (oVal (mOp dAdd (oVar 2) (oVal (mK (.int 1))))))) (oVal (mK (.int 2)))) (mIf (mtB (mOp dEq (oVal (mOp dMod (oVar 2) (oVal (mK (.int 2))))) (oVal (mK (.int 0))))) (mOp dAdd (oVal (mOp dMul (oVal (mK (.int 2))) (oVar 2))) (oVal (mK (.int 1)))) (mOp dSub (oVal (mOp dMul (oVal (mUn dNeg (oVal (mK (.int 2))))) (oVar 2))) (oVal (mK (.int 1)))))) (sSeq (sSet 2 (mOp dAdd (oVar 2) (oVal (mK (.int 1))))) sNil))) (sSeq (sRet (mVar 1)) sNil)))
def m__law_triangles : MF := mDef 1 2 b__law_triangles
def df__law_isqrt : List D := []
def b__law_isqrt : MS := (sSeq (sIf (mtB (mOp dLt (oVar 0) (oVal (mK (.int 2))))) (sSeq (sRet (mVar 0)) sNil) sNil) (sSeq (sSet 1 (mOp dShl (oVal (mK (.int 1))) (oVal (mOp dFdiv (oVal (mOp dAdd (oVal (mUn dBits (oVar 0))) (oVal (mK (.int 1))))) (oVal (mK (.int 2))))))) (sSeq (sSet 2 (mOp dFdiv (oVal (mOp dAdd (oVar 1) (oVal (mOp dFdiv (oVar 0) (oVar 1))))) (oVal (mK (.int 2))))) (sSeq (sWhile 100000 (mtB (mOp dLt (oVar 2) (oVar 1))) (sSeq (sPar [1, 2] (mRc (mVar 2) (mRc (mOp dFdiv (oVal (mOp dAdd (oVar 2) (oVal (mOp dFdiv (oVar 0) (oVar 2))))) (oVal (mK (.int 2)))) mR0))) sNil)) (sSeq (sRet (mVar 1)) sNil)))))
def m__law_isqrt : MF := mDef 1 2 b__law_isqrt
def df__law_root : List D := []
def b__law_root : MS := (sSeq (sIf (mtOr (mtB (mOp dLt (oVar 0) (oVal (mK (.int 0))))) (mtB (mOp dNe (oVal (mOp dPow (oVal (mCallP (df__law_isqrt.drop 0) m__law_isqrt (mAc (oVal (mVar 0)) mA0))) (oVal (mK (.int 2))))) (oVar 0)))) (sSeq (sRet (mK .non)) sNil) sNil) (sSeq (sRet (mCallP (df__law_isqrt.drop 0) m__law_isqrt (mAc (oVal (mVar 0)) mA0))) sNil))
def m__law_root : MF := mDef 1 0 b__law_root
def df__law_squares : List D := []
def b__law_squares : MS := (sSeq (sRet (mLc (iRangeN 1 (mAc (oVar 0) mA0)) (gNm 1) ([1] : List Nat) mtYes (mIf (mtB (mOp dEq (oVar 1) (oVal (mK (.int 0))))) (mK (.int 1)) (mIf (mtB (mOp dNotN (oVal (mCallP (df__law_root.drop 0) m__law_root (mAc (oVal (mVar 1)) mA0))) (oVal (mK .non)))) (mK (.int 2)) (mK (.int 0)))))) sNil)
def m__law_squares : MF := mDef 1 1 b__law_squares
def df__law_signed : List D := []
def b__law_signed : MS := (sSeq (sRet (mLc (iEnumM (mAc (oVal (mVar 0)) mA0)) (gTp [(gNm 1), (gNm 2)]) ([1, 2] : List Nat) mtYes (mIf (mtB (mOp dEq (oVal (mOp dMod (oVar 1) (oVal (mK (.int 2))))) (oVal (mK (.int 0))))) (mVar 2) (mUn dNeg (oVar 2))))) sNil)
def m__law_signed : MF := mDef 1 2 b__law_signed
def df__law_parts : List D := []
def b__law_parts : MS := (sSeq (sPar [1, 2] (mRc (mLc (iEnumM (mAc (oVal (mCallP (df__law_pentagons.drop 0) m__law_pentagons (mAc (oVal (mVar 0)) mA0))) mA0)) (gTp [(gNm 3), (gNm 4)]) ([3, 4] : List Nat) (mtAnd (mtB (mOp dNe (oVar 4) (oVal (mK (.int 0))))) (mtB (mOp dGt (oVar 3) (oVal (mK (.int 0)))))) (mTup (mAc (oVal (mVar 3)) (mAc (oVal (mVar 4)) mA0)))) (mRc (mLst mA0) mR0))) (sSeq (sFor (iRangeN 1 (mAc (oVar 0) mA0)) (gNm 5) (sSeq (sApp 2 (mIf (mtB (mOp dEq (oVar 5) (oVal (mK (.int 0))))) (mK (.int 1)) (mUn dNeg (oVal (mCall dSum (mAc (oVal (mLc (iSeq (mVar 1)) (gTp [(gNm 3), (gNm 4)]) ([3, 4] : List Nat) (mtB (mOp dLe (oVar 3) (oVar 5))) (mOp dMul (oVar 4) (oVal (mOp dIx (oVar 2) (oVal (mOp dSub (oVar 5) (oVar 3)))))))) mA0)))))) sNil)) (sSeq (sRet (mVar 2)) sNil)))
def m__law_parts : MF := mDef 1 5 b__law_parts
def df__law_two_squares : List D := []
def b__law_two_squares : MS := (sSeq (sSet 1 (mOp dAdd (oVal (mLst (mAc (oVal (mK (.int 1))) mA0))) (oVal (mOp dMul (oVal (mLst (mAc (oVal (mK (.int 0))) mA0))) (oVal (mOp dSub (oVar 0) (oVal (mK (.int 1))))))))) (sSeq (sFor (iRangeN 3 (mAc (oVal (mK (.int 1))) (mAc (oVar 0) (mAc (oVal (mK (.int 2))) mA0)))) (gNm 2) (sSeq (sFor (iRangeN 3 (mAc (oVar 2) (mAc (oVar 0) (mAc (oVar 2) mA0)))) (gNm 3) (sSeq (sSetIx 1 (mVar 3) (mOp dAdd (oVal (mOp dIx (oVar 1) (oVar 3))) (oVal (mIf (mtB (mOp dEq (oVal (mOp dMod (oVar 2) (oVal (mK (.int 4))))) (oVal (mK (.int 1))))) (mK (.int 4)) (mUn dNeg (oVal (mK (.int 4)))))))) sNil)) sNil)) (sSeq (sRet (mVar 1)) sNil)))
def m__law_two_squares : MF := mDef 1 3 b__law_two_squares
def df__law_listed : List D := []
def b__law_listed : MS := (sSeq (sRet (mIf (mtB (mOp dEq (oVal (mCallQ (df__law_draw.drop 0) m__law_draw (mAc (oVar 0) (mAc (oVal (mK (.int 2))) mA0)))) (oVal (mK (.int 0))))) (mCall dList (mAc (oVar 1) mA0)) (mCall dTuple (mAc (oVar 1) mA0)))) sNil)
def m__law_listed : MF := mDef 2 0 b__law_listed
def df__law_shuffled : List D := []
def b__law_shuffled : MS := (sSeq (sPar [2, 3] (mRc (mCall dList (mAc (oVar 1) mA0)) (mRc (mLst mA0) mR0))) (sSeq (sFor (iRangeN 1 (mAc (oVal (mCall dLen (mAc (oVar 1) mA0))) mA0)) (gNm 4) (sSeq (sApp 3 (mPopAt 2 (mCallQ (df__law_draw.drop 0) m__law_draw (mAc (oVar 0) (mAc (oVal (mCall dLen (mAc (oVar 2) mA0))) mA0))))) sNil)) (sSeq (sRet (mVar 3)) sNil)))
def m__law_shuffled : MF := mDef 2 3 b__law_shuffled
def df__law_p_given : List D := []
def b__law_p_given : MS := (sSeq (sRet (mCallQ (df__law_listed.drop 0) m__law_listed (mAc (oVar 0) (mAc (oVal (mLc (iSeq (mCallQ (df__law_shuffled.drop 0) m__law_shuffled (mAc (oVar 0) (mAc (oVal (mCall dList (mAc (oVar 1) mA0))) mA0)))) (gNm 2) ([2] : List Nat) mtYes (mCallQ (df__law_listed.drop 0) m__law_listed (mAc (oVar 0) (mAc (oVal (mVar 2)) mA0))))) mA0)))) sNil)
def m__law_p_given : MF := mDef 2 1 b__law_p_given
def df__law_spread : List D := []
def b__law_spread : MS := (sSeq (sRet (mLc (iRangeN 1 (mAc (oVar 2) mA0)) (gNm 3) ([3] : List Nat) mtYes (mIf (mtB (mOp dEq (oVal (mOp dMod (oVar 3) (oVar 1))) (oVal (mK (.int 0))))) (mOp dIx (oVar 0) (oVal (mOp dFdiv (oVar 3) (oVar 1)))) (mK (.int 0))))) sNil)
def m__law_spread : MF := mDef 3 1 b__law_spread
def df_law : List D := []
def b_law : MS := (sSeq (sSet 1 (mCallP (df__law_pen.drop 0) m__law_pen (mAc (oVal (mVar 0)) mA0))) (sSeq (sPar [2, 3] (mRc (mOp dAdd (oVal (mK (.int 100))) (oVal (mCallQ (df__law_draw.drop 0) m__law_draw (mAc (oVar 1) (mAc (oVal (mK (.int 300))) mA0))))) (mRc (mOp dAdd (oVal (mK (.int 1))) (oVal (mCallQ (df__law_draw.drop 0) m__law_draw (mAc (oVar 1) (mAc (oVal (mK (.int 6))) mA0))))) mR0))) (sSeq (sIf (mtOr (mtB (mOp dNe (oVal (mCallP (df_euler_row.drop 0) m_euler_row (mAc (oVal (mVar 2)) mA0))) (oVal (mCall dTuple (mAc (oVal (mCallP (df__law_pentagons.drop 0) m__law_pentagons (mAc (oVal (mVar 2)) mA0))) mA0))))) (mtB (mOp dNe (oVal (mCallP (df_cube_row.drop 0) m_cube_row (mAc (oVal (mVar 2)) mA0))) (oVal (mCall dTuple (mAc (oVal (mCallP (df__law_triangles.drop 0) m__law_triangles (mAc (oVal (mVar 2)) mA0))) mA0)))))) (sSeq (sRet (mK (.bl false))) sNil) sNil) (sSeq (sSet 4 (mLst (mAc (oVal (mTup (mAc (oVal (mTup (mAc (oVal (mTup (mAc (oVal (mK (.int 1))) (mAc (oVal (mK (.int 1))) mA0)))) mA0))) (mAc (oVal (mCallP (df__law_pentagons.drop 0) m__law_pentagons (mAc (oVal (mVar 2)) mA0))) mA0)))) (mAc (oVal (mTup (mAc (oVal (mTup (mAc (oVal (mTup (mAc (oVal (mK (.int 1))) (mAc (oVal (mK (.int 3))) mA0)))) mA0))) (mAc (oVal (mCallP (df__law_triangles.drop 0) m__law_triangles (mAc (oVal (mVar 2)) mA0))) mA0)))) (mAc (oVal (mTup (mAc (oVal (mTup (mAc (oVal (mTup (mAc (oVal (mK (.int 1))) (mAc (oVal (mUn dNeg (oVal (mK (.int 2))))) mA0)))) (mAc (oVal (mTup (mAc (oVal (mK (.int 2))) (mAc (oVal (mK (.int 5))) mA0)))) (mAc (oVal (mTup (mAc (oVal (mK (.int 4))) (mAc (oVal (mUn dNeg (oVal (mK (.int 2))))) mA0)))) mA0))))) (mAc (oVal (mCallP (df__law_squares.drop 0) m__law_squares (mAc (oVal (mVar 2)) mA0))) mA0)))) (mAc (oVal (mTup (mAc (oVal (mTup (mAc (oVal (mTup (mAc (oVal (mK (.int 1))) (mAc (oVal (mK (.int 2))) mA0)))) (mAc (oVal (mTup (mAc (oVal (mK (.int 2))) (mAc (oVal (mUn dNeg (oVal (mK (.int 1))))) mA0)))) mA0)))) (mAc (oVal (mCallP (df__law_signed.drop 0) m__law_signed (mAc (oVal (mCallP (df__law_squares.drop 0) m__law_squares (mAc (oVal (mVar 2)) mA0))) mA0))) mA0)))) (mAc (oVal (mTup (mAc (oVal (mTup (mAc (oVal (mTup (mAc (oVal (mK (.int 1))) (mAc (oVal (mUn dNeg (oVal (mK (.int 1))))) mA0)))) mA0))) (mAc (oVal (mCallP (df__law_parts.drop 0) m__law_parts (mAc (oVal (mVar 2)) mA0))) mA0)))) (mAc (oVal (mTup (mAc (oVal (mTup (mAc (oVal (mTup (mAc (oVal (mK (.int 1))) (mAc (oVal (mUn dNeg (oVal (mK (.int 4))))) mA0)))) (mAc (oVal (mTup (mAc (oVal (mK (.int 2))) (mAc (oVal (mK (.int 10))) mA0)))) (mAc (oVal (mTup (mAc (oVal (mK (.int 4))) (mAc (oVal (mUn dNeg (oVal (mK (.int 4))))) mA0)))) mA0))))) (mAc (oVal (mCallP (df__law_two_squares.drop 0) m__law_two_squares (mAc (oVal (mVar 2)) mA0))) mA0)))) (mAc (oVal (mTup (mAc (oVal (mTup (mAc (oVal (mTup (mAc (oVal (mK (.int 1))) (mAc (oVal (mK (.int 4))) mA0)))) (mAc (oVal (mTup (mAc (oVal (mK (.int 2))) (mAc (oVal (mUn dNeg (oVal (mK (.int 2))))) mA0)))) mA0)))) (mAc (oVal (mCallP (df__law_signed.drop 0) m__law_signed (mAc (oVal (mCallP (df__law_two_squares.drop 0) m__law_two_squares (mAc (oVal (mVar 2)) mA0))) mA0))) mA0)))) mA0))))))))) (sSeq (sAsg (gTp [(gNm 5), (gNm 6)]) (mCallQ (df__law_pick.drop 0) m__law_pick (mAc (oVar 1) (mAc (oVal (mVar 4)) mA0)))) (sSeq (sSet 7 (mCall dTuple (mAc (oVal (mLc (iSeq (mVar 5)) (gTp [(gNm 8), (gNm 9)]) ([8, 9] : List Nat) mtYes (mTup (mAc (oVal (mOp dMul (oVar 3) (oVar 8))) (mAc (oVal (mVar 9)) mA0))))) mA0))) (sSeq (sIf (mtB (mOp dNe (oVal (mCallP (df_product_row.drop 0) m_product_row (mAc (oVal (mCallQ (df__law_p_given.drop 0) m__law_p_given (mAc (oVar 1) (mAc (oVal (mVar 7)) mA0)))) (mAc (oVal (mVar 2)) mA0)))) (oVal (mCall dTuple (mAc (oVal (mCallP (df__law_spread.drop 0) m__law_spread (mAc (oVal (mVar 6)) (mAc (oVal (mVar 3)) (mAc (oVal (mVar 2)) mA0))))) mA0))))) (sSeq (sRet (mK (.bl false))) sNil) sNil) (sSeq (sIf (mtB (mOp dNe (oVal (mCallP (df_row_by_factors.drop 0) m_row_by_factors (mAc (oVal (mCallQ (df__law_p_given.drop 0) m__law_p_given (mAc (oVar 1) (mAc (oVal (mVar 5)) mA0)))) (mAc (oVal (mVar 2)) mA0)))) (oVal (mCall dTuple (mAc (oVar 6) mA0))))) (sSeq (sRet (mK (.bl false))) sNil) sNil) (sSeq (sSet 10 (mCallP (df_product_row.drop 0) m_product_row (mAc (oVal (mTup (mAc (oVal (mTup (mAc (oVal (mK (.int 1))) (mAc (oVal (mUn dNeg (oVal (mK (.int 1))))) mA0)))) (mAc (oVal (mTup (mAc (oVal (mK (.int 2))) (mAc (oVal (mK (.int 2))) mA0)))) mA0)))) (mAc (oVal (mVar 2)) mA0)))) (sSeq (sIf (mtB (mOp dNe (oVar 10) (oVal (mCall dTuple (mAc (oVal (mLc (iRangeN 1 (mAc (oVar 2) mA0)) (gNm 11) ([11] : List Nat) mtYes (mIf (mtB (mOp dNotN (oVal (mCallP (df__law_root.drop 0) m__law_root (mAc (oVal (mOp dAdd (oVal (mOp dMul (oVal (mK (.int 8))) (oVar 11))) (oVal (mK (.int 1))))) mA0))) (oVal (mK .non)))) (mK (.int 1)) (mK (.int 0))))) mA0))))) (sSeq (sRet (mK (.bl false))) sNil) sNil) (sSeq (sRet (mOp dGe (oVal (mCall dMin (mAc (oVal (mCallP (df_product_row.drop 0) m_product_row (mAc (oVal (mTup (mAc (oVal (mTup (mAc (oVal (mK (.int 1))) (mAc (oVal (mUn dNeg (oVal (mK (.int 3))))) mA0)))) (mAc (oVal (mTup (mAc (oVal (mK (.int 2))) (mAc (oVal (mK (.int 6))) mA0)))) mA0)))) (mAc (oVal (mVar 2)) mA0)))) mA0))) (oVal (mK (.int 1))))) sNil)))))))))))
def m_law : MF := mDef 1 11 b_law
/-! ### what stands behind the top -/
structure Tx (K : PySem.W.Frag) (mg : Str → Option Value) : Prop where
  n_abs : mg "abs" = none
  n_all : mg "all" = none
  n_bool : mg "bool" = none
  n_enumerate : mg "enumerate" = none
  n_int : mg "int" = none
  n_isinstance : mg "isinstance" = none
  n_len : mg "len" = none
  n_list : mg "list" = none
  n_min : mg "min" = none
  n_range : mg "range" = none
  n_set : mg "set" = none
  n_sorted : mg "sorted" = none
  n_sum : mg "sum" = none
  n_tuple : mg "tuple" = none
  i_MOST_MANY : ∃ t, mg "MOST_MANY" = some (.int 3000 t)
  i_MOST_PLACE : ∃ t, mg "MOST_PLACE" = some (.int 1000 t)
  i_MOST_POWER : ∃ t, mg "MOST_POWER" = some (.int 1000 t)
  d__law_pen : ∃ fd, FunD K "_law_pen" "_law_pen" (defArgs s__law_pen) (defBody s__law_pen) (defScope s__law_pen) (df__law_pen.map scV) [] (He.ga K "_law_pen") fd
  g__law_pen : mg "_law_pen" = some (.ref (He.ga K "_law_pen"))
  d__law_draw : ∃ fd, FunD K "_law_draw" "_law_draw" (defArgs s__law_draw) (defBody s__law_draw) (defScope s__law_draw) (df__law_draw.map scV) [] (He.ga K "_law_draw") fd
  g__law_draw : mg "_law_draw" = some (.ref (He.ga K "_law_draw"))
  d__law_pick : ∃ fd, FunD K "_law_pick" "_law_pick" (defArgs s__law_pick) (defBody s__law_pick) (defScope s__law_pick) (df__law_pick.map scV) [] (He.ga K "_law_pick") fd
  g__law_pick : mg "_law_pick" = some (.ref (He.ga K "_law_pick"))
  d_is_row : ∃ fd, FunD K "is_row" "is_row" (defArgs s_is_row) (defBody s_is_row) (defScope s_is_row) (df_is_row.map scV) [] (He.ga K "is_row") fd
  g_is_row : mg "is_row" = some (.ref (He.ga K "is_row"))
  d_is_integer : ∃ fd, FunD K "is_integer" "is_integer" (defArgs s_is_integer) (defBody s_is_integer) (defScope s_is_integer) (df_is_integer.map scV) [] (He.ga K "is_integer") fd
  g_is_integer : mg "is_integer" = some (.ref (He.ga K "is_integer"))
  d_are_integers : ∃ fd, FunD K "are_integers" "are_integers" (defArgs s_are_integers) (defBody s_are_integers) (defScope s_are_integers) (df_are_integers.map scV) [] (He.ga K "are_integers") fd
  g_are_integers : mg "are_integers" = some (.ref (He.ga K "are_integers"))
  d_is_item : ∃ fd, FunD K "is_item" "is_item" (defArgs s_is_item) (defBody s_is_item) (defScope s_is_item) (df_is_item.map scV) [] (He.ga K "is_item") fd
  g_is_item : mg "is_item" = some (.ref (He.ga K "is_item"))
  d_need_powers : ∃ fd, FunD K "need_powers" "need_powers" (defArgs s_need_powers) (defBody s_need_powers) (defScope s_need_powers) (df_need_powers.map scV) [] (He.ga K "need_powers") fd
  g_need_powers : mg "need_powers" = some (.ref (He.ga K "need_powers"))
  d_is_count : ∃ fd, FunD K "is_count" "is_count" (defArgs s_is_count) (defBody s_is_count) (defScope s_is_count) (df_is_count.map scV) [] (He.ga K "is_count") fd
  g_is_count : mg "is_count" = some (.ref (He.ga K "is_count"))
  d_need_many : ∃ fd, FunD K "need_many" "need_many" (defArgs s_need_many) (defBody s_need_many) (defScope s_need_many) (df_need_many.map scV) [] (He.ga K "need_many") fd
  g_need_many : mg "need_many" = some (.ref (He.ga K "need_many"))
  d_sums_for : ∃ fd, FunD K "sums_for" "sums_for" (defArgs s_sums_for) (defBody s_sums_for) (defScope s_sums_for) (df_sums_for.map scV) [] (He.ga K "sums_for") fd
  g_sums_for : mg "sums_for" = some (.ref (He.ga K "sums_for"))
  d_by_sums : ∃ fd, FunD K "by_sums" "by_sums" (defArgs s_by_sums) (defBody s_by_sums) (defScope s_by_sums) (df_by_sums.map scV) [] (He.ga K "by_sums") fd
  g_by_sums : mg "by_sums" = some (.ref (He.ga K "by_sums"))
  d_product_row : ∃ fd, FunD K "product_row" "product_row" (defArgs s_product_row) (defBody s_product_row) (defScope s_product_row) (df_product_row.map scV) [] (He.ga K "product_row") fd
  g_product_row : mg "product_row" = some (.ref (He.ga K "product_row"))
  d_euler_signs : ∃ fd, FunD K "euler_signs" "euler_signs" (defArgs s_euler_signs) (defBody s_euler_signs) (defScope s_euler_signs) (df_euler_signs.map scV) [] (He.ga K "euler_signs") fd
  g_euler_signs : mg "euler_signs" = some (.ref (He.ga K "euler_signs"))
  d_times_signs : ∃ fd, FunD K "times_signs" "times_signs" (defArgs s_times_signs) (defBody s_times_signs) (defScope s_times_signs) (df_times_signs.map scV) [] (He.ga K "times_signs") fd
  g_times_signs : mg "times_signs" = some (.ref (He.ga K "times_signs"))
  d_over_signs : ∃ fd, FunD K "over_signs" "over_signs" (defArgs s_over_signs) (defBody s_over_signs) (defScope s_over_signs) (df_over_signs.map scV) [] (He.ga K "over_signs") fd
  g_over_signs : mg "over_signs" = some (.ref (He.ga K "over_signs"))
  d_by_factors : ∃ fd, FunD K "by_factors" "by_factors" (defArgs s_by_factors) (defBody s_by_factors) (defScope s_by_factors) (df_by_factors.map scV) [] (He.ga K "by_factors") fd
  g_by_factors : mg "by_factors" = some (.ref (He.ga K "by_factors"))
  d_row_by_factors : ∃ fd, FunD K "row_by_factors" "row_by_factors" (defArgs s_row_by_factors) (defBody s_row_by_factors) (defScope s_row_by_factors) (df_row_by_factors.map scV) [] (He.ga K "row_by_factors") fd
  g_row_by_factors : mg "row_by_factors" = some (.ref (He.ga K "row_by_factors"))
  d_euler_row : ∃ fd, FunD K "euler_row" "euler_row" (defArgs s_euler_row) (defBody s_euler_row) (defScope s_euler_row) (df_euler_row.map scV) [] (He.ga K "euler_row") fd
  g_euler_row : mg "euler_row" = some (.ref (He.ga K "euler_row"))
  d_cube_row : ∃ fd, FunD K "cube_row" "cube_row" (defArgs s_cube_row) (defBody s_cube_row) (defScope s_cube_row) (df_cube_row.map scV) [] (He.ga K "cube_row") fd
  g_cube_row : mg "cube_row" = some (.ref (He.ga K "cube_row"))
  d__law_pentagons : ∃ fd, FunD K "_law_pentagons" "_law_pentagons" (defArgs s__law_pentagons) (defBody s__law_pentagons) (defScope s__law_pentagons) (df__law_pentagons.map scV) [] (He.ga K "_law_pentagons") fd
  g__law_pentagons : mg "_law_pentagons" = some (.ref (He.ga K "_law_pentagons"))
  d__law_triangles : ∃ fd, FunD K "_law_triangles" "_law_triangles" (defArgs s__law_triangles) (defBody s__law_triangles) (defScope s__law_triangles) (df__law_triangles.map scV) [] (He.ga K "_law_triangles") fd
  g__law_triangles : mg "_law_triangles" = some (.ref (He.ga K "_law_triangles"))
  d__law_isqrt : ∃ fd, FunD K "_law_isqrt" "_law_isqrt" (defArgs s__law_isqrt) (defBody s__law_isqrt) (defScope s__law_isqrt) (df__law_isqrt.map scV) [] (He.ga K "_law_isqrt") fd
  g__law_isqrt : mg "_law_isqrt" = some (.ref (He.ga K "_law_isqrt"))
  d__law_root : ∃ fd, FunD K "_law_root" "_law_root" (defArgs s__law_root) (defBody s__law_root) (defScope s__law_root) (df__law_root.map scV) [] (He.ga K "_law_root") fd
  g__law_root : mg "_law_root" = some (.ref (He.ga K "_law_root"))
  d__law_squares : ∃ fd, FunD K "_law_squares" "_law_squares" (defArgs s__law_squares) (defBody s__law_squares) (defScope s__law_squares) (df__law_squares.map scV) [] (He.ga K "_law_squares") fd
  g__law_squares : mg "_law_squares" = some (.ref (He.ga K "_law_squares"))
  d__law_signed : ∃ fd, FunD K "_law_signed" "_law_signed" (defArgs s__law_signed) (defBody s__law_signed) (defScope s__law_signed) (df__law_signed.map scV) [] (He.ga K "_law_signed") fd
  g__law_signed : mg "_law_signed" = some (.ref (He.ga K "_law_signed"))
  d__law_parts : ∃ fd, FunD K "_law_parts" "_law_parts" (defArgs s__law_parts) (defBody s__law_parts) (defScope s__law_parts) (df__law_parts.map scV) [] (He.ga K "_law_parts") fd
  g__law_parts : mg "_law_parts" = some (.ref (He.ga K "_law_parts"))
  d__law_two_squares : ∃ fd, FunD K "_law_two_squares" "_law_two_squares" (defArgs s__law_two_squares) (defBody s__law_two_squares) (defScope s__law_two_squares) (df__law_two_squares.map scV) [] (He.ga K "_law_two_squares") fd
  g__law_two_squares : mg "_law_two_squares" = some (.ref (He.ga K "_law_two_squares"))
  d__law_listed : ∃ fd, FunD K "_law_listed" "_law_listed" (defArgs s__law_listed) (defBody s__law_listed) (defScope s__law_listed) (df__law_listed.map scV) [] (He.ga K "_law_listed") fd
  g__law_listed : mg "_law_listed" = some (.ref (He.ga K "_law_listed"))
  d__law_shuffled : ∃ fd, FunD K "_law_shuffled" "_law_shuffled" (defArgs s__law_shuffled) (defBody s__law_shuffled) (defScope s__law_shuffled) (df__law_shuffled.map scV) [] (He.ga K "_law_shuffled") fd
  g__law_shuffled : mg "_law_shuffled" = some (.ref (He.ga K "_law_shuffled"))
  d__law_p_given : ∃ fd, FunD K "_law_p_given" "_law_p_given" (defArgs s__law_p_given) (defBody s__law_p_given) (defScope s__law_p_given) (df__law_p_given.map scV) [] (He.ga K "_law_p_given") fd
  g__law_p_given : mg "_law_p_given" = some (.ref (He.ga K "_law_p_given"))
  d__law_spread : ∃ fd, FunD K "_law_spread" "_law_spread" (defArgs s__law_spread) (defBody s__law_spread) (defScope s__law_spread) (df__law_spread.map scV) [] (He.ga K "_law_spread") fd
  g__law_spread : mg "_law_spread" = some (.ref (He.ga K "_law_spread"))
  d_law : ∃ fd, FunD K "law" "law" (defArgs s_law) (defBody s_law) (defScope s_law) (df_law.map scV) [] (He.ga K "law") fd
  g_law : mg "law" = some (.ref (He.ga K "law"))
section
variable {P : Program} {w : World} {K : PySem.W.Frag} {mg : Str → Option Value} {base : Heap}
theorem sc__law_pen : FnScope ["script", "fold", "cell"] ["script"] (defScope s__law_pen) := ⟨rfl, rfl, rfl, by decide +kernel, rfl, by decide +kernel, by decide +kernel⟩
theorem body__law_pen (T : Tx K mg) {k : Nat} (hk : 0 ≤ k) {f : Addr} {cdv : Value} {A : Around} {outer : List PySem.Env} {s : Shared} {H : Hp} {E : XK} (hr : Room k (A.deeper (envOfC "_law_pen" (defScope s__law_pen) s.heap.objs.size f cdv))) : MSs (cxOf (L2.CX P w) P w K mg base ["script", "fold", "cell"] "_law_pen" (defScope s__law_pen) f cdv A outer s H E) (fun cls d _ H => E cls d H) (defBody s__law_pen) b__law_pen := by
  have hr := hr.mono hk
  have nd := sc__law_pen.nd
  have tk : Takes (cxOf (L2.CX P w) P w K mg base ["script", "fold", "cell"] "_law_pen" (defScope s__law_pen) f cdv A outer s H E) (fun cls d _ H => E cls d H) := takes_of rfl rfl rfl rfl
  have lp : PassesOwn (model P w) (A.deeper (envOfC "_law_pen" (defScope s__law_pen) s.heap.objs.size f cdv)) (envOfC "_law_pen" (defScope s__law_pen) s.heap.objs.size f cdv) (cxOf (L2.CX P w) P w K mg base ["script", "fold", "cell"] "_law_pen" (defScope s__law_pen) f cdv A outer s H E).xe := passes_of (X := cxOf (L2.CX P w) P w K mg base ["script", "fold", "cell"] "_law_pen" (defScope s__law_pen) f cdv A outer s H E) rfl
  exact (mss_cons (ms_set nd rfl (by first | exact Or.inl rfl | exact Or.inr rfl) me_int) (mss_cons (ms_for lp rfl (mi_seq (me_var 0)) (mg_name nd rfl (by first | exact Or.inl rfl | exact Or.inr rfl)) (mss_cons (ms_set nd rfl (by first | exact Or.inl rfl | exact Or.inr rfl) (me_op op_mod s_mod (mo_of (me_toInt T.n_int (ma_cons (mo_of (me_op op_addAll s_add (mo_of (me_op op_mulAll s_mul (mo_var 1) (mo_of me_int))) (mo_var 2))) ma_nil))) (mo_of me_int))) mss_nil)) (mss_cons (ms_ret (me_dict (mps_cons me_str (me_toList T.n_list (ma_cons (mo_var 0) ma_nil)) (mps_cons me_str me_int (mps_cons me_str me_int (mps_cons me_str me_int (mps_cons me_str (me_var 1) mps_nil))))))) mss_nil)))
theorem ok__law_pen (T : Tx K mg) : Fn P w K mg base 1 "_law_pen" ["script"] df__law_pen m__law_pen := by
  obtain ⟨fd, F⟩ := T.d__law_pen
  exact ⟨⟨fd, def_ok (n := 1) 2 F sc__law_pen rfl rfl fun cdv A outer s H E hr => body__law_pen T (by decide) hr, lk_of F, fun j hj => by
    have e : j = 0 := by simpa [df__law_pen] using hj
    subst e
    exact ⟨[], .nil, F.bindsN fun _ _ _ _ _ _ us hl => match us, hl with | [_], _ => rfl⟩⟩, T.g__law_pen, F.kp⟩
theorem sc__law_draw : FnScope ["pen", "many", "cell", "digit", "mixed"] ["pen", "many"] (defScope s__law_draw) := ⟨rfl, rfl, rfl, by decide +kernel, rfl, by decide +kernel, by decide +kernel⟩
theorem body__law_draw (T : Tx K mg) {k : Nat} (hk : 0 ≤ k) {f : Addr} {cdv : Value} {A : Around} {outer : List PySem.Env} {s : Shared} {H : Hp} {E : XK} (hr : Room k (A.deeper (envOfC "_law_draw" (defScope s__law_draw) s.heap.objs.size f cdv))) : MSs (cxOf (L2.CX P w) P w K mg base ["pen", "many", "cell", "digit", "mixed"] "_law_draw" (defScope s__law_draw) f cdv A outer s H E) (fun cls d _ H => E cls d H) (defBody s__law_draw) b__law_draw := by
  have hr := hr.mono hk
  have nd := sc__law_draw.nd
  have tk : Takes (cxOf (L2.CX P w) P w K mg base ["pen", "many", "cell", "digit", "mixed"] "_law_draw" (defScope s__law_draw) f cdv A outer s H E) (fun cls d _ H => E cls d H) := takes_of rfl rfl rfl rfl
  have lp : PassesOwn (model P w) (A.deeper (envOfC "_law_draw" (defScope s__law_draw) s.heap.objs.size f cdv)) (envOfC "_law_draw" (defScope s__law_draw) s.heap.objs.size f cdv) (cxOf (L2.CX P w) P w K mg base ["pen", "many", "cell", "digit", "mixed"] "_law_draw" (defScope s__law_draw) f cdv A outer s H E).xe := passes_of (X := cxOf (L2.CX P w) P w K mg base ["pen", "many", "cell", "digit", "mixed"] "_law_draw" (defScope s__law_draw) f cdv A outer s H E) rfl
  exact (mss_cons (ms_dput (ps_dput (u1 hr) (pv 0) me_str (me_op op_addAll s_add (mo_of (me_dget (u1 hr) (mo_var 0) (mo_of me_str))) (mo_of me_int)) (by rfl))) (mss_cons (ms_if (mt_w (mw_and (mt_cmp (op_eqD (u64 hr)) s_eq (mo_of (me_dget (u1 hr) (mo_var 0) (mo_of me_str))) (mo_of me_int) (nomark _)) (mw_and1 (mt_cmp op_lt s_lt (mo_of (me_dget (u1 hr) (mo_var 0) (mo_of me_str))) (mo_of (me_len T.n_len (ma_cons (mo_of (me_dget (u1 hr) (mo_var 0) (mo_of me_str))) ma_nil))) (nomark _))))) (mss_cons (ms_set nd rfl (by first | exact Or.inl rfl | exact Or.inr rfl) (me_ix (mo_of (me_dget (u1 hr) (mo_var 0) (mo_of me_str))) (mo_of (me_dget (u1 hr) (mo_var 0) (mo_of me_str))))) (mss_cons (ms_dput (ps_dput (u1 hr) (pv 0) me_str (me_op op_addAll s_add (mo_of (me_dget (u1 hr) (mo_var 0) (mo_of me_str))) (mo_of me_int)) (by rfl))) (mss_cons (ms_if (mt_cmp op_ge s_ge (mo_var 2) (mo_of (me_op op_pow s_pow (mo_of me_int) (mo_of me_int))) (nomark _)) (mss_cons (ms_dput (ps_dput (u1 hr) (pv 0) me_str (me_op op_sub s_sub (mo_var 2) (mo_of (me_op op_pow s_pow (mo_of me_int) (mo_of me_int)))) (by rfl))) mss_nil) (mss_cons (ms_dput (ps_dput (u1 hr) (pv 0) me_str (me_op op_mod s_mod (mo_of (me_toInt T.n_int (ma_cons (mo_of (me_op op_addAll s_add (mo_of (me_op op_mulAll s_mul (mo_of (me_dget (u1 hr) (mo_var 0) (mo_of me_str))) (mo_of me_int))) (mo_var 2))) ma_nil))) (mo_of me_int)) (by rfl))) mss_nil)) mss_nil))) mss_nil) (mss_cons (ms_if (mt_cmp op_gt s_gt (mo_of (me_dget (u1 hr) (mo_var 0) (mo_of me_str))) (mo_of me_int) (nomark _)) (mss_cons (ms_set nd rfl (by first | exact Or.inl rfl | exact Or.inr rfl) (me_op op_mod s_mod (mo_of (me_toInt T.n_int (ma_cons (mo_of (me_dget (u1 hr) (mo_var 0) (mo_of me_str))) ma_nil))) (mo_var 1))) (mss_cons (ms_dput (ps_dput (u1 hr) (pv 0) me_str (me_op op_fdiv s_fdiv (mo_of (me_dget (u1 hr) (mo_var 0) (mo_of me_str))) (mo_var 1)) (by rfl))) (mss_cons (ms_ret (me_var 3)) mss_nil))) mss_nil) (mss_cons (ms_set nd rfl (by first | exact Or.inl rfl | exact Or.inr rfl) (me_op op_addAll s_add (mo_of (me_op op_addAll s_add (mo_of (me_dget (u1 hr) (mo_var 0) (mo_of me_str))) (mo_of (me_op op_mulAll s_mul (mo_of (me_dget (u1 hr) (mo_var 0) (mo_of me_str))) (mo_of me_int))))) (mo_of me_int))) (mss_cons (ms_ret (me_op op_mod s_mod (mo_of (me_op op_fdiv s_fdiv (mo_of (me_toInt T.n_int (ma_cons (mo_of (me_op op_mod s_mod (mo_of (me_op op_pow s_pow (mo_var 4) (mo_of me_int))) (mo_of me_int))) ma_nil))) (mo_of me_int))) (mo_var 1))) mss_nil)))))
theorem ok__law_draw (T : Tx K mg) : Fn P w K mg base 1 "_law_draw" ["pen", "many"] df__law_draw m__law_draw := by
  obtain ⟨fd, F⟩ := T.d__law_draw
  exact ⟨⟨fd, def_ok (n := 2) 3 F sc__law_draw rfl rfl fun cdv A outer s H E hr => body__law_draw T (by decide) hr, lk_of F, fun j hj => by
    have e : j = 0 := by simpa [df__law_draw] using hj
    subst e
    exact ⟨[], .nil, F.bindsN fun _ _ _ _ _ _ us hl => match us, hl with | [_, _], _ => rfl⟩⟩, T.g__law_draw, F.kp⟩
theorem sc__law_pick : FnScope ["pen", "some"] ["pen", "some"] (defScope s__law_pick) := ⟨rfl, rfl, rfl, by decide +kernel, rfl, by decide +kernel, by decide +kernel⟩
theorem body__law_pick (T : Tx K mg) {k : Nat} (hk : 1 ≤ k) {f : Addr} {cdv : Value} {A : Around} {outer : List PySem.Env} {s : Shared} {H : Hp} {E : XK} (hr : Room k (A.deeper (envOfC "_law_pick" (defScope s__law_pick) s.heap.objs.size f cdv))) : MSs (cxOf (L2.CX P w) P w K mg base ["pen", "some"] "_law_pick" (defScope s__law_pick) f cdv A outer s H E) (fun cls d _ H => E cls d H) (defBody s__law_pick) b__law_pick := by
  have hr := hr.mono hk
  have nd := sc__law_pick.nd
  have tk : Takes (cxOf (L2.CX P w) P w K mg base ["pen", "some"] "_law_pick" (defScope s__law_pick) f cdv A outer s H E) (fun cls d _ H => E cls d H) := takes_of rfl rfl rfl rfl
  have lp : PassesOwn (model P w) (A.deeper (envOfC "_law_pick" (defScope s__law_pick) s.heap.objs.size f cdv)) (envOfC "_law_pick" (defScope s__law_pick) s.heap.objs.size f cdv) (cxOf (L2.CX P w) P w K mg base ["pen", "some"] "_law_pick" (defScope s__law_pick) f cdv A outer s H E).xe := passes_of (X := cxOf (L2.CX P w) P w K mg base ["pen", "some"] "_law_pick" (defScope s__law_pick) f cdv A outer s H E) rfl
  exact (mss_cons (ms_ret (me_ix (mo_var 1) (mo_of (me_fnQ (ok__law_draw T) 0 hr tk (ma_cons (mo_var 0) (ma_cons (mo_of (me_len T.n_len (ma_cons (mo_var 1) ma_nil))) ma_nil)))))) mss_nil)
theorem ok__law_pick (T : Tx K mg) : Fn P w K mg base 2 "_law_pick" ["pen", "some"] df__law_pick m__law_pick := by
  obtain ⟨fd, F⟩ := T.d__law_pick
  exact ⟨⟨fd, def_ok (n := 2) 0 F sc__law_pick rfl rfl fun cdv A outer s H E hr => body__law_pick T (by decide) hr, lk_of F, fun j hj => by
    have e : j = 0 := by simpa [df__law_pick] using hj
    subst e
    exact ⟨[], .nil, F.bindsN fun _ _ _ _ _ _ us hl => match us, hl with | [_, _], _ => rfl⟩⟩, T.g__law_pick, F.kp⟩
theorem sc_is_row : FnScope ["value"] ["value"] (defScope s_is_row) := ⟨rfl, rfl, rfl, by decide +kernel, rfl, by decide +kernel, by decide +kernel⟩
theorem body_is_row (T : Tx K mg) {k : Nat} (hk : 0 ≤ k) {f : Addr} {cdv : Value} {A : Around} {outer : List PySem.Env} {s : Shared} {H : Hp} {E : XK} (hr : Room k (A.deeper (envOfC "is_row" (defScope s_is_row) s.heap.objs.size f cdv))) : MSs (cxOf (L2.CX P w) P w K mg base ["value"] "is_row" (defScope s_is_row) f cdv A outer s H E) (fun cls d _ H => E cls d H) (defBody s_is_row) b_is_row := by
  have hr := hr.mono hk
  have nd := sc_is_row.nd
  have tk : Takes (cxOf (L2.CX P w) P w K mg base ["value"] "is_row" (defScope s_is_row) f cdv A outer s H E) (fun cls d _ H => E cls d H) := takes_of rfl rfl rfl rfl
  have lp : PassesOwn (model P w) (A.deeper (envOfC "is_row" (defScope s_is_row) s.heap.objs.size f cdv)) (envOfC "is_row" (defScope s_is_row) s.heap.objs.size f cdv) (cxOf (L2.CX P w) P w K mg base ["value"] "is_row" (defScope s_is_row) f cdv A outer s H E).xe := passes_of (X := cxOf (L2.CX P w) P w K mg base ["value"] "is_row" (defScope s_is_row) f cdv A outer s H E) rfl
  exact (mss_cons (ms_ret (me_isi2 .list .tuple (mo_var 0) (hm := T.n_isinstance) (hm2 := T.n_list) (hv2 := b_list) (hm3 := T.n_tuple) (hv3 := b_tuple))) mss_nil)
theorem ok_is_row (T : Tx K mg) : Fn P w K mg base 1 "is_row" ["value"] df_is_row m_is_row := by
  obtain ⟨fd, F⟩ := T.d_is_row
  exact ⟨⟨fd, def_ok (n := 1) 0 F sc_is_row rfl rfl fun cdv A outer s H E hr => body_is_row T (by decide) hr, lk_of F, fun j hj => by
    have e : j = 0 := by simpa [df_is_row] using hj
    subst e
    exact ⟨[], .nil, F.bindsN fun _ _ _ _ _ _ us hl => match us, hl with | [_], _ => rfl⟩⟩, T.g_is_row, F.kp⟩
theorem sc_is_integer : FnScope ["value"] ["value"] (defScope s_is_integer) := ⟨rfl, rfl, rfl, by decide +kernel, rfl, by decide +kernel, by decide +kernel⟩
theorem body_is_integer (T : Tx K mg) {k : Nat} (hk : 0 ≤ k) {f : Addr} {cdv : Value} {A : Around} {outer : List PySem.Env} {s : Shared} {H : Hp} {E : XK} (hr : Room k (A.deeper (envOfC "is_integer" (defScope s_is_integer) s.heap.objs.size f cdv))) : MSs (cxOf (L2.CX P w) P w K mg base ["value"] "is_integer" (defScope s_is_integer) f cdv A outer s H E) (fun cls d _ H => E cls d H) (defBody s_is_integer) b_is_integer := by
  have hr := hr.mono hk
  have nd := sc_is_integer.nd
  have tk : Takes (cxOf (L2.CX P w) P w K mg base ["value"] "is_integer" (defScope s_is_integer) f cdv A outer s H E) (fun cls d _ H => E cls d H) := takes_of rfl rfl rfl rfl
  have lp : PassesOwn (model P w) (A.deeper (envOfC "is_integer" (defScope s_is_integer) s.heap.objs.size f cdv)) (envOfC "is_integer" (defScope s_is_integer) s.heap.objs.size f cdv) (cxOf (L2.CX P w) P w K mg base ["value"] "is_integer" (defScope s_is_integer) f cdv A outer s H E).xe := passes_of (X := cxOf (L2.CX P w) P w K mg base ["value"] "is_integer" (defScope s_is_integer) f cdv A outer s H E) rfl
  exact (mss_cons (ms_ret (me_and (me_isi .int (mo_var 0) (hm := T.n_isinstance) (hm2 := T.n_int) (hv2 := b_int)) (me_one (me_not (me_isi .bool (mo_var 0) (hm := T.n_isinstance) (hm2 := T.n_bool) (hv2 := b_bool)))))) mss_nil)
theorem ok_is_integer (T : Tx K mg) : Fn P w K mg base 1 "is_integer" ["value"] df_is_integer m_is_integer := by
  obtain ⟨fd, F⟩ := T.d_is_integer
  exact ⟨⟨fd, def_ok (n := 1) 0 F sc_is_integer rfl rfl fun cdv A outer s H E hr => body_is_integer T (by decide) hr, lk_of F, fun j hj => by
    have e : j = 0 := by simpa [df_is_integer] using hj
    subst e
    exact ⟨[], .nil, F.bindsN fun _ _ _ _ _ _ us hl => match us, hl with | [_], _ => rfl⟩⟩, T.g_is_integer, F.kp⟩
theorem sc_are_integers : FnScope ["value", "item"] ["value"] (defScope s_are_integers) := ⟨rfl, rfl, rfl, by decide +kernel, rfl, by decide +kernel, by decide +kernel⟩
theorem body_are_integers (T : Tx K mg) {k : Nat} (hk : 1 ≤ k) {f : Addr} {cdv : Value} {A : Around} {outer : List PySem.Env} {s : Shared} {H : Hp} {E : XK} (hr : Room k (A.deeper (envOfC "are_integers" (defScope s_are_integers) s.heap.objs.size f cdv))) : MSs (cxOf (L2.CX P w) P w K mg base ["value", "item"] "are_integers" (defScope s_are_integers) f cdv A outer s H E) (fun cls d _ H => E cls d H) (defBody s_are_integers) b_are_integers := by
  have hr := hr.mono hk
  have nd := sc_are_integers.nd
  have tk : Takes (cxOf (L2.CX P w) P w K mg base ["value", "item"] "are_integers" (defScope s_are_integers) f cdv A outer s H E) (fun cls d _ H => E cls d H) := takes_of rfl rfl rfl rfl
  have lp : PassesOwn (model P w) (A.deeper (envOfC "are_integers" (defScope s_are_integers) s.heap.objs.size f cdv)) (envOfC "are_integers" (defScope s_are_integers) s.heap.objs.size f cdv) (cxOf (L2.CX P w) P w K mg base ["value", "item"] "are_integers" (defScope s_are_integers) f cdv A outer s H E).xe := passes_of (X := cxOf (L2.CX P w) P w K mg base ["value", "item"] "are_integers" (defScope s_are_integers) f cdv A outer s H E) rfl
  exact (mss_cons (ms_ret (me_and (me_fnP (ok_is_row T) 0 hr tk (ma_cons (mo_of (me_var 0)) ma_nil)) (me_one (me_all rfl T.n_all (ma_cons (mo_of (me_lc rfl nd  (mi_seq (me_var 0)) (fun _ _ _ _ _ => (mg_name nd rfl (by first | exact Or.inl rfl | exact Or.inr rfl))) (fun _ _ _ _ _ => pts_mYes) (fun _ _ _ _ _ => (me_fnP (ok_is_integer T) 0 hr takes0 (ma_cons (mo_of (me_var 1)) ma_nil))) (own := [("item", 1)]) (by kernel_rfl))) ma_nil))))) mss_nil)
theorem ok_are_integers (T : Tx K mg) : Fn P w K mg base 2 "are_integers" ["value"] df_are_integers m_are_integers := by
  obtain ⟨fd, F⟩ := T.d_are_integers
  exact ⟨⟨fd, def_ok (n := 1) 1 F sc_are_integers rfl rfl fun cdv A outer s H E hr => body_are_integers T (by decide) hr, lk_of F, fun j hj => by
    have e : j = 0 := by simpa [df_are_integers] using hj
    subst e
    exact ⟨[], .nil, F.bindsN fun _ _ _ _ _ _ us hl => match us, hl with | [_], _ => rfl⟩⟩, T.g_are_integers, F.kp⟩
theorem sc_is_item : FnScope ["value"] ["value"] (defScope s_is_item) := ⟨rfl, rfl, rfl, by decide +kernel, rfl, by decide +kernel, by decide +kernel⟩
theorem body_is_item (T : Tx K mg) {k : Nat} (hk : 2 ≤ k) {f : Addr} {cdv : Value} {A : Around} {outer : List PySem.Env} {s : Shared} {H : Hp} {E : XK} (hr : Room k (A.deeper (envOfC "is_item" (defScope s_is_item) s.heap.objs.size f cdv))) : MSs (cxOf (L2.CX P w) P w K mg base ["value"] "is_item" (defScope s_is_item) f cdv A outer s H E) (fun cls d _ H => E cls d H) (defBody s_is_item) b_is_item := by
  have hr := hr.mono hk
  have nd := sc_is_item.nd
  have tk : Takes (cxOf (L2.CX P w) P w K mg base ["value"] "is_item" (defScope s_is_item) f cdv A outer s H E) (fun cls d _ H => E cls d H) := takes_of rfl rfl rfl rfl
  have lp : PassesOwn (model P w) (A.deeper (envOfC "is_item" (defScope s_is_item) s.heap.objs.size f cdv)) (envOfC "is_item" (defScope s_is_item) s.heap.objs.size f cdv) (cxOf (L2.CX P w) P w K mg base ["value"] "is_item" (defScope s_is_item) f cdv A outer s H E).xe := passes_of (X := cxOf (L2.CX P w) P w K mg base ["value"] "is_item" (defScope s_is_item) f cdv A outer s H E) rfl
  exact (mss_cons (ms_if (mt_w (mw_or (mt_not (mt_val (me_fnP (ok_are_integers T) 0 hr tk (ma_cons (mo_of (me_var 0)) ma_nil)))) (mw_or1 (mt_cmp (op_neD (u64 hr)) s_ne (mo_of (me_len T.n_len (ma_cons (mo_var 0) ma_nil))) (mo_of me_int) (nomark _))))) (mss_cons (ms_ret me_bl) mss_nil) mss_nil) (mss_cons (ms_ret (me_and (me_chain op_le s_le op_le s_le (mo_of me_int) (mo_of (me_ix (mo_var 0) (mo_of me_int))) (mo_of (me_gint rfl T.i_MOST_PLACE))) (me_and (me_cmp (op_neD (u64 hr)) s_ne (mo_of (me_ix (mo_var 0) (mo_of me_int))) (mo_of me_int) (nomark _)) (me_one (me_chain op_le s_le op_le s_le (mo_of (me_un un_neg s_neg (mo_of (me_gint rfl T.i_MOST_POWER)))) (mo_of (me_ix (mo_var 0) (mo_of me_int))) (mo_of (me_gint rfl T.i_MOST_POWER))))))) mss_nil))
theorem ok_is_item (T : Tx K mg) : Fn P w K mg base 3 "is_item" ["value"] df_is_item m_is_item := by
  obtain ⟨fd, F⟩ := T.d_is_item
  exact ⟨⟨fd, def_ok (n := 1) 0 F sc_is_item rfl rfl fun cdv A outer s H E hr => body_is_item T (by decide) hr, lk_of F, fun j hj => by
    have e : j = 0 := by simpa [df_is_item] using hj
    subst e
    exact ⟨[], .nil, F.bindsN fun _ _ _ _ _ _ us hl => match us, hl with | [_], _ => rfl⟩⟩, T.g_is_item, F.kp⟩
theorem sc_need_powers : FnScope ["value", "item", "d", "r"] ["value"] (defScope s_need_powers) := ⟨rfl, rfl, rfl, by decide +kernel, rfl, by decide +kernel, by decide +kernel⟩
theorem body_need_powers (T : Tx K mg) {k : Nat} (hk : 3 ≤ k) {f : Addr} {cdv : Value} {A : Around} {outer : List PySem.Env} {s : Shared} {H : Hp} {E : XK} (hr : Room k (A.deeper (envOfC "need_powers" (defScope s_need_powers) s.heap.objs.size f cdv))) : MSs (cxOf (L2.CX P w) P w K mg base ["value", "item", "d", "r"] "need_powers" (defScope s_need_powers) f cdv A outer s H E) (fun cls d _ H => E cls d H) (defBody s_need_powers) b_need_powers := by
  have hr := hr.mono hk
  have nd := sc_need_powers.nd
  have tk : Takes (cxOf (L2.CX P w) P w K mg base ["value", "item", "d", "r"] "need_powers" (defScope s_need_powers) f cdv A outer s H E) (fun cls d _ H => E cls d H) := takes_of rfl rfl rfl rfl
  have lp : PassesOwn (model P w) (A.deeper (envOfC "need_powers" (defScope s_need_powers) s.heap.objs.size f cdv)) (envOfC "need_powers" (defScope s_need_powers) s.heap.objs.size f cdv) (cxOf (L2.CX P w) P w K mg base ["value", "item", "d", "r"] "need_powers" (defScope s_need_powers) f cdv A outer s H E).xe := passes_of (X := cxOf (L2.CX P w) P w K mg base ["value", "item", "d", "r"] "need_powers" (defScope s_need_powers) f cdv A outer s H E) rfl
  exact (mss_cons (ms_if (mt_w (mw_or (mt_not (mt_val (me_fnP (ok_is_row T) 0 hr tk (ma_cons (mo_of (me_var 0)) ma_nil)))) (mw_or1 (mt_not (mt_val (me_all rfl T.n_all (ma_cons (mo_of (me_lc rfl nd  (mi_seq (me_var 0)) (fun _ _ _ _ _ => (mg_name nd rfl (by first | exact Or.inl rfl | exact Or.inr rfl))) (fun _ _ _ _ _ => pts_mYes) (fun _ _ _ _ _ => (me_fnP (ok_is_item T) 0 hr takes0 (ma_cons (mo_of (me_var 1)) ma_nil))) (own := [("item", 1)]) (by kernel_rfl))) ma_nil))))))) (mss_cons ms_never mss_nil) mss_nil) (mss_cons (ms_if (mt_cmp (op_neD (u64 hr)) s_ne (mo_of (me_lenSet rfl rfl T.n_len rfl T.n_set (mo_of (me_lc rfl nd  (mi_seq (me_var 0)) (fun _ _ _ _ _ => (mg_name nd rfl (by first | exact Or.inl rfl | exact Or.inr rfl))) (fun _ _ _ _ _ => pts_mYes) (fun _ _ _ _ _ => (me_ix (mo_var 1) (mo_of me_int))) (own := [("item", 1)]) (by kernel_rfl))))) (mo_of (me_len T.n_len (ma_cons (mo_var 0) ma_nil))) (nomark _)) (mss_cons ms_never mss_nil) mss_nil) (mss_cons (ms_ret (me_toTuple T.n_tuple (ma_cons (mo_of (me_sorted T.n_sorted (ma_cons (mo_of (me_lc rfl nd  (mi_seq (me_var 0)) (fun _ _ _ _ _ => (mg_tup rfl (mgs_cons (mg_name nd rfl (by first | exact Or.inl rfl | exact Or.inr rfl)) (mgs_cons (mg_name nd rfl (by first | exact Or.inl rfl | exact Or.inr rfl)) mgs_nil)) rfl)) (fun _ _ _ _ _ => pts_mYes) (fun _ _ _ _ _ => (me_tup (ma_cons (mo_of (me_var 2)) (ma_cons (mo_of (me_var 3)) ma_nil)))) (own := [("d", 2), ("r", 3)]) (by kernel_rfl))) ma_nil))) ma_nil))) mss_nil)))
theorem ok_need_powers (T : Tx K mg) : Fn P w K mg base 4 "need_powers" ["value"] df_need_powers m_need_powers := by
  obtain ⟨fd, F⟩ := T.d_need_powers
  exact ⟨⟨fd, def_ok (n := 1) 3 F sc_need_powers rfl rfl fun cdv A outer s H E hr => body_need_powers T (by decide) hr, lk_of F, fun j hj => by
    have e : j = 0 := by simpa [df_need_powers] using hj
    subst e
    exact ⟨[], .nil, F.bindsN fun _ _ _ _ _ _ us hl => match us, hl with | [_], _ => rfl⟩⟩, T.g_need_powers, F.kp⟩
theorem sc_is_count : FnScope ["value", "most"] ["value", "most"] (defScope s_is_count) := ⟨rfl, rfl, rfl, by decide +kernel, rfl, by decide +kernel, by decide +kernel⟩
theorem body_is_count (T : Tx K mg) {k : Nat} (hk : 1 ≤ k) {f : Addr} {cdv : Value} {A : Around} {outer : List PySem.Env} {s : Shared} {H : Hp} {E : XK} (hr : Room k (A.deeper (envOfC "is_count" (defScope s_is_count) s.heap.objs.size f cdv))) : MSs (cxOf (L2.CX P w) P w K mg base ["value", "most"] "is_count" (defScope s_is_count) f cdv A outer s H E) (fun cls d _ H => E cls d H) (defBody s_is_count) b_is_count := by
  have hr := hr.mono hk
  have nd := sc_is_count.nd
  have tk : Takes (cxOf (L2.CX P w) P w K mg base ["value", "most"] "is_count" (defScope s_is_count) f cdv A outer s H E) (fun cls d _ H => E cls d H) := takes_of rfl rfl rfl rfl
  have lp : PassesOwn (model P w) (A.deeper (envOfC "is_count" (defScope s_is_count) s.heap.objs.size f cdv)) (envOfC "is_count" (defScope s_is_count) s.heap.objs.size f cdv) (cxOf (L2.CX P w) P w K mg base ["value", "most"] "is_count" (defScope s_is_count) f cdv A outer s H E).xe := passes_of (X := cxOf (L2.CX P w) P w K mg base ["value", "most"] "is_count" (defScope s_is_count) f cdv A outer s H E) rfl
  exact (mss_cons (ms_ret (me_and (me_fnP (ok_is_integer T) 0 hr tk (ma_cons (mo_of (me_var 0)) ma_nil)) (me_and (me_cmp op_ge s_ge (mo_var 0) (mo_of me_int) (nomark _)) (me_one (me_or (me_cmp op_isN s_isN (mo_var 1) (mo_of me_non) (nomark _)) (me_one (me_cmp op_le s_le (mo_var 0) (mo_var 1) (nomark _)))))))) mss_nil)
theorem ok_is_count (T : Tx K mg) : Fn P w K mg base 2 "is_count" ["value", "most"] df_is_count m_is_count := by
  obtain ⟨fd, F⟩ := T.d_is_count
  exact ⟨⟨fd, def_ok (n := 2) 0 F sc_is_count rfl rfl fun cdv A outer s H E hr => body_is_count T (by decide) hr, lk_of F, fun j hj => by
    have hj : j ≤ 1 := hj
    match j, hj with
    | 0, _ => exact F.binds1 1 0 (by simp [df_is_count]) rfl fun T kV doc pm an cdv ct us its h1 h2 => match us, its, h1, h2 with | [_], [_], _, _ => ⟨_, rfl, rfl⟩
    | 1, _ => exact F.binds1 2 1 (by simp [df_is_count]) rfl fun T kV doc pm an cdv ct us its h1 h2 => match us, its, h1, h2 with | [_, _], [_], _, _ => ⟨_, rfl, rfl⟩⟩, T.g_is_count, F.kp⟩
theorem sc_need_many : FnScope ["many", "most"] ["many", "most"] (defScope s_need_many) := ⟨rfl, rfl, rfl, by decide +kernel, rfl, by decide +kernel, by decide +kernel⟩
theorem body_need_many (T : Tx K mg) {k : Nat} (hk : 2 ≤ k) {f : Addr} {cdv : Value} {A : Around} {outer : List PySem.Env} {s : Shared} {H : Hp} {E : XK} (hr : Room k (A.deeper (envOfC "need_many" (defScope s_need_many) s.heap.objs.size f cdv))) : MSs (cxOf (L2.CX P w) P w K mg base ["many", "most"] "need_many" (defScope s_need_many) f cdv A outer s H E) (fun cls d _ H => E cls d H) (defBody s_need_many) b_need_many := by
  have hr := hr.mono hk
  have nd := sc_need_many.nd
  have tk : Takes (cxOf (L2.CX P w) P w K mg base ["many", "most"] "need_many" (defScope s_need_many) f cdv A outer s H E) (fun cls d _ H => E cls d H) := takes_of rfl rfl rfl rfl
  have lp : PassesOwn (model P w) (A.deeper (envOfC "need_many" (defScope s_need_many) s.heap.objs.size f cdv)) (envOfC "need_many" (defScope s_need_many) s.heap.objs.size f cdv) (cxOf (L2.CX P w) P w K mg base ["many", "most"] "need_many" (defScope s_need_many) f cdv A outer s H E).xe := passes_of (X := cxOf (L2.CX P w) P w K mg base ["many", "most"] "need_many" (defScope s_need_many) f cdv A outer s H E) rfl
  exact (mss_cons (ms_if (mt_not (mt_val (me_fnP (ok_is_count T) 1 hr tk (ma_cons (mo_of (me_var 0)) (ma_cons (mo_of (me_var 1)) ma_nil))))) (mss_cons ms_never mss_nil) mss_nil) mss_nil)
theorem ok_need_many (T : Tx K mg) : Fn P w K mg base 3 "need_many" ["many", "most"] df_need_many m_need_many := by
  obtain ⟨fd, F⟩ := T.d_need_many
  exact ⟨⟨fd, def_ok (n := 2) 0 F sc_need_many rfl rfl fun cdv A outer s H E hr => body_need_many T (by decide) hr, lk_of F, fun j hj => by
    have e : j = 0 := by simpa [df_need_many] using hj
    subst e
    exact ⟨[], .nil, F.bindsN fun _ _ _ _ _ _ us hl => match us, hl with | [_, _], _ => rfl⟩⟩, T.g_need_many, F.kp⟩
theorem sc_sums_for : FnScope ["powers", "many", "divisors", "d", "k", "found", "r", "j"] ["powers", "many"] (defScope s_sums_for) := ⟨rfl, rfl, rfl, by decide +kernel, rfl, by decide +kernel, by decide +kernel⟩
theorem body_sums_for (T : Tx K mg) {k : Nat} (hk : 0 ≤ k) {f : Addr} {cdv : Value} {A : Around} {outer : List PySem.Env} {s : Shared} {H : Hp} {E : XK} (hr : Room k (A.deeper (envOfC "sums_for" (defScope s_sums_for) s.heap.objs.size f cdv))) : MSs (cxOf (L2.CX P w) P w K mg base ["powers", "many", "divisors", "d", "k", "found", "r", "j"] "sums_for" (defScope s_sums_for) f cdv A outer s H E) (fun cls d _ H => E cls d H) (defBody s_sums_for) b_sums_for := by
  have hr := hr.mono hk
  have nd := sc_sums_for.nd
  have tk : Takes (cxOf (L2.CX P w) P w K mg base ["powers", "many", "divisors", "d", "k", "found", "r", "j"] "sums_for" (defScope s_sums_for) f cdv A outer s H E) (fun cls d _ H => E cls d H) := takes_of rfl rfl rfl rfl
  have lp : PassesOwn (model P w) (A.deeper (envOfC "sums_for" (defScope s_sums_for) s.heap.objs.size f cdv)) (envOfC "sums_for" (defScope s_sums_for) s.heap.objs.size f cdv) (cxOf (L2.CX P w) P w K mg base ["powers", "many", "divisors", "d", "k", "found", "r", "j"] "sums_for" (defScope s_sums_for) f cdv A outer s H E).xe := passes_of (X := cxOf (L2.CX P w) P w K mg base ["powers", "many", "divisors", "d", "k", "found", "r", "j"] "sums_for" (defScope s_sums_for) f cdv A outer s H E) rfl
  exact (mss_cons (ms_set nd rfl (by first | exact Or.inl rfl | exact Or.inr rfl) (me_op op_mulAll s_mul (mo_of (me_lst (ma_cons (mo_of me_int) ma_nil))) (mo_var 1))) (mss_cons (ms_for lp rfl (mi_range2 rfl T.n_range (ma_cons (mo_of me_int) (ma_cons (mo_var 1) ma_nil))) (mg_name nd rfl (by first | exact Or.inl rfl | exact Or.inr rfl)) (mss_cons (ms_for lp rfl (mi_range3 rfl T.n_range (ma_cons (mo_var 3) (ma_cons (mo_var 1) (ma_cons (mo_var 3) ma_nil)))) (mg_name nd rfl (by first | exact Or.inl rfl | exact Or.inr rfl)) (mss_cons (ms_augIx s_iadd (ps_augS (pv 2) (me_var 4) get_list (me_var 3) iop_iadd set_list)) mss_nil)) mss_nil)) (mss_cons (ms_set nd rfl (by first | exact Or.inl rfl | exact Or.inr rfl) (me_op op_mulAll s_mul (mo_of (me_lst (ma_cons (mo_of me_int) ma_nil))) (mo_var 1))) (mss_cons (ms_for lp rfl (mi_seq (me_var 0)) (mg_tup rfl (mgs_cons (mg_name nd rfl (by first | exact Or.inl rfl | exact Or.inr rfl)) (mgs_cons (mg_name nd rfl (by first | exact Or.inl rfl | exact Or.inr rfl)) mgs_nil)) rfl) (mss_cons (ms_for lp rfl (mi_range3 rfl T.n_range (ma_cons (mo_var 3) (ma_cons (mo_var 1) (ma_cons (mo_var 3) ma_nil)))) (mg_name nd rfl (by first | exact Or.inl rfl | exact Or.inr rfl)) (mss_cons (ms_augIx s_iadd (ps_augS (pv 5) (me_var 7) get_list (me_op op_mulAll s_mul (mo_of (me_op op_mulAll s_mul (mo_var 3) (mo_var 6))) (mo_of (me_ix (mo_var 2) (mo_of (me_op op_fdiv s_fdiv (mo_var 7) (mo_var 3)))))) iop_iadd set_list)) mss_nil)) mss_nil)) (mss_cons (ms_ret (me_var 5)) mss_nil)))))
theorem ok_sums_for (T : Tx K mg) : Fn P w K mg base 1 "sums_for" ["powers", "many"] df_sums_for m_sums_for := by
  obtain ⟨fd, F⟩ := T.d_sums_for
  exact ⟨⟨fd, def_ok (n := 2) 6 F sc_sums_for rfl rfl fun cdv A outer s H E hr => body_sums_for T (by decide) hr, lk_of F, fun j hj => by
    have e : j = 0 := by simpa [df_sums_for] using hj
    subst e
    exact ⟨[], .nil, F.bindsN fun _ _ _ _ _ _ us hl => match us, hl with | [_, _], _ => rfl⟩⟩, T.g_sums_for, F.kp⟩
theorem sc_by_sums : FnScope ["powers", "many", "sums", "row", "n", "j"] ["powers", "many"] (defScope s_by_sums) := ⟨rfl, rfl, rfl, by decide +kernel, rfl, by decide +kernel, by decide +kernel⟩
theorem body_by_sums (T : Tx K mg) {k : Nat} (hk : 1 ≤ k) {f : Addr} {cdv : Value} {A : Around} {outer : List PySem.Env} {s : Shared} {H : Hp} {E : XK} (hr : Room k (A.deeper (envOfC "by_sums" (defScope s_by_sums) s.heap.objs.size f cdv))) : MSs (cxOf (L2.CX P w) P w K mg base ["powers", "many", "sums", "row", "n", "j"] "by_sums" (defScope s_by_sums) f cdv A outer s H E) (fun cls d _ H => E cls d H) (defBody s_by_sums) b_by_sums := by
  have hr := hr.mono hk
  have nd := sc_by_sums.nd
  have tk : Takes (cxOf (L2.CX P w) P w K mg base ["powers", "many", "sums", "row", "n", "j"] "by_sums" (defScope s_by_sums) f cdv A outer s H E) (fun cls d _ H => E cls d H) := takes_of rfl rfl rfl rfl
  have lp : PassesOwn (model P w) (A.deeper (envOfC "by_sums" (defScope s_by_sums) s.heap.objs.size f cdv)) (envOfC "by_sums" (defScope s_by_sums) s.heap.objs.size f cdv) (cxOf (L2.CX P w) P w K mg base ["powers", "many", "sums", "row", "n", "j"] "by_sums" (defScope s_by_sums) f cdv A outer s H E).xe := passes_of (X := cxOf (L2.CX P w) P w K mg base ["powers", "many", "sums", "row", "n", "j"] "by_sums" (defScope s_by_sums) f cdv A outer s H E) rfl
  exact (mss_cons (ms_parT tg2 rfl (by decide) (ps_asg (pe_tup (mr_cons (me_fnP (ok_sums_for T) 0 hr tk (ma_cons (mo_of (me_var 0)) (ma_cons (mo_of (me_var 1)) ma_nil))) (mr_cons (me_lst ma_nil) mr_nil))) (pg_tup rfl (pgs_cons (pg_name nd rfl (by first | exact Or.inl rfl | exact Or.inr rfl)) (pgs_cons (pg_name nd rfl (by first | exact Or.inl rfl | exact Or.inr rfl)) pgs_nil)) rfl rfl))) (mss_cons (ms_for lp rfl (mi_range1 rfl T.n_range (ma_cons (mo_var 1) ma_nil)) (mg_name nd rfl (by first | exact Or.inl rfl | exact Or.inr rfl)) (mss_cons (ms_if (mt_cmp (op_eqD (u64 hr)) s_eq (mo_var 4) (mo_of me_int) (nomark _)) (mss_cons (ms_app (ps_expr (pe_bm PySem.F.plainAttrs_list PySem.F.slot_list_append PySem.F.type_list_append mt_append (pv 3) (pa_cons me_int pa_nil)))) mss_nil) (mss_cons (ms_app (ps_expr (pe_bm PySem.F.plainAttrs_list PySem.F.slot_list_append PySem.F.type_list_append mt_append (pv 3) (pa_cons (me_op op_fdiv s_fdiv (mo_of (me_un un_neg s_neg (mo_of (me_sum rfl T.n_sum (ma_cons (mo_of (me_lc rfl nd  (mi_range2 rfl T.n_range (ma_cons (mo_of me_int) (ma_cons (mo_of (me_op op_addAll s_add (mo_var 4) (mo_of me_int))) ma_nil))) (fun _ _ _ _ _ => (mg_name nd rfl (by first | exact Or.inl rfl | exact Or.inr rfl))) (fun _ _ _ _ _ => pts_mYes) (fun _ _ _ _ _ => (me_op op_mulAll s_mul (mo_of (me_ix (mo_var 2) (mo_var 5))) (mo_of (me_ix (mo_var 3) (mo_of (me_op op_sub s_sub (mo_var 4) (mo_var 5))))))) (own := [("j", 5)]) (by kernel_rfl))) ma_nil))))) (mo_var 4)) pa_nil)))) mss_nil)) mss_nil)) (mss_cons (ms_ret (me_var 3)) mss_nil)))
theorem ok_by_sums (T : Tx K mg) : Fn P w K mg base 2 "by_sums" ["powers", "many"] df_by_sums m_by_sums := by
  obtain ⟨fd, F⟩ := T.d_by_sums
  exact ⟨⟨fd, def_ok (n := 2) 4 F sc_by_sums rfl rfl fun cdv A outer s H E hr => body_by_sums T (by decide) hr, lk_of F, fun j hj => by
    have e : j = 0 := by simpa [df_by_sums] using hj
    subst e
    exact ⟨[], .nil, F.bindsN fun _ _ _ _ _ _ us hl => match us, hl with | [_, _], _ => rfl⟩⟩, T.g_by_sums, F.kp⟩
theorem sc_product_row : FnScope ["powers", "many"] ["powers", "many"] (defScope s_product_row) := ⟨rfl, rfl, rfl, by decide +kernel, rfl, by decide +kernel, by decide +kernel⟩
theorem body_product_row (T : Tx K mg) {k : Nat} (hk : 4 ≤ k) {f : Addr} {cdv : Value} {A : Around} {outer : List PySem.Env} {s : Shared} {H : Hp} {E : XK} (hr : Room k (A.deeper (envOfC "product_row" (defScope s_product_row) s.heap.objs.size f cdv))) : MSs (cxOf (L2.CX P w) P w K mg base ["powers", "many"] "product_row" (defScope s_product_row) f cdv A outer s H E) (fun cls d _ H => E cls d H) (defBody s_product_row) b_product_row := by
  have hr := hr.mono hk
  have nd := sc_product_row.nd
  have tk : Takes (cxOf (L2.CX P w) P w K mg base ["powers", "many"] "product_row" (defScope s_product_row) f cdv A outer s H E) (fun cls d _ H => E cls d H) := takes_of rfl rfl rfl rfl
  have lp : PassesOwn (model P w) (A.deeper (envOfC "product_row" (defScope s_product_row) s.heap.objs.size f cdv)) (envOfC "product_row" (defScope s_product_row) s.heap.objs.size f cdv) (cxOf (L2.CX P w) P w K mg base ["powers", "many"] "product_row" (defScope s_product_row) f cdv A outer s H E).xe := passes_of (X := cxOf (L2.CX P w) P w K mg base ["powers", "many"] "product_row" (defScope s_product_row) f cdv A outer s H E) rfl
  exact (mss_cons (ms_set nd rfl (by first | exact Or.inl rfl | exact Or.inr rfl) (me_fnP (ok_need_powers T) 0 hr tk (ma_cons (mo_of (me_var 0)) ma_nil))) (mss_cons (ms_expr (me_fnP (ok_need_many T) 0 hr tk (ma_cons (mo_of (me_var 1)) (ma_cons (mo_of (me_gint rfl T.i_MOST_MANY)) ma_nil)))) (mss_cons (ms_ret (me_toTuple T.n_tuple (ma_cons (mo_of (me_fnP (ok_by_sums T) 0 hr tk (ma_cons (mo_of (me_var 0)) (ma_cons (mo_of (me_var 1)) ma_nil)))) ma_nil))) mss_nil)))
theorem ok_product_row (T : Tx K mg) : Fn P w K mg base 5 "product_row" ["powers", "many"] df_product_row m_product_row := by
  obtain ⟨fd, F⟩ := T.d_product_row
  exact ⟨⟨fd, def_ok (n := 2) 0 F sc_product_row rfl rfl fun cdv A outer s H E hr => body_product_row T (by decide) hr, lk_of F, fun j hj => by
    have e : j = 0 := by simpa [df_product_row] using hj
    subst e
    exact ⟨[], .nil, F.bindsN fun _ _ _ _ _ _ us hl => match us, hl with | [_, _], _ => rfl⟩⟩, T.g_product_row, F.kp⟩
theorem sc_euler_signs : FnScope ["many", "found", "k", "sign"] ["many"] (defScope s_euler_signs) := ⟨rfl, rfl, rfl, by decide +kernel, rfl, by decide +kernel, by decide +kernel⟩
theorem body_euler_signs (T : Tx K mg) {k : Nat} (hk : 0 ≤ k) {f : Addr} {cdv : Value} {A : Around} {outer : List PySem.Env} {s : Shared} {H : Hp} {E : XK} (hr : Room k (A.deeper (envOfC "euler_signs" (defScope s_euler_signs) s.heap.objs.size f cdv))) : MSs (cxOf (L2.CX P w) P w K mg base ["many", "found", "k", "sign"] "euler_signs" (defScope s_euler_signs) f cdv A outer s H E) (fun cls d _ H => E cls d H) (defBody s_euler_signs) b_euler_signs := by
  have hr := hr.mono hk
  have nd := sc_euler_signs.nd
  have tk : Takes (cxOf (L2.CX P w) P w K mg base ["many", "found", "k", "sign"] "euler_signs" (defScope s_euler_signs) f cdv A outer s H E) (fun cls d _ H => E cls d H) := takes_of rfl rfl rfl rfl
  have lp : PassesOwn (model P w) (A.deeper (envOfC "euler_signs" (defScope s_euler_signs) s.heap.objs.size f cdv)) (envOfC "euler_signs" (defScope s_euler_signs) s.heap.objs.size f cdv) (cxOf (L2.CX P w) P w K mg base ["many", "found", "k", "sign"] "euler_signs" (defScope s_euler_signs) f cdv A outer s H E).xe := passes_of (X := cxOf (L2.CX P w) P w K mg base ["many", "found", "k", "sign"] "euler_signs" (defScope s_euler_signs) f cdv A outer s H E) rfl
  exact (mss_cons (ms_par (ps_par rfl nd rfl rfl (by decide) rfl rfl (mr_cons (me_lst ma_nil) (mr_cons me_int mr_nil)) (by rfl))) (mss_cons (ms_while lp (mt_cmp op_lt s_lt (mo_of (me_op op_fdiv s_fdiv (mo_of (me_op op_mulAll s_mul (mo_var 2) (mo_of (me_op op_sub s_sub (mo_of (me_op op_mulAll s_mul (mo_of me_int) (mo_var 2))) (mo_of me_int))))) (mo_of me_int))) (mo_var 0) (nomark _)) (mss_cons (ms_set nd rfl (by first | exact Or.inl rfl | exact Or.inr rfl) (me_if (mt_cmp (op_eqD (u64 hr)) s_eq (mo_of (me_op op_and s_and (mo_var 2) (mo_of me_int))) (mo_of me_int) (nomark _)) (me_un un_neg s_neg (mo_of me_int)) me_int)) (mss_cons (ms_app (ps_expr (pe_bm PySem.F.plainAttrs_list PySem.F.slot_list_append PySem.F.type_list_append mt_append (pv 1) (pa_cons (me_tup (ma_cons (mo_of (me_op op_fdiv s_fdiv (mo_of (me_op op_mulAll s_mul (mo_var 2) (mo_of (me_op op_sub s_sub (mo_of (me_op op_mulAll s_mul (mo_of me_int) (mo_var 2))) (mo_of me_int))))) (mo_of me_int))) (ma_cons (mo_of (me_var 3)) ma_nil))) pa_nil)))) (mss_cons (ms_app (ps_expr (pe_bm PySem.F.plainAttrs_list PySem.F.slot_list_append PySem.F.type_list_append mt_append (pv 1) (pa_cons (me_tup (ma_cons (mo_of (me_op op_fdiv s_fdiv (mo_of (me_op op_mulAll s_mul (mo_var 2) (mo_of (me_op op_addAll s_add (mo_of (me_op op_mulAll s_mul (mo_of me_int) (mo_var 2))) (mo_of me_int))))) (mo_of me_int))) (ma_cons (mo_of (me_var 3)) ma_nil))) pa_nil)))) (mss_cons (ms_aug s_iadd (ps_aug nd rfl (by first | exact Or.inl rfl | exact Or.inr rfl) me_int iop_iadd)) mss_nil))))) (mss_cons (ms_ret (me_var 1)) mss_nil)))
theorem ok_euler_signs (T : Tx K mg) : Fn P w K mg base 1 "euler_signs" ["many"] df_euler_signs m_euler_signs := by
  obtain ⟨fd, F⟩ := T.d_euler_signs
  exact ⟨⟨fd, def_ok (n := 1) 3 F sc_euler_signs rfl rfl fun cdv A outer s H E hr => body_euler_signs T (by decide) hr, lk_of F, fun j hj => by
    have e : j = 0 := by simpa [df_euler_signs] using hj
    subst e
    exact ⟨[], .nil, F.bindsN fun _ _ _ _ _ _ us hl => match us, hl with | [_], _ => rfl⟩⟩, T.g_euler_signs, F.kp⟩
theorem sc_times_signs : FnScope ["row", "signs", "found", "place", "sign", "n"] ["row", "signs"] (defScope s_times_signs) := ⟨rfl, rfl, rfl, by decide +kernel, rfl, by decide +kernel, by decide +kernel⟩
theorem body_times_signs (T : Tx K mg) {k : Nat} (hk : 0 ≤ k) {f : Addr} {cdv : Value} {A : Around} {outer : List PySem.Env} {s : Shared} {H : Hp} {E : XK} (hr : Room k (A.deeper (envOfC "times_signs" (defScope s_times_signs) s.heap.objs.size f cdv))) : MSs (cxOf (L2.CX P w) P w K mg base ["row", "signs", "found", "place", "sign", "n"] "times_signs" (defScope s_times_signs) f cdv A outer s H E) (fun cls d _ H => E cls d H) (defBody s_times_signs) b_times_signs := by
  have hr := hr.mono hk
  have nd := sc_times_signs.nd
  have tk : Takes (cxOf (L2.CX P w) P w K mg base ["row", "signs", "found", "place", "sign", "n"] "times_signs" (defScope s_times_signs) f cdv A outer s H E) (fun cls d _ H => E cls d H) := takes_of rfl rfl rfl rfl
  have lp : PassesOwn (model P w) (A.deeper (envOfC "times_signs" (defScope s_times_signs) s.heap.objs.size f cdv)) (envOfC "times_signs" (defScope s_times_signs) s.heap.objs.size f cdv) (cxOf (L2.CX P w) P w K mg base ["row", "signs", "found", "place", "sign", "n"] "times_signs" (defScope s_times_signs) f cdv A outer s H E).xe := passes_of (X := cxOf (L2.CX P w) P w K mg base ["row", "signs", "found", "place", "sign", "n"] "times_signs" (defScope s_times_signs) f cdv A outer s H E) rfl
  exact (mss_cons (ms_set nd rfl (by first | exact Or.inl rfl | exact Or.inr rfl) (me_toList T.n_list (ma_cons (mo_var 0) ma_nil))) (mss_cons (ms_for lp rfl (mi_seq (me_var 1)) (mg_tup rfl (mgs_cons (mg_name nd rfl (by first | exact Or.inl rfl | exact Or.inr rfl)) (mgs_cons (mg_name nd rfl (by first | exact Or.inl rfl | exact Or.inr rfl)) mgs_nil)) rfl) (mss_cons (ms_for lp rfl (mi_range2 rfl T.n_range (ma_cons (mo_var 3) (ma_cons (mo_of (me_len T.n_len (ma_cons (mo_var 0) ma_nil))) ma_nil))) (mg_name nd rfl (by first | exact Or.inl rfl | exact Or.inr rfl)) (mss_cons (ms_augIx s_iadd (ps_augS (pv 2) (me_var 5) get_list (me_op op_mulAll s_mul (mo_var 4) (mo_of (me_ix (mo_var 0) (mo_of (me_op op_sub s_sub (mo_var 5) (mo_var 3)))))) iop_iadd set_list)) mss_nil)) mss_nil)) (mss_cons (ms_ret (me_var 2)) mss_nil)))
theorem ok_times_signs (T : Tx K mg) : Fn P w K mg base 1 "times_signs" ["row", "signs"] df_times_signs m_times_signs := by
  obtain ⟨fd, F⟩ := T.d_times_signs
  exact ⟨⟨fd, def_ok (n := 2) 4 F sc_times_signs rfl rfl fun cdv A outer s H E hr => body_times_signs T (by decide) hr, lk_of F, fun j hj => by
    have e : j = 0 := by simpa [df_times_signs] using hj
    subst e
    exact ⟨[], .nil, F.bindsN fun _ _ _ _ _ _ us hl => match us, hl with | [_, _], _ => rfl⟩⟩, T.g_times_signs, F.kp⟩
theorem sc_over_signs : FnScope ["row", "signs", "found", "n", "place", "sign"] ["row", "signs"] (defScope s_over_signs) := ⟨rfl, rfl, rfl, by decide +kernel, rfl, by decide +kernel, by decide +kernel⟩
theorem body_over_signs (T : Tx K mg) {k : Nat} (hk : 0 ≤ k) {f : Addr} {cdv : Value} {A : Around} {outer : List PySem.Env} {s : Shared} {H : Hp} {E : XK} (hr : Room k (A.deeper (envOfC "over_signs" (defScope s_over_signs) s.heap.objs.size f cdv))) : MSs (cxOf (L2.CX P w) P w K mg base ["row", "signs", "found", "n", "place", "sign"] "over_signs" (defScope s_over_signs) f cdv A outer s H E) (fun cls d _ H => E cls d H) (defBody s_over_signs) b_over_signs := by
  have hr := hr.mono hk
  have nd := sc_over_signs.nd
  have tk : Takes (cxOf (L2.CX P w) P w K mg base ["row", "signs", "found", "n", "place", "sign"] "over_signs" (defScope s_over_signs) f cdv A outer s H E) (fun cls d _ H => E cls d H) := takes_of rfl rfl rfl rfl
  have lp : PassesOwn (model P w) (A.deeper (envOfC "over_signs" (defScope s_over_signs) s.heap.objs.size f cdv)) (envOfC "over_signs" (defScope s_over_signs) s.heap.objs.size f cdv) (cxOf (L2.CX P w) P w K mg base ["row", "signs", "found", "n", "place", "sign"] "over_signs" (defScope s_over_signs) f cdv A outer s H E).xe := passes_of (X := cxOf (L2.CX P w) P w K mg base ["row", "signs", "found", "n", "place", "sign"] "over_signs" (defScope s_over_signs) f cdv A outer s H E) rfl
  exact (mss_cons (ms_set nd rfl (by first | exact Or.inl rfl | exact Or.inr rfl) (me_toList T.n_list (ma_cons (mo_var 0) ma_nil))) (mss_cons (ms_for lp rfl (mi_range1 rfl T.n_range (ma_cons (mo_of (me_len T.n_len (ma_cons (mo_var 0) ma_nil))) ma_nil)) (mg_name nd rfl (by first | exact Or.inl rfl | exact Or.inr rfl)) (mss_cons (ms_for lp rfl (mi_seq (me_var 1)) (mg_tup rfl (mgs_cons (mg_name nd rfl (by first | exact Or.inl rfl | exact Or.inr rfl)) (mgs_cons (mg_name nd rfl (by first | exact Or.inl rfl | exact Or.inr rfl)) mgs_nil)) rfl) (mss_cons (ms_if (mt_cmp op_gt s_gt (mo_var 4) (mo_var 3) (nomark _)) (mss_cons ms_break mss_nil) mss_nil) (mss_cons (ms_augIx s_sub (ps_augS (pv 2) (me_var 3) get_list (me_op op_mulAll s_mul (mo_var 5) (mo_of (me_ix (mo_var 2) (mo_of (me_op op_sub s_sub (mo_var 3) (mo_var 4)))))) iop_sub set_list)) mss_nil))) mss_nil)) (mss_cons (ms_ret (me_var 2)) mss_nil)))
theorem ok_over_signs (T : Tx K mg) : Fn P w K mg base 1 "over_signs" ["row", "signs"] df_over_signs m_over_signs := by
  obtain ⟨fd, F⟩ := T.d_over_signs
  exact ⟨⟨fd, def_ok (n := 2) 4 F sc_over_signs rfl rfl fun cdv A outer s H E hr => body_over_signs T (by decide) hr, lk_of F, fun j hj => by
    have e : j = 0 := by simpa [df_over_signs] using hj
    subst e
    exact ⟨[], .nil, F.bindsN fun _ _ _ _ _ _ us hl => match us, hl with | [_, _], _ => rfl⟩⟩, T.g_over_signs, F.kp⟩
theorem sc_by_factors : FnScope ["powers", "many", "modulo", "row", "n", "d", "r", "signs", "place", "sign", "lap", "item"] ["powers", "many", "modulo"] (defScope s_by_factors) := ⟨rfl, rfl, rfl, by decide +kernel, rfl, by decide +kernel, by decide +kernel⟩
theorem body_by_factors (T : Tx K mg) {k : Nat} (hk : 1 ≤ k) {f : Addr} {cdv : Value} {A : Around} {outer : List PySem.Env} {s : Shared} {H : Hp} {E : XK} (hr : Room k (A.deeper (envOfC "by_factors" (defScope s_by_factors) s.heap.objs.size f cdv))) : MSs (cxOf (L2.CX P w) P w K mg base ["powers", "many", "modulo", "row", "n", "d", "r", "signs", "place", "sign", "lap", "item"] "by_factors" (defScope s_by_factors) f cdv A outer s H E) (fun cls d _ H => E cls d H) (defBody s_by_factors) b_by_factors := by
  have hr := hr.mono hk
  have nd := sc_by_factors.nd
  have tk : Takes (cxOf (L2.CX P w) P w K mg base ["powers", "many", "modulo", "row", "n", "d", "r", "signs", "place", "sign", "lap", "item"] "by_factors" (defScope s_by_factors) f cdv A outer s H E) (fun cls d _ H => E cls d H) := takes_of rfl rfl rfl rfl
  have lp : PassesOwn (model P w) (A.deeper (envOfC "by_factors" (defScope s_by_factors) s.heap.objs.size f cdv)) (envOfC "by_factors" (defScope s_by_factors) s.heap.objs.size f cdv) (cxOf (L2.CX P w) P w K mg base ["powers", "many", "modulo", "row", "n", "d", "r", "signs", "place", "sign", "lap", "item"] "by_factors" (defScope s_by_factors) f cdv A outer s H E).xe := passes_of (X := cxOf (L2.CX P w) P w K mg base ["powers", "many", "modulo", "row", "n", "d", "r", "signs", "place", "sign", "lap", "item"] "by_factors" (defScope s_by_factors) f cdv A outer s H E) rfl
  exact (mss_cons (ms_setLc rfl nd rfl rfl (sw_true rfl rfl rfl rfl) (mi_range1 rfl T.n_range (ma_cons (mo_var 1) ma_nil)) (fun _ _ _ _ _ => (mg_name nd rfl (by first | exact Or.inl rfl | exact Or.inr rfl))) (fun _ _ _ _ _ => pts_mYes) (fun _ _ _ _ _ => (me_if (mt_cmp (op_eqD (u64 hr)) s_eq (mo_var 4) (mo_of me_int) (nomark _)) me_int me_int)) (own := [("n", 4)]) (by kernel_rfl)) (mss_cons (ms_for lp rfl (mi_seq (me_var 0)) (mg_tup rfl (mgs_cons (mg_name nd rfl (by first | exact Or.inl rfl | exact Or.inr rfl)) (mgs_cons (mg_name nd rfl (by first | exact Or.inl rfl | exact Or.inr rfl)) mgs_nil)) rfl) (mss_cons (ms_setLc rfl nd rfl rfl (sw_true rfl rfl rfl rfl) (mi_seq (me_fnP (ok_euler_signs T) 0 hr tk (ma_cons (mo_of (me_op op_addAll s_add (mo_of (me_op op_fdiv s_fdiv (mo_var 1) (mo_var 5))) (mo_of me_int))) ma_nil))) (fun _ _ _ _ _ => (mg_tup rfl (mgs_cons (mg_name nd rfl (by first | exact Or.inl rfl | exact Or.inr rfl)) (mgs_cons (mg_name nd rfl (by first | exact Or.inl rfl | exact Or.inr rfl)) mgs_nil)) rfl)) (fun _ _ _ _ _ => pts_mYes) (fun _ _ _ _ _ => (me_tup (ma_cons (mo_of (me_op op_mulAll s_mul (mo_var 8) (mo_var 5))) (ma_cons (mo_of (me_var 9)) ma_nil)))) (own := [("place", 8), ("sign", 9)]) (by kernel_rfl)) (mss_cons (ms_for lp rfl (mi_range1 rfl T.n_range (ma_cons (mo_of (me_abs T.n_abs (ma_cons (mo_var 6) ma_nil))) ma_nil)) (mg_name nd rfl (by first | exact Or.inl rfl | exact Or.inr rfl)) (mss_cons (ms_set nd rfl (by first | exact Or.inl rfl | exact Or.inr rfl) (me_if (mt_cmp op_gt s_gt (mo_var 6) (mo_of me_int) (nomark _)) (me_fnP (ok_times_signs T) 0 hr tk (ma_cons (mo_of (me_var 3)) (ma_cons (mo_of (me_var 7)) ma_nil))) (me_fnP (ok_over_signs T) 0 hr tk (ma_cons (mo_of (me_var 3)) (ma_cons (mo_of (me_var 7)) ma_nil))))) (mss_cons (ms_if (mt_cmp (op_neD (u64 hr)) s_ne (mo_var 2) (mo_of me_int) (nomark _)) (mss_cons (ms_setLc rfl nd rfl rfl (sw_true rfl rfl rfl rfl) (mi_seq (me_var 3)) (fun _ _ _ _ _ => (mg_name nd rfl (by first | exact Or.inl rfl | exact Or.inr rfl))) (fun _ _ _ _ _ => pts_mYes) (fun _ _ _ _ _ => (me_op op_mod s_mod (mo_var 11) (mo_var 2))) (own := [("item", 11)]) (by kernel_rfl)) mss_nil) mss_nil) mss_nil))) mss_nil))) (mss_cons (ms_ret (me_var 3)) mss_nil)))
theorem ok_by_factors (T : Tx K mg) : Fn P w K mg base 2 "by_factors" ["powers", "many", "modulo"] df_by_factors m_by_factors := by
  obtain ⟨fd, F⟩ := T.d_by_factors
  exact ⟨⟨fd, def_ok (n := 3) 9 F sc_by_factors rfl rfl fun cdv A outer s H E hr => body_by_factors T (by decide) hr, lk_of F, fun j hj => by
    have hj : j ≤ 1 := hj
    match j, hj with
    | 0, _ => exact F.binds1 2 0 (by simp [df_by_factors]) rfl fun T kV doc pm an cdv ct us its h1 h2 => match us, its, h1, h2 with | [_, _], [_], _, _ => ⟨_, rfl, rfl⟩
    | 1, _ => exact F.binds1 3 1 (by simp [df_by_factors]) rfl fun T kV doc pm an cdv ct us its h1 h2 => match us, its, h1, h2 with | [_, _, _], [_], _, _ => ⟨_, rfl, rfl⟩⟩, T.g_by_factors, F.kp⟩
theorem sc_row_by_factors : FnScope ["powers", "many"] ["powers", "many"] (defScope s_row_by_factors) := ⟨rfl, rfl, rfl, by decide +kernel, rfl, by decide +kernel, by decide +kernel⟩
theorem body_row_by_factors (T : Tx K mg) {k : Nat} (hk : 4 ≤ k) {f : Addr} {cdv : Value} {A : Around} {outer : List PySem.Env} {s : Shared} {H : Hp} {E : XK} (hr : Room k (A.deeper (envOfC "row_by_factors" (defScope s_row_by_factors) s.heap.objs.size f cdv))) : MSs (cxOf (L2.CX P w) P w K mg base ["powers", "many"] "row_by_factors" (defScope s_row_by_factors) f cdv A outer s H E) (fun cls d _ H => E cls d H) (defBody s_row_by_factors) b_row_by_factors := by
  have hr := hr.mono hk
  have nd := sc_row_by_factors.nd
  have tk : Takes (cxOf (L2.CX P w) P w K mg base ["powers", "many"] "row_by_factors" (defScope s_row_by_factors) f cdv A outer s H E) (fun cls d _ H => E cls d H) := takes_of rfl rfl rfl rfl
  have lp : PassesOwn (model P w) (A.deeper (envOfC "row_by_factors" (defScope s_row_by_factors) s.heap.objs.size f cdv)) (envOfC "row_by_factors" (defScope s_row_by_factors) s.heap.objs.size f cdv) (cxOf (L2.CX P w) P w K mg base ["powers", "many"] "row_by_factors" (defScope s_row_by_factors) f cdv A outer s H E).xe := passes_of (X := cxOf (L2.CX P w) P w K mg base ["powers", "many"] "row_by_factors" (defScope s_row_by_factors) f cdv A outer s H E) rfl
  exact (mss_cons (ms_set nd rfl (by first | exact Or.inl rfl | exact Or.inr rfl) (me_fnP (ok_need_powers T) 0 hr tk (ma_cons (mo_of (me_var 0)) ma_nil))) (mss_cons (ms_expr (me_fnP (ok_need_many T) 0 hr tk (ma_cons (mo_of (me_var 1)) (ma_cons (mo_of (me_gint rfl T.i_MOST_MANY)) ma_nil)))) (mss_cons (ms_ret (me_toTuple T.n_tuple (ma_cons (mo_of (me_fnP (ok_by_factors T) 0 hr tk (ma_cons (mo_of (me_var 0)) (ma_cons (mo_of (me_var 1)) ma_nil)))) ma_nil))) mss_nil)))
theorem ok_row_by_factors (T : Tx K mg) : Fn P w K mg base 5 "row_by_factors" ["powers", "many"] df_row_by_factors m_row_by_factors := by
  obtain ⟨fd, F⟩ := T.d_row_by_factors
  exact ⟨⟨fd, def_ok (n := 2) 0 F sc_row_by_factors rfl rfl fun cdv A outer s H E hr => body_row_by_factors T (by decide) hr, lk_of F, fun j hj => by
    have e : j = 0 := by simpa [df_row_by_factors] using hj
    subst e
    exact ⟨[], .nil, F.bindsN fun _ _ _ _ _ _ us hl => match us, hl with | [_, _], _ => rfl⟩⟩, T.g_row_by_factors, F.kp⟩
theorem sc_euler_row : FnScope ["many", "row", "n", "place", "sign"] ["many"] (defScope s_euler_row) := ⟨rfl, rfl, rfl, by decide +kernel, rfl, by decide +kernel, by decide +kernel⟩
theorem body_euler_row (T : Tx K mg) {k : Nat} (hk : 3 ≤ k) {f : Addr} {cdv : Value} {A : Around} {outer : List PySem.Env} {s : Shared} {H : Hp} {E : XK} (hr : Room k (A.deeper (envOfC "euler_row" (defScope s_euler_row) s.heap.objs.size f cdv))) : MSs (cxOf (L2.CX P w) P w K mg base ["many", "row", "n", "place", "sign"] "euler_row" (defScope s_euler_row) f cdv A outer s H E) (fun cls d _ H => E cls d H) (defBody s_euler_row) b_euler_row := by
  have hr := hr.mono hk
  have nd := sc_euler_row.nd
  have tk : Takes (cxOf (L2.CX P w) P w K mg base ["many", "row", "n", "place", "sign"] "euler_row" (defScope s_euler_row) f cdv A outer s H E) (fun cls d _ H => E cls d H) := takes_of rfl rfl rfl rfl
  have lp : PassesOwn (model P w) (A.deeper (envOfC "euler_row" (defScope s_euler_row) s.heap.objs.size f cdv)) (envOfC "euler_row" (defScope s_euler_row) s.heap.objs.size f cdv) (cxOf (L2.CX P w) P w K mg base ["many", "row", "n", "place", "sign"] "euler_row" (defScope s_euler_row) f cdv A outer s H E).xe := passes_of (X := cxOf (L2.CX P w) P w K mg base ["many", "row", "n", "place", "sign"] "euler_row" (defScope s_euler_row) f cdv A outer s H E) rfl
  exact (mss_cons (ms_expr (me_fnP (ok_need_many T) 0 hr tk (ma_cons (mo_of (me_var 0)) (ma_cons (mo_of (me_gint rfl T.i_MOST_MANY)) ma_nil)))) (mss_cons (ms_setLc rfl nd rfl rfl (sw_true rfl rfl rfl rfl) (mi_range1 rfl T.n_range (ma_cons (mo_var 0) ma_nil)) (fun _ _ _ _ _ => (mg_name nd rfl (by first | exact Or.inl rfl | exact Or.inr rfl))) (fun _ _ _ _ _ => pts_mYes) (fun _ _ _ _ _ => (me_if (mt_cmp (op_eqD (u64 hr)) s_eq (mo_var 2) (mo_of me_int) (nomark _)) me_int me_int)) (own := [("n", 2)]) (by kernel_rfl)) (mss_cons (ms_for lp rfl (mi_seq (me_fnP (ok_euler_signs T) 0 hr tk (ma_cons (mo_of (me_var 0)) ma_nil))) (mg_tup rfl (mgs_cons (mg_name nd rfl (by first | exact Or.inl rfl | exact Or.inr rfl)) (mgs_cons (mg_name nd rfl (by first | exact Or.inl rfl | exact Or.inr rfl)) mgs_nil)) rfl) (mss_cons (ms_if (mt_cmp op_lt s_lt (mo_var 3) (mo_var 0) (nomark _)) (mss_cons (ms_setIx (ps_asg (me_var 4) (pg_sub (pv 1) (me_var 3) set_list))) mss_nil) mss_nil) mss_nil)) (mss_cons (ms_ret (me_toTuple T.n_tuple (ma_cons (mo_var 1) ma_nil))) mss_nil))))
theorem ok_euler_row (T : Tx K mg) : Fn P w K mg base 4 "euler_row" ["many"] df_euler_row m_euler_row := by
  obtain ⟨fd, F⟩ := T.d_euler_row
  exact ⟨⟨fd, def_ok (n := 1) 4 F sc_euler_row rfl rfl fun cdv A outer s H E hr => body_euler_row T (by decide) hr, lk_of F, fun j hj => by
    have e : j = 0 := by simpa [df_euler_row] using hj
    subst e
    exact ⟨[], .nil, F.bindsN fun _ _ _ _ _ _ us hl => match us, hl with | [_], _ => rfl⟩⟩, T.g_euler_row, F.kp⟩
theorem sc_cube_row : FnScope ["many", "row", "k"] ["many"] (defScope s_cube_row) := ⟨rfl, rfl, rfl, by decide +kernel, rfl, by decide +kernel, by decide +kernel⟩
theorem body_cube_row (T : Tx K mg) {k : Nat} (hk : 3 ≤ k) {f : Addr} {cdv : Value} {A : Around} {outer : List PySem.Env} {s : Shared} {H : Hp} {E : XK} (hr : Room k (A.deeper (envOfC "cube_row" (defScope s_cube_row) s.heap.objs.size f cdv))) : MSs (cxOf (L2.CX P w) P w K mg base ["many", "row", "k"] "cube_row" (defScope s_cube_row) f cdv A outer s H E) (fun cls d _ H => E cls d H) (defBody s_cube_row) b_cube_row := by
  have hr := hr.mono hk
  have nd := sc_cube_row.nd
  have tk : Takes (cxOf (L2.CX P w) P w K mg base ["many", "row", "k"] "cube_row" (defScope s_cube_row) f cdv A outer s H E) (fun cls d _ H => E cls d H) := takes_of rfl rfl rfl rfl
  have lp : PassesOwn (model P w) (A.deeper (envOfC "cube_row" (defScope s_cube_row) s.heap.objs.size f cdv)) (envOfC "cube_row" (defScope s_cube_row) s.heap.objs.size f cdv) (cxOf (L2.CX P w) P w K mg base ["many", "row", "k"] "cube_row" (defScope s_cube_row) f cdv A outer s H E).xe := passes_of (X := cxOf (L2.CX P w) P w K mg base ["many", "row", "k"] "cube_row" (defScope s_cube_row) f cdv A outer s H E) rfl
  exact (mss_cons (ms_expr (me_fnP (ok_need_many T) 0 hr tk (ma_cons (mo_of (me_var 0)) (ma_cons (mo_of (me_gint rfl T.i_MOST_MANY)) ma_nil)))) (mss_cons (ms_par (ps_par rfl nd rfl rfl (by decide) rfl rfl (mr_cons (me_op op_mulAll s_mul (mo_of (me_lst (ma_cons (mo_of me_int) ma_nil))) (mo_var 0)) (mr_cons me_int mr_nil)) (by rfl))) (mss_cons (ms_while lp (mt_cmp op_lt s_lt (mo_of (me_op op_fdiv s_fdiv (mo_of (me_op op_mulAll s_mul (mo_var 2) (mo_of (me_op op_addAll s_add (mo_var 2) (mo_of me_int))))) (mo_of me_int))) (mo_var 0) (nomark _)) (mss_cons (ms_setIx (ps_asg (me_if (mt_cmp (op_eqD (u64 hr)) s_eq (mo_of (me_op op_and s_and (mo_var 2) (mo_of me_int))) (mo_of me_int) (nomark _)) (me_op op_addAll s_add (mo_of (me_op op_mulAll s_mul (mo_of me_int) (mo_var 2))) (mo_of me_int)) (me_op op_sub s_sub (mo_of (me_op op_mulAll s_mul (mo_of (me_un un_neg s_neg (mo_of me_int))) (mo_var 2))) (mo_of me_int))) (pg_sub (pv 1) (me_op op_fdiv s_fdiv (mo_of (me_op op_mulAll s_mul (mo_var 2) (mo_of (me_op op_addAll s_add (mo_var 2) (mo_of me_int))))) (mo_of me_int)) set_list))) (mss_cons (ms_aug s_iadd (ps_aug nd rfl (by first | exact Or.inl rfl | exact Or.inr rfl) me_int iop_iadd)) mss_nil))) (mss_cons (ms_ret (me_toTuple T.n_tuple (ma_cons (mo_var 1) ma_nil))) mss_nil))))
theorem ok_cube_row (T : Tx K mg) : Fn P w K mg base 4 "cube_row" ["many"] df_cube_row m_cube_row := by
  obtain ⟨fd, F⟩ := T.d_cube_row
  exact ⟨⟨fd, def_ok (n := 1) 2 F sc_cube_row rfl rfl fun cdv A outer s H E hr => body_cube_row T (by decide) hr, lk_of F, fun j hj => by
    have e : j = 0 := by simpa [df_cube_row] using hj
    subst e
    exact ⟨[], .nil, F.bindsN fun _ _ _ _ _ _ us hl => match us, hl with | [_], _ => rfl⟩⟩, T.g_cube_row, F.kp⟩
theorem sc__law_pentagons : FnScope ["many", "row", "k", "place"] ["many"] (defScope s__law_pentagons) := ⟨rfl, rfl, rfl, by decide +kernel, rfl, by decide +kernel, by decide +kernel⟩
theorem body__law_pentagons (T : Tx K mg) {k : Nat} (hk : 0 ≤ k) {f : Addr} {cdv : Value} {A : Around} {outer : List PySem.Env} {s : Shared} {H : Hp} {E : XK} (hr : Room k (A.deeper (envOfC "_law_pentagons" (defScope s__law_pentagons) s.heap.objs.size f cdv))) : MSs (cxOf (L2.CX P w) P w K mg base ["many", "row", "k", "place"] "_law_pentagons" (defScope s__law_pentagons) f cdv A outer s H E) (fun cls d _ H => E cls d H) (defBody s__law_pentagons) b__law_pentagons := by
  have hr := hr.mono hk
  have nd := sc__law_pentagons.nd
  have tk : Takes (cxOf (L2.CX P w) P w K mg base ["many", "row", "k", "place"] "_law_pentagons" (defScope s__law_pentagons) f cdv A outer s H E) (fun cls d _ H => E cls d H) := takes_of rfl rfl rfl rfl
  have lp : PassesOwn (model P w) (A.deeper (envOfC "_law_pentagons" (defScope s__law_pentagons) s.heap.objs.size f cdv)) (envOfC "_law_pentagons" (defScope s__law_pentagons) s.heap.objs.size f cdv) (cxOf (L2.CX P w) P w K mg base ["many", "row", "k", "place"] "_law_pentagons" (defScope s__law_pentagons) f cdv A outer s H E).xe := passes_of (X := cxOf (L2.CX P w) P w K mg base ["many", "row", "k", "place"] "_law_pentagons" (defScope s__law_pentagons) f cdv A outer s H E) rfl
  exact (mss_cons (ms_par (ps_par rfl nd rfl rfl (by decide) rfl rfl (mr_cons (me_op op_mulAll s_mul (mo_of (me_lst (ma_cons (mo_of me_int) ma_nil))) (mo_var 0)) (mr_cons me_int mr_nil)) (by rfl))) (mss_cons (ms_while lp (mt_cmp op_lt s_lt (mo_of (me_op op_fdiv s_fdiv (mo_of (me_op op_mulAll s_mul (mo_var 2) (mo_of (me_op op_sub s_sub (mo_of (me_op op_mulAll s_mul (mo_of me_int) (mo_var 2))) (mo_of me_int))))) (mo_of me_int))) (mo_var 0) (nomark _)) (mss_cons (ms_for lp rfl (mi_seq (me_lst (ma_cons (mo_of (me_op op_fdiv s_fdiv (mo_of (me_op op_mulAll s_mul (mo_var 2) (mo_of (me_op op_sub s_sub (mo_of (me_op op_mulAll s_mul (mo_of me_int) (mo_var 2))) (mo_of me_int))))) (mo_of me_int))) (ma_cons (mo_of (me_op op_fdiv s_fdiv (mo_of (me_op op_mulAll s_mul (mo_var 2) (mo_of (me_op op_addAll s_add (mo_of (me_op op_mulAll s_mul (mo_of me_int) (mo_var 2))) (mo_of me_int))))) (mo_of me_int))) ma_nil)))) (mg_name nd rfl (by first | exact Or.inl rfl | exact Or.inr rfl)) (mss_cons (ms_if (mt_cmp op_lt s_lt (mo_var 3) (mo_var 0) (nomark _)) (mss_cons (ms_setIx (ps_asg (me_if (mt_cmp (op_eqD (u64 hr)) s_eq (mo_of (me_op op_mod s_mod (mo_var 2) (mo_of me_int))) (mo_of me_int) (nomark _)) me_int (me_un un_neg s_neg (mo_of me_int))) (pg_sub (pv 1) (me_var 3) set_list))) mss_nil) mss_nil) mss_nil)) (mss_cons (ms_set nd rfl (by first | exact Or.inl rfl | exact Or.inr rfl) (me_op op_addAll s_add (mo_var 2) (mo_of me_int))) mss_nil))) (mss_cons (ms_ret (me_var 1)) mss_nil)))
theorem ok__law_pentagons (T : Tx K mg) : Fn P w K mg base 1 "_law_pentagons" ["many"] df__law_pentagons m__law_pentagons := by
  obtain ⟨fd, F⟩ := T.d__law_pentagons
  exact ⟨⟨fd, def_ok (n := 1) 3 F sc__law_pentagons rfl rfl fun cdv A outer s H E hr => body__law_pentagons T (by decide) hr, lk_of F, fun j hj => by
    have e : j = 0 := by simpa [df__law_pentagons] using hj
    subst e
    exact ⟨[], .nil, F.bindsN fun _ _ _ _ _ _ us hl => match us, hl with | [_], _ => rfl⟩⟩, T.g__law_pentagons, F.kp⟩
theorem sc__law_triangles : FnScope ["many", "row", "k"] ["many"] (defScope s__law_triangles) := ⟨rfl, rfl, rfl, by decide +kernel, rfl, by decide +kernel, by decide +kernel⟩
theorem body__law_triangles (T : Tx K mg) {k : Nat} (hk : 0 ≤ k) {f : Addr} {cdv : Value} {A : Around} {outer : List PySem.Env} {s : Shared} {H : Hp} {E : XK} (hr : Room k (A.deeper (envOfC "_law_triangles" (defScope s__law_triangles) s.heap.objs.size f cdv))) : MSs (cxOf (L2.CX P w) P w K mg base ["many", "row", "k"] "_law_triangles" (defScope s__law_triangles) f cdv A outer s H E) (fun cls d _ H => E cls d H) (defBody s__law_triangles) b__law_triangles := by
  have hr := hr.mono hk
  have nd := sc__law_triangles.nd
  have tk : Takes (cxOf (L2.CX P w) P w K mg base ["many", "row", "k"] "_law_triangles" (defScope s__law_triangles) f cdv A outer s H E) (fun cls d _ H => E cls d H) := takes_of rfl rfl rfl rfl
  have lp : PassesOwn (model P w) (A.deeper (envOfC "_law_triangles" (defScope s__law_triangles) s.heap.objs.size f cdv)) (envOfC "_law_triangles" (defScope s__law_triangles) s.heap.objs.size f cdv) (cxOf (L2.CX P w) P w K mg base ["many", "row", "k"] "_law_triangles" (defScope s__law_triangles) f cdv A outer s H E).xe := passes_of (X := cxOf (L2.CX P w) P w K mg base ["many", "row", "k"] "_law_triangles" (defScope s__law_triangles) f cdv A outer s H E) rfl
  exact (mss_cons (ms_par (ps_par rfl nd rfl rfl (by decide) rfl rfl (mr_cons (me_op op_mulAll s_mul (mo_of (me_lst (ma_cons (mo_of me_int) ma_nil))) (mo_var 0)) (mr_cons me_int mr_nil)) (by rfl))) (mss_cons (ms_while lp (mt_cmp op_lt s_lt (mo_of (me_op op_fdiv s_fdiv (mo_of (me_op op_mulAll s_mul (mo_var 2) (mo_of (me_op op_addAll s_add (mo_var 2) (mo_of me_int))))) (mo_of me_int))) (mo_var 0) (nomark _)) (mss_cons (ms_setIx (ps_asg (me_if (mt_cmp (op_eqD (u64 hr)) s_eq (mo_of (me_op op_mod s_mod (mo_var 2) (mo_of me_int))) (mo_of me_int) (nomark _)) (me_op op_addAll s_add (mo_of (me_op op_mulAll s_mul (mo_of me_int) (mo_var 2))) (mo_of me_int)) (me_op op_sub s_sub (mo_of (me_op op_mulAll s_mul (mo_of (me_un un_neg s_neg (mo_of me_int))) (mo_var 2))) (mo_of me_int))) (pg_sub (pv 1) (me_op op_fdiv s_fdiv (mo_of (me_op op_mulAll s_mul (mo_var 2) (mo_of (me_op op_addAll s_add (mo_var 2) (mo_of me_int))))) (mo_of me_int)) set_list))) (mss_cons (ms_set nd rfl (by first | exact Or.inl rfl | exact Or.inr rfl) (me_op op_addAll s_add (mo_var 2) (mo_of me_int))) mss_nil))) (mss_cons (ms_ret (me_var 1)) mss_nil)))
theorem ok__law_triangles (T : Tx K mg) : Fn P w K mg base 1 "_law_triangles" ["many"] df__law_triangles m__law_triangles := by
  obtain ⟨fd, F⟩ := T.d__law_triangles
  exact ⟨⟨fd, def_ok (n := 1) 2 F sc__law_triangles rfl rfl fun cdv A outer s H E hr => body__law_triangles T (by decide) hr, lk_of F, fun j hj => by
    have e : j = 0 := by simpa [df__law_triangles] using hj
    subst e
    exact ⟨[], .nil, F.bindsN fun _ _ _ _ _ _ us hl => match us, hl with | [_], _ => rfl⟩⟩, T.g__law_triangles, F.kp⟩
theorem sc__law_isqrt : FnScope ["n", "here", "then"] ["n"] (defScope s__law_isqrt) := ⟨rfl, rfl, rfl, by decide +kernel, rfl, by decide +kernel, by decide +kernel⟩
theorem body__law_isqrt (T : Tx K mg) {k : Nat} (hk : 0 ≤ k) {f : Addr} {cdv : Value} {A : Around} {outer : List PySem.Env} {s : Shared} {H : Hp} {E : XK} (hr : Room k (A.deeper (envOfC "_law_isqrt" (defScope s__law_isqrt) s.heap.objs.size f cdv))) : MSs (cxOf (L2.CX P w) P w K mg base ["n", "here", "then"] "_law_isqrt" (defScope s__law_isqrt) f cdv A outer s H E) (fun cls d _ H => E cls d H) (defBody s__law_isqrt) b__law_isqrt := by
  have hr := hr.mono hk
  have nd := sc__law_isqrt.nd
  have tk : Takes (cxOf (L2.CX P w) P w K mg base ["n", "here", "then"] "_law_isqrt" (defScope s__law_isqrt) f cdv A outer s H E) (fun cls d _ H => E cls d H) := takes_of rfl rfl rfl rfl
  have lp : PassesOwn (model P w) (A.deeper (envOfC "_law_isqrt" (defScope s__law_isqrt) s.heap.objs.size f cdv)) (envOfC "_law_isqrt" (defScope s__law_isqrt) s.heap.objs.size f cdv) (cxOf (L2.CX P w) P w K mg base ["n", "here", "then"] "_law_isqrt" (defScope s__law_isqrt) f cdv A outer s H E).xe := passes_of (X := cxOf (L2.CX P w) P w K mg base ["n", "here", "then"] "_law_isqrt" (defScope s__law_isqrt) f cdv A outer s H E) rfl
  exact (mss_cons (ms_if (mt_cmp op_lt s_lt (mo_var 0) (mo_of me_int) (nomark _)) (mss_cons (ms_ret (me_var 0)) mss_nil) mss_nil) (mss_cons (ms_set nd rfl (by first | exact Or.inl rfl | exact Or.inr rfl) (me_op op_shl s_shl (mo_of me_int) (mo_of (me_op op_fdiv s_fdiv (mo_of (me_op op_addAll s_add (mo_of (me_bits (mo_var 0))) (mo_of me_int))) (mo_of me_int))))) (mss_cons (ms_set nd rfl (by first | exact Or.inl rfl | exact Or.inr rfl) (me_op op_fdiv s_fdiv (mo_of (me_op op_addAll s_add (mo_var 1) (mo_of (me_op op_fdiv s_fdiv (mo_var 0) (mo_var 1))))) (mo_of me_int))) (mss_cons (ms_while lp (mt_cmp op_lt s_lt (mo_var 2) (mo_var 1) (nomark _)) (mss_cons (ms_par (ps_par rfl nd rfl rfl (by decide) rfl rfl (mr_cons (me_var 2) (mr_cons (me_op op_fdiv s_fdiv (mo_of (me_op op_addAll s_add (mo_var 2) (mo_of (me_op op_fdiv s_fdiv (mo_var 0) (mo_var 2))))) (mo_of me_int)) mr_nil)) (by rfl))) mss_nil)) (mss_cons (ms_ret (me_var 1)) mss_nil)))))
theorem ok__law_isqrt (T : Tx K mg) : Fn P w K mg base 1 "_law_isqrt" ["n"] df__law_isqrt m__law_isqrt := by
  obtain ⟨fd, F⟩ := T.d__law_isqrt
  exact ⟨⟨fd, def_ok (n := 1) 2 F sc__law_isqrt rfl rfl fun cdv A outer s H E hr => body__law_isqrt T (by decide) hr, lk_of F, fun j hj => by
    have e : j = 0 := by simpa [df__law_isqrt] using hj
    subst e
    exact ⟨[], .nil, F.bindsN fun _ _ _ _ _ _ us hl => match us, hl with | [_], _ => rfl⟩⟩, T.g__law_isqrt, F.kp⟩
theorem sc__law_root : FnScope ["n"] ["n"] (defScope s__law_root) := ⟨rfl, rfl, rfl, by decide +kernel, rfl, by decide +kernel, by decide +kernel⟩
theorem body__law_root (T : Tx K mg) {k : Nat} (hk : 1 ≤ k) {f : Addr} {cdv : Value} {A : Around} {outer : List PySem.Env} {s : Shared} {H : Hp} {E : XK} (hr : Room k (A.deeper (envOfC "_law_root" (defScope s__law_root) s.heap.objs.size f cdv))) : MSs (cxOf (L2.CX P w) P w K mg base ["n"] "_law_root" (defScope s__law_root) f cdv A outer s H E) (fun cls d _ H => E cls d H) (defBody s__law_root) b__law_root := by
  have hr := hr.mono hk
  have nd := sc__law_root.nd
  have tk : Takes (cxOf (L2.CX P w) P w K mg base ["n"] "_law_root" (defScope s__law_root) f cdv A outer s H E) (fun cls d _ H => E cls d H) := takes_of rfl rfl rfl rfl
  have lp : PassesOwn (model P w) (A.deeper (envOfC "_law_root" (defScope s__law_root) s.heap.objs.size f cdv)) (envOfC "_law_root" (defScope s__law_root) s.heap.objs.size f cdv) (cxOf (L2.CX P w) P w K mg base ["n"] "_law_root" (defScope s__law_root) f cdv A outer s H E).xe := passes_of (X := cxOf (L2.CX P w) P w K mg base ["n"] "_law_root" (defScope s__law_root) f cdv A outer s H E) rfl
  exact (mss_cons (ms_if (mt_w (mw_or (mt_cmp op_lt s_lt (mo_var 0) (mo_of me_int) (nomark _)) (mw_or1 (mt_cmp (op_neD (u64 hr)) s_ne (mo_of (me_op op_pow s_pow (mo_of (me_fnP (ok__law_isqrt T) 0 hr tk (ma_cons (mo_of (me_var 0)) ma_nil))) (mo_of me_int))) (mo_var 0) (nomark _))))) (mss_cons (ms_ret me_non) mss_nil) mss_nil) (mss_cons (ms_ret (me_fnP (ok__law_isqrt T) 0 hr tk (ma_cons (mo_of (me_var 0)) ma_nil))) mss_nil))
theorem ok__law_root (T : Tx K mg) : Fn P w K mg base 2 "_law_root" ["n"] df__law_root m__law_root := by
  obtain ⟨fd, F⟩ := T.d__law_root
  exact ⟨⟨fd, def_ok (n := 1) 0 F sc__law_root rfl rfl fun cdv A outer s H E hr => body__law_root T (by decide) hr, lk_of F, fun j hj => by
    have e : j = 0 := by simpa [df__law_root] using hj
    subst e
    exact ⟨[], .nil, F.bindsN fun _ _ _ _ _ _ us hl => match us, hl with | [_], _ => rfl⟩⟩, T.g__law_root, F.kp⟩
theorem sc__law_squares : FnScope ["many", "n"] ["many"] (defScope s__law_squares) := ⟨rfl, rfl, rfl, by decide +kernel, rfl, by decide +kernel, by decide +kernel⟩
theorem body__law_squares (T : Tx K mg) {k : Nat} (hk : 2 ≤ k) {f : Addr} {cdv : Value} {A : Around} {outer : List PySem.Env} {s : Shared} {H : Hp} {E : XK} (hr : Room k (A.deeper (envOfC "_law_squares" (defScope s__law_squares) s.heap.objs.size f cdv))) : MSs (cxOf (L2.CX P w) P w K mg base ["many", "n"] "_law_squares" (defScope s__law_squares) f cdv A outer s H E) (fun cls d _ H => E cls d H) (defBody s__law_squares) b__law_squares := by
  have hr := hr.mono hk
  have nd := sc__law_squares.nd
  have tk : Takes (cxOf (L2.CX P w) P w K mg base ["many", "n"] "_law_squares" (defScope s__law_squares) f cdv A outer s H E) (fun cls d _ H => E cls d H) := takes_of rfl rfl rfl rfl
  have lp : PassesOwn (model P w) (A.deeper (envOfC "_law_squares" (defScope s__law_squares) s.heap.objs.size f cdv)) (envOfC "_law_squares" (defScope s__law_squares) s.heap.objs.size f cdv) (cxOf (L2.CX P w) P w K mg base ["many", "n"] "_law_squares" (defScope s__law_squares) f cdv A outer s H E).xe := passes_of (X := cxOf (L2.CX P w) P w K mg base ["many", "n"] "_law_squares" (defScope s__law_squares) f cdv A outer s H E) rfl
  exact (mss_cons (ms_ret (me_lc rfl nd  (mi_range1 rfl T.n_range (ma_cons (mo_var 0) ma_nil)) (fun _ _ _ _ _ => (mg_name nd rfl (by first | exact Or.inl rfl | exact Or.inr rfl))) (fun _ _ _ _ _ => pts_mYes) (fun _ _ _ _ _ => (me_if (mt_cmp (op_eqD (u64 hr)) s_eq (mo_var 1) (mo_of me_int) (nomark _)) me_int (me_if (mt_cmp op_notN s_notN (mo_of (me_fnP (ok__law_root T) 0 hr takes0 (ma_cons (mo_of (me_var 1)) ma_nil))) (mo_of me_non) (nomark _)) me_int me_int))) (own := [("n", 1)]) (by kernel_rfl))) mss_nil)
theorem ok__law_squares (T : Tx K mg) : Fn P w K mg base 3 "_law_squares" ["many"] df__law_squares m__law_squares := by
  obtain ⟨fd, F⟩ := T.d__law_squares
  exact ⟨⟨fd, def_ok (n := 1) 1 F sc__law_squares rfl rfl fun cdv A outer s H E hr => body__law_squares T (by decide) hr, lk_of F, fun j hj => by
    have e : j = 0 := by simpa [df__law_squares] using hj
    subst e
    exact ⟨[], .nil, F.bindsN fun _ _ _ _ _ _ us hl => match us, hl with | [_], _ => rfl⟩⟩, T.g__law_squares, F.kp⟩
theorem sc__law_signed : FnScope ["row", "n", "item"] ["row"] (defScope s__law_signed) := ⟨rfl, rfl, rfl, by decide +kernel, rfl, by decide +kernel, by decide +kernel⟩
theorem body__law_signed (T : Tx K mg) {k : Nat} (hk : 0 ≤ k) {f : Addr} {cdv : Value} {A : Around} {outer : List PySem.Env} {s : Shared} {H : Hp} {E : XK} (hr : Room k (A.deeper (envOfC "_law_signed" (defScope s__law_signed) s.heap.objs.size f cdv))) : MSs (cxOf (L2.CX P w) P w K mg base ["row", "n", "item"] "_law_signed" (defScope s__law_signed) f cdv A outer s H E) (fun cls d _ H => E cls d H) (defBody s__law_signed) b__law_signed := by
  have hr := hr.mono hk
  have nd := sc__law_signed.nd
  have tk : Takes (cxOf (L2.CX P w) P w K mg base ["row", "n", "item"] "_law_signed" (defScope s__law_signed) f cdv A outer s H E) (fun cls d _ H => E cls d H) := takes_of rfl rfl rfl rfl
  have lp : PassesOwn (model P w) (A.deeper (envOfC "_law_signed" (defScope s__law_signed) s.heap.objs.size f cdv)) (envOfC "_law_signed" (defScope s__law_signed) s.heap.objs.size f cdv) (cxOf (L2.CX P w) P w K mg base ["row", "n", "item"] "_law_signed" (defScope s__law_signed) f cdv A outer s H E).xe := passes_of (X := cxOf (L2.CX P w) P w K mg base ["row", "n", "item"] "_law_signed" (defScope s__law_signed) f cdv A outer s H E) rfl
  exact (mss_cons (ms_ret (me_lc rfl nd  (mi_enum rfl T.n_enumerate (ma_cons (mo_of (me_var 0)) ma_nil)) (fun _ _ _ _ _ => (mg_tup rfl (mgs_cons (mg_name nd rfl (by first | exact Or.inl rfl | exact Or.inr rfl)) (mgs_cons (mg_name nd rfl (by first | exact Or.inl rfl | exact Or.inr rfl)) mgs_nil)) rfl)) (fun _ _ _ _ _ => pts_mYes) (fun _ _ _ _ _ => (me_if (mt_cmp (op_eqD (u64 hr)) s_eq (mo_of (me_op op_mod s_mod (mo_var 1) (mo_of me_int))) (mo_of me_int) (nomark _)) (me_var 2) (me_un un_neg s_neg (mo_var 2)))) (own := [("n", 1), ("item", 2)]) (by kernel_rfl))) mss_nil)
theorem ok__law_signed (T : Tx K mg) : Fn P w K mg base 1 "_law_signed" ["row"] df__law_signed m__law_signed := by
  obtain ⟨fd, F⟩ := T.d__law_signed
  exact ⟨⟨fd, def_ok (n := 1) 2 F sc__law_signed rfl rfl fun cdv A outer s H E hr => body__law_signed T (by decide) hr, lk_of F, fun j hj => by
    have e : j = 0 := by simpa [df__law_signed] using hj
    subst e
    exact ⟨[], .nil, F.bindsN fun _ _ _ _ _ _ us hl => match us, hl with | [_], _ => rfl⟩⟩, T.g__law_signed, F.kp⟩
theorem sc__law_parts : FnScope ["many", "thin", "row", "place", "sign", "n"] ["many"] (defScope s__law_parts) := ⟨rfl, rfl, rfl, by decide +kernel, rfl, by decide +kernel, by decide +kernel⟩
theorem body__law_parts (T : Tx K mg) {k : Nat} (hk : 1 ≤ k) {f : Addr} {cdv : Value} {A : Around} {outer : List PySem.Env} {s : Shared} {H : Hp} {E : XK} (hr : Room k (A.deeper (envOfC "_law_parts" (defScope s__law_parts) s.heap.objs.size f cdv))) : MSs (cxOf (L2.CX P w) P w K mg base ["many", "thin", "row", "place", "sign", "n"] "_law_parts" (defScope s__law_parts) f cdv A outer s H E) (fun cls d _ H => E cls d H) (defBody s__law_parts) b__law_parts := by
  have hr := hr.mono hk
  have nd := sc__law_parts.nd
  have tk : Takes (cxOf (L2.CX P w) P w K mg base ["many", "thin", "row", "place", "sign", "n"] "_law_parts" (defScope s__law_parts) f cdv A outer s H E) (fun cls d _ H => E cls d H) := takes_of rfl rfl rfl rfl
  have lp : PassesOwn (model P w) (A.deeper (envOfC "_law_parts" (defScope s__law_parts) s.heap.objs.size f cdv)) (envOfC "_law_parts" (defScope s__law_parts) s.heap.objs.size f cdv) (cxOf (L2.CX P w) P w K mg base ["many", "thin", "row", "place", "sign", "n"] "_law_parts" (defScope s__law_parts) f cdv A outer s H E).xe := passes_of (X := cxOf (L2.CX P w) P w K mg base ["many", "thin", "row", "place", "sign", "n"] "_law_parts" (defScope s__law_parts) f cdv A outer s H E) rfl
  exact (mss_cons (ms_parT tg2 rfl (by decide) (ps_asg (pe_tup (mr_cons (me_lc rfl nd  (mi_enum rfl T.n_enumerate (ma_cons (mo_of (me_fnP (ok__law_pentagons T) 0 hr tk (ma_cons (mo_of (me_var 0)) ma_nil))) ma_nil)) (fun _ _ _ _ _ => (mg_tup rfl (mgs_cons (mg_name nd rfl (by first | exact Or.inl rfl | exact Or.inr rfl)) (mgs_cons (mg_name nd rfl (by first | exact Or.inl rfl | exact Or.inr rfl)) mgs_nil)) rfl)) (fun _ _ _ _ _ => (pts_one (mt_w (mw_and (mt_cmp (op_neD (u64 hr)) s_ne (mo_var 4) (mo_of me_int) (nomark _)) (mw_and1 (mt_cmp op_gt s_gt (mo_var 3) (mo_of me_int) (nomark _))))))) (fun _ _ _ _ _ => (me_tup (ma_cons (mo_of (me_var 3)) (ma_cons (mo_of (me_var 4)) ma_nil)))) (own := [("place", 3), ("sign", 4)]) (by kernel_rfl)) (mr_cons (me_lst ma_nil) mr_nil))) (pg_tup rfl (pgs_cons (pg_name nd rfl (by first | exact Or.inl rfl | exact Or.inr rfl)) (pgs_cons (pg_name nd rfl (by first | exact Or.inl rfl | exact Or.inr rfl)) pgs_nil)) rfl rfl))) (mss_cons (ms_for lp rfl (mi_range1 rfl T.n_range (ma_cons (mo_var 0) ma_nil)) (mg_name nd rfl (by first | exact Or.inl rfl | exact Or.inr rfl)) (mss_cons (ms_app (ps_expr (pe_bm PySem.F.plainAttrs_list PySem.F.slot_list_append PySem.F.type_list_append mt_append (pv 2) (pa_cons (me_if (mt_cmp (op_eqD (u64 hr)) s_eq (mo_var 5) (mo_of me_int) (nomark _)) me_int (me_un un_neg s_neg (mo_of (me_sum rfl T.n_sum (ma_cons (mo_of (me_lc rfl nd  (mi_seq (me_var 1)) (fun _ _ _ _ _ => (mg_tup rfl (mgs_cons (mg_name nd rfl (by first | exact Or.inl rfl | exact Or.inr rfl)) (mgs_cons (mg_name nd rfl (by first | exact Or.inl rfl | exact Or.inr rfl)) mgs_nil)) rfl)) (fun _ _ _ _ _ => (pts_one (mt_cmp op_le s_le (mo_var 3) (mo_var 5) (nomark _)))) (fun _ _ _ _ _ => (me_op op_mulAll s_mul (mo_var 4) (mo_of (me_ix (mo_var 2) (mo_of (me_op op_sub s_sub (mo_var 5) (mo_var 3))))))) (own := [("place", 3), ("sign", 4)]) (by kernel_rfl))) ma_nil))))) pa_nil)))) mss_nil)) (mss_cons (ms_ret (me_var 2)) mss_nil)))
theorem ok__law_parts (T : Tx K mg) : Fn P w K mg base 2 "_law_parts" ["many"] df__law_parts m__law_parts := by
  obtain ⟨fd, F⟩ := T.d__law_parts
  exact ⟨⟨fd, def_ok (n := 1) 5 F sc__law_parts rfl rfl fun cdv A outer s H E hr => body__law_parts T (by decide) hr, lk_of F, fun j hj => by
    have e : j = 0 := by simpa [df__law_parts] using hj
    subst e
    exact ⟨[], .nil, F.bindsN fun _ _ _ _ _ _ us hl => match us, hl with | [_], _ => rfl⟩⟩, T.g__law_parts, F.kp⟩
theorem sc__law_two_squares : FnScope ["many", "row", "d", "n"] ["many"] (defScope s__law_two_squares) := ⟨rfl, rfl, rfl, by decide +kernel, rfl, by decide +kernel, by decide +kernel⟩
theorem body__law_two_squares (T : Tx K mg) {k : Nat} (hk : 0 ≤ k) {f : Addr} {cdv : Value} {A : Around} {outer : List PySem.Env} {s : Shared} {H : Hp} {E : XK} (hr : Room k (A.deeper (envOfC "_law_two_squares" (defScope s__law_two_squares) s.heap.objs.size f cdv))) : MSs (cxOf (L2.CX P w) P w K mg base ["many", "row", "d", "n"] "_law_two_squares" (defScope s__law_two_squares) f cdv A outer s H E) (fun cls d _ H => E cls d H) (defBody s__law_two_squares) b__law_two_squares := by
  have hr := hr.mono hk
  have nd := sc__law_two_squares.nd
  have tk : Takes (cxOf (L2.CX P w) P w K mg base ["many", "row", "d", "n"] "_law_two_squares" (defScope s__law_two_squares) f cdv A outer s H E) (fun cls d _ H => E cls d H) := takes_of rfl rfl rfl rfl
  have lp : PassesOwn (model P w) (A.deeper (envOfC "_law_two_squares" (defScope s__law_two_squares) s.heap.objs.size f cdv)) (envOfC "_law_two_squares" (defScope s__law_two_squares) s.heap.objs.size f cdv) (cxOf (L2.CX P w) P w K mg base ["many", "row", "d", "n"] "_law_two_squares" (defScope s__law_two_squares) f cdv A outer s H E).xe := passes_of (X := cxOf (L2.CX P w) P w K mg base ["many", "row", "d", "n"] "_law_two_squares" (defScope s__law_two_squares) f cdv A outer s H E) rfl
  exact (mss_cons (ms_set nd rfl (by first | exact Or.inl rfl | exact Or.inr rfl) (me_op op_addAll s_add (mo_of (me_lst (ma_cons (mo_of me_int) ma_nil))) (mo_of (me_op op_mulAll s_mul (mo_of (me_lst (ma_cons (mo_of me_int) ma_nil))) (mo_of (me_op op_sub s_sub (mo_var 0) (mo_of me_int))))))) (mss_cons (ms_for lp rfl (mi_range3 rfl T.n_range (ma_cons (mo_of me_int) (ma_cons (mo_var 0) (ma_cons (mo_of me_int) ma_nil)))) (mg_name nd rfl (by first | exact Or.inl rfl | exact Or.inr rfl)) (mss_cons (ms_for lp rfl (mi_range3 rfl T.n_range (ma_cons (mo_var 2) (ma_cons (mo_var 0) (ma_cons (mo_var 2) ma_nil)))) (mg_name nd rfl (by first | exact Or.inl rfl | exact Or.inr rfl)) (mss_cons (ms_setIx (ps_asg (me_op op_addAll s_add (mo_of (me_ix (mo_var 1) (mo_var 3))) (mo_of (me_if (mt_cmp (op_eqD (u64 hr)) s_eq (mo_of (me_op op_mod s_mod (mo_var 2) (mo_of me_int))) (mo_of me_int) (nomark _)) me_int (me_un un_neg s_neg (mo_of me_int))))) (pg_sub (pv 1) (me_var 3) set_list))) mss_nil)) mss_nil)) (mss_cons (ms_ret (me_var 1)) mss_nil)))
theorem ok__law_two_squares (T : Tx K mg) : Fn P w K mg base 1 "_law_two_squares" ["many"] df__law_two_squares m__law_two_squares := by
  obtain ⟨fd, F⟩ := T.d__law_two_squares
  exact ⟨⟨fd, def_ok (n := 1) 3 F sc__law_two_squares rfl rfl fun cdv A outer s H E hr => body__law_two_squares T (by decide) hr, lk_of F, fun j hj => by
    have e : j = 0 := by simpa [df__law_two_squares] using hj
    subst e
    exact ⟨[], .nil, F.bindsN fun _ _ _ _ _ _ us hl => match us, hl with | [_], _ => rfl⟩⟩, T.g__law_two_squares, F.kp⟩
theorem sc__law_listed : FnScope ["pen", "row"] ["pen", "row"] (defScope s__law_listed) := ⟨rfl, rfl, rfl, by decide +kernel, rfl, by decide +kernel, by decide +kernel⟩
theorem body__law_listed (T : Tx K mg) {k : Nat} (hk : 1 ≤ k) {f : Addr} {cdv : Value} {A : Around} {outer : List PySem.Env} {s : Shared} {H : Hp} {E : XK} (hr : Room k (A.deeper (envOfC "_law_listed" (defScope s__law_listed) s.heap.objs.size f cdv))) : MSs (cxOf (L2.CX P w) P w K mg base ["pen", "row"] "_law_listed" (defScope s__law_listed) f cdv A outer s H E) (fun cls d _ H => E cls d H) (defBody s__law_listed) b__law_listed := by
  have hr := hr.mono hk
  have nd := sc__law_listed.nd
  have tk : Takes (cxOf (L2.CX P w) P w K mg base ["pen", "row"] "_law_listed" (defScope s__law_listed) f cdv A outer s H E) (fun cls d _ H => E cls d H) := takes_of rfl rfl rfl rfl
  have lp : PassesOwn (model P w) (A.deeper (envOfC "_law_listed" (defScope s__law_listed) s.heap.objs.size f cdv)) (envOfC "_law_listed" (defScope s__law_listed) s.heap.objs.size f cdv) (cxOf (L2.CX P w) P w K mg base ["pen", "row"] "_law_listed" (defScope s__law_listed) f cdv A outer s H E).xe := passes_of (X := cxOf (L2.CX P w) P w K mg base ["pen", "row"] "_law_listed" (defScope s__law_listed) f cdv A outer s H E) rfl
  exact (mss_cons (ms_ret (me_if (mt_cmp (op_eqD (u64 hr)) s_eq (mo_of (me_fnQ (ok__law_draw T) 0 hr tk (ma_cons (mo_var 0) (ma_cons (mo_of me_int) ma_nil)))) (mo_of me_int) (nomark _)) (me_toList T.n_list (ma_cons (mo_var 1) ma_nil)) (me_toTuple T.n_tuple (ma_cons (mo_var 1) ma_nil)))) mss_nil)
theorem ok__law_listed (T : Tx K mg) : Fn P w K mg base 2 "_law_listed" ["pen", "row"] df__law_listed m__law_listed := by
  obtain ⟨fd, F⟩ := T.d__law_listed
  exact ⟨⟨fd, def_ok (n := 2) 0 F sc__law_listed rfl rfl fun cdv A outer s H E hr => body__law_listed T (by decide) hr, lk_of F, fun j hj => by
    have e : j = 0 := by simpa [df__law_listed] using hj
    subst e
    exact ⟨[], .nil, F.bindsN fun _ _ _ _ _ _ us hl => match us, hl with | [_, _], _ => rfl⟩⟩, T.g__law_listed, F.kp⟩
theorem sc__law_shuffled : FnScope ["pen", "some", "left", "found", "lap"] ["pen", "some"] (defScope s__law_shuffled) := ⟨rfl, rfl, rfl, by decide +kernel, rfl, by decide +kernel, by decide +kernel⟩
theorem body__law_shuffled (T : Tx K mg) {k : Nat} (hk : 1 ≤ k) {f : Addr} {cdv : Value} {A : Around} {outer : List PySem.Env} {s : Shared} {H : Hp} {E : XK} (hr : Room k (A.deeper (envOfC "_law_shuffled" (defScope s__law_shuffled) s.heap.objs.size f cdv))) : MSs (cxOf (L2.CX P w) P w K mg base ["pen", "some", "left", "found", "lap"] "_law_shuffled" (defScope s__law_shuffled) f cdv A outer s H E) (fun cls d _ H => E cls d H) (defBody s__law_shuffled) b__law_shuffled := by
  have hr := hr.mono hk
  have nd := sc__law_shuffled.nd
  have tk : Takes (cxOf (L2.CX P w) P w K mg base ["pen", "some", "left", "found", "lap"] "_law_shuffled" (defScope s__law_shuffled) f cdv A outer s H E) (fun cls d _ H => E cls d H) := takes_of rfl rfl rfl rfl
  have lp : PassesOwn (model P w) (A.deeper (envOfC "_law_shuffled" (defScope s__law_shuffled) s.heap.objs.size f cdv)) (envOfC "_law_shuffled" (defScope s__law_shuffled) s.heap.objs.size f cdv) (cxOf (L2.CX P w) P w K mg base ["pen", "some", "left", "found", "lap"] "_law_shuffled" (defScope s__law_shuffled) f cdv A outer s H E).xe := passes_of (X := cxOf (L2.CX P w) P w K mg base ["pen", "some", "left", "found", "lap"] "_law_shuffled" (defScope s__law_shuffled) f cdv A outer s H E) rfl
  exact (mss_cons (ms_par (ps_par rfl nd rfl rfl (by decide) rfl rfl (mr_cons (me_toList T.n_list (ma_cons (mo_var 1) ma_nil)) (mr_cons (me_lst ma_nil) mr_nil)) (by rfl))) (mss_cons (ms_for lp rfl (mi_range1 rfl T.n_range (ma_cons (mo_of (me_len T.n_len (ma_cons (mo_var 1) ma_nil))) ma_nil)) (mg_name nd rfl (by first | exact Or.inl rfl | exact Or.inr rfl)) (mss_cons (ms_app (ps_expr (pe_bm PySem.F.plainAttrs_list PySem.F.slot_list_append PySem.F.type_list_append mt_append (pv 3) (pa_cons (me_popAt (pe_bm PySem.F.plainAttrs_list PySem.F.slot_list_pop PySem.F.type_list_pop mt_popAt (pv 2) (pa_cons (me_fnQ (ok__law_draw T) 0 hr tk (ma_cons (mo_var 0) (ma_cons (mo_of (me_len T.n_len (ma_cons (mo_var 2) ma_nil))) ma_nil))) pa_nil))) pa_nil)))) mss_nil)) (mss_cons (ms_ret (me_var 3)) mss_nil)))
theorem ok__law_shuffled (T : Tx K mg) : Fn P w K mg base 2 "_law_shuffled" ["pen", "some"] df__law_shuffled m__law_shuffled := by
  obtain ⟨fd, F⟩ := T.d__law_shuffled
  exact ⟨⟨fd, def_ok (n := 2) 3 F sc__law_shuffled rfl rfl fun cdv A outer s H E hr => body__law_shuffled T (by decide) hr, lk_of F, fun j hj => by
    have e : j = 0 := by simpa [df__law_shuffled] using hj
    subst e
    exact ⟨[], .nil, F.bindsN fun _ _ _ _ _ _ us hl => match us, hl with | [_, _], _ => rfl⟩⟩, T.g__law_shuffled, F.kp⟩
theorem sc__law_p_given : FnScope ["pen", "powers", "item"] ["pen", "powers"] (defScope s__law_p_given) := ⟨rfl, rfl, rfl, by decide +kernel, rfl, by decide +kernel, by decide +kernel⟩
theorem body__law_p_given (T : Tx K mg) {k : Nat} (hk : 2 ≤ k) {f : Addr} {cdv : Value} {A : Around} {outer : List PySem.Env} {s : Shared} {H : Hp} {E : XK} (hr : Room k (A.deeper (envOfC "_law_p_given" (defScope s__law_p_given) s.heap.objs.size f cdv))) : MSs (cxOf (L2.CX P w) P w K mg base ["pen", "powers", "item"] "_law_p_given" (defScope s__law_p_given) f cdv A outer s H E) (fun cls d _ H => E cls d H) (defBody s__law_p_given) b__law_p_given := by
  have hr := hr.mono hk
  have nd := sc__law_p_given.nd
  have tk : Takes (cxOf (L2.CX P w) P w K mg base ["pen", "powers", "item"] "_law_p_given" (defScope s__law_p_given) f cdv A outer s H E) (fun cls d _ H => E cls d H) := takes_of rfl rfl rfl rfl
  have lp : PassesOwn (model P w) (A.deeper (envOfC "_law_p_given" (defScope s__law_p_given) s.heap.objs.size f cdv)) (envOfC "_law_p_given" (defScope s__law_p_given) s.heap.objs.size f cdv) (cxOf (L2.CX P w) P w K mg base ["pen", "powers", "item"] "_law_p_given" (defScope s__law_p_given) f cdv A outer s H E).xe := passes_of (X := cxOf (L2.CX P w) P w K mg base ["pen", "powers", "item"] "_law_p_given" (defScope s__law_p_given) f cdv A outer s H E) rfl
  exact (mss_cons (ms_ret (me_fnQ (ok__law_listed T) 0 hr tk (ma_cons (mo_var 0) (ma_cons (mo_of (me_lc rfl nd  (mi_seq (me_fnQ (ok__law_shuffled T) 0 hr tk (ma_cons (mo_var 0) (ma_cons (mo_of (me_toList T.n_list (ma_cons (mo_var 1) ma_nil))) ma_nil)))) (fun _ _ _ _ _ => (mg_name nd rfl (by first | exact Or.inl rfl | exact Or.inr rfl))) (fun _ _ _ _ _ => pts_mYes) (fun _ _ _ _ _ => (me_fnQ (ok__law_listed T) 0 hr takes0 (ma_cons (mo_var 0) (ma_cons (mo_of (me_var 2)) ma_nil)))) (own := [("item", 2)]) (by kernel_rfl))) ma_nil)))) mss_nil)
theorem ok__law_p_given (T : Tx K mg) : Fn P w K mg base 3 "_law_p_given" ["pen", "powers"] df__law_p_given m__law_p_given := by
  obtain ⟨fd, F⟩ := T.d__law_p_given
  exact ⟨⟨fd, def_ok (n := 2) 1 F sc__law_p_given rfl rfl fun cdv A outer s H E hr => body__law_p_given T (by decide) hr, lk_of F, fun j hj => by
    have e : j = 0 := by simpa [df__law_p_given] using hj
    subst e
    exact ⟨[], .nil, F.bindsN fun _ _ _ _ _ _ us hl => match us, hl with | [_, _], _ => rfl⟩⟩, T.g__law_p_given, F.kp⟩
theorem sc__law_spread : FnScope ["row", "d", "many", "n"] ["row", "d", "many"] (defScope s__law_spread) := ⟨rfl, rfl, rfl, by decide +kernel, rfl, by decide +kernel, by decide +kernel⟩
theorem body__law_spread (T : Tx K mg) {k : Nat} (hk : 0 ≤ k) {f : Addr} {cdv : Value} {A : Around} {outer : List PySem.Env} {s : Shared} {H : Hp} {E : XK} (hr : Room k (A.deeper (envOfC "_law_spread" (defScope s__law_spread) s.heap.objs.size f cdv))) : MSs (cxOf (L2.CX P w) P w K mg base ["row", "d", "many", "n"] "_law_spread" (defScope s__law_spread) f cdv A outer s H E) (fun cls d _ H => E cls d H) (defBody s__law_spread) b__law_spread := by
  have hr := hr.mono hk
  have nd := sc__law_spread.nd
  have tk : Takes (cxOf (L2.CX P w) P w K mg base ["row", "d", "many", "n"] "_law_spread" (defScope s__law_spread) f cdv A outer s H E) (fun cls d _ H => E cls d H) := takes_of rfl rfl rfl rfl
  have lp : PassesOwn (model P w) (A.deeper (envOfC "_law_spread" (defScope s__law_spread) s.heap.objs.size f cdv)) (envOfC "_law_spread" (defScope s__law_spread) s.heap.objs.size f cdv) (cxOf (L2.CX P w) P w K mg base ["row", "d", "many", "n"] "_law_spread" (defScope s__law_spread) f cdv A outer s H E).xe := passes_of (X := cxOf (L2.CX P w) P w K mg base ["row", "d", "many", "n"] "_law_spread" (defScope s__law_spread) f cdv A outer s H E) rfl
  exact (mss_cons (ms_ret (me_lc rfl nd  (mi_range1 rfl T.n_range (ma_cons (mo_var 2) ma_nil)) (fun _ _ _ _ _ => (mg_name nd rfl (by first | exact Or.inl rfl | exact Or.inr rfl))) (fun _ _ _ _ _ => pts_mYes) (fun _ _ _ _ _ => (me_if (mt_cmp (op_eqD (u64 hr)) s_eq (mo_of (me_op op_mod s_mod (mo_var 3) (mo_var 1))) (mo_of me_int) (nomark _)) (me_ix (mo_var 0) (mo_of (me_op op_fdiv s_fdiv (mo_var 3) (mo_var 1)))) me_int)) (own := [("n", 3)]) (by kernel_rfl))) mss_nil)
theorem ok__law_spread (T : Tx K mg) : Fn P w K mg base 1 "_law_spread" ["row", "d", "many"] df__law_spread m__law_spread := by
  obtain ⟨fd, F⟩ := T.d__law_spread
  exact ⟨⟨fd, def_ok (n := 3) 1 F sc__law_spread rfl rfl fun cdv A outer s H E hr => body__law_spread T (by decide) hr, lk_of F, fun j hj => by
    have e : j = 0 := by simpa [df__law_spread] using hj
    subst e
    exact ⟨[], .nil, F.bindsN fun _ _ _ _ _ _ us hl => match us, hl with | [_, _, _], _ => rfl⟩⟩, T.g__law_spread, F.kp⟩
theorem sc_law : FnScope ["script", "pen", "many", "d", "known", "powers", "row", "spread", "place", "r", "triangle", "n"] ["script"] (defScope s_law) := ⟨rfl, rfl, rfl, by decide +kernel, rfl, by decide +kernel, by decide +kernel⟩
theorem body_law (T : Tx K mg) {k : Nat} (hk : 5 ≤ k) {f : Addr} {cdv : Value} {A : Around} {outer : List PySem.Env} {s : Shared} {H : Hp} {E : XK} (hr : Room k (A.deeper (envOfC "law" (defScope s_law) s.heap.objs.size f cdv))) : MSs (cxOf (L2.CX P w) P w K mg base ["script", "pen", "many", "d", "known", "powers", "row", "spread", "place", "r", "triangle", "n"] "law" (defScope s_law) f cdv A outer s H E) (fun cls d _ H => E cls d H) (defBody s_law) b_law := by
  have hr := hr.mono hk
  have nd := sc_law.nd
  have tk : Takes (cxOf (L2.CX P w) P w K mg base ["script", "pen", "many", "d", "known", "powers", "row", "spread", "place", "r", "triangle", "n"] "law" (defScope s_law) f cdv A outer s H E) (fun cls d _ H => E cls d H) := takes_of rfl rfl rfl rfl
  have lp : PassesOwn (model P w) (A.deeper (envOfC "law" (defScope s_law) s.heap.objs.size f cdv)) (envOfC "law" (defScope s_law) s.heap.objs.size f cdv) (cxOf (L2.CX P w) P w K mg base ["script", "pen", "many", "d", "known", "powers", "row", "spread", "place", "r", "triangle", "n"] "law" (defScope s_law) f cdv A outer s H E).xe := passes_of (X := cxOf (L2.CX P w) P w K mg base ["script", "pen", "many", "d", "known", "powers", "row", "spread", "place", "r", "triangle", "n"] "law" (defScope s_law) f cdv A outer s H E) rfl
  exact (mss_cons (ms_set nd rfl (by first | exact Or.inl rfl | exact Or.inr rfl) (me_fnP (ok__law_pen T) 0 hr tk (ma_cons (mo_of (me_var 0)) ma_nil))) (mss_cons (ms_parT tg2 rfl (by decide) (ps_asg (pe_tup (mr_cons (me_op op_addAll s_add (mo_of me_int) (mo_of (me_fnQ (ok__law_draw T) 0 hr tk (ma_cons (mo_var 1) (ma_cons (mo_of me_int) ma_nil))))) (mr_cons (me_op op_addAll s_add (mo_of me_int) (mo_of (me_fnQ (ok__law_draw T) 0 hr tk (ma_cons (mo_var 1) (ma_cons (mo_of me_int) ma_nil))))) mr_nil))) (pg_tup rfl (pgs_cons (pg_name nd rfl (by first | exact Or.inl rfl | exact Or.inr rfl)) (pgs_cons (pg_name nd rfl (by first | exact Or.inl rfl | exact Or.inr rfl)) pgs_nil)) rfl rfl))) (mss_cons (ms_if (mt_w (mw_or (mt_cmp (op_neD (u64 hr)) s_ne (mo_of (me_fnP (ok_euler_row T) 0 hr tk (ma_cons (mo_of (me_var 2)) ma_nil))) (mo_of (me_toTuple T.n_tuple (ma_cons (mo_of (me_fnP (ok__law_pentagons T) 0 hr tk (ma_cons (mo_of (me_var 2)) ma_nil))) ma_nil))) (nomark _)) (mw_or1 (mt_cmp (op_neD (u64 hr)) s_ne (mo_of (me_fnP (ok_cube_row T) 0 hr tk (ma_cons (mo_of (me_var 2)) ma_nil))) (mo_of (me_toTuple T.n_tuple (ma_cons (mo_of (me_fnP (ok__law_triangles T) 0 hr tk (ma_cons (mo_of (me_var 2)) ma_nil))) ma_nil))) (nomark _))))) (mss_cons (ms_ret me_bl) mss_nil) mss_nil) (mss_cons (ms_set nd rfl (by first | exact Or.inl rfl | exact Or.inr rfl) (me_lst (ma_cons (mo_of (me_tup (ma_cons (mo_of (me_tup (ma_cons (mo_of (me_tup (ma_cons (mo_of me_int) (ma_cons (mo_of me_int) ma_nil)))) ma_nil))) (ma_cons (mo_of (me_fnP (ok__law_pentagons T) 0 hr tk (ma_cons (mo_of (me_var 2)) ma_nil))) ma_nil)))) (ma_cons (mo_of (me_tup (ma_cons (mo_of (me_tup (ma_cons (mo_of (me_tup (ma_cons (mo_of me_int) (ma_cons (mo_of me_int) ma_nil)))) ma_nil))) (ma_cons (mo_of (me_fnP (ok__law_triangles T) 0 hr tk (ma_cons (mo_of (me_var 2)) ma_nil))) ma_nil)))) (ma_cons (mo_of (me_tup (ma_cons (mo_of (me_tup (ma_cons (mo_of (me_tup (ma_cons (mo_of me_int) (ma_cons (mo_of (me_un un_neg s_neg (mo_of me_int))) ma_nil)))) (ma_cons (mo_of (me_tup (ma_cons (mo_of me_int) (ma_cons (mo_of me_int) ma_nil)))) (ma_cons (mo_of (me_tup (ma_cons (mo_of me_int) (ma_cons (mo_of (me_un un_neg s_neg (mo_of me_int))) ma_nil)))) ma_nil))))) (ma_cons (mo_of (me_fnP (ok__law_squares T) 0 hr tk (ma_cons (mo_of (me_var 2)) ma_nil))) ma_nil)))) (ma_cons (mo_of (me_tup (ma_cons (mo_of (me_tup (ma_cons (mo_of (me_tup (ma_cons (mo_of me_int) (ma_cons (mo_of me_int) ma_nil)))) (ma_cons (mo_of (me_tup (ma_cons (mo_of me_int) (ma_cons (mo_of (me_un un_neg s_neg (mo_of me_int))) ma_nil)))) ma_nil)))) (ma_cons (mo_of (me_fnP (ok__law_signed T) 0 hr tk (ma_cons (mo_of (me_fnP (ok__law_squares T) 0 hr tk (ma_cons (mo_of (me_var 2)) ma_nil))) ma_nil))) ma_nil)))) (ma_cons (mo_of (me_tup (ma_cons (mo_of (me_tup (ma_cons (mo_of (me_tup (ma_cons (mo_of me_int) (ma_cons (mo_of (me_un un_neg s_neg (mo_of me_int))) ma_nil)))) ma_nil))) (ma_cons (mo_of (me_fnP (ok__law_parts T) 0 hr tk (ma_cons (mo_of (me_var 2)) ma_nil))) ma_nil)))) (ma_cons (mo_of (me_tup (ma_cons (mo_of (me_tup (ma_cons (mo_of (me_tup (ma_cons (mo_of me_int) (ma_cons (mo_of (me_un un_neg s_neg (mo_of me_int))) ma_nil)))) (ma_cons (mo_of (me_tup (ma_cons (mo_of me_int) (ma_cons (mo_of me_int) ma_nil)))) (ma_cons (mo_of (me_tup (ma_cons (mo_of me_int) (ma_cons (mo_of (me_un un_neg s_neg (mo_of me_int))) ma_nil)))) ma_nil))))) (ma_cons (mo_of (me_fnP (ok__law_two_squares T) 0 hr tk (ma_cons (mo_of (me_var 2)) ma_nil))) ma_nil)))) (ma_cons (mo_of (me_tup (ma_cons (mo_of (me_tup (ma_cons (mo_of (me_tup (ma_cons (mo_of me_int) (ma_cons (mo_of me_int) ma_nil)))) (ma_cons (mo_of (me_tup (ma_cons (mo_of me_int) (ma_cons (mo_of (me_un un_neg s_neg (mo_of me_int))) ma_nil)))) ma_nil)))) (ma_cons (mo_of (me_fnP (ok__law_signed T) 0 hr tk (ma_cons (mo_of (me_fnP (ok__law_two_squares T) 0 hr tk (ma_cons (mo_of (me_var 2)) ma_nil))) ma_nil))) ma_nil)))) ma_nil))))))))) (mss_cons (ms_asg (me_fnQ (ok__law_pick T) 0 hr tk (ma_cons (mo_var 1) (ma_cons (mo_of (me_var 4)) ma_nil))) (mg_tup rfl (mgs_cons (mg_name nd rfl (by first | exact Or.inl rfl | exact Or.inr rfl)) (mgs_cons (mg_name nd rfl (by first | exact Or.inl rfl | exact Or.inr rfl)) mgs_nil)) rfl)) (mss_cons (ms_set nd rfl (by first | exact Or.inl rfl | exact Or.inr rfl) (me_toTuple T.n_tuple (ma_cons (mo_of (me_lc rfl nd  (mi_seq (me_var 5)) (fun _ _ _ _ _ => (mg_tup rfl (mgs_cons (mg_name nd rfl (by first | exact Or.inl rfl | exact Or.inr rfl)) (mgs_cons (mg_name nd rfl (by first | exact Or.inl rfl | exact Or.inr rfl)) mgs_nil)) rfl)) (fun _ _ _ _ _ => pts_mYes) (fun _ _ _ _ _ => (me_tup (ma_cons (mo_of (me_op op_mulAll s_mul (mo_var 3) (mo_var 8))) (ma_cons (mo_of (me_var 9)) ma_nil)))) (own := [("place", 8), ("r", 9)]) (by kernel_rfl))) ma_nil))) (mss_cons (ms_if (mt_cmp (op_neD (u64 hr)) s_ne (mo_of (me_fnP (ok_product_row T) 0 hr tk (ma_cons (mo_of (me_fnQ (ok__law_p_given T) 0 hr tk (ma_cons (mo_var 1) (ma_cons (mo_of (me_var 7)) ma_nil)))) (ma_cons (mo_of (me_var 2)) ma_nil)))) (mo_of (me_toTuple T.n_tuple (ma_cons (mo_of (me_fnP (ok__law_spread T) 0 hr tk (ma_cons (mo_of (me_var 6)) (ma_cons (mo_of (me_var 3)) (ma_cons (mo_of (me_var 2)) ma_nil))))) ma_nil))) (nomark _)) (mss_cons (ms_ret me_bl) mss_nil) mss_nil) (mss_cons (ms_if (mt_cmp (op_neD (u64 hr)) s_ne (mo_of (me_fnP (ok_row_by_factors T) 0 hr tk (ma_cons (mo_of (me_fnQ (ok__law_p_given T) 0 hr tk (ma_cons (mo_var 1) (ma_cons (mo_of (me_var 5)) ma_nil)))) (ma_cons (mo_of (me_var 2)) ma_nil)))) (mo_of (me_toTuple T.n_tuple (ma_cons (mo_var 6) ma_nil))) (nomark _)) (mss_cons (ms_ret me_bl) mss_nil) mss_nil) (mss_cons (ms_set nd rfl (by first | exact Or.inl rfl | exact Or.inr rfl) (me_fnP (ok_product_row T) 0 hr tk (ma_cons (mo_of (me_tup (ma_cons (mo_of (me_tup (ma_cons (mo_of me_int) (ma_cons (mo_of (me_un un_neg s_neg (mo_of me_int))) ma_nil)))) (ma_cons (mo_of (me_tup (ma_cons (mo_of me_int) (ma_cons (mo_of me_int) ma_nil)))) ma_nil)))) (ma_cons (mo_of (me_var 2)) ma_nil)))) (mss_cons (ms_if (mt_cmp (op_neD (u64 hr)) s_ne (mo_var 10) (mo_of (me_toTuple T.n_tuple (ma_cons (mo_of (me_lc rfl nd  (mi_range1 rfl T.n_range (ma_cons (mo_var 2) ma_nil)) (fun _ _ _ _ _ => (mg_name nd rfl (by first | exact Or.inl rfl | exact Or.inr rfl))) (fun _ _ _ _ _ => pts_mYes) (fun _ _ _ _ _ => (me_if (mt_cmp op_notN s_notN (mo_of (me_fnP (ok__law_root T) 0 hr takes0 (ma_cons (mo_of (me_op op_addAll s_add (mo_of (me_op op_mulAll s_mul (mo_of me_int) (mo_var 11))) (mo_of me_int))) ma_nil))) (mo_of me_non) (nomark _)) me_int me_int)) (own := [("n", 11)]) (by kernel_rfl))) ma_nil))) (nomark _)) (mss_cons (ms_ret me_bl) mss_nil) mss_nil) (mss_cons (ms_ret (me_cmp op_ge s_ge (mo_of (me_min rfl hr T.n_min (ma_cons (mo_of (me_fnP (ok_product_row T) 0 hr tk (ma_cons (mo_of (me_tup (ma_cons (mo_of (me_tup (ma_cons (mo_of me_int) (ma_cons (mo_of (me_un un_neg s_neg (mo_of me_int))) ma_nil)))) (ma_cons (mo_of (me_tup (ma_cons (mo_of me_int) (ma_cons (mo_of me_int) ma_nil)))) ma_nil)))) (ma_cons (mo_of (me_var 2)) ma_nil)))) ma_nil))) (mo_of me_int) (nomark _))) mss_nil)))))))))))
theorem ok_law (T : Tx K mg) : Fn P w K mg base 6 "law" ["script"] df_law m_law := by
  obtain ⟨fd, F⟩ := T.d_law
  exact ⟨⟨fd, def_ok (n := 1) 11 F sc_law rfl rfl fun cdv A outer s H E hr => body_law T (by decide) hr, lk_of F, fun j hj => by
    have e : j = 0 := by simpa [df_law] using hj
    subst e
    exact ⟨[], .nil, F.bindsN fun _ _ _ _ _ _ us hl => match us, hl with | [_], _ => rfl⟩⟩, T.g_law, F.kp⟩
end
/-! ### the head -/
def h__law_pen : He.DefD := ⟨("_law_pen", none), "_law_pen", "_law_pen", defArgs s__law_pen, defBody s__law_pen, defScope s__law_pen, [], []⟩
def h__law_draw : He.DefD := ⟨("_law_draw", none), "_law_draw", "_law_draw", defArgs s__law_draw, defBody s__law_draw, defScope s__law_draw, [], []⟩
def h__law_pick : He.DefD := ⟨("_law_pick", none), "_law_pick", "_law_pick", defArgs s__law_pick, defBody s__law_pick, defScope s__law_pick, [], []⟩
def h_is_row : He.DefD := ⟨("is_row", none), "is_row", "is_row", defArgs s_is_row, defBody s_is_row, defScope s_is_row, [], []⟩
def h_is_integer : He.DefD := ⟨("is_integer", none), "is_integer", "is_integer", defArgs s_is_integer, defBody s_is_integer, defScope s_is_integer, [], []⟩
def h_are_integers : He.DefD := ⟨("are_integers", none), "are_integers", "are_integers", defArgs s_are_integers, defBody s_are_integers, defScope s_are_integers, [], []⟩
def h_is_item : He.DefD := ⟨("is_item", none), "is_item", "is_item", defArgs s_is_item, defBody s_is_item, defScope s_is_item, [], []⟩
def h_need_powers : He.DefD := ⟨("need_powers", none), "need_powers", "need_powers", defArgs s_need_powers, defBody s_need_powers, defScope s_need_powers, [], []⟩
def h_is_count : He.DefD := ⟨("is_count", none), "is_count", "is_count", defArgs s_is_count, defBody s_is_count, defScope s_is_count, [.non], []⟩
def h_need_many : He.DefD := ⟨("need_many", none), "need_many", "need_many", defArgs s_need_many, defBody s_need_many, defScope s_need_many, [], []⟩
def h_sums_for : He.DefD := ⟨("sums_for", none), "sums_for", "sums_for", defArgs s_sums_for, defBody s_sums_for, defScope s_sums_for, [], []⟩
def h_by_sums : He.DefD := ⟨("by_sums", none), "by_sums", "by_sums", defArgs s_by_sums, defBody s_by_sums, defScope s_by_sums, [], []⟩
def h_product_row : He.DefD := ⟨("product_row", none), "product_row", "product_row", defArgs s_product_row, defBody s_product_row, defScope s_product_row, [], []⟩
def h_euler_signs : He.DefD := ⟨("euler_signs", none), "euler_signs", "euler_signs", defArgs s_euler_signs, defBody s_euler_signs, defScope s_euler_signs, [], []⟩
def h_times_signs : He.DefD := ⟨("times_signs", none), "times_signs", "times_signs", defArgs s_times_signs, defBody s_times_signs, defScope s_times_signs, [], []⟩
def h_over_signs : He.DefD := ⟨("over_signs", none), "over_signs", "over_signs", defArgs s_over_signs, defBody s_over_signs, defScope s_over_signs, [], []⟩
def h_by_factors : He.DefD := ⟨("by_factors", none), "by_factors", "by_factors", defArgs s_by_factors, defBody s_by_factors, defScope s_by_factors, [(.int 0)], []⟩
def h_row_by_factors : He.DefD := ⟨("row_by_factors", none), "row_by_factors", "row_by_factors", defArgs s_row_by_factors, defBody s_row_by_factors, defScope s_row_by_factors, [], []⟩
def h_euler_row : He.DefD := ⟨("euler_row", none), "euler_row", "euler_row", defArgs s_euler_row, defBody s_euler_row, defScope s_euler_row, [], []⟩
def h_cube_row : He.DefD := ⟨("cube_row", none), "cube_row", "cube_row", defArgs s_cube_row, defBody s_cube_row, defScope s_cube_row, [], []⟩
def h__law_pentagons : He.DefD := ⟨("_law_pentagons", none), "_law_pentagons", "_law_pentagons", defArgs s__law_pentagons, defBody s__law_pentagons, defScope s__law_pentagons, [], []⟩
def h__law_triangles : He.DefD := ⟨("_law_triangles", none), "_law_triangles", "_law_triangles", defArgs s__law_triangles, defBody s__law_triangles, defScope s__law_triangles, [], []⟩
def h__law_isqrt : He.DefD := ⟨("_law_isqrt", none), "_law_isqrt", "_law_isqrt", defArgs s__law_isqrt, defBody s__law_isqrt, defScope s__law_isqrt, [], []⟩
def h__law_root : He.DefD := ⟨("_law_root", none), "_law_root", "_law_root", defArgs s__law_root, defBody s__law_root, defScope s__law_root, [], []⟩
def h__law_squares : He.DefD := ⟨("_law_squares", none), "_law_squares", "_law_squares", defArgs s__law_squares, defBody s__law_squares, defScope s__law_squares, [], []⟩
def h__law_signed : He.DefD := ⟨("_law_signed", none), "_law_signed", "_law_signed", defArgs s__law_signed, defBody s__law_signed, defScope s__law_signed, [], []⟩
def h__law_parts : He.DefD := ⟨("_law_parts", none), "_law_parts", "_law_parts", defArgs s__law_parts, defBody s__law_parts, defScope s__law_parts, [], []⟩
def h__law_two_squares : He.DefD := ⟨("_law_two_squares", none), "_law_two_squares", "_law_two_squares", defArgs s__law_two_squares, defBody s__law_two_squares, defScope s__law_two_squares, [], []⟩
def h__law_listed : He.DefD := ⟨("_law_listed", none), "_law_listed", "_law_listed", defArgs s__law_listed, defBody s__law_listed, defScope s__law_listed, [], []⟩
def h__law_shuffled : He.DefD := ⟨("_law_shuffled", none), "_law_shuffled", "_law_shuffled", defArgs s__law_shuffled, defBody s__law_shuffled, defScope s__law_shuffled, [], []⟩
def h__law_p_given : He.DefD := ⟨("_law_p_given", none), "_law_p_given", "_law_p_given", defArgs s__law_p_given, defBody s__law_p_given, defScope s__law_p_given, [], []⟩
def h__law_spread : He.DefD := ⟨("_law_spread", none), "_law_spread", "_law_spread", defArgs s__law_spread, defBody s__law_spread, defScope s__law_spread, [], []⟩
def h_law : He.DefD := ⟨("law", none), "law", "law", defArgs s_law, defBody s_law, defScope s_law, [], []⟩
def fn : List He.DefD := [h__law_pen, h__law_draw, h__law_pick, h_is_row, h_is_integer, h_are_integers, h_is_item, h_need_powers, h_is_count, h_need_many, h_sums_for, h_by_sums, h_product_row, h_euler_signs, h_times_signs, h_over_signs, h_by_factors, h_row_by_factors, h_euler_row, h_cube_row, h__law_pentagons, h__law_triangles, h__law_isqrt, h__law_root, h__law_squares, h__law_signed, h__law_parts, h__law_two_squares, h__law_listed, h__law_shuffled, h__law_p_given, h__law_spread, h_law]
def fa : List He.Fa := [.free "abs", .free "all", .free "bool", .free "enumerate", .free "int", .free "isinstance", .free "len", .free "list", .free "min", .free "range", .free "set", .free "sorted", .free "sum", .free "tuple", .int "MOST_MANY" 3000, .int "MOST_PLACE" 1000, .int "MOST_POWER" 1000, .glo "_law_pen", .glo "_law_draw", .glo "_law_pick", .glo "is_row", .glo "is_integer", .glo "are_integers", .glo "is_item", .glo "need_powers", .glo "is_count", .glo "need_many", .glo "sums_for", .glo "by_sums", .glo "product_row", .glo "euler_signs", .glo "times_signs", .glo "over_signs", .glo "by_factors", .glo "row_by_factors", .glo "euler_row", .glo "cube_row", .glo "_law_pentagons", .glo "_law_triangles", .glo "_law_isqrt", .glo "_law_root", .glo "_law_squares", .glo "_law_signed", .glo "_law_parts", .glo "_law_two_squares", .glo "_law_listed", .glo "_law_shuffled", .glo "_law_p_given", .glo "_law_spread", .glo "law"]
def ls0 : List PySem.Str := ["RowError", "BadNumber", "BadRow", "is_integer", "is_count", "is_row", "are_integers", "MOST_PLACE", "MOST_POWER", "MOST_MANY", "is_item", "need_powers", "need_many", "euler_signs", "euler_row", "cube_row", "times_signs", "over_signs", "by_factors", "row_by_factors", "sums_for", "by_sums", "product_row", "_law_pen", "_law_draw", "_law_pick", "_law_shuffled", "_law_listed", "_law_isqrt", "_law_root"]
def ls1 : List PySem.Str := ["_law_p_given", "_law_spread", "_law_pentagons", "_law_triangles", "_law_squares", "_law_parts", "_law_two_squares", "_law_signed"]
abbrev R : PySem.W.OpenRow := PySem.W.OpenLaw.row PySem.Challenge.rw_productrows_k12_whole_rows_far_out
abbrev hk : PySem.W.Hook := He.hookD 5 fa fn
def ob (s : PySem.W.SharedT) : He.AlD := He.obsDG 5 fa fn (HandSHeadRun.getT s)
theorem ob_eq (s : PySem.W.SharedT) : ob s = hk.obs s.abs := He.obsDG_eq (HandSHeadRun.getT_eq s)
theorem run (w : World) : HandSHeadRun.RunEq R (PySem.W.view R.prog [42]) hk ob 2980 (ls0 ++ ls1) w := by
  intro os
  kernel_rfl
theorem facts {K : PySem.W.Frag} {h : Heap} {mg : Str → Option Value} (X : K.In h) (G : h.Ns mainGlobals mg) (c : He.SaysD fa fn K) : Tx K mg where
  n_abs := He.free_ok X G (c.fact 0 (f := .free "abs") rfl)
  n_all := He.free_ok X G (c.fact 1 (f := .free "all") rfl)
  n_bool := He.free_ok X G (c.fact 2 (f := .free "bool") rfl)
  n_enumerate := He.free_ok X G (c.fact 3 (f := .free "enumerate") rfl)
  n_int := He.free_ok X G (c.fact 4 (f := .free "int") rfl)
  n_isinstance := He.free_ok X G (c.fact 5 (f := .free "isinstance") rfl)
  n_len := He.free_ok X G (c.fact 6 (f := .free "len") rfl)
  n_list := He.free_ok X G (c.fact 7 (f := .free "list") rfl)
  n_min := He.free_ok X G (c.fact 8 (f := .free "min") rfl)
  n_range := He.free_ok X G (c.fact 9 (f := .free "range") rfl)
  n_set := He.free_ok X G (c.fact 10 (f := .free "set") rfl)
  n_sorted := He.free_ok X G (c.fact 11 (f := .free "sorted") rfl)
  n_sum := He.free_ok X G (c.fact 12 (f := .free "sum") rfl)
  n_tuple := He.free_ok X G (c.fact 13 (f := .free "tuple") rfl)
  i_MOST_MANY := He.int_ok X G (c.fact 14 (f := .int "MOST_MANY" 3000) rfl)
  i_MOST_PLACE := He.int_ok X G (c.fact 15 (f := .int "MOST_PLACE" 1000) rfl)
  i_MOST_POWER := He.int_ok X G (c.fact 16 (f := .int "MOST_POWER" 1000) rfl)
  g__law_pen := He.glo_ok X G (c.fact 17 (f := .glo "_law_pen") rfl)
  g__law_draw := He.glo_ok X G (c.fact 18 (f := .glo "_law_draw") rfl)
  g__law_pick := He.glo_ok X G (c.fact 19 (f := .glo "_law_pick") rfl)
  g_is_row := He.glo_ok X G (c.fact 20 (f := .glo "is_row") rfl)
  g_is_integer := He.glo_ok X G (c.fact 21 (f := .glo "is_integer") rfl)
  g_are_integers := He.glo_ok X G (c.fact 22 (f := .glo "are_integers") rfl)
  g_is_item := He.glo_ok X G (c.fact 23 (f := .glo "is_item") rfl)
  g_need_powers := He.glo_ok X G (c.fact 24 (f := .glo "need_powers") rfl)
  g_is_count := He.glo_ok X G (c.fact 25 (f := .glo "is_count") rfl)
  g_need_many := He.glo_ok X G (c.fact 26 (f := .glo "need_many") rfl)
  g_sums_for := He.glo_ok X G (c.fact 27 (f := .glo "sums_for") rfl)
  g_by_sums := He.glo_ok X G (c.fact 28 (f := .glo "by_sums") rfl)
  g_product_row := He.glo_ok X G (c.fact 29 (f := .glo "product_row") rfl)
  g_euler_signs := He.glo_ok X G (c.fact 30 (f := .glo "euler_signs") rfl)
  g_times_signs := He.glo_ok X G (c.fact 31 (f := .glo "times_signs") rfl)
  g_over_signs := He.glo_ok X G (c.fact 32 (f := .glo "over_signs") rfl)
  g_by_factors := He.glo_ok X G (c.fact 33 (f := .glo "by_factors") rfl)
  g_row_by_factors := He.glo_ok X G (c.fact 34 (f := .glo "row_by_factors") rfl)
  g_euler_row := He.glo_ok X G (c.fact 35 (f := .glo "euler_row") rfl)
  g_cube_row := He.glo_ok X G (c.fact 36 (f := .glo "cube_row") rfl)
  g__law_pentagons := He.glo_ok X G (c.fact 37 (f := .glo "_law_pentagons") rfl)
  g__law_triangles := He.glo_ok X G (c.fact 38 (f := .glo "_law_triangles") rfl)
  g__law_isqrt := He.glo_ok X G (c.fact 39 (f := .glo "_law_isqrt") rfl)
  g__law_root := He.glo_ok X G (c.fact 40 (f := .glo "_law_root") rfl)
  g__law_squares := He.glo_ok X G (c.fact 41 (f := .glo "_law_squares") rfl)
  g__law_signed := He.glo_ok X G (c.fact 42 (f := .glo "_law_signed") rfl)
  g__law_parts := He.glo_ok X G (c.fact 43 (f := .glo "_law_parts") rfl)
  g__law_two_squares := He.glo_ok X G (c.fact 44 (f := .glo "_law_two_squares") rfl)
  g__law_listed := He.glo_ok X G (c.fact 45 (f := .glo "_law_listed") rfl)
  g__law_shuffled := He.glo_ok X G (c.fact 46 (f := .glo "_law_shuffled") rfl)
  g__law_p_given := He.glo_ok X G (c.fact 47 (f := .glo "_law_p_given") rfl)
  g__law_spread := He.glo_ok X G (c.fact 48 (f := .glo "_law_spread") rfl)
  g_law := He.glo_ok X G (c.fact 49 (f := .glo "law") rfl)
  d__law_pen := c.def_ 0 (d := h__law_pen) rfl
  d__law_draw := c.def_ 1 (d := h__law_draw) rfl
  d__law_pick := c.def_ 2 (d := h__law_pick) rfl
  d_is_row := c.def_ 3 (d := h_is_row) rfl
  d_is_integer := c.def_ 4 (d := h_is_integer) rfl
  d_are_integers := c.def_ 5 (d := h_are_integers) rfl
  d_is_item := c.def_ 6 (d := h_is_item) rfl
  d_need_powers := c.def_ 7 (d := h_need_powers) rfl
  d_is_count := c.def_ 8 (d := h_is_count) rfl
  d_need_many := c.def_ 9 (d := h_need_many) rfl
  d_sums_for := c.def_ 10 (d := h_sums_for) rfl
  d_by_sums := c.def_ 11 (d := h_by_sums) rfl
  d_product_row := c.def_ 12 (d := h_product_row) rfl
  d_euler_signs := c.def_ 13 (d := h_euler_signs) rfl
  d_times_signs := c.def_ 14 (d := h_times_signs) rfl
  d_over_signs := c.def_ 15 (d := h_over_signs) rfl
  d_by_factors := c.def_ 16 (d := h_by_factors) rfl
  d_row_by_factors := c.def_ 17 (d := h_row_by_factors) rfl
  d_euler_row := c.def_ 18 (d := h_euler_row) rfl
  d_cube_row := c.def_ 19 (d := h_cube_row) rfl
  d__law_pentagons := c.def_ 20 (d := h__law_pentagons) rfl
  d__law_triangles := c.def_ 21 (d := h__law_triangles) rfl
  d__law_isqrt := c.def_ 22 (d := h__law_isqrt) rfl
  d__law_root := c.def_ 23 (d := h__law_root) rfl
  d__law_squares := c.def_ 24 (d := h__law_squares) rfl
  d__law_signed := c.def_ 25 (d := h__law_signed) rfl
  d__law_parts := c.def_ 26 (d := h__law_parts) rfl
  d__law_two_squares := c.def_ 27 (d := h__law_two_squares) rfl
  d__law_listed := c.def_ 28 (d := h__law_listed) rfl
  d__law_shuffled := c.def_ 29 (d := h__law_shuffled) rfl
  d__law_p_given := c.def_ 30 (d := h__law_p_given) rfl
  d__law_spread := c.def_ 31 (d := h__law_spread) rfl
  d_law := c.def_ 32 (d := h_law) rfl
end L2.MX.Lw
end
section
set_option Elab.async false
set_option linter.all false
set_option maxRecDepth 100000
namespace L2.MX.Lw
open PySem PySem.Spec PyProof.Rows
/-! ### times_signs -/
def stepT (f F : Nat → Int) (q : Nat × Int) : Nat → Int := fun m => F m + if q.1 ≤ m then q.2 * f (m - q.1) else 0
def tmF (f : Nat → Int) (sg : List (Nat × Int)) : Nat → Int := sg.foldl (stepT f) f
theorem times_in {N p j : Nat} {s : Int} {f G : Nat → Int} {signs : D} {c : Cell} (hs : smallI s = true) (hj : p + j < N) (hc : pc c) :
    Turn (gNm 5) (sSeq (sAugIx 2 (mVar 5) dIAdd (mOp dMul (oVar 4) (oVal (mOp dIx (oVar 0) (oVal (mOp dSub (oVar 5) (oVar 3))))))) sNil) (.int ((p : Int) + (j : Nat) * 1))
      [.pl (.lst (sqD N f)), .pl signs, .ow (.lst (sqD N G)), .pl (.int p), .pl (.int s), c]
      [.pl (.lst (sqD N f)), .pl signs, .ow (.lst (sqD N (updF G (p + j) (G (p + j) + s * f j)))), .pl (.int p), .pl (.int s), .pl (.int ((p : Int) + (j : Nat) * 1))] := by
  have e1 : (p : Int) + (j : Nat) * 1 = ((p + j : Nat) : Int) := by omega
  have e2 : ((p + j : Nat) : Int) - (p : Int) = ((j : Nat) : Int) := by omega
  rw [e1]
  refine ⟨[.pl (.lst (sqD N f)), .pl signs, .ow (.lst (sqD N G)), .pl (.int p), .pl (.int s), .pl (.int ((p + j : Nat) : Int))], ?_, .inl ?_⟩
  · simp only [sSeq, sNil, sSet, sAsg, sPar, sRet, sRetN, sExpr, sIf, sApp, sSetIx, sAug, sAugIx, sBrk, sCont, putAll, ofR, mVar, mOp, mUn, mIf, mAnd, mOr, mNot, mtB, mtAnd, mtOr, mtNot, mtYes, mCall, mTup, mLst, mAc, mA0, mRc, mR0, mK, oVar, oVal, bindM, ofE, ofT, ofI, ap1, ap2, apL, getAll, vals, Opd.get, Cell.get, ownedAt, isLst, putIx, appTo, setOwn, Cell.setD, RV.d, cellOf, putC, io_un, io_pl, io_ow, gNm, gTp, gAll, pI, pB, List.getElem?_cons_zero, List.getElem?_cons_succ, List.set_cons_succ, List.set_cons_zero, Option.bind_some, Option.map_some, Bool.true_or, Bool.or_true, if_true, reduceIte, Bool.false_eq_true, if_false, List.length_cons, List.length_nil, decide_true, decide_false, decide_eq_true_eq, Nat.reduceAdd, Nat.reduceLeDiff, Nat.zero_add, pc_io hc]
  · simp only [sSeq, sNil, sSet, sAsg, sPar, sRet, sRetN, sExpr, sIf, sApp, sSetIx, sAug, sAugIx, sBrk, sCont, putAll, ofR, mVar, mOp, mUn, mIf, mAnd, mOr, mNot, mtB, mtAnd, mtOr, mtNot, mtYes, mCall, mTup, mLst, mAc, mA0, mRc, mR0, mK, oVar, oVal, bindM, ofE, ofT, ofI, ap1, ap2, apL, getAll, vals, Opd.get, Cell.get, ownedAt, isLst, putIx, appTo, setOwn, Cell.setD, RV.d, cellOf, putC, io_un, io_pl, io_ow, gNm, gTp, gAll, pI, pB, List.getElem?_cons_zero, List.getElem?_cons_succ, List.set_cons_succ, List.set_cons_zero, Option.bind_some, Option.map_some, Bool.true_or, Bool.or_true, if_true, reduceIte, Bool.false_eq_true, if_false, List.length_cons, List.length_nil, decide_true, decide_false, decide_eq_true_eq, Nat.reduceAdd, Nat.reduceLeDiff, Nat.zero_add, dIAdd, dAdd, dSub, dMul, dFdiv, dMod, dIx, dLt, dLe, dGt, dGe, dNeg, dAnd, e2, sq_atI f (show j < N by omega), sq_atI G hj, hs, sq_len, ixN_nat hj, sq_set]
theorem times_one {N p : Nat} {s : Int} {f F : Nat → Int} {signs : D} {c : Cell} (hN : smallN N) (hs : smallI s = true) (hp : smallN p) (hc : pc c) :
    ∃ c', pc c' ∧ (sFor (iRangeN 2 (mAc (oVar 3) (mAc (oVal (mCall dLen (mAc (oVar 0) mA0))) mA0))) (gNm 5) (sSeq (sAugIx 2 (mVar 5) dIAdd (mOp dMul (oVar 4) (oVal (mOp dIx (oVar 0) (oVal (mOp dSub (oVar 5) (oVar 3))))))) sNil))
      [.pl (.lst (sqD N f)), .pl signs, .ow (.lst (sqD N F)), .pl (.int p), .pl (.int s), c]
      = .nx [.pl (.lst (sqD N f)), .pl signs, .ow (.lst (sqD N (stepT f F (p, s)))), .pl (.int p), .pl (.int s), c'] := by
  let cl : Nat → Cell := fun j => match j with
    | 0 => c
    | j + 1 => .pl (.int ((p : Int) + (j : Nat) * 1))
  let G : Nat → Nat → Int := fun j m => F m + if p ≤ m ∧ m < p + j then s * f (m - p) else 0
  let En : Nat → Env := fun j => [.pl (.lst (sqD N f)), .pl signs, .ow (.lst (sqD N (G j))), .pl (.int p), .pl (.int s), cl j]
  have hcl : ∀ j, pc (cl j) := fun j => by
    cases j with
    | zero => exact hc
    | succ j => exact pc_pl _
  have e0 : sqD N F = sqD N (G 0) := sq_congr fun i _ => by
    show F i = F i + if p ≤ i ∧ i < p + 0 then s * f (i - p) else 0
    rw [if_neg (by omega), Int.add_zero]
  have e1 : sqD N (G (N - p)) = sqD N (stepT f F (p, s)) := sq_congr fun i hi => by
    show (F i + if p ≤ i ∧ i < p + (N - p) then s * f (i - p) else 0) = F i + if p ≤ i then s * f (i - p) else 0
    by_cases h : p ≤ i
    · rw [if_pos ⟨h, by omega⟩, if_pos h]
    · rw [if_neg (by omega), if_neg h]
  have e : ((N : Int) - (p : Int)).toNat = N - p := by omega
  refine ⟨cl (N - p), hcl _, ?_⟩
  refine sFor_of (ρ1 := [.pl (.lst (sqD N f)), .pl signs, .ow (.lst (sqD N F)), .pl (.int p), .pl (.int s), c]) (iR2_of (i := p) (j := N) (os := [.slot 3, .val (.int N)]) (by simp only [sSeq, sNil, sSet, sAsg, sPar, sRet, sRetN, sExpr, sIf, sApp, sSetIx, sAug, sAugIx, sBrk, sCont, putAll, ofR, mVar, mOp, mUn, mIf, mAnd, mOr, mNot, mtB, mtAnd, mtOr, mtNot, mtYes, mCall, mTup, mLst, mAc, mA0, mRc, mR0, mK, oVar, oVal, bindM, ofE, ofT, ofI, ap1, ap2, apL, getAll, vals, Opd.get, Cell.get, ownedAt, isLst, putIx, appTo, setOwn, Cell.setD, RV.d, cellOf, putC, io_un, io_pl, io_ow, gNm, gTp, gAll, pI, pB, List.getElem?_cons_zero, List.getElem?_cons_succ, List.set_cons_succ, List.set_cons_zero, Option.bind_some, Option.map_some, Bool.true_or, Bool.or_true, if_true, reduceIte, Bool.false_eq_true, if_false, List.length_cons, List.length_nil, decide_true, decide_false, decide_eq_true_eq, Nat.reduceAdd, Nat.reduceLeDiff, Nat.zero_add, dLen, sq_len]) (by simp only [sSeq, sNil, sSet, sAsg, sPar, sRet, sRetN, sExpr, sIf, sApp, sSetIx, sAug, sAugIx, sBrk, sCont, putAll, ofR, mVar, mOp, mUn, mIf, mAnd, mOr, mNot, mtB, mtAnd, mtOr, mtNot, mtYes, mCall, mTup, mLst, mAc, mA0, mRc, mR0, mK, oVar, oVal, bindM, ofE, ofT, ofI, ap1, ap2, apL, getAll, vals, Opd.get, Cell.get, ownedAt, isLst, putIx, appTo, setOwn, Cell.setD, RV.d, cellOf, putC, io_un, io_pl, io_ow, gNm, gTp, gAll, pI, pB, List.getElem?_cons_zero, List.getElem?_cons_succ, List.set_cons_succ, List.set_cons_zero, Option.bind_some, Option.map_some, Bool.true_or, Bool.or_true, if_true, reduceIte, Bool.false_eq_true, if_false, List.length_cons, List.length_nil, decide_true, decide_false, decide_eq_true_eq, Nat.reduceAdd, Nat.reduceLeDiff, Nat.zero_add]) (smallR_nat hp) (smallR_nat hN)) ?_
  rw [e0, ← e1, e]
  have key := loopF_eq (g := gNm 5) (b := sSeq (sAugIx 2 (mVar 5) dIAdd (mOp dMul (oVar 4) (oVal (mOp dIx (oVar 0) (oVal (mOp dSub (oVar 5) (oVar 3))))))) sNil) En (rangeD p 1 (N - p)) 0 fun j d hd => by
    obtain ⟨hj, rfl⟩ := rangeD_get hd
    rw [Nat.zero_add]
    have t := times_in (N := N) (p := p) (j := j) (s := s) (f := f) (G := G j) (signs := signs) (c := cl j) hs (by omega) (hcl j)
    have e3 : sqD N (updF (G j) (p + j) (G j (p + j) + s * f j)) = sqD N (G (j + 1)) := by
      refine sq_congr fun i _ => ?_
      show (if i = p + j then (F (p + j) + if p ≤ p + j ∧ p + j < p + j then s * f (p + j - p) else 0) + s * f j else F i + if p ≤ i ∧ i < p + j then s * f (i - p) else 0) = F i + if p ≤ i ∧ i < p + (j + 1) then s * f (i - p) else 0
      by_cases h : i = p + j
      · subst h
        rw [if_pos rfl, if_neg (by omega), if_pos (by omega), show p + j - p = j by omega, Int.add_zero]
      · rw [if_neg h]
        by_cases h2 : p ≤ i ∧ i < p + j
        · rw [if_pos h2, if_pos (by omega)]
        · rw [if_neg h2, if_neg (by omega)]
    rw [e3] at t
    exact t
  rw [rangeD_len, Nat.zero_add] at key
  exact key

abbrev tIn : MS := sSeq (sFor (iRangeN 2 (mAc (oVar 3) (mAc (oVal (mCall dLen (mAc (oVar 0) mA0))) mA0))) (gNm 5) (sSeq (sAugIx 2 (mVar 5) dIAdd (mOp dMul (oVar 4) (oVal (mOp dIx (oVar 0) (oVal (mOp dSub (oVar 5) (oVar 3))))))) sNil)) sNil
theorem times_out {N : Nat} {f : Nat → Int} {S : D} (hN : smallN N) : ∀ (sg : List (Nat × Int)) (F : Nat → Int) (c3 c4 c5 : Cell), pc c3 → pc c4 → pc c5 → (∀ q ∈ sg, smallI q.2 = true ∧ smallN q.1) →
    ∃ ρ', loopF (gTp [gNm 3, gNm 4]) tIn (sg.map prD) [.pl (.lst (sqD N f)), .pl S, .ow (.lst (sqD N F)), c3, c4, c5] = .nx ρ' ∧ ρ'[2]? = some (.ow (.lst (sqD N (sg.foldl (stepT f) F)))) ∧ outsOf 2 ρ' = [.un, .un]
  | [], F, c3, c4, c5, _, _, _, _ => ⟨_, rfl, rfl, rfl⟩
  | q :: sg, F, c3, c4, c5, h3, h4, h5, hq => by
    obtain ⟨hs, hp⟩ := hq q List.mem_cons_self
    obtain ⟨c', hc', e⟩ := times_one (N := N) (p := q.1) (s := q.2) (f := f) (F := F) (signs := S) hN hs hp h5
    obtain ⟨ρ', e1, e2, e3⟩ := times_out hN sg (stepT f F q) (.pl (.int q.1)) (.pl (.int q.2)) c' (pc_pl _) (pc_pl _) hc' fun x hx => hq x (List.mem_cons_of_mem _ hx)
    refine ⟨ρ', ?_, e2, e3⟩
    rw [List.map_cons, loopF_cons (ρ' := [.pl (.lst (sqD N f)), .pl S, .ow (.lst (sqD N (stepT f F q))), .pl (.int q.1), .pl (.int q.2), c'])]
    · exact e1
    · refine ⟨[.pl (.lst (sqD N f)), .pl S, .ow (.lst (sqD N F)), .pl (.int q.1), .pl (.int q.2), c5], ?_, .inl (sSeq_nx e rfl)⟩
      simp only [prD, sSeq, sNil, sSet, sAsg, sPar, sRet, sRetN, sExpr, sIf, sApp, sSetIx, sAug, sAugIx, sBrk, sCont, putAll, ofR, mVar, mOp, mUn, mIf, mAnd, mOr, mNot, mtB, mtAnd, mtOr, mtNot, mtYes, mCall, mTup, mLst, mAc, mA0, mRc, mR0, mK, oVar, oVal, bindM, ofE, ofT, ofI, ap1, ap2, apL, getAll, vals, Opd.get, Cell.get, ownedAt, isLst, putIx, appTo, setOwn, Cell.setD, RV.d, cellOf, putC, io_un, io_pl, io_ow, gNm, gTp, gAll, pI, pB, List.getElem?_cons_zero, List.getElem?_cons_succ, List.set_cons_succ, List.set_cons_zero, Option.bind_some, Option.map_some, Bool.true_or, Bool.or_true, if_true, reduceIte, Bool.false_eq_true, if_false, List.length_cons, List.length_nil, decide_true, decide_false, decide_eq_true_eq, Nat.reduceAdd, Nat.reduceLeDiff, Nat.zero_add, pc_io h3, pc_io h4]
theorem f_times {N : Nat} {f : Nat → Int} {sg : List (Nat × Int)} (hN : smallN N) (hq : ∀ q ∈ sg, smallI q.2 = true ∧ smallN q.1) :
    m_times_signs [.pl (.lst (sqD N f)), .pl (.lst (sg.map prD))] = .rt (.pl (.lst (sqD N (tmF f sg)))) [.un, .un] := by
  obtain ⟨ρ', e1, e2, e3⟩ := times_out (f := f) (S := .lst (sg.map prD)) hN sg f .un .un .un pc_un pc_un pc_un hq
  have : b_times_signs [.pl (.lst (sqD N f)), .pl (.lst (sg.map prD)), .un, .un, .un, .un] = .rt (.pl (.lst (sqD N (tmF f sg)))) (ρ'.set 2 (.pl (.lst (sqD N (tmF f sg))))) := by
    refine sSeq_nx (ρ1 := [.pl (.lst (sqD N f)), .pl (.lst (sg.map prD)), .ow (.lst (sqD N f)), .un, .un, .un]) (by simp only [sSeq, sNil, sSet, sAsg, sPar, sRet, sRetN, sExpr, sIf, sApp, sSetIx, sAug, sAugIx, sBrk, sCont, putAll, ofR, mVar, mOp, mUn, mIf, mAnd, mOr, mNot, mtB, mtAnd, mtOr, mtNot, mtYes, mCall, mTup, mLst, mAc, mA0, mRc, mR0, mK, oVar, oVal, bindM, ofE, ofT, ofI, ap1, ap2, apL, getAll, vals, Opd.get, Cell.get, ownedAt, isLst, putIx, appTo, setOwn, Cell.setD, RV.d, cellOf, putC, io_un, io_pl, io_ow, gNm, gTp, gAll, pI, pB, List.getElem?_cons_zero, List.getElem?_cons_succ, List.set_cons_succ, List.set_cons_zero, Option.bind_some, Option.map_some, Bool.true_or, Bool.or_true, if_true, reduceIte, Bool.false_eq_true, if_false, List.length_cons, List.length_nil, decide_true, decide_false, decide_eq_true_eq, Nat.reduceAdd, Nat.reduceLeDiff, Nat.zero_add, dList]) ?_
    refine sSeq_nx (sFor_of (iSeq_of (r := .pl (.lst (sg.map prD))) (by simp only [sSeq, sNil, sSet, sAsg, sPar, sRet, sRetN, sExpr, sIf, sApp, sSetIx, sAug, sAugIx, sBrk, sCont, putAll, ofR, mVar, mOp, mUn, mIf, mAnd, mOr, mNot, mtB, mtAnd, mtOr, mtNot, mtYes, mCall, mTup, mLst, mAc, mA0, mRc, mR0, mK, oVar, oVal, bindM, ofE, ofT, ofI, ap1, ap2, apL, getAll, vals, Opd.get, Cell.get, ownedAt, isLst, putIx, appTo, setOwn, Cell.setD, RV.d, cellOf, putC, io_un, io_pl, io_ow, gNm, gTp, gAll, pI, pB, List.getElem?_cons_zero, List.getElem?_cons_succ, List.set_cons_succ, List.set_cons_zero, Option.bind_some, Option.map_some, Bool.true_or, Bool.or_true, if_true, reduceIte, Bool.false_eq_true, if_false, List.length_cons, List.length_nil, decide_true, decide_false, decide_eq_true_eq, Nat.reduceAdd, Nat.reduceLeDiff, Nat.zero_add]) rfl) e1) ?_
    refine sSeq_rt (sRet_of ?_)
    unfold mVar
    rw [e2]
    rfl
  refine (mDef_rt (ρ := ρ'.set 2 (.pl (.lst (sqD N (tmF f sg))))) this).trans ?_
  congr 1
  rw [← e3]
  unfold outsOf
  refine List.map_congr_left fun i hi => ?_
  have hi : i < 2 := List.mem_range.mp hi
  rw [List.getElem?_set_ne (by omega)]

/-! ### over_signs -/
def ovS (F : Nat → Int) (n : Nat) (sg : List (Nat × Int)) (x : Int) : Int := (sg.takeWhile fun q => decide (q.1 ≤ n)).foldl (fun x q => x - q.2 * F (n - q.1)) x
def ovF (f : Nat → Int) (sg : List (Nat × Int)) : Nat → Nat → Int
  | 0 => f
  | n + 1 => updF (ovF f sg n) n (ovS (ovF f sg n) n sg (ovF f sg n n))
abbrev oIn : MS := sSeq (sIf (mtB (mOp dGt (oVar 4) (oVar 3))) (sSeq sBrk sNil) sNil) (sSeq (sAugIx 2 (mVar 3) dSub (mOp dMul (oVar 5) (oVal (mOp dIx (oVar 2) (oVal (mOp dSub (oVar 3) (oVar 4))))))) sNil)
theorem over_in {N n : Nat} {r S : D} {F : Nat → Int} (hn : n < N) : ∀ (sg : List (Nat × Int)) (x : Int) (c4 c5 : Cell), pc c4 → pc c5 → (∀ q ∈ sg, smallI q.2 = true ∧ 1 ≤ q.1) →
    ∃ c4' c5', pc c4' ∧ pc c5' ∧ loopF (gTp [gNm 4, gNm 5]) oIn (sg.map prD) [.pl r, .pl S, .ow (.lst (sqD N (updF F n x))), .pl (.int n), c4, c5] = .nx [.pl r, .pl S, .ow (.lst (sqD N (updF F n (ovS F n sg x)))), .pl (.int n), c4', c5']
  | [], x, c4, c5, h4, h5, _ => ⟨c4, c5, h4, h5, rfl⟩
  | q :: sg, x, c4, c5, h4, h5, hq => by
    obtain ⟨hs, hp⟩ := hq q List.mem_cons_self
    have hg : gTp [gNm 4, gNm 5] (prD q) [.pl r, .pl S, .ow (.lst (sqD N (updF F n x))), .pl (.int n), c4, c5] = some [.pl r, .pl S, .ow (.lst (sqD N (updF F n x))), .pl (.int n), .pl (.int q.1), .pl (.int q.2)] := by
      simp only [prD, sSeq, sNil, sSet, sAsg, sPar, sRet, sRetN, sExpr, sIf, sApp, sSetIx, sAug, sAugIx, sBrk, sCont, putAll, ofR, mVar, mOp, mUn, mIf, mAnd, mOr, mNot, mtB, mtAnd, mtOr, mtNot, mtYes, mCall, mTup, mLst, mAc, mA0, mRc, mR0, mK, oVar, oVal, bindM, ofE, ofT, ofI, ap1, ap2, apL, getAll, vals, Opd.get, Cell.get, ownedAt, isLst, putIx, appTo, setOwn, Cell.setD, RV.d, cellOf, putC, io_un, io_pl, io_ow, gNm, gTp, gAll, pI, pB, List.getElem?_cons_zero, List.getElem?_cons_succ, List.set_cons_succ, List.set_cons_zero, Option.bind_some, Option.map_some, Bool.true_or, Bool.or_true, if_true, reduceIte, Bool.false_eq_true, if_false, List.length_cons, List.length_nil, decide_true, decide_false, decide_eq_true_eq, Nat.reduceAdd, Nat.reduceLeDiff, Nat.zero_add, pc_io h4, pc_io h5]
    by_cases hle : q.1 ≤ n
    · obtain ⟨c4', c5', p4, p5, e⟩ := over_in (r := r) (S := S) (F := F) hn sg (x - q.2 * F (n - q.1)) (.pl (.int q.1)) (.pl (.int q.2)) (pc_pl _) (pc_pl _) fun z hz => hq z (List.mem_cons_of_mem _ hz)
      refine ⟨c4', c5', p4, p5, ?_⟩
      have e1 : ovS F n (q :: sg) x = ovS F n sg (x - q.2 * F (n - q.1)) := by
        unfold ovS
        rw [List.takeWhile_cons_of_pos (by simpa using hle), List.foldl_cons]
      rw [e1, ← e, List.map_cons]
      refine loopF_cons ⟨_, hg, .inl ?_⟩
      have hd : decide ((n : Int) < (q.1 : Int)) = false := by simp; omega
      have e2 : (n : Int) - (q.1 : Int) = ((n - q.1 : Nat) : Int) := by omega
      have e3 : updF F n x (n - q.1) = F (n - q.1) := by unfold updF; rw [if_neg (by omega)]
      have e4 : updF F n x n = x := by unfold updF; rw [if_pos rfl]
      have e5 : updF (updF F n x) n (x - q.2 * F (n - q.1)) = updF F n (x - q.2 * F (n - q.1)) := by
        funext i
        unfold updF
        by_cases h : i = n <;> simp [h]
      simp only [sIf, sSeq, sNil, sSet, sAsg, sPar, sRet, sRetN, sExpr, sIf, sApp, sSetIx, sAug, sAugIx, sBrk, sCont, putAll, ofR, mVar, mOp, mUn, mIf, mAnd, mOr, mNot, mtB, mtAnd, mtOr, mtNot, mtYes, mCall, mTup, mLst, mAc, mA0, mRc, mR0, mK, oVar, oVal, bindM, ofE, ofT, ofI, ap1, ap2, apL, getAll, vals, Opd.get, Cell.get, ownedAt, isLst, putIx, appTo, setOwn, Cell.setD, RV.d, cellOf, putC, io_un, io_pl, io_ow, gNm, gTp, gAll, pI, pB, List.getElem?_cons_zero, List.getElem?_cons_succ, List.set_cons_succ, List.set_cons_zero, Option.bind_some, Option.map_some, Bool.true_or, Bool.or_true, if_true, reduceIte, Bool.false_eq_true, if_false, List.length_cons, List.length_nil, decide_true, decide_false, decide_eq_true_eq, Nat.reduceAdd, Nat.reduceLeDiff, Nat.zero_add, dIAdd, dAdd, dSub, dMul, dFdiv, dMod, dIx, dLt, dLe, dGt, dGe, dNeg, dAnd, hd, e2, sq_atI _ (show n - q.1 < N by omega), sq_atI _ hn, hs, sq_len, ixN_nat hn, sq_set, e3, e4, e5]
    · refine ⟨.pl (.int q.1), .pl (.int q.2), pc_pl _, pc_pl _, ?_⟩
      have e1 : ovS F n (q :: sg) x = x := by
        unfold ovS
        rw [List.takeWhile_cons_of_neg (by simpa using hle)]
        rfl
      rw [e1, List.map_cons]
      refine loopF_brk hg ?_
      have hd : decide ((n : Int) < (q.1 : Int)) = true := by simp; omega
      simp only [sIf, sSeq, sNil, sSet, sAsg, sPar, sRet, sRetN, sExpr, sIf, sApp, sSetIx, sAug, sAugIx, sBrk, sCont, putAll, ofR, mVar, mOp, mUn, mIf, mAnd, mOr, mNot, mtB, mtAnd, mtOr, mtNot, mtYes, mCall, mTup, mLst, mAc, mA0, mRc, mR0, mK, oVar, oVal, bindM, ofE, ofT, ofI, ap1, ap2, apL, getAll, vals, Opd.get, Cell.get, ownedAt, isLst, putIx, appTo, setOwn, Cell.setD, RV.d, cellOf, putC, io_un, io_pl, io_ow, gNm, gTp, gAll, pI, pB, List.getElem?_cons_zero, List.getElem?_cons_succ, List.set_cons_succ, List.set_cons_zero, Option.bind_some, Option.map_some, Bool.true_or, Bool.or_true, if_true, reduceIte, Bool.false_eq_true, if_false, List.length_cons, List.length_nil, decide_true, decide_false, decide_eq_true_eq, Nat.reduceAdd, Nat.reduceLeDiff, Nat.zero_add, dIAdd, dAdd, dSub, dMul, dFdiv, dMod, dIx, dLt, dLe, dGt, dGe, dNeg, dAnd, hd]
theorem f_over {N : Nat} {f : Nat → Int} {sg : List (Nat × Int)} (hN : smallN N) (hq : ∀ q ∈ sg, smallI q.2 = true ∧ 1 ≤ q.1) :
    m_over_signs [.pl (.lst (sqD N f)), .pl (.lst (sg.map prD))] = .rt (.pl (.lst (sqD N (ovF f sg N)))) [.un, .un] := by
  obtain ⟨ρ', e1, c3, c4, c5, p3, p4, p5, rfl⟩ := loopF_inv (g := gNm 3) (b := sSeq (sFor (iSeq (mVar 1)) (gTp [gNm 4, gNm 5]) oIn) sNil)
    (fun n ρ => ∃ c3 c4 c5, pc c3 ∧ pc c4 ∧ pc c5 ∧ ρ = [.pl (.lst (sqD N f)), .pl (.lst (sg.map prD)), .ow (.lst (sqD N (ovF f sg n))), c3, c4, c5]) (rangeD 0 1 N) 0
    [.pl (.lst (sqD N f)), .pl (.lst (sg.map prD)), .ow (.lst (sqD N f)), .un, .un, .un] ⟨.un, .un, .un, pc_un, pc_un, pc_un, rfl⟩ (by
      rintro j d ρ hd ⟨c3, c4, c5, p3, p4, p5, rfl⟩
      obtain ⟨hj, rfl⟩ := rangeD_get hd
      rw [Nat.zero_add]
      have e0 : (0 : Int) + (j : Nat) * 1 = ((j : Nat) : Int) := by omega
      rw [e0]
      obtain ⟨c4', c5', q4, q5, e⟩ := over_in (N := N) (n := j) (r := .lst (sqD N f)) (S := .lst (sg.map prD)) (F := ovF f sg j) hj sg (ovF f sg j j) c4 c5 p4 p5 hq
      have e6 : updF (ovF f sg j) j (ovF f sg j j) = ovF f sg j := by
        funext i
        unfold updF
        by_cases h : i = j <;> simp [h]
      rw [e6] at e
      refine ⟨_, ⟨[.pl (.lst (sqD N f)), .pl (.lst (sg.map prD)), .ow (.lst (sqD N (ovF f sg j))), .pl (.int j), c4, c5], ?_, .inl (sSeq_nx (sFor_of (iSeq_of (r := .pl (.lst (sg.map prD))) (by simp only [sSeq, sNil, sSet, sAsg, sPar, sRet, sRetN, sExpr, sIf, sApp, sSetIx, sAug, sAugIx, sBrk, sCont, putAll, ofR, mVar, mOp, mUn, mIf, mAnd, mOr, mNot, mtB, mtAnd, mtOr, mtNot, mtYes, mCall, mTup, mLst, mAc, mA0, mRc, mR0, mK, oVar, oVal, bindM, ofE, ofT, ofI, ap1, ap2, apL, getAll, vals, Opd.get, Cell.get, ownedAt, isLst, putIx, appTo, setOwn, Cell.setD, RV.d, cellOf, putC, io_un, io_pl, io_ow, gNm, gTp, gAll, pI, pB, List.getElem?_cons_zero, List.getElem?_cons_succ, List.set_cons_succ, List.set_cons_zero, Option.bind_some, Option.map_some, Bool.true_or, Bool.or_true, if_true, reduceIte, Bool.false_eq_true, if_false, List.length_cons, List.length_nil, decide_true, decide_false, decide_eq_true_eq, Nat.reduceAdd, Nat.reduceLeDiff, Nat.zero_add]) rfl) e) rfl)⟩, .pl (.int j), c4', c5', pc_pl _, q4, q5, rfl⟩
      simp only [sSeq, sNil, sSet, sAsg, sPar, sRet, sRetN, sExpr, sIf, sApp, sSetIx, sAug, sAugIx, sBrk, sCont, putAll, ofR, mVar, mOp, mUn, mIf, mAnd, mOr, mNot, mtB, mtAnd, mtOr, mtNot, mtYes, mCall, mTup, mLst, mAc, mA0, mRc, mR0, mK, oVar, oVal, bindM, ofE, ofT, ofI, ap1, ap2, apL, getAll, vals, Opd.get, Cell.get, ownedAt, isLst, putIx, appTo, setOwn, Cell.setD, RV.d, cellOf, putC, io_un, io_pl, io_ow, gNm, gTp, gAll, pI, pB, List.getElem?_cons_zero, List.getElem?_cons_succ, List.set_cons_succ, List.set_cons_zero, Option.bind_some, Option.map_some, Bool.true_or, Bool.or_true, if_true, reduceIte, Bool.false_eq_true, if_false, List.length_cons, List.length_nil, decide_true, decide_false, decide_eq_true_eq, Nat.reduceAdd, Nat.reduceLeDiff, Nat.zero_add, pc_io p3])
  rw [rangeD_len, Nat.zero_add] at *
  refine (mDef_rt (ρ := [.pl (.lst (sqD N f)), .pl (.lst (sg.map prD)), .pl (.lst (sqD N (ovF f sg N))), c3, c4, c5]) ?_).trans rfl
  refine sSeq_nx (ρ1 := [.pl (.lst (sqD N f)), .pl (.lst (sg.map prD)), .ow (.lst (sqD N f)), .un, .un, .un]) (by simp only [sSeq, sNil, sSet, sAsg, sPar, sRet, sRetN, sExpr, sIf, sApp, sSetIx, sAug, sAugIx, sBrk, sCont, putAll, ofR, mVar, mOp, mUn, mIf, mAnd, mOr, mNot, mtB, mtAnd, mtOr, mtNot, mtYes, mCall, mTup, mLst, mAc, mA0, mRc, mR0, mK, oVar, oVal, bindM, ofE, ofT, ofI, ap1, ap2, apL, getAll, vals, Opd.get, Cell.get, ownedAt, isLst, putIx, appTo, setOwn, Cell.setD, RV.d, cellOf, putC, io_un, io_pl, io_ow, gNm, gTp, gAll, pI, pB, List.getElem?_cons_zero, List.getElem?_cons_succ, List.set_cons_succ, List.set_cons_zero, Option.bind_some, Option.map_some, Bool.true_or, Bool.or_true, if_true, reduceIte, Bool.false_eq_true, if_false, List.length_cons, List.length_nil, decide_true, decide_false, decide_eq_true_eq, Nat.reduceAdd, Nat.reduceLeDiff, Nat.zero_add, dList, List.cons_append, List.nil_append]; rfl) ?_
  refine sSeq_nx (sFor_of (iR1_of (j := N) (os := [.val (.int N)]) (by simp only [sSeq, sNil, sSet, sAsg, sPar, sRet, sRetN, sExpr, sIf, sApp, sSetIx, sAug, sAugIx, sBrk, sCont, putAll, ofR, mVar, mOp, mUn, mIf, mAnd, mOr, mNot, mtB, mtAnd, mtOr, mtNot, mtYes, mCall, mTup, mLst, mAc, mA0, mRc, mR0, mK, oVar, oVal, bindM, ofE, ofT, ofI, ap1, ap2, apL, getAll, vals, Opd.get, Cell.get, ownedAt, isLst, putIx, appTo, setOwn, Cell.setD, RV.d, cellOf, putC, io_un, io_pl, io_ow, gNm, gTp, gAll, pI, pB, List.getElem?_cons_zero, List.getElem?_cons_succ, List.set_cons_succ, List.set_cons_zero, Option.bind_some, Option.map_some, Bool.true_or, Bool.or_true, if_true, reduceIte, Bool.false_eq_true, if_false, List.length_cons, List.length_nil, decide_true, decide_false, decide_eq_true_eq, Nat.reduceAdd, Nat.reduceLeDiff, Nat.zero_add, dLen, sq_len]) (by simp only [sSeq, sNil, sSet, sAsg, sPar, sRet, sRetN, sExpr, sIf, sApp, sSetIx, sAug, sAugIx, sBrk, sCont, putAll, ofR, mVar, mOp, mUn, mIf, mAnd, mOr, mNot, mtB, mtAnd, mtOr, mtNot, mtYes, mCall, mTup, mLst, mAc, mA0, mRc, mR0, mK, oVar, oVal, bindM, ofE, ofT, ofI, ap1, ap2, apL, getAll, vals, Opd.get, Cell.get, ownedAt, isLst, putIx, appTo, setOwn, Cell.setD, RV.d, cellOf, putC, io_un, io_pl, io_ow, gNm, gTp, gAll, pI, pB, List.getElem?_cons_zero, List.getElem?_cons_succ, List.set_cons_succ, List.set_cons_zero, Option.bind_some, Option.map_some, Bool.true_or, Bool.or_true, if_true, reduceIte, Bool.false_eq_true, if_false, List.length_cons, List.length_nil, decide_true, decide_false, decide_eq_true_eq, Nat.reduceAdd, Nat.reduceLeDiff, Nat.zero_add]) (smallR_nat hN)) e1) ?_
  exact sSeq_rt (sRet_of (by simp only [sSeq, sNil, sSet, sAsg, sPar, sRet, sRetN, sExpr, sIf, sApp, sSetIx, sAug, sAugIx, sBrk, sCont, putAll, ofR, mVar, mOp, mUn, mIf, mAnd, mOr, mNot, mtB, mtAnd, mtOr, mtNot, mtYes, mCall, mTup, mLst, mAc, mA0, mRc, mR0, mK, oVar, oVal, bindM, ofE, ofT, ofI, ap1, ap2, apL, getAll, vals, Opd.get, Cell.get, ownedAt, isLst, putIx, appTo, setOwn, Cell.setD, RV.d, cellOf, putC, io_un, io_pl, io_ow, gNm, gTp, gAll, pI, pB, List.getElem?_cons_zero, List.getElem?_cons_succ, List.set_cons_succ, List.set_cons_zero, Option.bind_some, Option.map_some, Bool.true_or, Bool.or_true, if_true, reduceIte, Bool.false_eq_true, if_false, List.length_cons, List.length_nil, decide_true, decide_false, decide_eq_true_eq, Nat.reduceAdd, Nat.reduceLeDiff, Nat.zero_add]))

/-! ### sums_for -/
theorem mul_zero {N : Nat} {x : Int} (hN : smallN N) : dMul (.lst [.int x]) (.int N) = some (.fr (.lst (sqD N fun _ => x))) := by
  unfold smallN at hN
  show (if 0 ≤ (N : Int) ∧ (N : Int) < 16777216 ∧ [D.int x].length * (N : Int).toNat ≤ lineN then some (RV.fr (.lst (List.replicate (N : Int).toNat [D.int x]).flatten)) else none) = _
  have e : ((N : Nat) : Int).toNat = N := by omega
  have hl : lineN = 16777216 := rfl
  rw [if_pos ⟨by omega, by omega, by rw [e, hl]; show 1 * N ≤ _; omega⟩, e, sq_rep]
theorem zeros {N i : Nat} {x : Int} {ρ : Env} (hN : smallN N) (h : ρ[i]? = some (.pl (.int N))) : (mOp dMul (oVal (mLst (mAc (oVal (mK (.int x))) mA0))) (oVar i)) ρ = .ok (.fr (.lst (sqD N fun _ => x))) ρ :=
  mOp_of (oVal_of (r := .fr (.lst [.int x])) rfl) (oVar_pl h) rfl (get_slot h) (mul_zero hN)
theorem fdiv_nat {k d : Nat} (h : 0 < d) (h2 : d ≤ 1000000) : dFdiv (.int k) (.int d) = some (.pl (.int ((k / d : Nat) : Int))) := by
  show (if 0 < (d : Int) ∧ (d : Int) < 1073741824 then pI ((k : Int) / (d : Int)) else none) = _
  rw [if_pos ⟨by omega, by omega⟩]
  rfl
theorem fdiv_int {z : Int} {d : Nat} (h : 0 < d) (h2 : d ≤ 1000000) : dFdiv (.int z) (.int d) = some (.pl (.int (z / (d : Int)))) := by
  show (if 0 < (d : Int) ∧ (d : Int) < 1073741824 then pI (z / (d : Int)) else none) = _
  rw [if_pos ⟨by omega, by omega⟩]
  rfl
theorem eqB_int {i j : Int} : dEqB (.int i) (.int j) = some (decide (i = j)) := by
  show (if (SeqAt.shaped (.int i) && SeqAt.shaped (.int j)) = true then some (PyData.eqv (.int i) (.int j)) else none) = _
  have e : PyData.eqv (.int i) (.int j) = decide (i = j) := by
    simp only [PyData.eqv]
    by_cases h : i = j <;> simp [h]
  rw [if_pos (by first | rfl | simp [SeqAt.shaped]), e]
theorem eq_int {i j : Int} : dEq (.int i) (.int j) = some (.pl (.bl (decide (i = j)))) := by
  unfold dEq
  rw [eqB_int]
  rfl
theorem ne_int {i j : Int} : dNe (.int i) (.int j) = some (.pl (.bl (!decide (i = j)))) := by
  unfold dNe
  rw [eqB_int]
  rfl
theorem mul_int {i j : Int} (h : smallI i = true) : dMul (.int i) (.int j) = some (.pl (.int (i * j))) := by
  show (if (smallI i || smallI j) = true then pI (i * j) else none) = _
  rw [h]
  rfl
def dvF : Nat → Nat → Int
  | 0 => fun _ => 0
  | t + 1 => fun m => dvF t m + if (t + 1) ∣ m ∧ (t + 1) ≤ m then ((t + 1 : Nat) : Int) else 0
theorem dvF_stop {m : Nat} : ∀ t, m ≤ t → dvF t m = dvF m m
  | 0, h => by rw [show m = 0 by omega]
  | t + 1, h => by
    by_cases e : m = t + 1
    · rw [e]
    · show dvF t m + (if (t + 1) ∣ m ∧ (t + 1) ≤ m then ((t + 1 : Nat) : Int) else 0) = _
      rw [if_neg (by omega), Int.add_zero, dvF_stop t (by omega)]
def sg1 (m : Nat) : Int := dvF m m
def stepS (F : Nat → Int) (q : Nat × Int) : Nat → Int := fun m => F m + if q.1 ∣ m ∧ q.1 ≤ m then q.1 * q.2 * sg1 (m / q.1) else 0
def Sf (ps : List (Nat × Int)) : Nat → Int := ps.foldl stepS fun _ => 0
theorem nat_div (a b : Nat) : (a : Int) / (b : Int) = ((a / b : Nat) : Int) := rfl
/-- a power row: places from 1 on, powers small -/
def okP (q : Nat × Int) : Prop := 1 ≤ q.1 ∧ q.1 ≤ 1000 ∧ -1000 ≤ q.2 ∧ q.2 ≤ 1000
theorem okP_small {q : Nat × Int} (h : okP q) : smallI q.1 = true ∧ smallI (q.1 * q.2) = true := by
  obtain ⟨h1, h2, h3, h4⟩ := h
  have h5 : ((q.1 : Nat) : Int) * q.2 ≤ 1000 * 1000 := by
    have a : ((q.1 : Nat) : Int) * q.2 ≤ (q.1 : Int) * 1000 := Int.mul_le_mul_of_nonneg_left h4 (by omega)
    omega
  have h6 : -(1000 * 1000) ≤ ((q.1 : Nat) : Int) * q.2 := by
    have a : (q.1 : Int) * (-1000) ≤ ((q.1 : Nat) : Int) * q.2 := Int.mul_le_mul_of_nonneg_left h3 (by omega)
    omega
  constructor
  · exact smallI_iff.mpr (by omega)
  · exact smallI_iff.mpr (by omega)
abbrev dIn : MS := sSeq (sFor (iRangeN 3 (mAc (oVar 3) (mAc (oVar 1) (mAc (oVar 3) mA0)))) (gNm 4) (sSeq (sAugIx 2 (mVar 4) dIAdd (mVar 3)) sNil)) sNil
abbrev sIn : MS := sSeq (sFor (iRangeN 3 (mAc (oVar 3) (mAc (oVar 1) (mAc (oVar 3) mA0)))) (gNm 7) (sSeq (sAugIx 5 (mVar 7) dIAdd (mOp dMul (oVal (mOp dMul (oVar 3) (oVar 6))) (oVal (mOp dIx (oVar 2) (oVal (mOp dFdiv (oVar 7) (oVar 3))))))) sNil)) sNil
theorem div_in {N d : Nat} {p : D} {F : Nat → Int} {c4 c5 c6 c7 : Cell} (hN : smallN N) (hd : 0 < d) (hd2 : d ≤ 100000) (h4 : pc c4) :
    ∃ c', pc c' ∧ dIn [.pl p, .pl (.int N), .ow (.lst (sqD N F)), .pl (.int d), c4, c5, c6, c7] = .nx [.pl p, .pl (.int N), .ow (.lst (sqD N fun m => F m + if d ∣ m ∧ d ≤ m then (d : Int) else 0)), .pl (.int d), c', c5, c6, c7] := by
  unfold smallN at hN
  obtain ⟨c', hc', e⟩ := mult_loop (g := gNm 4) (b := sSeq (sAugIx 2 (mVar 4) dIAdd (mVar 3)) sNil) (N := N) hd (fun l c => [.pl p, .pl (.int N), .ow (.lst l), .pl (.int d), c, c5, c6, c7]) (fun _ => (d : Int)) F (fun k G c hk _ _ hc => by
    refine ⟨[.pl p, .pl (.int N), .ow (.lst (sqD N G)), .pl (.int d), .pl (.int k), c5, c6, c7], ?_, .inl ?_⟩
    · simp only [sSeq, sNil, sSet, sAsg, sPar, sRet, sRetN, sExpr, sIf, sApp, sSetIx, sAug, sAugIx, sBrk, sCont, putAll, ofR, mVar, mOp, mUn, mIf, mAnd, mOr, mNot, mtB, mtAnd, mtOr, mtNot, mtYes, mCall, mTup, mLst, mAc, mA0, mRc, mR0, mK, oVar, oVal, bindM, ofE, ofT, ofI, ap1, ap2, apL, getAll, vals, Opd.get, Cell.get, ownedAt, isLst, putIx, appTo, setOwn, Cell.setD, RV.d, cellOf, putC, io_un, io_pl, io_ow, gNm, gTp, gAll, pI, pB, List.getElem?_cons_zero, List.getElem?_cons_succ, List.set_cons_succ, List.set_cons_zero, Option.bind_some, Option.map_some, Bool.true_or, Bool.or_true, if_true, reduceIte, Bool.false_eq_true, if_false, List.length_cons, List.length_nil, decide_true, decide_false, decide_eq_true_eq, Nat.reduceAdd, Nat.reduceLeDiff, Nat.zero_add, pc_io hc]
    · simp only [sSeq, sNil, sSet, sAsg, sPar, sRet, sRetN, sExpr, sIf, sApp, sSetIx, sAug, sAugIx, sBrk, sCont, putAll, ofR, mVar, mOp, mUn, mIf, mAnd, mOr, mNot, mtB, mtAnd, mtOr, mtNot, mtYes, mCall, mTup, mLst, mAc, mA0, mRc, mR0, mK, oVar, oVal, bindM, ofE, ofT, ofI, ap1, ap2, apL, getAll, vals, Opd.get, Cell.get, ownedAt, isLst, putIx, appTo, setOwn, Cell.setD, RV.d, cellOf, putC, io_un, io_pl, io_ow, gNm, gTp, gAll, pI, pB, List.getElem?_cons_zero, List.getElem?_cons_succ, List.set_cons_succ, List.set_cons_zero, Option.bind_some, Option.map_some, Bool.true_or, Bool.or_true, if_true, reduceIte, Bool.false_eq_true, if_false, List.length_cons, List.length_nil, decide_true, decide_false, decide_eq_true_eq, Nat.reduceAdd, Nat.reduceLeDiff, Nat.zero_add, dIAdd, dAdd, dSub, dMul, dFdiv, dMod, dIx, dLt, dLe, dGt, dGe, dNeg, dAnd, sq_atI G hk, sq_len, ixN_nat hk, sq_set]) h4
  exact ⟨c', hc', sSeq_nx (sFor_of (iR3_of (i := d) (j := N) (c := d) (os := [.slot 3, .slot 1, .slot 3]) (by simp only [sSeq, sNil, sSet, sAsg, sPar, sRet, sRetN, sExpr, sIf, sApp, sSetIx, sAug, sAugIx, sBrk, sCont, putAll, ofR, mVar, mOp, mUn, mIf, mAnd, mOr, mNot, mtB, mtAnd, mtOr, mtNot, mtYes, mCall, mTup, mLst, mAc, mA0, mRc, mR0, mK, oVar, oVal, bindM, ofE, ofT, ofI, ap1, ap2, apL, getAll, vals, Opd.get, Cell.get, ownedAt, isLst, putIx, appTo, setOwn, Cell.setD, RV.d, cellOf, putC, io_un, io_pl, io_ow, gNm, gTp, gAll, pI, pB, List.getElem?_cons_zero, List.getElem?_cons_succ, List.set_cons_succ, List.set_cons_zero, Option.bind_some, Option.map_some, Bool.true_or, Bool.or_true, if_true, reduceIte, Bool.false_eq_true, if_false, List.length_cons, List.length_nil, decide_true, decide_false, decide_eq_true_eq, Nat.reduceAdd, Nat.reduceLeDiff, Nat.zero_add]) (by simp only [sSeq, sNil, sSet, sAsg, sPar, sRet, sRetN, sExpr, sIf, sApp, sSetIx, sAug, sAugIx, sBrk, sCont, putAll, ofR, mVar, mOp, mUn, mIf, mAnd, mOr, mNot, mtB, mtAnd, mtOr, mtNot, mtYes, mCall, mTup, mLst, mAc, mA0, mRc, mR0, mK, oVar, oVal, bindM, ofE, ofT, ofI, ap1, ap2, apL, getAll, vals, Opd.get, Cell.get, ownedAt, isLst, putIx, appTo, setOwn, Cell.setD, RV.d, cellOf, putC, io_un, io_pl, io_ow, gNm, gTp, gAll, pI, pB, List.getElem?_cons_zero, List.getElem?_cons_succ, List.set_cons_succ, List.set_cons_zero, Option.bind_some, Option.map_some, Bool.true_or, Bool.or_true, if_true, reduceIte, Bool.false_eq_true, if_false, List.length_cons, List.length_nil, decide_true, decide_false, decide_eq_true_eq, Nat.reduceAdd, Nat.reduceLeDiff, Nat.zero_add]) (by omega) (by omega) hd (by omega)) e) rfl⟩
theorem sum_in {N : Nat} {q : Nat × Int} {p : D} {F V : Nat → Int} {c4 c7 : Cell} (hN : smallN N) (ho : okP q) (h7 : pc c7) :
    ∃ c', pc c' ∧ sIn [.pl p, .pl (.int N), .ow (.lst (sqD N V)), .pl (.int q.1), c4, .ow (.lst (sqD N F)), .pl (.int q.2), c7] = .nx [.pl p, .pl (.int N), .ow (.lst (sqD N V)), .pl (.int q.1), c4, .ow (.lst (sqD N fun m => F m + if q.1 ∣ m ∧ q.1 ≤ m then q.1 * q.2 * V (m / q.1) else 0)), .pl (.int q.2), c'] := by
  unfold smallN at hN
  obtain ⟨s1, s2⟩ := okP_small ho
  obtain ⟨o1, o2, o3, o4⟩ := ho
  obtain ⟨c', hc', e⟩ := mult_loop (g := gNm 7) (b := sSeq (sAugIx 5 (mVar 7) dIAdd (mOp dMul (oVal (mOp dMul (oVar 3) (oVar 6))) (oVal (mOp dIx (oVar 2) (oVal (mOp dFdiv (oVar 7) (oVar 3))))))) sNil) (N := N) (show 0 < q.1 from o1) (fun l c => [.pl p, .pl (.int N), .ow (.lst (sqD N V)), .pl (.int q.1), c4, .ow (.lst l), .pl (.int q.2), c]) (fun m => q.1 * q.2 * V (m / q.1)) F (fun k G c hk _ _ hc => by
    refine ⟨[.pl p, .pl (.int N), .ow (.lst (sqD N V)), .pl (.int q.1), c4, .ow (.lst (sqD N G)), .pl (.int q.2), .pl (.int k)], ?_, .inl ?_⟩
    · simp only [sSeq, sNil, sSet, sAsg, sPar, sRet, sRetN, sExpr, sIf, sApp, sSetIx, sAug, sAugIx, sBrk, sCont, putAll, ofR, mVar, mOp, mUn, mIf, mAnd, mOr, mNot, mtB, mtAnd, mtOr, mtNot, mtYes, mCall, mTup, mLst, mAc, mA0, mRc, mR0, mK, oVar, oVal, bindM, ofE, ofT, ofI, ap1, ap2, apL, getAll, vals, Opd.get, Cell.get, ownedAt, isLst, putIx, appTo, setOwn, Cell.setD, RV.d, cellOf, putC, io_un, io_pl, io_ow, gNm, gTp, gAll, pI, pB, List.getElem?_cons_zero, List.getElem?_cons_succ, List.set_cons_succ, List.set_cons_zero, Option.bind_some, Option.map_some, Bool.true_or, Bool.or_true, if_true, reduceIte, Bool.false_eq_true, if_false, List.length_cons, List.length_nil, decide_true, decide_false, decide_eq_true_eq, Nat.reduceAdd, Nat.reduceLeDiff, Nat.zero_add, pc_io hc]
    · have hk2 : k / q.1 < N := Nat.lt_of_le_of_lt (Nat.div_le_self _ _) hk
      have hv : (mOp dMul (oVal (mOp dMul (oVar 3) (oVar 6))) (oVal (mOp dIx (oVar 2) (oVal (mOp dFdiv (oVar 7) (oVar 3)))))) [.pl p, .pl (.int N), .ow (.lst (sqD N V)), .pl (.int q.1), c4, .ow (.lst (sqD N G)), .pl (.int q.2), .pl (.int k)] = .ok (.pl (.int (q.1 * q.2 * V (k / q.1)))) [.pl p, .pl (.int N), .ow (.lst (sqD N V)), .pl (.int q.1), c4, .ow (.lst (sqD N G)), .pl (.int q.2), .pl (.int k)] := by
        simp only [sSeq, sNil, sSet, sAsg, sPar, sRet, sRetN, sExpr, sIf, sApp, sSetIx, sAug, sAugIx, sBrk, sCont, putAll, ofR, mVar, mOp, mUn, mIf, mAnd, mOr, mNot, mtB, mtAnd, mtOr, mtNot, mtYes, mCall, mTup, mLst, mAc, mA0, mRc, mR0, mK, oVar, oVal, bindM, ofE, ofT, ofI, ap1, ap2, apL, getAll, vals, Opd.get, Cell.get, ownedAt, isLst, putIx, appTo, setOwn, Cell.setD, RV.d, cellOf, putC, io_un, io_pl, io_ow, gNm, gTp, gAll, pI, pB, List.getElem?_cons_zero, List.getElem?_cons_succ, List.set_cons_succ, List.set_cons_zero, Option.bind_some, Option.map_some, Bool.true_or, Bool.or_true, if_true, reduceIte, Bool.false_eq_true, if_false, List.length_cons, List.length_nil, decide_true, decide_false, decide_eq_true_eq, Nat.reduceAdd, Nat.reduceLeDiff, Nat.zero_add, dIx, mul_int s1, mul_int s2, fdiv_nat (k := k) (d := q.1) o1 (by omega), sq_atI V hk2]
      refine sSeq_nx (sAugIx_of (ds := sqD N G) (z := k) (j := k) (by simp only [sSeq, sNil, sSet, sAsg, sPar, sRet, sRetN, sExpr, sIf, sApp, sSetIx, sAug, sAugIx, sBrk, sCont, putAll, ofR, mVar, mOp, mUn, mIf, mAnd, mOr, mNot, mtB, mtAnd, mtOr, mtNot, mtYes, mCall, mTup, mLst, mAc, mA0, mRc, mR0, mK, oVar, oVal, bindM, ofE, ofT, ofI, ap1, ap2, apL, getAll, vals, Opd.get, Cell.get, ownedAt, isLst, putIx, appTo, setOwn, Cell.setD, RV.d, cellOf, putC, io_un, io_pl, io_ow, gNm, gTp, gAll, pI, pB, List.getElem?_cons_zero, List.getElem?_cons_succ, List.set_cons_succ, List.set_cons_zero, Option.bind_some, Option.map_some, Bool.true_or, Bool.or_true, if_true, reduceIte, Bool.false_eq_true, if_false, List.length_cons, List.length_nil, decide_true, decide_false, decide_eq_true_eq, Nat.reduceAdd, Nat.reduceLeDiff, Nat.zero_add]) (by simp only [sSeq, sNil, sSet, sAsg, sPar, sRet, sRetN, sExpr, sIf, sApp, sSetIx, sAug, sAugIx, sBrk, sCont, putAll, ofR, mVar, mOp, mUn, mIf, mAnd, mOr, mNot, mtB, mtAnd, mtOr, mtNot, mtYes, mCall, mTup, mLst, mAc, mA0, mRc, mR0, mK, oVar, oVal, bindM, ofE, ofT, ofI, ap1, ap2, apL, getAll, vals, Opd.get, Cell.get, ownedAt, isLst, putIx, appTo, setOwn, Cell.setD, RV.d, cellOf, putC, io_un, io_pl, io_ow, gNm, gTp, gAll, pI, pB, List.getElem?_cons_zero, List.getElem?_cons_succ, List.set_cons_succ, List.set_cons_zero, Option.bind_some, Option.map_some, Bool.true_or, Bool.or_true, if_true, reduceIte, Bool.false_eq_true, if_false, List.length_cons, List.length_nil, decide_true, decide_false, decide_eq_true_eq, Nat.reduceAdd, Nat.reduceLeDiff, Nat.zero_add]) (sq_atI G hk) hv rfl (by rw [sq_len]; exact ixN_nat hk)) ?_
      rw [sq_set]
      rfl) h7
  exact ⟨c', hc', sSeq_nx (sFor_of (iR3_of (i := q.1) (j := N) (c := q.1) (os := [.slot 3, .slot 1, .slot 3]) (by simp only [sSeq, sNil, sSet, sAsg, sPar, sRet, sRetN, sExpr, sIf, sApp, sSetIx, sAug, sAugIx, sBrk, sCont, putAll, ofR, mVar, mOp, mUn, mIf, mAnd, mOr, mNot, mtB, mtAnd, mtOr, mtNot, mtYes, mCall, mTup, mLst, mAc, mA0, mRc, mR0, mK, oVar, oVal, bindM, ofE, ofT, ofI, ap1, ap2, apL, getAll, vals, Opd.get, Cell.get, ownedAt, isLst, putIx, appTo, setOwn, Cell.setD, RV.d, cellOf, putC, io_un, io_pl, io_ow, gNm, gTp, gAll, pI, pB, List.getElem?_cons_zero, List.getElem?_cons_succ, List.set_cons_succ, List.set_cons_zero, Option.bind_some, Option.map_some, Bool.true_or, Bool.or_true, if_true, reduceIte, Bool.false_eq_true, if_false, List.length_cons, List.length_nil, decide_true, decide_false, decide_eq_true_eq, Nat.reduceAdd, Nat.reduceLeDiff, Nat.zero_add]) (by simp only [sSeq, sNil, sSet, sAsg, sPar, sRet, sRetN, sExpr, sIf, sApp, sSetIx, sAug, sAugIx, sBrk, sCont, putAll, ofR, mVar, mOp, mUn, mIf, mAnd, mOr, mNot, mtB, mtAnd, mtOr, mtNot, mtYes, mCall, mTup, mLst, mAc, mA0, mRc, mR0, mK, oVar, oVal, bindM, ofE, ofT, ofI, ap1, ap2, apL, getAll, vals, Opd.get, Cell.get, ownedAt, isLst, putIx, appTo, setOwn, Cell.setD, RV.d, cellOf, putC, io_un, io_pl, io_ow, gNm, gTp, gAll, pI, pB, List.getElem?_cons_zero, List.getElem?_cons_succ, List.set_cons_succ, List.set_cons_zero, Option.bind_some, Option.map_some, Bool.true_or, Bool.or_true, if_true, reduceIte, Bool.false_eq_true, if_false, List.length_cons, List.length_nil, decide_true, decide_false, decide_eq_true_eq, Nat.reduceAdd, Nat.reduceLeDiff, Nat.zero_add]) (by omega) (by omega) o1 (by omega)) e) rfl⟩
theorem sums_out {N : Nat} {p : D} (hN : smallN N) : ∀ (ps : List (Nat × Int)) (F : Nat → Int) (c3 c4 c6 c7 : Cell), pc c3 → pc c6 → pc c7 → (∀ q ∈ ps, okP q) →
    ∃ c3' c6' c7', pc c3' ∧ pc c6' ∧ pc c7' ∧ loopF (gTp [gNm 3, gNm 6]) sIn (ps.map prD) [.pl p, .pl (.int N), .ow (.lst (sqD N sg1)), c3, c4, .ow (.lst (sqD N F)), c6, c7] = .nx [.pl p, .pl (.int N), .ow (.lst (sqD N sg1)), c3', c4, .ow (.lst (sqD N (ps.foldl stepS F))), c6', c7']
  | [], F, c3, c4, c6, c7, h3, h6, h7, _ => ⟨c3, c6, c7, h3, h6, h7, rfl⟩
  | q :: ps, F, c3, c4, c6, c7, h3, h6, h7, ho => by
    obtain ⟨c', hc', e⟩ := sum_in (N := N) (q := q) (p := p) (F := F) (V := sg1) (c4 := c4) hN (ho q List.mem_cons_self) h7
    obtain ⟨c3', c6', c7', p3, p6, p7, e2⟩ := sums_out (p := p) hN ps (stepS F q) (.pl (.int q.1)) c4 (.pl (.int q.2)) c' (pc_pl _) (pc_pl _) hc' fun x hx => ho x (List.mem_cons_of_mem _ hx)
    refine ⟨c3', c6', c7', p3, p6, p7, ?_⟩
    rw [List.foldl_cons, ← e2, List.map_cons]
    refine loopF_cons ⟨[.pl p, .pl (.int N), .ow (.lst (sqD N sg1)), .pl (.int q.1), c4, .ow (.lst (sqD N F)), .pl (.int q.2), c7], ?_, .inl e⟩
    simp only [prD, sSeq, sNil, sSet, sAsg, sPar, sRet, sRetN, sExpr, sIf, sApp, sSetIx, sAug, sAugIx, sBrk, sCont, putAll, ofR, mVar, mOp, mUn, mIf, mAnd, mOr, mNot, mtB, mtAnd, mtOr, mtNot, mtYes, mCall, mTup, mLst, mAc, mA0, mRc, mR0, mK, oVar, oVal, bindM, ofE, ofT, ofI, ap1, ap2, apL, getAll, vals, Opd.get, Cell.get, ownedAt, isLst, putIx, appTo, setOwn, Cell.setD, RV.d, cellOf, putC, io_un, io_pl, io_ow, gNm, gTp, gAll, pI, pB, List.getElem?_cons_zero, List.getElem?_cons_succ, List.set_cons_succ, List.set_cons_zero, Option.bind_some, Option.map_some, Bool.true_or, Bool.or_true, if_true, reduceIte, Bool.false_eq_true, if_false, List.length_cons, List.length_nil, decide_true, decide_false, decide_eq_true_eq, Nat.reduceAdd, Nat.reduceLeDiff, Nat.zero_add, pc_io h3, pc_io h6]
theorem f_sums {N : Nat} {ps : List (Nat × Int)} (hN : smallN N) (h1 : 1 ≤ N) (ho : ∀ q ∈ ps, okP q) : m_sums_for [.pl (.tup (ps.map prD)), .pl (.int N)] = .rt (.pl (.lst (sqD N (Sf ps)))) [.un, .un] := by
  obtain ⟨ρ', e1, c3, c4, p3, p4, rfl⟩ := loopF_inv (g := gNm 3) (b := dIn)
    (fun t ρ => ∃ c3 c4, pc c3 ∧ pc c4 ∧ ρ = [.pl (.tup (ps.map prD)), .pl (.int N), .ow (.lst (sqD N (dvF t))), c3, c4, .un, .un, .un]) (rangeD 1 1 (N - 1)) 0
    [.pl (.tup (ps.map prD)), .pl (.int N), .ow (.lst (sqD N (dvF 0))), .un, .un, .un, .un, .un] ⟨.un, .un, pc_un, pc_un, rfl⟩ (by
      rintro j d ρ hd ⟨c3, c4, p3, p4, rfl⟩
      obtain ⟨hj, rfl⟩ := rangeD_get hd
      rw [Nat.zero_add]
      have e0 : (1 : Int) + (j : Nat) * 1 = ((j + 1 : Nat) : Int) := by omega
      rw [e0]
      unfold smallN at hN
      obtain ⟨c', hc', e⟩ := div_in (N := N) (d := j + 1) (p := .tup (ps.map prD)) (F := dvF j) (c5 := .un) (c6 := .un) (c7 := .un) hN (by omega) (by omega) p4
      refine ⟨_, ⟨[.pl (.tup (ps.map prD)), .pl (.int N), .ow (.lst (sqD N (dvF j))), .pl (.int ((j + 1 : Nat) : Int)), c4, .un, .un, .un], ?_, .inl e⟩, .pl (.int ((j + 1 : Nat) : Int)), c', pc_pl _, hc', rfl⟩
      simp only [sSeq, sNil, sSet, sAsg, sPar, sRet, sRetN, sExpr, sIf, sApp, sSetIx, sAug, sAugIx, sBrk, sCont, putAll, ofR, mVar, mOp, mUn, mIf, mAnd, mOr, mNot, mtB, mtAnd, mtOr, mtNot, mtYes, mCall, mTup, mLst, mAc, mA0, mRc, mR0, mK, oVar, oVal, bindM, ofE, ofT, ofI, ap1, ap2, apL, getAll, vals, Opd.get, Cell.get, ownedAt, isLst, putIx, appTo, setOwn, Cell.setD, RV.d, cellOf, putC, io_un, io_pl, io_ow, gNm, gTp, gAll, pI, pB, List.getElem?_cons_zero, List.getElem?_cons_succ, List.set_cons_succ, List.set_cons_zero, Option.bind_some, Option.map_some, Bool.true_or, Bool.or_true, if_true, reduceIte, Bool.false_eq_true, if_false, List.length_cons, List.length_nil, decide_true, decide_false, decide_eq_true_eq, Nat.reduceAdd, Nat.reduceLeDiff, Nat.zero_add, pc_io p3])
  rw [rangeD_len, Nat.zero_add] at e1
  have e3 : sqD N (dvF (N - 1)) = sqD N sg1 := sq_congr fun i hi => dvF_stop _ (by omega)
  rw [e3] at e1
  obtain ⟨c3', c6', c7', _, _, _, e2⟩ := sums_out (N := N) (p := .tup (ps.map prD)) hN ps (fun _ => 0) c3 c4 .un .un p3 pc_un pc_un ho
  refine (mDef_rt (ρ := [.pl (.tup (ps.map prD)), .pl (.int N), .ow (.lst (sqD N sg1)), c3', c4, .pl (.lst (sqD N (Sf ps))), c6', c7']) ?_).trans rfl
  have z1 : (N : Int) - 1 = ((N - 1 : Nat) : Int) := by omega
  refine sSeq_nx (ρ1 := [.pl (.tup (ps.map prD)), .pl (.int N), .ow (.lst (sqD N (dvF 0))), .un, .un, .un, .un, .un]) (sSet_of (zeros hN rfl) rfl) ?_
  refine sSeq_nx (sFor_of (iR2_of (ρ1 := [.pl (.tup (ps.map prD)), .pl (.int N), .ow (.lst (sqD N (dvF 0))), .un, .un, .un, .un, .un]) (i := 1) (j := N) (os := [.val (.int 1), .slot 1]) (by simp only [sSeq, sNil, sSet, sAsg, sPar, sRet, sRetN, sExpr, sIf, sApp, sSetIx, sAug, sAugIx, sBrk, sCont, putAll, ofR, mVar, mOp, mUn, mIf, mAnd, mOr, mNot, mtB, mtAnd, mtOr, mtNot, mtYes, mCall, mTup, mLst, mAc, mA0, mRc, mR0, mK, oVar, oVal, bindM, ofE, ofT, ofI, ap1, ap2, apL, getAll, vals, Opd.get, Cell.get, ownedAt, isLst, putIx, appTo, setOwn, Cell.setD, RV.d, cellOf, putC, io_un, io_pl, io_ow, gNm, gTp, gAll, pI, pB, List.getElem?_cons_zero, List.getElem?_cons_succ, List.set_cons_succ, List.set_cons_zero, Option.bind_some, Option.map_some, Bool.true_or, Bool.or_true, if_true, reduceIte, Bool.false_eq_true, if_false, List.length_cons, List.length_nil, decide_true, decide_false, decide_eq_true_eq, Nat.reduceAdd, Nat.reduceLeDiff, Nat.zero_add]) (by simp only [sSeq, sNil, sSet, sAsg, sPar, sRet, sRetN, sExpr, sIf, sApp, sSetIx, sAug, sAugIx, sBrk, sCont, putAll, ofR, mVar, mOp, mUn, mIf, mAnd, mOr, mNot, mtB, mtAnd, mtOr, mtNot, mtYes, mCall, mTup, mLst, mAc, mA0, mRc, mR0, mK, oVar, oVal, bindM, ofE, ofT, ofI, ap1, ap2, apL, getAll, vals, Opd.get, Cell.get, ownedAt, isLst, putIx, appTo, setOwn, Cell.setD, RV.d, cellOf, putC, io_un, io_pl, io_ow, gNm, gTp, gAll, pI, pB, List.getElem?_cons_zero, List.getElem?_cons_succ, List.set_cons_succ, List.set_cons_zero, Option.bind_some, Option.map_some, Bool.true_or, Bool.or_true, if_true, reduceIte, Bool.false_eq_true, if_false, List.length_cons, List.length_nil, decide_true, decide_false, decide_eq_true_eq, Nat.reduceAdd, Nat.reduceLeDiff, Nat.zero_add]) (by decide) (smallR_nat hN)) (by rw [z1, Int.toNat_natCast]; exact e1)) ?_
  refine sSeq_nx (sSet_of (zeros hN rfl) rfl) ?_
  refine sSeq_nx (sFor_of (iSeq_of (r := .pl (.tup (ps.map prD))) (by simp only [sSeq, sNil, sSet, sAsg, sPar, sRet, sRetN, sExpr, sIf, sApp, sSetIx, sAug, sAugIx, sBrk, sCont, putAll, ofR, mVar, mOp, mUn, mIf, mAnd, mOr, mNot, mtB, mtAnd, mtOr, mtNot, mtYes, mCall, mTup, mLst, mAc, mA0, mRc, mR0, mK, oVar, oVal, bindM, ofE, ofT, ofI, ap1, ap2, apL, getAll, vals, Opd.get, Cell.get, ownedAt, isLst, putIx, appTo, setOwn, Cell.setD, RV.d, cellOf, putC, io_un, io_pl, io_ow, gNm, gTp, gAll, pI, pB, List.getElem?_cons_zero, List.getElem?_cons_succ, List.set_cons_succ, List.set_cons_zero, Option.bind_some, Option.map_some, Bool.true_or, Bool.or_true, if_true, reduceIte, Bool.false_eq_true, if_false, List.length_cons, List.length_nil, decide_true, decide_false, decide_eq_true_eq, Nat.reduceAdd, Nat.reduceLeDiff, Nat.zero_add]) rfl) e2) ?_
  exact sSeq_rt (sRet_of (by simp only [sSeq, sNil, sSet, sAsg, sPar, sRet, sRetN, sExpr, sIf, sApp, sSetIx, sAug, sAugIx, sBrk, sCont, putAll, ofR, mVar, mOp, mUn, mIf, mAnd, mOr, mNot, mtB, mtAnd, mtOr, mtNot, mtYes, mCall, mTup, mLst, mAc, mA0, mRc, mR0, mK, oVar, oVal, bindM, ofE, ofT, ofI, ap1, ap2, apL, getAll, vals, Opd.get, Cell.get, ownedAt, isLst, putIx, appTo, setOwn, Cell.setD, RV.d, cellOf, putC, io_un, io_pl, io_ow, gNm, gTp, gAll, pI, pB, List.getElem?_cons_zero, List.getElem?_cons_succ, List.set_cons_succ, List.set_cons_zero, Option.bind_some, Option.map_some, Bool.true_or, Bool.or_true, if_true, reduceIte, Bool.false_eq_true, if_false, List.length_cons, List.length_nil, decide_true, decide_false, decide_eq_true_eq, Nat.reduceAdd, Nat.reduceLeDiff, Nat.zero_add, Sf]))

/-! ### by_sums -/
def sumR (h : Nat → Int) (n : Nat) : Int := ((List.range n).map h).sum
def alV (S R : Nat → Int) (n : Nat) : Int := if n = 0 then 1 else (-(sumR (fun j => S (j + 1) * R (n - (j + 1))) n)) / (n : Int)
def al (S : Nat → Int) : Nat → Nat → Int
  | 0 => fun _ => 0
  | n + 1 => updF (al S n) n (alV S (al S n) n)
theorem sq_up (n : Nat) (R : Nat → Int) (x : Int) : sqD n R ++ [.int x] = sqD (n + 1) (updF R n x) := by
  have e : sqD n R = sqD n (updF R n x) := sq_congr fun i hi => by unfold updF; rw [if_neg (by omega)]
  have e2 : x = updF R n x n := by unfold updF; rw [if_pos rfl]
  rw [e]
  have e3 := sq_snoc n (updF R n x)
  rw [← e2] at e3
  exact e3
abbrev lcS : M := mLc (iRangeN 2 (mAc (oVal (mK (.int 1))) (mAc (oVal (mOp dAdd (oVar 4) (oVal (mK (.int 1))))) mA0))) (gNm 5) ([5] : List Nat) mtYes (mOp dMul (oVal (mOp dIx (oVar 2) (oVar 5))) (oVal (mOp dIx (oVar 3) (oVal (mOp dSub (oVar 4) (oVar 5))))))
theorem lc_sum {N n : Nat} {p q : D} {S R : Nat → Int} {c5 : Cell} (hN : smallN N) (hn : n < N) (hS : ∀ j, j < N → smallI (S j) = true) (h5 : pc c5) :
    lcS [.pl p, .pl q, .pl (.lst (sqD N S)), .ow (.lst (sqD n R)), .pl (.int n), c5] = .ok (.fr (.lst (sqD n fun j => S (j + 1) * R (n - (j + 1))))) [.pl p, .pl q, .pl (.lst (sqD N S)), .ow (.lst (sqD n R)), .pl (.int n), c5] := by
  unfold smallN at hN
  have e1 : ((n : Int) + 1 - 1).toNat = n := by omega
  have hi := iR2_of (ma := mAc (oVal (mK (.int 1))) (mAc (oVal (mOp dAdd (oVar 4) (oVal (mK (.int 1))))) mA0)) (ρ := [.pl p, .pl q, .pl (.lst (sqD N S)), .ow (.lst (sqD n R)), .pl (.int n), c5]) (ρ1 := [.pl p, .pl q, .pl (.lst (sqD N S)), .ow (.lst (sqD n R)), .pl (.int n), c5]) (i := 1) (j := (n : Int) + 1) (os := [.val (.int 1), .val (.int ((n : Int) + 1))]) (by simp only [sSeq, sNil, sSet, sAsg, sPar, sRet, sRetN, sExpr, sIf, sApp, sSetIx, sAug, sAugIx, sBrk, sCont, putAll, ofR, mVar, mOp, mUn, mIf, mAnd, mOr, mNot, mtB, mtAnd, mtOr, mtNot, mtYes, mCall, mTup, mLst, mAc, mA0, mRc, mR0, mK, oVar, oVal, bindM, ofE, ofT, ofI, ap1, ap2, apL, getAll, vals, Opd.get, Cell.get, ownedAt, isLst, putIx, appTo, setOwn, Cell.setD, RV.d, cellOf, putC, io_un, io_pl, io_ow, gNm, gTp, gAll, pI, pB, List.getElem?_cons_zero, List.getElem?_cons_succ, List.set_cons_succ, List.set_cons_zero, Option.bind_some, Option.map_some, Bool.true_or, Bool.or_true, if_true, reduceIte, Bool.false_eq_true, if_false, List.length_cons, List.length_nil, decide_true, decide_false, decide_eq_true_eq, Nat.reduceAdd, Nat.reduceLeDiff, Nat.zero_add, dAdd]) (by simp only [sSeq, sNil, sSet, sAsg, sPar, sRet, sRetN, sExpr, sIf, sApp, sSetIx, sAug, sAugIx, sBrk, sCont, putAll, ofR, mVar, mOp, mUn, mIf, mAnd, mOr, mNot, mtB, mtAnd, mtOr, mtNot, mtYes, mCall, mTup, mLst, mAc, mA0, mRc, mR0, mK, oVar, oVal, bindM, ofE, ofT, ofI, ap1, ap2, apL, getAll, vals, Opd.get, Cell.get, ownedAt, isLst, putIx, appTo, setOwn, Cell.setD, RV.d, cellOf, putC, io_un, io_pl, io_ow, gNm, gTp, gAll, pI, pB, List.getElem?_cons_zero, List.getElem?_cons_succ, List.set_cons_succ, List.set_cons_zero, Option.bind_some, Option.map_some, Bool.true_or, Bool.or_true, if_true, reduceIte, Bool.false_eq_true, if_false, List.length_cons, List.length_nil, decide_true, decide_false, decide_eq_true_eq, Nat.reduceAdd, Nat.reduceLeDiff, Nat.zero_add]) (by decide) (smallR_iff.mpr (by omega))
  rw [e1] at hi
  refine mLc_rg hi (by rcases h5 with rfl | ⟨d, rfl⟩ <;> rfl) (by have hl : lineN = 16777216 := rfl; omega) fun i hi => ?_
  have e2 : (1 : Int) + (i : Nat) * 1 = ((i + 1 : Nat) : Int) := by omega
  have e3 : (n : Int) - ((i + 1 : Nat) : Int) = ((n - (i + 1) : Nat) : Int) := by omega
  rw [e2]
  have hw : wipeC [5] [Cell.pl p, .pl q, .pl (.lst (sqD N S)), .ow (.lst (sqD n R)), .pl (.int n), c5] = [.pl p, .pl q, .pl (.lst (sqD N S)), .ow (.lst (sqD n R)), .pl (.int n), .un] := rfl
  rw [hw]
  refine ⟨[.pl p, .pl q, .pl (.lst (sqD N S)), .ow (.lst (sqD n R)), .pl (.int n), .pl (.int ((i + 1 : Nat) : Int))], [.pl p, .pl q, .pl (.lst (sqD N S)), .ow (.lst (sqD n R)), .pl (.int n), .pl (.int ((i + 1 : Nat) : Int))], ?_, rfl, .pl (.int (S (i + 1) * R (n - (i + 1)))), [.pl p, .pl q, .pl (.lst (sqD N S)), .ow (.lst (sqD n R)), .pl (.int n), .pl (.int ((i + 1 : Nat) : Int))], ?_, rfl, rfl⟩
  · simp only [sSeq, sNil, sSet, sAsg, sPar, sRet, sRetN, sExpr, sIf, sApp, sSetIx, sAug, sAugIx, sBrk, sCont, putAll, ofR, mVar, mOp, mUn, mIf, mAnd, mOr, mNot, mtB, mtAnd, mtOr, mtNot, mtYes, mCall, mTup, mLst, mAc, mA0, mRc, mR0, mK, oVar, oVal, bindM, ofE, ofT, ofI, ap1, ap2, apL, getAll, vals, Opd.get, Cell.get, ownedAt, isLst, putIx, appTo, setOwn, Cell.setD, RV.d, cellOf, putC, io_un, io_pl, io_ow, gNm, gTp, gAll, pI, pB, List.getElem?_cons_zero, List.getElem?_cons_succ, List.set_cons_succ, List.set_cons_zero, Option.bind_some, Option.map_some, Bool.true_or, Bool.or_true, if_true, reduceIte, Bool.false_eq_true, if_false, List.length_cons, List.length_nil, decide_true, decide_false, decide_eq_true_eq, Nat.reduceAdd, Nat.reduceLeDiff, Nat.zero_add]
  · refine mOp_of (o := .val (.int (S (i + 1)))) (p := .val (.int (R (n - (i + 1))))) (ρ1 := [.pl p, .pl q, .pl (.lst (sqD N S)), .ow (.lst (sqD n R)), .pl (.int n), .pl (.int ((i + 1 : Nat) : Int))]) ?_ ?_ rfl rfl (mul_int (hS _ (by omega)))
    · simp only [sSeq, sNil, sSet, sAsg, sPar, sRet, sRetN, sExpr, sIf, sApp, sSetIx, sAug, sAugIx, sBrk, sCont, putAll, ofR, mVar, mOp, mUn, mIf, mAnd, mOr, mNot, mtB, mtAnd, mtOr, mtNot, mtYes, mCall, mTup, mLst, mAc, mA0, mRc, mR0, mK, oVar, oVal, bindM, ofE, ofT, ofI, ap1, ap2, apL, getAll, vals, Opd.get, Cell.get, ownedAt, isLst, putIx, appTo, setOwn, Cell.setD, RV.d, cellOf, putC, io_un, io_pl, io_ow, gNm, gTp, gAll, pI, pB, List.getElem?_cons_zero, List.getElem?_cons_succ, List.set_cons_succ, List.set_cons_zero, Option.bind_some, Option.map_some, Bool.true_or, Bool.or_true, if_true, reduceIte, Bool.false_eq_true, if_false, List.length_cons, List.length_nil, decide_true, decide_false, decide_eq_true_eq, Nat.reduceAdd, Nat.reduceLeDiff, Nat.zero_add, dIx, sq_atI S (show i + 1 < N by omega)]
    · simp only [sSeq, sNil, sSet, sAsg, sPar, sRet, sRetN, sExpr, sIf, sApp, sSetIx, sAug, sAugIx, sBrk, sCont, putAll, ofR, mVar, mOp, mUn, mIf, mAnd, mOr, mNot, mtB, mtAnd, mtOr, mtNot, mtYes, mCall, mTup, mLst, mAc, mA0, mRc, mR0, mK, oVar, oVal, bindM, ofE, ofT, ofI, ap1, ap2, apL, getAll, vals, Opd.get, Cell.get, ownedAt, isLst, putIx, appTo, setOwn, Cell.setD, RV.d, cellOf, putC, io_un, io_pl, io_ow, gNm, gTp, gAll, pI, pB, List.getElem?_cons_zero, List.getElem?_cons_succ, List.set_cons_succ, List.set_cons_zero, Option.bind_some, Option.map_some, Bool.true_or, Bool.or_true, if_true, reduceIte, Bool.false_eq_true, if_false, List.length_cons, List.length_nil, decide_true, decide_false, decide_eq_true_eq, Nat.reduceAdd, Nat.reduceLeDiff, Nat.zero_add, dIx, dSub, e3, sq_atI R (show n - (i + 1) < n by omega)]
abbrev bsB : MS := sSeq (sIf (mtB (mOp dEq (oVar 4) (oVal (mK (.int 0))))) (sSeq (sApp 3 (mK (.int 1))) sNil) (sSeq (sApp 3 (mOp dFdiv (oVal (mUn dNeg (oVal (mCall dSum (mAc (oVal lcS) mA0))))) (oVar 4))) sNil)) sNil
theorem small_line {N : Nat} (h : smallN N) {n : Nat} (hn : n ≤ N) : n < lineN := by
  have hl : lineN = 16777216 := rfl
  unfold smallN at h
  omega
theorem nat0 (n : Nat) : decide ((n : Int) = 0) = decide (n = 0) := by
  by_cases h : n = 0
  · simp [h]
  · have : ¬ ((n : Int) = 0) := by omega
    simp [h]
theorem bs_val {N n : Nat} {p q : D} {S R : Nat → Int} {c5 : Cell} (hN : smallN N) (hn : n < N) (hz : n ≠ 0) (hS : ∀ j, j < N → smallI (S j) = true) (h5 : pc c5) :
    mOp dFdiv (oVal (mUn dNeg (oVal (mCall dSum (mAc (oVal lcS) mA0))))) (oVar 4) [.pl p, .pl q, .pl (.lst (sqD N S)), .ow (.lst (sqD n R)), .pl (.int n), c5] = .ok (.pl (.int (alV S R n))) [.pl p, .pl q, .pl (.lst (sqD N S)), .ow (.lst (sqD n R)), .pl (.int n), c5] := by
  have hc := lc_sum (p := p) (q := q) (R := R) hN hn hS h5
  generalize hρ : [Cell.pl p, .pl q, .pl (.lst (sqD N S)), .ow (.lst (sqD n R)), .pl (.int n), c5] = ρ at hc ⊢
  have h4 : ρ[4]? = some (.pl (.int n)) := by rw [← hρ]; rfl
  have hsum : mCall dSum (mAc (oVal lcS) mA0) ρ = .ok (.pl (.int (sumR (fun j => S (j + 1) * R (n - (j + 1))) n))) ρ :=
    mCall_of (os := [.val (.lst (sqD n fun j => S (j + 1) * R (n - (j + 1))))]) (mAc_of (oVal_of hc) rfl) rfl (sum_sq n _)
  generalize hX : sumR (fun j => S (j + 1) * R (n - (j + 1))) n = x at hsum
  have hneg : mUn dNeg (oVal (mCall dSum (mAc (oVal lcS) mA0))) ρ = .ok (.pl (.int (-x))) ρ := mUn_of (oVal_of hsum) rfl rfl
  have hv : alV S R n = (-x) / (n : Int) := by unfold alV; rw [if_neg hz, hX]
  rw [hv]
  unfold smallN at hN
  exact mOp_of (oVal_of hneg) (oVar_pl h4) rfl (get_slot h4) (fdiv_int (by omega) (by omega))
theorem bs_turn {N n : Nat} {p q : D} {S R : Nat → Int} {c4 c5 : Cell} (hN : smallN N) (hn : n < N) (hS : ∀ j, j < N → smallI (S j) = true) (h4 : pc c4) (h5 : pc c5) :
    Turn (gNm 4) bsB (.int n) [.pl p, .pl q, .pl (.lst (sqD N S)), .ow (.lst (sqD n R)), c4, c5] [.pl p, .pl q, .pl (.lst (sqD N S)), .ow (.lst (sqD (n + 1) (updF R n (alV S R n)))), .pl (.int n), c5] := by
  refine ⟨[.pl p, .pl q, .pl (.lst (sqD N S)), .ow (.lst (sqD n R)), .pl (.int n), c5], by simp only [sSeq, sNil, sSet, sAsg, sPar, sRet, sRetN, sExpr, sIf, sApp, sSetIx, sAug, sAugIx, sBrk, sCont, putAll, ofR, mVar, mOp, mUn, mIf, mAnd, mOr, mNot, mtB, mtAnd, mtOr, mtNot, mtYes, mCall, mTup, mLst, mAc, mA0, mRc, mR0, mK, oVar, oVal, bindM, ofE, ofT, ofI, ap1, ap2, apL, getAll, vals, Opd.get, Cell.get, ownedAt, isLst, putIx, appTo, setOwn, Cell.setD, RV.d, cellOf, putC, io_un, io_pl, io_ow, gNm, gTp, gAll, pI, pB, List.getElem?_cons_zero, List.getElem?_cons_succ, List.set_cons_succ, List.set_cons_zero, Option.bind_some, Option.map_some, Bool.true_or, Bool.or_true, if_true, reduceIte, Bool.false_eq_true, if_false, List.length_cons, List.length_nil, decide_true, decide_false, decide_eq_true_eq, Nat.reduceAdd, Nat.reduceLeDiff, Nat.zero_add, pc_io h4], .inl (sSeq_nx (sIf_of (k := decide (n = 0)) (ρ1 := [.pl p, .pl q, .pl (.lst (sqD N S)), .ow (.lst (sqD n R)), .pl (.int n), c5]) ?_ (fun h => ?_) fun h => ?_) rfl)⟩
  · rw [← nat0]
    exact mtB_of (mOp_of (f := dEq) (a := oVar 4) (b := oVal (mK (.int 0))) (o := .slot 4) (p := .val (.int 0)) rfl rfl rfl rfl eq_int)
  · have hz : n = 0 := of_decide_eq_true h
    refine sSeq_nx (sApp_of (ρ1 := [.pl p, .pl q, .pl (.lst (sqD N S)), .ow (.lst (sqD n R)), .pl (.int n), c5]) (r := .pl (.int 1)) (ds0 := sqD n R) (ds := sqD n R) rfl rfl rfl (by rw [sq_len]; exact small_line hN (by omega))) ?_
    rw [show (RV.pl (D.int 1)).d = D.int (alV S R n) by unfold alV; rw [if_pos hz]; rfl, sq_up]
    rfl
  · have hz : n ≠ 0 := of_decide_eq_false h
    refine sSeq_nx (sApp_of (ds0 := sqD n R) (ds := sqD n R) rfl (bs_val hN hn hz hS h5) rfl (by rw [sq_len]; exact small_line hN (by omega))) ?_
    rw [show (RV.pl (D.int (alV S R n))).d = D.int (alV S R n) from rfl, sq_up]
    rfl
theorem f_by_sums {N : Nat} {ps : List (Nat × Int)} (hN : smallN N) (h1 : 1 ≤ N) (ho : ∀ q ∈ ps, okP q) (hS : ∀ j, j < N → smallI (Sf ps j) = true) :
    m_by_sums [.pl (.tup (ps.map prD)), .pl (.int N)] = .rt (.pl (.lst (sqD N (al (Sf ps) N)))) [.un, .un] := by
  have hsf := f_sums hN h1 ho
  generalize Sf ps = S at hS hsf ⊢
  obtain ⟨ρ', e1, c4, c5, p4, p5, rfl⟩ := loopF_inv (g := gNm 4) (b := bsB)
    (fun n ρ => ∃ c4 c5, pc c4 ∧ pc c5 ∧ ρ = [.pl (.tup (ps.map prD)), .pl (.int N), .pl (.lst (sqD N S)), .ow (.lst (sqD n (al S n))), c4, c5]) (rangeD 0 1 N) 0
    [.pl (.tup (ps.map prD)), .pl (.int N), .pl (.lst (sqD N S)), .ow (.lst []), .un, .un] ⟨.un, .un, pc_un, pc_un, rfl⟩ (by
      rintro n d ρ hd ⟨c4, c5, p4, p5, rfl⟩
      obtain ⟨hn, rfl⟩ := rangeD_get hd
      rw [Nat.zero_add]
      have e0 : (0 : Int) + (n : Nat) * 1 = ((n : Nat) : Int) := by omega
      rw [e0]
      exact ⟨_, bs_turn hN hn hS p4 p5, .pl (.int n), c5, pc_pl _, p5, rfl⟩)
  rw [rangeD_len, Nat.zero_add] at e1
  refine (mDef_rt (ρ := [.pl (.tup (ps.map prD)), .pl (.int N), .pl (.lst (sqD N S)), .pl (.lst (sqD N (al S N))), c4, c5]) ?_).trans rfl
  refine sSeq_nx (ρ1 := [.pl (.tup (ps.map prD)), .pl (.int N), .pl (.lst (sqD N S)), .ow (.lst []), .un, .un]) ?_ ?_
  · have hcall : mCallP (df_sums_for.drop 0) m_sums_for (mAc (oVal (mVar 0)) (mAc (oVal (mVar 1)) mA0)) [.pl (.tup (ps.map prD)), .pl (.int N), .un, .un, .un, .un] = .ok (.pl (.lst (sqD N S))) [.pl (.tup (ps.map prD)), .pl (.int N), .un, .un, .un, .un] :=
      mCallP_of (os := [.val (.tup (ps.map prD)), .val (.int N)]) rfl rfl hsf
    exact sPar_of (mRc_of hcall (mRc_of (mLst0 _) rfl)) rfl
  · refine sSeq_nx (sFor_of (iR1_of (j := N) (os := [.slot 1]) rfl rfl (smallR_nat hN)) e1) ?_
    exact sSeq_rt (sRet_of rfl)

/-! ### euler_signs -/
def g1 (k : Nat) : Nat := k * (3 * k - 1) / 2
def g2 (k : Nat) : Nat := k * (3 * k + 1) / 2
def sgn (k : Nat) : Int := if k % 2 = 1 then -1 else 1
def eulL : Nat → List (Nat × Int)
  | 0 => []
  | k + 1 => eulL k ++ [(g1 (k + 1), sgn (k + 1)), (g2 (k + 1), sgn (k + 1))]
theorem small_nat {k : Nat} (h : k ≤ 1000000) : smallI (k : Int) = true := smallI_iff.mpr (by omega)
theorem g1_int (k : Nat) : ((k : Int) * (3 * (k : Int) - 1)) / 2 = ((g1 k : Nat) : Int) := by
  unfold g1
  have e : (k : Int) * (3 * (k : Int) - 1) = ((k * (3 * k - 1) : Nat) : Int) := by
    cases k with
    | zero => rfl
    | succ k =>
      have h : (3 * ((k + 1 : Nat) : Int) - 1) = ((3 * (k + 1) - 1 : Nat) : Int) := by omega
      rw [h, Int.natCast_mul]
  rw [e]
  rfl
theorem g2_int (k : Nat) : ((k : Int) * (3 * (k : Int) + 1)) / 2 = ((g2 k : Nat) : Int) := by
  unfold g2
  have e : (k : Int) * (3 * (k : Int) + 1) = ((k * (3 * k + 1) : Nat) : Int) := by
    have h : (3 * (k : Int) + 1) = ((3 * k + 1 : Nat) : Int) := by omega
    rw [h, Int.natCast_mul]
  rw [e]
  rfl
abbrev xG1 : M := mOp dFdiv (oVal (mOp dMul (oVar 2) (oVal (mOp dSub (oVal (mOp dMul (oVal (mK (.int 3))) (oVar 2))) (oVal (mK (.int 1))))))) (oVal (mK (.int 2)))
abbrev xG2 : M := mOp dFdiv (oVal (mOp dMul (oVar 2) (oVal (mOp dAdd (oVal (mOp dMul (oVal (mK (.int 3))) (oVar 2))) (oVal (mK (.int 1))))))) (oVal (mK (.int 2)))
theorem v_g1 {k : Nat} {ρ : Env} (hk : k ≤ 1000000) (h : ρ[2]? = some (.pl (.int k))) : xG1 ρ = .ok (.pl (.int (g1 k))) ρ := by
  rw [← g1_int]
  have e1 := mOp_of (f := dMul) (a := oVal (mK (.int 3))) (b := oVar 2) (ρ := ρ) rfl (oVar_pl h) rfl (get_slot h) (mul_int (i := 3) (by decide))
  have e2 := mOp_of (f := dSub) (a := oVal (mOp dMul (oVal (mK (.int 3))) (oVar 2))) (b := oVal (mK (.int 1))) (oVal_of e1) rfl rfl rfl rfl
  have e3 := mOp_of (f := dMul) (oVar_pl h) (oVal_of e2) (get_slot h) rfl (mul_int (small_nat hk))
  exact mOp_of (f := dFdiv) (oVal_of e3) rfl rfl rfl (fdiv_int (d := 2) (by decide) (by decide))
theorem v_g2 {k : Nat} {ρ : Env} (hk : k ≤ 1000000) (h : ρ[2]? = some (.pl (.int k))) : xG2 ρ = .ok (.pl (.int (g2 k))) ρ := by
  rw [← g2_int]
  have e1 := mOp_of (f := dMul) (a := oVal (mK (.int 3))) (b := oVar 2) (ρ := ρ) rfl (oVar_pl h) rfl (get_slot h) (mul_int (i := 3) (by decide))
  have e2 := mOp_of (f := dAdd) (a := oVal (mOp dMul (oVal (mK (.int 3))) (oVar 2))) (b := oVal (mK (.int 1))) (oVal_of e1) rfl rfl rfl rfl
  have e3 := mOp_of (f := dMul) (oVar_pl h) (oVal_of e2) (get_slot h) rfl (mul_int (small_nat hk))
  exact mOp_of (f := dFdiv) (oVal_of e3) rfl rfl rfl (fdiv_int (d := 2) (by decide) (by decide))
theorem lt_nat {a b : Nat} : decide ((a : Int) < (b : Int)) = decide (a < b) := by
  by_cases h : a < b
  · simp [h]
  · have : ¬ ((a : Int) < (b : Int)) := by omega
    simp [h]
theorem t_lt {m : MO} {i : Nat} {a b : Nat} {ρ : Env} {o : Opd} (ha : m ρ = .ok o ρ) (ho : o.get ρ = some (.int a)) (h : ρ[i]? = some (.pl (.int b))) : mtB (mOp dLt m (oVar i)) ρ = .ok (decide (a < b)) ρ := by
  rw [← lt_nat]
  exact mtB_of (mOp_of ha (oVar_pl h) ho (get_slot h) rfl)
/-- how often a while goes -/
theorem count_to {g : Nat → Nat} {N : Nat} : ∀ m, (∃ K, K ≤ m ∧ (∀ j, j < K → g j < N) ∧ N ≤ g K) ∨ ∀ j, j ≤ m → g j < N
  | 0 => by
    by_cases h : g 0 < N
    · exact .inr fun j hj => by rw [show j = 0 by omega]; exact h
    · exact .inl ⟨0, Nat.le_refl _, fun j hj => by omega, by omega⟩
  | m + 1 => by
    rcases count_to (g := g) (N := N) m with ⟨K, h1, h2, h3⟩ | h
    · exact .inl ⟨K, by omega, h2, h3⟩
    · by_cases h4 : g (m + 1) < N
      · exact .inr fun j hj => by
          by_cases e : j = m + 1
          · rw [e]; exact h4
          · exact h j (by omega)
      · exact .inl ⟨m + 1, Nat.le_refl _, fun j hj => h j (by omega), by omega⟩
theorem count_of {g : Nat → Nat} {N : Nat} (hg : N ≤ g N) : ∃ K, K ≤ N ∧ (∀ j, j < K → g j < N) ∧ N ≤ g K := by
  rcases count_to (g := g) (N := N) N with h | h
  · exact h
  · have := h N (Nat.le_refl _); omega
theorem g1_ge (k : Nat) : k ≤ g1 k := by
  unfold g1
  cases k with
  | zero => omega
  | succ k =>
    have h : (k + 1) * 2 ≤ (k + 1) * (3 * (k + 1) - 1) := Nat.mul_le_mul_left _ (by omega)
    omega
abbrev euB : MS := sSeq (sSet 3 (mIf (mtB (mOp dEq (oVal (mOp dAnd (oVar 2) (oVal (mK (.int 1))))) (oVal (mK (.int 1))))) (mUn dNeg (oVal (mK (.int 1)))) (mK (.int 1)))) (sSeq (sApp 1 (mTup (mAc (oVal xG1) (mAc (oVal (mVar 3)) mA0)))) (sSeq (sApp 1 (mTup (mAc (oVal xG2) (mAc (oVal (mVar 3)) mA0)))) (sSeq (sAug 2 dIAdd (mK (.int 1))) sNil)))
theorem v_sgn {k : Nat} {ρ : Env} (h : ρ[2]? = some (.pl (.int k))) : mIf (mtB (mOp dEq (oVal (mOp dAnd (oVar 2) (oVal (mK (.int 1))))) (oVal (mK (.int 1))))) (mUn dNeg (oVal (mK (.int 1)))) (mK (.int 1)) ρ = .ok (.pl (.int (sgn k))) ρ := by
  have ha : dAnd (.int (k : Int)) (.int 1) = some (.pl (.int ((k % 2 : Nat) : Int))) := by
    show (if 0 ≤ (k : Int) ∧ 0 ≤ (1 : Int) then pI (((k : Int).toNat &&& (1 : Int).toNat : Nat) : Int) else none) = _
    rw [if_pos ⟨by omega, by omega⟩, show (k : Int).toNat = k by omega, show (1 : Int).toNat = 1 from rfl, Nat.and_one_is_mod]
    rfl
  have e1 := mOp_of (f := dAnd) (a := oVar 2) (b := oVal (mK (.int 1))) (oVar_pl h) rfl (get_slot h) rfl ha
  have e2 := mtB_of (mOp_of (f := dEq) (a := oVal (mOp dAnd (oVar 2) (oVal (mK (.int 1))))) (b := oVal (mK (.int 1))) (oVal_of e1) rfl rfl rfl eq_int)
  unfold mIf bindM
  rw [e2]
  unfold sgn
  by_cases hk : k % 2 = 1
  · have : decide (((k % 2 : Nat) : Int) = 1) = true := decide_eq_true (by omega)
    simp only [this, if_true, hk]
    rfl
  · have : decide (((k % 2 : Nat) : Int) = 1) = false := decide_eq_false (by omega)
    simp only [this, Bool.false_eq_true, if_false, hk]
    rfl
theorem tup2 {a b : MO} {ρ ρ1 ρ2 : Env} {d e : D} (ha : a ρ = .ok (.val d) ρ1) (hb : b ρ1 = .ok (.val e) ρ2) : mTup (mAc a (mAc b mA0)) ρ = .ok (.pl (.tup [d, e])) ρ2 := by
  unfold mTup bindM
  rw [mAc_of ha (mAc_of hb (show mA0 ρ2 = .ok [] ρ2 from rfl))]
  simp only [vals, Option.map_some, List.length_cons, List.length_nil]
  rw [if_pos (by omega)]
theorem eu_turn {N k : Nat} {L : List (Nat × Int)} {c : Cell} (hk : k ≤ 100000) (hL : L.length + 2 < lineN) (hc : pc c) :
    euB [.pl (.int N), .ow (.lst (L.map prD)), .pl (.int k), c] = .nx [.pl (.int N), .ow (.lst ((L ++ [(g1 k, sgn k), (g2 k, sgn k)]).map prD)), .pl (.int ((k + 1 : Nat) : Int)), .pl (.int (sgn k))] := by
  refine sSeq_nx (ρ1 := [.pl (.int N), .ow (.lst (L.map prD)), .pl (.int k), .pl (.int (sgn k))]) (sSet_of (v_sgn rfl) (by simp only [sSeq, sNil, sSet, sAsg, sPar, sRet, sRetN, sExpr, sIf, sApp, sSetIx, sAug, sAugIx, sBrk, sCont, putAll, ofR, mVar, mOp, mUn, mIf, mAnd, mOr, mNot, mtB, mtAnd, mtOr, mtNot, mtYes, mCall, mTup, mLst, mAc, mA0, mRc, mR0, mK, oVar, oVal, bindM, ofE, ofT, ofI, ap1, ap2, apL, getAll, vals, Opd.get, Cell.get, ownedAt, isLst, putIx, appTo, setOwn, Cell.setD, RV.d, cellOf, putC, io_un, io_pl, io_ow, gNm, gTp, gAll, pI, pB, List.getElem?_cons_zero, List.getElem?_cons_succ, List.set_cons_succ, List.set_cons_zero, Option.bind_some, Option.map_some, Bool.true_or, Bool.or_true, if_true, reduceIte, Bool.false_eq_true, if_false, List.length_cons, List.length_nil, decide_true, decide_false, decide_eq_true_eq, Nat.reduceAdd, Nat.reduceLeDiff, Nat.zero_add, pc_io hc])) ?_
  refine sSeq_nx (ρ1 := [.pl (.int N), .ow (.lst ((L ++ [(g1 k, sgn k)]).map prD)), .pl (.int k), .pl (.int (sgn k))]) ?_ ?_
  · refine Eq.trans (sApp_of (ds0 := L.map prD) (ds := L.map prD) rfl (tup2 (oVal_of (v_g1 (k := k) (by omega) rfl)) (oVal_of (r := .pl (.int (sgn k))) rfl)) rfl (by rw [List.length_map]; omega)) ?_
    rw [List.map_append]
    rfl
  refine sSeq_nx (ρ1 := [.pl (.int N), .ow (.lst ((L ++ [(g1 k, sgn k), (g2 k, sgn k)]).map prD)), .pl (.int k), .pl (.int (sgn k))]) ?_ ?_
  · refine Eq.trans (sApp_of (ds0 := (L ++ [(g1 k, sgn k)]).map prD) (ds := (L ++ [(g1 k, sgn k)]).map prD) rfl (tup2 (oVal_of (v_g2 (k := k) (by omega) rfl)) (oVal_of (r := .pl (.int (sgn k))) rfl)) rfl (by rw [List.length_map, List.length_append]; simp; omega)) ?_
    rw [show L ++ [(g1 k, sgn k), (g2 k, sgn k)] = L ++ [(g1 k, sgn k)] ++ [(g2 k, sgn k)] by simp, List.map_append (l₁ := L ++ [(g1 k, sgn k)])]
    rfl
  refine sSeq_nx (ρ1 := [.pl (.int N), .ow (.lst ((L ++ [(g1 k, sgn k), (g2 k, sgn k)]).map prD)), .pl (.int ((k + 1 : Nat) : Int)), .pl (.int (sgn k))]) ?_ rfl
  rfl
theorem eul_len : ∀ k, (eulL k).length = 2 * k
  | 0 => rfl
  | k + 1 => by
    show (eulL k ++ _).length = _
    rw [List.length_append, eul_len k]
    simp
    omega
theorem f_euler {N : Nat} (hN : N ≤ 4000) : ∃ K, K ≤ N ∧ (∀ j, j < K → g1 (j + 1) < N) ∧ N ≤ g1 (K + 1) ∧ m_euler_signs [.pl (.int N)] = .rt (.pl (.lst ((eulL K).map prD))) [.un] := by
  obtain ⟨K, hK, h1, h2⟩ := count_of (g := fun j => g1 (j + 1)) (N := N) (Nat.le_trans (Nat.le_succ N) (g1_ge (N + 1)))
  refine ⟨K, hK, h1, h2, ?_⟩
  let cl : Nat → Cell := fun j => match j with
    | 0 => .un
    | j + 1 => .pl (.int (sgn (j + 1)))
  have hcl : ∀ j, pc (cl j) := fun j => by
    cases j with
    | zero => exact pc_un
    | succ j => exact pc_pl _
  have hl : lineN = 16777216 := rfl
  have key := loopW_eq (c := mtB (mOp dLt (oVal xG1) (oVar 0))) (b := euB) (fun i => [Cell.pl (.int N), .ow (.lst ((eulL i).map prD)), .pl (.int ((i + 1 : Nat) : Int)), cl i]) K 0 100000 (by omega) (fun j hj => by
      rw [Nat.zero_add]
      refine ⟨?_, ?_⟩
      · rw [t_lt (a := g1 (j + 1)) (b := N) (oVal_of (v_g1 (k := j + 1) (by omega) rfl)) rfl rfl, decide_eq_true (h1 j hj)]
      · exact eu_turn (by omega) (by rw [eul_len]; omega) (hcl j)) (by
      rw [Nat.zero_add, t_lt (a := g1 (K + 1)) (b := N) (oVal_of (v_g1 (k := K + 1) (by omega) rfl)) rfl rfl, decide_eq_false (by omega)])
  simp only [Nat.zero_add] at key
  refine (mDef_rt (ρ := [.pl (.int N), .pl (.lst ((eulL K).map prD)), .pl (.int ((K + 1 : Nat) : Int)), cl K]) ?_).trans rfl
  refine sSeq_nx (ρ1 := [.pl (.int N), .ow (.lst []), .pl (.int 1), .un]) (sPar_of (mRc_of (mLst0 _) (mRc_of (r := .pl (.int 1)) rfl rfl)) rfl) ?_
  refine sSeq_nx key ?_
  exact sSeq_rt (sRet_of rfl)

/-! ### need_many, the first row -/
theorem mAnd_t {a b : M} {ρ ρ1 : Env} {r : ER RV} (h : a ρ = .ok (.pl (.bl true)) ρ1) (hb : b ρ1 = r) : mAnd a b ρ = r := by
  unfold mAnd bindM
  rw [mtB_of h]
  exact hb
theorem mAnd_f {a b : M} {ρ ρ1 : Env} (h : a ρ = .ok (.pl (.bl false)) ρ1) : mAnd a b ρ = .ok (.pl (.bl false)) ρ1 := by
  unfold mAnd bindM
  rw [mtB_of h]
  rfl
theorem mOr_f {a b : M} {ρ ρ1 : Env} {r : ER RV} (h : a ρ = .ok (.pl (.bl false)) ρ1) (hb : b ρ1 = r) : mOr a b ρ = r := by
  unfold mOr bindM
  rw [mtB_of h]
  exact hb
theorem mNot_of {a : M} {ρ ρ1 : Env} {c : Bool} (h : a ρ = .ok (.pl (.bl c)) ρ1) : mNot a ρ = .ok (.pl (.bl (!c))) ρ1 := by
  unfold mNot bindM
  rw [mtB_of h]
theorem f_is_integer (z : Int) : m_is_integer [.pl (.int z)] = .rt (.pl (.bl true)) [.un] := rfl
theorem f_is_count {N : Nat} (h : N ≤ 3000) : m_is_count [.pl (.int N), .pl (.int 3000)] = .rt (.pl (.bl true)) [.un, .un] := by
  refine (mDef_rt (ρ := [.pl (.int N), .pl (.int 3000)]) (sSeq_rt (sRet_of ?_))).trans rfl
  refine mAnd_t (ρ1 := [.pl (.int N), .pl (.int 3000)]) (mCallP_of (os := [.val (.int N)]) rfl rfl (f_is_integer N)) (mAnd_t (ρ1 := [.pl (.int N), .pl (.int 3000)]) ?_ (mOr_f (ρ1 := [.pl (.int N), .pl (.int 3000)]) (mOp_of (o := .slot 1) (p := .val .non) rfl rfl rfl rfl rfl) ?_))
  · refine mOp_of (o := .slot 0) (p := .val (.int 0)) rfl rfl rfl rfl ?_
    show some (RV.pl (.bl (decide ((0 : Int) ≤ (N : Int))))) = _
    rw [decide_eq_true (by omega)]
  · refine mOp_of (o := .slot 0) (p := .slot 1) rfl rfl rfl rfl ?_
    show some (RV.pl (.bl (decide ((N : Int) ≤ (3000 : Int))))) = _
    rw [decide_eq_true (by omega)]
theorem f_need_many {N : Nat} (h : N ≤ 3000) : m_need_many [.pl (.int N), .pl (.int 3000)] = .rt (.pl .non) [.un, .un] := by
  refine (mDef_nx (ρ := [.pl (.int N), .pl (.int 3000)]) ?_).trans rfl
  refine sSeq_nx (sIf_of (k := false) (ρ1 := [.pl (.int N), .pl (.int 3000)]) ?_ (fun z => by cases z) fun _ => rfl) rfl
  exact mtNot_of (c := true) (mtB_of (mCallP_of (os := [.val (.int N), .val (.int 3000)]) rfl rfl (f_is_count h)))
def dl (n : Nat) : Int := if n = 0 then 1 else 0
theorem v_dl {n i : Nat} {ρ : Env} (h : ρ[i]? = some (.pl (.int n))) : mIf (mtB (mOp dEq (oVar i) (oVal (mK (.int 0))))) (mK (.int 1)) (mK (.int 0)) ρ = .ok (.pl (.int (dl n))) ρ := by
  have e := mtB_of (mOp_of (f := dEq) (a := oVar i) (b := oVal (mK (.int 0))) (oVar_pl h) rfl (get_slot h) rfl eq_int)
  rw [nat0] at e
  unfold mIf bindM
  rw [e]
  unfold dl
  by_cases hn : n = 0
  · simp only [hn, decide_true, if_true]
    rfl
  · simp only [hn, decide_false, Bool.false_eq_true, if_false]
    rfl
theorem zero_mul1 (i : Nat) : (0 : Int) + (i : Nat) * 1 = ((i : Nat) : Int) := by omega
theorem lc_dl2 {N : Nat} {c : Cell} {c1 c3 c4 : Cell} (hN : smallN N) (hc : pc c) : mLc (iRangeN 1 (mAc (oVar 0) mA0)) (gNm 2) ([2] : List Nat) mtYes (mIf (mtB (mOp dEq (oVar 2) (oVal (mK (.int 0))))) (mK (.int 1)) (mK (.int 0))) [.pl (.int N), c1, c, c3, c4] = .ok (.fr (.lst (sqD N dl))) [.pl (.int N), c1, c, c3, c4] := by
  refine mLc_rg (lo := 0) (n := N) (iR1_of (j := N) (os := [.slot 0]) rfl rfl (smallR_nat hN)) (by rcases hc with rfl | ⟨d, rfl⟩ <;> rfl) (Nat.le_of_lt (small_line hN (Nat.le_refl _))) fun i hi => ?_
  rw [zero_mul1]
  exact ⟨[.pl (.int N), c1, .pl (.int i), c3, c4], [.pl (.int N), c1, .pl (.int i), c3, c4], rfl, rfl, .pl (.int (dl i)), [.pl (.int N), c1, .pl (.int i), c3, c4], v_dl rfl, rfl, rfl⟩
theorem lc_dl4 {N : Nat} {c : Cell} {c0 c2 c3 : Cell} {cs : List Cell} (hN : smallN N) (hc : pc c) : mLc (iRangeN 1 (mAc (oVar 1) mA0)) (gNm 4) ([4] : List Nat) mtYes (mIf (mtB (mOp dEq (oVar 4) (oVal (mK (.int 0))))) (mK (.int 1)) (mK (.int 0))) [c0, .pl (.int N), c2, c3, c, .un, .un, .un, .un, .un, .un, .un] = .ok (.fr (.lst (sqD N dl))) [c0, .pl (.int N), c2, c3, c, .un, .un, .un, .un, .un, .un, .un] := by
  refine mLc_rg (lo := 0) (n := N) (iR1_of (j := N) (os := [.slot 1]) rfl rfl (smallR_nat hN)) (by rcases hc with rfl | ⟨d, rfl⟩ <;> rfl) (Nat.le_of_lt (small_line hN (Nat.le_refl _))) fun i hi => ?_
  rw [zero_mul1]
  exact ⟨[c0, .pl (.int N), c2, c3, .pl (.int i), .un, .un, .un, .un, .un, .un, .un], [c0, .pl (.int N), c2, c3, .pl (.int i), .un, .un, .un, .un, .un, .un, .un], rfl, rfl, .pl (.int (dl i)), [c0, .pl (.int N), c2, c3, .pl (.int i), .un, .un, .un, .un, .un, .un, .un], v_dl rfl, rfl, rfl⟩
/-! ### euler_row, _law_pentagons -/
theorem sq_out {N p : Nat} (F : Nat → Int) (x : Int) (h : ¬ p < N) : sqD N (updF F p x) = sqD N F := sq_congr fun i hi => by unfold updF; rw [if_neg (by omega)]
def setF (F : Nat → Int) (q : Nat × Int) : Nat → Int := updF F q.1 q.2
def eF (K : Nat) : Nat → Int := (eulL K).foldl setF dl
abbrev erB : MS := sSeq (sIf (mtB (mOp dLt (oVar 3) (oVar 0))) (sSeq (sSetIx 1 (mVar 3) (mVar 4)) sNil) sNil) sNil
theorem er_loop {N : Nat} {c2 : Cell} : ∀ (L : List (Nat × Int)) (F : Nat → Int) (c3 c4 : Cell), pc c3 → pc c4 → ∃ c3' c4', loopF (gTp [gNm 3, gNm 4]) erB (L.map prD) [.pl (.int N), .ow (.lst (sqD N F)), c2, c3, c4] = .nx [.pl (.int N), .ow (.lst (sqD N (L.foldl setF F))), c2, c3', c4']
  | [], F, c3, c4, _, _ => ⟨c3, c4, rfl⟩
  | q :: L, F, c3, c4, h3, h4 => by
    obtain ⟨c3', c4', e⟩ := er_loop (N := N) (c2 := c2) L (setF F q) (.pl (.int q.1)) (.pl (.int q.2)) (pc_pl _) (pc_pl _)
    refine ⟨c3', c4', ?_⟩
    rw [List.foldl_cons, ← e, List.map_cons]
    refine loopF_cons ⟨[.pl (.int N), .ow (.lst (sqD N F)), c2, .pl (.int q.1), .pl (.int q.2)], by simp only [prD, sSeq, sNil, sSet, sAsg, sPar, sRet, sRetN, sExpr, sIf, sApp, sSetIx, sAug, sAugIx, sBrk, sCont, putAll, ofR, mVar, mOp, mUn, mIf, mAnd, mOr, mNot, mtB, mtAnd, mtOr, mtNot, mtYes, mCall, mTup, mLst, mAc, mA0, mRc, mR0, mK, oVar, oVal, bindM, ofE, ofT, ofI, ap1, ap2, apL, getAll, vals, Opd.get, Cell.get, ownedAt, isLst, putIx, appTo, setOwn, Cell.setD, RV.d, cellOf, putC, io_un, io_pl, io_ow, gNm, gTp, gAll, pI, pB, List.getElem?_cons_zero, List.getElem?_cons_succ, List.set_cons_succ, List.set_cons_zero, Option.bind_some, Option.map_some, Bool.true_or, Bool.or_true, if_true, reduceIte, Bool.false_eq_true, if_false, List.length_cons, List.length_nil, decide_true, decide_false, decide_eq_true_eq, Nat.reduceAdd, Nat.reduceLeDiff, Nat.zero_add, pc_io h3, pc_io h4], .inl ?_⟩
    refine sSeq_nx (sIf_of (k := decide (q.1 < N)) (ρ1 := [.pl (.int N), .ow (.lst (sqD N F)), c2, .pl (.int q.1), .pl (.int q.2)]) (t_lt (o := .slot 3) rfl rfl rfl) (fun h => ?_) fun h => ?_) rfl
    · have h := of_decide_eq_true h
      refine sSeq_nx (Eq.trans (sSetIx_of (ds := sqD N F) (z := q.1) (r := .pl (.int q.2)) (j := q.1) rfl rfl rfl (by rw [sq_len]; exact ixN_nat h)) ?_) rfl
      rw [show (RV.pl (D.int q.2)).d = D.int q.2 from rfl, sq_set]
      rfl
    · have h := of_decide_eq_false h
      show SR.nx _ = SR.nx _
      rw [show sqD N (setF F q) = sqD N F from sq_out F q.2 h]
def isK (N K : Nat) : Prop := (∀ j, j < K → g1 (j + 1) < N) ∧ N ≤ g1 (K + 1)
theorem isK_uniq {N K K' : Nat} (h : isK N K) (h' : isK N K') : K = K' := by
  rcases Nat.lt_trichotomy K K' with e | e | e
  · have := h'.1 K e; have := h.2; omega
  · exact e
  · have := h.1 K' e; have := h'.2; omega
theorem f_euler_row {N : Nat} (hN : N ≤ 3000) : ∃ K, isK N K ∧ m_euler_row [.pl (.int N)] = .rt (.pl (.tup (sqD N (eF K)))) [.un] := by
  obtain ⟨K, hK, h1, h2, e⟩ := f_euler (N := N) (by omega)
  refine ⟨K, ⟨h1, h2⟩, ?_⟩
  have sN : smallN N := by unfold smallN; omega
  obtain ⟨c3, c4, e2⟩ := er_loop (N := N) (c2 := .un) (eulL K) dl .un .un pc_un pc_un
  refine (mDef_rt (ρ := [.pl (.int N), .ow (.lst (sqD N (eF K))), .un, c3, c4]) ?_).trans rfl
  refine sSeq_nx (ρ1 := [.pl (.int N), .un, .un, .un, .un]) ?_ ?_
  · unfold sExpr ofE
    rw [show mCallP (df_need_many.drop 0) m_need_many (mAc (oVal (mVar 0)) (mAc (oVal (mK (.int 3000))) mA0)) ([Cell.pl (.int N)] ++ List.replicate 4 .un) = .ok (.pl .non) [.pl (.int N), .un, .un, .un, .un] from mCallP_of (os := [.val (.int N), .val (.int 3000)]) rfl rfl (f_need_many hN)]
  refine sSeq_nx (ρ1 := [.pl (.int N), .ow (.lst (sqD N dl)), .un, .un, .un]) (sSet_of (lc_dl2 sN pc_un) rfl) ?_
  refine sSeq_nx (sFor_of (iSeq_of (r := .pl (.lst ((eulL K).map prD))) (mCallP_of (os := [.val (.int N)]) rfl rfl e) rfl) e2) ?_
  exact sSeq_rt (sRet_of (mCall_of (os := [.slot 1]) (ds := [.lst (sqD N (eF K))]) rfl rfl rfl))
theorem v_mod2 {k : Nat} {ρ : Env} (h : ρ[2]? = some (.pl (.int k))) : mtB (mOp dEq (oVal (mOp dMod (oVar 2) (oVal (mK (.int 2))))) (oVal (mK (.int 0)))) ρ = .ok (decide (k % 2 = 0)) ρ := by
  have hm : dMod (.int (k : Int)) (.int 2) = some (.pl (.int ((k % 2 : Nat) : Int))) := rfl
  have e1 := mOp_of (f := dMod) (a := oVar 2) (b := oVal (mK (.int 2))) (oVar_pl h) rfl (get_slot h) rfl hm
  have e2 := mtB_of (mOp_of (f := dEq) (a := oVal (mOp dMod (oVar 2) (oVal (mK (.int 2))))) (b := oVal (mK (.int 0))) (oVal_of e1) rfl rfl rfl eq_int)
  rw [nat0] at e2
  exact e2
theorem v_and0 {k : Nat} {ρ : Env} (h : ρ[2]? = some (.pl (.int k))) : mtB (mOp dEq (oVal (mOp dAnd (oVar 2) (oVal (mK (.int 1))))) (oVal (mK (.int 0)))) ρ = .ok (decide (k % 2 = 0)) ρ := by
  have ha : dAnd (.int (k : Int)) (.int 1) = some (.pl (.int ((k % 2 : Nat) : Int))) := by
    show (if 0 ≤ (k : Int) ∧ 0 ≤ (1 : Int) then pI (((k : Int).toNat &&& (1 : Int).toNat : Nat) : Int) else none) = _
    rw [if_pos ⟨by omega, by omega⟩, show (k : Int).toNat = k by omega, show (1 : Int).toNat = 1 from rfl, Nat.and_one_is_mod]
    rfl
  have e1 := mOp_of (f := dAnd) (a := oVar 2) (b := oVal (mK (.int 1))) (oVar_pl h) rfl (get_slot h) rfl ha
  have e2 := mtB_of (mOp_of (f := dEq) (a := oVal (mOp dAnd (oVar 2) (oVal (mK (.int 1))))) (b := oVal (mK (.int 0))) (oVal_of e1) rfl rfl rfl eq_int)
  rw [nat0] at e2
  exact e2
theorem v_sgn2 {k : Nat} {ρ : Env} (h : ρ[2]? = some (.pl (.int k))) : mIf (mtB (mOp dEq (oVal (mOp dMod (oVar 2) (oVal (mK (.int 2))))) (oVal (mK (.int 0))))) (mK (.int 1)) (mUn dNeg (oVal (mK (.int 1)))) ρ = .ok (.pl (.int (sgn k))) ρ := by
  have e := v_mod2 h
  unfold sgn
  by_cases hk : k % 2 = 0
  · rw [decide_eq_true hk] at e
    rw [if_neg (by omega)]
    exact mIf_t e rfl
  · rw [decide_eq_false hk] at e
    rw [if_pos (by omega)]
    exact mIf_f e rfl
theorem lst2 {a b : MO} {ρ ρ1 ρ2 : Env} {d e : D} (ha : a ρ = .ok (.val d) ρ1) (hb : b ρ1 = .ok (.val e) ρ2) : mLst (mAc a (mAc b mA0)) ρ = .ok (.fr (.lst [d, e])) ρ2 := by
  unfold mLst bindM
  rw [mAc_of ha (mAc_of hb (show mA0 ρ2 = .ok [] ρ2 from rfl))]
  simp only [vals, Option.map_some, List.length_cons, List.length_nil]
  rw [if_pos (by omega)]
abbrev peI : MS := sSeq (sIf (mtB (mOp dLt (oVar 3) (oVar 0))) (sSeq (sSetIx 1 (mVar 3) (mIf (mtB (mOp dEq (oVal (mOp dMod (oVar 2) (oVal (mK (.int 2))))) (oVal (mK (.int 0))))) (mK (.int 1)) (mUn dNeg (oVal (mK (.int 1)))))) sNil) sNil) sNil
theorem pe_one {N p k : Nat} {F : Nat → Int} {c : Cell} (hc : pc c) : Turn (gNm 3) peI (.int p) [.pl (.int N), .ow (.lst (sqD N F)), .pl (.int k), c] [.pl (.int N), .ow (.lst (sqD N (updF F p (sgn k)))), .pl (.int k), .pl (.int p)] := by
  refine ⟨[.pl (.int N), .ow (.lst (sqD N F)), .pl (.int k), .pl (.int p)], by simp only [sSeq, sNil, sSet, sAsg, sPar, sRet, sRetN, sExpr, sIf, sApp, sSetIx, sAug, sAugIx, sBrk, sCont, putAll, ofR, mVar, mOp, mUn, mIf, mAnd, mOr, mNot, mtB, mtAnd, mtOr, mtNot, mtYes, mCall, mTup, mLst, mAc, mA0, mRc, mR0, mK, oVar, oVal, bindM, ofE, ofT, ofI, ap1, ap2, apL, getAll, vals, Opd.get, Cell.get, ownedAt, isLst, putIx, appTo, setOwn, Cell.setD, RV.d, cellOf, putC, io_un, io_pl, io_ow, gNm, gTp, gAll, pI, pB, List.getElem?_cons_zero, List.getElem?_cons_succ, List.set_cons_succ, List.set_cons_zero, Option.bind_some, Option.map_some, Bool.true_or, Bool.or_true, if_true, reduceIte, Bool.false_eq_true, if_false, List.length_cons, List.length_nil, decide_true, decide_false, decide_eq_true_eq, Nat.reduceAdd, Nat.reduceLeDiff, Nat.zero_add, pc_io hc], .inl ?_⟩
  refine sSeq_nx (sIf_of (k := decide (p < N)) (ρ1 := [.pl (.int N), .ow (.lst (sqD N F)), .pl (.int k), .pl (.int p)]) (t_lt (o := .slot 3) rfl rfl rfl) (fun h => ?_) fun h => ?_) rfl
  · have h := of_decide_eq_true h
    refine sSeq_nx (Eq.trans (sSetIx_of (ds := sqD N F) (z := p) (r := .pl (.int (sgn k))) (j := p) rfl (v_sgn2 rfl) rfl (by rw [sq_len]; exact ixN_nat h)) ?_) rfl
    rw [show (RV.pl (D.int (sgn k))).d = D.int (sgn k) from rfl, sq_set]
    rfl
  · have h := of_decide_eq_false h
    show SR.nx _ = SR.nx _
    rw [sq_out F (sgn k) h]
def pF : Nat → Nat → Int
  | 0 => fun _ => 0
  | k + 1 => updF (updF (pF k) (g1 k) (sgn k)) (g2 k) (sgn k)
theorem pF_eF : ∀ K, pF (K + 1) = eF K
  | 0 => by
    funext n
    show updF (updF (fun _ => 0) (g1 0) (sgn 0)) (g2 0) (sgn 0) n = dl n
    have h1 : g1 0 = 0 := rfl
    have h2 : g2 0 = 0 := rfl
    have h3 : sgn 0 = 1 := rfl
    rw [h1, h2, h3]
    unfold updF dl
    by_cases h : n = 0 <;> simp [h]
  | K + 1 => by
    show updF (updF (pF (K + 1)) (g1 (K + 1)) (sgn (K + 1))) (g2 (K + 1)) (sgn (K + 1)) = (eulL K ++ _).foldl setF dl
    rw [List.foldl_append, pF_eF K]
    rfl
abbrev peB : MS := sSeq (sFor (iSeq (mLst (mAc (oVal xG1) (mAc (oVal xG2) mA0)))) (gNm 3) peI) (sSeq (sSet 2 (mOp dAdd (oVar 2) (oVal (mK (.int 1))))) sNil)
theorem pe_turn {N k : Nat} {F : Nat → Int} {c : Cell} (hk : k ≤ 100000) (hc : pc c) : peB [.pl (.int N), .ow (.lst (sqD N F)), .pl (.int k), c] = .nx [.pl (.int N), .ow (.lst (sqD N (updF (updF F (g1 k) (sgn k)) (g2 k) (sgn k)))), .pl (.int ((k + 1 : Nat) : Int)), .pl (.int (g2 k))] := by
  refine sSeq_nx (ρ1 := [.pl (.int N), .ow (.lst (sqD N (updF (updF F (g1 k) (sgn k)) (g2 k) (sgn k)))), .pl (.int k), .pl (.int (g2 k))]) (sFor_of (iSeq_of (lst2 (oVal_of (v_g1 (k := k) (by omega) rfl)) (oVal_of (v_g2 (k := k) (by omega) rfl))) rfl) ?_) (sSeq_nx (sSet_of (r := .pl (.int ((k + 1 : Nat) : Int))) (mOp_of (o := .slot 2) (p := .val (.int 1)) rfl rfl rfl rfl rfl) rfl) rfl)
  rw [show (RV.pl (D.int (g1 k))).d = D.int (g1 k) from rfl, show (RV.pl (D.int (g2 k))).d = D.int (g2 k) from rfl, loopF_cons (pe_one hc), loopF_cons (pe_one (pc_pl _))]
  rfl
theorem f_pent {N K : Nat} (h0 : 1 ≤ N) (hN : N ≤ 3000) (hK : isK N K) : m__law_pentagons [.pl (.int N)] = .rt (.pl (.lst (sqD N (eF K)))) [.un] := by
  have sN : smallN N := by unfold smallN; omega
  have hK2 : K ≤ 3000 := by
    by_cases h : K = 0
    · omega
    · have h1 := hK.1 (K - 1) (by omega)
      have h2 := g1_ge (K - 1 + 1)
      omega
  let cl : Nat → Cell := fun j => match j with
    | 0 => .un
    | j + 1 => .pl (.int (g2 j))
  have hcl : ∀ j, pc (cl j) := fun j => by
    cases j with
    | zero => exact pc_un
    | succ j => exact pc_pl _
  have key := loopW_eq (c := mtB (mOp dLt (oVal xG1) (oVar 0))) (b := peB) (fun i => [Cell.pl (.int N), .ow (.lst (sqD N (pF i))), .pl (.int (i : Nat)), cl i]) (K + 1) 0 100000 (by omega) (fun j hj => by
      rw [Nat.zero_add]
      refine ⟨?_, ?_⟩
      · have hlt : g1 j < N := by
          cases j with
          | zero => exact h0
          | succ j => exact hK.1 j (by omega)
        rw [t_lt (a := g1 j) (b := N) (oVal_of (v_g1 (k := j) (by omega) rfl)) rfl rfl, decide_eq_true hlt]
      · exact pe_turn (by omega) (hcl j)) (by
      rw [Nat.zero_add, t_lt (a := g1 (K + 1)) (b := N) (oVal_of (v_g1 (k := K + 1) (by omega) rfl)) rfl rfl, decide_eq_false (by have := hK.2; omega)])
  simp only [Nat.zero_add] at key
  rw [pF_eF] at key
  refine (mDef_rt (ρ := [.pl (.int N), .pl (.lst (sqD N (eF K))), .pl (.int ((K + 1 : Nat) : Int)), cl (K + 1)]) ?_).trans rfl
  refine sSeq_nx (ρ1 := [.pl (.int N), .ow (.lst (sqD N (pF 0))), .pl (.int 0), .un]) (sPar_of (mRc_of (zeros sN rfl) (mRc_of (r := .pl (.int 0)) rfl rfl)) rfl) ?_
  refine sSeq_nx key ?_
  exact sSeq_rt (sRet_of rfl)
/-! ### cube_row, _law_triangles -/
def t3 (k : Nat) : Nat := k * (k + 1) / 2
def cv (k : Nat) : Int := if k % 2 = 0 then 2 * (k : Int) + 1 else -2 * (k : Int) - 1
def cF : Nat → Nat → Int
  | 0 => fun _ => 0
  | k + 1 => updF (cF k) (t3 k) (cv k)
abbrev xT3 : M := mOp dFdiv (oVal (mOp dMul (oVar 2) (oVal (mOp dAdd (oVar 2) (oVal (mK (.int 1))))))) (oVal (mK (.int 2)))
theorem v_t3 {k : Nat} {ρ : Env} (hk : k ≤ 1000000) (h : ρ[2]? = some (.pl (.int k))) : xT3 ρ = .ok (.pl (.int (t3 k))) ρ := by
  have e2 := mOp_of (f := dAdd) (a := oVar 2) (b := oVal (mK (.int 1))) (oVar_pl h) rfl (get_slot h) rfl rfl
  have e3 := mOp_of (f := dMul) (oVar_pl h) (oVal_of e2) (get_slot h) rfl (mul_int (small_nat hk))
  refine (mOp_of (f := dFdiv) (oVal_of e3) (b := oVal (mK (.int 2))) rfl rfl rfl (fdiv_int (d := 2) (by decide) (by decide))).trans ?_
  rfl
abbrev xCv (c : MT) : M := mIf c (mOp dAdd (oVal (mOp dMul (oVal (mK (.int 2))) (oVar 2))) (oVal (mK (.int 1)))) (mOp dSub (oVal (mOp dMul (oVal (mUn dNeg (oVal (mK (.int 2))))) (oVar 2))) (oVal (mK (.int 1))))
theorem v_cv {c : MT} {k : Nat} {ρ : Env} (h : ρ[2]? = some (.pl (.int k))) (hc : c ρ = .ok (decide (k % 2 = 0)) ρ) : xCv c ρ = .ok (.pl (.int (cv k))) ρ := by
  unfold cv
  by_cases hk : k % 2 = 0
  · rw [decide_eq_true hk] at hc
    rw [if_pos hk]
    refine mIf_t hc ?_
    have e1 := mOp_of (f := dMul) (a := oVal (mK (.int 2))) (b := oVar 2) (ρ := ρ) rfl (oVar_pl h) rfl (get_slot h) (mul_int (i := 2) (by decide))
    exact mOp_of (f := dAdd) (oVal_of e1) rfl rfl rfl rfl
  · rw [decide_eq_false hk] at hc
    rw [if_neg hk]
    refine mIf_f hc ?_
    have e1 := mOp_of (f := dMul) (a := oVal (mUn dNeg (oVal (mK (.int 2))))) (b := oVar 2) (ρ := ρ) (o := .val (.int (-2))) rfl (oVar_pl h) rfl (get_slot h) (mul_int (i := -2) (by decide))
    exact mOp_of (f := dSub) (oVal_of e1) rfl rfl rfl rfl
def isT3 (N K : Nat) : Prop := (∀ j, j < K → t3 j < N) ∧ N ≤ t3 K
theorem t3_ge (k : Nat) : k ≤ t3 k := by
  unfold t3
  cases k with
  | zero => omega
  | succ k =>
    have h : (k + 1) * 2 ≤ (k + 1) * (k + 1 + 1) := Nat.mul_le_mul_left _ (by omega)
    omega
theorem isT3_ex (N : Nat) : ∃ K, K ≤ N ∧ isT3 N K := by
  obtain ⟨K, h1, h2, h3⟩ := count_of (g := t3) (t3_ge N)
  exact ⟨K, h1, h2, h3⟩
theorem cu_loop {N K : Nat} {c : MT} {b : MS} (hN : N ≤ 3000) (hK : K ≤ N) (h : isT3 N K) (hc : ∀ (k : Nat) (ρ : Env), ρ[2]? = some (.pl (.int k)) → c ρ = .ok (decide (k % 2 = 0)) ρ)
    (hb : ∀ (k : Nat) (F : Nat → Int), b [.pl (.int N), .ow (.lst (sqD N F)), .pl (.int k)] = .nx [.pl (.int N), .ow (.lst (sqD N F)), .pl (.int ((k + 1 : Nat) : Int))]) :
    loopW (mtB (mOp dLt (oVal xT3) (oVar 0))) (sSeq (sSetIx 1 xT3 (xCv c)) b) 100000 [.pl (.int N), .ow (.lst (sqD N fun _ => 0)), .pl (.int 0)] = .nx [.pl (.int N), .ow (.lst (sqD N (cF K))), .pl (.int K)] := by
  have key := loopW_eq (c := mtB (mOp dLt (oVal xT3) (oVar 0))) (b := sSeq (sSetIx 1 xT3 (xCv c)) b) (fun i => [Cell.pl (.int N), .ow (.lst (sqD N (cF i))), .pl (.int (i : Nat))]) K 0 100000 (by omega) (fun j hj => by
      rw [Nat.zero_add]
      refine ⟨?_, ?_⟩
      · rw [t_lt (a := t3 j) (b := N) (oVal_of (v_t3 (k := j) (by omega) rfl)) rfl rfl, decide_eq_true (h.1 j hj)]
      · refine sSeq_nx (ρ1 := [.pl (.int N), .ow (.lst (sqD N (cF (j + 1)))), .pl (.int j)]) ?_ (hb j (cF (j + 1)))
        refine Eq.trans (sSetIx_of (ds := sqD N (cF j)) (z := t3 j) (j := t3 j) rfl (v_cv rfl (hc j _ rfl)) (v_t3 (k := j) (by omega) rfl) (by rw [sq_len]; exact ixN_nat (h.1 j hj))) ?_
        rw [show (RV.pl (D.int (cv j))).d = D.int (cv j) from rfl, sq_set]
        rfl) (by
      rw [Nat.zero_add, t_lt (a := t3 K) (b := N) (oVal_of (v_t3 (k := K) (by omega) rfl)) rfl rfl, decide_eq_false (by have := h.2; omega)])
  simp only [Nat.zero_add] at key
  exact key
theorem f_cube {N K : Nat} (hN : N ≤ 3000) (hK : K ≤ N) (h : isT3 N K) : m_cube_row [.pl (.int N)] = .rt (.pl (.tup (sqD N (cF K)))) [.un] := by
  have sN : smallN N := by unfold smallN; omega
  refine (mDef_rt (ρ := [.pl (.int N), .ow (.lst (sqD N (cF K))), .pl (.int K)]) ?_).trans rfl
  refine sSeq_nx (ρ1 := [.pl (.int N), .un, .un]) ?_ ?_
  · unfold sExpr ofE
    rw [show mCallP (df_need_many.drop 0) m_need_many (mAc (oVal (mVar 0)) (mAc (oVal (mK (.int 3000))) mA0)) ([Cell.pl (.int N)] ++ List.replicate 2 .un) = .ok (.pl .non) [.pl (.int N), .un, .un] from mCallP_of (os := [.val (.int N), .val (.int 3000)]) rfl rfl (f_need_many hN)]
  refine sSeq_nx (ρ1 := [.pl (.int N), .ow (.lst (sqD N fun _ => 0)), .pl (.int 0)]) (sPar_of (mRc_of (zeros sN rfl) (mRc_of (r := .pl (.int 0)) rfl rfl)) rfl) ?_
  refine sSeq_nx (cu_loop hN hK h (fun k ρ hk => v_and0 hk) fun k F => rfl) ?_
  exact sSeq_rt (sRet_of (mCall_of (os := [.slot 1]) (ds := [.lst (sqD N (cF K))]) rfl rfl rfl))
theorem f_tri {N K : Nat} (hN : N ≤ 3000) (hK : K ≤ N) (h : isT3 N K) : m__law_triangles [.pl (.int N)] = .rt (.pl (.lst (sqD N (cF K)))) [.un] := by
  have sN : smallN N := by unfold smallN; omega
  refine (mDef_rt (ρ := [.pl (.int N), .pl (.lst (sqD N (cF K))), .pl (.int K)]) ?_).trans rfl
  refine sSeq_nx (ρ1 := [.pl (.int N), .ow (.lst (sqD N fun _ => 0)), .pl (.int 0)]) (sPar_of (mRc_of (zeros sN rfl) (mRc_of (r := .pl (.int 0)) rfl rfl)) rfl) ?_
  refine sSeq_nx (cu_loop hN hK h (fun k ρ hk => v_mod2 hk) fun k F => rfl) ?_
  exact sSeq_rt (sRet_of rfl)

/-! ### by_factors -/
theorem g1_mono {a b : Nat} (h : a ≤ b) : g1 a ≤ g1 b := by
  unfold g1
  exact Nat.div_le_div_right (Nat.mul_le_mul h (by omega))
theorem g1_g2 (k : Nat) : g1 k ≤ g2 k := by
  unfold g1 g2
  exact Nat.div_le_div_right (Nat.mul_le_mul_left _ (by omega))
theorem eul_split : ∀ (m K : Nat), ∃ R, eulL (K + m) = eulL K ++ R ∧ ∀ q ∈ R, g1 (K + 1) ≤ q.1
  | 0, K => ⟨[], by simp, fun q hq => by cases hq⟩
  | m + 1, K => by
    obtain ⟨R, e, h⟩ := eul_split m K
    refine ⟨R ++ [(g1 (K + m + 1), sgn (K + m + 1)), (g2 (K + m + 1), sgn (K + m + 1))], ?_, fun q hq => ?_⟩
    · show eulL (K + m) ++ _ = _
      rw [e, List.append_assoc]
      rfl
    · rcases List.mem_append.mp hq with hq | hq
      · exact h q hq
      · have h1 : g1 (K + 1) ≤ g1 (K + m + 1) := g1_mono (by omega)
        have h2 := g1_g2 (K + m + 1)
        rcases List.mem_cons.mp hq with e | hq
        · rw [e]; exact h1
        · rw [List.mem_singleton.mp hq]; exact Nat.le_trans h1 h2
theorem isK_small {M K : Nat} (h : isK M K) (hM : M ≤ 425) : K ≤ 16 := by
  by_cases hk : K ≤ 16
  · exact hk
  · have h1 : g1 17 < M := h.1 16 (by omega)
    have e : g1 17 = 425 := rfl
    omega
def mulq (d : Nat) (q : Nat × Int) : Nat × Int := (q.1 * d, q.2)
def SG (d : Nat) : List (Nat × Int) := (eulL 17).map (mulq d)
theorem eul_mem : ∀ (K : Nat) (q : Nat × Int), q ∈ eulL K → (∃ k, 1 ≤ k ∧ k ≤ K ∧ (q.1 = g1 k ∨ q.1 = g2 k) ∧ q.2 = sgn k)
  | 0, q, h => by cases h
  | K + 1, q, h => by
    rcases List.mem_append.mp h with h | h
    · obtain ⟨k, h1, h2, h3⟩ := eul_mem K q h
      exact ⟨k, h1, by omega, h3⟩
    · rcases List.mem_cons.mp h with e | h
      · exact ⟨K + 1, by omega, Nat.le_refl _, by rw [e]; exact .inl rfl, by rw [e]⟩
      · rw [List.mem_singleton.mp h]; exact ⟨K + 1, by omega, Nat.le_refl _, .inr rfl, rfl⟩
theorem sgn_small (k : Nat) : smallI (sgn k) = true := by
  unfold sgn
  by_cases h : k % 2 = 1
  · rw [if_pos h]; decide
  · rw [if_neg h]; decide
theorem sgs_ok {d K : Nat} (hd : 1 ≤ d) (hd2 : d ≤ 100) (hK : K ≤ 16) : ∀ q ∈ (eulL K).map (mulq d), smallI q.2 = true ∧ smallN q.1 ∧ 1 ≤ q.1 := fun q hq => by
  obtain ⟨p, hp, rfl⟩ := List.mem_map.mp hq
  obtain ⟨k, h1, h2, h3, h4⟩ := eul_mem K p hp
  have hb : p.1 ≤ 500 := by
    have a1 : g1 k ≤ g2 k := g1_g2 k
    have a2 : g2 k ≤ g2 16 := by unfold g2; exact Nat.div_le_div_right (Nat.mul_le_mul (by omega) (by omega))
    have a3 : g2 16 = 392 := rfl
    omega
  have hl : 1 ≤ p.1 := by
    have a1 := g1_ge k
    have a2 := g1_g2 k
    omega
  refine ⟨by show smallI p.2 = true; rw [h4]; exact sgn_small k, ?_, ?_⟩
  · show p.1 * d ≤ 100000
    have : p.1 * d ≤ 500 * 100 := Nat.mul_le_mul hb hd2
    omega
  · show 1 ≤ p.1 * d
    exact Nat.mul_pos hl hd
/-- later signs reach no place below N -/
theorem tm_more {N : Nat} {f : Nat → Int} {R : List (Nat × Int)} (hR : ∀ q ∈ R, N ≤ q.1) : ∀ (F : Nat → Int) (i : Nat), i < N → R.foldl (stepT f) F i = F i := by
  induction R with
  | nil => exact fun F i _ => rfl
  | cons q R ih =>
    intro F i hi
    rw [List.foldl_cons, ih (fun x hx => hR x (List.mem_cons_of_mem _ hx)) _ i hi]
    show F i + (if q.1 ≤ i then q.2 * f (i - q.1) else 0) = F i
    have := hR q List.mem_cons_self
    rw [if_neg (by omega), Int.add_zero]
theorem take_more {n : Nat} {R : List (Nat × Int)} (hR : ∀ q ∈ R, n < q.1) : ∀ L : List (Nat × Int), (L ++ R).takeWhile (fun q => decide (q.1 ≤ n)) = L.takeWhile fun q => decide (q.1 ≤ n)
  | [] => by
    cases R with
    | nil => rfl
    | cons q R =>
      have := hR q List.mem_cons_self
      rw [List.nil_append, List.takeWhile_cons_of_neg (by simp; omega)]
      rfl
  | q :: L => by
    by_cases h : q.1 ≤ n
    · rw [List.cons_append, List.takeWhile_cons_of_pos (by simpa using h), List.takeWhile_cons_of_pos (by simpa using h), take_more hR L]
    · rw [List.cons_append, List.takeWhile_cons_of_neg (by simpa using h), List.takeWhile_cons_of_neg (by simpa using h)]
theorem ov_more {N : Nat} {f : Nat → Int} {L R : List (Nat × Int)} (hR : ∀ q ∈ R, N ≤ q.1) : ∀ n, n ≤ N → ovF f (L ++ R) n = ovF f L n
  | 0, _ => rfl
  | n + 1, h => by
    have ih := ov_more (f := f) (L := L) hR n (by omega)
    show updF (ovF f (L ++ R) n) n (ovS (ovF f (L ++ R) n) n (L ++ R) (ovF f (L ++ R) n n)) = updF (ovF f L n) n (ovS (ovF f L n) n L (ovF f L n n))
    rw [ih]
    unfold ovS
    rw [take_more (fun q hq => by have := hR q hq; omega) L]
theorem SG_split {N d K : Nat} (hd : 1 ≤ d) (hK : isK (N / d + 1) K) (hN : N ≤ 400) : ∃ R, SG d = (eulL K).map (mulq d) ++ R ∧ ∀ q ∈ R, N ≤ q.1 := by
  have h16 := isK_small hK (by have := Nat.div_le_self N d; omega)
  obtain ⟨R, e, h⟩ := eul_split (17 - K) K
  rw [show K + (17 - K) = 17 by omega] at e
  refine ⟨R.map (mulq d), by unfold SG; rw [e, List.map_append], fun q hq => ?_⟩
  obtain ⟨p, hp, rfl⟩ := List.mem_map.mp hq
  show N ≤ p.1 * d
  have h1 := h p hp
  have h2 := hK.2
  have h3 : (N / d + 1) * d ≤ p.1 * d := Nat.mul_le_mul_right d (by omega)
  have h4 : N < (N / d + 1) * d := by
    have := Nat.lt_div_mul_add (a := N) (b := d) hd
    rw [Nat.add_mul, Nat.one_mul]
    exact this
  omega
/-- one lap -/
def LP (N : Nat) (q : Nat × Int) (F : Nat → Int) : Nat → Int := if 0 < q.2 then tmF F (SG q.1) else ovF F (SG q.1) N
def itF (f : (Nat → Int) → Nat → Int) : Nat → (Nat → Int) → Nat → Int
  | 0, F => F
  | n + 1, F => f (itF f n F)
def bfF (N : Nat) (ps : List (Nat × Int)) : Nat → Int := ps.foldl (fun F q => itF (LP N q) q.2.natAbs F) dl
def rc (N : Nat) (F : Nat → Int) (c : Cell) : Prop := c = .ow (.lst (sqD N F)) ∨ c = .pl (.lst (sqD N F))
abbrev xLap : M := mIf (mtB (mOp dGt (oVar 6) (oVal (mK (.int 0))))) (mCallP (df_times_signs.drop 0) m_times_signs (mAc (oVal (mVar 3)) (mAc (oVal (mVar 7)) mA0))) (mCallP (df_over_signs.drop 0) m_over_signs (mAc (oVal (mVar 3)) (mAc (oVal (mVar 7)) mA0)))
abbrev lapB : MS := sSeq (sSet 3 xLap) (sSeq (sIf (mtB (mOp dNe (oVar 2) (oVal (mK (.int 0))))) (sSeq (sSet 3 (mLc (iSeq (mVar 3)) (gNm 11) ([11] : List Nat) mtYes (mOp dMod (oVar 11) (oVar 2)))) sNil) sNil) sNil)
theorem ne0 : dNe (.int 0) (.int 0) = some (.pl (.bl false)) := ne_int
theorem lap_one {N K : Nat} {q : Nat × Int} {F : Nat → Int} {p : D} {c3 c4 c7 c8 c9 c10 c11 : Cell} (hN : N ≤ 400) (h1 : 1 ≤ N) (hd : 1 ≤ q.1) (hd2 : q.1 ≤ 100) (hK : isK (N / q.1 + 1) K)
    (h3 : rc N F c3) (h7 : c7 = .ow (.lst (((eulL K).map (mulq q.1)).map prD)) ∨ c7 = .pl (.lst (((eulL K).map (mulq q.1)).map prD))) :
    lapB [.pl p, .pl (.int N), .pl (.int 0), c3, c4, .pl (.int q.1), .pl (.int q.2), c7, c8, c9, c10, c11] = .nx [.pl p, .pl (.int N), .pl (.int 0), .pl (.lst (sqD N (LP N q F))), c4, .pl (.int q.1), .pl (.int q.2), .pl (.lst (((eulL K).map (mulq q.1)).map prD)), c8, c9, c10, c11] := by
  have sN : smallN N := by unfold smallN; omega
  have h16 := isK_small hK (by have := Nat.div_le_self N q.1; omega)
  have sg := sgs_ok hd hd2 h16
  obtain ⟨R, eR, hR⟩ := SG_split hd hK hN
  refine sSeq_nx (ρ1 := [.pl p, .pl (.int N), .pl (.int 0), .pl (.lst (sqD N (LP N q F))), c4, .pl (.int q.1), .pl (.int q.2), .pl (.lst (((eulL K).map (mulq q.1)).map prD)), c8, c9, c10, c11]) ?_ ?_
  · have hargs : mAc (oVal (mVar 3)) (mAc (oVal (mVar 7)) mA0) [.pl p, .pl (.int N), .pl (.int 0), c3, c4, .pl (.int q.1), .pl (.int q.2), c7, c8, c9, c10, c11] = .ok [.val (.lst (sqD N F)), .val (.lst (((eulL K).map (mulq q.1)).map prD))] [.pl p, .pl (.int N), .pl (.int 0), .pl (.lst (sqD N F)), c4, .pl (.int q.1), .pl (.int q.2), .pl (.lst (((eulL K).map (mulq q.1)).map prD)), c8, c9, c10, c11] := by
      rcases h3 with rfl | rfl <;> rcases h7 with rfl | rfl <;> rfl
    have htest : mtB (mOp dGt (oVar 6) (oVal (mK (.int 0)))) [.pl p, .pl (.int N), .pl (.int 0), c3, c4, .pl (.int q.1), .pl (.int q.2), c7, c8, c9, c10, c11] = .ok (decide (0 < q.2)) [.pl p, .pl (.int N), .pl (.int 0), c3, c4, .pl (.int q.1), .pl (.int q.2), c7, c8, c9, c10, c11] :=
      mtB_of (mOp_of (o := .slot 6) (p := .val (.int 0)) rfl rfl rfl rfl rfl)
    by_cases hr : 0 < q.2
    · rw [decide_eq_true hr] at htest
      have ev : sqD N (tmF F ((eulL K).map (mulq q.1))) = sqD N (LP N q F) := sq_congr fun i hi => by
        unfold LP
        rw [if_pos hr, eR]
        unfold tmF
        rw [List.foldl_append]
        exact (tm_more hR _ i hi).symm
      refine sSet_of (r := .pl (.lst (sqD N (LP N q F)))) (mIf_t htest (mCallP_of (outs := [.un, .un]) hargs rfl ?_)) rfl
      rw [← ev]
      exact f_times sN fun x hx => ⟨(sg x hx).1, (sg x hx).2.1⟩
    · rw [decide_eq_false hr] at htest
      have ev : sqD N (ovF F ((eulL K).map (mulq q.1)) N) = sqD N (LP N q F) := sq_congr fun i hi => by
        unfold LP
        rw [if_neg hr, eR, ov_more hR N (Nat.le_refl _)]
      refine sSet_of (r := .pl (.lst (sqD N (LP N q F)))) (mIf_f htest (mCallP_of (outs := [.un, .un]) hargs rfl ?_)) rfl
      rw [← ev]
      exact f_over sN fun x hx => ⟨(sg x hx).1, (sg x hx).2.2⟩
  · exact sSeq_nx (sIf_of (k := false) (mtB_of (mOp_of (o := .slot 2) (p := .val (.int 0)) rfl rfl rfl rfl ne0)) (fun z => by cases z) fun _ => rfl) rfl
theorem sg_comp {N K d : Nat} {p : D} {r : Int} {c3 c4 c7 c8 c9 c10 c11 : Cell} (hN : N ≤ 400) (hd : 1 ≤ d) (hd2 : d ≤ 100) (h8 : pc c8) (h9 : pc c9) (he : m_euler_signs [.pl (.int ((N / d + 1 : Nat) : Int))] = .rt (.pl (.lst ((eulL K).map prD))) [.un]) (hK : K ≤ 16) :
    mLc (iSeq (mCallP (df_euler_signs.drop 0) m_euler_signs (mAc (oVal (mOp dAdd (oVal (mOp dFdiv (oVar 1) (oVar 5))) (oVal (mK (.int 1))))) mA0))) (gTp [gNm 8, gNm 9]) ([8, 9] : List Nat) mtYes (mTup (mAc (oVal (mOp dMul (oVar 8) (oVar 5))) (mAc (oVal (mVar 9)) mA0))) [.pl p, .pl (.int N), .pl (.int 0), c3, c4, .pl (.int d), .pl (.int r), c7, c8, c9, c10, c11]
      = .ok (.fr (.lst (((eulL K).map (mulq d)).map prD))) [.pl p, .pl (.int N), .pl (.int 0), c3, c4, .pl (.int d), .pl (.int r), c7, c8, c9, c10, c11] := by
  let F : D → Option D := fun x => match x with
    | .tup [.int a, .int b] => some (.tup [.int (a * d), .int b])
    | _ => none
  have e1 : ((eulL K).map prD).filterMap F = ((eulL K).map (mulq d)).map prD := by
    induction eulL K with
    | nil => rfl
    | cons q L ih =>
      rw [List.map_cons, List.filterMap_cons_some (b := prD (mulq d q)) (by show some (D.tup [.int ((q.1 : Int) * (d : Int)), .int q.2]) = some (D.tup [.int ((q.1 * d : Nat) : Int), .int q.2]); rw [Int.natCast_mul]), ih]
      rfl
  have hiter : iSeq (mCallP (df_euler_signs.drop 0) m_euler_signs (mAc (oVal (mOp dAdd (oVal (mOp dFdiv (oVar 1) (oVar 5))) (oVal (mK (.int 1))))) mA0)) [.pl p, .pl (.int N), .pl (.int 0), c3, c4, .pl (.int d), .pl (.int r), c7, c8, c9, c10, c11] = .ok ((eulL K).map prD) [.pl p, .pl (.int N), .pl (.int 0), c3, c4, .pl (.int d), .pl (.int r), c7, c8, c9, c10, c11] := by
    have a1 := mOp_of (f := dFdiv) (a := oVar 1) (b := oVar 5) (ρ := [Cell.pl p, .pl (.int N), .pl (.int 0), c3, c4, .pl (.int d), .pl (.int r), c7, c8, c9, c10, c11]) (oVar_pl rfl) (oVar_pl rfl) (get_slot rfl) (get_slot rfl) (fdiv_nat (k := N) (d := d) (by omega) (by omega))
    have a2 := mOp_of (f := dAdd) (a := oVal (mOp dFdiv (oVar 1) (oVar 5))) (b := oVal (mK (.int 1))) (oVal_of a1) rfl rfl rfl (r := .pl (.int ((N / d + 1 : Nat) : Int))) rfl
    exact iSeq_of (mCallP_of (mAc_of (oVal_of a2) rfl) rfl he) rfl
  have hlen : ((eulL K).map prD).length ≤ lineN := by
    rw [List.length_map, eul_len]
    have hl : lineN = 16777216 := rfl
    omega
  rw [mLc_pure F hiter (by rcases h8 with rfl | ⟨_, rfl⟩ <;> rcases h9 with rfl | ⟨_, rfl⟩ <;> rfl) hlen (fun x hx => ?_), e1]
  obtain ⟨q, hq, rfl⟩ := List.mem_map.mp hx
  obtain ⟨k, k1, k2, k3, k4⟩ := eul_mem K q hq
  have hb : q.1 ≤ 500 := by
    have a1 : g1 k ≤ g2 k := g1_g2 k
    have a2 : g2 k ≤ g2 16 := by unfold g2; exact Nat.div_le_div_right (Nat.mul_le_mul (by omega) (by omega))
    have a3 : g2 16 = 392 := rfl
    omega
  refine ⟨[.pl p, .pl (.int N), .pl (.int 0), c3, c4, .pl (.int d), .pl (.int r), c7, .pl (.int q.1), .pl (.int q.2), c10, c11], [.pl p, .pl (.int N), .pl (.int 0), c3, c4, .pl (.int d), .pl (.int r), c7, .pl (.int q.1), .pl (.int q.2), c10, c11], rfl, rfl, .pl (.tup [.int ((q.1 : Int) * (d : Int)), .int q.2]), [.pl p, .pl (.int N), .pl (.int 0), c3, c4, .pl (.int d), .pl (.int r), c7, .pl (.int q.1), .pl (.int q.2), c10, c11], ?_, rfl, rfl⟩
  exact tup2 (oVal_of (mOp_of (f := dMul) (oVar_pl rfl) (oVar_pl rfl) (get_slot rfl) (get_slot rfl) (mul_int (small_nat (by omega))))) rfl
abbrev facB : MS := sSeq (sSet 7 (mLc (iSeq (mCallP (df_euler_signs.drop 0) m_euler_signs (mAc (oVal (mOp dAdd (oVal (mOp dFdiv (oVar 1) (oVar 5))) (oVal (mK (.int 1))))) mA0))) (gTp [gNm 8, gNm 9]) ([8, 9] : List Nat) mtYes (mTup (mAc (oVal (mOp dMul (oVar 8) (oVar 5))) (mAc (oVal (mVar 9)) mA0))))) (sSeq (sFor (iRangeN 1 (mAc (oVal (mCall dAbs (mAc (oVar 6) mA0))) mA0)) (gNm 10) lapB) sNil)
theorem fac_one {N : Nat} {q : Nat × Int} {F : Nat → Int} {p : D} {c3 c4 c7 c8 c9 c10 c11 : Cell} (hN : N ≤ 400) (h1 : 1 ≤ N) (hd : 1 ≤ q.1) (hd2 : q.1 ≤ 100) (hr : -1000 ≤ q.2 ∧ q.2 ≤ 1000) (h3 : rc N F c3) (h7 : isIo (some c7) = false) (h8 : pc c8) (h9 : pc c9) (h10 : pc c10) :
    ∃ c3' c7' c10', rc N (itF (LP N q) q.2.natAbs F) c3' ∧ isIo (some c7') = false ∧ pc c10' ∧ facB [.pl p, .pl (.int N), .pl (.int 0), c3, c4, .pl (.int q.1), .pl (.int q.2), c7, c8, c9, c10, c11] = .nx [.pl p, .pl (.int N), .pl (.int 0), c3', c4, .pl (.int q.1), .pl (.int q.2), c7', c8, c9, c10', c11] := by
  obtain ⟨K, hK1, hK2, hK3, he⟩ := f_euler (N := N / q.1 + 1) (by have := Nat.div_le_self N q.1; omega)
  have hK : isK (N / q.1 + 1) K := ⟨hK2, hK3⟩
  have h16 := isK_small hK (by have := Nat.div_le_self N q.1; omega)
  obtain ⟨ρ', e1, c3', c7', c10', p3, p7, p10, rfl⟩ := loopF_inv (g := gNm 10) (b := lapB)
    (fun j ρ => ∃ c3 c7 c10, rc N (itF (LP N q) j F) c3 ∧ (c7 = .ow (.lst (((eulL K).map (mulq q.1)).map prD)) ∨ c7 = .pl (.lst (((eulL K).map (mulq q.1)).map prD))) ∧ pc c10 ∧ ρ = [.pl p, .pl (.int N), .pl (.int 0), c3, c4, .pl (.int q.1), .pl (.int q.2), c7, c8, c9, c10, c11]) (rangeD 0 1 q.2.natAbs) 0
    [.pl p, .pl (.int N), .pl (.int 0), c3, c4, .pl (.int q.1), .pl (.int q.2), .ow (.lst (((eulL K).map (mulq q.1)).map prD)), c8, c9, c10, c11] ⟨c3, _, c10, h3, .inl rfl, h10, rfl⟩ (by
      rintro j d ρ hd' ⟨c3, c7, c10, p3, p7, p10, rfl⟩
      obtain ⟨hj, rfl⟩ := rangeD_get hd'
      rw [Nat.zero_add] at p3
      rw [Nat.zero_add, zero_mul1]
      refine ⟨_, ⟨[.pl p, .pl (.int N), .pl (.int 0), c3, c4, .pl (.int q.1), .pl (.int q.2), c7, c8, c9, .pl (.int j), c11], ?_, .inl (lap_one hN h1 hd hd2 hK p3 p7)⟩, _, _, .pl (.int j), .inr rfl, .inr rfl, pc_pl _, rfl⟩
      simp only [sSeq, sNil, sSet, sAsg, sPar, sRet, sRetN, sExpr, sIf, sApp, sSetIx, sAug, sAugIx, sBrk, sCont, putAll, ofR, mVar, mOp, mUn, mIf, mAnd, mOr, mNot, mtB, mtAnd, mtOr, mtNot, mtYes, mCall, mTup, mLst, mAc, mA0, mRc, mR0, mK, oVar, oVal, bindM, ofE, ofT, ofI, ap1, ap2, apL, getAll, vals, Opd.get, Cell.get, ownedAt, isLst, putIx, appTo, setOwn, Cell.setD, RV.d, cellOf, putC, io_un, io_pl, io_ow, gNm, gTp, gAll, pI, pB, List.getElem?_cons_zero, List.getElem?_cons_succ, List.set_cons_succ, List.set_cons_zero, Option.bind_some, Option.map_some, Bool.true_or, Bool.or_true, if_true, reduceIte, Bool.false_eq_true, if_false, List.length_cons, List.length_nil, decide_true, decide_false, decide_eq_true_eq, Nat.reduceAdd, Nat.reduceLeDiff, Nat.zero_add, pc_io p10])
  rw [rangeD_len, Nat.zero_add] at p3
  refine ⟨c3', c7', c10', p3, by rcases p7 with rfl | rfl <;> rfl, p10, ?_⟩
  refine sSeq_nx (sSet_of (sg_comp hN hd hd2 h8 h9 he h16) (by unfold putC; rw [show ([Cell.pl p, .pl (.int N), .pl (.int 0), c3, c4, .pl (.int q.1), .pl (.int q.2), c7, c8, c9, c10, c11] : Env)[7]? = some c7 from rfl, h7]; rfl)) ?_
  refine sSeq_nx (sFor_of (iR1_of (j := (q.2.natAbs : Int)) (os := [.val (.int q.2.natAbs)]) (mAc_of (oVal_of (r := .pl (.int (q.2.natAbs : Int))) (mCall_of (os := [.slot 6]) (ds := [.int q.2]) rfl rfl ?_)) rfl) rfl (smallR_iff.mpr (by omega))) ?_) rfl
  · show some (RV.pl (.int (if q.2 < 0 then -q.2 else q.2))) = _
    congr 3
    split <;> omega
  · rw [Int.toNat_natCast]
    exact e1
theorem fac_out {N : Nat} {p : D} {c4 c11 : Cell} (hN : N ≤ 400) (h1 : 1 ≤ N) : ∀ (ps : List (Nat × Int)) (F : Nat → Int) (c3 c5 c6 c7 c8 c9 c10 : Cell), rc N F c3 → pc c5 → pc c6 → isIo (some c7) = false → pc c8 → pc c9 → pc c10 → (∀ q ∈ ps, okP q ∧ q.1 ≤ 100) →
    ∃ c3' c5' c6' c7' c10', rc N (ps.foldl (fun F q => itF (LP N q) q.2.natAbs F) F) c3' ∧ loopF (gTp [gNm 5, gNm 6]) facB (ps.map prD) [.pl p, .pl (.int N), .pl (.int 0), c3, c4, c5, c6, c7, c8, c9, c10, c11] = .nx [.pl p, .pl (.int N), .pl (.int 0), c3', c4, c5', c6', c7', c8, c9, c10', c11]
  | [], F, c3, c5, c6, c7, c8, c9, c10, h3, _, _, _, _, _, _, _ => ⟨c3, c5, c6, c7, c10, h3, rfl⟩
  | q :: ps, F, c3, c5, c6, c7, c8, c9, c10, h3, h5, h6, h7, h8, h9, h10, ho => by
    obtain ⟨⟨o1, o2, o3, o4⟩, o5⟩ := ho q List.mem_cons_self
    obtain ⟨c3', c7', c10', p3, p7, p10, e⟩ := fac_one (p := p) (c4 := c4) (c11 := c11) hN h1 o1 o5 ⟨o3, o4⟩ h3 h7 h8 h9 h10
    obtain ⟨d3, d5, d6, d7, d10, q3, e2⟩ := fac_out (p := p) (c4 := c4) (c11 := c11) hN h1 ps _ c3' (.pl (.int q.1)) (.pl (.int q.2)) c7' c8 c9 c10' p3 (pc_pl _) (pc_pl _) p7 h8 h9 p10 fun x hx => ho x (List.mem_cons_of_mem _ hx)
    refine ⟨d3, d5, d6, d7, d10, q3, ?_⟩
    rw [← e2, List.map_cons]
    refine loopF_cons ⟨[.pl p, .pl (.int N), .pl (.int 0), c3, c4, .pl (.int q.1), .pl (.int q.2), c7, c8, c9, c10, c11], by simp only [prD, sSeq, sNil, sSet, sAsg, sPar, sRet, sRetN, sExpr, sIf, sApp, sSetIx, sAug, sAugIx, sBrk, sCont, putAll, ofR, mVar, mOp, mUn, mIf, mAnd, mOr, mNot, mtB, mtAnd, mtOr, mtNot, mtYes, mCall, mTup, mLst, mAc, mA0, mRc, mR0, mK, oVar, oVal, bindM, ofE, ofT, ofI, ap1, ap2, apL, getAll, vals, Opd.get, Cell.get, ownedAt, isLst, putIx, appTo, setOwn, Cell.setD, RV.d, cellOf, putC, io_un, io_pl, io_ow, gNm, gTp, gAll, pI, pB, List.getElem?_cons_zero, List.getElem?_cons_succ, List.set_cons_succ, List.set_cons_zero, Option.bind_some, Option.map_some, Bool.true_or, Bool.or_true, if_true, reduceIte, Bool.false_eq_true, if_false, List.length_cons, List.length_nil, decide_true, decide_false, decide_eq_true_eq, Nat.reduceAdd, Nat.reduceLeDiff, Nat.zero_add, pc_io h5, pc_io h6], .inl e⟩
theorem f_by_factors {N : Nat} {ps : List (Nat × Int)} (hN : N ≤ 400) (h1 : 1 ≤ N) (ho : ∀ q ∈ ps, okP q ∧ q.1 ≤ 100) :
    m_by_factors [.pl (.tup (ps.map prD)), .pl (.int N), .pl (.int 0)] = .rt (.pl (.lst (sqD N (bfF N ps)))) [.un, .un, .un] := by
  have sN : smallN N := by unfold smallN; omega
  obtain ⟨c3, c5, c6, c7, c10, h3, e⟩ := fac_out (p := .tup (ps.map prD)) (c4 := .un) (c11 := .un) hN h1 ps dl (.ow (.lst (sqD N dl))) .un .un .un .un .un .un (.inl rfl) pc_un pc_un rfl pc_un pc_un pc_un ho
  have hret : ∀ F, rc N F c3 → mVar 3 [.pl (.tup (ps.map prD)), .pl (.int N), .pl (.int 0), c3, .un, c5, c6, c7, .un, .un, c10, .un] = .ok (.pl (.lst (sqD N F))) [.pl (.tup (ps.map prD)), .pl (.int N), .pl (.int 0), .pl (.lst (sqD N F)), .un, c5, c6, c7, .un, .un, c10, .un] := fun F h => by
    rcases h with rfl | rfl <;> rfl
  refine (mDef_rt (ρ := [.pl (.tup (ps.map prD)), .pl (.int N), .pl (.int 0), .pl (.lst (sqD N (bfF N ps))), .un, c5, c6, c7, .un, .un, c10, .un]) ?_).trans rfl
  refine sSeq_nx (ρ1 := [.pl (.tup (ps.map prD)), .pl (.int N), .pl (.int 0), .ow (.lst (sqD N dl)), .un, .un, .un, .un, .un, .un, .un, .un]) (sSet_of (lc_dl4 (cs := []) sN pc_un) rfl) ?_
  refine sSeq_nx (sFor_of (iSeq_of (r := .pl (.tup (ps.map prD))) rfl rfl) e) ?_
  exact sSeq_rt (sRet_of (hret _ h3))
end L2.MX.Lw
end
section
set_option Elab.async false
set_option linter.all false
set_option maxRecDepth 100000
namespace L2.MX.Lw
open PySem PySem.Spec PyProof.Rows

/-! ### the law's rows -/
def sqB (n : Nat) : Bool := (List.range 60).any fun k => Nat.beq (k * k) n
def chkR (n : Nat) : Bool := match m__law_root [.pl (.int n)] with
  | .rt (.pl d) [.un] => isNon d == !(sqB n)
  | _ => false
theorem chkR_ok {n : Nat} (h : chkR n = true) : ∃ d, m__law_root [.pl (.int n)] = .rt (.pl d) [.un] ∧ isNon d = !(sqB n) := by
  unfold chkR at h
  split at h
  · rename_i d e
    exact ⟨d, e, by simpa using h⟩
  · cases h
theorem rt_a : (List.range 200).all chkR = true := by decide +kernel
theorem rt_b : (List.range 200).all (fun i => chkR (200 + i)) = true := by decide +kernel
theorem rt_c : (List.range 200).all (fun i => chkR (8 * i + 1)) = true := by decide +kernel
theorem rt_d : (List.range 200).all (fun i => chkR (8 * (200 + i) + 1)) = true := by decide +kernel
theorem rt_1 {n : Nat} (h : n < 400) : chkR n = true := by
  by_cases h2 : n < 200
  · exact List.all_eq_true.mp rt_a n (List.mem_range.mpr h2)
  · have := List.all_eq_true.mp rt_b (n - 200) (List.mem_range.mpr (by omega))
    rw [show 200 + (n - 200) = n by omega] at this
    exact this
theorem rt_8 {n : Nat} (h : n < 400) : chkR (8 * n + 1) = true := by
  by_cases h2 : n < 200
  · exact List.all_eq_true.mp rt_c n (List.mem_range.mpr h2)
  · have := List.all_eq_true.mp rt_d (n - 200) (List.mem_range.mpr (by omega))
    rw [show 200 + (n - 200) = n by omega] at this
    exact this
def SQ (n : Nat) : Int := if n = 0 then 1 else if sqB n = true then 2 else 0
theorem f_squares {N : Nat} (hN : N ≤ 400) : m__law_squares [.pl (.int N)] = .rt (.pl (.lst (sqD N SQ))) [.un] ∨ m__law_squares [.pl (.int N)] = .rt (.fr (.lst (sqD N SQ))) [.un] := by
  have sN : smallN N := by unfold smallN; omega
  right
  refine (mDef_rt (ρ := [.pl (.int N), .un]) (sSeq_rt (sRet_of ?_))).trans rfl
  refine mLc_rg (lo := 0) (n := N) (iR1_of (j := N) (os := [.slot 0]) rfl rfl (smallR_nat sN)) rfl (Nat.le_of_lt (small_line sN (Nat.le_refl _))) fun i hi => ?_
  rw [zero_mul1]
  refine ⟨[.pl (.int N), .pl (.int i)], [.pl (.int N), .pl (.int i)], rfl, rfl, .pl (.int (SQ i)), [.pl (.int N), .pl (.int i)], ?_, rfl, rfl⟩
  have e := mtB_of (mOp_of (f := dEq) (a := oVar 1) (b := oVal (mK (.int 0))) (ρ := [Cell.pl (.int N), .pl (.int i)]) (oVar_pl rfl) rfl (get_slot rfl) rfl eq_int)
  rw [nat0] at e
  unfold SQ
  by_cases h0 : i = 0
  · rw [decide_eq_true h0] at e
    rw [if_pos h0]
    exact mIf_t e rfl
  · rw [decide_eq_false h0] at e
    rw [if_neg h0]
    refine mIf_f e ?_
    obtain ⟨d, e1, e2⟩ := chkR_ok (rt_1 (n := i) (by omega))
    have e3 := mtB_of (mOp_of (f := dNotN) (a := oVal (mCallP (df__law_root.drop 0) m__law_root (mAc (oVal (mVar 1)) mA0))) (b := oVal (mK .non)) (ρ := [Cell.pl (.int N), .pl (.int i)]) (oVal_of (mCallP_of (os := [.val (.int i)]) rfl rfl e1)) rfl rfl rfl (show dNotN d .non = some (.pl (.bl (!isNon d))) from by cases d <;> rfl))
    rw [e2, Bool.not_not] at e3
    by_cases hs : sqB i = true
    · rw [hs] at e3
      rw [if_pos hs]
      exact mIf_t e3 rfl
    · have hs' : sqB i = false := by simpa using hs
      rw [hs'] at e3
      rw [if_neg hs]
      exact mIf_f e3 rfl
def sgF (f : Nat → Int) (n : Nat) : Int := if n % 2 = 0 then f n else -f n
theorem enum_sq {N : Nat} {f : Nat → Int} {i : Nat} {x : D} (h : (enumD 0 (sqD N f))[i]? = some x) : i < N ∧ x = .tup [.int (i : Nat), .int (f i)] := by
  have hi : i < N := by
    have := (List.getElem?_eq_some_iff.mp h).1
    rw [enum_len, sq_len] at this
    exact this
  rw [enum_get (sq_get f hi), Nat.zero_add] at h
  exact ⟨hi, (Option.some.inj h).symm⟩
theorem enum_eq (N : Nat) (f : Nat → Int) : enumD 0 (sqD N f) = (List.range N).map fun i => D.tup [.int (i : Nat), .int (f i)] := by
  apply List.ext_getElem?
  intro i
  by_cases hi : i < N
  · rw [enum_get (sq_get f hi), Nat.zero_add, List.getElem?_map, List.getElem?_range hi]
    rfl
  · rw [List.getElem?_eq_none (by rw [enum_len, sq_len]; omega), List.getElem?_eq_none (by simp; omega)]
theorem iEnum_of {args : MA} {ρ ρ1 : Env} {d : D} {ds : List D} (h : args ρ = .ok [.val d] ρ1) (hd : listOf d = some ds) : iEnumM args ρ = .ok (enumD 0 ds) ρ1 := by
  unfold iEnumM bindM
  rw [h]
  simp only [oneVal, Option.bind_some, hd]
theorem f_signed {N : Nat} {f : Nat → Int} (hN : smallN N) : m__law_signed [.pl (.lst (sqD N f))] = .rt (.fr (.lst (sqD N (sgF f)))) [.un] := by
  refine (mDef_rt (ρ := [.pl (.lst (sqD N f)), .un, .un]) (sSeq_rt (sRet_of ?_))).trans rfl
  let F : D → Option D := fun x => match x with
    | .tup [.int a, .int b] => some (.int (if a % 2 = 0 then b else -b))
    | _ => none
  have hF : ∀ i : Nat, F (.tup [.int (i : Nat), .int (f i)]) = some (.int (sgF f i)) := fun i => by
    show some (D.int (if ((i : Nat) : Int) % 2 = 0 then f i else -f i)) = _
    unfold sgF
    by_cases h : i % 2 = 0
    · rw [if_pos h, if_pos (by omega)]
    · rw [if_neg h, if_neg (by omega)]
  have e1 : (enumD 0 (sqD N f)).filterMap F = sqD N (sgF f) := by
    rw [enum_eq]
    unfold sqD
    induction List.range N with
    | nil => rfl
    | cons i l ih => rw [List.map_cons, List.filterMap_cons_some (hF i), ih]; rfl
  rw [← e1]
  refine mLc_pure (ρ1 := [.pl (.lst (sqD N f)), .un, .un]) F (iEnum_of (d := .lst (sqD N f)) rfl rfl) rfl (by rw [enum_len, sq_len]; exact Nat.le_of_lt (small_line hN (Nat.le_refl _))) fun x hx => ?_
  obtain ⟨i, hi⟩ := List.mem_iff_getElem?.mp hx
  obtain ⟨hlt, rfl⟩ := enum_sq hi
  rw [hF]
  refine ⟨[.pl (.lst (sqD N f)), .pl (.int i), .pl (.int (f i))], [.pl (.lst (sqD N f)), .pl (.int i), .pl (.int (f i))], rfl, rfl, .pl (.int (sgF f i)), [.pl (.lst (sqD N f)), .pl (.int i), .pl (.int (f i))], ?_, rfl, rfl⟩
  have hm : dMod (.int (i : Int)) (.int 2) = some (.pl (.int ((i % 2 : Nat) : Int))) := rfl
  have a1 := mOp_of (f := dMod) (a := oVar 1) (b := oVal (mK (.int 2))) (ρ := [Cell.pl (.lst (sqD N f)), .pl (.int i), .pl (.int (f i))]) (oVar_pl rfl) rfl (get_slot rfl) rfl hm
  have a2 := mtB_of (mOp_of (f := dEq) (a := oVal (mOp dMod (oVar 1) (oVal (mK (.int 2))))) (b := oVal (mK (.int 0))) (oVal_of a1) rfl rfl rfl eq_int)
  rw [nat0] at a2
  unfold sgF
  by_cases h : i % 2 = 0
  · rw [decide_eq_true h] at a2
    rw [if_pos h]
    exact mIf_t a2 rfl
  · rw [decide_eq_false h] at a2
    rw [if_neg h]
    exact mIf_f a2 rfl
/-! ### _law_spread -/
def spF (d : Nat) (f : Nat → Int) (n : Nat) : Int := if n % d = 0 then f (n / d) else 0
theorem f_spread {N d : Nat} {f : Nat → Int} (hN : smallN N) (hd : 1 ≤ d) (hd2 : d ≤ 100) : m__law_spread [.pl (.lst (sqD N f)), .pl (.int d), .pl (.int N)] = .rt (.fr (.lst (sqD N (spF d f)))) [.un, .un, .un] := by
  refine (mDef_rt (ρ := [.pl (.lst (sqD N f)), .pl (.int d), .pl (.int N), .un]) (sSeq_rt (sRet_of ?_))).trans rfl
  refine mLc_rg (lo := 0) (n := N) (iR1_of (j := N) (os := [.slot 2]) rfl rfl (smallR_nat hN)) rfl (Nat.le_of_lt (small_line hN (Nat.le_refl _))) fun i hi => ?_
  rw [zero_mul1]
  refine ⟨[.pl (.lst (sqD N f)), .pl (.int d), .pl (.int N), .pl (.int i)], [.pl (.lst (sqD N f)), .pl (.int d), .pl (.int N), .pl (.int i)], rfl, rfl, .pl (.int (spF d f i)), [.pl (.lst (sqD N f)), .pl (.int d), .pl (.int N), .pl (.int i)], ?_, rfl, rfl⟩
  have hm : dMod (.int (i : Int)) (.int (d : Int)) = some (.pl (.int ((i % d : Nat) : Int))) := by
    show (if 0 < (d : Int) then pI ((i : Int) % (d : Int)) else none) = _
    rw [if_pos (by omega)]
    rfl
  have a1 := mOp_of (f := dMod) (a := oVar 3) (b := oVar 1) (ρ := [Cell.pl (.lst (sqD N f)), .pl (.int d), .pl (.int N), .pl (.int i)]) (oVar_pl rfl) (oVar_pl rfl) (get_slot rfl) (get_slot rfl) hm
  have a2 := mtB_of (mOp_of (f := dEq) (a := oVal (mOp dMod (oVar 3) (oVar 1))) (b := oVal (mK (.int 0))) (oVal_of a1) rfl rfl rfl eq_int)
  rw [nat0] at a2
  unfold spF
  by_cases h : i % d = 0
  · rw [decide_eq_true h] at a2
    rw [if_pos h]
    refine mIf_t a2 ?_
    have a3 := mOp_of (f := dFdiv) (a := oVar 3) (b := oVar 1) (ρ := [Cell.pl (.lst (sqD N f)), .pl (.int d), .pl (.int N), .pl (.int i)]) (oVar_pl rfl) (oVar_pl rfl) (get_slot rfl) (get_slot rfl) (fdiv_nat (k := i) (d := d) hd (by omega))
    refine mOp_of (f := dIx) (oVar_pl rfl) (oVal_of a3) (get_slot rfl) rfl ?_
    show (atI (sqD N f) ((i / d : Nat) : Int)).map RV.pl = _
    rw [sq_atI f (Nat.lt_of_le_of_lt (Nat.div_le_self i d) hi)]
    rfl
  · rw [decide_eq_false h] at a2
    rw [if_neg h]
    exact mIf_f a2 rfl
/-! ### _law_two_squares -/
def c4 (d : Nat) : Int := if d % 4 = 1 then 4 else -4
def tsF : Nat → Nat → Int
  | 0 => dl
  | t + 1 => fun m => tsF t m + if (2 * t + 1) ∣ m ∧ 2 * t + 1 ≤ m then c4 (2 * t + 1) else 0
theorem tsF_stop {m : Nat} : ∀ (s t : Nat), m < 2 * t + 1 → tsF (t + s) m = tsF t m
  | 0, t, _ => rfl
  | s + 1, t, h => by
    show tsF (t + s) m + (if (2 * (t + s) + 1) ∣ m ∧ 2 * (t + s) + 1 ≤ m then c4 (2 * (t + s) + 1) else 0) = _
    rw [if_neg (by omega), Int.add_zero, tsF_stop s t h]
theorem ones_zeros {N : Nat} (h : 1 ≤ N) (hN : smallN N) : dAdd (.lst [.int 1]) (.lst (sqD (N - 1) fun _ => 0)) = some (.fr (.lst (sqD N dl))) := by
  have e : [D.int 1] ++ sqD (N - 1) (fun _ => 0) = sqD N dl := by
    apply List.ext_getElem?
    intro i
    cases i with
    | zero => rw [sq_get dl h]; rfl
    | succ i =>
      rw [List.cons_append, List.nil_append, List.getElem?_cons_succ]
      by_cases hi : i + 1 < N
      · rw [sq_get _ hi, sq_get _ (show i < N - 1 by omega)]
        rfl
      · rw [List.getElem?_eq_none (by rw [sq_len]; omega), List.getElem?_eq_none (by rw [sq_len]; omega)]
  have hl : lineN = 16777216 := rfl
  unfold smallN at hN
  show (if [D.int 1].length + (sqD (N - 1) fun _ => 0).length ≤ lineN then some (RV.fr (.lst ([D.int 1] ++ sqD (N - 1) fun _ => 0))) else none) = _
  rw [e, if_pos (by rw [sq_len, hl]; show 1 + (N - 1) ≤ _; omega)]
abbrev tsI : MS := sSeq (sFor (iRangeN 3 (mAc (oVar 2) (mAc (oVar 0) (mAc (oVar 2) mA0)))) (gNm 3) (sSeq (sSetIx 1 (mVar 3) (mOp dAdd (oVal (mOp dIx (oVar 1) (oVar 3))) (oVal (mIf (mtB (mOp dEq (oVal (mOp dMod (oVar 2) (oVal (mK (.int 4))))) (oVal (mK (.int 1))))) (mK (.int 4)) (mUn dNeg (oVal (mK (.int 4)))))))) sNil)) sNil
theorem ts_in {N d : Nat} {F : Nat → Int} {c3 : Cell} (hN : smallN N) (hd : 1 ≤ d) (hd2 : d ≤ 100000) (h3 : pc c3) :
    ∃ c', pc c' ∧ tsI [.pl (.int N), .ow (.lst (sqD N F)), .pl (.int d), c3] = .nx [.pl (.int N), .ow (.lst (sqD N fun m => F m + if d ∣ m ∧ d ≤ m then c4 d else 0)), .pl (.int d), c'] := by
  unfold smallN at hN
  obtain ⟨c', hc', e⟩ := mult_loop (g := gNm 3) (b := sSeq (sSetIx 1 (mVar 3) (mOp dAdd (oVal (mOp dIx (oVar 1) (oVar 3))) (oVal (mIf (mtB (mOp dEq (oVal (mOp dMod (oVar 2) (oVal (mK (.int 4))))) (oVal (mK (.int 1))))) (mK (.int 4)) (mUn dNeg (oVal (mK (.int 4)))))))) sNil) (N := N) hd (fun l c => [.pl (.int N), .ow (.lst l), .pl (.int d), c]) (fun _ => c4 d) F (fun k G c hk _ _ hc => by
    refine ⟨[.pl (.int N), .ow (.lst (sqD N G)), .pl (.int d), .pl (.int k)], by simp only [sSeq, sNil, sSet, sAsg, sPar, sRet, sRetN, sExpr, sIf, sApp, sSetIx, sAug, sAugIx, sBrk, sCont, putAll, ofR, mVar, mOp, mUn, mIf, mAnd, mOr, mNot, mtB, mtAnd, mtOr, mtNot, mtYes, mCall, mTup, mLst, mAc, mA0, mRc, mR0, mK, oVar, oVal, bindM, ofE, ofT, ofI, ap1, ap2, apL, getAll, vals, Opd.get, Cell.get, ownedAt, isLst, putIx, appTo, setOwn, Cell.setD, RV.d, cellOf, putC, io_un, io_pl, io_ow, gNm, gTp, gAll, pI, pB, List.getElem?_cons_zero, List.getElem?_cons_succ, List.set_cons_succ, List.set_cons_zero, Option.bind_some, Option.map_some, Bool.true_or, Bool.or_true, if_true, reduceIte, Bool.false_eq_true, if_false, List.length_cons, List.length_nil, decide_true, decide_false, decide_eq_true_eq, Nat.reduceAdd, Nat.reduceLeDiff, Nat.zero_add, pc_io hc], .inl ?_⟩
    have hm : dMod (.int (d : Int)) (.int 4) = some (.pl (.int ((d % 4 : Nat) : Int))) := rfl
    have a1 := mOp_of (f := dMod) (a := oVar 2) (b := oVal (mK (.int 4))) (ρ := [Cell.pl (.int N), .ow (.lst (sqD N G)), .pl (.int d), .pl (.int k)]) (oVar_pl rfl) rfl (get_slot rfl) rfl hm
    have a2 := mtB_of (mOp_of (f := dEq) (a := oVal (mOp dMod (oVar 2) (oVal (mK (.int 4))))) (b := oVal (mK (.int 1))) (oVal_of a1) rfl rfl rfl eq_int)
    have a3 : mIf (mtB (mOp dEq (oVal (mOp dMod (oVar 2) (oVal (mK (.int 4))))) (oVal (mK (.int 1))))) (mK (.int 4)) (mUn dNeg (oVal (mK (.int 4)))) [Cell.pl (.int N), .ow (.lst (sqD N G)), .pl (.int d), .pl (.int k)] = .ok (.pl (.int (c4 d))) [Cell.pl (.int N), .ow (.lst (sqD N G)), .pl (.int d), .pl (.int k)] := by
      unfold c4
      by_cases h : d % 4 = 1
      · rw [decide_eq_true (show ((d % 4 : Nat) : Int) = 1 by omega)] at a2
        rw [if_pos h]
        exact mIf_t a2 rfl
      · rw [decide_eq_false (show ¬ ((d % 4 : Nat) : Int) = 1 by omega)] at a2
        rw [if_neg h]
        exact mIf_f a2 rfl
    have a4 : mOp dIx (oVar 1) (oVar 3) [Cell.pl (.int N), .ow (.lst (sqD N G)), .pl (.int d), .pl (.int k)] = .ok (.pl (.int (G k))) [Cell.pl (.int N), .ow (.lst (sqD N G)), .pl (.int d), .pl (.int k)] := by
      refine mOp_of (o := .slot 1) (p := .slot 3) rfl rfl rfl rfl ?_
      show (atI (sqD N G) ((k : Nat) : Int)).map RV.pl = _
      rw [sq_atI G hk]
      rfl
    refine sSeq_nx (Eq.trans (sSetIx_of (ds := sqD N G) (z := k) (j := k) (r := .pl (.int (G k + c4 d))) rfl (mOp_of (f := dAdd) (oVal_of a4) (oVal_of a3) rfl rfl rfl) rfl (by rw [sq_len]; exact ixN_nat hk)) ?_) rfl
    rw [show (RV.pl (D.int (G k + c4 d))).d = D.int (G k + c4 d) from rfl, sq_set]
    rfl) h3
  exact ⟨c', hc', sSeq_nx (sFor_of (iR3_of (i := d) (j := N) (c := d) (os := [.slot 2, .slot 0, .slot 2]) rfl rfl (by omega) (by omega) hd (by omega)) e) rfl⟩
theorem f_two {N : Nat} (h1 : 1 ≤ N) (hN : N ≤ 400) : m__law_two_squares [.pl (.int N)] = .rt (.pl (.lst (sqD N (tsF 200)))) [.un] := by
  have sN : smallN N := by unfold smallN; omega
  obtain ⟨ρ', e1, c2, c3, p2, p3, rfl⟩ := loopF_inv (g := gNm 2) (b := tsI)
    (fun t ρ => ∃ c2 c3, pc c2 ∧ pc c3 ∧ ρ = [.pl (.int N), .ow (.lst (sqD N (tsF t))), c2, c3]) (rangeD (1 : Nat) (2 : Nat) (rn3 1 N 2)) 0
    [.pl (.int N), .ow (.lst (sqD N (tsF 0))), .un, .un] ⟨.un, .un, pc_un, pc_un, rfl⟩ (by
      rintro t d ρ hd ⟨c2, c3, p2, p3, rfl⟩
      obtain ⟨ht, rfl⟩ := rangeD_get hd
      have hlt := (rn3_iff (i := 1) (j := N) (c := 2) (t := t) (by decide)).mp ht
      rw [Nat.zero_add]
      have e0 : ((1 : Nat) : Int) + (t : Nat) * ((2 : Nat) : Int) = ((2 * t + 1 : Nat) : Int) := by omega
      rw [e0]
      obtain ⟨c', hc', e⟩ := ts_in (N := N) (d := 2 * t + 1) (F := tsF t) sN (by omega) (by omega) p3
      exact ⟨_, ⟨[.pl (.int N), .ow (.lst (sqD N (tsF t))), .pl (.int ((2 * t + 1 : Nat) : Int)), c3], by simp only [sSeq, sNil, sSet, sAsg, sPar, sRet, sRetN, sExpr, sIf, sApp, sSetIx, sAug, sAugIx, sBrk, sCont, putAll, ofR, mVar, mOp, mUn, mIf, mAnd, mOr, mNot, mtB, mtAnd, mtOr, mtNot, mtYes, mCall, mTup, mLst, mAc, mA0, mRc, mR0, mK, oVar, oVal, bindM, ofE, ofT, ofI, ap1, ap2, apL, getAll, vals, Opd.get, Cell.get, ownedAt, isLst, putIx, appTo, setOwn, Cell.setD, RV.d, cellOf, putC, io_un, io_pl, io_ow, gNm, gTp, gAll, pI, pB, List.getElem?_cons_zero, List.getElem?_cons_succ, List.set_cons_succ, List.set_cons_zero, Option.bind_some, Option.map_some, Bool.true_or, Bool.or_true, if_true, reduceIte, Bool.false_eq_true, if_false, List.length_cons, List.length_nil, decide_true, decide_false, decide_eq_true_eq, Nat.reduceAdd, Nat.reduceLeDiff, Nat.zero_add, pc_io p2], .inl e⟩, .pl (.int ((2 * t + 1 : Nat) : Int)), c', pc_pl _, hc', rfl⟩)
  rw [rangeD_len, Nat.zero_add] at e1
  have e3 : sqD N (tsF (rn3 1 N 2)) = sqD N (tsF 200) := sq_congr fun i hi => by
    have hn := (not_congr (rn3_iff (i := 1) (j := N) (c := 2) (t := rn3 1 N 2) (by decide))).mp (by omega)
    have hle : rn3 1 N 2 ≤ 200 := by
      by_cases h : rn3 1 N 2 ≤ 200
      · exact h
      · have := (rn3_iff (i := 1) (j := N) (c := 2) (t := 200) (by decide)).mp (by omega)
        omega
    have := tsF_stop (m := i) (200 - rn3 1 N 2) (rn3 1 N 2) (by omega)
    rw [show rn3 1 N 2 + (200 - rn3 1 N 2) = 200 by omega] at this
    exact this.symm
  rw [e3] at e1
  refine (mDef_rt (ρ := [.pl (.int N), .pl (.lst (sqD N (tsF 200))), c2, c3]) ?_).trans rfl
  have z1 : (N : Int) - 1 = ((N - 1 : Nat) : Int) := by omega
  have b1 := mOp_of (f := dSub) (a := oVar 0) (b := oVal (mK (.int 1))) (ρ := [Cell.pl (.int N), .un, .un, .un]) (oVar_pl rfl) rfl (get_slot rfl) rfl (r := .pl (.int ((N - 1 : Nat) : Int))) (by rw [← z1]; rfl)
  have b2 := mOp_of (f := dMul) (a := oVal (mLst (mAc (oVal (mK (.int 0))) mA0))) (ρ := [Cell.pl (.int N), .un, .un, .un]) (oVal_of (r := .fr (.lst [.int 0])) rfl) (oVal_of b1) rfl rfl (mul_zero (N := N - 1) (x := 0) (by unfold smallN; omega))
  have b3 := mOp_of (f := dAdd) (a := oVal (mLst (mAc (oVal (mK (.int 1))) mA0))) (ρ := [Cell.pl (.int N), .un, .un, .un]) (oVal_of (r := .fr (.lst [.int 1])) rfl) (oVal_of b2) rfl rfl (ones_zeros h1 sN)
  refine sSeq_nx (ρ1 := [.pl (.int N), .ow (.lst (sqD N (tsF 0))), .un, .un]) (sSet_of b3 rfl) ?_
  refine sSeq_nx (sFor_of (iR3_of (i := 1) (j := N) (c := 2) (os := [.val (.int 1), .slot 0, .val (.int 2)]) rfl rfl (by omega) (by omega) (by decide) (by decide)) e1) ?_
  exact sSeq_rt (sRet_of rfl)
end L2.MX.Lw
end
section
set_option Elab.async false
set_option linter.all false
set_option maxRecDepth 100000
namespace L2.MX.Lw
open PySem PySem.Spec PyProof.Rows
/-! ### _law_parts -/
theorem set_more {N : Nat} {R : List (Nat × Int)} (hR : ∀ q ∈ R, N ≤ q.1) : ∀ (F : Nat → Int) (i : Nat), i < N → R.foldl setF F i = F i := by
  induction R with
  | nil => exact fun F i _ => rfl
  | cons q R ih =>
    intro F i hi
    rw [List.foldl_cons, ih (fun x hx => hR x (List.mem_cons_of_mem _ hx)) _ i hi]
    have := hR q List.mem_cons_self
    show (if i = q.1 then q.2 else F i) = F i
    rw [if_neg (by omega)]
abbrev EP : Nat → Int := eF 17
theorem eF_agree {N K : Nat} (h : isK N K) (hN : N ≤ 400) {i : Nat} (hi : i < N) : eF K i = EP i := by
  have h16 := isK_small h (by omega)
  obtain ⟨R, e, hR⟩ := eul_split (17 - K) K
  rw [show K + (17 - K) = 17 by omega] at e
  show eF K i = (eulL 17).foldl setF dl i
  rw [e, List.foldl_append]
  exact (set_more (fun q hq => Nat.le_trans h.2 (hR q hq)) _ i hi).symm
theorem fold_small : ∀ (L : List (Nat × Int)) (F : Nat → Int), (∀ q ∈ L, smallI q.2 = true) → (∀ i, smallI (F i) = true) → ∀ i, smallI (L.foldl setF F i) = true
  | [], F, _, h, i => h i
  | q :: L, F, hq, h, i => by
    refine fold_small L (setF F q) (fun x hx => hq x (List.mem_cons_of_mem _ hx)) (fun j => ?_) i
    show smallI (if j = q.1 then q.2 else F j) = true
    by_cases e : j = q.1
    · rw [if_pos e]; exact hq q List.mem_cons_self
    · rw [if_neg e]; exact h j
theorem eF_small (K i : Nat) : smallI (eF K i) = true := by
  refine fold_small _ _ (fun q hq => ?_) (fun j => ?_) i
  · obtain ⟨k, _, _, _, e⟩ := eul_mem K q hq
    rw [e]; exact sgn_small k
  · unfold dl
    by_cases h : j = 0
    · rw [if_pos h]; decide
    · rw [if_neg h]; decide
def thL (N : Nat) (e : Nat → Int) : List (Nat × Int) := (List.range N).filterMap fun i => if e i ≠ 0 ∧ 0 < i then some (i, e i) else none
theorem thL_mem {N : Nat} {e : Nat → Int} {q : Nat × Int} (h : q ∈ thL N e) : q.1 < N ∧ q.2 = e q.1 ∧ 0 < q.1 := by
  obtain ⟨i, hi, h⟩ := List.mem_filterMap.mp h
  split at h
  · rename_i c
    cases h
    exact ⟨List.mem_range.mp hi, rfl, c.2⟩
  · cases h
theorem thL_filter {m : Nat} {e : Nat → Int} : ∀ b, (thL (m + 1 + b) e).filter (fun q => decide (q.1 ≤ m)) = thL (m + 1) e
  | 0 => by
    refine List.filter_eq_self.mpr fun q hq => ?_
    have := (thL_mem hq).1
    exact decide_eq_true (by omega)
  | b + 1 => by
    have e1 : thL (m + 1 + (b + 1)) e = thL (m + 1 + b) e ++ (if e (m + 1 + b) ≠ 0 ∧ 0 < m + 1 + b then [(m + 1 + b, e (m + 1 + b))] else []) := by
      unfold thL
      rw [show m + 1 + (b + 1) = (m + 1 + b) + 1 by omega, List.range_succ, List.filterMap_append]
      congr 1
      by_cases h : e (m + 1 + b) ≠ 0 ∧ 0 < m + 1 + b
      · rw [if_pos h, List.filterMap_cons_some (b := (m + 1 + b, e (m + 1 + b))) (by rw [if_pos h])]
        rfl
      · rw [if_neg h, List.filterMap_cons_none (by rw [if_neg h])]
        rfl
    rw [e1, List.filter_append, thL_filter b]
    have e2 : (if e (m + 1 + b) ≠ 0 ∧ 0 < m + 1 + b then [(m + 1 + b, e (m + 1 + b))] else []).filter (fun q : Nat × Int => decide (q.1 ≤ m)) = [] := by
      by_cases h : e (m + 1 + b) ≠ 0 ∧ 0 < m + 1 + b
      · rw [if_pos h, List.filter_cons_of_neg (by simp; omega)]
        rfl
      · rw [if_neg h]; rfl
    rw [e2, List.append_nil]
def ptV (L : List (Nat × Int)) (R : Nat → Int) (n : Nat) : Int := if n = 0 then 1 else -(((L.filter fun q => decide (q.1 ≤ n)).map fun q => q.2 * R (n - q.1)).sum)
def pt (L : List (Nat × Int)) : Nat → Nat → Int
  | 0 => fun _ => 0
  | n + 1 => updF (pt L n) n (ptV L (pt L n) n)
theorem pt_congr {L L' : List (Nat × Int)} : ∀ n, (∀ m, m < n → L.filter (fun q => decide (q.1 ≤ m)) = L'.filter fun q => decide (q.1 ≤ m)) → pt L n = pt L' n
  | 0, _ => rfl
  | n + 1, h => by
    have ih := pt_congr n fun m hm => h m (by omega)
    show updF (pt L n) n (ptV L (pt L n) n) = updF (pt L' n) n (ptV L' (pt L' n) n)
    rw [ih]
    unfold ptV
    rw [h n (by omega)]
theorem fm_congr {α β : Type} {f g : α → Option β} : ∀ {l : List α}, (∀ x ∈ l, f x = g x) → l.filterMap f = l.filterMap g
  | [], _ => rfl
  | a :: l, h => by
    have ih := fm_congr (f := f) (g := g) (l := l) fun x hx => h x (List.mem_cons_of_mem _ hx)
    have h0 := h a List.mem_cons_self
    cases q : g a with
    | none => rw [List.filterMap_cons_none (h0.trans q), List.filterMap_cons_none q, ih]
    | some b => rw [List.filterMap_cons_some (h0.trans q), List.filterMap_cons_some q, ih]
theorem pt_any {N K : Nat} (h : isK N K) (hN : N ≤ 400) : pt (thL N (eF K)) N = pt (thL 400 EP) N := by
  refine pt_congr N fun m hm => ?_
  have e1 := thL_filter (m := m) (e := eF K) (N - (m + 1))
  have e2 := thL_filter (m := m) (e := EP) (400 - (m + 1))
  rw [show m + 1 + (N - (m + 1)) = N by omega] at e1
  rw [show m + 1 + (400 - (m + 1)) = 400 by omega] at e2
  rw [e1, e2]
  unfold thL
  refine fm_congr fun i hi => ?_
  have := List.mem_range.mp hi
  rw [eF_agree h hN (i := i) (by omega)]
theorem ints_map : ∀ l : List Int, intsOf (l.map D.int) = some l
  | [] => rfl
  | a :: l => by
    show (intsOf (l.map D.int)).map (fun ns => a :: ns) = _
    rw [ints_map l]
    rfl
abbrev thM : M := mLc (iEnumM (mAc (oVal (mCallP (df__law_pentagons.drop 0) m__law_pentagons (mAc (oVal (mVar 0)) mA0))) mA0)) (gTp [(gNm 3), (gNm 4)]) ([3, 4] : List Nat) (mtAnd (mtB (mOp dNe (oVar 4) (oVal (mK (.int 0))))) (mtB (mOp dGt (oVar 3) (oVal (mK (.int 0)))))) (mTup (mAc (oVal (mVar 3)) (mAc (oVal (mVar 4)) mA0)))
theorem th_comp {N K : Nat} (h0 : 1 ≤ N) (hN : N ≤ 3000) (hK : isK N K) : thM [.pl (.int N), .un, .un, .un, .un, .un] = .ok (.fr (.lst ((thL N (eF K)).map prD))) [.pl (.int N), .un, .un, .un, .un, .un] := by
  have sN : smallN N := by unfold smallN; omega
  let F : D → Option D := fun x => match x with
    | .tup [.int a, .int b] => if b ≠ 0 ∧ 0 < a then some (.tup [.int a, .int b]) else none
    | _ => none
  have hF : ∀ i : Nat, F (.tup [.int (i : Nat), .int (eF K i)]) = if eF K i ≠ 0 ∧ 0 < i then some (prD (i, eF K i)) else none := fun i => by
    show (if eF K i ≠ 0 ∧ 0 < ((i : Nat) : Int) then some (D.tup [.int (i : Nat), .int (eF K i)]) else none) = _
    by_cases h : eF K i ≠ 0 ∧ 0 < i
    · rw [if_pos h, if_pos ⟨h.1, by omega⟩]
      rfl
    · rw [if_neg h, if_neg (fun z => h ⟨z.1, by omega⟩)]
  have e1 : (enumD 0 (sqD N (eF K))).filterMap F = (thL N (eF K)).map prD := by
    rw [enum_eq]
    unfold thL
    induction List.range N with
    | nil => rfl
    | cons i l ih =>
      rw [List.map_cons]
      by_cases h : eF K i ≠ 0 ∧ 0 < i
      · rw [List.filterMap_cons_some (b := prD (i, eF K i)) (by rw [hF, if_pos h]), ih, List.filterMap_cons_some (b := (i, eF K i)) (by rw [if_pos h])]
        rfl
      · rw [List.filterMap_cons_none (by rw [hF, if_neg h]), ih, List.filterMap_cons_none (by rw [if_neg h])]
  rw [← e1]
  have hcall : mCallP (df__law_pentagons.drop 0) m__law_pentagons (mAc (oVal (mVar 0)) mA0) [.pl (.int N), .un, .un, .un, .un, .un] = .ok (.pl (.lst (sqD N (eF K)))) [.pl (.int N), .un, .un, .un, .un, .un] := mCallP_of (os := [.val (.int N)]) (outs := [.un]) rfl rfl (f_pent h0 hN hK)
  have hargs : mAc (oVal (mCallP (df__law_pentagons.drop 0) m__law_pentagons (mAc (oVal (mVar 0)) mA0))) mA0 [.pl (.int N), .un, .un, .un, .un, .un] = .ok [.val (.lst (sqD N (eF K)))] [.pl (.int N), .un, .un, .un, .un, .un] := mAc_of (oVal_of hcall) rfl
  refine mLc_pure (ρ1 := [.pl (.int N), .un, .un, .un, .un, .un]) F (iEnum_of hargs rfl) rfl (by rw [enum_len, sq_len]; exact Nat.le_of_lt (small_line sN (Nat.le_refl _))) fun x hx => ?_
  obtain ⟨i, hi⟩ := List.mem_iff_getElem?.mp hx
  obtain ⟨hlt, rfl⟩ := enum_sq hi
  rw [hF]
  have a1 := mtB_of (mOp_of (f := dNe) (a := oVar 4) (b := oVal (mK (.int 0))) (ρ := [Cell.pl (.int N), .un, .un, .pl (.int i), .pl (.int (eF K i)), .un]) (oVar_pl rfl) rfl (get_slot rfl) rfl ne_int)
  have a2 := mtB_of (mOp_of (f := dGt) (a := oVar 3) (b := oVal (mK (.int 0))) (ρ := [Cell.pl (.int N), .un, .un, .pl (.int i), .pl (.int (eF K i)), .un]) (oVar_pl rfl) rfl (get_slot rfl) rfl (show dGt (.int (i : Int)) (.int 0) = some (.pl (.bl (decide ((0 : Int) < (i : Int))))) from rfl))
  refine ⟨[.pl (.int N), .un, .un, .pl (.int i), .pl (.int (eF K i)), .un], [.pl (.int N), .un, .un, .pl (.int i), .pl (.int (eF K i)), .un], rfl, ?_⟩
  by_cases h : eF K i ≠ 0 ∧ 0 < i
  · rw [if_pos h]
    rw [decide_eq_false h.1] at a1
    rw [decide_eq_true (show (0 : Int) < (i : Int) by omega)] at a2
    exact ⟨mtAnd_t a1 a2, .pl (prD (i, eF K i)), [.pl (.int N), .un, .un, .pl (.int i), .pl (.int (eF K i)), .un], tup2 rfl rfl, rfl, rfl⟩
  · rw [if_neg h]
    refine ⟨?_, rfl⟩
    by_cases h1 : eF K i = 0
    · rw [decide_eq_true h1] at a1
      exact mtAnd_f a1
    · rw [decide_eq_false h1] at a1
      rw [decide_eq_false (show ¬ (0 : Int) < (i : Int) by omega)] at a2
      exact mtAnd_t a1 a2
abbrev ptM : M := mLc (iSeq (mVar 1)) (gTp [(gNm 3), (gNm 4)]) ([3, 4] : List Nat) (mtB (mOp dLe (oVar 3) (oVar 5))) (mOp dMul (oVar 4) (oVal (mOp dIx (oVar 2) (oVal (mOp dSub (oVar 5) (oVar 3))))))
theorem pt_comp {N n : Nat} {L : List (Nat × Int)} {R : Nat → Int} {c1 : Cell} (h1 : c1 = .ow (.lst (L.map prD)) ∨ c1 = .pl (.lst (L.map prD))) (hL : ∀ q ∈ L, smallI q.2 = true ∧ 0 < q.1) (hl : L.length ≤ lineN) :
    ptM [.pl (.int N), c1, .ow (.lst (sqD n R)), .un, .un, .pl (.int n)] = .ok (.fr (.lst (((L.filter fun q => decide (q.1 ≤ n)).map fun q => q.2 * R (n - q.1)).map D.int))) [.pl (.int N), .pl (.lst (L.map prD)), .ow (.lst (sqD n R)), .un, .un, .pl (.int n)] := by
  let F : D → Option D := fun x => match x with
    | .tup [.int a, .int b] => if a ≤ n then some (.int (b * R (n - a.toNat))) else none
    | _ => none
  have hF : ∀ q : Nat × Int, F (prD q) = if q.1 ≤ n then some (.int (q.2 * R (n - q.1))) else none := fun q => by
    show (if ((q.1 : Nat) : Int) ≤ (n : Int) then some (D.int (q.2 * R (n - ((q.1 : Nat) : Int).toNat))) else none) = _
    rw [Int.toNat_natCast]
    by_cases h : q.1 ≤ n
    · rw [if_pos h, if_pos (by omega)]
    · rw [if_neg h, if_neg (by omega)]
  have e1 : (L.map prD).filterMap F = ((L.filter fun q => decide (q.1 ≤ n)).map fun q => q.2 * R (n - q.1)).map D.int := by
    clear hL hl h1
    induction L with
    | nil => rfl
    | cons q l ih =>
      rw [List.map_cons]
      by_cases h : q.1 ≤ n
      · rw [List.filterMap_cons_some (b := .int (q.2 * R (n - q.1))) (by rw [hF, if_pos h]), ih, List.filter_cons_of_pos (by simpa using h)]
        rfl
      · rw [List.filterMap_cons_none (by rw [hF, if_neg h]), ih, List.filter_cons_of_neg (by simpa using h)]
  rw [← e1]
  refine mLc_pure F (iSeq_of (r := .pl (.lst (L.map prD))) (ρ1 := [.pl (.int N), .pl (.lst (L.map prD)), .ow (.lst (sqD n R)), .un, .un, .pl (.int n)]) (by rcases h1 with rfl | rfl <;> rfl) rfl) rfl (by rw [List.length_map]; exact hl) fun x hx => ?_
  obtain ⟨q, hq, rfl⟩ := List.mem_map.mp hx
  rw [hF]
  have a1 := mtB_of (mOp_of (f := dLe) (a := oVar 3) (b := oVar 5) (ρ := [Cell.pl (.int N), .pl (.lst (L.map prD)), .ow (.lst (sqD n R)), .pl (.int q.1), .pl (.int q.2), .pl (.int n)]) (oVar_pl rfl) (oVar_pl rfl) (get_slot rfl) (get_slot rfl) (show dLe (.int (q.1 : Int)) (.int (n : Int)) = some (.pl (.bl (decide ((q.1 : Int) ≤ (n : Int))))) from rfl))
  refine ⟨[.pl (.int N), .pl (.lst (L.map prD)), .ow (.lst (sqD n R)), .pl (.int q.1), .pl (.int q.2), .pl (.int n)], [.pl (.int N), .pl (.lst (L.map prD)), .ow (.lst (sqD n R)), .pl (.int q.1), .pl (.int q.2), .pl (.int n)], rfl, ?_⟩
  by_cases h : q.1 ≤ n
  · rw [if_pos h]
    rw [decide_eq_true (show (q.1 : Int) ≤ (n : Int) by omega)] at a1
    refine ⟨a1, .pl (.int (q.2 * R (n - q.1))), [.pl (.int N), .pl (.lst (L.map prD)), .ow (.lst (sqD n R)), .pl (.int q.1), .pl (.int q.2), .pl (.int n)], ?_, rfl, rfl⟩
    have e3 : (n : Int) - (q.1 : Int) = ((n - q.1 : Nat) : Int) := by omega
    have a2 := mOp_of (f := dSub) (a := oVar 5) (b := oVar 3) (ρ := [Cell.pl (.int N), .pl (.lst (L.map prD)), .ow (.lst (sqD n R)), .pl (.int q.1), .pl (.int q.2), .pl (.int n)]) (oVar_pl rfl) (oVar_pl rfl) (get_slot rfl) (get_slot rfl) (r := .pl (.int ((n - q.1 : Nat) : Int))) (by rw [← e3]; rfl)
    have a3 : mOp dIx (oVar 2) (oVal (mOp dSub (oVar 5) (oVar 3))) [Cell.pl (.int N), .pl (.lst (L.map prD)), .ow (.lst (sqD n R)), .pl (.int q.1), .pl (.int q.2), .pl (.int n)] = .ok (.pl (.int (R (n - q.1)))) [Cell.pl (.int N), .pl (.lst (L.map prD)), .ow (.lst (sqD n R)), .pl (.int q.1), .pl (.int q.2), .pl (.int n)] := by
      refine mOp_of (o := .slot 2) rfl (oVal_of a2) rfl rfl ?_
      show (atI (sqD n R) ((n - q.1 : Nat) : Int)).map RV.pl = _
      have := (hL q hq).2
      rw [sq_atI R (show n - q.1 < n by omega)]
      rfl
    exact mOp_of (f := dMul) (oVar_pl rfl) (oVal_of a3) (get_slot rfl) rfl (mul_int (hL q hq).1)
  · rw [if_neg h]
    rw [decide_eq_false (show ¬ (q.1 : Int) ≤ (n : Int) by omega)] at a1
    exact ⟨a1, rfl⟩
abbrev ptB : MS := sSeq (sApp 2 (mIf (mtB (mOp dEq (oVar 5) (oVal (mK (.int 0))))) (mK (.int 1)) (mUn dNeg (oVal (mCall dSum (mAc (oVal ptM) mA0)))))) sNil
theorem pt_turn {N n : Nat} {L : List (Nat × Int)} {R : Nat → Int} {c1 c5 : Cell} (h1 : c1 = .ow (.lst (L.map prD)) ∨ c1 = .pl (.lst (L.map prD))) (hL : ∀ q ∈ L, smallI q.2 = true ∧ 0 < q.1) (hl : L.length ≤ lineN) (hn : n < lineN) (h5 : pc c5) :
    ∃ c1', (c1' = .ow (.lst (L.map prD)) ∨ c1' = .pl (.lst (L.map prD))) ∧ Turn (gNm 5) ptB (.int n) [.pl (.int N), c1, .ow (.lst (sqD n R)), .un, .un, c5] [.pl (.int N), c1', .ow (.lst (sqD (n + 1) (updF R n (ptV L R n)))), .un, .un, .pl (.int n)] := by
  have e := mtB_of (mOp_of (f := dEq) (a := oVar 5) (b := oVal (mK (.int 0))) (ρ := [Cell.pl (.int N), c1, .ow (.lst (sqD n R)), .un, .un, .pl (.int n)]) (oVar_pl rfl) rfl (get_slot rfl) rfl eq_int)
  rw [nat0] at e
  by_cases h0 : n = 0
  · rw [decide_eq_true h0] at e
    refine ⟨c1, h1, [.pl (.int N), c1, .ow (.lst (sqD n R)), .un, .un, .pl (.int n)], by simp only [sSeq, sNil, sSet, sAsg, sPar, sRet, sRetN, sExpr, sIf, sApp, sSetIx, sAug, sAugIx, sBrk, sCont, putAll, ofR, mVar, mOp, mUn, mIf, mAnd, mOr, mNot, mtB, mtAnd, mtOr, mtNot, mtYes, mCall, mTup, mLst, mAc, mA0, mRc, mR0, mK, oVar, oVal, bindM, ofE, ofT, ofI, ap1, ap2, apL, getAll, vals, Opd.get, Cell.get, ownedAt, isLst, putIx, appTo, setOwn, Cell.setD, RV.d, cellOf, putC, io_un, io_pl, io_ow, gNm, gTp, gAll, pI, pB, List.getElem?_cons_zero, List.getElem?_cons_succ, List.set_cons_succ, List.set_cons_zero, Option.bind_some, Option.map_some, Bool.true_or, Bool.or_true, if_true, reduceIte, Bool.false_eq_true, if_false, List.length_cons, List.length_nil, decide_true, decide_false, decide_eq_true_eq, Nat.reduceAdd, Nat.reduceLeDiff, Nat.zero_add, pc_io h5], .inl (sSeq_nx (Eq.trans (sApp_of (ds0 := sqD n R) (ds := sqD n R) (r := .pl (.int 1)) rfl (mIf_t e rfl) rfl (by rw [sq_len]; exact hn)) ?_) rfl)⟩
    rw [show (RV.pl (D.int 1)).d = D.int (ptV L R n) by unfold ptV; rw [if_pos h0]; rfl, sq_up]
    rfl
  · rw [decide_eq_false h0] at e
    have hc := pt_comp (N := N) (n := n) (R := R) h1 hL hl
    refine ⟨.pl (.lst (L.map prD)), .inr rfl, [.pl (.int N), c1, .ow (.lst (sqD n R)), .un, .un, .pl (.int n)], by simp only [sSeq, sNil, sSet, sAsg, sPar, sRet, sRetN, sExpr, sIf, sApp, sSetIx, sAug, sAugIx, sBrk, sCont, putAll, ofR, mVar, mOp, mUn, mIf, mAnd, mOr, mNot, mtB, mtAnd, mtOr, mtNot, mtYes, mCall, mTup, mLst, mAc, mA0, mRc, mR0, mK, oVar, oVal, bindM, ofE, ofT, ofI, ap1, ap2, apL, getAll, vals, Opd.get, Cell.get, ownedAt, isLst, putIx, appTo, setOwn, Cell.setD, RV.d, cellOf, putC, io_un, io_pl, io_ow, gNm, gTp, gAll, pI, pB, List.getElem?_cons_zero, List.getElem?_cons_succ, List.set_cons_succ, List.set_cons_zero, Option.bind_some, Option.map_some, Bool.true_or, Bool.or_true, if_true, reduceIte, Bool.false_eq_true, if_false, List.length_cons, List.length_nil, decide_true, decide_false, decide_eq_true_eq, Nat.reduceAdd, Nat.reduceLeDiff, Nat.zero_add, pc_io h5], .inl (sSeq_nx (Eq.trans (sApp_of (ρ1 := [.pl (.int N), .pl (.lst (L.map prD)), .ow (.lst (sqD n R)), .un, .un, .pl (.int n)]) (ds0 := sqD n R) (ds := sqD n R) (r := .pl (.int (ptV L R n))) rfl (mIf_f e ?_) rfl (by rw [sq_len]; exact hn)) ?_) rfl)⟩
    · have hs : mCall dSum (mAc (oVal ptM) mA0) [.pl (.int N), c1, .ow (.lst (sqD n R)), .un, .un, .pl (.int n)] = .ok (.pl (.int (((L.filter fun q => decide (q.1 ≤ n)).map fun q => q.2 * R (n - q.1)).sum))) [.pl (.int N), .pl (.lst (L.map prD)), .ow (.lst (sqD n R)), .un, .un, .pl (.int n)] :=
        mCall_of (os := [.val (.lst (((L.filter fun q => decide (q.1 ≤ n)).map fun q : Nat × Int => q.2 * R (n - q.1)).map D.int))]) (mAc_of (oVal_of hc) rfl) rfl (by
          show (intsOf _).bind (fun ns => pI ns.sum) = _
          rw [ints_map]
          rfl)
      have hv : ptV L R n = -(((L.filter fun q => decide (q.1 ≤ n)).map fun q => q.2 * R (n - q.1)).sum) := by unfold ptV; rw [if_neg h0]
      rw [hv]
      exact mUn_of (oVal_of hs) rfl rfl
    · rw [show (RV.pl (D.int (ptV L R n))).d = D.int (ptV L R n) from rfl, sq_up]
      rfl
theorem f_parts {N K : Nat} (h0 : 1 ≤ N) (hN : N ≤ 400) (hK : isK N K) : m__law_parts [.pl (.int N)] = .rt (.pl (.lst (sqD N (pt (thL 400 EP) N)))) [.un] := by
  have sN : smallN N := by unfold smallN; omega
  rw [← pt_any hK hN]
  have hL : ∀ q ∈ thL N (eF K), smallI q.2 = true ∧ 0 < q.1 := fun q hq => by
    obtain ⟨_, e, h⟩ := thL_mem hq
    exact ⟨by rw [e]; exact eF_small K _, h⟩
  have hl : (thL N (eF K)).length ≤ lineN := by
    have : (thL N (eF K)).length ≤ N := by
      unfold thL
      have := List.length_filterMap_le (fun i => if eF K i ≠ 0 ∧ 0 < i then some (i, eF K i) else none) (List.range N)
      rw [List.length_range] at this
      exact this
    exact Nat.le_trans this (Nat.le_of_lt (small_line sN (Nat.le_refl _)))
  have hth := th_comp h0 (by omega) hK
  generalize hLL : thL N (eF K) = L at hL hl hth ⊢
  obtain ⟨ρ', e1, c1, c5, p1, p5, rfl⟩ := loopF_inv (g := gNm 5) (b := ptB)
    (fun n ρ => ∃ c1 c5, (c1 = .ow (.lst (L.map prD)) ∨ c1 = .pl (.lst (L.map prD))) ∧ pc c5 ∧ ρ = [.pl (.int N), c1, .ow (.lst (sqD n (pt L n))), .un, .un, c5]) (rangeD 0 1 N) 0
    [.pl (.int N), .ow (.lst (L.map prD)), .ow (.lst []), .un, .un, .un] ⟨_, .un, .inl rfl, pc_un, rfl⟩ (by
      rintro n d ρ hd ⟨c1, c5, p1, p5, rfl⟩
      obtain ⟨hn, rfl⟩ := rangeD_get hd
      rw [Nat.zero_add, zero_mul1]
      obtain ⟨c1', q1, t⟩ := pt_turn (N := N) (n := n) (R := pt L n) p1 hL hl (small_line sN (by omega)) p5
      exact ⟨_, t, c1', .pl (.int n), q1, pc_pl _, rfl⟩)
  rw [rangeD_len, Nat.zero_add] at e1
  refine (mDef_rt (ρ := [.pl (.int N), c1, .pl (.lst (sqD N (pt L N))), .un, .un, c5]) ?_).trans rfl
  refine sSeq_nx (ρ1 := [.pl (.int N), .ow (.lst (L.map prD)), .ow (.lst []), .un, .un, .un]) (sPar_of (mRc_of hth (mRc_of (mLst0 _) rfl)) rfl) ?_
  refine sSeq_nx (sFor_of (iR1_of (j := N) (os := [.slot 0]) rfl rfl (smallR_nat sN)) e1) ?_
  exact sSeq_rt (sRet_of rfl)
end L2.MX.Lw
end
section
set_option Elab.async false
set_option linter.all false
set_option maxRecDepth 100000
namespace L2.MX.Lw
open PySem PySem.Spec PyProof.Rows
/-! ### need_powers -/
def itD (b : Bool) (q : Nat × Int) : D := if b = true then .lst [.int q.1, .int q.2] else .tup [.int q.1, .int q.2]
def seqD (c : Bool) (l : List D) : D := if c = true then .lst l else .tup l
abbrev Its : Type := List (Bool × (Nat × Int))
def itsD (its : Its) : List D := its.map fun x => itD x.1 x.2
def okI (q : Nat × Int) : Prop := okP q ∧ q.2 ≠ 0
theorem seq_items (c : Bool) (l : List D) : itemsOf (seqD c l) = some l := by cases c <;> rfl
theorem f_is_row (c : Bool) (l : List D) : m_is_row [.pl (seqD c l)] = .rt (.pl (.bl true)) [.un] := by cases c <;> rfl
theorem it_seq (b : Bool) (q : Nat × Int) : itD b q = seqD b [.int q.1, .int q.2] := by cases b <;> rfl
theorem f_are_ints (b : Bool) (q : Nat × Int) : m_are_integers [.pl (itD b q)] = .rt (.pl (.bl true)) [.un] := by
  rw [it_seq]
  refine (mDef_rt (ρ := [.pl (seqD b [.int q.1, .int q.2]), .un]) (sSeq_rt (sRet_of ?_))).trans rfl
  refine mAnd_t (ρ1 := [.pl (seqD b [.int q.1, .int q.2]), .un]) (mCallP_of (os := [.val (seqD b [.int q.1, .int q.2])]) rfl rfl (f_is_row b _)) ?_
  let F : D → Option D := fun _ => some (.bl true)
  have hc := mLc_pure (mi := iSeq (mVar 0)) (g := gNm 1) (vs := [1]) (t := mtYes) (e := mCallP (df_is_integer.drop 0) m_is_integer (mAc (oVal (mVar 1)) mA0)) (ρ := [.pl (seqD b [.int q.1, .int q.2]), .un]) (ρ1 := [.pl (seqD b [.int q.1, .int q.2]), .un]) F (iSeq_of (r := .pl (seqD b [.int q.1, .int q.2])) rfl (seq_items b _)) rfl (by show 2 ≤ lineN; decide) (fun x hx => by
    have hx : ∃ z : Int, x = .int z := by
      rcases List.mem_cons.mp hx with e | hx
      · exact ⟨_, e⟩
      · exact ⟨_, List.mem_singleton.mp hx⟩
    obtain ⟨z, rfl⟩ := hx
    exact ⟨[.pl (seqD b [.int q.1, .int q.2]), .pl (.int z)], [.pl (seqD b [.int q.1, .int q.2]), .pl (.int z)], rfl, rfl, .pl (.bl true), [.pl (seqD b [.int q.1, .int q.2]), .pl (.int z)], mCallP_of (os := [.val (.int z)]) rfl rfl (f_is_integer z), rfl, rfl⟩)
  exact mCall_of (os := [.val (.lst [.bl true, .bl true])]) (mAc_of (oVal_of hc) rfl) rfl rfl
theorem mChain_t {f f' : Fn2} {a b c : MO} {ρ ρ1 ρ2 ρ4 : Env} {o p q : Opd} {d1 d2 d3 d2' : D} {r : RV} (ha : a ρ = .ok o ρ1) (hb : b ρ1 = .ok p ρ2) (h1 : o.get ρ2 = some d1) (h2 : p.get ρ2 = some d2) (hf : f d1 d2 = some (.pl (.bl true))) (hc : c ρ2 = .ok q ρ4) (h3 : p.get ρ4 = some d2') (h4 : q.get ρ4 = some d3) (hf' : f' d2' d3 = some r) : mChain f f' a b c ρ = .ok r ρ4 := by
  have e : mtB (fun ρ => ap2 f ρ o p) ρ2 = .ok true ρ2 := mtB_of (by simp only [ap2, h1, h2, hf])
  unfold mChain bindM
  simp only [ha, hb]
  rw [e]
  simp only [if_true, hc, ap2, h3, h4, hf']
theorem le_true {i j : Int} (h : i ≤ j) : dLe (.int i) (.int j) = some (.pl (.bl true)) := by
  show some (RV.pl (.bl (decide (i ≤ j)))) = _
  rw [decide_eq_true h]
theorem it_len (b : Bool) (q : Nat × Int) : dLen [itD b q] = some (.pl (.int 2)) := by cases b <;> rfl
theorem it_ix0 (b : Bool) (q : Nat × Int) : dIx (itD b q) (.int 0) = some (.pl (.int q.1)) := by cases b <;> rfl
theorem it_ix1 (b : Bool) (q : Nat × Int) : dIx (itD b q) (.int 1) = some (.pl (.int q.2)) := by cases b <;> rfl
theorem f_is_item {b : Bool} {q : Nat × Int} (h : okI q) : m_is_item [.pl (itD b q)] = .rt (.pl (.bl true)) [.un] := by
  obtain ⟨⟨o1, o2, o3, o4⟩, o5⟩ := h
  refine (mDef_rt (ρ := [.pl (itD b q)]) ?_).trans rfl
  refine sSeq_nx (ρ1 := [.pl (itD b q)]) (sIf_of (k := false) (ρ1 := [.pl (itD b q)]) ?_ (fun z => by cases z) fun _ => rfl) ?_
  · refine mtOr_f (ρ1 := [.pl (itD b q)]) (mtNot_of (c := true) (mtB_of (mCallP_of (os := [.val (itD b q)]) rfl rfl (f_are_ints b q)))) ?_
    have a1 := mCall_of (f := dLen) (args := mAc (oVar 0) mA0) (ρ := [Cell.pl (itD b q)]) (os := [.slot 0]) (ds := [itD b q]) rfl rfl (it_len b q)
    exact mtB_of (mOp_of (f := dNe) (oVal_of a1) (b := oVal (mK (.int 2))) rfl rfl rfl ne_int)
  · refine sSeq_rt (sRet_of ?_)
    have i0 := mOp_of (f := dIx) (a := oVar 0) (b := oVal (mK (.int 0))) (ρ := [Cell.pl (itD b q)]) (oVar_pl rfl) rfl (get_slot rfl) rfl (it_ix0 b q)
    have i1 := mOp_of (f := dIx) (a := oVar 0) (b := oVal (mK (.int 1))) (ρ := [Cell.pl (itD b q)]) (oVar_pl rfl) rfl (get_slot rfl) rfl (it_ix1 b q)
    refine mAnd_t (ρ1 := [.pl (itD b q)]) (mChain_t (o := .val (.int 1)) rfl (oVal_of i0) rfl rfl (le_true (by omega)) (q := .val (.int 1000)) rfl rfl rfl (le_true (by omega))) (mAnd_t (ρ1 := [.pl (itD b q)]) ?_ (mChain_t (o := .val (.int (-1000))) rfl (oVal_of i1) rfl rfl (le_true (by omega)) (q := .val (.int 1000)) rfl rfl rfl (le_true (by omega))))
    have a1 := mOp_of (f := dNe) (a := oVal (mOp dIx (oVar 0) (oVal (mK (.int 1))))) (b := oVal (mK (.int 0))) (oVal_of i1) rfl rfl rfl ne_int
    rw [decide_eq_false o5] at a1
    exact a1
theorem its_mem {its : Its} {x : D} (h : x ∈ itsD its) : ∃ b q, (b, q) ∈ its ∧ x = itD b q := by
  obtain ⟨⟨b, q⟩, h1, h2⟩ := List.mem_map.mp h
  exact ⟨b, q, h1, h2.symm⟩
theorem its_len (its : Its) : (itsD its).length = its.length := by simp [itsD]
abbrev np1 : M := mLc (iSeq (mVar 0)) (gNm 1) ([1] : List Nat) mtYes (mCallP (df_is_item.drop 0) m_is_item (mAc (oVal (mVar 1)) mA0))
abbrev np2 : M := mLc (iSeq (mVar 0)) (gNm 1) ([1] : List Nat) mtYes (mOp dIx (oVar 1) (oVal (mK (.int 0))))
abbrev np3 : M := mLc (iSeq (mVar 0)) (gTp [(gNm 2), (gNm 3)]) ([2, 3] : List Nat) mtYes (mTup (mAc (oVal (mVar 2)) (mAc (oVal (mVar 3)) mA0)))
theorem np_1 {c : Bool} {its : Its} (ho : ∀ x ∈ its, okI x.2) (hl : its.length ≤ 100) : np1 [.pl (seqD c (itsD its)), .un, .un, .un] = .ok (.fr (.lst (its.map fun _ => .bl true))) [.pl (seqD c (itsD its)), .un, .un, .un] := by
  let F : D → Option D := fun _ => some (.bl true)
  have e1 : (itsD its).filterMap F = its.map fun _ => .bl true := by
    unfold itsD
    clear ho hl
    induction its with
    | nil => rfl
    | cons a l ih => rw [List.map_cons, List.filterMap_cons_some (f := F) (b := D.bl true) rfl, ih]; rfl
  rw [← e1]
  refine mLc_pure F (iSeq_of (r := .pl (seqD c (itsD its))) (ρ1 := [.pl (seqD c (itsD its)), .un, .un, .un]) rfl (seq_items c _)) rfl (by rw [its_len]; have hl2 : lineN = 16777216 := rfl; omega) fun x hx => ?_
  obtain ⟨b, q, h1, rfl⟩ := its_mem hx
  exact ⟨[.pl (seqD c (itsD its)), .pl (itD b q), .un, .un], [.pl (seqD c (itsD its)), .pl (itD b q), .un, .un], rfl, rfl, .pl (.bl true), [.pl (seqD c (itsD its)), .pl (itD b q), .un, .un], mCallP_of (os := [.val (itD b q)]) rfl rfl (f_is_item (ho _ h1)), rfl, rfl⟩
theorem np_2 {c : Bool} {its : Its} (hl : its.length ≤ 100) : np2 [.pl (seqD c (itsD its)), .un, .un, .un] = .ok (.fr (.lst ((its.map fun x => ((x.2.1 : Nat) : Int)).map D.int))) [.pl (seqD c (itsD its)), .un, .un, .un] := by
  let F : D → Option D := fun x => match x with
    | .lst (d :: _) => some d
    | .tup (d :: _) => some d
    | _ => none
  have hF : ∀ b q, F (itD b q) = some (.int q.1) := fun b q => by cases b <;> rfl
  have e1 : (itsD its).filterMap F = (its.map fun x => ((x.2.1 : Nat) : Int)).map D.int := by
    unfold itsD
    clear hl
    induction its with
    | nil => rfl
    | cons a l ih => rw [List.map_cons, List.filterMap_cons_some (hF _ _), ih]; rfl
  rw [← e1]
  refine mLc_pure F (iSeq_of (r := .pl (seqD c (itsD its))) (ρ1 := [.pl (seqD c (itsD its)), .un, .un, .un]) rfl (seq_items c _)) rfl (by rw [its_len]; have hl2 : lineN = 16777216 := rfl; omega) fun x hx => ?_
  obtain ⟨b, q, h1, rfl⟩ := its_mem hx
  rw [hF]
  exact ⟨[.pl (seqD c (itsD its)), .pl (itD b q), .un, .un], [.pl (seqD c (itsD its)), .pl (itD b q), .un, .un], rfl, rfl, .pl (.int q.1), [.pl (seqD c (itsD its)), .pl (itD b q), .un, .un], mOp_of (f := dIx) (oVar_pl rfl) rfl (get_slot rfl) rfl (it_ix0 b q), rfl, rfl⟩
theorem np_3 {c : Bool} {its : Its} (hl : its.length ≤ 100) : np3 [.pl (seqD c (itsD its)), .un, .un, .un] = .ok (.fr (.lst ((its.map (·.2)).map prD))) [.pl (seqD c (itsD its)), .un, .un, .un] := by
  let F : D → Option D := fun x => match x with
    | .lst ds => some (.tup ds)
    | .tup ds => some (.tup ds)
    | _ => none
  have hF : ∀ b q, F (itD b q) = some (prD q) := fun b q => by cases b <;> rfl
  have e1 : (itsD its).filterMap F = (its.map (·.2)).map prD := by
    unfold itsD
    clear hl
    induction its with
    | nil => rfl
    | cons a l ih => rw [List.map_cons, List.filterMap_cons_some (hF _ _), ih]; rfl
  rw [← e1]
  refine mLc_pure F (iSeq_of (r := .pl (seqD c (itsD its))) (ρ1 := [.pl (seqD c (itsD its)), .un, .un, .un]) rfl (seq_items c _)) rfl (by rw [its_len]; have hl2 : lineN = 16777216 := rfl; omega) fun x hx => ?_
  obtain ⟨b, q, h1, rfl⟩ := its_mem hx
  rw [hF]
  exact ⟨[.pl (seqD c (itsD its)), .un, .pl (.int q.1), .pl (.int q.2)], [.pl (seqD c (itsD its)), .un, .pl (.int q.1), .pl (.int q.2)], by cases b <;> rfl, rfl, .pl (prD q), [.pl (seqD c (itsD its)), .un, .pl (.int q.1), .pl (.int q.2)], tup2 rfl rfl, rfl, rfl⟩
theorem pairs_map : ∀ l : List (Nat × Int), pairsOf (l.map prD) = some (l.map fun q => ((q.1 : Int), q.2))
  | [] => rfl
  | q :: l => by
    show (pairsOf (l.map prD)).map (fun ps => ((q.1 : Int), q.2) :: ps) = _
    rw [pairs_map l]
    rfl
theorem bools_true : ∀ l : Its, boolsOf (l.map fun _ => D.bl true) = some (l.map fun _ => true)
  | [] => rfl
  | q :: l => by
    show (boolsOf (l.map fun _ => D.bl true)).map (fun ns => true :: ns) = _
    rw [bools_true l]
    rfl
/-- the powers in order: places rise -/
def Rise (ps : List (Nat × Int)) : Prop := ps.Pairwise fun a b => a.1 < b.1
theorem f_need_powers {c : Bool} {its : Its} {ps : List (Nat × Int)} (hp : (its.map (·.2)).Perm ps) (hr : Rise ps) (ho : ∀ q ∈ ps, okI q) (h0 : ps ≠ []) (hl : ps.length ≤ 100) : m_need_powers [.pl (seqD c (itsD its))] = .rt (.pl (.tup (ps.map prD))) [.un] := by
  have hlen : its.length = ps.length := by rw [← hp.length_eq, List.length_map]
  have hoI : ∀ x ∈ its, okI x.2 := fun x hx => ho _ (hp.mem_iff.mp (List.mem_map_of_mem hx))
  have h3 := np_3 (c := c) (its := its) (by omega)
  have h2 := np_2 (c := c) (its := its) (by omega)
  have h1 := np_1 (c := c) hoI (by omega)
  refine (mDef_rt (ρ := [.pl (seqD c (itsD its)), .un, .un, .un]) ?_).trans rfl
  refine sSeq_nx (ρ1 := [.pl (seqD c (itsD its)), .un, .un, .un]) (sIf_of (k := false) (ρ1 := [.pl (seqD c (itsD its)), .un, .un, .un]) ?_ (fun z => by cases z) fun _ => rfl) ?_
  · refine mtOr_f (ρ1 := [.pl (seqD c (itsD its)), .un, .un, .un]) (mtNot_of (c := true) (mtB_of (mCallP_of (os := [.val (seqD c (itsD its))]) rfl rfl (f_is_row c _)))) (mtNot_of (c := true) (mtB_of ?_))
    refine mCall_of (os := [.val (.lst (its.map fun _ => .bl true))]) (mAc_of (oVal_of h1) rfl) rfl ?_
    show (boolsOf (its.map fun _ => D.bl true)).bind (fun ns => pB (ns.all id)) = _
    rw [bools_true]
    show some (RV.pl (.bl ((its.map fun _ => true).all id))) = _
    congr 3
    rw [List.all_map]
    exact List.all_eq_true.mpr fun _ _ => rfl
  refine sSeq_nx (ρ1 := [.pl (seqD c (itsD its)), .un, .un, .un]) (sIf_of (k := false) (ρ1 := [.pl (seqD c (itsD its)), .un, .un, .un]) ?_ (fun z => by cases z) fun _ => rfl) ?_
  · have hnd : (its.map fun x : Bool × (Nat × Int) => ((x.2.1 : Nat) : Int)).Nodup := by
      have e : (its.map fun x : Bool × (Nat × Int) => ((x.2.1 : Nat) : Int)) = ((its.map (·.2)).map fun q => ((q.1 : Nat) : Int)) := by rw [List.map_map]; rfl
      rw [e]
      refine ((hp.map fun q : Nat × Int => ((q.1 : Nat) : Int)).nodup_iff).mpr ?_
      exact List.pairwise_map.mpr (hr.imp fun {a b} h => by omega)
    have a1 : mUn dLenSet (oVal np2) [.pl (seqD c (itsD its)), .un, .un, .un] = .ok (.pl (.int its.length)) [.pl (seqD c (itsD its)), .un, .un, .un] := by
      refine mUn_of (oVal_of h2) rfl ?_
      show (intsOf _).bind (fun ns => if ns.Nodup ∧ ns.length ≤ 4000 then pI ns.length else none) = _
      rw [ints_map]
      show (if _ ∧ _ then _ else none) = _
      rw [if_pos ⟨hnd, by rw [List.length_map]; omega⟩, List.length_map]
      rfl
    have a2 : mCall dLen (mAc (oVar 0) mA0) [.pl (seqD c (itsD its)), .un, .un, .un] = .ok (.pl (.int its.length)) [.pl (seqD c (itsD its)), .un, .un, .un] := by
      refine mCall_of (os := [.slot 0]) (ds := [seqD c (itsD its)]) rfl rfl ?_
      have : (itsD its).length = its.length := its_len its
      rw [← this]
      cases c <;> rfl
    have a3 := mtB_of (mOp_of (f := dNe) (oVal_of a1) (oVal_of a2) rfl rfl ne_int)
    rw [decide_eq_true rfl] at a3
    exact a3
  · refine sSeq_rt (sRet_of ?_)
    have hsort : dSorted [.lst ((its.map (·.2)).map prD)] = some (.fr (.lst (ps.map prD))) := by
      have hi : intsOf ((its.map (·.2)).map prD) = none := by
        cases hq : its.map (·.2) with
        | nil =>
          rw [hq] at hp
          exact absurd hp.symm.eq_nil h0
        | cons q l => rfl
      have hs : sortB leP ((its.map (·.2)).map fun q => ((q.1 : Int), q.2)) = ps.map fun q => ((q.1 : Int), q.2) := by
        refine (sortB_uniq (fun a b => ?_) (fun a b c h1 h2 => ?_) (fun a b h1 h2 => ?_) (hp.map _).symm (List.pairwise_map.mpr (hr.imp fun {a b} h => ?_))).symm
        · rw [leP_iff, leP_iff]; omega
        · rw [leP_iff] at h1 h2 ⊢; omega
        · rw [leP_iff] at h1 h2
          exact Prod.ext (by omega) (by omega)
        · rw [leP_iff]
          exact .inl (by show (a.1 : Int) < (b.1 : Int); omega)
      show (match intsOf ((its.map Prod.snd).map prD) with
        | some ns => some (RV.fr (.lst ((sortB leI ns).map .int)))
        | none => (pairsOf ((its.map Prod.snd).map prD)).map fun ps => .fr (.lst ((sortB leP ps).map pairD))) = _
      rw [hi, pairs_map]
      show some (RV.fr (.lst ((sortB leP ((its.map (·.2)).map fun q => ((q.1 : Int), q.2))).map pairD))) = _
      rw [hs, List.map_map]
      rfl
    have a1 := mCall_of (f := dSorted) (args := mAc (oVal np3) mA0) (ρ := [Cell.pl (seqD c (itsD its)), .un, .un, .un]) (os := [.val (.lst ((its.map Prod.snd).map prD))]) (mAc_of (oVal_of h3) (show mA0 [.pl (seqD c (itsD its)), .un, .un, .un] = .ok [] [.pl (seqD c (itsD its)), .un, .un, .un] from rfl)) rfl hsort
    exact mCall_of (f := dTuple) (os := [.val (.lst (ps.map prD))]) (mAc_of (oVal_of a1) rfl) rfl rfl
theorem f_product_row {N : Nat} {c : Bool} {its : Its} {ps : List (Nat × Int)} (hN : N ≤ 3000) (h1 : 1 ≤ N) (hp : (its.map (·.2)).Perm ps) (hr : Rise ps) (ho : ∀ q ∈ ps, okI q) (h0 : ps ≠ []) (hl : ps.length ≤ 100) (hS : ∀ j, j < N → smallI (Sf ps j) = true) :
    m_product_row [.pl (seqD c (itsD its)), .pl (.int N)] = .rt (.pl (.tup (sqD N (al (Sf ps) N)))) [.un, .un] := by
  have sN : smallN N := by unfold smallN; omega
  refine (mDef_rt (ρ := [.pl (.tup (ps.map prD)), .pl (.int N)]) ?_).trans rfl
  refine sSeq_nx (ρ1 := [.pl (.tup (ps.map prD)), .pl (.int N)]) (sSet_of (r := .pl (.tup (ps.map prD))) (mCallP_of (os := [.val (seqD c (itsD its))]) rfl rfl (f_need_powers hp hr ho h0 hl)) rfl) ?_
  refine sSeq_nx (ρ1 := [.pl (.tup (ps.map prD)), .pl (.int N)]) ?_ ?_
  · unfold sExpr ofE
    rw [show mCallP (df_need_many.drop 0) m_need_many (mAc (oVal (mVar 1)) (mAc (oVal (mK (.int 3000))) mA0)) [Cell.pl (.tup (ps.map prD)), .pl (.int N)] = .ok (.pl .non) [.pl (.tup (ps.map prD)), .pl (.int N)] from mCallP_of (os := [.val (.int N), .val (.int 3000)]) rfl rfl (f_need_many hN)]
  · have a1 : mCallP (df_by_sums.drop 0) m_by_sums (mAc (oVal (mVar 0)) (mAc (oVal (mVar 1)) mA0)) [Cell.pl (.tup (ps.map prD)), .pl (.int N)] = .ok (.pl (.lst (sqD N (al (Sf ps) N)))) [.pl (.tup (ps.map prD)), .pl (.int N)] := mCallP_of (os := [.val (.tup (ps.map prD)), .val (.int N)]) rfl rfl (f_by_sums sN h1 (fun q hq => (ho q hq).1) hS)
    exact sSeq_rt (sRet_of (mCall_of (os := [.val (.lst (sqD N (al (Sf ps) N)))]) (mAc_of (oVal_of a1) rfl) rfl rfl))
theorem f_row_by_factors {N : Nat} {c : Bool} {its : Its} {ps : List (Nat × Int)} (hN : N ≤ 400) (h1 : 1 ≤ N) (hp : (its.map (·.2)).Perm ps) (hr : Rise ps) (ho : ∀ q ∈ ps, okI q ∧ q.1 ≤ 100) (h0 : ps ≠ []) (hl : ps.length ≤ 100) :
    m_row_by_factors [.pl (seqD c (itsD its)), .pl (.int N)] = .rt (.pl (.tup (sqD N (bfF N ps)))) [.un, .un] := by
  refine (mDef_rt (ρ := [.pl (.tup (ps.map prD)), .pl (.int N)]) ?_).trans rfl
  refine sSeq_nx (ρ1 := [.pl (.tup (ps.map prD)), .pl (.int N)]) (sSet_of (r := .pl (.tup (ps.map prD))) (mCallP_of (os := [.val (seqD c (itsD its))]) rfl rfl (f_need_powers hp hr (fun q hq => (ho q hq).1) h0 hl)) rfl) ?_
  refine sSeq_nx (ρ1 := [.pl (.tup (ps.map prD)), .pl (.int N)]) ?_ ?_
  · unfold sExpr ofE
    rw [show mCallP (df_need_many.drop 0) m_need_many (mAc (oVal (mVar 1)) (mAc (oVal (mK (.int 3000))) mA0)) [Cell.pl (.tup (ps.map prD)), .pl (.int N)] = .ok (.pl .non) [.pl (.tup (ps.map prD)), .pl (.int N)] from mCallP_of (os := [.val (.int N), .val (.int 3000)]) rfl rfl (f_need_many (by omega))]
  · have a1 : mCallP (df_by_factors.drop 0) m_by_factors (mAc (oVal (mVar 0)) (mAc (oVal (mVar 1)) mA0)) [Cell.pl (.tup (ps.map prD)), .pl (.int N)] = .ok (.pl (.lst (sqD N (bfF N ps)))) [.pl (.tup (ps.map prD)), .pl (.int N)] := mCallP_of (os := [.val (.tup (ps.map prD)), .val (.int N)]) rfl rfl (f_by_factors hN h1 fun q hq => ⟨(ho q hq).1.1, (ho q hq).2⟩)
    exact sSeq_rt (sRet_of (mCall_of (os := [.val (.lst (sqD N (bfF N ps)))]) (mAc_of (oVal_of a1) rfl) rfl rfl))
end L2.MX.Lw
end
section
set_option Elab.async false
set_option linter.all false
set_option maxRecDepth 100000
namespace L2.MX.Lw
open PySem PySem.Spec PyProof.Rows
/-! ### the pen -/
def kC : Key := .inr "cells"
def kA : Key := .inr "at"
def kD : Key := .inr "digits"
def kN : Key := .inr "count"
def kF : Key := .inr "fold"
def penD (cs : List D) (a d n f : Int) : D := .dic [kC, kA, kD, kN, kF] [.lst cs, .int a, .int d, .int n, .int f]
section
variable {cs : List D} {a d n f x : Int}
theorem gC : dDGet (penD cs a d n f) (.str "cells") = some (.pl (.lst cs)) := by kernel_rfl
theorem gA : dDGet (penD cs a d n f) (.str "at") = some (.pl (.int a)) := by kernel_rfl
theorem gD : dDGet (penD cs a d n f) (.str "digits") = some (.pl (.int d)) := by kernel_rfl
theorem gN : dDGet (penD cs a d n f) (.str "count") = some (.pl (.int n)) := by kernel_rfl
theorem gF : dDGet (penD cs a d n f) (.str "fold") = some (.pl (.int f)) := by kernel_rfl
theorem uA {ρ : Env} : putKey (.io (penD cs a d n f) :: ρ) 0 (.str "at") (.int x) = some (.io (penD cs x d n f) :: ρ) := by kernel_rfl
theorem uD {ρ : Env} : putKey (.io (penD cs a d n f) :: ρ) 0 (.str "digits") (.int x) = some (.io (penD cs a x n f) :: ρ) := by kernel_rfl
theorem uN {ρ : Env} : putKey (.io (penD cs a d n f) :: ρ) 0 (.str "count") (.int x) = some (.io (penD cs a d x f) :: ρ) := by kernel_rfl
theorem uF {ρ : Env} : putKey (.io (penD cs a d n f) :: ρ) 0 (.str "fold") (.int x) = some (.io (penD cs a d n x) :: ρ) := by kernel_rfl
end
theorem sDPut1_of {i : Nat} {mk me : M} {ρ ρ1 ρ2 ρ3 : Env} {r k : RV} (hm : me ρ = .ok r ρ1) (hd : isDic (ownedAt ρ1 i) = true) (hk : mk ρ1 = .ok k ρ2) (hp : putKey ρ2 i k.d r.d = some ρ3) : sDPut1 i mk me ρ = .nx ρ3 := by
  unfold sDPut1 ofE
  simp only [hm, hd, if_true, hk, hp]
abbrev gt (x : Str) : M := mOp dDGet (oVar 0) (oVal (mK (.str x)))
theorem gt_of {P : D} {x : Str} {ρ : Env} {r : RV} (h : dDGet P (.str x) = some r) : gt x (.io P :: ρ) = .ok r (.io P :: ρ) := mOp_of rfl rfl rfl rfl h
/-- a pen that has drawn at most c times -/
structure Pen (c : Nat) (P : D) : Prop where
  ex : ∃ (cs : List Int) (a n : Nat) (d f : Int), P = penD (cs.map .int) a d n f ∧ a ≤ cs.length ∧ n ≤ c ∧ 0 ≤ d ∧ 0 ≤ f ∧ f < 3000000000
theorem fdiv_any {z : Int} {m : Nat} (h : 0 < m) (h2 : m ≤ 1000000) : dFdiv (.int z) (.int m) = some (.pl (.int (z / (m : Int)))) := fdiv_int h h2
theorem mod_any {z w : Int} (h : 0 < w) : dMod (.int z) (.int w) = some (.pl (.int (z % w))) := by
  show (if 0 < w then pI (z % w) else none) = _
  rw [if_pos h]
  rfl
theorem pow_any {z : Int} {k : Nat} (h : smallI z = true) (hk : k ≤ 1000) : dPow (.int z) (.int k) = some (.pl (.int (z ^ k))) := by
  show (if (0 ≤ (k : Int) ∧ (k : Int) ≤ 1000000) ∧ smallI z = true then pI (z ^ (k : Int).toNat) else none) = _
  rw [if_pos ⟨⟨by omega, by omega⟩, h⟩, Int.toNat_natCast]
  rfl
theorem int_id {z : Int} {m : M} {ρ ρ1 : Env} (h : m ρ = .ok (.pl (.int z)) ρ1) : mCall dInt (mAc (oVal m) mA0) ρ = .ok (.pl (.int z)) ρ1 := mCall_of (os := [.val (.int z)]) (mAc_of (oVal_of h) rfl) rfl rfl
abbrev dS1 : MS := sDPut1 0 (mK (.str "count")) (mOp dAdd (oVal (gt "count")) (oVal (mK (.int 1))))
abbrev dB1 : MS := sSeq (sSet 2 (mOp dIx (oVal (gt "cells")) (oVal (gt "at")))) (sSeq (sDPut1 0 (mK (.str "at")) (mOp dAdd (oVal (gt "at")) (oVal (mK (.int 1))))) (sSeq (sIf (mtB (mOp dGe (oVar 2) (oVal (mOp dPow (oVal (mK (.int 10))) (oVal (mK (.int 18))))))) (sSeq (sDPut1 0 (mK (.str "digits")) (mOp dSub (oVar 2) (oVal (mOp dPow (oVal (mK (.int 10))) (oVal (mK (.int 18))))))) sNil) (sSeq (sDPut1 0 (mK (.str "fold")) (mOp dMod (oVal (mCall dInt (mAc (oVal (mOp dAdd (oVal (mOp dMul (oVal (gt "fold")) (oVal (mK (.int 69069))))) (oVar 2))) mA0))) (oVal (mK (.int 2147483543))))) sNil)) sNil))
abbrev dT1 : MT := mtAnd (mtB (mOp dEq (oVal (gt "digits")) (oVal (mK (.int 0))))) (mtB (mOp dLt (oVal (gt "at")) (oVal (mCall dLen (mAc (oVal (gt "cells")) mA0)))))
theorem pow18 {ρ : Env} : mOp dPow (oVal (mK (.int 10))) (oVal (mK (.int 18))) ρ = .ok (.pl (.int (10 ^ 18))) ρ := mOp_of rfl rfl rfl rfl (pow_any (z := 10) (k := 18) (by decide) (by decide))
/-- a cell is read -/
theorem d_cell {c : Nat} {P : D} {m : Nat} {c2 c3 c4 : Cell} (h : Pen c P) (h2 : pc c2) : ∃ P' c2', Pen c P' ∧ pc c2' ∧ sIf dT1 dB1 sNil [.io P, .pl (.int m), c2, c3, c4] = .nx [.io P', .pl (.int m), c2', c3, c4] := by
  obtain ⟨cs, a, n, d, f, rfl, ha, hn, hd, hf, hf2⟩ := h.ex
  have t1 := mtB_of (mOp_of (f := dEq) (b := oVal (mK (.int 0))) (oVal_of (gt_of (ρ := [.pl (.int m), c2, c3, c4]) (gD (cs := cs.map D.int) (a := (a : Int)) (d := d) (n := (n : Int)) (f := f)))) rfl rfl rfl eq_int)
  have t2 : mtB (mOp dLt (oVal (gt "at")) (oVal (mCall dLen (mAc (oVal (gt "cells")) mA0)))) [.io (penD (cs.map D.int) a d n f), .pl (.int m), c2, c3, c4] = .ok (decide (a < cs.length)) [.io (penD (cs.map D.int) a d n f), .pl (.int m), c2, c3, c4] := by
    have e1 := mCall_of (f := dLen) (args := mAc (oVal (gt "cells")) mA0) (os := [.val (.lst (cs.map D.int))]) (mAc_of (oVal_of (gt_of (ρ := [.pl (.int m), c2, c3, c4]) (gC (cs := cs.map D.int) (a := (a : Int)) (d := d) (n := (n : Int)) (f := f)))) rfl) rfl (r := .pl (.int (cs.length : Nat))) (by show some (RV.pl (.int ((cs.map D.int).length : Nat))) = _; rw [List.length_map])
    rw [← lt_nat]
    exact mtB_of (mOp_of (f := dLt) (oVal_of (gt_of gA)) (oVal_of e1) rfl rfl rfl)
  by_cases hb : d = 0 ∧ a < cs.length
  · rw [decide_eq_true hb.1] at t1
    rw [decide_eq_true hb.2] at t2
    have hz : ∃ z, cs[a]? = some z := ⟨_, List.getElem?_eq_getElem hb.2⟩
    obtain ⟨z, hz⟩ := hz
    have ix : dIx (.lst (cs.map D.int)) (.int (a : Int)) = some (.pl (.int z)) := by
      show (atI (cs.map D.int) ((a : Nat) : Int)).map RV.pl = _
      unfold atI
      rw [List.length_map, ixN_nat hb.2]
      show ((cs.map D.int)[a]?).map RV.pl = _
      rw [List.getElem?_map, hz]
      rfl
    have s1 : sSet 2 (mOp dIx (oVal (gt "cells")) (oVal (gt "at"))) [.io (penD (cs.map D.int) a d n f), .pl (.int m), c2, c3, c4] = .nx [.io (penD (cs.map D.int) a d n f), .pl (.int m), .pl (.int z), c3, c4] :=
      sSet_of (mOp_of (oVal_of (gt_of gC)) (oVal_of (gt_of gA)) rfl rfl ix) (by simp only [sSeq, sNil, sSet, sAsg, sPar, sRet, sRetN, sExpr, sIf, sApp, sSetIx, sAug, sAugIx, sBrk, sCont, putAll, ofR, mVar, mOp, mUn, mIf, mAnd, mOr, mNot, mtB, mtAnd, mtOr, mtNot, mtYes, mCall, mTup, mLst, mAc, mA0, mRc, mR0, mK, oVar, oVal, bindM, ofE, ofT, ofI, ap1, ap2, apL, getAll, vals, Opd.get, Cell.get, ownedAt, isLst, putIx, appTo, setOwn, Cell.setD, RV.d, cellOf, putC, io_un, io_pl, io_ow, gNm, gTp, gAll, pI, pB, List.getElem?_cons_zero, List.getElem?_cons_succ, List.set_cons_succ, List.set_cons_zero, Option.bind_some, Option.map_some, Bool.true_or, Bool.or_true, if_true, reduceIte, Bool.false_eq_true, if_false, List.length_cons, List.length_nil, decide_true, decide_false, decide_eq_true_eq, Nat.reduceAdd, Nat.reduceLeDiff, Nat.zero_add, pc_io h2])
    have s2 : sDPut1 0 (mK (.str "at")) (mOp dAdd (oVal (gt "at")) (oVal (mK (.int 1)))) [.io (penD (cs.map D.int) a d n f), .pl (.int m), .pl (.int z), c3, c4] = .nx [.io (penD (cs.map D.int) ((a + 1 : Nat) : Int) d n f), .pl (.int m), .pl (.int z), c3, c4] :=
      sDPut1_of (r := .pl (.int ((a + 1 : Nat) : Int))) (k := .pl (.str "at")) (mOp_of (oVal_of (gt_of gA)) rfl rfl rfl rfl) rfl rfl uA
    have t3 : mtB (mOp dGe (oVar 2) (oVal (mOp dPow (oVal (mK (.int 10))) (oVal (mK (.int 18)))))) [.io (penD (cs.map D.int) ((a + 1 : Nat) : Int) d n f), .pl (.int m), .pl (.int z), c3, c4] = .ok (decide ((10 ^ 18 : Int) ≤ z)) [.io (penD (cs.map D.int) ((a + 1 : Nat) : Int) d n f), .pl (.int m), .pl (.int z), c3, c4] :=
      mtB_of (mOp_of (f := dGe) (oVar_pl rfl) (oVal_of pow18) (get_slot rfl) rfl rfl)
    by_cases hc : (10 ^ 18 : Int) ≤ z
    · rw [decide_eq_true hc] at t3
      refine ⟨penD (cs.map D.int) ((a + 1 : Nat) : Int) (z - 10 ^ 18) n f, .pl (.int z), ⟨cs, a + 1, n, z - 10 ^ 18, f, rfl, hb.2, hn, by omega, hf, hf2⟩, pc_pl _, sIf_of (mtAnd_t t1 t2) (fun _ => ?_) fun z => by cases z⟩
      refine sSeq_nx s1 (sSeq_nx s2 (sSeq_nx (sIf_of t3 (fun _ => ?_) fun z => by cases z) rfl))
      exact sSeq_nx (sDPut1_of (r := .pl (.int (z - 10 ^ 18))) (k := .pl (.str "digits")) (mOp_of (oVar_pl rfl) (oVal_of pow18) (get_slot rfl) rfl rfl) rfl rfl uD) rfl
    · rw [decide_eq_false hc] at t3
      refine ⟨penD (cs.map D.int) ((a + 1 : Nat) : Int) d n ((f * 69069 + z) % 2147483543), .pl (.int z), ⟨cs, a + 1, n, d, (f * 69069 + z) % 2147483543, rfl, hb.2, hn, hd, Int.emod_nonneg _ (by decide), ?_⟩, pc_pl _, sIf_of (mtAnd_t t1 t2) (fun _ => ?_) fun z => by cases z⟩
      · have := Int.emod_lt_of_pos (f * 69069 + z) (show (0 : Int) < 2147483543 by decide)
        omega
      · refine sSeq_nx s1 (sSeq_nx s2 (sSeq_nx (sIf_of t3 (fun z => by cases z) fun _ => ?_) rfl))
        have e1 := mOp_of (f := dMul) (b := oVal (mK (.int 69069))) (oVal_of (gt_of (ρ := [.pl (.int m), .pl (.int z), c3, c4]) (gF (cs := cs.map D.int) (a := ((a + 1 : Nat) : Int)) (d := d) (n := (n : Int)) (f := f)))) rfl rfl rfl (mul_int (smallI_iff.mpr (by omega)))
        have e2 := mOp_of (f := dAdd) (b := oVar 2) (oVal_of e1) (oVar_pl rfl) rfl (get_slot rfl) rfl
        exact sSeq_nx (sDPut1_of (r := .pl (.int ((f * 69069 + z) % 2147483543))) (k := .pl (.str "fold")) (mOp_of (oVal_of (int_id e2)) rfl rfl rfl (mod_any (by decide))) rfl rfl uF) rfl
  · refine ⟨_, c2, h, h2, sIf_of (k := false) (ρ1 := [.io (penD (cs.map D.int) a d n f), .pl (.int m), c2, c3, c4]) ?_ (fun z => by cases z) fun _ => rfl⟩
    by_cases h1 : d = 0
    · rw [decide_eq_true h1] at t1
      rw [decide_eq_false (fun z => hb ⟨h1, z⟩)] at t2
      exact mtAnd_t t1 t2
    · rw [decide_eq_false h1] at t1
      exact mtAnd_f t1
theorem f_draw {c m : Nat} {P : D} (h : Pen c P) (hc : c ≤ 1000000) (hm : 1 ≤ m) (hm2 : m ≤ 1000000) : ∃ r P', m__law_draw [.io P, .pl (.int m)] = .rt (.pl (.int (r : Nat))) [.io P', .un] ∧ r < m ∧ Pen (c + 1) P' := by
  obtain ⟨cs, a, n, d, f, rfl, ha, hn, hd, hf, hf2⟩ := h.ex
  have s1 : dS1 [.io (penD (cs.map D.int) a d n f), .pl (.int m), .un, .un, .un] = .nx [.io (penD (cs.map D.int) a d ((n + 1 : Nat) : Int) f), .pl (.int m), .un, .un, .un] :=
    sDPut1_of (r := .pl (.int ((n + 1 : Nat) : Int))) (k := .pl (.str "count")) (mOp_of (oVal_of (gt_of gN)) rfl rfl rfl rfl) rfl rfl uN
  have hp1 : Pen (c + 1) (penD (cs.map D.int) a d ((n + 1 : Nat) : Int) f) := ⟨cs, a, n + 1, d, f, rfl, ha, by omega, hd, hf, hf2⟩
  obtain ⟨P2, c2, hp2, h2, s2⟩ := d_cell (m := m) (c3 := .un) (c4 := .un) hp1 pc_un
  obtain ⟨cs, a, n, d, f, rfl, ha, hn, hd, hf, hf2⟩ := hp2.ex
  have t3 := mtB_of (mOp_of (f := dGt) (b := oVal (mK (.int 0))) (oVal_of (gt_of (ρ := [.pl (.int m), c2, .un, .un]) (gD (cs := cs.map D.int) (a := (a : Int)) (d := d) (n := (n : Int)) (f := f)))) rfl rfl rfl (show dGt (.int d) (.int 0) = some (.pl (.bl (decide (0 < d)))) from rfl))
  by_cases hb : 0 < d
  · rw [decide_eq_true hb] at t3
    have hr0 : 0 ≤ d % (m : Int) := Int.emod_nonneg _ (by omega)
    have hr1 : d % (m : Int) < m := Int.emod_lt_of_pos _ (by omega)
    have e3 : (((d % (m : Int)).toNat : Nat) : Int) = d % (m : Int) := Int.toNat_of_nonneg hr0
    refine ⟨(d % (m : Int)).toNat, penD (cs.map D.int) a (d / (m : Int)) n f, ?_, by omega, ⟨cs, a, n, d / (m : Int), f, rfl, ha, hn, Int.ediv_nonneg hd (by omega), hf, hf2⟩⟩
    refine (mDef_rt (ρ := [.io (penD (cs.map D.int) a (d / (m : Int)) n f), .pl (.int m), c2, .pl (.int (d % (m : Int))), .un]) (r := .pl (.int (((d % (m : Int)).toNat : Nat) : Int))) ?_).trans rfl
    refine sSeq_nx s1 (sSeq_nx s2 (sSeq_rt (sIf_of t3 (fun _ => ?_) fun z => by cases z)))
    have x1 := mOp_of (f := dMod) (b := oVar 1) (oVal_of (int_id (gt_of (ρ := [.pl (.int m), c2, .un, .un]) (gD (cs := cs.map D.int) (a := (a : Int)) (d := d) (n := (n : Int)) (f := f))))) (oVar_pl rfl) rfl (get_slot rfl) (mod_any (show (0 : Int) < (m : Int) by omega))
    refine sSeq_nx (ρ1 := [.io (penD (cs.map D.int) a d n f), .pl (.int m), c2, .pl (.int (d % (m : Int))), .un]) (sSet_of x1 rfl) ?_
    have x2 := mOp_of (f := dFdiv) (b := oVar 1) (oVal_of (gt_of (ρ := [.pl (.int m), c2, .pl (.int (d % (m : Int))), .un]) (gD (cs := cs.map D.int) (a := (a : Int)) (d := d) (n := (n : Int)) (f := f)))) (oVar_pl rfl) rfl (get_slot rfl) (fdiv_any (z := d) (m := m) (by omega) hm2)
    refine sSeq_nx (sDPut1_of (k := .pl (.str "digits")) x2 rfl rfl uD) ?_
    rw [e3]
    exact sSeq_rt (sRet_of rfl)
  · rw [decide_eq_false hb] at t3
    have hw : 0 ≤ ((f + n * 8167 + 47) ^ 17 % 2305843009213693951) / 128 % (m : Int) := Int.emod_nonneg _ (by omega)
    have hw1 : ((f + n * 8167 + 47) ^ 17 % 2305843009213693951) / 128 % (m : Int) < m := Int.emod_lt_of_pos _ (by omega)
    have e3 := Int.toNat_of_nonneg hw
    refine ⟨(((f + n * 8167 + 47) ^ 17 % 2305843009213693951) / 128 % (m : Int)).toNat, penD (cs.map D.int) a d n f, ?_, by omega, ⟨cs, a, n, d, f, rfl, ha, hn, hd, hf, hf2⟩⟩
    rw [e3]
    refine (mDef_rt (ρ := [.io (penD (cs.map D.int) a d n f), .pl (.int m), c2, .un, .pl (.int (f + n * 8167 + 47))]) ?_).trans rfl
    refine sSeq_nx s1 (sSeq_nx s2 (sSeq_nx (sIf_of t3 (fun z => by cases z) fun _ => rfl) ?_))
    have y1 := mOp_of (f := dMul) (b := oVal (mK (.int 8167))) (oVal_of (gt_of (ρ := [.pl (.int m), c2, .un, .un]) (gN (cs := cs.map D.int) (a := (a : Int)) (d := d) (n := (n : Int)) (f := f)))) rfl rfl rfl (mul_int (smallI_iff.mpr (by omega)))
    have y2 := mOp_of (f := dAdd) (oVal_of (gt_of gF)) (oVal_of y1) rfl rfl rfl
    have y3 := mOp_of (f := dAdd) (b := oVal (mK (.int 47))) (oVal_of y2) rfl rfl rfl rfl
    refine sSeq_nx (ρ1 := [.io (penD (cs.map D.int) a d n f), .pl (.int m), c2, .un, .pl (.int (f + n * 8167 + 47))]) (sSet_of y3 rfl) ?_
    refine sSeq_rt (sRet_of ?_)
    have z1 := mOp_of (f := dPow) (a := oVar 4) (b := oVal (mK (.int 17))) (ρ := [Cell.io (penD (cs.map D.int) a d n f), .pl (.int m), c2, .un, .pl (.int (f + n * 8167 + 47))]) (oVar_pl rfl) rfl (get_slot rfl) rfl (pow_any (k := 17) (smallI_iff.mpr (by omega)) (by decide))
    have z2 := mOp_of (f := dMod) (b := oVal (mK (.int 2305843009213693951))) (oVal_of z1) rfl rfl rfl (mod_any (by decide))
    have z3 := mOp_of (f := dFdiv) (b := oVal (mK (.int 128))) (oVal_of (int_id z2)) rfl rfl rfl (fdiv_any (m := 128) (by decide) (by decide))
    exact mOp_of (f := dMod) (oVal_of z3) (oVar_pl rfl) rfl (get_slot rfl) (mod_any (by omega))
end L2.MX.Lw
end
section
set_option Elab.async false
set_option linter.all false
set_option maxRecDepth 100000
namespace L2.MX.Lw
open PySem PySem.Spec PyProof.Rows
theorem f_pen (ns : List Int) : ∃ P, Pen 0 P ∧ m__law_pen [.pl (.flst (ns.map D.int))] = .rt (.fr P) [.un] := by
  obtain ⟨ρ', e1, f, c2, h0, h1, p2, rfl⟩ := loopF_inv (g := gNm 2) (b := sSeq (sSet 1 (mOp dMod (oVal (mCall dInt (mAc (oVal (mOp dAdd (oVal (mOp dMul (oVar 1) (oVal (mK (.int 67))))) (oVar 2))) mA0))) (oVal (mK (.int 1000000033))))) sNil)
    (fun j ρ => ∃ f c2, 0 ≤ f ∧ f < 1000000033 ∧ pc c2 ∧ ρ = [.pl (.flst (ns.map D.int)), .pl (.int f), c2]) (ns.map D.int) 0
    [.pl (.flst (ns.map D.int)), .pl (.int 0), .un] ⟨0, .un, by decide, by decide, pc_un, rfl⟩ (by
      rintro j d ρ hd ⟨f, c2, h0, h1, p2, rfl⟩
      rw [List.getElem?_map] at hd
      obtain ⟨z, _, rfl⟩ := Option.map_eq_some_iff.mp hd
      have e1 := mOp_of (f := dMul) (a := oVar 1) (b := oVal (mK (.int 67))) (ρ := [Cell.pl (.flst (ns.map D.int)), .pl (.int f), .pl (.int z)]) (oVar_pl rfl) rfl (get_slot rfl) rfl (mul_int (smallI_iff.mpr (by omega)))
      have e2 := mOp_of (f := dAdd) (b := oVar 2) (oVal_of e1) (oVar_pl rfl) rfl (get_slot rfl) rfl
      have e3 := mOp_of (f := dMod) (b := oVal (mK (.int 1000000033))) (oVal_of (int_id e2)) rfl rfl rfl (mod_any (by decide))
      exact ⟨_, ⟨[.pl (.flst (ns.map D.int)), .pl (.int f), .pl (.int z)], by simp only [sSeq, sNil, sSet, sAsg, sPar, sRet, sRetN, sExpr, sIf, sApp, sSetIx, sAug, sAugIx, sBrk, sCont, putAll, ofR, mVar, mOp, mUn, mIf, mAnd, mOr, mNot, mtB, mtAnd, mtOr, mtNot, mtYes, mCall, mTup, mLst, mAc, mA0, mRc, mR0, mK, oVar, oVal, bindM, ofE, ofT, ofI, ap1, ap2, apL, getAll, vals, Opd.get, Cell.get, ownedAt, isLst, putIx, appTo, setOwn, Cell.setD, RV.d, cellOf, putC, io_un, io_pl, io_ow, gNm, gTp, gAll, pI, pB, List.getElem?_cons_zero, List.getElem?_cons_succ, List.set_cons_succ, List.set_cons_zero, Option.bind_some, Option.map_some, Bool.true_or, Bool.or_true, if_true, reduceIte, Bool.false_eq_true, if_false, List.length_cons, List.length_nil, decide_true, decide_false, decide_eq_true_eq, Nat.reduceAdd, Nat.reduceLeDiff, Nat.zero_add, pc_io p2], .inl (sSeq_nx (sSet_of e3 rfl) rfl)⟩, (f * 67 + z) % 1000000033, .pl (.int z), Int.emod_nonneg _ (by decide), Int.emod_lt_of_pos _ (by decide), pc_pl _, rfl⟩)
  refine ⟨penD (ns.map D.int) 0 0 0 f, ⟨ns, 0, 0, 0, f, rfl, Nat.zero_le _, Nat.le_refl _, Int.le_refl _, h0, by omega⟩, ?_⟩
  refine (mDef_rt (ρ := [.pl (.flst (ns.map D.int)), .pl (.int f), c2]) ?_).trans rfl
  refine sSeq_nx (ρ1 := [.pl (.flst (ns.map D.int)), .pl (.int 0), .un]) rfl ?_
  refine sSeq_nx (sFor_of (iSeq_of (r := .pl (.flst (ns.map D.int))) rfl rfl) e1) ?_
  exact sSeq_rt (sRet_of (by kernel_rfl))
theorem f_pick {c : Nat} {P : D} {xs : List D} (h : Pen c P) (hc : c ≤ 1000000) (h1 : 1 ≤ xs.length) (h2 : xs.length ≤ 1000000) : ∃ x P', x ∈ xs ∧ Pen (c + 1) P' ∧ m__law_pick [.io P, .pl (.lst xs)] = .rt (.pl x) [.io P', .un] := by
  obtain ⟨r, P', e, hr, hp⟩ := f_draw h hc h1 h2
  refine ⟨xs[r], P', List.getElem_mem hr, hp, ?_⟩
  refine (mDef_rt (ρ := [.io P', .pl (.lst xs)]) (sSeq_rt (sRet_of ?_))).trans rfl
  have a1 := mCall_of (f := dLen) (args := mAc (oVar 1) mA0) (ρ := [Cell.io P, .pl (.lst xs)]) (os := [.slot 1]) (ds := [.lst xs]) rfl rfl (r := .pl (.int (xs.length : Nat))) rfl
  have a2 : mCallQ (df__law_draw.drop 0) m__law_draw (mAc (oVar 0) (mAc (oVal (mCall dLen (mAc (oVar 1) mA0))) mA0)) [Cell.io P, .pl (.lst xs)] = .ok (.pl (.int (r : Nat))) [.io P', .pl (.lst xs)] :=
    mCallQ_of (i := 0) (os := [.val (.int (xs.length : Nat))]) (mAc_of rfl (mAc_of (oVal_of a1) rfl)) rfl rfl e
  refine mOp_of (f := dIx) (oVar_pl rfl) (oVal_of a2) (get_slot rfl) rfl ?_
  show (atI xs ((r : Nat) : Int)).map RV.pl = _
  unfold atI
  rw [ixN_nat hr]
  show (xs[r]?).map RV.pl = _
  rw [List.getElem?_eq_getElem hr]
  rfl
/-- tuple(x), list(x) of a list or a tuple -/
theorem tup_seq (b : Bool) (l : List D) : dTuple [seqD b l] = some (.pl (.tup l)) := by cases b <;> rfl
theorem lst_seq (b : Bool) (l : List D) : dList [seqD b l] = some (.fr (.lst l)) := by cases b <;> rfl
theorem f_listed {c : Nat} {P : D} {b : Bool} {l : List D} (h : Pen c P) (hc : c ≤ 1000000) : ∃ b' P' rv, Pen (c + 1) P' ∧ rv.d = seqD b' l ∧ m__law_listed [.io P, .pl (seqD b l)] = .rt rv [.io P', .un] := by
  obtain ⟨r, P', e, hr, hp⟩ := f_draw (m := 2) h hc (by decide) (by decide)
  have a2 : mCallQ (df__law_draw.drop 0) m__law_draw (mAc (oVar 0) (mAc (oVal (mK (.int 2))) mA0)) [Cell.io P, .pl (seqD b l)] = .ok (.pl (.int (r : Nat))) [.io P', .pl (seqD b l)] :=
    mCallQ_of (i := 0) (os := [.val (.int 2)]) rfl rfl rfl e
  have a3 := mtB_of (mOp_of (f := dEq) (b := oVal (mK (.int 0))) (oVal_of a2) rfl rfl rfl eq_int)
  rw [nat0] at a3
  by_cases h0 : r = 0
  · rw [decide_eq_true h0] at a3
    refine ⟨true, P', .fr (.lst l), hp, rfl, ?_⟩
    refine (mDef_rt (ρ := [.io P', .pl (seqD b l)]) (sSeq_rt (sRet_of (mIf_t a3 ?_)))).trans rfl
    exact mCall_of (os := [.slot 1]) (ds := [seqD b l]) rfl rfl (lst_seq b l)
  · rw [decide_eq_false h0] at a3
    refine ⟨false, P', .pl (.tup l), hp, rfl, ?_⟩
    refine (mDef_rt (ρ := [.io P', .pl (seqD b l)]) (sSeq_rt (sRet_of (mIf_f a3 ?_)))).trans rfl
    exact mCall_of (os := [.slot 1]) (ds := [seqD b l]) rfl rfl (tup_seq b l)
/-! ### shuffled -/
theorem mPopAt_of {i : Nat} {mk : M} {ρ ρ1 ρ2 : Env} {k : RV} {d : D} (h0 : isLst (ownedAt ρ i) = true) (hk : mk ρ = .ok k ρ1) (hp : popOf ρ1 i k.d = some (d, ρ2)) : mPopAt i mk ρ = .ok (.pl d) ρ2 := by
  unfold mPopAt bindM
  simp only [h0, if_true, hk, hp]
abbrev shB : MS := sSeq (sApp 3 (mPopAt 2 (mCallQ (df__law_draw.drop 0) m__law_draw (mAc (oVar 0) (mAc (oVal (mCall dLen (mAc (oVar 2) mA0))) mA0))))) sNil
theorem perm_erase {α : Type} : ∀ {l : List α} {i : Nat} {x : α}, l[i]? = some x → (x :: l.eraseIdx i).Perm l
  | [], i, x, h => by simp at h
  | a :: l, 0, x, h => by
    have e : a = x := by simpa using h
    rw [e]
    exact List.Perm.refl _
  | a :: l, i + 1, x, h => by
    have ih := perm_erase (l := l) (i := i) (x := x) (by simpa using h)
    exact (List.Perm.swap a x _).trans (ih.cons a)
theorem sh_turn {c : Nat} {P S : D} {l out : List D} {c4 : Cell} {z : Int} (h : Pen c P) (hc : c ≤ 1000000) (hl : l ≠ []) (hl2 : l.length ≤ 1000) (ho : out.length ≤ 1000) (h4 : pc c4) :
    ∃ P' l' x, Pen (c + 1) P' ∧ (x :: l').Perm l ∧ Turn (gNm 4) shB (.int z) [.io P, .pl S, .ow (.lst l), .ow (.lst out), c4] [.io P', .pl S, .ow (.lst l'), .ow (.lst (out ++ [x])), .pl (.int z)] := by
  have h1 : 1 ≤ l.length := by
    cases l with
    | nil => exact absurd rfl hl
    | cons => simp
  obtain ⟨r, P', e, hr, hp⟩ := f_draw (m := l.length) h hc h1 (by omega)
  have hx := List.getElem?_eq_getElem hr
  refine ⟨P', l.eraseIdx r, l[r], hp, perm_erase hx, [.io P, .pl S, .ow (.lst l), .ow (.lst out), .pl (.int z)], by simp only [sSeq, sNil, sSet, sAsg, sPar, sRet, sRetN, sExpr, sIf, sApp, sSetIx, sAug, sAugIx, sBrk, sCont, putAll, ofR, mVar, mOp, mUn, mIf, mAnd, mOr, mNot, mtB, mtAnd, mtOr, mtNot, mtYes, mCall, mTup, mLst, mAc, mA0, mRc, mR0, mK, oVar, oVal, bindM, ofE, ofT, ofI, ap1, ap2, apL, getAll, vals, Opd.get, Cell.get, ownedAt, isLst, putIx, appTo, setOwn, Cell.setD, RV.d, cellOf, putC, io_un, io_pl, io_ow, gNm, gTp, gAll, pI, pB, List.getElem?_cons_zero, List.getElem?_cons_succ, List.set_cons_succ, List.set_cons_zero, Option.bind_some, Option.map_some, Bool.true_or, Bool.or_true, if_true, reduceIte, Bool.false_eq_true, if_false, List.length_cons, List.length_nil, decide_true, decide_false, decide_eq_true_eq, Nat.reduceAdd, Nat.reduceLeDiff, Nat.zero_add, pc_io h4], .inl ?_⟩
  have a1 := mCall_of (f := dLen) (args := mAc (oVar 2) mA0) (ρ := [Cell.io P, .pl S, .ow (.lst l), .ow (.lst out), .pl (.int z)]) (os := [.slot 2]) (ds := [.lst l]) rfl rfl (r := .pl (.int (l.length : Nat))) rfl
  have a2 : mCallQ (df__law_draw.drop 0) m__law_draw (mAc (oVar 0) (mAc (oVal (mCall dLen (mAc (oVar 2) mA0))) mA0)) [Cell.io P, .pl S, .ow (.lst l), .ow (.lst out), .pl (.int z)] = .ok (.pl (.int (r : Nat))) [.io P', .pl S, .ow (.lst l), .ow (.lst out), .pl (.int z)] :=
    mCallQ_of (i := 0) (os := [.val (.int (l.length : Nat))]) (mAc_of rfl (mAc_of (oVal_of a1) rfl)) rfl rfl e
  have a3 : mPopAt 2 (mCallQ (df__law_draw.drop 0) m__law_draw (mAc (oVar 0) (mAc (oVal (mCall dLen (mAc (oVar 2) mA0))) mA0))) [Cell.io P, .pl S, .ow (.lst l), .ow (.lst out), .pl (.int z)] = .ok (.pl l[r]) [.io P', .pl S, .ow (.lst (l.eraseIdx r)), .ow (.lst out), .pl (.int z)] := by
    refine mPopAt_of rfl a2 ?_
    show (if -(1000000000 : Int) ≤ ((r : Nat) : Int) ∧ ((r : Nat) : Int) < 1000000000 then (seqIndex? ((r : Nat) : Int) l.length).bind fun j => (l[j]?).map fun d => (d, setOwn [Cell.io P', .pl S, .ow (.lst l), .ow (.lst out), .pl (.int z)] 2 (.lst (l.eraseIdx j))) else none) = _
    rw [if_pos ⟨by omega, by omega⟩, (ixN_seq (ixN_nat hr)).1]
    show (l[r]?).map _ = _
    rw [hx]
    rfl
  have hl3 : lineN = 16777216 := rfl
  refine sSeq_nx (Eq.trans (sApp_of (ρ1 := [.io P', .pl S, .ow (.lst (l.eraseIdx r)), .ow (.lst out), .pl (.int z)]) (ds0 := out) (ds := out) rfl a3 rfl (by omega)) rfl) rfl
theorem f_shuffled {c : Nat} {P : D} {l : List D} (h : Pen c P) (hc : c + l.length ≤ 1000000) (hl : l.length ≤ 1000) : ∃ P' out, Pen (c + l.length) P' ∧ out.Perm l ∧ m__law_shuffled [.io P, .pl (.lst l)] = .rt (.pl (.lst out)) [.io P', .un] := by
  obtain ⟨ρ', e1, P', l', out, c4, hp, hpm, hlen, p4, rfl⟩ := loopF_inv (g := gNm 4) (b := shB)
    (fun j ρ => ∃ P' l' out c4, Pen (c + j) P' ∧ (out ++ l').Perm l ∧ out.length = j ∧ pc c4 ∧ ρ = [.io P', .pl (.lst l), .ow (.lst l'), .ow (.lst out), c4]) (rangeD 0 1 l.length) 0
    [.io P, .pl (.lst l), .ow (.lst l), .ow (.lst []), .un] ⟨P, l, [], .un, h, List.Perm.refl _, rfl, pc_un, rfl⟩ (by
      rintro j d ρ hd ⟨P', l', out, c4, hp, hpm, hlen, p4, rfl⟩
      obtain ⟨hj, rfl⟩ := rangeD_get hd
      rw [Nat.zero_add] at hp hlen
      have hle := hpm.length_eq
      rw [List.length_append] at hle
      have hne : l' ≠ [] := fun z => by
        rw [z, List.length_nil] at hle
        omega
      obtain ⟨P2, l2, x, hp2, hpm2, t⟩ := sh_turn (S := .lst l) (out := out) (z := 0 + (j : Nat) * 1) hp (by omega) hne (by omega) (by omega) p4
      refine ⟨_, t, P2, l2, out ++ [x], _, by rw [Nat.zero_add]; exact hp2, ?_, by rw [List.length_append, hlen, Nat.zero_add]; rfl, pc_pl _, rfl⟩
      rw [List.append_assoc]
      exact ((List.Perm.append_left out hpm2)).trans hpm)
  rw [rangeD_len, Nat.zero_add] at hp hlen
  have hle := hpm.length_eq
  rw [List.length_append] at hle
  have hnil : l' = [] := List.eq_nil_of_length_eq_zero (by omega)
  subst hnil
  rw [List.append_nil] at hpm
  refine ⟨P', out, hp, hpm, ?_⟩
  refine (mDef_rt (ρ := [.io P', .pl (.lst l), .ow (.lst []), .pl (.lst out), c4]) ?_).trans rfl
  have a0 := mCall_of (f := dList) (args := mAc (oVar 1) mA0) (ρ := [Cell.io P, .pl (.lst l), .un, .un, .un]) (os := [.slot 1]) (ds := [.lst l]) rfl rfl (r := .fr (.lst l)) rfl
  have a1 := mCall_of (f := dLen) (args := mAc (oVar 1) mA0) (ρ := [Cell.io P, .pl (.lst l), .ow (.lst l), .ow (.lst []), .un]) (os := [.slot 1]) (ds := [.lst l]) rfl rfl (r := .pl (.int (l.length : Nat))) rfl
  refine sSeq_nx (ρ1 := [.io P, .pl (.lst l), .ow (.lst l), .ow (.lst []), .un]) (sPar_of (mRc_of a0 (mRc_of (mLst0 _) rfl)) rfl) ?_
  refine sSeq_nx (sFor_of (iR1_of (j := (l.length : Nat)) (os := [.val (.int (l.length : Nat))]) (mAc_of (oVal_of a1) rfl) rfl (smallR_iff.mpr (by omega))) (by rw [Int.toNat_natCast]; exact e1)) ?_
  exact sSeq_rt (sRet_of rfl)
theorem loopC_inv {g : G1} {vs : List Nat} {t : MT} {e : M} (Q : Nat → Env → List D → Prop) : ∀ (ds : List D) (i : Nat) (ρ : Env) (acc : List D), Q i ρ acc →
    (∀ j d ρ acc, ds[j]? = some d → Q (i + j) ρ acc → ∃ ρ1 ρ2 rv ρ3, g d ρ = some ρ1 ∧ t ρ1 = .ok true ρ2 ∧ e ρ2 = .ok rv ρ3 ∧ acc.length < lineN ∧ Q (i + j + 1) (wipeC vs ρ3) (acc ++ [rv.d])) →
    ∃ ρ' acc', loopC g vs t e ds ρ acc = .ok acc' ρ' ∧ Q (i + ds.length) ρ' acc'
  | [], i, ρ, acc, q, _ => ⟨ρ, acc, rfl, q⟩
  | d :: ds, i, ρ, acc, q, h => by
    obtain ⟨ρ1, ρ2, rv, ρ3, e1, e2, e3, hl, q1⟩ := h 0 d ρ acc rfl q
    obtain ⟨ρ', acc', e4, q2⟩ := loopC_inv Q ds (i + 1) (wipeC vs ρ3) (acc ++ [rv.d]) q1 fun j d' ρ acc hj hq => by
      have := h (j + 1) d' ρ acc (by simpa using hj) (by rw [show i + (j + 1) = i + 1 + j by omega]; exact hq)
      rw [show i + (j + 1) = i + 1 + j by omega] at this
      exact this
    refine ⟨ρ', acc', ?_, by rw [show i + (d :: ds).length = i + 1 + ds.length by simp; omega]; exact q2⟩
    unfold loopC
    simp only [e1, e2, e3]
    rw [if_pos hl]
    exact e4
theorem perm_map_key {α β : Type} (f : α → β) {l1 l2 : List β} (hp : l1.Perm l2) : ∀ m : List α, l2 = m.map f → ∃ m' : List α, l1 = m'.map f ∧ m'.Perm m := by
  induction hp with
  | nil =>
    intro m e
    cases m with
    | nil => exact ⟨[], rfl, List.Perm.refl _⟩
    | cons => cases e
  | cons x _ ih =>
    intro m e
    cases m with
    | nil => cases e
    | cons a m =>
      rw [List.map_cons] at e
      obtain ⟨e1, e2⟩ := List.cons.inj e
      obtain ⟨m', r1, r2⟩ := ih m e2
      exact ⟨a :: m', by rw [List.map_cons, r1, e1], r2.cons a⟩
  | swap x y l =>
    intro m e
    cases m with
    | nil => cases e
    | cons a m =>
      cases m with
      | nil => cases e
      | cons b m =>
        rw [List.map_cons, List.map_cons] at e
        obtain ⟨e1, e2⟩ := List.cons.inj e
        obtain ⟨e3, e4⟩ := List.cons.inj e2
        exact ⟨b :: a :: m, by rw [List.map_cons, List.map_cons, e1, e3, e4], List.Perm.swap a b m⟩
  | trans _ _ ih1 ih2 =>
    intro m e
    obtain ⟨m1, r1, r2⟩ := ih2 m e
    obtain ⟨m2, r3, r4⟩ := ih1 m1 r1
    exact ⟨m2, r3, r4.trans r2⟩
theorem perm_map_ex {α β : Type} (f : α → β) {l : List β} {m : List α} (h : l.Perm (m.map f)) : ∃ m' : List α, l = m'.map f ∧ m'.Perm m := perm_map_key f h m rfl
theorem prD_seq (q : Nat × Int) : prD q = seqD false [.int q.1, .int q.2] := rfl
theorem f_given {c : Nat} {P : D} {b : Bool} {ps : List (Nat × Int)} (h : Pen c P) (hc : c + 2 * ps.length + 1 ≤ 1000000) (hl : ps.length ≤ 100) : ∃ P' its b' rv, Pen (c + 2 * ps.length + 1) P' ∧ (its.map (·.2)).Perm ps ∧ rv.d = seqD b' (itsD its) ∧
    m__law_p_given [.io P, .pl (seqD b (ps.map prD))] = .rt rv [.io P', .un] := by
  obtain ⟨P1, out, hp1, hpm, e1⟩ := f_shuffled (l := ps.map prD) h (by rw [List.length_map]; omega) (by rw [List.length_map]; omega)
  rw [List.length_map] at hp1
  obtain ⟨L, rfl, hL⟩ := perm_map_ex prD hpm
  have hlen := hL.length_eq
  have a1 : mCall dList (mAc (oVar 1) mA0) [Cell.io P, .pl (seqD b (ps.map prD)), .un] = .ok (.fr (.lst (ps.map prD))) [Cell.io P, .pl (seqD b (ps.map prD)), .un] := mCall_of (os := [.slot 1]) (ds := [seqD b (ps.map prD)]) rfl rfl (lst_seq b _)
  have a2 : mCallQ (df__law_shuffled.drop 0) m__law_shuffled (mAc (oVar 0) (mAc (oVal (mCall dList (mAc (oVar 1) mA0))) mA0)) [Cell.io P, .pl (seqD b (ps.map prD)), .un] = .ok (.pl (.lst (L.map prD))) [.io P1, .pl (seqD b (ps.map prD)), .un] :=
    mCallQ_of (i := 0) (os := [.val (.lst (ps.map prD))]) (mAc_of rfl (mAc_of (oVal_of a1) rfl)) rfl rfl e1
  have hl3 : lineN = 16777216 := rfl
  obtain ⟨ρ', acc', e2, P2, its, hp2, rfl, rfl, hits⟩ := loopC_inv (g := gNm 2) (vs := [2]) (t := mtYes) (e := mCallQ (df__law_listed.drop 0) m__law_listed (mAc (oVar 0) (mAc (oVal (mVar 2)) mA0)))
    (fun j ρ acc => ∃ P' its, Pen (c + ps.length + j) P' ∧ ρ = [.io P', .pl (seqD b (ps.map prD)), .un] ∧ acc = itsD its ∧ its.map (·.2) = L.take j) (L.map prD) 0 [.io P1, .pl (seqD b (ps.map prD)), .un] [] ⟨P1, [], hp1, rfl, rfl, rfl⟩ (by
      rintro j d ρ acc hd ⟨P', its, hp, rfl, rfl, hits⟩
      rw [List.getElem?_map] at hd
      obtain ⟨q, hq, rfl⟩ := Option.map_eq_some_iff.mp hd
      have hj := (List.getElem?_eq_some_iff.mp hq).1
      rw [Nat.zero_add] at hp hits
      obtain ⟨b', P2, rv, hp2, hrv, e⟩ := f_listed (b := false) (l := [.int q.1, .int q.2]) hp (by omega)
      refine ⟨[.io P', .pl (seqD b (ps.map prD)), .pl (prD q)], [.io P', .pl (seqD b (ps.map prD)), .pl (prD q)], rv, [.io P2, .pl (seqD b (ps.map prD)), .pl (prD q)], rfl, rfl, mCallQ_of (i := 0) (os := [.val (prD q)]) rfl rfl rfl e, ?_, P2, its ++ [(b', q)], by rw [Nat.zero_add]; exact hp2, rfl, ?_, ?_⟩
      · have : its.length = j := by
          have := congrArg List.length hits
          rw [List.length_map, List.length_take] at this
          omega
        rw [its_len, this]
        omega
      · rw [hrv]
        unfold itsD
        rw [List.map_append, ← it_seq]
        rfl
      · rw [List.map_append, hits, Nat.zero_add, List.take_add_one, hq]
        rfl)
  rw [List.length_map, Nat.zero_add] at hp2 hits
  rw [List.take_length] at hits
  have a3 : mLc (iSeq (mCallQ (df__law_shuffled.drop 0) m__law_shuffled (mAc (oVar 0) (mAc (oVal (mCall dList (mAc (oVar 1) mA0))) mA0)))) (gNm 2) ([2] : List Nat) mtYes (mCallQ (df__law_listed.drop 0) m__law_listed (mAc (oVar 0) (mAc (oVal (mVar 2)) mA0))) [Cell.io P, .pl (seqD b (ps.map prD)), .un] = .ok (.fr (.lst (itsD its))) [.io P2, .pl (seqD b (ps.map prD)), .un] := by
    unfold mLc
    rw [iSeq_of a2 (ds := L.map prD) rfl]
    show (if [2].all (freeAt [Cell.io P1, .pl (seqD b (ps.map prD)), .un]) = true then (match loopC _ _ _ _ _ (wipeC [2] [Cell.io P1, .pl (seqD b (ps.map prD)), .un]) [] with
      | .ok acc ρ2 => ER.ok (RV.fr (.lst acc)) (backC [2] [Cell.io P1, .pl (seqD b (ps.map prD)), .un] ρ2)
      | _ => .bad) else .bad) = _
    rw [show wipeC [2] [Cell.io P1, .pl (seqD b (ps.map prD)), .un] = [.io P1, .pl (seqD b (ps.map prD)), .un] from rfl, e2]
    rfl
  obtain ⟨b', P3, rv, hp3, hrv, e3⟩ := f_listed (b := true) (l := itsD its) hp2 (by omega)
  refine ⟨P3, its, b', rv, by rw [show c + 2 * ps.length + 1 = c + ps.length + L.length + 1 by omega]; exact hp3, by rw [hits]; exact hL, hrv, ?_⟩
  refine (mDef_rt (ρ := [.io P3, .pl (seqD b (ps.map prD)), .un]) (sSeq_rt (sRet_of ?_))).trans rfl
  exact mCallQ_of (i := 0) (os := [.val (.lst (itsD its))]) (mAc_of rfl (mAc_of (oVal_of a3) rfl)) rfl rfl e3
end L2.MX.Lw
end
section
set_option Elab.async false
set_option linter.all false
set_option maxRecDepth 100000
namespace L2.MX.Lw
open PySem PySem.Spec PyProof.Rows
/-! ### numbers: a row that keeps the recursion is the recursion's -/
def dot : List Int → List Int → Int
  | a :: as, b :: bs => a * b + dot as bs
  | _, _ => 0
def chkA (S : List Int) : Nat → List Int → List Int → Bool
  | n, rev, x :: rest => (if n = 0 then decide (x = 1) else decide ((-(dot S rev)) / (n : Int) = x)) && chkA S (n + 1) (x :: rev) rest
  | _, _, [] => true
theorem sumR_cons (f : Nat → Int) (n : Nat) : sumR f (n + 1) = f 0 + sumR (fun j => f (j + 1)) n := by
  unfold sumR
  rw [List.range_succ_eq_map, List.map_cons, List.sum_cons, List.map_map]
  rfl
theorem dot_sum : ∀ (r s : List Int) (f h : Nat → Int), (∀ j, j < r.length → s[j]? = some (f j)) → (∀ j, j < r.length → r[j]? = some (h j)) → dot s r = sumR (fun j => f j * h j) r.length
  | [], s, f, h, _, _ => by
    cases s <;> rfl
  | b :: r, s, f, h, hs, hr => by
    have h0 := hs 0 (by simp)
    have h1 := hr 0 (by simp)
    cases s with
    | nil => simp at h0
    | cons a s =>
      have e0 : a = f 0 := by simpa using h0
      have e1 : b = h 0 := by simpa using h1
      rw [List.length_cons, sumR_cons, e0, e1]
      show f 0 * h 0 + dot s r = _
      rw [dot_sum r s (fun j => f (j + 1)) (fun j => h (j + 1)) (fun j hj => by simpa using hs (j + 1) (by simp; omega)) fun j hj => by simpa using hr (j + 1) (by simp; omega)]
theorem chkA_ok {S : List Int} {f g : Nat → Int} {M : Nat} (hS : ∀ j, j < M → S[j]? = some (f (j + 1))) : ∀ (rest rev : List Int), rev.length + rest.length ≤ M + 1 → (∀ j, j < rev.length → rev[j]? = some (g (rev.length - (j + 1)))) → (∀ j, j < rest.length → rest[j]? = some (g (rev.length + j))) → chkA S rev.length rev rest = true →
    ∀ i, rev.length ≤ i → i < rev.length + rest.length → alV f g i = g i
  | [], rev, _, _, _, _, i, h1, h2 => by simp at h2; omega
  | x :: rest, rev, hM, hrev, hrest, hc, i, h1, h2 => by
    have hx : x = g rev.length := by simpa using hrest 0 (by simp)
    have hM' : rev.length ≤ M := by rw [List.length_cons] at hM; omega
    have hc' : ((if rev.length = 0 then decide (x = 1) else decide ((-(dot S rev)) / (rev.length : Int) = x)) && chkA S (rev.length + 1) (x :: rev) rest) = true := hc
    rw [Bool.and_eq_true] at hc'
    by_cases hi : i = rev.length
    · subst hi
      have hd := dot_sum rev S (fun j => f (j + 1)) (fun j => g (rev.length - (j + 1))) (fun j hj => hS j (by omega)) hrev
      have h3 := hc'.1
      unfold alV
      by_cases hz : rev.length = 0
      · rw [if_pos hz] at h3
        rw [if_pos hz, ← hx, of_decide_eq_true h3]
      · rw [if_neg hz] at h3
        rw [if_neg hz, ← hx, ← of_decide_eq_true h3, hd]
    · refine chkA_ok hS rest (x :: rev) (by rw [List.length_cons] at hM ⊢; omega) (fun j hj => ?_) (fun j hj => ?_) hc'.2 i (by rw [List.length_cons]; omega) (by rw [List.length_cons] at h2 ⊢; omega)
      · cases j with
        | zero => show some x = _; rw [hx]; congr 1
        | succ j =>
          rw [List.length_cons] at hj ⊢
          have := hrev j (by omega)
          rw [show rev.length + 1 - (j + 1 + 1) = rev.length - (j + 1) by omega]
          simpa using this
      · have := hrest (j + 1) (by rw [List.length_cons]; omega)
        rw [List.length_cons, show rev.length + 1 + j = rev.length + (j + 1) by omega]
        simpa using this
/-- the recursion's row -/
theorem al_is {f g : Nat → Int} {M : Nat} (h : ∀ i, i < M → alV f g i = g i) : ∀ n, n ≤ M → ∀ i, i < n → al f n i = g i
  | 0, _, i, hi => by omega
  | n + 1, hn, i, hi => by
    have ih := al_is h n (by omega)
    show updF (al f n) n (alV f (al f n) n) i = g i
    unfold updF
    by_cases e : i = n
    · rw [if_pos e, e, ← h n (by omega)]
      unfold alV
      by_cases hz : n = 0
      · rw [if_pos hz, if_pos hz]
      · rw [if_neg hz, if_neg hz]
        congr 2
        unfold sumR
        congr 1
        refine List.map_congr_left fun j hj => ?_
        have := List.mem_range.mp hj
        rw [ih (n - (j + 1)) (by omega)]
    · rw [if_neg e]
      exact ih i (by omega)
/-- all in one: lists S (of f from 1 on) and G (of g) that pass the test -/
theorem row_is {f g : Nat → Int} {S G : List Int} (hS : (List.range 399).map (fun j => f (j + 1)) = S) (hG : (List.range 400).map g = G) (hc : chkA S 0 [] G = true) {n : Nat} (hn : n ≤ 400) : sqD n (al f n) = sqD n g := by
  have key : ∀ i, i < 400 → alV f g i = g i := fun i hi => chkA_ok (M := 399) (fun j hj => by rw [← hS, List.getElem?_map, List.getElem?_range hj]; rfl) G [] (by rw [← hG]; simp) (fun j hj => by simp at hj) (fun j hj => by
    rw [← hG, List.length_map, List.length_range] at hj
    rw [← hG, List.getElem?_map, List.getElem?_range hj]
    simp) hc i (Nat.zero_le _) (by rw [← hG]; simpa using hi)
  exact sq_congr fun i hi => al_is key n hn i hi
/-! ### spread powers -/
def spq (d : Nat) (q : Nat × Int) : Nat × Int := (d * q.1, q.2)
theorem Sf_no {d j : Nat} (h : ¬ d ∣ j) : ∀ (p : List (Nat × Int)) (F : Nat → Int), F j = 0 → (p.map (spq d)).foldl stepS F j = 0
  | [], F, h0 => h0
  | q :: p, F, h0 => by
    refine Sf_no h p (stepS F (spq d q)) ?_
    show F j + (if d * q.1 ∣ j ∧ d * q.1 ≤ j then _ else 0) = 0
    rw [if_neg (fun z => h (Nat.dvd_trans (Nat.dvd_mul_right d q.1) z.1)), h0]
    rfl
theorem Sf_yes {d m : Nat} (hd : 1 ≤ d) : ∀ (p : List (Nat × Int)) (F F' : Nat → Int), F (d * m) = d * F' m → (p.map (spq d)).foldl stepS F (d * m) = d * p.foldl stepS F' m
  | [], F, F', h0 => h0
  | q :: p, F, F', h0 => by
    refine Sf_yes hd p (stepS F (spq d q)) (stepS F' q) ?_
    show F (d * m) + (if d * q.1 ∣ d * m ∧ d * q.1 ≤ d * m then ((d * q.1 : Nat) : Int) * q.2 * sg1 (d * m / (d * q.1)) else 0) = d * (F' m + if q.1 ∣ m ∧ q.1 ≤ m then (q.1 : Int) * q.2 * sg1 (m / q.1) else 0)
    have e1 : d * q.1 ∣ d * m ↔ q.1 ∣ m := Nat.mul_dvd_mul_iff_left hd
    have e2 : d * q.1 ≤ d * m ↔ q.1 ≤ m := Nat.mul_le_mul_left_iff hd
    rw [h0, Int.mul_add]
    congr 1
    by_cases h : q.1 ∣ m ∧ q.1 ≤ m
    · rw [if_pos h, if_pos ⟨e1.mpr h.1, e2.mpr h.2⟩, Nat.mul_div_mul_left _ _ hd, Int.natCast_mul, Int.mul_assoc, Int.mul_assoc, Int.mul_assoc]
    · rw [if_neg h, if_neg (fun z => h ⟨e1.mp z.1, e2.mp z.2⟩), Int.mul_zero]
theorem sumR_add (f : Nat → Int) (a : Nat) : ∀ b, sumR f (a + b) = sumR f a + sumR (fun j => f (a + j)) b
  | 0 => by
    show sumR f a = sumR f a + 0
    rw [Int.add_zero]
  | b + 1 => by
    have s1 : ∀ (g : Nat → Int) (n : Nat), sumR g (n + 1) = sumR g n + g n := fun g n => by
      unfold sumR
      rw [List.range_succ, List.map_append, List.sum_append]
      simp
    rw [show a + (b + 1) = a + b + 1 by omega, s1, s1, sumR_add f a b, Int.add_assoc]
theorem sumR_zero {f : Nat → Int} : ∀ n, (∀ j, j < n → f j = 0) → sumR f n = 0
  | 0, _ => rfl
  | n + 1, h => by
    rw [sumR_add f n 1, sumR_zero n fun j hj => h j (by omega)]
    show 0 + sumR (fun j => f (n + j)) 1 = 0
    have : sumR (fun j => f (n + j)) 1 = f n := by unfold sumR; simp
    rw [this, h n (by omega)]
    rfl
/-- only each d-th term counts -/
theorem sumR_mult {f : Nat → Int} {d : Nat} (hd : 1 ≤ d) (h : ∀ j, ¬ d ∣ j + 1 → f j = 0) : ∀ m, sumR f (d * m) = sumR (fun i => f (d * (i + 1) - 1)) m
  | 0 => rfl
  | m + 1 => by
    have e : d * (m + 1) = d * m + (d - 1) + 1 := by rw [Nat.mul_add]; omega
    have s1 : ∀ (g : Nat → Int), sumR g 1 = g 0 := fun g => by unfold sumR; simp
    rw [e, sumR_add f (d * m + (d - 1)) 1, s1, sumR_add f (d * m) (d - 1), sumR_mult hd h m, sumR_add _ m 1, s1]
    have z : sumR (fun j => f (d * m + j)) (d - 1) = 0 := sumR_zero _ fun j hj => h _ fun ⟨k, hk⟩ => by
      have h1 : d * m < d * k := by omega
      have h2 : d * k < d * (m + 1) := by rw [Nat.mul_add]; omega
      have h3 := Nat.lt_of_mul_lt_mul_left h1
      have h4 := Nat.lt_of_mul_lt_mul_left h2
      omega
    rw [z, Int.add_zero]
    congr 1
    show f (d * m + (d - 1) + 0) = f (d * (m + 0 + 1) - 1)
    congr 1
    rw [Nat.add_zero, Nat.add_zero, Nat.mul_add]
    omega
theorem spread_is {p : List (Nat × Int)} {k : Nat → Int} {d M : Nat} (hd : 1 ≤ d) (h : ∀ i, i < M → alV (Sf p) k i = k i) : ∀ i, i < M → alV (Sf (p.map (spq d))) (spF d k) i = spF d k i := fun i hi => by
  by_cases h0 : i = 0
  · subst h0
    have := h 0 hi
    unfold alV at this ⊢
    rw [if_pos rfl] at this ⊢
    unfold spF
    rw [if_pos (Nat.zero_mod d), Nat.zero_div]
    exact this
  by_cases hdi : d ∣ i
  · obtain ⟨m, rfl⟩ := hdi
    have hm0 : m ≠ 0 := fun z => h0 (by rw [z, Nat.mul_zero])
    have hm : m < M := Nat.lt_of_le_of_lt (Nat.le_mul_of_pos_left m hd) hi
    have hk := h m hm
    have e1 : spF d k (d * m) = k m := by unfold spF; rw [if_pos (Nat.mul_mod_right d m), Nat.mul_div_cancel_left m hd]
    rw [e1, ← hk]
    unfold alV
    rw [if_neg h0, if_neg hm0]
    have e2 : sumR (fun j => Sf (p.map (spq d)) (j + 1) * spF d k (d * m - (j + 1))) (d * m) = d * sumR (fun j => Sf p (j + 1) * k (m - (j + 1))) m := by
      rw [sumR_mult hd (fun j hj => by
        show Sf (p.map (spq d)) (j + 1) * _ = 0
        unfold Sf
        rw [Sf_no hj p _ rfl, Int.zero_mul]) m]
      have e3 : ∀ i, i < m → Sf (p.map (spq d)) (d * (i + 1) - 1 + 1) * spF d k (d * m - (d * (i + 1) - 1 + 1)) = d * (Sf p (i + 1) * k (m - (i + 1))) := fun i hi => by
        have e4 : d * (i + 1) - 1 + 1 = d * (i + 1) := by
          have : 1 ≤ d * (i + 1) := Nat.mul_pos hd (by omega)
          omega
        rw [e4]
        unfold Sf
        rw [Sf_yes (m := i + 1) hd p (fun _ => 0) (fun _ => 0) (by simp), ← Nat.mul_sub]
        unfold spF
        rw [if_pos (Nat.mul_mod_right d _), Nat.mul_div_cancel_left _ hd, Int.mul_assoc]
      unfold sumR
      rw [List.map_congr_left (g := fun i => d * (Sf p (i + 1) * k (m - (i + 1)))) fun i hi => e3 i (List.mem_range.mp hi)]
      generalize List.range m = l
      induction l with
      | nil => simp
      | cons a l ih => rw [List.map_cons, List.sum_cons, ih, List.map_cons, List.sum_cons, Int.mul_add]
    rw [e2, Int.natCast_mul, ← Int.mul_neg, Int.mul_ediv_mul_of_pos _ _ (by omega)]
  · have e1 : spF d k i = 0 := by unfold spF; rw [if_neg (fun z => hdi (Nat.dvd_of_mod_eq_zero z))]
    rw [e1]
    unfold alV
    rw [if_neg h0, sumR_zero i fun j hj => ?_]
    · simp
    · by_cases hj2 : d ∣ j + 1
      · have : ¬ d ∣ i - (j + 1) := fun z => hdi (by
          have := Nat.dvd_add z hj2
          rw [show i - (j + 1) + (j + 1) = i by omega] at this
          exact this)
        unfold spF
        rw [if_neg (fun z => this (Nat.dvd_of_mod_eq_zero z)), Int.mul_zero]
      · unfold Sf
        rw [Sf_no hj2 p _ rfl, Int.zero_mul]
end L2.MX.Lw
end
section
set_option Elab.async false
set_option linter.all false
set_option maxRecDepth 100000
namespace L2.MX.Lw
open PySem PySem.Spec PyProof.Rows
/-! ### numbers: times and over by lists -/
def sumF (sg : List (Nat × Int)) (F : Nat → Int) (n : Nat) : Int := (sg.map fun q => if q.1 ≤ n then q.2 * F (n - q.1) else 0).sum
theorem tm_sum (f : Nat → Int) (n : Nat) : ∀ (sg : List (Nat × Int)) (F : Nat → Int), sg.foldl (stepT f) F n = F n + sumF sg f n
  | [], F => by
    show F n = F n + 0
    rw [Int.add_zero]
  | q :: sg, F => by
    rw [List.foldl_cons, tm_sum f n sg]
    show F n + (if q.1 ≤ n then q.2 * f (n - q.1) else 0) + sumF sg f n = F n + ((if q.1 ≤ n then q.2 * f (n - q.1) else 0) + sumF sg f n)
    rw [Int.add_assoc]
def Asc (sg : List (Nat × Int)) : Prop := sg.Pairwise fun a b => a.1 ≤ b.1
theorem sum_late {F : Nat → Int} {n : Nat} : ∀ sg : List (Nat × Int), (∀ q ∈ sg, n < q.1) → sumF sg F n = 0
  | [], _ => rfl
  | q :: sg, h => by
    have h0 := h q List.mem_cons_self
    have ih := sum_late (F := F) sg fun x hx => h x (List.mem_cons_of_mem _ hx)
    show (if q.1 ≤ n then q.2 * F (n - q.1) else 0) + sumF sg F n = 0
    rw [if_neg (by omega), ih]
    rfl
theorem ov_sum {F : Nat → Int} {n : Nat} : ∀ (sg : List (Nat × Int)) (x : Int), Asc sg → ovS F n sg x = x - sumF sg F n
  | [], x, _ => by
    show x = x - 0
    rw [Int.sub_zero]
  | q :: sg, x, h => by
    have hp := List.pairwise_cons.mp h
    by_cases hq : q.1 ≤ n
    · have e : ovS F n (q :: sg) x = ovS F n sg (x - q.2 * F (n - q.1)) := by
        unfold ovS
        rw [List.takeWhile_cons_of_pos (by simpa using hq), List.foldl_cons]
      rw [e, ov_sum sg _ hp.2]
      show x - q.2 * F (n - q.1) - sumF sg F n = x - ((if q.1 ≤ n then q.2 * F (n - q.1) else 0) + sumF sg F n)
      rw [if_pos hq]
      omega
    · have e : ovS F n (q :: sg) x = x := by
        unfold ovS
        rw [List.takeWhile_cons_of_neg (by simpa using hq)]
        rfl
      rw [e, sum_late (q :: sg) fun y hy => ?_, Int.sub_zero]
      rcases List.mem_cons.mp hy with e | hy
      · rw [e]; omega
      · have := hp.1 y hy; omega
theorem sumF_congr {F G : Nat → Int} {n : Nat} : ∀ sg : List (Nat × Int), (∀ q ∈ sg, 1 ≤ q.1) → (∀ i, i < n → F i = G i) → sumF sg F n = sumF sg G n
  | [], _, _ => rfl
  | q :: sg, h1, h => by
    have h0 := h1 q List.mem_cons_self
    show (if q.1 ≤ n then q.2 * F (n - q.1) else 0) + sumF sg F n = (if q.1 ≤ n then q.2 * G (n - q.1) else 0) + sumF sg G n
    rw [sumF_congr sg (fun x hx => h1 x (List.mem_cons_of_mem _ hx)) h]
    congr 1
    by_cases hq : q.1 ≤ n
    · rw [if_pos hq, if_pos hq, h _ (by omega)]
    · rw [if_neg hq, if_neg hq]
/-- over is times' inverse -/
theorem ov_is {f g : Nat → Int} {sg : List (Nat × Int)} {M : Nat} (ha : Asc sg) (h1 : ∀ q ∈ sg, 1 ≤ q.1) (h : ∀ i, i < M → tmF g sg i = f i) : ∀ n, n ≤ M → ∀ i, (i < n → ovF f sg n i = g i) ∧ (n ≤ i → ovF f sg n i = f i)
  | 0, _, i => ⟨fun h => by omega, fun _ => rfl⟩
  | n + 1, hn, i => by
    have ih := ov_is ha h1 h n (by omega)
    have step : ovS (ovF f sg n) n sg (ovF f sg n n) = g n := by
      rw [ov_sum sg _ ha, (ih n).2 (Nat.le_refl n), sumF_congr (G := g) sg h1 fun i hi => (ih i).1 hi, ← h n (by omega)]
      show sg.foldl (stepT g) g n - _ = _
      rw [tm_sum]
      omega
    refine ⟨fun hi => ?_, fun hi => ?_⟩
    · show (if i = n then _ else ovF f sg n i) = g i
      by_cases e : i = n
      · rw [if_pos e, step, e]
      · rw [if_neg e]; exact (ih i).1 (by omega)
    · show (if i = n then _ else ovF f sg n i) = f i
      rw [if_neg (by omega)]
      exact (ih i).2 (by omega)
/-! lists -/
def addSh (s : Int) : Nat → List Int → List Int → List Int
  | 0, a :: as, b :: bs => (a + s * b) :: addSh s 0 as bs
  | p + 1, a :: as, f => a :: addSh s p as f
  | _, as, _ => as
def tmLs (f : List Int) (sg : List (Nat × Int)) : List Int := sg.foldl (fun acc q => addSh q.2 q.1 acc f) f
theorem addSh_len (s : Int) : ∀ (p : Nat) (as f : List Int), (addSh s p as f).length = as.length
  | 0, [], f => by unfold addSh; rfl
  | 0, a :: as, [] => by unfold addSh; rfl
  | 0, a :: as, b :: bs => by
    show ((a + s * b) :: addSh s 0 as bs).length = _
    rw [List.length_cons, addSh_len s 0 as bs, List.length_cons]
  | p + 1, [], f => by unfold addSh; rfl
  | p + 1, a :: as, f => by
    show (a :: addSh s p as f).length = _
    rw [List.length_cons, addSh_len s p as f, List.length_cons]
theorem addSh_get (s : Int) (F A : Nat → Int) : ∀ (p : Nat) (as f : List Int) (o : Nat), as.length ≤ f.length + p → (∀ n, n < as.length → as[n]? = some (A n)) → (∀ n, n < f.length → f[n]? = some (F (n + o))) → ∀ n, n < as.length → (addSh s p as f)[n]? = some (A n + if p ≤ n then s * F (n - p + o) else 0)
  | 0, [], f, o, _, _, _, n, hn => by simp at hn
  | p + 1, [], f, o, _, _, _, n, hn => by simp at hn
  | 0, a :: as, [], o, h, _, _, n, hn => by simp at h
  | 0, a :: as, b :: bs, o, h, hA, hF, n, hn => by
    show ((a + s * b) :: addSh s 0 as bs)[n]? = _
    have ea : a = A 0 := by simpa using hA 0 (by simp)
    have eb : b = F o := by simpa using hF 0 (by simp)
    cases n with
    | zero => rw [ea, eb]; simp
    | succ n =>
      have := addSh_get s F (fun n => A (n + 1)) 0 as bs (o + 1) (by simp at h ⊢; omega) (fun n hn => by simpa using hA (n + 1) (by simp; omega)) (fun n hn => by
        have := hF (n + 1) (by simp; omega)
        rw [show n + 1 + o = n + (o + 1) by omega] at this
        simpa using this) n (by simpa using hn)
      rw [List.getElem?_cons_succ, this, if_pos (Nat.zero_le _), if_pos (Nat.zero_le _)]
      congr 4
      omega
  | p + 1, a :: as, f, o, h, hA, hF, n, hn => by
    show (a :: addSh s p as f)[n]? = _
    have ea : a = A 0 := by simpa using hA 0 (by simp)
    cases n with
    | zero => rw [ea, if_neg (by omega)]; simp
    | succ n =>
      have := addSh_get s F (fun n => A (n + 1)) p as f o (by simp at h; omega) (fun n hn => by simpa using hA (n + 1) (by simp; omega)) hF n (by simpa using hn)
      rw [List.getElem?_cons_succ, this]
      congr 2
      by_cases hp : p ≤ n
      · rw [if_pos hp, if_pos (by omega), show n + 1 - (p + 1) = n - p by omega]
      · rw [if_neg hp, if_neg (by omega)]
theorem tmLs_get {F : Nat → Int} {f : List Int} (hF : ∀ n, n < f.length → f[n]? = some (F n)) : ∀ (sg : List (Nat × Int)) (acc : List Int) (A : Nat → Int), acc.length = f.length → (∀ n, n < acc.length → acc[n]? = some (A n)) → ∀ n, n < f.length → (sg.foldl (fun acc q => addSh q.2 q.1 acc f) acc)[n]? = some (sg.foldl (stepT F) A n)
  | [], acc, A, hl, hA, n, hn => hA n (by omega)
  | q :: sg, acc, A, hl, hA, n, hn => by
    refine tmLs_get hF sg (addSh q.2 q.1 acc f) (stepT F A q) (by rw [addSh_len, hl]) (fun m hm => ?_) n hn
    rw [addSh_len] at hm
    exact addSh_get q.2 F A q.1 acc f 0 (by omega) hA (fun n hn => hF n hn) m hm
theorem tmLs_ok {F G : Nat → Int} {f g : List Int} {sg : List (Nat × Int)} (hF : ∀ n, n < f.length → f[n]? = some (F n)) (hG : ∀ n, n < g.length → g[n]? = some (G n)) (h : tmLs f sg = g) : ∀ n, n < f.length → tmF F sg n = G n := fun n hn => by
  have h1 := tmLs_get hF sg f F rfl hF n hn
  have h2 : (tmLs f sg)[n]? = some (tmF F sg n) := h1
  rw [h] at h2
  have hn2 : n < g.length := (List.getElem?_eq_some_iff.mp h2).1
  rw [hG n hn2] at h2
  exact (Option.some.inj h2).symm
end L2.MX.Lw
end
section
set_option Elab.async false
set_option linter.all false
set_option maxRecDepth 100000
namespace L2.MX.Lw
open PySem PySem.Spec PyProof.Rows
def Agree (N : Nat) (F : Nat → Int) (l : List Int) : Prop := ∀ n, n < N → l[n]? = some (F n)
theorem asc_eul : Asc (eulL 17) := by
  unfold Asc
  decide +kernel
theorem SG_asc (d : Nat) : Asc (SG d) := List.pairwise_map.mpr (asc_eul.imp fun {a b} h => Nat.mul_le_mul_right d h)
theorem SG_pos {d : Nat} (hd : 1 ≤ d) : ∀ q ∈ SG d, 1 ≤ q.1 := fun q hq => by
  obtain ⟨p, hp, rfl⟩ := List.mem_map.mp hq
  obtain ⟨k, h1, h2, h3, h4⟩ := eul_mem 17 p hp
  have a1 := g1_ge k
  have a2 := g1_g2 k
  exact Nat.mul_pos (by omega) hd
def lfun (l : List Int) (n : Nat) : Int := (l[n]?).getD 0
theorem lfun_get {l : List Int} {n : Nat} (h : n < l.length) : l[n]? = some (lfun l n) := by
  unfold lfun
  rw [List.getElem?_eq_getElem h]
  rfl
theorem agree_len {N : Nat} {F : Nat → Int} {l : List Int} (h : Agree N F l) (hl : N ≤ l.length) : ∀ n, n < N → lfun l n = F n := fun n hn => by
  unfold lfun
  rw [h n hn]
  rfl
theorem lap_times {N d : Nat} {r : Int} {F : Nat → Int} {l l' : List Int} {sg : List (Nat × Int)} (hsg : SG d = sg) (hN : N ≤ 400) (hl : l.length = 400) (hd : 1 ≤ d) (h : tmLs l sg = l') (hr : 0 < r) (ha : Agree N F l) : Agree N (LP N (d, r) F) l' := fun n hn => by
  have h1 := tmLs_get (F := lfun l) (f := l) (fun n hn => lfun_get hn) sg l (lfun l) rfl (fun n hn => lfun_get hn) n (by omega)
  have h2 : (tmLs l sg)[n]? = some (tmF (lfun l) sg n) := h1
  rw [h] at h2
  rw [h2]
  unfold LP
  rw [if_pos hr, hsg]
  unfold tmF
  rw [tm_sum, tm_sum, agree_len ha (by omega) n hn, sumF_congr (G := F) sg (by rw [← hsg]; exact SG_pos hd) fun i hi => agree_len ha (by omega) i (by omega)]
theorem lap_over {N d : Nat} {r : Int} {F : Nat → Int} {l l' : List Int} {sg : List (Nat × Int)} (hsg : SG d = sg) (hN : N ≤ 400) (hl : l.length = 400) (hl' : l'.length = 400) (hd : 1 ≤ d) (h : tmLs l' sg = l) (hr : ¬ 0 < r) (ha : Agree N F l) : Agree N (LP N (d, r) F) l' := fun n hn => by
  have key : ∀ i, i < N → tmF (lfun l') sg i = F i := fun i hi => by
    rw [← agree_len ha (by omega) i hi]
    exact tmLs_ok (F := lfun l') (G := lfun l) (fun n hn => lfun_get hn) (fun n hn => lfun_get hn) h i (by omega)
  have h1 := (ov_is (f := F) (g := lfun l') (sg := sg) (M := N) (by rw [← hsg]; exact SG_asc d) (by rw [← hsg]; exact SG_pos hd) key N (Nat.le_refl N) n).1 hn
  unfold LP
  rw [if_neg hr, hsg, h1]
  exact lfun_get (by omega)
theorem agree_of {F : Nat → Int} {l : List Int} {N : Nat} (h : (List.range 400).map F = l) (hN : N ≤ 400) : Agree N F l := fun n hn => by
  rw [← h, List.getElem?_map, List.getElem?_range (by omega)]
  rfl
theorem bf_1 {N d1 n1 : Nat} {r1 : Int} (h1 : r1.natAbs = n1) : bfF N [(d1, r1)] = itF (LP N (d1, r1)) n1 dl := by
  subst h1
  rfl
theorem bf_2 {N d1 n1 d2 n2 : Nat} {r1 r2 : Int} (h1 : r1.natAbs = n1) (h2 : r2.natAbs = n2) : bfF N [(d1, r1), (d2, r2)] = itF (LP N (d2, r2)) n2 (itF (LP N (d1, r1)) n1 dl) := by
  subst h1
  subst h2
  rfl
theorem bf_3 {N d1 n1 d2 n2 d3 n3 : Nat} {r1 r2 r3 : Int} (h1 : r1.natAbs = n1) (h2 : r2.natAbs = n2) (h3 : r3.natAbs = n3) : bfF N [(d1, r1), (d2, r2), (d3, r3)] = itF (LP N (d3, r3)) n3 (itF (LP N (d2, r2)) n2 (itF (LP N (d1, r1)) n1 dl)) := by
  subst h1
  subst h2
  subst h3
  rfl
theorem lapT {N d n : Nat} {r : Int} {F : Nat → Int} {l l' : List Int} {sg : List (Nat × Int)} (hsg : SG d = sg) (hN : N ≤ 400) (hl : l.length = 400) (hd : 1 ≤ d) (h : tmLs l sg = l') (hr : 0 < r) (ha : Agree N (itF (LP N (d, r)) n F) l) : Agree N (itF (LP N (d, r)) (n + 1) F) l' := by
  show Agree N (LP N (d, r) (itF (LP N (d, r)) n F)) l'
  exact lap_times hsg hN hl hd h hr ha
theorem lapO {N d n : Nat} {r : Int} {F : Nat → Int} {l l' : List Int} {sg : List (Nat × Int)} (hsg : SG d = sg) (hN : N ≤ 400) (hl : l.length = 400) (hl' : l'.length = 400) (hd : 1 ≤ d) (h : tmLs l' sg = l) (hr : ¬ 0 < r) (ha : Agree N (itF (LP N (d, r)) n F) l) : Agree N (itF (LP N (d, r)) (n + 1) F) l' := by
  show Agree N (LP N (d, r) (itF (LP N (d, r)) n F)) l'
  exact lap_over hsg hN hl hl' hd h hr ha
end L2.MX.Lw
end
section
set_option Elab.async false
set_option linter.all false
set_option maxRecDepth 10000000
set_option maxHeartbeats 0
namespace L2.MX.Lw
open PySem PySem.Spec PyProof.Rows
def lD : List Int := [1, 0, 0, 0, 0, 0, 0, 0, 0, 0, 0, 0, 0, 0, 0, 0, 0, 0, 0, 0, 0, 0, 0, 0, 0, 0, 0, 0, 0, 0, 0, 0, 0, 0, 0, 0, 0, 0, 0, 0, 0, 0, 0, 0, 0, 0, 0, 0, 0, 0, 0, 0, 0, 0, 0, 0, 0, 0, 0, 0, 0, 0, 0, 0, 0, 0, 0, 0, 0, 0, 0, 0, 0, 0, 0, 0, 0, 0, 0, 0, 0, 0, 0, 0, 0, 0, 0, 0, 0, 0, 0, 0, 0, 0, 0, 0, 0, 0, 0, 0, 0, 0, 0, 0, 0, 0, 0, 0, 0, 0, 0, 0, 0, 0, 0, 0, 0, 0, 0, 0, 0, 0, 0, 0, 0, 0, 0, 0, 0, 0, 0, 0, 0, 0, 0, 0, 0, 0, 0, 0, 0, 0, 0, 0, 0, 0, 0, 0, 0, 0, 0, 0, 0, 0, 0, 0, 0, 0, 0, 0, 0, 0, 0, 0, 0, 0, 0, 0, 0, 0, 0, 0, 0, 0, 0, 0, 0, 0, 0, 0, 0, 0, 0, 0, 0, 0, 0, 0, 0, 0, 0, 0, 0, 0, 0, 0, 0, 0, 0, 0, 0, 0, 0, 0, 0, 0, 0, 0, 0, 0, 0, 0, 0, 0, 0, 0, 0, 0, 0, 0, 0, 0, 0, 0, 0, 0, 0, 0, 0, 0, 0, 0, 0, 0, 0, 0, 0, 0, 0, 0, 0, 0, 0, 0, 0, 0, 0, 0, 0, 0, 0, 0, 0, 0, 0, 0, 0, 0, 0, 0, 0, 0, 0, 0, 0, 0, 0, 0, 0, 0, 0, 0, 0, 0, 0, 0, 0, 0, 0, 0, 0, 0, 0, 0, 0, 0, 0, 0, 0, 0, 0, 0, 0, 0, 0, 0, 0, 0, 0, 0, 0, 0, 0, 0, 0, 0, 0, 0, 0, 0, 0, 0, 0, 0, 0, 0, 0, 0, 0, 0, 0, 0, 0, 0, 0, 0, 0, 0, 0, 0, 0, 0, 0, 0, 0, 0, 0, 0, 0, 0, 0, 0, 0, 0, 0, 0, 0, 0, 0, 0, 0, 0, 0, 0, 0, 0, 0, 0, 0, 0, 0, 0, 0, 0, 0, 0, 0, 0, 0, 0, 0, 0, 0, 0, 0, 0, 0, 0, 0, 0, 0, 0, 0, 0, 0, 0, 0, 0, 0, 0, 0, 0, 0, 0, 0, 0, 0, 0, 0, 0]
theorem n_lD : lD.length = 400 := by decide +kernel
theorem lD_eq : (List.range 400).map dl = lD := by decide +kernel
def sgL1 : List (Nat × Int) := [(1, -1), (2, -1), (5, 1), (7, 1), (12, -1), (15, -1), (22, 1), (26, 1), (35, -1), (40, -1), (51, 1), (57, 1), (70, -1), (77, -1), (92, 1), (100, 1), (117, -1), (126, -1), (145, 1), (155, 1), (176, -1), (187, -1), (210, 1), (222, 1), (247, -1), (260, -1), (287, 1), (301, 1), (330, -1), (345, -1), (376, 1), (392, 1), (425, -1), (442, -1)]
theorem sgL1_eq : SG 1 = sgL1 := by decide +kernel
def sgL2 : List (Nat × Int) := [(2, -1), (4, -1), (10, 1), (14, 1), (24, -1), (30, -1), (44, 1), (52, 1), (70, -1), (80, -1), (102, 1), (114, 1), (140, -1), (154, -1), (184, 1), (200, 1), (234, -1), (252, -1), (290, 1), (310, 1), (352, -1), (374, -1), (420, 1), (444, 1), (494, -1), (520, -1), (574, 1), (602, 1), (660, -1), (690, -1), (752, 1), (784, 1), (850, -1), (884, -1)]
theorem sgL2_eq : SG 2 = sgL2 := by decide +kernel
def sgL4 : List (Nat × Int) := [(4, -1), (8, -1), (20, 1), (28, 1), (48, -1), (60, -1), (88, 1), (104, 1), (140, -1), (160, -1), (204, 1), (228, 1), (280, -1), (308, -1), (368, 1), (400, 1), (468, -1), (504, -1), (580, 1), (620, 1), (704, -1), (748, -1), (840, 1), (888, 1), (988, -1), (1040, -1), (1148, 1), (1204, 1), (1320, -1), (1380, -1), (1504, 1), (1568, 1), (1700, -1), (1768, -1)]
theorem sgL4_eq : SG 4 = sgL4 := by decide +kernel
def K0 : List Int := [1, -1, -1, 0, 0, 1, 0, 1, 0, 0, 0, 0, -1, 0, 0, -1, 0, 0, 0, 0, 0, 0, 1, 0, 0, 0, 1, 0, 0, 0, 0, 0, 0, 0, 0, -1, 0, 0, 0, 0, -1, 0, 0, 0, 0, 0, 0, 0, 0, 0, 0, 1, 0, 0, 0, 0, 0, 1, 0, 0, 0, 0, 0, 0, 0, 0, 0, 0, 0, 0, -1, 0, 0, 0, 0, 0, 0, -1, 0, 0, 0, 0, 0, 0, 0, 0, 0, 0, 0, 0, 0, 0, 1, 0, 0, 0, 0, 0, 0, 0, 1, 0, 0, 0, 0, 0, 0, 0, 0, 0, 0, 0, 0, 0, 0, 0, 0, -1, 0, 0, 0, 0, 0, 0, 0, 0, -1, 0, 0, 0, 0, 0, 0, 0, 0, 0, 0, 0, 0, 0, 0, 0, 0, 0, 0, 1, 0, 0, 0, 0, 0, 0, 0, 0, 0, 1, 0, 0, 0, 0, 0, 0, 0, 0, 0, 0, 0, 0, 0, 0, 0, 0, 0, 0, 0, 0, -1, 0, 0, 0, 0, 0, 0, 0, 0, 0, 0, -1, 0, 0, 0, 0, 0, 0, 0, 0, 0, 0, 0, 0, 0, 0, 0, 0, 0, 0, 0, 0, 0, 0, 1, 0, 0, 0, 0, 0, 0, 0, 0, 0, 0, 0, 1, 0, 0, 0, 0, 0, 0, 0, 0, 0, 0, 0, 0, 0, 0, 0, 0, 0, 0, 0, 0, 0, 0, 0, 0, -1, 0, 0, 0, 0, 0, 0, 0, 0, 0, 0, 0, 0, -1, 0, 0, 0, 0, 0, 0, 0, 0, 0, 0, 0, 0, 0, 0, 0, 0, 0, 0, 0, 0, 0, 0, 0, 0, 0, 0, 1, 0, 0, 0, 0, 0, 0, 0, 0, 0, 0, 0, 0, 0, 1, 0, 0, 0, 0, 0, 0, 0, 0, 0, 0, 0, 0, 0, 0, 0, 0, 0, 0, 0, 0, 0, 0, 0, 0, 0, 0, 0, 0, -1, 0, 0, 0, 0, 0, 0, 0, 0, 0, 0, 0, 0, 0, 0, -1, 0, 0, 0, 0, 0, 0, 0, 0, 0, 0, 0, 0, 0, 0, 0, 0, 0, 0, 0, 0, 0, 0, 0, 0, 0, 0, 0, 0, 0, 0, 1, 0, 0, 0, 0, 0, 0, 0, 0, 0, 0, 0, 0, 0, 0, 0, 1, 0, 0, 0, 0, 0, 0, 0]
theorem n_K0 : K0.length = 400 := by decide +kernel
theorem K0_eq : (List.range 400).map EP = K0 := by decide +kernel
def K1 : List Int := [1, -3, 0, 5, 0, 0, -7, 0, 0, 0, 9, 0, 0, 0, 0, -11, 0, 0, 0, 0, 0, 13, 0, 0, 0, 0, 0, 0, -15, 0, 0, 0, 0, 0, 0, 0, 17, 0, 0, 0, 0, 0, 0, 0, 0, -19, 0, 0, 0, 0, 0, 0, 0, 0, 0, 21, 0, 0, 0, 0, 0, 0, 0, 0, 0, 0, -23, 0, 0, 0, 0, 0, 0, 0, 0, 0, 0, 0, 25, 0, 0, 0, 0, 0, 0, 0, 0, 0, 0, 0, 0, -27, 0, 0, 0, 0, 0, 0, 0, 0, 0, 0, 0, 0, 0, 29, 0, 0, 0, 0, 0, 0, 0, 0, 0, 0, 0, 0, 0, 0, -31, 0, 0, 0, 0, 0, 0, 0, 0, 0, 0, 0, 0, 0, 0, 0, 33, 0, 0, 0, 0, 0, 0, 0, 0, 0, 0, 0, 0, 0, 0, 0, 0, -35, 0, 0, 0, 0, 0, 0, 0, 0, 0, 0, 0, 0, 0, 0, 0, 0, 0, 37, 0, 0, 0, 0, 0, 0, 0, 0, 0, 0, 0, 0, 0, 0, 0, 0, 0, 0, -39, 0, 0, 0, 0, 0, 0, 0, 0, 0, 0, 0, 0, 0, 0, 0, 0, 0, 0, 0, 41, 0, 0, 0, 0, 0, 0, 0, 0, 0, 0, 0, 0, 0, 0, 0, 0, 0, 0, 0, 0, -43, 0, 0, 0, 0, 0, 0, 0, 0, 0, 0, 0, 0, 0, 0, 0, 0, 0, 0, 0, 0, 0, 45, 0, 0, 0, 0, 0, 0, 0, 0, 0, 0, 0, 0, 0, 0, 0, 0, 0, 0, 0, 0, 0, 0, -47, 0, 0, 0, 0, 0, 0, 0, 0, 0, 0, 0, 0, 0, 0, 0, 0, 0, 0, 0, 0, 0, 0, 0, 49, 0, 0, 0, 0, 0, 0, 0, 0, 0, 0, 0, 0, 0, 0, 0, 0, 0, 0, 0, 0, 0, 0, 0, 0, -51, 0, 0, 0, 0, 0, 0, 0, 0, 0, 0, 0, 0, 0, 0, 0, 0, 0, 0, 0, 0, 0, 0, 0, 0, 0, 53, 0, 0, 0, 0, 0, 0, 0, 0, 0, 0, 0, 0, 0, 0, 0, 0, 0, 0, 0, 0, 0, 0, 0, 0, 0, 0, -55, 0, 0, 0, 0, 0, 0, 0, 0, 0, 0, 0, 0, 0, 0, 0, 0, 0, 0, 0, 0, 0]
theorem n_K1 : K1.length = 400 := by decide +kernel
theorem K1_eq : (List.range 400).map (cF 28) = K1 := by decide +kernel
def K2 : List Int := [1, 2, 0, 0, 2, 0, 0, 0, 0, 2, 0, 0, 0, 0, 0, 0, 2, 0, 0, 0, 0, 0, 0, 0, 0, 2, 0, 0, 0, 0, 0, 0, 0, 0, 0, 0, 2, 0, 0, 0, 0, 0, 0, 0, 0, 0, 0, 0, 0, 2, 0, 0, 0, 0, 0, 0, 0, 0, 0, 0, 0, 0, 0, 0, 2, 0, 0, 0, 0, 0, 0, 0, 0, 0, 0, 0, 0, 0, 0, 0, 0, 2, 0, 0, 0, 0, 0, 0, 0, 0, 0, 0, 0, 0, 0, 0, 0, 0, 0, 0, 2, 0, 0, 0, 0, 0, 0, 0, 0, 0, 0, 0, 0, 0, 0, 0, 0, 0, 0, 0, 0, 2, 0, 0, 0, 0, 0, 0, 0, 0, 0, 0, 0, 0, 0, 0, 0, 0, 0, 0, 0, 0, 0, 0, 2, 0, 0, 0, 0, 0, 0, 0, 0, 0, 0, 0, 0, 0, 0, 0, 0, 0, 0, 0, 0, 0, 0, 0, 0, 2, 0, 0, 0, 0, 0, 0, 0, 0, 0, 0, 0, 0, 0, 0, 0, 0, 0, 0, 0, 0, 0, 0, 0, 0, 0, 0, 2, 0, 0, 0, 0, 0, 0, 0, 0, 0, 0, 0, 0, 0, 0, 0, 0, 0, 0, 0, 0, 0, 0, 0, 0, 0, 0, 0, 0, 2, 0, 0, 0, 0, 0, 0, 0, 0, 0, 0, 0, 0, 0, 0, 0, 0, 0, 0, 0, 0, 0, 0, 0, 0, 0, 0, 0, 0, 0, 0, 2, 0, 0, 0, 0, 0, 0, 0, 0, 0, 0, 0, 0, 0, 0, 0, 0, 0, 0, 0, 0, 0, 0, 0, 0, 0, 0, 0, 0, 0, 0, 0, 0, 2, 0, 0, 0, 0, 0, 0, 0, 0, 0, 0, 0, 0, 0, 0, 0, 0, 0, 0, 0, 0, 0, 0, 0, 0, 0, 0, 0, 0, 0, 0, 0, 0, 0, 0, 2, 0, 0, 0, 0, 0, 0, 0, 0, 0, 0, 0, 0, 0, 0, 0, 0, 0, 0, 0, 0, 0, 0, 0, 0, 0, 0, 0, 0, 0, 0, 0, 0, 0, 0, 0, 0, 2, 0, 0, 0, 0, 0, 0, 0, 0, 0, 0, 0, 0, 0, 0, 0, 0, 0, 0, 0, 0, 0, 0, 0, 0, 0, 0, 0, 0, 0, 0, 0, 0, 0, 0, 0, 0, 0, 0]
theorem n_K2 : K2.length = 400 := by decide +kernel
theorem K2_eq : (List.range 400).map SQ = K2 := by decide +kernel
def K3 : List Int := [1, -2, 0, 0, 2, 0, 0, 0, 0, -2, 0, 0, 0, 0, 0, 0, 2, 0, 0, 0, 0, 0, 0, 0, 0, -2, 0, 0, 0, 0, 0, 0, 0, 0, 0, 0, 2, 0, 0, 0, 0, 0, 0, 0, 0, 0, 0, 0, 0, -2, 0, 0, 0, 0, 0, 0, 0, 0, 0, 0, 0, 0, 0, 0, 2, 0, 0, 0, 0, 0, 0, 0, 0, 0, 0, 0, 0, 0, 0, 0, 0, -2, 0, 0, 0, 0, 0, 0, 0, 0, 0, 0, 0, 0, 0, 0, 0, 0, 0, 0, 2, 0, 0, 0, 0, 0, 0, 0, 0, 0, 0, 0, 0, 0, 0, 0, 0, 0, 0, 0, 0, -2, 0, 0, 0, 0, 0, 0, 0, 0, 0, 0, 0, 0, 0, 0, 0, 0, 0, 0, 0, 0, 0, 0, 2, 0, 0, 0, 0, 0, 0, 0, 0, 0, 0, 0, 0, 0, 0, 0, 0, 0, 0, 0, 0, 0, 0, 0, 0, -2, 0, 0, 0, 0, 0, 0, 0, 0, 0, 0, 0, 0, 0, 0, 0, 0, 0, 0, 0, 0, 0, 0, 0, 0, 0, 0, 2, 0, 0, 0, 0, 0, 0, 0, 0, 0, 0, 0, 0, 0, 0, 0, 0, 0, 0, 0, 0, 0, 0, 0, 0, 0, 0, 0, 0, -2, 0, 0, 0, 0, 0, 0, 0, 0, 0, 0, 0, 0, 0, 0, 0, 0, 0, 0, 0, 0, 0, 0, 0, 0, 0, 0, 0, 0, 0, 0, 2, 0, 0, 0, 0, 0, 0, 0, 0, 0, 0, 0, 0, 0, 0, 0, 0, 0, 0, 0, 0, 0, 0, 0, 0, 0, 0, 0, 0, 0, 0, 0, 0, -2, 0, 0, 0, 0, 0, 0, 0, 0, 0, 0, 0, 0, 0, 0, 0, 0, 0, 0, 0, 0, 0, 0, 0, 0, 0, 0, 0, 0, 0, 0, 0, 0, 0, 0, 2, 0, 0, 0, 0, 0, 0, 0, 0, 0, 0, 0, 0, 0, 0, 0, 0, 0, 0, 0, 0, 0, 0, 0, 0, 0, 0, 0, 0, 0, 0, 0, 0, 0, 0, 0, 0, -2, 0, 0, 0, 0, 0, 0, 0, 0, 0, 0, 0, 0, 0, 0, 0, 0, 0, 0, 0, 0, 0, 0, 0, 0, 0, 0, 0, 0, 0, 0, 0, 0, 0, 0, 0, 0, 0, 0]
theorem n_K3 : K3.length = 400 := by decide +kernel
theorem K3_eq : (List.range 400).map (sgF SQ) = K3 := by decide +kernel
def K4 : List Int := [1, 1, 2, 3, 5, 7, 11, 15, 22, 30, 42, 56, 77, 101, 135, 176, 231, 297, 385, 490, 627, 792, 1002, 1255, 1575, 1958, 2436, 3010, 3718, 4565, 5604, 6842, 8349, 10143, 12310, 14883, 17977, 21637, 26015, 31185, 37338, 44583, 53174, 63261, 75175, 89134, 105558, 124754, 147273, 173525, 204226, 239943, 281589, 329931, 386155, 451276, 526823, 614154, 715220, 831820, 966467, 1121505, 1300156, 1505499, 1741630, 2012558, 2323520, 2679689, 3087735, 3554345, 4087968, 4697205, 5392783, 6185689, 7089500, 8118264, 9289091, 10619863, 12132164, 13848650, 15796476, 18004327, 20506255, 23338469, 26543660, 30167357, 34262962, 38887673, 44108109, 49995925, 56634173, 64112359, 72533807, 82010177, 92669720, 104651419, 118114304, 133230930, 150198136, 169229875, 190569292, 214481126, 241265379, 271248950, 304801365, 342325709, 384276336, 431149389, 483502844, 541946240, 607163746, 679903203, 761002156, 851376628, 952050665, 1064144451, 1188908248, 1327710076, 1482074143, 1653668665, 1844349560, 2056148051, 2291320912, 2552338241, 2841940500, 3163127352, 3519222692, 3913864295, 4351078600, 4835271870, 5371315400, 5964539504, 6620830889, 7346629512, 8149040695, 9035836076, 10015581680, 11097645016, 12292341831, 13610949895, 15065878135, 16670689208, 18440293320, 20390982757, 22540654445, 24908858009, 27517052599, 30388671978, 33549419497, 37027355200, 40853235313, 45060624582, 49686288421, 54770336324, 60356673280, 66493182097, 73232243759, 80630964769, 88751778802, 97662728555, 107438159466, 118159068427, 129913904637, 142798995930, 156919475295, 172389800255, 189334822579, 207890420102, 228204732751, 250438925115, 274768617130, 301384802048, 330495499613, 362326859895, 397125074750, 435157697830, 476715857290, 522115831195, 571701605655, 625846753120, 684957390936, 749474411781, 819876908323, 896684817527, 980462880430, 1071823774337, 1171432692373, 1280011042268, 1398341745571, 1527273599625, 1667727404093, 1820701100652, 1987276856363, 2168627105469, 2366022741845, 2580840212973, 2814570987591, 3068829878530, 3345365983698, 3646072432125, 3972999029388, 4328363658647, 4714566886083, 5134205287973, 5590088317495, 6085253859260, 6622987708040, 7206841706490, 7840656226137, 8528581302375, 9275102575355, 10085065885767, 10963707205259, 11916681236278, 12950095925895, 14070545699287, 15285151248481, 16601598107914, 18028182516671, 19573856161145, 21248279009367, 23061871173849, 25025873760111, 27152408925615, 29454549941750, 31946390696157, 34643126322519, 37561133582570, 40718063627362, 44132934884255, 47826239745920, 51820051838712, 56138148670947, 60806135438329, 65851585970275, 71304185514919, 77195892663512, 83561103925871, 90436839668817, 97862933703585, 105882246722733, 114540884553038, 123888443077259, 133978259344888, 144867692496445, 156618412527946, 169296722391554, 182973889854026, 197726516681672, 213636919820625, 230793554364681, 249291451168559, 269232701252579, 290726957916112, 313891991306665, 338854264248680, 365749566870782, 394723676655357, 425933084409356, 459545750448675, 495741934760846, 534715062908609, 576672674947168, 621837416509615, 670448123060170, 722760953690372, 779050629562167, 839611730366814, 904760108316360, 974834369944625, 1050197489931117, 1131238503938606, 1218374349844333, 1312051800816215, 1412749565173450, 1520980492851175, 1637293969337171, 1762278433057269, 1896564103591584, 2040825852575075, 2195786311682516, 2362219145337711, 2540952590045698, 2732873183547535, 2938929793929555, 3160137867148997, 3397584011986773, 3652430836071053, 3925922161489422, 4219388528587095, 4534253126900886, 4872038056472084, 5234371069753672, 5622992691950605, 6039763882095515, 6486674127079088, 6965850144195831, 7479565078510584, 8030248384943040, 8620496275465025, 9253082936723602, 9930972392403501, 10657331232548839, 11435542077822104, 12269218019229465, 13162217895057704, 14118662665280005, 15142952738857194, 16239786535829663, 17414180133147295, 18671488299600364, 20017426762576945, 21458096037352891, 23000006655487337, 24650106150830490, 26415807633566326, 28305020340996003, 30326181989842964, 32488293351466654, 34800954869440830, 37274405776748077, 39919565526999991, 42748078035954696, 45772358543578028, 49005643635237875, 52462044228828641, 56156602112874289, 60105349839666544, 64325374609114550, 68834885946073850, 73653287861850339, 78801255302666615, 84300815636225119, 90175434980549623, 96450110192202760, 103151466321735325, 110307860425292772, 117949491546113972, 126108517833796355, 134819180623301520, 144117936527873832, 154043597379576030, 164637479165761044, 175943559810422753, 188008647052292980, 200882556287683159, 214618299743286299, 229272286871217150, 244904537455382406, 261578907351144125, 279363328483702152, 298330063062758076, 318555973788329084, 340122810048577428, 363117512048110005, 387632532919029223, 413766180933342362, 441622981929358437, 471314064268398780, 502957566506000020, 536679070310691121, 572612058898037559, 610898403751884101, 651688879997206959, 695143713458946040, 741433159884081684, 790738119649411319, 843250788562528427, 899175348396088349, 958728697912338045, 1022141228367345362, 1089657644424399782, 1161537834849962850, 1238057794119125085, 1319510599727473500, 1406207446561484054, 1498478743590581081, 1596675274490756791, 1701169427975813525, 1812356499739472950, 1930656072350465812, 2056513475336633805, 2190401332423765131, 2332821198543892336, 2484305294265418180, 2645418340688763701, 2816759503217942792, 2998964447736452194, 3192707518433532826, 3398704041358160275, 3617712763867604423, 3850538434667429186, 4098034535626594791, 4361106170762284114, 4640713124699623515, 4937873096788191655, 5253665124416975163, 5589233202595404488, 5945790114707874597, 6324621482504294325]
theorem n_K4 : K4.length = 400 := by decide +kernel
def K5 : List Int := [1, 4, 4, 0, 4, 8, 0, 0, 4, 4, 8, 0, 0, 8, 0, 0, 4, 8, 4, 0, 8, 0, 0, 0, 0, 12, 8, 0, 0, 8, 0, 0, 4, 0, 8, 0, 4, 8, 0, 0, 8, 8, 0, 0, 0, 8, 0, 0, 0, 4, 12, 0, 8, 8, 0, 0, 0, 0, 8, 0, 0, 8, 0, 0, 4, 16, 0, 0, 8, 0, 0, 0, 4, 8, 8, 0, 0, 0, 0, 0, 8, 4, 8, 0, 0, 16, 0, 0, 0, 8, 8, 0, 0, 0, 0, 0, 0, 8, 4, 0, 12, 8, 0, 0, 8, 0, 8, 0, 0, 8, 0, 0, 0, 8, 0, 0, 8, 8, 0, 0, 0, 4, 8, 0, 0, 16, 0, 0, 4, 0, 16, 0, 0, 0, 0, 0, 8, 8, 0, 0, 0, 0, 0, 0, 4, 16, 8, 0, 8, 8, 0, 0, 0, 8, 0, 0, 0, 8, 0, 0, 8, 0, 4, 0, 8, 0, 0, 0, 0, 12, 16, 0, 0, 8, 0, 0, 0, 0, 8, 0, 8, 8, 0, 0, 0, 16, 0, 0, 0, 0, 0, 0, 0, 8, 8, 0, 4, 8, 0, 0, 12, 0, 8, 0, 0, 16, 0, 0, 8, 0, 0, 0, 8, 0, 0, 0, 0, 0, 8, 0, 0, 16, 0, 0, 0, 12, 8, 0, 0, 8, 0, 0, 8, 8, 8, 0, 0, 0, 0, 0, 0, 8, 4, 0, 8, 8, 0, 0, 0, 0, 16, 0, 0, 0, 0, 0, 4, 8, 0, 0, 16, 8, 0, 0, 0, 16, 0, 0, 0, 8, 0, 0, 8, 0, 8, 0, 0, 8, 0, 0, 0, 8, 0, 0, 0, 0, 0, 0, 4, 12, 16, 0, 8, 8, 0, 0, 8, 0, 8, 0, 0, 0, 0, 0, 0, 16, 8, 0, 0, 0, 0, 0, 0, 8, 8, 0, 0, 8, 0, 0, 8, 0, 0, 0, 4, 24, 0, 0, 8, 0, 0, 0, 0, 8, 0, 0, 0, 8, 12, 0, 16, 0, 0, 0, 0, 0, 8, 0, 0, 8, 0, 0, 0, 8, 0, 0, 8, 0, 0, 0, 8, 4, 8, 0, 0, 16, 0, 0, 0, 8, 16, 0, 0, 8, 0, 0, 0, 16, 0, 0, 0, 0, 0, 0, 0, 0, 8, 0, 8, 8, 0, 0, 4, 0, 8, 0, 0, 8, 0, 0]
theorem n_K5 : K5.length = 400 := by decide +kernel
theorem K5_eq : (List.range 400).map (tsF 200) = K5 := by decide +kernel
def K6 : List Int := [1, -4, 4, 0, 4, -8, 0, 0, 4, -4, 8, 0, 0, -8, 0, 0, 4, -8, 4, 0, 8, 0, 0, 0, 0, -12, 8, 0, 0, -8, 0, 0, 4, 0, 8, 0, 4, -8, 0, 0, 8, -8, 0, 0, 0, -8, 0, 0, 0, -4, 12, 0, 8, -8, 0, 0, 0, 0, 8, 0, 0, -8, 0, 0, 4, -16, 0, 0, 8, 0, 0, 0, 4, -8, 8, 0, 0, 0, 0, 0, 8, -4, 8, 0, 0, -16, 0, 0, 0, -8, 8, 0, 0, 0, 0, 0, 0, -8, 4, 0, 12, -8, 0, 0, 8, 0, 8, 0, 0, -8, 0, 0, 0, -8, 0, 0, 8, -8, 0, 0, 0, -4, 8, 0, 0, -16, 0, 0, 4, 0, 16, 0, 0, 0, 0, 0, 8, -8, 0, 0, 0, 0, 0, 0, 4, -16, 8, 0, 8, -8, 0, 0, 0, -8, 0, 0, 0, -8, 0, 0, 8, 0, 4, 0, 8, 0, 0, 0, 0, -12, 16, 0, 0, -8, 0, 0, 0, 0, 8, 0, 8, -8, 0, 0, 0, -16, 0, 0, 0, 0, 0, 0, 0, -8, 8, 0, 4, -8, 0, 0, 12, 0, 8, 0, 0, -16, 0, 0, 8, 0, 0, 0, 8, 0, 0, 0, 0, 0, 8, 0, 0, -16, 0, 0, 0, -12, 8, 0, 0, -8, 0, 0, 8, -8, 8, 0, 0, 0, 0, 0, 0, -8, 4, 0, 8, -8, 0, 0, 0, 0, 16, 0, 0, 0, 0, 0, 4, -8, 0, 0, 16, -8, 0, 0, 0, -16, 0, 0, 0, -8, 0, 0, 8, 0, 8, 0, 0, -8, 0, 0, 0, -8, 0, 0, 0, 0, 0, 0, 4, -12, 16, 0, 8, -8, 0, 0, 8, 0, 8, 0, 0, 0, 0, 0, 0, -16, 8, 0, 0, 0, 0, 0, 0, -8, 8, 0, 0, -8, 0, 0, 8, 0, 0, 0, 4, -24, 0, 0, 8, 0, 0, 0, 0, -8, 0, 0, 0, -8, 12, 0, 16, 0, 0, 0, 0, 0, 8, 0, 0, -8, 0, 0, 0, -8, 0, 0, 8, 0, 0, 0, 8, -4, 8, 0, 0, -16, 0, 0, 0, -8, 16, 0, 0, -8, 0, 0, 0, -16, 0, 0, 0, 0, 0, 0, 0, 0, 8, 0, 8, -8, 0, 0, 4, 0, 8, 0, 0, -8, 0, 0]
theorem n_K6 : K6.length = 400 := by decide +kernel
theorem K6_eq : (List.range 400).map (sgF (tsF 200)) = K6 := by decide +kernel
def thLL : List (Nat × Int) := [(1, -1), (2, -1), (5, 1), (7, 1), (12, -1), (15, -1), (22, 1), (26, 1), (35, -1), (40, -1), (51, 1), (57, 1), (70, -1), (77, -1), (92, 1), (100, 1), (117, -1), (126, -1), (145, 1), (155, 1), (176, -1), (187, -1), (210, 1), (222, 1), (247, -1), (260, -1), (287, 1), (301, 1), (330, -1), (345, -1), (376, 1), (392, 1)]
theorem thLL_eq : thL 400 EP = thLL := by decide +kernel
theorem thLL_K4 : tmLs K4 thLL = lD := by decide +kernel
def Kt : List Int := [1, 1, 0, 1, 0, 0, 1, 0, 0, 0, 1, 0, 0, 0, 0, 1, 0, 0, 0, 0, 0, 1, 0, 0, 0, 0, 0, 0, 1, 0, 0, 0, 0, 0, 0, 0, 1, 0, 0, 0, 0, 0, 0, 0, 0, 1, 0, 0, 0, 0, 0, 0, 0, 0, 0, 1, 0, 0, 0, 0, 0, 0, 0, 0, 0, 0, 1, 0, 0, 0, 0, 0, 0, 0, 0, 0, 0, 0, 1, 0, 0, 0, 0, 0, 0, 0, 0, 0, 0, 0, 0, 1, 0, 0, 0, 0, 0, 0, 0, 0, 0, 0, 0, 0, 0, 1, 0, 0, 0, 0, 0, 0, 0, 0, 0, 0, 0, 0, 0, 0, 1, 0, 0, 0, 0, 0, 0, 0, 0, 0, 0, 0, 0, 0, 0, 0, 1, 0, 0, 0, 0, 0, 0, 0, 0, 0, 0, 0, 0, 0, 0, 0, 0, 1, 0, 0, 0, 0, 0, 0, 0, 0, 0, 0, 0, 0, 0, 0, 0, 0, 0, 1, 0, 0, 0, 0, 0, 0, 0, 0, 0, 0, 0, 0, 0, 0, 0, 0, 0, 0, 1, 0, 0, 0, 0, 0, 0, 0, 0, 0, 0, 0, 0, 0, 0, 0, 0, 0, 0, 0, 1, 0, 0, 0, 0, 0, 0, 0, 0, 0, 0, 0, 0, 0, 0, 0, 0, 0, 0, 0, 0, 1, 0, 0, 0, 0, 0, 0, 0, 0, 0, 0, 0, 0, 0, 0, 0, 0, 0, 0, 0, 0, 0, 1, 0, 0, 0, 0, 0, 0, 0, 0, 0, 0, 0, 0, 0, 0, 0, 0, 0, 0, 0, 0, 0, 0, 1, 0, 0, 0, 0, 0, 0, 0, 0, 0, 0, 0, 0, 0, 0, 0, 0, 0, 0, 0, 0, 0, 0, 0, 1, 0, 0, 0, 0, 0, 0, 0, 0, 0, 0, 0, 0, 0, 0, 0, 0, 0, 0, 0, 0, 0, 0, 0, 0, 1, 0, 0, 0, 0, 0, 0, 0, 0, 0, 0, 0, 0, 0, 0, 0, 0, 0, 0, 0, 0, 0, 0, 0, 0, 0, 1, 0, 0, 0, 0, 0, 0, 0, 0, 0, 0, 0, 0, 0, 0, 0, 0, 0, 0, 0, 0, 0, 0, 0, 0, 0, 0, 1, 0, 0, 0, 0, 0, 0, 0, 0, 0, 0, 0, 0, 0, 0, 0, 0, 0, 0, 0, 0, 0]
def Km : List Int := [1, 3, 3, 4, 6, 3, 6, 9, 3, 7, 9, 6, 9, 9, 6, 6, 15, 9, 7, 12, 3, 15, 15, 6, 12, 12, 9, 12, 15, 6, 13, 21, 12, 6, 15, 9, 12, 24, 9, 18, 12, 9, 18, 15, 12, 13, 24, 9, 15, 24, 6, 18, 27, 6, 12, 15, 18, 24, 21, 15, 12, 27, 9, 13, 18, 15, 27, 27, 9, 12, 27, 15, 24, 21, 12, 15, 30, 15, 12, 30, 9, 24, 33, 12, 28, 15, 15, 30, 18, 12, 12, 36, 15, 27, 36, 12, 18, 30, 15, 12, 30, 21, 30, 21, 18, 18, 30, 21, 19, 36, 9, 27, 42, 9, 24, 30, 21, 24, 15, 12, 27, 45, 24, 24, 24, 12, 36, 39, 12, 30, 24, 15, 18, 36, 21, 19, 51, 18, 24, 30, 15, 24, 48, 18, 24, 21, 21, 45, 27, 24, 18, 42, 18, 12, 36, 12, 45, 45, 18, 30, 33, 27, 24, 33, 18, 28, 36, 24, 18, 36, 18, 36, 48, 12, 36, 42, 12, 36, 45, 12, 24, 39, 33, 15, 45, 21, 36, 39, 12, 36, 21, 33, 51, 36, 12, 18, 51, 27, 25, 48, 18, 45, 45, 21, 24, 30, 24, 24, 39, 21, 30, 54, 33, 30, 48, 15, 24, 60, 15, 48, 36, 24, 30, 21, 24, 24, 69, 30, 36, 30, 18, 42, 45, 15, 37, 42, 30, 45, 39, 18, 30, 63, 24, 24, 36, 18, 48, 69, 21, 24, 27, 21, 48, 33, 24, 45, 54, 24, 24, 63, 21, 36, 57, 27, 30, 42, 39, 24, 42, 36, 24, 42, 21, 40, 48, 15, 48, 72, 18, 36, 45, 21, 63, 33, 30, 18, 54, 33, 24, 54, 24, 60, 57, 15, 36, 30, 39, 48, 36, 24, 24, 69, 24, 42, 66, 18, 24, 57, 21, 45, 60, 36, 54, 42, 18, 31, 51, 33, 45, 36, 18, 42, 63, 24, 36, 60, 24, 48, 36, 36, 30, 78, 39, 24, 63, 15, 72, 45, 21, 24, 36, 33, 48, 54, 24, 45, 78, 42, 18, 36, 27, 48, 63, 24, 54, 45, 33, 54, 36, 36, 31, 63, 30, 36, 72, 18, 42, 87, 24, 36, 39, 33, 45, 60, 24, 24, 63, 21, 36, 54, 36, 72, 72, 21, 42, 39, 30, 60, 54, 36, 45, 60, 30, 30, 60, 27, 48, 57, 21, 60]
def p_k0 : List (Nat × Int) := [(1, 1)]
def S_k0 : List Int := [1, 3, 4, 7, 6, 12, 8, 15, 13, 18, 12, 28, 14, 24, 24, 31, 18, 39, 20, 42, 32, 36, 24, 60, 31, 42, 40, 56, 30, 72, 32, 63, 48, 54, 48, 91, 38, 60, 56, 90, 42, 96, 44, 84, 78, 72, 48, 124, 57, 93, 72, 98, 54, 120, 72, 120, 80, 90, 60, 168, 62, 96, 104, 127, 84, 144, 68, 126, 96, 144, 72, 195, 74, 114, 124, 140, 96, 168, 80, 186, 121, 126, 84, 224, 108, 132, 120, 180, 90, 234, 112, 168, 128, 144, 120, 252, 98, 171, 156, 217, 102, 216, 104, 210, 192, 162, 108, 280, 110, 216, 152, 248, 114, 240, 144, 210, 182, 180, 144, 360, 133, 186, 168, 224, 156, 312, 128, 255, 176, 252, 132, 336, 160, 204, 240, 270, 138, 288, 140, 336, 192, 216, 168, 403, 180, 222, 228, 266, 150, 372, 152, 300, 234, 288, 192, 392, 158, 240, 216, 378, 192, 363, 164, 294, 288, 252, 168, 480, 183, 324, 260, 308, 174, 360, 248, 372, 240, 270, 180, 546, 182, 336, 248, 360, 228, 384, 216, 336, 320, 360, 192, 508, 194, 294, 336, 399, 198, 468, 200, 465, 272, 306, 240, 504, 252, 312, 312, 434, 240, 576, 212, 378, 288, 324, 264, 600, 256, 330, 296, 504, 252, 456, 224, 504, 403, 342, 228, 560, 230, 432, 384, 450, 234, 546, 288, 420, 320, 432, 240, 744, 242, 399, 364, 434, 342, 504, 280, 480, 336, 468, 252, 728, 288, 384, 432, 511, 258, 528, 304, 588, 390, 396, 264, 720, 324, 480, 360, 476, 270, 720, 272, 558, 448, 414, 372, 672, 278, 420, 416, 720, 282, 576, 284, 504, 480, 504, 336, 819, 307, 540, 392, 518, 294, 684, 360, 570, 480, 450, 336, 868, 352, 456, 408, 620, 372, 702, 308, 672, 416, 576, 312, 840, 314, 474, 624, 560, 318, 648, 360, 762, 432, 576, 360, 847, 434, 492, 440, 630, 384, 864, 332, 588, 494, 504, 408, 992, 338, 549, 456, 756, 384, 780, 400, 660, 576, 522, 348, 840, 350, 744, 560, 756, 354, 720, 432, 630, 576, 540, 360, 1170, 381, 546, 532, 784, 444, 744, 368, 744, 546, 684, 432, 896, 374, 648, 624, 720, 420, 960, 380, 840, 512, 576, 384, 1020, 576, 582, 572, 686, 390, 1008, 432, 855, 528, 594, 480, 1092, 398, 600, 640]
theorem S_k0_eq : (List.range 399).map (fun j => Sf p_k0 (j + 1)) = S_k0 := by decide +kernel
theorem A_k0 : chkA S_k0 0 [] K0 = true := by decide +kernel
def p_k1 : List (Nat × Int) := [(1, 3)]
def S_k1 : List Int := [3, 9, 12, 21, 18, 36, 24, 45, 39, 54, 36, 84, 42, 72, 72, 93, 54, 117, 60, 126, 96, 108, 72, 180, 93, 126, 120, 168, 90, 216, 96, 189, 144, 162, 144, 273, 114, 180, 168, 270, 126, 288, 132, 252, 234, 216, 144, 372, 171, 279, 216, 294, 162, 360, 216, 360, 240, 270, 180, 504, 186, 288, 312, 381, 252, 432, 204, 378, 288, 432, 216, 585, 222, 342, 372, 420, 288, 504, 240, 558, 363, 378, 252, 672, 324, 396, 360, 540, 270, 702, 336, 504, 384, 432, 360, 756, 294, 513, 468, 651, 306, 648, 312, 630, 576, 486, 324, 840, 330, 648, 456, 744, 342, 720, 432, 630, 546, 540, 432, 1080, 399, 558, 504, 672, 468, 936, 384, 765, 528, 756, 396, 1008, 480, 612, 720, 810, 414, 864, 420, 1008, 576, 648, 504, 1209, 540, 666, 684, 798, 450, 1116, 456, 900, 702, 864, 576, 1176, 474, 720, 648, 1134, 576, 1089, 492, 882, 864, 756, 504, 1440, 549, 972, 780, 924, 522, 1080, 744, 1116, 720, 810, 540, 1638, 546, 1008, 744, 1080, 684, 1152, 648, 1008, 960, 1080, 576, 1524, 582, 882, 1008, 1197, 594, 1404, 600, 1395, 816, 918, 720, 1512, 756, 936, 936, 1302, 720, 1728, 636, 1134, 864, 972, 792, 1800, 768, 990, 888, 1512, 756, 1368, 672, 1512, 1209, 1026, 684, 1680, 690, 1296, 1152, 1350, 702, 1638, 864, 1260, 960, 1296, 720, 2232, 726, 1197, 1092, 1302, 1026, 1512, 840, 1440, 1008, 1404, 756, 2184, 864, 1152, 1296, 1533, 774, 1584, 912, 1764, 1170, 1188, 792, 2160, 972, 1440, 1080, 1428, 810, 2160, 816, 1674, 1344, 1242, 1116, 2016, 834, 1260, 1248, 2160, 846, 1728, 852, 1512, 1440, 1512, 1008, 2457, 921, 1620, 1176, 1554, 882, 2052, 1080, 1710, 1440, 1350, 1008, 2604, 1056, 1368, 1224, 1860, 1116, 2106, 924, 2016, 1248, 1728, 936, 2520, 942, 1422, 1872, 1680, 954, 1944, 1080, 2286, 1296, 1728, 1080, 2541, 1302, 1476, 1320, 1890, 1152, 2592, 996, 1764, 1482, 1512, 1224, 2976, 1014, 1647, 1368, 2268, 1152, 2340, 1200, 1980, 1728, 1566, 1044, 2520, 1050, 2232, 1680, 2268, 1062, 2160, 1296, 1890, 1728, 1620, 1080, 3510, 1143, 1638, 1596, 2352, 1332, 2232, 1104, 2232, 1638, 2052, 1296, 2688, 1122, 1944, 1872, 2160, 1260, 2880, 1140, 2520, 1536, 1728, 1152, 3060, 1728, 1746, 1716, 2058, 1170, 3024, 1296, 2565, 1584, 1782, 1440, 3276, 1194, 1800, 1920]
theorem S_k1_eq : (List.range 399).map (fun j => Sf p_k1 (j + 1)) = S_k1 := by decide +kernel
theorem A_k1 : chkA S_k1 0 [] K1 = true := by decide +kernel
def p_k2 : List (Nat × Int) := [(1, -2), (2, 5), (4, -2)]
def S_k2 : List Int := [-2, 4, -8, 8, -12, 16, -16, 16, -26, 24, -24, 32, -28, 32, -48, 32, -36, 52, -40, 48, -64, 48, -48, 64, -62, 56, -80, 64, -60, 96, -64, 64, -96, 72, -96, 104, -76, 80, -112, 96, -84, 128, -88, 96, -156, 96, -96, 128, -114, 124, -144, 112, -108, 160, -144, 128, -160, 120, -120, 192, -124, 128, -208, 128, -168, 192, -136, 144, -192, 192, -144, 208, -148, 152, -248, 160, -192, 224, -160, 192, -242, 168, -168, 256, -216, 176, -240, 192, -180, 312, -224, 192, -256, 192, -240, 256, -196, 228, -312, 248, -204, 288, -208, 224, -384, 216, -216, 320, -220, 288, -304, 256, -228, 320, -288, 240, -364, 240, -288, 384, -266, 248, -336, 256, -312, 416, -256, 256, -352, 336, -264, 384, -320, 272, -480, 288, -276, 384, -280, 384, -384, 288, -336, 416, -360, 296, -456, 304, -300, 496, -304, 320, -468, 384, -384, 448, -316, 320, -432, 384, -384, 484, -328, 336, -576, 336, -336, 512, -366, 432, -520, 352, -348, 480, -496, 384, -480, 360, -360, 624, -364, 448, -496, 384, -456, 512, -432, 384, -640, 480, -384, 512, -388, 392, -672, 456, -396, 624, -400, 496, -544, 408, -480, 576, -504, 416, -624, 448, -480, 768, -424, 432, -576, 432, -528, 640, -512, 440, -592, 576, -504, 608, -448, 512, -806, 456, -456, 640, -460, 576, -768, 480, -468, 728, -576, 480, -640, 576, -480, 768, -484, 532, -728, 496, -684, 672, -560, 512, -672, 624, -504, 832, -576, 512, -864, 512, -516, 704, -608, 672, -780, 528, -528, 768, -648, 640, -720, 544, -540, 960, -544, 576, -896, 552, -744, 768, -556, 560, -832, 768, -564, 768, -568, 576, -960, 672, -672, 832, -614, 720, -784, 592, -588, 912, -720, 608, -960, 600, -672, 992, -704, 608, -816, 640, -744, 936, -616, 768, -832, 768, -624, 896, -628, 632, -1248, 640, -636, 864, -720, 768, -864, 768, -720, 968, -868, 656, -880, 672, -768, 1152, -664, 672, -988, 672, -816, 1024, -676, 732, -912, 864, -768, 1040, -800, 704, -1152, 696, -696, 960, -700, 992, -1120, 768, -708, 960, -864, 720, -1152, 720, -720, 1248, -762, 728, -1064, 896, -888, 992, -736, 768, -1092, 912, -864, 1024, -748, 864, -1248, 768, -840, 1280, -760, 960, -1024, 768, -768, 1024, -1152, 776, -1144, 784, -780, 1344, -864, 912, -1056, 792, -960, 1248, -796, 800, -1280]
theorem S_k2_eq : (List.range 399).map (fun j => Sf p_k2 (j + 1)) = S_k2 := by decide +kernel
theorem A_k2 : chkA S_k2 0 [] K2 = true := by decide +kernel
def p_k3 : List (Nat × Int) := [(1, 2), (2, -1)]
def S_k3 : List Int := [2, 4, 8, 8, 12, 16, 16, 16, 26, 24, 24, 32, 28, 32, 48, 32, 36, 52, 40, 48, 64, 48, 48, 64, 62, 56, 80, 64, 60, 96, 64, 64, 96, 72, 96, 104, 76, 80, 112, 96, 84, 128, 88, 96, 156, 96, 96, 128, 114, 124, 144, 112, 108, 160, 144, 128, 160, 120, 120, 192, 124, 128, 208, 128, 168, 192, 136, 144, 192, 192, 144, 208, 148, 152, 248, 160, 192, 224, 160, 192, 242, 168, 168, 256, 216, 176, 240, 192, 180, 312, 224, 192, 256, 192, 240, 256, 196, 228, 312, 248, 204, 288, 208, 224, 384, 216, 216, 320, 220, 288, 304, 256, 228, 320, 288, 240, 364, 240, 288, 384, 266, 248, 336, 256, 312, 416, 256, 256, 352, 336, 264, 384, 320, 272, 480, 288, 276, 384, 280, 384, 384, 288, 336, 416, 360, 296, 456, 304, 300, 496, 304, 320, 468, 384, 384, 448, 316, 320, 432, 384, 384, 484, 328, 336, 576, 336, 336, 512, 366, 432, 520, 352, 348, 480, 496, 384, 480, 360, 360, 624, 364, 448, 496, 384, 456, 512, 432, 384, 640, 480, 384, 512, 388, 392, 672, 456, 396, 624, 400, 496, 544, 408, 480, 576, 504, 416, 624, 448, 480, 768, 424, 432, 576, 432, 528, 640, 512, 440, 592, 576, 504, 608, 448, 512, 806, 456, 456, 640, 460, 576, 768, 480, 468, 728, 576, 480, 640, 576, 480, 768, 484, 532, 728, 496, 684, 672, 560, 512, 672, 624, 504, 832, 576, 512, 864, 512, 516, 704, 608, 672, 780, 528, 528, 768, 648, 640, 720, 544, 540, 960, 544, 576, 896, 552, 744, 768, 556, 560, 832, 768, 564, 768, 568, 576, 960, 672, 672, 832, 614, 720, 784, 592, 588, 912, 720, 608, 960, 600, 672, 992, 704, 608, 816, 640, 744, 936, 616, 768, 832, 768, 624, 896, 628, 632, 1248, 640, 636, 864, 720, 768, 864, 768, 720, 968, 868, 656, 880, 672, 768, 1152, 664, 672, 988, 672, 816, 1024, 676, 732, 912, 864, 768, 1040, 800, 704, 1152, 696, 696, 960, 700, 992, 1120, 768, 708, 960, 864, 720, 1152, 720, 720, 1248, 762, 728, 1064, 896, 888, 992, 736, 768, 1092, 912, 864, 1024, 748, 864, 1248, 768, 840, 1280, 760, 960, 1024, 768, 768, 1024, 1152, 776, 1144, 784, 780, 1344, 864, 912, 1056, 792, 960, 1248, 796, 800, 1280]
theorem S_k3_eq : (List.range 399).map (fun j => Sf p_k3 (j + 1)) = S_k3 := by decide +kernel
theorem A_k3 : chkA S_k3 0 [] K3 = true := by decide +kernel
def p_k4 : List (Nat × Int) := [(1, -1)]
def S_k4 : List Int := [-1, -3, -4, -7, -6, -12, -8, -15, -13, -18, -12, -28, -14, -24, -24, -31, -18, -39, -20, -42, -32, -36, -24, -60, -31, -42, -40, -56, -30, -72, -32, -63, -48, -54, -48, -91, -38, -60, -56, -90, -42, -96, -44, -84, -78, -72, -48, -124, -57, -93, -72, -98, -54, -120, -72, -120, -80, -90, -60, -168, -62, -96, -104, -127, -84, -144, -68, -126, -96, -144, -72, -195, -74, -114, -124, -140, -96, -168, -80, -186, -121, -126, -84, -224, -108, -132, -120, -180, -90, -234, -112, -168, -128, -144, -120, -252, -98, -171, -156, -217, -102, -216, -104, -210, -192, -162, -108, -280, -110, -216, -152, -248, -114, -240, -144, -210, -182, -180, -144, -360, -133, -186, -168, -224, -156, -312, -128, -255, -176, -252, -132, -336, -160, -204, -240, -270, -138, -288, -140, -336, -192, -216, -168, -403, -180, -222, -228, -266, -150, -372, -152, -300, -234, -288, -192, -392, -158, -240, -216, -378, -192, -363, -164, -294, -288, -252, -168, -480, -183, -324, -260, -308, -174, -360, -248, -372, -240, -270, -180, -546, -182, -336, -248, -360, -228, -384, -216, -336, -320, -360, -192, -508, -194, -294, -336, -399, -198, -468, -200, -465, -272, -306, -240, -504, -252, -312, -312, -434, -240, -576, -212, -378, -288, -324, -264, -600, -256, -330, -296, -504, -252, -456, -224, -504, -403, -342, -228, -560, -230, -432, -384, -450, -234, -546, -288, -420, -320, -432, -240, -744, -242, -399, -364, -434, -342, -504, -280, -480, -336, -468, -252, -728, -288, -384, -432, -511, -258, -528, -304, -588, -390, -396, -264, -720, -324, -480, -360, -476, -270, -720, -272, -558, -448, -414, -372, -672, -278, -420, -416, -720, -282, -576, -284, -504, -480, -504, -336, -819, -307, -540, -392, -518, -294, -684, -360, -570, -480, -450, -336, -868, -352, -456, -408, -620, -372, -702, -308, -672, -416, -576, -312, -840, -314, -474, -624, -560, -318, -648, -360, -762, -432, -576, -360, -847, -434, -492, -440, -630, -384, -864, -332, -588, -494, -504, -408, -992, -338, -549, -456, -756, -384, -780, -400, -660, -576, -522, -348, -840, -350, -744, -560, -756, -354, -720, -432, -630, -576, -540, -360, -1170, -381, -546, -532, -784, -444, -744, -368, -744, -546, -684, -432, -896, -374, -648, -624, -720, -420, -960, -380, -840, -512, -576, -384, -1020, -576, -582, -572, -686, -390, -1008, -432, -855, -528, -594, -480, -1092, -398, -600, -640]
theorem S_k4_eq : (List.range 399).map (fun j => Sf p_k4 (j + 1)) = S_k4 := by decide +kernel
theorem A_k4 : chkA S_k4 0 [] K4 = true := by decide +kernel
def p_k5 : List (Nat × Int) := [(1, -4), (2, 10), (4, -4)]
def S_k5 : List Int := [-4, 8, -16, 16, -24, 32, -32, 32, -52, 48, -48, 64, -56, 64, -96, 64, -72, 104, -80, 96, -128, 96, -96, 128, -124, 112, -160, 128, -120, 192, -128, 128, -192, 144, -192, 208, -152, 160, -224, 192, -168, 256, -176, 192, -312, 192, -192, 256, -228, 248, -288, 224, -216, 320, -288, 256, -320, 240, -240, 384, -248, 256, -416, 256, -336, 384, -272, 288, -384, 384, -288, 416, -296, 304, -496, 320, -384, 448, -320, 384, -484, 336, -336, 512, -432, 352, -480, 384, -360, 624, -448, 384, -512, 384, -480, 512, -392, 456, -624, 496, -408, 576, -416, 448, -768, 432, -432, 640, -440, 576, -608, 512, -456, 640, -576, 480, -728, 480, -576, 768, -532, 496, -672, 512, -624, 832, -512, 512, -704, 672, -528, 768, -640, 544, -960, 576, -552, 768, -560, 768, -768, 576, -672, 832, -720, 592, -912, 608, -600, 992, -608, 640, -936, 768, -768, 896, -632, 640, -864, 768, -768, 968, -656, 672, -1152, 672, -672, 1024, -732, 864, -1040, 704, -696, 960, -992, 768, -960, 720, -720, 1248, -728, 896, -992, 768, -912, 1024, -864, 768, -1280, 960, -768, 1024, -776, 784, -1344, 912, -792, 1248, -800, 992, -1088, 816, -960, 1152, -1008, 832, -1248, 896, -960, 1536, -848, 864, -1152, 864, -1056, 1280, -1024, 880, -1184, 1152, -1008, 1216, -896, 1024, -1612, 912, -912, 1280, -920, 1152, -1536, 960, -936, 1456, -1152, 960, -1280, 1152, -960, 1536, -968, 1064, -1456, 992, -1368, 1344, -1120, 1024, -1344, 1248, -1008, 1664, -1152, 1024, -1728, 1024, -1032, 1408, -1216, 1344, -1560, 1056, -1056, 1536, -1296, 1280, -1440, 1088, -1080, 1920, -1088, 1152, -1792, 1104, -1488, 1536, -1112, 1120, -1664, 1536, -1128, 1536, -1136, 1152, -1920, 1344, -1344, 1664, -1228, 1440, -1568, 1184, -1176, 1824, -1440, 1216, -1920, 1200, -1344, 1984, -1408, 1216, -1632, 1280, -1488, 1872, -1232, 1536, -1664, 1536, -1248, 1792, -1256, 1264, -2496, 1280, -1272, 1728, -1440, 1536, -1728, 1536, -1440, 1936, -1736, 1312, -1760, 1344, -1536, 2304, -1328, 1344, -1976, 1344, -1632, 2048, -1352, 1464, -1824, 1728, -1536, 2080, -1600, 1408, -2304, 1392, -1392, 1920, -1400, 1984, -2240, 1536, -1416, 1920, -1728, 1440, -2304, 1440, -1440, 2496, -1524, 1456, -2128, 1792, -1776, 1984, -1472, 1536, -2184, 1824, -1728, 2048, -1496, 1728, -2496, 1536, -1680, 2560, -1520, 1920, -2048, 1536, -1536, 2048, -2304, 1552, -2288, 1568, -1560, 2688, -1728, 1824, -2112, 1584, -1920, 2496, -1592, 1600, -2560]
theorem S_k5_eq : (List.range 399).map (fun j => Sf p_k5 (j + 1)) = S_k5 := by decide +kernel
theorem A_k5 : chkA S_k5 0 [] K5 = true := by decide +kernel
def p_k6 : List (Nat × Int) := [(1, 4), (2, -2)]
def S_k6 : List Int := [4, 8, 16, 16, 24, 32, 32, 32, 52, 48, 48, 64, 56, 64, 96, 64, 72, 104, 80, 96, 128, 96, 96, 128, 124, 112, 160, 128, 120, 192, 128, 128, 192, 144, 192, 208, 152, 160, 224, 192, 168, 256, 176, 192, 312, 192, 192, 256, 228, 248, 288, 224, 216, 320, 288, 256, 320, 240, 240, 384, 248, 256, 416, 256, 336, 384, 272, 288, 384, 384, 288, 416, 296, 304, 496, 320, 384, 448, 320, 384, 484, 336, 336, 512, 432, 352, 480, 384, 360, 624, 448, 384, 512, 384, 480, 512, 392, 456, 624, 496, 408, 576, 416, 448, 768, 432, 432, 640, 440, 576, 608, 512, 456, 640, 576, 480, 728, 480, 576, 768, 532, 496, 672, 512, 624, 832, 512, 512, 704, 672, 528, 768, 640, 544, 960, 576, 552, 768, 560, 768, 768, 576, 672, 832, 720, 592, 912, 608, 600, 992, 608, 640, 936, 768, 768, 896, 632, 640, 864, 768, 768, 968, 656, 672, 1152, 672, 672, 1024, 732, 864, 1040, 704, 696, 960, 992, 768, 960, 720, 720, 1248, 728, 896, 992, 768, 912, 1024, 864, 768, 1280, 960, 768, 1024, 776, 784, 1344, 912, 792, 1248, 800, 992, 1088, 816, 960, 1152, 1008, 832, 1248, 896, 960, 1536, 848, 864, 1152, 864, 1056, 1280, 1024, 880, 1184, 1152, 1008, 1216, 896, 1024, 1612, 912, 912, 1280, 920, 1152, 1536, 960, 936, 1456, 1152, 960, 1280, 1152, 960, 1536, 968, 1064, 1456, 992, 1368, 1344, 1120, 1024, 1344, 1248, 1008, 1664, 1152, 1024, 1728, 1024, 1032, 1408, 1216, 1344, 1560, 1056, 1056, 1536, 1296, 1280, 1440, 1088, 1080, 1920, 1088, 1152, 1792, 1104, 1488, 1536, 1112, 1120, 1664, 1536, 1128, 1536, 1136, 1152, 1920, 1344, 1344, 1664, 1228, 1440, 1568, 1184, 1176, 1824, 1440, 1216, 1920, 1200, 1344, 1984, 1408, 1216, 1632, 1280, 1488, 1872, 1232, 1536, 1664, 1536, 1248, 1792, 1256, 1264, 2496, 1280, 1272, 1728, 1440, 1536, 1728, 1536, 1440, 1936, 1736, 1312, 1760, 1344, 1536, 2304, 1328, 1344, 1976, 1344, 1632, 2048, 1352, 1464, 1824, 1728, 1536, 2080, 1600, 1408, 2304, 1392, 1392, 1920, 1400, 1984, 2240, 1536, 1416, 1920, 1728, 1440, 2304, 1440, 1440, 2496, 1524, 1456, 2128, 1792, 1776, 1984, 1472, 1536, 2184, 1824, 1728, 2048, 1496, 1728, 2496, 1536, 1680, 2560, 1520, 1920, 2048, 1536, 1536, 2048, 2304, 1552, 2288, 1568, 1560, 2688, 1728, 1824, 2112, 1584, 1920, 2496, 1592, 1600, 2560]
theorem S_k6_eq : (List.range 399).map (fun j => Sf p_k6 (j + 1)) = S_k6 := by decide +kernel
theorem A_k6 : chkA S_k6 0 [] K6 = true := by decide +kernel
def p_t : List (Nat × Int) := [(1, -1), (2, 2)]
def S_t : List Int := [-1, 1, -4, 5, -6, 4, -8, 13, -13, 6, -12, 20, -14, 8, -24, 29, -18, 13, -20, 30, -32, 12, -24, 52, -31, 14, -40, 40, -30, 24, -32, 61, -48, 18, -48, 65, -38, 20, -56, 78, -42, 32, -44, 60, -78, 24, -48, 116, -57, 31, -72, 70, -54, 40, -72, 104, -80, 30, -60, 120, -62, 32, -104, 125, -84, 48, -68, 90, -96, 48, -72, 169, -74, 38, -124, 100, -96, 56, -80, 174, -121, 42, -84, 160, -108, 44, -120, 156, -90, 78, -112, 120, -128, 48, -120, 244, -98, 57, -156, 155, -102, 72, -104, 182, -192, 54, -108, 200, -110, 72, -152, 232, -114, 80, -144, 150, -182, 60, -144, 312, -133, 62, -168, 160, -156, 104, -128, 253, -176, 84, -132, 240, -160, 68, -240, 234, -138, 96, -140, 240, -192, 72, -168, 377, -180, 74, -228, 190, -150, 124, -152, 260, -234, 96, -192, 280, -158, 80, -216, 366, -192, 121, -164, 210, -288, 84, -168, 416, -183, 108, -260, 220, -174, 120, -248, 348, -240, 90, -180, 390, -182, 112, -248, 312, -228, 128, -216, 240, -320, 120, -192, 500, -194, 98, -336, 285, -198, 156, -200, 403, -272, 102, -240, 360, -252, 104, -312, 406, -240, 192, -212, 270, -288, 108, -264, 520, -256, 110, -296, 360, -252, 152, -224, 488, -403, 114, -228, 400, -230, 144, -384, 390, -234, 182, -288, 300, -320, 144, -240, 696, -242, 133, -364, 310, -342, 168, -280, 416, -336, 156, -252, 520, -288, 128, -432, 509, -258, 176, -304, 420, -390, 132, -264, 624, -324, 160, -360, 340, -270, 240, -272, 522, -448, 138, -372, 480, -278, 140, -416, 624, -282, 192, -284, 360, -480, 168, -336, 793, -307, 180, -392, 370, -294, 228, -360, 494, -480, 150, -336, 620, -352, 152, -408, 580, -372, 234, -308, 480, -416, 192, -312, 728, -314, 158, -624, 400, -318, 216, -360, 750, -432, 192, -360, 605, -434, 164, -440, 546, -384, 288, -332, 420, -494, 168, -408, 928, -338, 183, -456, 540, -384, 260, -400, 572, -576, 174, -348, 600, -350, 248, -560, 732, -354, 240, -432, 450, -576, 180, -360, 1014, -381, 182, -532, 560, -444, 248, -368, 696, -546, 228, -432, 640, -374, 216, -624, 624, -420, 320, -380, 600, -512, 192, -384, 1012, -576, 194, -572, 490, -390, 336, -432, 741, -528, 198, -480, 780, -398, 200, -640]
theorem S_t_eq : (List.range 399).map (fun j => Sf p_t (j + 1)) = S_t := by decide +kernel
theorem A_t : chkA S_t 0 [] Kt = true := by decide +kernel
def p_m : List (Nat × Int) := [(1, -3), (2, 6)]
def S_m : List Int := [-3, 3, -12, 15, -18, 12, -24, 39, -39, 18, -36, 60, -42, 24, -72, 87, -54, 39, -60, 90, -96, 36, -72, 156, -93, 42, -120, 120, -90, 72, -96, 183, -144, 54, -144, 195, -114, 60, -168, 234, -126, 96, -132, 180, -234, 72, -144, 348, -171, 93, -216, 210, -162, 120, -216, 312, -240, 90, -180, 360, -186, 96, -312, 375, -252, 144, -204, 270, -288, 144, -216, 507, -222, 114, -372, 300, -288, 168, -240, 522, -363, 126, -252, 480, -324, 132, -360, 468, -270, 234, -336, 360, -384, 144, -360, 732, -294, 171, -468, 465, -306, 216, -312, 546, -576, 162, -324, 600, -330, 216, -456, 696, -342, 240, -432, 450, -546, 180, -432, 936, -399, 186, -504, 480, -468, 312, -384, 759, -528, 252, -396, 720, -480, 204, -720, 702, -414, 288, -420, 720, -576, 216, -504, 1131, -540, 222, -684, 570, -450, 372, -456, 780, -702, 288, -576, 840, -474, 240, -648, 1098, -576, 363, -492, 630, -864, 252, -504, 1248, -549, 324, -780, 660, -522, 360, -744, 1044, -720, 270, -540, 1170, -546, 336, -744, 936, -684, 384, -648, 720, -960, 360, -576, 1500, -582, 294, -1008, 855, -594, 468, -600, 1209, -816, 306, -720, 1080, -756, 312, -936, 1218, -720, 576, -636, 810, -864, 324, -792, 1560, -768, 330, -888, 1080, -756, 456, -672, 1464, -1209, 342, -684, 1200, -690, 432, -1152, 1170, -702, 546, -864, 900, -960, 432, -720, 2088, -726, 399, -1092, 930, -1026, 504, -840, 1248, -1008, 468, -756, 1560, -864, 384, -1296, 1527, -774, 528, -912, 1260, -1170, 396, -792, 1872, -972, 480, -1080, 1020, -810, 720, -816, 1566, -1344, 414, -1116, 1440, -834, 420, -1248, 1872, -846, 576, -852, 1080, -1440, 504, -1008, 2379, -921, 540, -1176, 1110, -882, 684, -1080, 1482, -1440, 450, -1008, 1860, -1056, 456, -1224, 1740, -1116, 702, -924, 1440, -1248, 576, -936, 2184, -942, 474, -1872, 1200, -954, 648, -1080, 2250, -1296, 576, -1080, 1815, -1302, 492, -1320, 1638, -1152, 864, -996, 1260, -1482, 504, -1224, 2784, -1014, 549, -1368, 1620, -1152, 780, -1200, 1716, -1728, 522, -1044, 1800, -1050, 744, -1680, 2196, -1062, 720, -1296, 1350, -1728, 540, -1080, 3042, -1143, 546, -1596, 1680, -1332, 744, -1104, 2088, -1638, 684, -1296, 1920, -1122, 648, -1872, 1872, -1260, 960, -1140, 1800, -1536, 576, -1152, 3036, -1728, 582, -1716, 1470, -1170, 1008, -1296, 2223, -1584, 594, -1440, 2340, -1194, 600, -1920]
theorem S_m_eq : (List.range 399).map (fun j => Sf p_m (j + 1)) = S_m := by decide +kernel
theorem A_m : chkA S_m 0 [] Km = true := by decide +kernel
theorem B_0_1 : tmLs lD sgL1 = K0 := by decide +kernel
theorem F_0 {N : Nat} (hN : N ≤ 400) : Agree N (bfF N p_k0) K0 := by
  have h0 : Agree N dl lD := agree_of lD_eq hN
  have h1 := lapT (n := 0) (r := 1) sgL1_eq hN n_lD (by decide) B_0_1 (by decide) (show Agree N (itF (LP N (1, 1)) 0 (dl)) lD from h0)
  unfold p_k0
  rw [bf_1 (n1 := 1) rfl]
  exact h1
def b_1_1 : List Int := [1, -1, -1, 0, 0, 1, 0, 1, 0, 0, 0, 0, -1, 0, 0, -1, 0, 0, 0, 0, 0, 0, 1, 0, 0, 0, 1, 0, 0, 0, 0, 0, 0, 0, 0, -1, 0, 0, 0, 0, -1, 0, 0, 0, 0, 0, 0, 0, 0, 0, 0, 1, 0, 0, 0, 0, 0, 1, 0, 0, 0, 0, 0, 0, 0, 0, 0, 0, 0, 0, -1, 0, 0, 0, 0, 0, 0, -1, 0, 0, 0, 0, 0, 0, 0, 0, 0, 0, 0, 0, 0, 0, 1, 0, 0, 0, 0, 0, 0, 0, 1, 0, 0, 0, 0, 0, 0, 0, 0, 0, 0, 0, 0, 0, 0, 0, 0, -1, 0, 0, 0, 0, 0, 0, 0, 0, -1, 0, 0, 0, 0, 0, 0, 0, 0, 0, 0, 0, 0, 0, 0, 0, 0, 0, 0, 1, 0, 0, 0, 0, 0, 0, 0, 0, 0, 1, 0, 0, 0, 0, 0, 0, 0, 0, 0, 0, 0, 0, 0, 0, 0, 0, 0, 0, 0, 0, -1, 0, 0, 0, 0, 0, 0, 0, 0, 0, 0, -1, 0, 0, 0, 0, 0, 0, 0, 0, 0, 0, 0, 0, 0, 0, 0, 0, 0, 0, 0, 0, 0, 0, 1, 0, 0, 0, 0, 0, 0, 0, 0, 0, 0, 0, 1, 0, 0, 0, 0, 0, 0, 0, 0, 0, 0, 0, 0, 0, 0, 0, 0, 0, 0, 0, 0, 0, 0, 0, 0, -1, 0, 0, 0, 0, 0, 0, 0, 0, 0, 0, 0, 0, -1, 0, 0, 0, 0, 0, 0, 0, 0, 0, 0, 0, 0, 0, 0, 0, 0, 0, 0, 0, 0, 0, 0, 0, 0, 0, 0, 1, 0, 0, 0, 0, 0, 0, 0, 0, 0, 0, 0, 0, 0, 1, 0, 0, 0, 0, 0, 0, 0, 0, 0, 0, 0, 0, 0, 0, 0, 0, 0, 0, 0, 0, 0, 0, 0, 0, 0, 0, 0, 0, -1, 0, 0, 0, 0, 0, 0, 0, 0, 0, 0, 0, 0, 0, 0, -1, 0, 0, 0, 0, 0, 0, 0, 0, 0, 0, 0, 0, 0, 0, 0, 0, 0, 0, 0, 0, 0, 0, 0, 0, 0, 0, 0, 0, 0, 0, 1, 0, 0, 0, 0, 0, 0, 0, 0, 0, 0, 0, 0, 0, 0, 0, 1, 0, 0, 0, 0, 0, 0, 0]
theorem n_b_1_1 : b_1_1.length = 400 := by decide +kernel
theorem B_1_1 : tmLs lD sgL1 = b_1_1 := by decide +kernel
def b_1_2 : List Int := [1, -2, -1, 2, 1, 2, -2, 0, -2, -2, 1, 0, 0, 2, 3, -2, 2, 0, 0, -2, -2, 0, 0, -2, -1, 0, 2, 2, -2, 2, 1, 2, 0, 2, -2, -2, 2, 0, -2, 0, -4, 0, 0, 0, 1, -2, 0, 0, 2, 0, 2, 2, 1, -2, 0, 2, 2, 0, 0, -2, 0, -2, 0, -2, 2, 0, -4, 0, 0, -2, -1, 2, 0, 2, 0, 0, 0, -2, 2, 4, 1, 0, 0, 2, -2, 2, -2, 0, 0, 2, 0, -2, 0, -2, -2, 0, -2, 0, 0, 0, 2, -2, -1, -2, -2, 4, 0, 0, 2, 0, 2, 0, 0, 0, 3, -2, 0, 0, 4, 2, 0, -2, 0, 0, -2, 0, 0, -2, 0, 2, 0, -2, 0, -2, -2, -2, 0, 0, 2, -2, -1, 2, 0, 0, 0, 2, -2, 0, -2, 2, 2, 2, 2, 0, 1, 2, -2, 0, 0, 0, 0, 2, 0, 0, 0, 0, 2, 0, -2, -2, -4, 2, 0, 0, -2, 0, -2, 0, 2, 0, -2, 0, 0, -4, 1, -2, 0, 0, 4, 2, -2, 2, 0, 0, 0, -2, 4, 0, -2, 2, 1, 0, 2, 2, 0, 0, 2, 0, 0, -4, 2, 0, 0, -2, 0, 0, 2, 0, -2, 0, 0, 0, 0, -2, -2, -4, -2, 2, 0, 2, 0, 0, 0, -2, -1, 0, 2, 0, -2, 0, 0, 0, 0, 2, 0, 0, 2, 0, 4, 2, -2, 0, -1, 2, -2, 2, 0, 0, 0, 2, -2, 4, 0, 0, 2, -2, 0, 0, -2, -2, 0, -2, 0, 0, 0, 2, -2, 0, 0, 0, -2, -2, 0, 0, 0, 0, -2, 0, -2, -2, 1, 0, 0, 2, 2, 2, 0, 0, -2, -4, 4, 2, 0, -2, 0, 0, 2, 0, 2, 2, 3, -2, 0, 2, 2, 0, -2, 0, 0, 0, 0, -2, 0, 2, 2, 0, 0, -2, 0, 0, 0, 0, 0, 0, 0, -2, -4, 0, 2, -4, 0, -2, 0, 0, 2, 0, 2, 0, -2, 0, -2, 0, -3, 0, 0, 2, -2, 0, 2, 0, 0, 0, 0, 2, 0, 4, 0, 0, 0, 0, 2, -4, 0, 2, 1, 0, 2, 2, -4, 2, 2, 0, 0, 2, 0, 2, 0, 0, -2, 0, 0, -2, 0, 0, -2, 0, -2, 0, 0, 2]
theorem n_b_1_2 : b_1_2.length = 400 := by decide +kernel
theorem B_1_2 : tmLs b_1_1 sgL1 = b_1_2 := by decide +kernel
theorem B_1_3 : tmLs b_1_2 sgL1 = K1 := by decide +kernel
theorem F_1 {N : Nat} (hN : N ≤ 400) : Agree N (bfF N p_k1) K1 := by
  have h0 : Agree N dl lD := agree_of lD_eq hN
  have h1 := lapT (n := 0) (r := 3) sgL1_eq hN n_lD (by decide) B_1_1 (by decide) (show Agree N (itF (LP N (1, 3)) 0 (dl)) lD from h0)
  have h2 := lapT (n := 1) (r := 3) sgL1_eq hN n_b_1_1 (by decide) B_1_2 (by decide) h1
  have h3 := lapT (n := 2) (r := 3) sgL1_eq hN n_b_1_2 (by decide) B_1_3 (by decide) h2
  unfold p_k1
  rw [bf_1 (n1 := 3) rfl]
  exact h3
def b_2_1 : List Int := [1, 1, 2, 3, 5, 7, 11, 15, 22, 30, 42, 56, 77, 101, 135, 176, 231, 297, 385, 490, 627, 792, 1002, 1255, 1575, 1958, 2436, 3010, 3718, 4565, 5604, 6842, 8349, 10143, 12310, 14883, 17977, 21637, 26015, 31185, 37338, 44583, 53174, 63261, 75175, 89134, 105558, 124754, 147273, 173525, 204226, 239943, 281589, 329931, 386155, 451276, 526823, 614154, 715220, 831820, 966467, 1121505, 1300156, 1505499, 1741630, 2012558, 2323520, 2679689, 3087735, 3554345, 4087968, 4697205, 5392783, 6185689, 7089500, 8118264, 9289091, 10619863, 12132164, 13848650, 15796476, 18004327, 20506255, 23338469, 26543660, 30167357, 34262962, 38887673, 44108109, 49995925, 56634173, 64112359, 72533807, 82010177, 92669720, 104651419, 118114304, 133230930, 150198136, 169229875, 190569292, 214481126, 241265379, 271248950, 304801365, 342325709, 384276336, 431149389, 483502844, 541946240, 607163746, 679903203, 761002156, 851376628, 952050665, 1064144451, 1188908248, 1327710076, 1482074143, 1653668665, 1844349560, 2056148051, 2291320912, 2552338241, 2841940500, 3163127352, 3519222692, 3913864295, 4351078600, 4835271870, 5371315400, 5964539504, 6620830889, 7346629512, 8149040695, 9035836076, 10015581680, 11097645016, 12292341831, 13610949895, 15065878135, 16670689208, 18440293320, 20390982757, 22540654445, 24908858009, 27517052599, 30388671978, 33549419497, 37027355200, 40853235313, 45060624582, 49686288421, 54770336324, 60356673280, 66493182097, 73232243759, 80630964769, 88751778802, 97662728555, 107438159466, 118159068427, 129913904637, 142798995930, 156919475295, 172389800255, 189334822579, 207890420102, 228204732751, 250438925115, 274768617130, 301384802048, 330495499613, 362326859895, 397125074750, 435157697830, 476715857290, 522115831195, 571701605655, 625846753120, 684957390936, 749474411781, 819876908323, 896684817527, 980462880430, 1071823774337, 1171432692373, 1280011042268, 1398341745571, 1527273599625, 1667727404093, 1820701100652, 1987276856363, 2168627105469, 2366022741845, 2580840212973, 2814570987591, 3068829878530, 3345365983698, 3646072432125, 3972999029388, 4328363658647, 4714566886083, 5134205287973, 5590088317495, 6085253859260, 6622987708040, 7206841706490, 7840656226137, 8528581302375, 9275102575355, 10085065885767, 10963707205259, 11916681236278, 12950095925895, 14070545699287, 15285151248481, 16601598107914, 18028182516671, 19573856161145, 21248279009367, 23061871173849, 25025873760111, 27152408925615, 29454549941750, 31946390696157, 34643126322519, 37561133582570, 40718063627362, 44132934884255, 47826239745920, 51820051838712, 56138148670947, 60806135438329, 65851585970275, 71304185514919, 77195892663512, 83561103925871, 90436839668817, 97862933703585, 105882246722733, 114540884553038, 123888443077259, 133978259344888, 144867692496445, 156618412527946, 169296722391554, 182973889854026, 197726516681672, 213636919820625, 230793554364681, 249291451168559, 269232701252579, 290726957916112, 313891991306665, 338854264248680, 365749566870782, 394723676655357, 425933084409356, 459545750448675, 495741934760846, 534715062908609, 576672674947168, 621837416509615, 670448123060170, 722760953690372, 779050629562167, 839611730366814, 904760108316360, 974834369944625, 1050197489931117, 1131238503938606, 1218374349844333, 1312051800816215, 1412749565173450, 1520980492851175, 1637293969337171, 1762278433057269, 1896564103591584, 2040825852575075, 2195786311682516, 2362219145337711, 2540952590045698, 2732873183547535, 2938929793929555, 3160137867148997, 3397584011986773, 3652430836071053, 3925922161489422, 4219388528587095, 4534253126900886, 4872038056472084, 5234371069753672, 5622992691950605, 6039763882095515, 6486674127079088, 6965850144195831, 7479565078510584, 8030248384943040, 8620496275465025, 9253082936723602, 9930972392403501, 10657331232548839, 11435542077822104, 12269218019229465, 13162217895057704, 14118662665280005, 15142952738857194, 16239786535829663, 17414180133147295, 18671488299600364, 20017426762576945, 21458096037352891, 23000006655487337, 24650106150830490, 26415807633566326, 28305020340996003, 30326181989842964, 32488293351466654, 34800954869440830, 37274405776748077, 39919565526999991, 42748078035954696, 45772358543578028, 49005643635237875, 52462044228828641, 56156602112874289, 60105349839666544, 64325374609114550, 68834885946073850, 73653287861850339, 78801255302666615, 84300815636225119, 90175434980549623, 96450110192202760, 103151466321735325, 110307860425292772, 117949491546113972, 126108517833796355, 134819180623301520, 144117936527873832, 154043597379576030, 164637479165761044, 175943559810422753, 188008647052292980, 200882556287683159, 214618299743286299, 229272286871217150, 244904537455382406, 261578907351144125, 279363328483702152, 298330063062758076, 318555973788329084, 340122810048577428, 363117512048110005, 387632532919029223, 413766180933342362, 441622981929358437, 471314064268398780, 502957566506000020, 536679070310691121, 572612058898037559, 610898403751884101, 651688879997206959, 695143713458946040, 741433159884081684, 790738119649411319, 843250788562528427, 899175348396088349, 958728697912338045, 1022141228367345362, 1089657644424399782, 1161537834849962850, 1238057794119125085, 1319510599727473500, 1406207446561484054, 1498478743590581081, 1596675274490756791, 1701169427975813525, 1812356499739472950, 1930656072350465812, 2056513475336633805, 2190401332423765131, 2332821198543892336, 2484305294265418180, 2645418340688763701, 2816759503217942792, 2998964447736452194, 3192707518433532826, 3398704041358160275, 3617712763867604423, 3850538434667429186, 4098034535626594791, 4361106170762284114, 4640713124699623515, 4937873096788191655, 5253665124416975163, 5589233202595404488, 5945790114707874597, 6324621482504294325]
theorem n_b_2_1 : b_2_1.length = 400 := by decide +kernel
theorem B_2_1 : tmLs b_2_1 sgL1 = lD := by decide +kernel
def b_2_2 : List Int := [1, 2, 5, 10, 20, 36, 65, 110, 185, 300, 481, 752, 1165, 1770, 2665, 3956, 5822, 8470, 12230, 17490, 24842, 35002, 49010, 68150, 94235, 129512, 177087, 240840, 326015, 439190, 589128, 786814, 1046705, 1386930, 1831065, 2408658, 3157789, 4126070, 5374390, 6978730, 9035539, 11664896, 15018300, 19283830, 24697480, 31551450, 40210481, 51124970, 64854575, 82088400, 103679156, 130673928, 164363280, 206327710, 258508230, 323275512, 403531208, 502810130, 625425005, 776616430, 962759294, 1191580872, 1472454540, 1816715170, 2238075315, 2753078840, 3381689157, 4147937540, 5080752250, 6214880700, 7592053897, 9262292216, 11285536125, 13733486100, 16691879795, 20263074134, 24569214653, 29755845120, 35996306025, 43496760380, 52502280642, 63303821602, 76246618325, 91739827630, 110268082280, 132404776664, 158827920009, 190338386210, 227881604535, 272572552460, 325725355088, 388887409310, 463879670860, 552843114270, 658293423970, 783184076176, 930980399327, 1105744993420, 1312237775425, 1556031348120, 1843645820766, 2182704238810, 2582113843795, 3052274960840, 3605324137485, 4255414211990, 5019039720949, 5915411540970, 6966891449865, 8199492148220, 9643456347436, 11333922675812, 13311695737345, 15624131048910, 18326156951000, 21481448170126, 25163779232718, 29458577635960, 34464712775100, 40296547446390, 47086297888049, 54986738253280, 64174308234575, 74852671601900, 87256800664440, 101657649931466, 118367514773731, 137746158532330, 160207830443720, 186229283983960, 216358951877650, 251227421256300, 291559408377040, 338187420114200, 392067356653475, 454296298907724, 526132805091285, 609020032390910, 704612097171965, 814804082539220, 941766219818916, 1087982771678576, 1256296287033025, 1449957907464780, 1672684577368315, 1928724031465432, 2222928642634633, 2560839250666680, 2948780346918950, 3393968049615390, 3904632614009852, 4490157310997300, 5161235884935745, 5930050929890730, 6810475983828715, 7818304320208646, 8971507978751054, 10290530824241190, 11798620110133120, 13522201357704820, 15491302203949504, 17740031317618420, 20307119515307905, 23236530799823200, 26578152309745365, 30388572943514782, 34731961976580975, 39681059999218760, 45318296413151280, 51737049032148690, 59043063680390529, 67356053366385470, 76811499498772710, 87562679770562650, 99782950891996335, 113668317112253776, 129440319843736371, 147349287216114460, 167677987771028595, 190745736966890960, 216913011791005129, 246586634417617704, 280225594010802715, 318347582889714990, 361536333320893905, 410449850163626126, 465829646963356649, 528511104343835500, 599435084774701850, 679660951898766670, 770381161342892729, 872937607584790510, 988839934506247880, 1119786039301440270, 1267685027773850570, 1434682906527695138, 1623191332441649590, 1835919774005409520, 2075911481979982225, 2346583709335573400, 2651772673114322154, 2995783803596934464, 3383447890877443240, 3820183804300181650, 4312068539681112215, 4865915430118201870, 5489361453719986932, 6190964671563787640, 6980312948820102675, 7868145235426905960, 8866486829355882825, 9988800197758442230, 11250153110986934370, 12667406032042511540, 14259420924086857705, 16047293869468445090, 18054614163100222418, 20307752826783915880, 22836183820622440740, 25672841576164104320, 28854518878833187540, 32422309554812668388, 36422100909865427335, 40905121391771226500, 45928549549276976620, 51556191002460285752, 57859230873179868892, 64917069909890265690, 72818253436113630205, 81661503212364326640, 91556863392358888959, 102626972927700483976, 115008478104416525530, 128853600326941307720, 144331875883481827940, 161632086173487125458, 180964398847160834791, 202562742435732390210, 226687439445918559855, 253628125484330954840, 283706984887973441716, 317282336491417202612, 354752606696213687145, 396560730843730807800, 443199028183607373030, 495214600390557697386, 553215308787868483533, 617876391094768824490, 689947784826229965100, 770262231339930755210, 859744242172588121240, 959420017633248279576, 1070428416882022430650, 1194033088810658854190, 1331635884249428578435, 1484791682240210933344, 1655224776672394695588, 1844846984360111462710, 2055777652027258860290, 2290365757542833652200, 2551214320548020905854, 2841207359220603139470, 3163539653828317469230, 3521749603816049152610, 3919755494020381853685, 4361895517100692211294, 4852971934069222129058, 5398299792795889381600, 6003760666302672650615, 6675861918466200225970, 7421802055271272504974, 8249542774944991235994, 9167888391133726766960, 10186573369738228706000, 11316358793225884823940, 12569138646211662898620, 13958056904141529294577, 15497636503099165149900, 17203921374587689941725, 19094632844761275773040, 21189341824726335156653, 23509658357440473591384, 26079440239406599515020, 28925022602149982379260, 32075470521686034780650, 35562856924345106256320, 39422568277088662916607, 43693640790522676134460, 48419130126282471535045, 53646517888251404737710, 59428158492769911177011, 65821770357796421062374, 72890975729058761290245, 80705893874134594732440, 89343792827954962512550, 98889805367409488217038, 109437715434162370650661, 121090821815953189763230, 133962886544089662285350, 148179176171654253467440, 163877604870748875248345, 181209989131762404978392, 200343424772024453751470, 221461797970090986971290, 244767443145620854821185, 270482961709234846741534, 298853217023946640835702, 330147522356932202972770, 364662040171619134187510, 402722412824137011411460, 444686646601489414762975, 490948273082104027328936, 541939814031866079910755, 598136578483343435550090, 660060823305082162117555, 728286311467321192724544, 803443305376450125558482, 886224036102006131600640, 977388693087626922429395, 1077771983044022482182640, 1188290311203563489826600, 1309949643000009986892530, 1443854109565195185786815, 1591215426240137940099700, 1753363199630222590929535, 1931756205632293308593010, 2127994728383300109052086, 2343834058272798183647240, 2581199256092526836293725, 2842201300121968781297060, 3129154743548145115977839, 3444597021158321391789458, 3791309556818249702670595, 4172340836936333533256800, 4591031630024004363822250, 5051042548690179538474196, 5556384168079851993306579, 6111449933997211573082320, 6721052114890928881090825, 7390461074658206516589590, 8125448168019169241121952, 8932332587184114749347828, 9818032517887249373032660, 10790120994781417667077730, 11856886880918219460105695, 13027401433801355450786068, 14311590961578322769999589, 15720316117592406539584840, 17265458430081626107579350, 18960014716598047615295990, 20818200090114297872705684, 22855560326155352348911802, 25089094428093241202459980, 27537388301408381012470810, 30220760527781427599103735, 33161421316850775323060934, 36383645807970960888237075, 39913962996945694531946040, 43781361674209451898904020, 48017514882011555305102440, 52657024529663316766278590, 57737687948687593434866048, 63300788324752229498918215, 69391411111569291209074960, 76058788714660695304643665, 83356675931197984310238110, 91343758847376774163524947, 100084100128360324493823560, 109647623889309336261908020, 120110643611022497154416720, 131556436862101199795489873, 144075870913219840929614812, 157768083680201210977758295, 172741224813391778642036700, 189113262163842157772847650, 207012859304636199368222316, 226580330271344270427314069, 247968678212065488699027680, 271344725208336025916728755, 296890341146905892657868500, 324803780193073905761060317, 355301134143124975914519586, 388617912721164348592032740, 425010761739213772247026530, 464759330964346323894340565, 508168304538652502067329794, 555569607883395662767249707, 607324806194571617214592670, 663827710910757241600541615, 725507211913499964071573280, 792830354714340077196353933, 866305683500086351429406072, 946486872659418942232901155, 1033976671310039763618464800, 1129431187398366223860839350, 1233564540165745973882527058, 1347153912180274026599732036, 1471045034736202737991302260, 1606158143239868398043012025, 1753494442249152476795346880]
theorem n_b_2_2 : b_2_2.length = 400 := by decide +kernel
theorem B_2_2 : tmLs b_2_2 sgL1 = b_2_1 := by decide +kernel
def b_2_3 : List Int := [1, 2, 4, 8, 14, 24, 40, 64, 100, 154, 232, 344, 504, 728, 1040, 1472, 2062, 2864, 3948, 5400, 7336, 9904, 13288, 17728, 23528, 31066, 40824, 53408, 69568, 90248, 116624, 150144, 192612, 246256, 313808, 398640, 504886, 637592, 802936, 1008448, 1263272, 1578528, 1967696, 2447064, 3036328, 3759240, 4644368, 5726080, 7045624, 8652402, 10605564, 12975792, 15847400, 19320904, 23515936, 28574656, 34665872, 41989744, 50783272, 61326856, 73951808, 89049096, 107079712, 128586560, 154208270, 184695456, 220929376, 263943576, 314949200, 375364064, 446846288, 531333440, 631087500, 748746736, 887385864, 1050585080, 1242509544, 1468001248, 1732684304, 2043085952, 2406775976, 2832526306, 3330494096, 3912432072, 4591929040, 5384685232, 6308827912, 7385271744, 8638130600, 10095188560, 11788436936, 13754686896, 16036268736, 18681828016, 21747232288, 25296604096, 29403495400, 34152223024, 39639387364, 45975596616, 53287424374, 61719632168, 71437689296, 82630629440, 95514288824, 110334972512, 127373604792, 146950426888, 169430308704, 195228753672, 224818685744, 258738113600, 297598783424, 342095945312, 393019368160, 451265759280, 517852764088, 593934736120, 680820496056, 779993324928, 893133458704, 1022143389578, 1169176315720, 1336668113328, 1527373256064, 1744405156880, 1991281453488, 2271974827520, 2590970015844, 2953327738320, 3364756358672, 3831692188920, 4361389440400, 4962020948656, 5642790927768, 6414061138688, 7287492023632, 8276200533408, 9394936553248, 10660280058504, 12090861369040, 13707607117664, 15534014851856, 17596459510080, 19924535352374, 22551437333408, 25514386342400, 28855103196344, 32620336821800, 36862452650024, 41640087878408, 47018880988096, 53072283702200, 59882464420368, 67541313153568, 76151559051360, 85828012764352, 96698947207176, 108907631721248, 122614036186432, 137996723398312, 155254949948736, 174610997928996, 196312762133784, 220636620012256, 247890614400992, 278417982216776, 312601065713344, 350865646632400, 393685747760714, 441588950966768, 495162285758520, 555058747957032, 622004514142696, 696806924140080, 780363311169472, 873670767334568, 977836940888944, 1094091971468128, 1223801680121592, 1368482142600120, 1529815787230456, 1709669172781168, 1910112617087168, 2133441864187792, 2382201996297856, 2659213817204208, 2967602956053552, 3310831964946560, 3692735710455232, 4117560388598672, 4590006524957824, 5115276356715000, 5699126032023856, 6347923104308752, 7068709845164640, 7869272950148382, 8758220267042680, 9745065236536520, 10840319801510208, 12055596613448604, 13403721443461584, 14898856791947064, 16556637785418336, 18394321552125264, 20430951381022304, 22687537091866448, 25187253178662336, 27955656435773416, 31020924936491440, 34414120408862368, 38169476244909000, 42324713588049400, 46921388170987232, 52005270824875704, 57626764851470016, 63841363745226272, 70710153074638688, 78300360683341640, 86685959754142176, 95948329696619584, 106176980273654592, 117470344877447088, 129936649405518592, 143694863775085968, 158875743754158098, 175622971485083296, 194094403835283320, 214463438535830800, 236920508968036216, 261674719436822928, 288955633834141824, 319015231754369000, 352130047383714128, 388603507855774632, 428768489255978160, 472990110078057464, 521668783696898832, 575243553337247008, 634195735098829440, 699052896859482688, 770393203335342864, 848850160246517964, 935117793435696104, 1029956301936618552, 1134198227409020456, 1248755186069127792, 1374625213276181184, 1512900775311002400, 1664777507631008592, 1831563744040092144, 2014690906803656552, 2215724833805155520, 2436378125421922096, 2678523600935931712, 2944208962035366912, 3235672769357219854, 3555361847121802176, 3905950240774997728, 4290359863248440928, 4711782977037613664, 5173706671856430168, 5679939511235904504, 6234640536177618368, 6842350829942357600, 7508027865352987808, 8237082874724117392, 9035421502815761712, 9909488025172701288, 10866313437988941512, 11913567751374092096, 13059616845756881024, 14313584281308528208, 15685418482889413472, 17185965758318501808, 18827049645947914360, 20621557128826004768, 22583532297404427336, 24728278091053896664, 27072466800889587840, 29634260072887157968, 32433439211328033584, 35491546648611244192, 38832039518804804232, 42480456349401075392, 46464597969042544192, 50814723818992047792, 55563764953358987776, 60747555118129410444, 66405081412501161442, 72578756158551622224, 79314711737575733472, 86663120294297434000, 94678540364398158552, 103420292647309197208, 112952867325942237248, 123346365529007949768, 134676977740903089856, 147027502190030437176, 160487906490129863616, 175155936072122455560, 191137773227594597600, 208548750890966348848, 227514125617316031040, 248169914568626254056, 270663801704856473088, 295156118789870498704, 321820907268160578888, 350847067548976538400, 382439602752545083152, 416820964531415341216, 454232509181653778112, 494936072906933414800, 539215675797073889312, 587379364835091827336, 639761207057408405520, 696723444864941562752, 758658826423099879480, 825993125101268686512, 899187862992699417280, 978743254729625730216, 1065201389072221699376, 1159149667110452514592, 1261224517382185529056, 1372115409786911859502, 1492569191870444909864, 1623394772880969764024, 1765468182960442703808, 1919738036947929590800, 2087231434544100968480, 2269060331030667855136, 2466428415367827082248, 2680638535320471828536, 2913100712304704561080, 3165340791915844479024, 3439009779614541322816, 3735893914826923443920, 4057925540777383857248, 4407194831739479857500, 4785962444083847414160, 5196673162546002470608, 5641970618557100046160, 6124713163304697368232, 6647990984447870540288, 7215144562133297877960, 7829784567180066885344, 8495813312057359467464, 9217447873609753094840, 9999245015431378379328, 10846128047397334629608, 11763415770176464781008, 12756853663625141305600, 13832647489852104100264, 14997499494508463340864, 16258647403557777120896, 17623906427486175262560, 19101714500694092154928, 20701181000746692876128, 22432139210332426475256, 24305202804277003901888, 26331826664878437335176, 28524372351269271839610, 30896178572583551185832, 33461637040524815056424, 36236274104622155009616, 39236838603157352296432, 42481396394590030937904, 45989432068452243282816, 49781958371292203322048, 53881633922493653273952, 58312889836869457650480, 63102065916025252100544, 68277557118825038510800, 73869971073094100815480, 79912297446209867742768, 86440090051719682510464, 93491662632865296638240, 101108299332185943512576, 109334480929534383365696, 118218128009214732060168, 127810862300901990097984, 138168287528920917601136, 149350291200763053048352, 161421368868850548289152, 174450972509989973900264, 188513884785206879477984, 203690621069255892785168, 220067861274641909735160, 237738913640085555538000, 256804212808682840175240, 277371854687252215185728, 299558170756287702139520, 323488344690351274885700, 349297074352502956978128, 377129282444403389897096, 407140879327013392236480, 439499581776407284392888, 474385791706231527344136, 511993539173973039354960, 552531494293728664900864]
theorem n_b_2_3 : b_2_3.length = 400 := by decide +kernel
theorem B_2_3 : tmLs b_2_2 sgL2 = b_2_3 := by decide +kernel
def b_2_4 : List Int := [1, 2, 3, 6, 9, 14, 22, 32, 46, 66, 93, 128, 176, 238, 319, 426, 562, 736, 960, 1242, 1598, 2048, 2608, 3306, 4175, 5248, 6570, 8198, 10190, 12622, 15589, 19190, 23552, 28830, 35190, 42842, 52034, 63040, 76198, 91904, 110604, 132832, 159216, 190464, 227417, 271058, 322496, 383040, 454210, 537728, 635610, 750182, 884089, 1040402, 1222656, 1434870, 1681682, 1968416, 2301120, 2686746, 3133248, 3649650, 4246288, 4934954, 5729010, 6643712, 7696412, 8906752, 10297088, 11892786, 13722523, 15818838, 18218576, 20963326, 24100160, 27682272, 31769600, 36429842, 41739338, 47783980, 54660577, 62478080, 71358896, 81440710, 92878206, 105844910, 120535638, 137168896, 155989440, 177271582, 201322496, 228485754, 259145792, 293732434, 332725766, 376662144, 426140350, 481828288, 544471040, 614899232, 694038162, 782918578, 882688027, 994623210, 1120144414, 1260830812, 1418437120, 1594912896, 1792423074, 2013370368, 2260420986, 2536532096, 2844981872, 3189403648, 3573822583, 4002695770, 4480957504, 5014068096, 5608067204, 6269633750, 7006150656, 7825775554, 8737519920, 9751334656, 10878203614, 12130247808, 13520838272, 15064719402, 16778145872, 18679031102, 20787109440, 23124115642, 25713979696, 28583039506, 31760275670, 35277566474, 39169966080, 43476011008, 48238053034, 53502622234, 59320826151, 65748783374, 72848096256, 80686369632, 89337774336, 98883661246, 109413233958, 121024279616, 133823964718, 147929705742, 163470114858, 180586029110, 199431635010, 220175689728, 243002849405, 268115118854, 295733425310, 326099329376, 359476890176, 396154689536, 436448031360, 480701336798, 529290742800, 582626923904, 641158162432, 705373678080, 775807241498, 853041102688, 937710249454, 1030507026594, 1132186153436, 1243570160550, 1365555283968, 1499117862656, 1645321267510, 1805323409408, 1980384882302, 2171877779136, 2381295239306, 2610261796608, 2860544577150, 3134065420064, 3432914006016, 3759362057460, 4115878701361, 4505147098786, 4930082423808, 5393851304608, 5899892854868, 6451941401486, 7054051048438, 7710622234518, 8426430420368, 9206657077760, 10056923175744, 10983325335258, 11992474866516, 13091539929088, 14288291031206, 15591150133878, 17009243655185, 18552459647360, 20231509475466, 22057994361062, 24044477133248, 26204559593472, 28552965941322, 31105632690176, 33879805574144, 36894143997028, 40168833558474, 43725707275936, 47588376180336, 51782369951250, 56335288354752, 61276964317120, 66639639461602, 72458153048672, 78770145342934, 85616276432896, 93040461660672, 101090124917888, 109816471078336, 119274778989386, 129524716564158, 140630679543940, 152662155677558, 165694116208838, 179807436607488, 195089348687470, 211633926429696, 229542607892480, 248924755838928, 269898259917154, 292590183324851, 317137457178496, 343687626056306, 372399648315488, 403444755124022, 437007372447872, 473286110409216, 512494824833024, 554863756162048, 600640751148038, 650092573204112, 703506307739424, 761190869091674, 823478616240064, 890727085005236, 963320844820606, 1041673488832470, 1126229766717440, 1217467870085399, 1315901881135086, 1422084395991542, 1536609334756438, 1660114951254080, 1793287056374656, 1936862469666560, 2091632714965990, 2258447976957102, 2438221336489084, 2631933303832768, 2840636670388224, 3065461700511122, 3307621686743330, 3568418893332800, 3849250914353696, 4151617474668046, 4477127703896178, 4827507915313472, 5204609923897226, 5610419940064400, 6047068077782464, 6516838518493184, 7022180375073190, 7565719302670254, 8150269906551168, 8778849000439808, 9454689772011744, 10181256916151134, 10962262800589634, 11801684732423312, 12703783398709376, 13673122559164608, 14714590073688064, 15833420353054726, 17035218326910048, 18325985028884686, 19712144905371746, 21200574961440525, 22798635864238592, 24514205132267248, 26355712547218318, 28332177933364138, 30453251459085558, 32729256625065984, 35171236113688576, 37791000685625542, 40601181321511188, 43615284818635220, 46847753066262702, 50314026237424928, 54030610149501514, 58015148062227840, 62286497198779520, 66864810292966490, 71771622485028864, 77029943908853826, 82664358334280366, 88701128251357615, 95168306807691466, 102095857034991616, 109515778828574878, 117462244172541034, 125971741133228928, 135083227176489118, 144838292398845856, 155281333298357248, 166459737750191488, 178424081893093376, 191228339675604098, 204930105857559792, 219590833311408326, 235276085518836802, 252055805213702144, 270004600180599040, 289202047279162058, 309733015830175552, 331688011568971776, 355163542443993472, 380262507616794080, 407094611102266128, 435776801574076160, 466433739953394176, 499198296497046986, 534212079203758476, 571625995467662368, 611600849024689498, 654307974359323476, 699929910870336512, 748661119232276274, 800708742534272176, 856293414933196800, 915650120722088786, 979029106886624672, 1046696852406672826, 1118937097754214688, 1196051938242807246, 1278362985102000128, 1366212598380248246, 1459965196021561344, 1560008643719496637, 1666755730424571776, 1780645734667517248, 1902146087166484998, 2031754135508760110, 2169999017036529888, 2317443646427772586, 2474686824844668672, 2642365477923037296, 2821157030303588864, 3011781924856544256, 3215006295225442246, 3431644800820733184, 3662563633926270876, 3908683709142274048, 4170984045984327808, 4450505356086746304, 4748353847120540032, 5065705256239562378, 5403809126610395444, 5763993341362827264, 6147668930127331886, 6556335164201111445, 6991584957305910656, 7455110589878757410, 7948709775868437758, 8474292092097122972, 9033885791398847302, 9629645021962036386, 10263857476583671904, 10938952496899678208, 11657509659087476246, 12422267869044546560, 13236134996644113406, 14102198080353749376, 15023734135277568352, 16004221599561806062, 17047352456085428224, 18157045068445387712, 19337457772455786954, 20593003266710419344, 21928363848213198272, 23348507541677967574, 24858705173837629440, 26464548446987649438, 28171969069039726048, 29987259000577987328, 31917091882798901334]
theorem n_b_2_4 : b_2_4.length = 400 := by decide +kernel
theorem B_2_4 : tmLs b_2_3 sgL2 = b_2_4 := by decide +kernel
def b_2_5 : List Int := [1, 2, 2, 4, 5, 6, 10, 12, 15, 20, 26, 32, 40, 50, 60, 76, 92, 110, 134, 160, 191, 230, 272, 320, 380, 446, 522, 612, 715, 830, 966, 1120, 1292, 1494, 1720, 1976, 2272, 2602, 2974, 3400, 3876, 4412, 5020, 5700, 6460, 7322, 8282, 9352, 10559, 11900, 13396, 15072, 16932, 19000, 21310, 23872, 26712, 29872, 33370, 37240, 41537, 46282, 51522, 57324, 63720, 70772, 78562, 87132, 96564, 106960, 118382, 130932, 144732, 159874, 176480, 194712, 214684, 236554, 260524, 286740, 315412, 346782, 381044, 418464, 459340, 503932, 552564, 605612, 663409, 726360, 794938, 869564, 950744, 1039064, 1135060, 1239368, 1352712, 1475764, 1609324, 1754280, 1911488, 2081934, 2266714, 2466904, 2683725, 2918538, 3172674, 3447644, 3745128, 4066780, 4414474, 4790264, 5196204, 5634604, 6107980, 6618884, 7170144, 7764844, 8406134, 9097480, 9842664, 10645546, 11510374, 12441768, 13444460, 14523654, 15684966, 16934196, 18277684, 19722270, 21275044, 22943716, 24736596, 26662328, 28730280, 30950540, 33333616, 35890866, 38634518, 41577320, 44733045, 48116466, 51743026, 55629388, 59793380, 64253700, 69030446, 74145116, 79620288, 85480180, 91750696, 98459028, 105634328, 113307742, 121511990, 130282116, 139655496, 149671448, 160372028, 171802040, 184008671, 197042298, 210956568, 225808008, 241656900, 258567402, 276607118, 295848088, 316366932, 338244400, 361566482, 386424548, 412914920, 441140102, 471208920, 503236152, 537343800, 573661330, 612325322, 653480820, 697281688, 743890210, 793478630, 846229572, 902335640, 962001168, 1025442630, 1092888360, 1164580452, 1240775240, 1321743124, 1407770572, 1499160800, 1596233632, 1699327700, 1808801304, 1925032272, 2048420482, 2179388836, 2318383240, 2465875400, 2622363932, 2788374522, 2964463016, 3151216715, 3349254730, 3559231362, 3781837672, 4017802056, 4267893940, 4532925716, 4813753444, 5111281064, 5426462650, 5760303340, 6113864116, 6488264324, 6884683034, 7304364336, 7748620280, 8218832692, 8716458974, 9243035664, 9800180676, 10389599780, 11013090808, 11672546336, 12369961056, 13107436635, 13887185000, 14711536678, 15582946336, 16503996888, 17477408850, 18506046760, 19592924184, 20741214148, 21954256686, 23235564830, 24588836320, 26017962424, 27527034978, 29120359678, 30802466284, 32578116940, 34452321250, 36430347948, 38517734860, 40720305924, 43044184600, 45495805716, 48081934560, 50809682480, 53686520774, 56720302210, 59919279152, 63292119620, 66847931822, 70596284958, 74547227960, 78711317352, 83099641022, 87723840242, 92596141128, 97729381980, 103137038948, 108833261534, 114832904132, 121151555768, 127805580320, 134812152774, 142189293544, 149955914184, 158131858952, 166737944440, 175796011500, 185328972724, 195360858326, 205916875022, 217023460320, 228708335551, 241000572436, 253930655386, 267530542552, 281833741200, 296875379132, 312692274648, 329323022228, 346808074096, 365189820520, 384512687118, 404823227768, 426170216968, 448604760086, 472180399380, 496953219944, 522981974520, 550328204630, 579056361806, 609233949040, 640931659000, 674223512472, 709187018902, 745903333800, 784457416920, 824938214306, 867438837312, 912056743424, 958893942465, 1008057200280, 1059658245142, 1113814001164, 1170646820124, 1230284716750, 1292861633000, 1358517701724, 1427399514456, 1499660420856, 1575460828268, 1654968506400, 1738358926520, 1825815601316, 1917530431718, 2013704090724, 2114546409020, 2220276769446, 2331124540900, 2447329516108, 2569142359608, 2696825098490, 2830651618888, 2970908174260, 3117893940620, 3271921579022, 3433317812240, 3602424052524, 3779597038452, 3965209489082, 4159650813282, 4363327830680, 4576665513100, 4800107785644, 5034118342754, 5279181487936, 5535803038320, 5804511247892, 6085857757756, 6380418617596, 6688795329400, 7011615922460, 7349536106388, 7703240450228, 8073443598360, 8460891571300, 8866363097400, 9290670987360, 9734663600900, 10199226350650, 10685283254800, 11193798590560, 11725778591652, 12282273200992, 12864377934612, 13473235796428, 14110039256200, 14776032349748, 15472512837644, 16200834436844, 16962409185953, 17758709878280, 18591272578290, 19461699284216, 20371660669656, 21322898919578, 22317230727000, 23356550380752, 24442832959980, 25578137706060, 26764611498546, 28004492452220, 29300113709744, 30653907352790, 32068408451062, 33546259326436, 35090213952260, 36703142509166, 38388036177244, 40148012083104, 41986318423440, 43906339849040, 45911603025618, 48005782393056, 50192706212996, 52476362816664, 54860907076520, 57350667196740, 59950151729828, 62664056846630, 65497273957794, 68454897591400]
theorem n_b_2_5 : b_2_5.length = 400 := by decide +kernel
theorem B_2_5 : tmLs b_2_4 sgL2 = b_2_5 := by decide +kernel
def b_2_6 : List Int := [1, 2, 1, 2, 2, 0, 3, 2, 0, 2, 2, 2, 1, 2, 0, 2, 4, 0, 2, 0, 1, 4, 2, 0, 2, 2, 0, 2, 2, 2, 1, 4, 0, 0, 2, 0, 4, 2, 2, 2, 0, 0, 3, 2, 0, 2, 4, 0, 2, 2, 0, 4, 0, 0, 0, 4, 3, 2, 2, 0, 2, 2, 0, 0, 2, 2, 4, 2, 0, 2, 2, 0, 3, 2, 0, 0, 4, 0, 2, 2, 0, 6, 0, 2, 2, 0, 0, 2, 2, 0, 1, 4, 2, 2, 4, 0, 0, 2, 0, 2, 2, 2, 2, 0, 0, 2, 6, 0, 2, 0, 1, 4, 2, 0, 2, 2, 0, 0, 0, 2, 4, 4, 0, 4, 0, 0, 4, 2, 0, 0, 2, 0, 1, 4, 0, 2, 4, 2, 0, 2, 0, 4, 2, 0, 2, 0, 4, 0, 2, 0, 2, 2, 0, 2, 2, 0, 5, 4, 0, 2, 2, 0, 0, 2, 2, 2, 0, 0, 2, 2, 0, 4, 4, 0, 4, 2, 0, 2, 0, 0, 0, 6, 1, 2, 0, 0, 4, 0, 0, 2, 2, 4, 2, 2, 0, 0, 4, 0, 4, 2, 2, 0, 2, 0, 0, 2, 0, 2, 2, 0, 3, 6, 0, 2, 2, 0, 4, 0, 2, 2, 2, 0, 0, 0, 0, 4, 4, 2, 0, 0, 0, 6, 2, 0, 2, 2, 0, 4, 2, 0, 1, 4, 0, 0, 2, 2, 4, 0, 0, 2, 0, 0, 2, 2, 2, 2, 6, 0, 2, 4, 0, 0, 2, 2, 0, 2, 0, 2, 4, 0, 0, 0, 1, 2, 2, 0, 8, 2, 0, 2, 0, 4, 2, 0, 0, 0, 4, 0, 2, 4, 0, 4, 0, 0, 0, 2, 0, 4, 2, 0, 2, 4, 0, 2, 2, 0, 3, 2, 2, 2, 4, 0, 2, 0, 0, 4, 0, 0, 0, 2, 0, 4, 2, 0, 2, 2, 4, 0, 4, 0, 2, 6, 0, 0, 0, 2, 4, 0, 0, 0, 2, 0, 3, 2, 2, 2, 4, 0, 0, 0, 0, 4, 2, 2, 4, 2, 0, 2, 2, 0, 0, 6, 0, 2, 0, 0, 4, 4, 0, 0, 2, 0, 2, 2, 0, 0, 0, 0, 4, 4, 3, 6, 0, 0, 4, 0, 0, 2, 2, 2, 0, 4, 0, 2, 0, 0, 4, 0, 0, 2]
theorem n_b_2_6 : b_2_6.length = 400 := by decide +kernel
theorem B_2_6 : tmLs b_2_5 sgL2 = b_2_6 := by decide +kernel
def b_2_7 : List Int := [1, 2, 0, 0, 0, -4, 0, 0, -5, 0, 0, 0, 0, 0, 0, 0, 7, 0, 0, 0, 0, 8, 0, 0, 0, 0, 0, 0, 0, 0, 0, 0, 0, -10, 0, 0, 0, 0, 0, 0, -11, 0, 0, 0, 0, 0, 0, 0, 0, 0, 0, 0, 0, 0, 0, 0, 13, 0, 0, 0, 0, 0, 0, 0, 0, 14, 0, 0, 0, 0, 0, 0, 0, 0, 0, 0, 0, 0, 0, 0, 0, 0, 0, 0, 0, -16, 0, 0, 0, 0, 0, 0, 0, 0, 0, 0, -17, 0, 0, 0, 0, 0, 0, 0, 0, 0, 0, 0, 0, 0, 0, 0, 0, 0, 0, 0, 0, 0, 0, 0, 19, 0, 0, 0, 0, 0, 0, 0, 0, 0, 0, 0, 0, 20, 0, 0, 0, 0, 0, 0, 0, 0, 0, 0, 0, 0, 0, 0, 0, 0, 0, 0, 0, 0, 0, 0, 0, 0, 0, 0, 0, -22, 0, 0, 0, 0, 0, 0, 0, 0, 0, 0, 0, 0, 0, 0, -23, 0, 0, 0, 0, 0, 0, 0, 0, 0, 0, 0, 0, 0, 0, 0, 0, 0, 0, 0, 0, 0, 0, 0, 0, 0, 0, 0, 0, 0, 0, 0, 25, 0, 0, 0, 0, 0, 0, 0, 0, 0, 0, 0, 0, 0, 0, 0, 0, 26, 0, 0, 0, 0, 0, 0, 0, 0, 0, 0, 0, 0, 0, 0, 0, 0, 0, 0, 0, 0, 0, 0, 0, 0, 0, 0, 0, 0, 0, 0, 0, 0, 0, 0, 0, -28, 0, 0, 0, 0, 0, 0, 0, 0, 0, 0, 0, 0, 0, 0, 0, 0, 0, 0, -29, 0, 0, 0, 0, 0, 0, 0, 0, 0, 0, 0, 0, 0, 0, 0, 0, 0, 0, 0, 0, 0, 0, 0, 0, 0, 0, 0, 0, 0, 0, 0, 0, 0, 0, 0, 0, 0, 0, 0, 31, 0, 0, 0, 0, 0, 0, 0, 0, 0, 0, 0, 0, 0, 0, 0, 0, 0, 0, 0, 0, 32, 0, 0, 0, 0, 0, 0, 0, 0, 0, 0, 0, 0, 0, 0, 0, 0, 0, 0, 0, 0, 0, 0, 0, 0, 0, 0, 0, 0, 0, 0, 0, 0, 0, 0, 0, 0, 0, 0, 0, 0, 0, 0, 0, -34, 0, 0, 0, 0, 0, 0, 0, 0, 0, 0, 0, 0, 0, 0]
theorem n_b_2_7 : b_2_7.length = 400 := by decide +kernel
theorem B_2_7 : tmLs b_2_6 sgL2 = b_2_7 := by decide +kernel
def b_2_8 : List Int := [1, 2, 0, 0, 1, -2, 0, 0, -3, 0, 0, 0, -2, -2, 0, 0, 2, -2, 0, 0, -1, 2, 0, 0, 0, 2, 0, 0, 1, 2, 0, 0, 2, -2, 0, 0, 4, 2, 0, 0, -2, 0, 0, 0, 0, 2, 0, 0, -1, 0, 0, 0, -2, 0, 0, 0, 2, -4, 0, 0, -1, -2, 0, 0, 0, 0, 0, 0, -2, 0, 0, 0, -2, -2, 0, 0, -2, 2, 0, 0, 0, 2, 0, 0, 0, -4, 0, 0, 1, 0, 0, 0, 4, 0, 0, 0, -2, 0, 0, 0, 2, 2, 0, 0, 1, 2, 0, 0, 0, 0, 0, 0, -2, 4, 0, 0, 0, 0, 0, 0, 4, 2, 0, 0, 0, -2, 0, 0, 2, -2, 0, 0, 0, 0, 0, 0, 0, 2, 0, 0, 1, -2, 0, 0, 0, 0, 0, 0, -4, 0, 0, 0, 0, 2, 0, 0, -2, 0, 0, 0, -3, -2, 0, 0, 0, -2, 0, 0, 2, 0, 0, 0, 2, -2, 0, 0, -4, -2, 0, 0, 0, -2, 0, 0, 0, 0, 0, 0, 2, 0, 0, 0, -2, 0, 0, 0, 0, 2, 0, 0, -2, 0, 0, 0, -3, 2, 0, 0, 2, 0, 0, 0, 0, 2, 0, 0, 2, -2, 0, 0, 2, -2, 0, 0, 0, 4, 0, 0, 1, 0, 0, 0, 4, -2, 0, 0, 0, 2, 0, 0, 0, -2, 0, 0, 0, 2, 0, 0, 2, 0, 0, 0, 0, 6, 0, 0, 0, 2, 0, 0, -4, -2, 0, 0, 0, 0, 0, 0, 2, 0, 0, 0, 0, 0, 0, 0, 2, 2, 0, 0, -1, -4, 0, 0, 0, 0, 0, 0, 0, 0, 0, 0, 2, -2, 0, 0, -2, -2, 0, 0, 2, 0, 0, 0, -2, -2, 0, 0, -1, 0, 0, 0, -2, 2, 0, 0, -4, 0, 0, 0, 0, 0, 0, 0, 0, 2, 0, 0, 0, -2, 0, 0, -2, -2, 0, 0, -2, -2, 0, 0, 0, 0, 0, 0, 0, 0, 0, 0, 2, 0, 0, 0, 2, 0, 0, 0, -2, -2, 0, 0, 2, 0, 0, 0, 0, -4, 0, 0, 1, 0, 0, 0, 0, 2, 0, 0, 0, 4, 0, 0, -2, 2, 0, 0, 0, -2, 0, 0, 0, 0, 0, 0, 0, 4, 0, 0, -2, 2, 0, 0]
theorem n_b_2_8 : b_2_8.length = 400 := by decide +kernel
theorem B_2_8 : tmLs b_2_8 sgL4 = b_2_7 := by decide +kernel
theorem B_2_9 : tmLs K2 sgL4 = b_2_8 := by decide +kernel
theorem F_2 {N : Nat} (hN : N ≤ 400) : Agree N (bfF N p_k2) K2 := by
  have h0 : Agree N dl lD := agree_of lD_eq hN
  have h1 := lapO (n := 0) (r := -2) sgL1_eq hN n_lD n_b_2_1 (by decide) B_2_1 (by decide) (show Agree N (itF (LP N (1, (-2))) 0 (dl)) lD from h0)
  have h2 := lapO (n := 1) (r := -2) sgL1_eq hN n_b_2_1 n_b_2_2 (by decide) B_2_2 (by decide) h1
  have h3 := lapT (n := 0) (r := 5) sgL2_eq hN n_b_2_2 (by decide) B_2_3 (by decide) (show Agree N (itF (LP N (2, 5)) 0 (itF (LP N (1, (-2))) 2 (dl))) b_2_2 from h2)
  have h4 := lapT (n := 1) (r := 5) sgL2_eq hN n_b_2_3 (by decide) B_2_4 (by decide) h3
  have h5 := lapT (n := 2) (r := 5) sgL2_eq hN n_b_2_4 (by decide) B_2_5 (by decide) h4
  have h6 := lapT (n := 3) (r := 5) sgL2_eq hN n_b_2_5 (by decide) B_2_6 (by decide) h5
  have h7 := lapT (n := 4) (r := 5) sgL2_eq hN n_b_2_6 (by decide) B_2_7 (by decide) h6
  have h8 := lapO (n := 0) (r := -2) sgL4_eq hN n_b_2_7 n_b_2_8 (by decide) B_2_8 (by decide) (show Agree N (itF (LP N (4, (-2))) 0 (itF (LP N (2, 5)) 5 (itF (LP N (1, (-2))) 2 (dl)))) b_2_7 from h7)
  have h9 := lapO (n := 1) (r := -2) sgL4_eq hN n_b_2_8 n_K2 (by decide) B_2_9 (by decide) h8
  unfold p_k2
  rw [bf_3 (n1 := 2) rfl (n2 := 5) rfl (n3 := 2) rfl]
  exact h9
def b_3_1 : List Int := [1, -1, -1, 0, 0, 1, 0, 1, 0, 0, 0, 0, -1, 0, 0, -1, 0, 0, 0, 0, 0, 0, 1, 0, 0, 0, 1, 0, 0, 0, 0, 0, 0, 0, 0, -1, 0, 0, 0, 0, -1, 0, 0, 0, 0, 0, 0, 0, 0, 0, 0, 1, 0, 0, 0, 0, 0, 1, 0, 0, 0, 0, 0, 0, 0, 0, 0, 0, 0, 0, -1, 0, 0, 0, 0, 0, 0, -1, 0, 0, 0, 0, 0, 0, 0, 0, 0, 0, 0, 0, 0, 0, 1, 0, 0, 0, 0, 0, 0, 0, 1, 0, 0, 0, 0, 0, 0, 0, 0, 0, 0, 0, 0, 0, 0, 0, 0, -1, 0, 0, 0, 0, 0, 0, 0, 0, -1, 0, 0, 0, 0, 0, 0, 0, 0, 0, 0, 0, 0, 0, 0, 0, 0, 0, 0, 1, 0, 0, 0, 0, 0, 0, 0, 0, 0, 1, 0, 0, 0, 0, 0, 0, 0, 0, 0, 0, 0, 0, 0, 0, 0, 0, 0, 0, 0, 0, -1, 0, 0, 0, 0, 0, 0, 0, 0, 0, 0, -1, 0, 0, 0, 0, 0, 0, 0, 0, 0, 0, 0, 0, 0, 0, 0, 0, 0, 0, 0, 0, 0, 0, 1, 0, 0, 0, 0, 0, 0, 0, 0, 0, 0, 0, 1, 0, 0, 0, 0, 0, 0, 0, 0, 0, 0, 0, 0, 0, 0, 0, 0, 0, 0, 0, 0, 0, 0, 0, 0, -1, 0, 0, 0, 0, 0, 0, 0, 0, 0, 0, 0, 0, -1, 0, 0, 0, 0, 0, 0, 0, 0, 0, 0, 0, 0, 0, 0, 0, 0, 0, 0, 0, 0, 0, 0, 0, 0, 0, 0, 1, 0, 0, 0, 0, 0, 0, 0, 0, 0, 0, 0, 0, 0, 1, 0, 0, 0, 0, 0, 0, 0, 0, 0, 0, 0, 0, 0, 0, 0, 0, 0, 0, 0, 0, 0, 0, 0, 0, 0, 0, 0, 0, -1, 0, 0, 0, 0, 0, 0, 0, 0, 0, 0, 0, 0, 0, 0, -1, 0, 0, 0, 0, 0, 0, 0, 0, 0, 0, 0, 0, 0, 0, 0, 0, 0, 0, 0, 0, 0, 0, 0, 0, 0, 0, 0, 0, 0, 0, 1, 0, 0, 0, 0, 0, 0, 0, 0, 0, 0, 0, 0, 0, 0, 0, 1, 0, 0, 0, 0, 0, 0, 0]
theorem n_b_3_1 : b_3_1.length = 400 := by decide +kernel
theorem B_3_1 : tmLs lD sgL1 = b_3_1 := by decide +kernel
def b_3_2 : List Int := [1, -2, -1, 2, 1, 2, -2, 0, -2, -2, 1, 0, 0, 2, 3, -2, 2, 0, 0, -2, -2, 0, 0, -2, -1, 0, 2, 2, -2, 2, 1, 2, 0, 2, -2, -2, 2, 0, -2, 0, -4, 0, 0, 0, 1, -2, 0, 0, 2, 0, 2, 2, 1, -2, 0, 2, 2, 0, 0, -2, 0, -2, 0, -2, 2, 0, -4, 0, 0, -2, -1, 2, 0, 2, 0, 0, 0, -2, 2, 4, 1, 0, 0, 2, -2, 2, -2, 0, 0, 2, 0, -2, 0, -2, -2, 0, -2, 0, 0, 0, 2, -2, -1, -2, -2, 4, 0, 0, 2, 0, 2, 0, 0, 0, 3, -2, 0, 0, 4, 2, 0, -2, 0, 0, -2, 0, 0, -2, 0, 2, 0, -2, 0, -2, -2, -2, 0, 0, 2, -2, -1, 2, 0, 0, 0, 2, -2, 0, -2, 2, 2, 2, 2, 0, 1, 2, -2, 0, 0, 0, 0, 2, 0, 0, 0, 0, 2, 0, -2, -2, -4, 2, 0, 0, -2, 0, -2, 0, 2, 0, -2, 0, 0, -4, 1, -2, 0, 0, 4, 2, -2, 2, 0, 0, 0, -2, 4, 0, -2, 2, 1, 0, 2, 2, 0, 0, 2, 0, 0, -4, 2, 0, 0, -2, 0, 0, 2, 0, -2, 0, 0, 0, 0, -2, -2, -4, -2, 2, 0, 2, 0, 0, 0, -2, -1, 0, 2, 0, -2, 0, 0, 0, 0, 2, 0, 0, 2, 0, 4, 2, -2, 0, -1, 2, -2, 2, 0, 0, 0, 2, -2, 4, 0, 0, 2, -2, 0, 0, -2, -2, 0, -2, 0, 0, 0, 2, -2, 0, 0, 0, -2, -2, 0, 0, 0, 0, -2, 0, -2, -2, 1, 0, 0, 2, 2, 2, 0, 0, -2, -4, 4, 2, 0, -2, 0, 0, 2, 0, 2, 2, 3, -2, 0, 2, 2, 0, -2, 0, 0, 0, 0, -2, 0, 2, 2, 0, 0, -2, 0, 0, 0, 0, 0, 0, 0, -2, -4, 0, 2, -4, 0, -2, 0, 0, 2, 0, 2, 0, -2, 0, -2, 0, -3, 0, 0, 2, -2, 0, 2, 0, 0, 0, 0, 2, 0, 4, 0, 0, 0, 0, 2, -4, 0, 2, 1, 0, 2, 2, -4, 2, 2, 0, 0, 2, 0, 2, 0, 0, -2, 0, 0, -2, 0, 0, -2, 0, -2, 0, 0, 2]
theorem n_b_3_2 : b_3_2.length = 400 := by decide +kernel
theorem B_3_2 : tmLs b_3_1 sgL1 = b_3_2 := by decide +kernel
theorem B_3_3 : tmLs K3 sgL2 = b_3_2 := by decide +kernel
theorem F_3 {N : Nat} (hN : N ≤ 400) : Agree N (bfF N p_k3) K3 := by
  have h0 : Agree N dl lD := agree_of lD_eq hN
  have h1 := lapT (n := 0) (r := 2) sgL1_eq hN n_lD (by decide) B_3_1 (by decide) (show Agree N (itF (LP N (1, 2)) 0 (dl)) lD from h0)
  have h2 := lapT (n := 1) (r := 2) sgL1_eq hN n_b_3_1 (by decide) B_3_2 (by decide) h1
  have h3 := lapO (n := 0) (r := -1) sgL2_eq hN n_b_3_2 n_K3 (by decide) B_3_3 (by decide) (show Agree N (itF (LP N (2, (-1))) 0 (itF (LP N (1, 2)) 2 (dl))) b_3_2 from h2)
  unfold p_k3
  rw [bf_2 (n1 := 2) rfl (n2 := 1) rfl]
  exact h3
theorem B_4_1 : tmLs K4 sgL1 = lD := by decide +kernel
theorem F_4 {N : Nat} (hN : N ≤ 400) : Agree N (bfF N p_k4) K4 := by
  have h0 : Agree N dl lD := agree_of lD_eq hN
  have h1 := lapO (n := 0) (r := -1) sgL1_eq hN n_lD n_K4 (by decide) B_4_1 (by decide) (show Agree N (itF (LP N (1, (-1))) 0 (dl)) lD from h0)
  unfold p_k4
  rw [bf_1 (n1 := 1) rfl]
  exact h1
def b_5_1 : List Int := [1, 1, 2, 3, 5, 7, 11, 15, 22, 30, 42, 56, 77, 101, 135, 176, 231, 297, 385, 490, 627, 792, 1002, 1255, 1575, 1958, 2436, 3010, 3718, 4565, 5604, 6842, 8349, 10143, 12310, 14883, 17977, 21637, 26015, 31185, 37338, 44583, 53174, 63261, 75175, 89134, 105558, 124754, 147273, 173525, 204226, 239943, 281589, 329931, 386155, 451276, 526823, 614154, 715220, 831820, 966467, 1121505, 1300156, 1505499, 1741630, 2012558, 2323520, 2679689, 3087735, 3554345, 4087968, 4697205, 5392783, 6185689, 7089500, 8118264, 9289091, 10619863, 12132164, 13848650, 15796476, 18004327, 20506255, 23338469, 26543660, 30167357, 34262962, 38887673, 44108109, 49995925, 56634173, 64112359, 72533807, 82010177, 92669720, 104651419, 118114304, 133230930, 150198136, 169229875, 190569292, 214481126, 241265379, 271248950, 304801365, 342325709, 384276336, 431149389, 483502844, 541946240, 607163746, 679903203, 761002156, 851376628, 952050665, 1064144451, 1188908248, 1327710076, 1482074143, 1653668665, 1844349560, 2056148051, 2291320912, 2552338241, 2841940500, 3163127352, 3519222692, 3913864295, 4351078600, 4835271870, 5371315400, 5964539504, 6620830889, 7346629512, 8149040695, 9035836076, 10015581680, 11097645016, 12292341831, 13610949895, 15065878135, 16670689208, 18440293320, 20390982757, 22540654445, 24908858009, 27517052599, 30388671978, 33549419497, 37027355200, 40853235313, 45060624582, 49686288421, 54770336324, 60356673280, 66493182097, 73232243759, 80630964769, 88751778802, 97662728555, 107438159466, 118159068427, 129913904637, 142798995930, 156919475295, 172389800255, 189334822579, 207890420102, 228204732751, 250438925115, 274768617130, 301384802048, 330495499613, 362326859895, 397125074750, 435157697830, 476715857290, 522115831195, 571701605655, 625846753120, 684957390936, 749474411781, 819876908323, 896684817527, 980462880430, 1071823774337, 1171432692373, 1280011042268, 1398341745571, 1527273599625, 1667727404093, 1820701100652, 1987276856363, 2168627105469, 2366022741845, 2580840212973, 2814570987591, 3068829878530, 3345365983698, 3646072432125, 3972999029388, 4328363658647, 4714566886083, 5134205287973, 5590088317495, 6085253859260, 6622987708040, 7206841706490, 7840656226137, 8528581302375, 9275102575355, 10085065885767, 10963707205259, 11916681236278, 12950095925895, 14070545699287, 15285151248481, 16601598107914, 18028182516671, 19573856161145, 21248279009367, 23061871173849, 25025873760111, 27152408925615, 29454549941750, 31946390696157, 34643126322519, 37561133582570, 40718063627362, 44132934884255, 47826239745920, 51820051838712, 56138148670947, 60806135438329, 65851585970275, 71304185514919, 77195892663512, 83561103925871, 90436839668817, 97862933703585, 105882246722733, 114540884553038, 123888443077259, 133978259344888, 144867692496445, 156618412527946, 169296722391554, 182973889854026, 197726516681672, 213636919820625, 230793554364681, 249291451168559, 269232701252579, 290726957916112, 313891991306665, 338854264248680, 365749566870782, 394723676655357, 425933084409356, 459545750448675, 495741934760846, 534715062908609, 576672674947168, 621837416509615, 670448123060170, 722760953690372, 779050629562167, 839611730366814, 904760108316360, 974834369944625, 1050197489931117, 1131238503938606, 1218374349844333, 1312051800816215, 1412749565173450, 1520980492851175, 1637293969337171, 1762278433057269, 1896564103591584, 2040825852575075, 2195786311682516, 2362219145337711, 2540952590045698, 2732873183547535, 2938929793929555, 3160137867148997, 3397584011986773, 3652430836071053, 3925922161489422, 4219388528587095, 4534253126900886, 4872038056472084, 5234371069753672, 5622992691950605, 6039763882095515, 6486674127079088, 6965850144195831, 7479565078510584, 8030248384943040, 8620496275465025, 9253082936723602, 9930972392403501, 10657331232548839, 11435542077822104, 12269218019229465, 13162217895057704, 14118662665280005, 15142952738857194, 16239786535829663, 17414180133147295, 18671488299600364, 20017426762576945, 21458096037352891, 23000006655487337, 24650106150830490, 26415807633566326, 28305020340996003, 30326181989842964, 32488293351466654, 34800954869440830, 37274405776748077, 39919565526999991, 42748078035954696, 45772358543578028, 49005643635237875, 52462044228828641, 56156602112874289, 60105349839666544, 64325374609114550, 68834885946073850, 73653287861850339, 78801255302666615, 84300815636225119, 90175434980549623, 96450110192202760, 103151466321735325, 110307860425292772, 117949491546113972, 126108517833796355, 134819180623301520, 144117936527873832, 154043597379576030, 164637479165761044, 175943559810422753, 188008647052292980, 200882556287683159, 214618299743286299, 229272286871217150, 244904537455382406, 261578907351144125, 279363328483702152, 298330063062758076, 318555973788329084, 340122810048577428, 363117512048110005, 387632532919029223, 413766180933342362, 441622981929358437, 471314064268398780, 502957566506000020, 536679070310691121, 572612058898037559, 610898403751884101, 651688879997206959, 695143713458946040, 741433159884081684, 790738119649411319, 843250788562528427, 899175348396088349, 958728697912338045, 1022141228367345362, 1089657644424399782, 1161537834849962850, 1238057794119125085, 1319510599727473500, 1406207446561484054, 1498478743590581081, 1596675274490756791, 1701169427975813525, 1812356499739472950, 1930656072350465812, 2056513475336633805, 2190401332423765131, 2332821198543892336, 2484305294265418180, 2645418340688763701, 2816759503217942792, 2998964447736452194, 3192707518433532826, 3398704041358160275, 3617712763867604423, 3850538434667429186, 4098034535626594791, 4361106170762284114, 4640713124699623515, 4937873096788191655, 5253665124416975163, 5589233202595404488, 5945790114707874597, 6324621482504294325]
theorem n_b_5_1 : b_5_1.length = 400 := by decide +kernel
theorem B_5_1 : tmLs b_5_1 sgL1 = lD := by decide +kernel
def b_5_2 : List Int := [1, 2, 5, 10, 20, 36, 65, 110, 185, 300, 481, 752, 1165, 1770, 2665, 3956, 5822, 8470, 12230, 17490, 24842, 35002, 49010, 68150, 94235, 129512, 177087, 240840, 326015, 439190, 589128, 786814, 1046705, 1386930, 1831065, 2408658, 3157789, 4126070, 5374390, 6978730, 9035539, 11664896, 15018300, 19283830, 24697480, 31551450, 40210481, 51124970, 64854575, 82088400, 103679156, 130673928, 164363280, 206327710, 258508230, 323275512, 403531208, 502810130, 625425005, 776616430, 962759294, 1191580872, 1472454540, 1816715170, 2238075315, 2753078840, 3381689157, 4147937540, 5080752250, 6214880700, 7592053897, 9262292216, 11285536125, 13733486100, 16691879795, 20263074134, 24569214653, 29755845120, 35996306025, 43496760380, 52502280642, 63303821602, 76246618325, 91739827630, 110268082280, 132404776664, 158827920009, 190338386210, 227881604535, 272572552460, 325725355088, 388887409310, 463879670860, 552843114270, 658293423970, 783184076176, 930980399327, 1105744993420, 1312237775425, 1556031348120, 1843645820766, 2182704238810, 2582113843795, 3052274960840, 3605324137485, 4255414211990, 5019039720949, 5915411540970, 6966891449865, 8199492148220, 9643456347436, 11333922675812, 13311695737345, 15624131048910, 18326156951000, 21481448170126, 25163779232718, 29458577635960, 34464712775100, 40296547446390, 47086297888049, 54986738253280, 64174308234575, 74852671601900, 87256800664440, 101657649931466, 118367514773731, 137746158532330, 160207830443720, 186229283983960, 216358951877650, 251227421256300, 291559408377040, 338187420114200, 392067356653475, 454296298907724, 526132805091285, 609020032390910, 704612097171965, 814804082539220, 941766219818916, 1087982771678576, 1256296287033025, 1449957907464780, 1672684577368315, 1928724031465432, 2222928642634633, 2560839250666680, 2948780346918950, 3393968049615390, 3904632614009852, 4490157310997300, 5161235884935745, 5930050929890730, 6810475983828715, 7818304320208646, 8971507978751054, 10290530824241190, 11798620110133120, 13522201357704820, 15491302203949504, 17740031317618420, 20307119515307905, 23236530799823200, 26578152309745365, 30388572943514782, 34731961976580975, 39681059999218760, 45318296413151280, 51737049032148690, 59043063680390529, 67356053366385470, 76811499498772710, 87562679770562650, 99782950891996335, 113668317112253776, 129440319843736371, 147349287216114460, 167677987771028595, 190745736966890960, 216913011791005129, 246586634417617704, 280225594010802715, 318347582889714990, 361536333320893905, 410449850163626126, 465829646963356649, 528511104343835500, 599435084774701850, 679660951898766670, 770381161342892729, 872937607584790510, 988839934506247880, 1119786039301440270, 1267685027773850570, 1434682906527695138, 1623191332441649590, 1835919774005409520, 2075911481979982225, 2346583709335573400, 2651772673114322154, 2995783803596934464, 3383447890877443240, 3820183804300181650, 4312068539681112215, 4865915430118201870, 5489361453719986932, 6190964671563787640, 6980312948820102675, 7868145235426905960, 8866486829355882825, 9988800197758442230, 11250153110986934370, 12667406032042511540, 14259420924086857705, 16047293869468445090, 18054614163100222418, 20307752826783915880, 22836183820622440740, 25672841576164104320, 28854518878833187540, 32422309554812668388, 36422100909865427335, 40905121391771226500, 45928549549276976620, 51556191002460285752, 57859230873179868892, 64917069909890265690, 72818253436113630205, 81661503212364326640, 91556863392358888959, 102626972927700483976, 115008478104416525530, 128853600326941307720, 144331875883481827940, 161632086173487125458, 180964398847160834791, 202562742435732390210, 226687439445918559855, 253628125484330954840, 283706984887973441716, 317282336491417202612, 354752606696213687145, 396560730843730807800, 443199028183607373030, 495214600390557697386, 553215308787868483533, 617876391094768824490, 689947784826229965100, 770262231339930755210, 859744242172588121240, 959420017633248279576, 1070428416882022430650, 1194033088810658854190, 1331635884249428578435, 1484791682240210933344, 1655224776672394695588, 1844846984360111462710, 2055777652027258860290, 2290365757542833652200, 2551214320548020905854, 2841207359220603139470, 3163539653828317469230, 3521749603816049152610, 3919755494020381853685, 4361895517100692211294, 4852971934069222129058, 5398299792795889381600, 6003760666302672650615, 6675861918466200225970, 7421802055271272504974, 8249542774944991235994, 9167888391133726766960, 10186573369738228706000, 11316358793225884823940, 12569138646211662898620, 13958056904141529294577, 15497636503099165149900, 17203921374587689941725, 19094632844761275773040, 21189341824726335156653, 23509658357440473591384, 26079440239406599515020, 28925022602149982379260, 32075470521686034780650, 35562856924345106256320, 39422568277088662916607, 43693640790522676134460, 48419130126282471535045, 53646517888251404737710, 59428158492769911177011, 65821770357796421062374, 72890975729058761290245, 80705893874134594732440, 89343792827954962512550, 98889805367409488217038, 109437715434162370650661, 121090821815953189763230, 133962886544089662285350, 148179176171654253467440, 163877604870748875248345, 181209989131762404978392, 200343424772024453751470, 221461797970090986971290, 244767443145620854821185, 270482961709234846741534, 298853217023946640835702, 330147522356932202972770, 364662040171619134187510, 402722412824137011411460, 444686646601489414762975, 490948273082104027328936, 541939814031866079910755, 598136578483343435550090, 660060823305082162117555, 728286311467321192724544, 803443305376450125558482, 886224036102006131600640, 977388693087626922429395, 1077771983044022482182640, 1188290311203563489826600, 1309949643000009986892530, 1443854109565195185786815, 1591215426240137940099700, 1753363199630222590929535, 1931756205632293308593010, 2127994728383300109052086, 2343834058272798183647240, 2581199256092526836293725, 2842201300121968781297060, 3129154743548145115977839, 3444597021158321391789458, 3791309556818249702670595, 4172340836936333533256800, 4591031630024004363822250, 5051042548690179538474196, 5556384168079851993306579, 6111449933997211573082320, 6721052114890928881090825, 7390461074658206516589590, 8125448168019169241121952, 8932332587184114749347828, 9818032517887249373032660, 10790120994781417667077730, 11856886880918219460105695, 13027401433801355450786068, 14311590961578322769999589, 15720316117592406539584840, 17265458430081626107579350, 18960014716598047615295990, 20818200090114297872705684, 22855560326155352348911802, 25089094428093241202459980, 27537388301408381012470810, 30220760527781427599103735, 33161421316850775323060934, 36383645807970960888237075, 39913962996945694531946040, 43781361674209451898904020, 48017514882011555305102440, 52657024529663316766278590, 57737687948687593434866048, 63300788324752229498918215, 69391411111569291209074960, 76058788714660695304643665, 83356675931197984310238110, 91343758847376774163524947, 100084100128360324493823560, 109647623889309336261908020, 120110643611022497154416720, 131556436862101199795489873, 144075870913219840929614812, 157768083680201210977758295, 172741224813391778642036700, 189113262163842157772847650, 207012859304636199368222316, 226580330271344270427314069, 247968678212065488699027680, 271344725208336025916728755, 296890341146905892657868500, 324803780193073905761060317, 355301134143124975914519586, 388617912721164348592032740, 425010761739213772247026530, 464759330964346323894340565, 508168304538652502067329794, 555569607883395662767249707, 607324806194571617214592670, 663827710910757241600541615, 725507211913499964071573280, 792830354714340077196353933, 866305683500086351429406072, 946486872659418942232901155, 1033976671310039763618464800, 1129431187398366223860839350, 1233564540165745973882527058, 1347153912180274026599732036, 1471045034736202737991302260, 1606158143239868398043012025, 1753494442249152476795346880]
theorem n_b_5_2 : b_5_2.length = 400 := by decide +kernel
theorem B_5_2 : tmLs b_5_2 sgL1 = b_5_1 := by decide +kernel
def b_5_3 : List Int := [1, 3, 9, 22, 51, 108, 221, 429, 810, 1479, 2640, 4599, 7868, 13209, 21843, 35581, 57222, 90882, 142769, 221910, 341649, 521196, 788460, 1183221, 1762462, 2606604, 3829437, 5590110, 8111346, 11701998, 16790136, 23964594, 34034391, 48104069, 67679109, 94800537, 132230021, 183686994, 254170332, 350371088, 481225800, 658626822, 898365204, 1221340197, 1655151489, 2236138826, 3012047298, 4045435515, 5418100581, 7236723897, 9640159893, 12808713258, 16976054058, 22444345566, 29603582728, 38956080441, 51147644598, 67006939237, 87595398657, 114270097032, 148763165694, 193281563784, 250632677790, 324381699990, 419049110067, 540357492807, 695540306883, 893726827236, 1146422320191, 1468105216993, 1876969980867, 2395848783159, 3053355042465, 3885298927059, 4936439201418, 6262646818988, 7933576194687, 10035957093903, 12677649592650, 15992630479809, 20147121920736, 25347112298617, 31847580160095, 39963790689714, 50085121744867, 62691963353418, 78376360265406, 97867195292003, 122060891252613, 152058797291889, 189212682957873, 235180037609481, 291991240709658, 362131066585700, 448637511918588, 555221509510041, 686411838537549, 847730369560425, 1045903843064817, 1289119567592367, 1587333926761125, 1952644280679522, 2399736973639717, 2946426574994997, 3614304481675488, 4429518438119514, 5423708757302187, 6635131875635823, 8110007817082753, 9904134982327701, 12084824013762474, 14733212109581767, 17947030825732887, 21843913904054613, 26565347957114969, 32281387729694370, 39196280363113305, 47555169453333234, 57652081273281780, 69839432238882519, 84539340527926515, 102257075752476213, 123597041293499850, 149281754575445700, 180174374475254571, 217305422782914006, 261904462398544034, 315437629791729459, 379652078644757721, 456628577266879452, 548843721408998124, 659243479230741537, 791330085608354644, 949264652832416112, 1137988276050206070, 1363364890646592589, 1632349700809753095, 1953187652640048903, 2335647191817624459, 2791295437711993047, 3333821949698161275, 3979419475256339849, 4747231488289567062, 5659877975099887440, 6744072850665914805, 8031348624154266789, 9558906540410157174, 11370613451669662745, 13518170200291988025, 16062480385011609003, 19075253144352091852, 22640879111647569456, 26858625113666600973, 31845200621737362771, 37737757600740785634, 44697395403326946231, 52913253961121379729, 62607291955341107034, 74039862217532530338, 87516214617937457835, 103394077553518716102, 122092493253152857974, 144102110011539878926, 169997166684910945779, 200449442036617907760, 236244484527628880593, 278300487832448341068, 327690234680600856744, 385666597793059863887, 453692162970007097052, 533473627384492380594, 627001727525397199245, 736597568099991055590, 864966357771199328925, 1015259712599971585310, 1191147866417666497548, 1396903332641312433735, 1637497798123328004538, 1918714301168055785850, 2247277057922105762841, 2631001660053975718517, 3078968778638739156306, 3601724982414446486178, 4211514821805173235276, 4922548953685916419479, 5751313797218587718040, 6716929031727658041226, 7841560188436242160461, 9150894666529309712916, 10674690739933113625416, 12447410537253107496486, 14508949598890791094350, 16905477472144856521306, 19690405930150170896799, 22925503832332120611273, 26682180425630311982111, 31042962066998019788196, 36103190984417725121475, 41972978850542407476755, 48779452692454834791174, 56669336086584059918703, 65811914783291988332801, 76402442979171183900108, 88666054528004828738334, 102862252593265700485104, 119290061752793347340331, 138293938550039679404118, 160270550148488961330821, 185676546318747694889937, 215037467732507720915430, 248957953753140760146315, 288133435935544304947065, 333363529662746455460826, 385567366186740841773063, 445801141300571580206034, 515278195504627463744373, 595391984477483961185308, 687742348635666012479604, 794165547382185196118061, 916768588218424603123411, 1057968454272367551597306, 1220536917154907439079095, 1407651716732715502162475, 1622954996907877459033764, 1870620008532932349037188, 2155427229093398910032817, 2482851205946712919746045, 2859159608181942447648618, 3291526174354018631703665, 3788159472598227461891475, 4358449649512908091886193, 5013135638728794365502757, 5764495633811451094660662, 6626564008191798697666467, 7615378292984912874662525, 8749260308365170734742228, 10049136092994969714155571, 11538899897160840971500517, 13245828208140084897175110, 15201050571465957026989965, 17440084871107810300405836, 20003445748555902804564177, 22937335990545782427048585, 26294432014713722749422847, 30134776051061917952813973, 34526789276345098180196211, 39548422032735926819404378, 45288459378782093007324975, 51848002610602481813952636, 59342150089181255858726648, 67901903754582568182591330, 77676331143834793360797795, 88835016605546701552337510, 101570839776542625450302679, 116103124316407314308191308, 132681205454968870088684033, 151588471174312517483668077, 173146938909483039550672680, 197722437610160252279859718, 225730473971024175598317186, 257642871736814333705169927, 293995284360100887912502793, 335395694093729954365534611, 382534025013237079067426532, 436193013686451633126865089, 497260499461419759010161876, 566743316880314847436757595, 645782995827164831714092210, 735673500996177233573026365, 837881271478372423804369074, 954067854103149017251667240, 1086115461081931834328678376, 1236155823980413665552859680, 1406602762650936710382493132, 1600188940111138769483089068, 1820007333157566106844799660, 2069558014535768489461881257, 2352800916626918799188293053, 2674215329835377819703377880, 3038866982268471071863892981, 3452483652116330035786954161, 3921540381738660664705204350, 4453355494382422687805833769, 5056198762406736441466665534, 5739413241799204923856477959, 6513552473777757261107738047, 7390534962783808588273766799, 8383818073867527464867839068, 9508593754341146513170194926, 10782008777979284553681577857, 12223412538716286964704225015, 13854635788906391667304186806, 15700304129437840439020509888, 17788190520534613454126218455, 20149611598753540883795766055, 22819873163979220674831049284, 25838770847376951415604182149, 29251152695365397760528256405, 33107551214731887112500784017, 37464893330090346069484200507, 42387297718191618353533649164, 47946970116645456255874186188, 54225208471348929739934189736, 61313531202883326839530116911, 69314943454669914470156410305, 78345357954075555935931762138, 88535189093451903156820041417, 100031141045251068480638744640, 112998213190594239591936037500, 127621948893723245489231335121, 144110956728765837626474874594, 162699736697077791536643050793, 183651847804154193172901006439, 207263457640438095292922225355, 233867319381173100438215838756, 263837226943361032544287786994, 297593004975890780600709356538, 335606096982078212980281340005, 378405822260153722560138811239, 426586380583349967214655602074, 480814692723589500932726328804, 541839175158544699319624570460, 610499558710213631563343362680, 687737873576589851642737358241, 774610737383726969364823928771, 872303098667111140939775586282, 982143605770537077706755579399, 1105621790729580264697882548233, 1244407279509593212787943125328, 1400371264244065277711793871836, 1575610500144845595365440815169, 1772474119838332166964229071681, 1993593591362328993633084750315, 2241916183315444403646274476648, 2520742342104835294199139525390, 2833767432355090630252917949182, 3185128342838504593870710113596, 3579455517338953222832937706554, 4021931033304852974837559532380, 4518353421687548088957897840733, 5075209999783259923604598356757, 5699757576068025750105502153356, 6400112482898902839637637869331, 7185351000618730648894620259590, 8065621356229338060122380516050, 9052268612700823789521784911618, 10157973912615877940625243463911, 11396909703818501896616839999575, 12784912756830134335788355384039, 14339676985989545750187871311588, 16080968310755064706239830760483, 18030864042803141799306394896133, 20214019561150574384888737308225, 22657965344491304364809398164171, 25393437770563205241665363228269, 28454747470288164572468081748066, 31880189443691512026963925875972, 35712499609665858116669825356870, 39999362977436363191830523663251, 44793979199571184107864157489176, 50155691900604540262974079564103, 56150688878483860157355180615345, 62852781055508553517983065820969, 70344268919370264640559517979508, 78716906152371401807581209469014, 88072971207883065810667198015344, 98526458768651882249623825633111, 110204404323887882166282587516649, 123248356544657281592638608260526, 137816013734877513799739217118049, 154083042404644989016867949760000, 172245097971923752917577789888923, 192520069767896402358417162057675, 215150574922741045121676761925048, 240406728366783533472632023443072, 268589219123975545448509168575267, 300032726330382006047425758020199, 335109712012854516634789590847569, 374234631648782562551042977378748, 417868607936998089399297230251245, 466524618086981624341075833006324, 520773250327499855499493718108180, 581249091300786794383528745801685, 648657812604043354099666226943267, 723784032032212453725113230700518, 807500033137314147852782676728169, 900775435630200758324125438243815, 1004687918998755943483647345069648, 1120435112599728624528755090197143, 1249347777506971558021366704816561, 1392904418685261121617500703320072, 1552747480736646396679709779913880, 1730701296679295044988376199690401, 1928791977125647529790263038430159, 2149269447002112494723741781787812, 2394631858789092195168559907355585, 2667652635369972439546612125365849, 2971410422194567631457667052309115, 3309322257843831386161760189042532, 3685180304511991683598672483810695]
theorem n_b_5_3 : b_5_3.length = 400 := by decide +kernel
theorem B_5_3 : tmLs b_5_3 sgL1 = b_5_2 := by decide +kernel
def b_5_4 : List Int := [1, 4, 14, 40, 105, 252, 574, 1240, 2580, 5180, 10108, 19208, 35693, 64960, 116090, 203984, 353017, 602348, 1014580, 1688400, 2778517, 4524760, 7296752, 11658920, 18468245, 29015700, 45235414, 70005376, 107585845, 164245380, 249162620, 375704920, 563251038, 839757660, 1245383930, 1837560960, 2698091422, 3943014992, 5736319830, 8308877360, 11984575498, 17216193316, 24634595782, 35115884320, 49872929610, 70579640748, 99539408850, 139912622304, 196023438555, 273772115260, 381188229432, 529170799416, 732476650347, 1011036830300, 1391706766520, 1910587448448, 2616098398791, 3573036775872, 4867929566570, 6616075955920, 8970797573976, 12135564764120, 16379866259050, 22059938995960, 29645802130705, 39756449836628, 53205592346174, 71061006335032, 94721425187725, 126015991964800, 167332703917878, 221784043689400, 293420254726949, 387503559146240, 510860238900970, 672332046038856, 883354180960398, 1158694312894228, 1517396274581230, 1983983526116480, 2589991944446707, 3375919571897656, 4393703694384928, 5709863999669760, 7409486163054140, 9601264570268588, 12423878387219810, 16054044242744888, 20716674973734040, 26697680943830960, 34360083753772518, 44164277494094088, 56693478103812349, 72685655745714340, 93073560458349870, 119034841184876344, 152054740657540175, 194004443981151552, 247238894045007280, 314718792956940720, 400162625648868852, 508235916019613716, 644786617061615224, 817137613769811040, 1034449869613683040, 1308172877470069104, 1652602914848135010, 2085574304796284456, 2629314640882155070, 3311501974878725460, 4166570573088337288, 5237322357895386752, 6576913981916882584, 8251305127992271540, 10342272699730046110, 12951118790773540216, 16203228588570292241, 20253668743129598476, 25294058513838641450, 31560996748976036480, 39346389345203163678, 49010096535544409300, 60995409909959582616, 75847978759762487040, 94238938131359749420, 116993151621619271040, 145123676189643209814, 179873790952871332040, 222768215357162789475, 275675484139593472300, 340883859044602218408, 421193654512176358456, 520029453616665731193, 641576411771457060340, 790945713595907033100, 974375292030163419368, 1199473173246875898522, 1475512317799316495132, 1813787637629014080740, 2228048039398125606760, 2735018948083252854053, 3355033885303166080284, 4112797415259633325512, 5038306247295746034520, 6167960640824534777645, 7545904665526579251648, 9225641529451461566060, 11271979340015562054176, 13763373593403112275775, 16794745735262114359040, 20480872702320311646754, 24960460917698062896104, 30401040338540414744565, 37004840513831232519680, 45015841998182550686720, 54728233825230171560120, 66496552186963116497125, 80747828311363428573332, 97996136340490036484500, 118860006628373182538520, 144083258482730169715714, 174559911540442420982408, 211363959734327121883342, 255784939765013785340760, 309370401370077251868745, 373976594473642220858112, 451828934388286833071498, 545594097559434162234240, 658465945057818424460840, 794267878751620966037140, 957574717143471531624968, 1153857747549686683369800, 1389657284286649415878533, 1672787857213810013555760, 2012582092991770746533430, 2420180458147544215669696, 2908875338326709227435751, 3494519466961291995154964, 4196010530073055442961140, 5035865910241075483205800, 6040904048381298926107600, 7243051863116596924782784, 8680301151729268367958330, 10397840994825171735084000, 12449398005262534807638700, 14898821925081195766872340, 17821960727745509401551618, 21308877197300821466076928, 25466468130171503712549370, 30421558072015303939412800, 36324552133199350481190128, 43353747239627683820621352, 51720418541598555759310495, 61674818054825712914238880, 73513246449627642697679220, 87586386825459377802834048, 104309121995096499240999925, 124172095056237773104982468, 147755317780707303100893480, 175744183689170092022847680, 208948303867419857210390606, 248323655091540732570796216, 294998613377474264475283878, 350304543649620836732188640, 415811730152065137116505975, 493371565201016639694585924, 585166069031966746206683384, 693765994471257333907517040, 822198981189155082356801965, 974029470282103908480940160, 1153452376588040352798351706, 1365402850078512294404608000, 1615684846573324510240230841, 1911121680793614901145287740, 2259732261734774013474298270, 2670937323472681944831642800, 3155800677688684505547044145, 3727311343483345493812694836, 4400713374062239725971438180, 5193891320173970192767773400, 6127820571712812126644986284, 7227093330540794520545329300, 8520532722742833091849935308, 10041909595841227263115537280, 11830778910638678895827104865, 13933455379976174616408388608, 16404151187466910579523986818, 19306302307154550806177000776, 22714114219689020195781159880, 26714362773984479079810342340, 31408491681593498313871951306, 36915054776732986995982463464, 43372558869413963558651799566, 50942771925546180631612628800, 59814571614286293492668286120, 70208421186112077041696816664, 82381573435069112397075608348, 96634119443357982981914195420, 113316017237708170471601181970, 132835256786970327441308758960, 155667342379087138153153200993, 182366301839635317372268732092, 213577464876468536040161394752, 250052290726442483440888702080, 292665569012425286433615585355, 342435368179235391967250934432, 400546164086171761272683598500, 468375648464319264351091316768, 547525794346767670254878144200, 639858844797996157777195045300, 747538994083935037497337918198, 873080648879630389622718037632, 1019404293552672067737392195639, 1189901140680131522499652422800, 1388507928844669732859127121390, 1619793437956985231201185515264, 1889058531933596319092083081816, 2202451814184886926271786871296, 2567103298385725401965086975880, 2991278861539450622962144274880, 3484558665430486895615627611210, 4058043214240329492785352331432, 4724591269596595360288875437060, 5499094480195288751810063553920, 6398794313473960443852707266800, 7443647715460238640234051960512, 8656748887719125430402808093000, 10064815675402202103172246980752, 11698750328502422417490701555175, 13594285853261704711963721907020, 15792730839392589240711167288996, 18341827562374889484278470553520, 21296740354025823688365244448757, 24721193749333344381513050478220, 28688782799480102955256764742930, 33284481242952255481686428333104, 38606377009021019393381651293473, 44767668859672537735439179189696, 51898962935978998964077284860060, 60150913652821027720017631337600, 69697259884345885288866255684276, 80738314818591233319989249595384, 93504976366799515882123329791312, 108263334743325597548229654569560, 125319964959285267869160069391085, 145028004695098437140600403793300, 167794132559410661959354799281028, 194086578361578891942070121672336, 224444316014855439074976257136315, 259487611381224050918230407081140, 299930122146509174808727442710024, 346592775108575060928628651782456, 400419678564758078663051929565853, 462496364357849591683991724866240, 534070696221094383510296426704840, 616576829077877373776010296077000, 711662658727054822734053176853350, 821221263819767068106761348140880, 947426913276474075028755986113250, 1092776293518673394088960469681280, 1260135702479243538310567671761148, 1452795062878154452878957220710260, 1674529727489980887880443373858012, 1929671186112670893303503716874880, 2223187939975281432892094986197745, 2560777987010292880610626180869248, 2948974563732409563432023906162374, 3395267019780985885565896774691840, 3908238963323409137410425911186935, 4497726113824204950736112770035280, 5174996638086646672171178500917746, 5952957131560478821976783018213912, 6846387846022208407542867292086014, 7872211264065072756407460024894180, 9049798688539332397026603876036250, 10401320160405736891064078144525040, 11952143751886418223949595467464992, 13731291115196269411805648575471284, 15771957113973982751273161044973820, 18112102440055033549560667040636240, 20795129339713508277266426363356112, 23870651960510680376521100796065600, 27395374404580864284095794967619052, 31434091361643666837172498731217960, 36060828223652279353910746883983445, 41360139884909401611467598221196180, 47428590043076281650100061764052000, 54376435778917984327144818277845032, 62329545552423360821987517686769405, 71431582562768073118939853439174220, 81846489739003383644019846684442882, 93761317524686847974826344166040184, 107389441169048189345307393918242499, 122974220525752861444759787326263620, 140793162485137384209473409997129560, 161162654236837430060803316816082328, 184443344701171433459861519091468528, 211046261819735431264293792835573504, 241439765116823779287730214073614590, 276157446212411802131864243903223040, 315807104986515027217450837818402597, 361080946091815335993018975456331032, 412767159743920744519410856878249658, 471763072477006248451381802146857160, 539090078164678080938540574089545830, 615910587441563251362786299339578060, 703547265137569478155751881243906150, 803504860924570916951732305615994568, 917494978605145399641913278911020595, 1047464174943310047373373020087522560, 1195625830322597635840605142867771632, 1364496291577740623966308663349217832, 1556935852939761933527343448674891203, 1776195215126248233812605460410933800, 2025968146287238135121596913845872420, 2310451163008459855903585045972977936, 2634411156258525738931372460156499071, 3003262007600379249872875827639865052, 3423151376921109208404947561407169200, 3901058996340015715826735721969873560, 4444907978052300214379278342899936241, 5063690839153493903741627194352934408, 5767612166779644852324572501960917176, 6568250095354494119068066103144398080, 7478739047917370093326625361341769375, 8513976509419104488796965840455575616, 9690856956022452316003962593876207098, 11028536465894204611854578976922002944, 12548731989424903091853260391459770545, 14276059766663445776825810052179665220, 16238417954207753228400821447799805346, 18467419170941695857742149412846044400, 20998879400947581537211356637922036829, 23873370512872583726642607340844471140, 27136844579469051963895688976690548420, 30841339221861996918864418773379105288, 35045774374811151792392627331533604250, 39816852188102218469674614525160960256, 45230073263494959875999561028207475890, 51370884096891024757853834834338570160, 58335972474594081994031399965472629909, 66234729686572357854839606195634802520, 75190900797515117132438792074039665402, 85344446890761465407457936776459844920, 96853646207407261262322628904708314520, 109897464484052392308601110292544099884, 124678228593714756153200305442357961410, 141424641866978445107406230099265943296, 160395184272294513542141460416601524770, 181881946030361448210063511872267982380, 206214949300384337588597631506602235558, 233767019387250663771016960309624087296, 264959274569622274370164345156759016454, 300267312242012579117893868790586153740, 340228178713827008153042627450614366160, 385448220843643980380854614102206788480, 436611929851719109002558282267292204605, 494491901309128756579369673495394636860, 559960050628814425196199030739020245960, 634000240584392013623477557167503225920]
theorem n_b_5_4 : b_5_4.length = 400 := by decide +kernel
theorem B_5_4 : tmLs b_5_4 sgL1 = b_5_3 := by decide +kernel
def b_5_5 : List Int := [1, 4, 13, 36, 90, 208, 455, 948, 1901, 3688, 6955, 12792, 23019, 40612, 70395, 120072, 201822, 334684, 548158, 887500, 1421602, 2254460, 3541928, 5515900, 8519173, 13055208, 19859113, 29998024, 45012751, 67116436, 99472320, 146580028, 214811311, 313149460, 454206821, 655619380, 941952353, 1347294468, 1918779898, 2721353324, 3844199155, 5409389704, 7583487064, 10593063324, 14745410274, 20456100252, 28285576163, 38987608660, 53573321135, 73395586680, 100260035590, 136570741264, 185521017956, 251342778188, 339631771106, 457770951424, 615480535902, 825531305924, 1104667916313, 1474801886492, 1964550348452, 2611217341664, 3463340661226, 4583960294068, 6054806148413, 7981655159856, 10501173731195, 13789644072208, 18074076615758, 23646340297448, 30881104622391, 40258589807712, 52393373776977, 68070819214440, 88293075261049, 114337094727388, 147827711597215, 190829572359640, 245962642449981, 316547156982272, 406785304208066, 521988682577252, 668862734501491, 855862024497724, 1093633510411198, 1395568991963600, 1778492880436369, 2263517521916868, 2877105775248887, 3652389698142432, 4630805401245678, 5864117838166668, 7416926054506782, 9369759879199468, 11822904006458146, 14901115851172184, 18759440633901097, 23590372273357568, 29632663539391665, 37182155601145688, 46605078072331658, 58354368890438244, 72989682463225515, 91201898792877944, 113843120942345837, 141963359476696068, 176855357888542783, 220109321484130508, 273679684542683195, 339966499671294896, 421914574620966924, 523134133896897456, 648047567409818751, 802067772602516516, 991814731522450554, 1225378327876750684, 1512637046161555108, 1865644159094972584, 2299095364673899180, 2830894656264968916, 3482838588753747939, 4281443148574755848, 5258942273438029589, 6454492850832004400, 7915627933534952188, 9700008159752444436, 11877531209405879399, 14532870867985872484, 17768531262506188398, 21708518503530737088, 26502751813856607670, 32332359840767809280, 39416035935580625632, 48017659569694512280, 58455430719005266045, 71112811143628986248, 86451622380969711271, 105027716565663370412, 127509714786348861885, 154701400821537901128, 187568468397861011088, 227270450683442095384, 275198815215209342481, 333022390152869903360, 402741503699820047623, 486752473662450006712, 587924385400488056357, 709690452032173093256, 856156670300194899500, 1032230980241350089284, 1243776719943986481576, 1497794853706306066128, 1802640260968022281811, 2168278325726390081468, 2606589186641859066427, 3131728325800127556748, 3760553723180240411092, 4513131624101613621756, 5413335104828246711066, 6489552131473233729288, 7775522752878532254388, 9311328523384868351664, 11144561302876705386195, 13331703330118397285864, 15939756028885197368391, 19048161521927781787892, 22751068455248359715753, 27160002660707483326136, 32407013625421480544532, 38648379944085509616972, 46068971198856199166129, 54887380382215662613820, 65361960448321142303690, 77797921309136372190020, 92555670119226668096581, 110060608640098084161592, 130814637564241063245277, 155409659749571248186928, 184543423340130333742641, 219038102857667797280256, 259862082850004330861645, 308155486092981041776408, 365260078421114653254043, 432754287043794715245508, 512494191046413922395407, 606661484407968881047324, 717819576445933067940981, 848979185778084119523080, 1003675005893176451678424, 1186055278130593722035012, 1400986406926135970365271, 1654175099105933142629628, 1952310911332216134197064, 2303232556216256821305460, 2716121858148836619535066, 3201729876134673785509836, 3772640436209352460366200, 4443577155766190256072152, 5231761014080682540444215, 6157326647953654699742440, 7243806852276412511166324, 8518696269606533596205736, 10014106991799467233757310, 11767530806362946775344004, 13822725141911156082543795, 16230742448550218393209764, 19051125845038904829067790, 22353297438164832723076840, 26218169843406970966082581, 30740016192879820815561600, 36028639402429154155705305, 42211887794441193152840116, 49438571462592721932539264, 57881842164229178905739440, 67743109201512414464036241, 79256574894616962462666236, 92694486077796538991948820, 108373212812905572582839808, 126660282502482722820085384, 147982517125338821157616968, 172835443789351502347598298, 201794174631416994225226000, 235525981788633266606218383, 274804827284977828431633800, 320528146873233161137276820, 373736231885664698086794160, 435634604828976307768882844, 507619843781587285729553692, 591309378726048774685855737, 688575861047437716970953864, 801586797002511689291831607, 932850238674212865544645128, 1085267443668075335739160960, 1262193549747022218828777056, 1467507465211957303648073364, 1705692352940601677372591516, 1981928288818269397989343503, 2302198907508224750859717228, 2673414114309973816743410277, 3103551246024666748029112600, 3601817411741911063483337168, 4178836142499393891915530320, 4846861933932197651617077983, 5620026786397272996103439184, 6514623441828947843231823248, 7549430696230500844546931020, 8746086943164698596003696389, 10129518990454378825273772340, 11728434205001083341393516700, 13575885196766158108916152812, 15709917572547478015708375456, 18174312795989481513945333104, 21019439908171054758355631604, 24303231822556745500580415204, 28092304142527155335882790707, 32463236997145039319330182968, 37504043294464953371858654752, 43315850100631215598120412340, 50014823622968324346795476374, 57734372569539628223081947520, 66627669548085391562408107192, 76870535735404801047093658364, 88664740386666504283294227464, 102241773967822440882211063268, 117867161902370320698710492697, 135845395261246115304674533428, 156525565344800695104975230416, 180307801182268736406899800960, 207650622703688108367577659031, 239079337944906947039142737396, 275195630380816987554095857620, 316688502631517874612264560660, 364346765674930327545043129832, 419073288694515600591313729800, 481901254207797217714118279760, 554012696630699907844982192224, 636759640466637010398945703183, 731688197470084260826111428208, 840566031103413127287927197947, 965413652153633082627319633344, 1108540072373829400017056899599, 1272583414447712049600485036216, 1460557157558510576246034942432, 1675902789634144100102523173584, 1922549741361448472825698440904, 2204983594920106205249457969376, 2528323693896839564596236296065, 2898411432052223383629207337296, 3321910669840724919431318113381, 3806421921442322364632948871948, 4360612174500754792913218637453, 4994362453107723288875902542148, 5718935515580021798050775709023, 6547166396484753771118647392552, 7493678861955752301334699253170, 8575131254001894092774318007428, 9810495659312511749481984912857, 11221374857867905683872537740004, 12832362094186633449573211799080, 14671449377988961940405662905832, 16770490771234138139097851041353, 19165727965945883060528857392640, 21898386414420076283176272192238, 25015351354325866504545804418812, 28569934291647428039316343335197, 32622741882135004998553615982500, 37242660706939704506135548981900, 42507973192904648540811900918604, 48507621907903054642083320234880, 55342641695147146441479254456080, 63127781629595159600716920612661, 71993341620509538248830667503192, 82087251687409924450358630692807, 93577425547703496794596672341620, 106654424224406631653646062144269, 121534469969193635710239581229904, 138462855964249715774830428031786, 157717803088798505259233138501512, 179614821594430772175071075108759, 204511642919265250706948270215536, 232813795187608878220192434933362, 264980905304908161188253477459772, 301533821097361661762357814108879, 343062658807492794080037121208680, 390235894605018385583532747549949, 443810633790264870832046843267300, 504644208261385847586862331315074, 573707271818062554102008908769560, 652098584242722865966536077791063, 741061699126638431373937557486792, 842003797418926088391029343725963, 956516939037423676644962766920124, 1086402039001863683598519591329395, 1233695912891553703593805469609488, 1400701779507222849400588532604350, 1590023657007266081887094456863096, 1804605143139292236700998377182415, 2047773131223418649204049161362360, 2323287082075935662090429895071023, 2635394548999901483301840602522260, 2988893739330892531262464270621826, 3389203992951225151059501350000704, 3842445166950281392091856383433432, 4355527037640065261485102334456548, 4936249968031806707084378864535053, 5593418242429410477897013383305264, 6336967641999305318454473498012227, 7178109028271587929138728763333888, 8129489918017192873798073835839430, 9205376275629204825649517234906276, 10421857021143150567094961190579374, 11797074056860285561193216907117660, 13351480957101022662401069652808562, 15108133848284616329729751256027260, 17093018435191789825943753036674271, 19335417609378512273638043613364212, 21868324613371002000046873260359055, 24728907336297848819428448977461688, 27959029990615301568577481596149640, 31605839174055483438190411731850728, 35722422165365178233067095035127992, 40368546247401082740496198814232048, 45611488908535086783358182878503889, 51526969956303796431270362096518296, 58200197900546043484651301730779891, 65727044443354401003115273708143204, 74215362568369188336190963722453963, 83786465572734798715553809194605816, 94576786454250673060972219078199366, 106739739379348324895237507253914664, 120447807542910167586110420477793173, 135894884620281212344639784816347160, 153298900240415070781461829088054789, 172904763516296601651949857943671800, 194987662698461269852732750024216292, 219856763518473750093327220505449480, 247859353816113057986492561227961515, 279385487657437205011986896627790352, 314873188418488843323937517138464085, 354814277306479760517683710442704688, 399760901600752108581991488297471765, 450332845613087769925949928630421244, 507225717095058990058604992629836564, 571220112674912416379299662126118052, 643191878016899780531360527999160115, 724123591905539850548680500906465780, 815117418525759535506364543576538729, 917409489014982125680632603105015452, 1032385992102805700218694020950632917, 1161601174548007177160287462458570688, 1306797475376020920473109078234928681, 1469928043885069162296758701725952888, 1653181920328600024871678866182804279, 1859012190432380053110166211876274912, 2090167460840938205747021740015765778, 2349727042626365326968958474484751604, 2641140274595510748514532198742842738, 2968270467813763227173577393066684976, 3335444008096525987079876909334683025, 3747505214838463561159950067573495856]
theorem n_b_5_5 : b_5_5.length = 400 := by decide +kernel
theorem B_5_5 : tmLs b_5_4 sgL2 = b_5_5 := by decide +kernel
def b_5_6 : List Int := [1, 4, 12, 32, 76, 168, 352, 704, 1356, 2532, 4600, 8160, 14176, 24168, 40512, 66880, 108876, 174984, 277932, 436640, 679032, 1046016, 1597088, 2418240, 3632992, 5417708, 8022840, 11802176, 17252928, 25070568, 36223424, 52053760, 74414412, 105852672, 149856920, 211186560, 296311788, 413997992, 576080352, 798487360, 1102589560, 1516972488, 2079760896, 2841658080, 3869911200, 5253472104, 7109698752, 9593038464, 12906254176, 17314907972, 23166009540, 30911978560, 41141375416, 54618238248, 72332342464, 95563299520, 125962162752, 165655141632, 217375191992, 284628701280, 371906287040, 484948963048, 631083699456, 819645828288, 1062509984076, 1374756502800, 1775506648320, 2288967980576, 2945740954392, 3784449839616, 4853775791744, 6214987972800, 7945090742508, 10140732010696, 12923050926840, 16443683460960, 20892193687520, 26505258600960, 33578007327680, 42478004428160, 53662474901112, 67699499466180, 85294067531096, 107320067678112, 134859528405504, 169250703549520, 212146937192352, 265588653776704, 332091314860192, 414752781428808, 517384240213560, 644669718325120, 802360251642048, 997510023198720, 1238763289487232, 1536702714008640, 1904271886733152, 2357287394659592, 2915058904602060, 3601139422253280, 4444232317464452, 5479286991909288, 6748821374629568, 8304516956401600, 10209141043663800, 12538861596859392, 15386032735901560, 18862544124209376, 23103845427675328, 28273778411837288, 34570374609307200, 42232806590766400, 51549716567708224, 62869188357146760, 76610678840375040, 93279284352763520, 113482787598578232, 137952013631188776, 167565121450308640, 203376573514116480, 246651662077183424, 298907632417732644, 361962633012976824, 437993946598952512, 529607219712154880, 639918718657990608, 772653004959337536, 932258852646083584, 1124046734280669516, 1354351795253266176, 1630726931656685360, 1962171403504626720, 2359401372641647872, 2835169877253881344, 3404645070207480672, 4085857088872228480, 4900225727297766680, 5873183191428021960, 7034908685442725376, 8421194461571935200, 10074466335715221120, 12044985606918337536, 14392263913117976640, 17186727916383980736, 20511676963263757548, 24465584154842690576, 29164799754953994840, 34746725758480955936, 41373541960629034360, 49236577273772461608, 58561435633508991264, 69614003969883480640, 82707490798140415968, 98210668473789064008, 116557520600003468800, 138258529096158389760, 163913873756045144000, 194228861575807211496, 230031954675869418624, 272295825386625198400, 322161936292644206200, 380969223208101743616, 450287551884840098124, 531956726689668540192, 628131953781177866712, 741336805060730795520, 874524895350294027232, 1031151677292656061888, 1215257980323002614272, 1431567176260513797164, 1685598149826846182640, 1983796593702783380640, 2333687541461309831584, 2744052505759122054504, 3225135112589064050624, 3788879725587594052160, 4449208249275871170720, 5222341100359500952320, 6127169257488145864920, 7185685360135114219680, 8423483047064000586936, 9870335127754990999848, 11560862793128427254400, 13535309925783407195968, 15840438700067385303232, 18530565108987669678480, 21668755864438300354560, 25328211342224562906048, 29593862944236520447872, 34564217495758329940992, 40353486165000699944640, 47094040974367831165440, 54939248371288325181280, 64066736657700850948616, 74682162475023392868120, 87023551157947228219520, 101366296779333877664268, 118028920307798139093672, 137379698714805584066976, 159844294356288179862720, 185914532807590695310980, 216158498883295531335936, 251232145204543440659704, 291892635817665100132224, 339013679510544742589120, 393603144175972108262096, 456823285469782885338432, 530013970828311918629952, 614719334465749736176568, 712718361200499070083840, 826059967920599433384960, 957103232395642665880480, 1108563511343344866552312, 1283565294714869732795904, 1485702762835259112063392, 1719109149322161678317760, 1988536167874173486395584, 2299444937640149539999744, 2658110042867421935621688, 3071738591183790908868160, 3548606394939568813779520, 4098213695763970743625680, 4731463188679977371435456, 5460863484215248057078016, 6300761581105032763232832, 7267608415380641069703564, 8380262111766704142539160, 9660334199302487317871904, 11132584775058687853102848, 12825373419165958820322728, 14771173594022275659302784, 17007159315105478424678400, 19575874076788102664492088, 22525993372581511993299912, 25913193686391291168841080, 29801142573438624675549440, 34262626423359783209932320, 39380834733969386649332736, 45250822256498544464639104, 51981173240430612053020800, 59695895251943990970975680, 68536573713601596064474248, 78664822469751042105968748, 90265070384641008844825184, 103547729298999803057687352, 118752794685200455305146664, 136153937140667686799301824, 156063150544714668855814720, 178836031389126734644321536, 204877773605461615925366016, 234649974296248723850153840, 268678358295188460351988320, 307561543615569534987063360, 351980985801791997095718400, 402712257207140375927288832, 460637837541669980021924480, 526761614959509722911258956, 602225322813663628414547976, 688327166367936550031996160, 786542926635141958622839680, 898549865574882812176238640, 1026253798657190904027672744, 1171819747869086514230093152, 1337706641271111624213330624, 1526706584942831963752930560, 1741989300424073671066740880, 1987152396498292039217625600, 2266278229426472753209360960, 2583998201703114031054834016, 2945565457392590190532048488, 3356937053597944953175484288, 3824866824278516696419125120, 4357010306333149735534398744, 4962043270693372368509991936, 5649795595469924966897974360, 6431402436593429115032176800, 7319474896829393608421266944, 8328292669826882625840118312, 9474021445672854780045927072, 10774958212407214519645474560, 12251807978739088176730472064, 13927995881978543940988064328, 15830019137764629486086446080, 17987843841026595623639512416, 20435352248029780829489417280, 23210846865463588875319656960, 26357618453423556713147452480, 29924585924997158150192019840, 33967017107361093540037627116, 38547340430556771739543581324, 43736058844650125028976499760, 49612778649694783476344580160, 56267367473564331019685347032, 63801257370143829244130440104, 72328910956741467739616608096, 81979470689659335944502390720, 92898613818300833129370136440, 105250638291868537954380983808, 119220807953092875916514916984, 135017988779008641849852969600, 152877611762510093026755359520, 173065002318190458151380916736, 195879120895279314199354374336, 221656764848981565373731605824, 250777287625727976832031997920, 283667898031968597099871285776, 320809609862912830498288191960, 362743920559284113625050434720, 410080306939535093292484591104, 463504636536660762972405751296, 523788604780459964302225318400, 591800321350123787975042637120, 668516183636894959163184193472, 755034191578820758730060949832, 852588876355969255262284388280, 962568035783882328567474526080, 1086531491959319220568455498880, 1226232112066930097431322674920, 1383639361550510823517771138496, 1560965690424161912132812792000, 1760696088721152445213353948792, 1985621186367846993941468280576, 2238874316589768535354619569152, 2523973010821816158089101442880, 2844865447577658269579631965580, 3205982438471343635043473294840, 3612295602285398348330149326432, 4069382453431366052442254457664, 4583499215225943752056676848600, 5161662262081045931633614780416, 5811739199059913496478002700800, 6542550703484388591601731476960, 7363984382724462002390354688480, 8287122046441634057155563315816, 9324381952037822772590251587392, 10489677760708531321794394562880, 11798596140341292477180323725824, 13268595172790022808533895881096, 14919225969292546331729657920644, 16772380171756490193747345294400, 18852566322396680050170854150640, 21187218423181040347992217896960, 23807040383521568966180005849824, 26746390473836052807095146331520, 30043710368667424844040006517152, 33742003881151790117793793078272, 37889371066506719390055234299960, 42539604012225210771347354647392, 47752851343854617770990790464448, 53596359265424702417429275822568, 60145297831421392188643152894144, 67483682122275490801455935201920, 75705399078277188806662765744288, 84915351949412803012109313844488, 95230735653893214753647869835520, 106782457820550690821729575968640, 119716721935821098131296057515352, 134196790842417722672018181270528, 150404950863655368481473084008160, 168544699076412992718421892245440, 188843178750964918893873253131960, 211553890743965903623712879801444, 236959711701181820309706470628216, 265376253331688379856909427917088, 297155600791252708986200587541120, 332690472399332736036799120474320, 372418847555673032919059387424704, 416829114867611724262597435485312, 466465798201871645606127398265024, 521935924694421376920087502147464, 583916105754885169263495170776240, 653160409860834171152315353729920, 730509114532659455744716149467136, 816898434400638569283248039770920, 913371332820643763656974392412480, 1021089536172407705481506335391360, 1141346882904460636979655686553472, 1275584153705453399857647826633104, 1425405545029126828963051489502208, 1592596965741526856410563696930400, 1779146356072924905388081271720640, 1987266249540633604750745409478656, 2219418822280392813690369249734144, 2478343700523770066962010557682688, 2767088826052571784346802299031392, 3089044711641624594985870472094720, 3447982454091834759647256227851800, 3848095911812993400652694056819680, 4294048497434058981994256315307928, 4791025084031938055301074611061928, 5344789576757191921721850746961280, 5961748760425038322770330453394560, 6649023098615253148651824862830348, 7414525231627727702960866682286336, 8267046999980055622852040818382840, 9216355907790777289453719672149760, 10273302037227928789627982844097440, 11449936532166504631415516866855528, 12759642887336464135614860804185152, 14217282409707822534488884119859200]
theorem n_b_5_6 : b_5_6.length = 400 := by decide +kernel
theorem B_5_6 : tmLs b_5_5 sgL2 = b_5_6 := by decide +kernel
def b_5_7 : List Int := [1, 4, 11, 28, 63, 132, 264, 504, 928, 1660, 2893, 4928, 8232, 13508, 21813, 34724, 54552, 84672, 129976, 197476, 297176, 443256, 655656, 962284, 1401983, 2028488, 2915800, 4165348, 5915464, 8354036, 11735211, 16401308, 22811712, 31580660, 43526432, 59735524, 81645856, 111154304, 150755696, 203721672, 274330208, 368159928, 492466216, 656660664, 872921545, 1156968964, 1529046904, 2015165752, 2648670648, 3472217144, 4540256440, 5922155116, 7706104289, 10004010884, 12957606464, 16746064028, 21595481520, 27790669896, 35689783168, 45742450660, 58512215608, 74704262924, 95199637784, 121097414948, 153766596312, 194909900680, 246642067872, 311585858416, 392989606768, 494870990268, 622192651283, 781076485148, 979064804696, 1225438278348, 1531602563400, 1911557964480, 2382469338832, 2965356931132, 3685932933552, 4575613487368, 5672741713799, 7024064330640, 8686512721384, 10729349211476, 13236751025760, 16310918334532, 20075809332160, 24681624859760, 30310188284488, 37181393818548, 45560928909760, 55769514714772, 68193954005696, 83300329321212, 101649757259352, 123917179176952, 150913756091392, 183613538648968, 223185204276496, 271029796093576, 328825565570360, 398581217474308, 482699086185141, 584050042836636, 706062249615176, 852826248552184, 1029219306472144, 1241052445855432, 1495244185279976, 1800025707139968, 2165182980863136, 2602342315703872, 3125306920636760, 3750453335391104, 4497198095606061, 5388546740910996, 6451739306948264, 7719008806458000, 9228471953696656, 11025174581644772, 13162317912879696, 15702696154345324, 18720380887287704, 22302693524188616, 26552513829716832, 31590980296049096, 37560647189373168, 44629173534815660, 52993631400305128, 62885534827369596, 74576706928659208, 88386121360588524, 104687875966461352, 123920481310137404, 146597675586026304, 173321010574917476, 204794491580033200, 241841598382822928, 285425065072730032, 336669855127000884, 396889835486484279, 467618730896577588, 550646028954546800, 648058608834374720, 762288984501347184, 896171188615587260, 1053005478808226368, 1236633226509199416, 1451523553340693696, 1702873515062345388, 1996723902494801032, 2340093037700527844, 2741131297598387912, 3209299502551318528, 3755574771612728883, 4392687977379557268, 5135397541264731928, 6000805005271140544, 7008718611311332216, 8182072027748547528, 9547406401033527888, 11135425096147049404, 12981631843562935848, 15127064555952763544, 17619138841356390976, 20512617251121518320, 23870722594718627880, 27766416268307193424, 32283865523610093032, 37520126998087542084, 43587077693088428384, 50613628987625901388, 58748264284231413136, 68161946582163956216, 79051448755140365248, 91643166681056437304, 106197483749104888520, 123013764790145303792, 142436068291717120472, 164859678042228376704, 190738569294624654048, 220593940368666824760, 255023958571859328432, 294714889693369156408, 340453803430630038529, 393143073303361503108, 453816919299209569488, 523660275135870766912, 604030300131612968720, 696480898830605536452, 802790660386569122760, 924994685006430911076, 1065420827327128852952, 1226730957381069650552, 1411967919855095636736, 1624608962853391715932, 1868626509675444731616, 2148557262722891304592, 2469580759249549182256, 2837608646174792385324, 3259386107737282752649, 3742607067786513635272, 4296045000705917648544, 4929701424381802432684, 5654974418702439308872, 6484849817639319006968, 7434118066349841852296, 8519620121800581212272, 9760526211591009358064, 11178651757074210680632, 12798815320385459924512, 14649244058299827179216, 16762032867580726453016, 19173664196335194770708, 21925596384714344043624, 25064929398256924149944, 28645157941906456319872, 32727023207516188429248, 37379475929605463995656, 42680765022412895193728, 48719667867367284100928, 55596880337991707863512, 63426586915859323220528, 72338233796621014165964, 82478530742988502788608, 94013710649535986203456, 107132079384387874372960, 122046892512371420550996, 138999600035661747470480, 158263505370155317279164, 180147890474505267477328, 205002665437370364665872, 233223607988990651520904, 265258266427305819242500, 301612608438750462257419, 342858508363764227238208, 389642176734371213876744, 442693648538106802440656, 502837460797746160487944, 571004665876680843889800, 648246344622759298347024, 735748803269022227147408, 834850660163367281209216, 947062053174238023852308, 1074086226320712928597080, 1217843785142447907418440, 1380499944936098431814808, 1564495134661473110741704, 1772579362531985054242912, 2007850797572429432424452, 2273799075334341357065304, 2574353896152533642070896, 2913939551526278894517327, 3297536089216529654635628, 3730747911358237926142616, 4219880693286006864693780, 4772027614964884732307976, 5395166013132375803086856, 6098265691855924442016960, 6891410273707441919464804, 7785933134836749637523504, 8794569646760065671966904, 9931627647746363047041040, 11213178289592254342779104, 12657269653888926862660056, 14284165808449476545305084, 16116614282542385413464568, 18180145282475177425162288, 20503406350785112962195536, 23118536597141725792892484, 26061585101842635112039048, 29372978618806857476394148, 33098044290136508169408920, 37287593735168534592152344, 41998575600724539961027776, 47294804464027874501845532, 53247774874403620270310552, 59937570314284048444729664, 67453877965152018267014720, 75897121391990784623137656, 85379724624000039829330448, 96027522624658509118737476, 107981334827134222331160664, 121398720279802067964746704, 136455935021414317381685704, 153350114608631646885866104, 172301707274893209409060200, 193557186036353726854476240, 217392071208124801413313376, 244114298285825238908761532, 274067970020523214588804045, 307637535810518167607753512, 345252446296372567360179640, 387392336326258020855601012, 434592795312403434846887032, 487451790487432113577393172, 546636815759291091123704448, 612892846830051122700055680, 687051192069664802295361544, 770039338412030443183517624, 862891902368170202269370576, 966762808241254987096216700, 1082938828903451449737583440, 1212854639190765492469723692, 1358109548238941291775620528, 1520486095086306801689100480, 1701970711790617257213730144, 1904776680347683991689498240, 2131369634081920362506171544, 2384495881147824165688529420, 2667213857607007871042408501, 2982929050525630917480494612, 3335432768000528125454675760, 3728945173331205022493569532, 4168163045108521541171065184, 4658312774229485540896513872, 5205209163256253782586967448, 5815320653650789696000014528, 6495841672823695264445487312, 7254772866285461211052941576, 8101010061195609781208534352, 9044442897057275812630662340, 10096064158068757539650947944, 11268090950674230699827797156, 12574098990204344451895733232, 14029171393321009049315557392, 15650063519553096955177597888, 17455385566932878927207198116, 19465804805159480511946249640, 21704269526522889871056127856, 24196257011887525727697680064, 26970048048412349206812394376, 30057030799634466438874239272, 33492037119550037603533610904, 37313714723122586321295359744, 41564938979238886633495567596, 46293268481819437967948066896, 51551448984204847696357019824, 57397970755071786865692312696, 63897684935368104378491333200, 71122485049915215312923103808, 79152060459701783938135705204, 88074729237302772040695175656, 97988358714691613656419553168, 109001382796988401763404221096, 121233926065110511492459553336, 134819045713326909894864400920, 149904103493655345244311182344, 166652281078083488482227588008, 185244253612938367893072697336, 205880037739663154784551803000, 228781032006274273816913747256, 254192269408665416143211735367, 282384903796937495086292058568, 313658954076880600886297897976, 348346332550158682829083684828, 386814186390085620100826426632, 429468584166641312077395850952, 476758582540338032883937585472, 529180711767977240236434830576, 587283922535225615279607838104, 651675040885259000454125681120, 723024782686712069277942799296, 802074384218642717841537248628, 889642911089899104756433833856, 986635313904172769991355142336, 1094051305883829507420335278800, 1212995145134156256835825041792, 1344686412429385405706391643032, 1490471884403336341707721105872, 1651838611908044281799395655576, 1830428324147972821507080436688, 2028053291098010718407398112848, 2246713789771905993524617501804, 2488617334235173769645527701419, 2756199844974419855556157180624, 3052148950476531153429684136072, 3379429632781938204970716939276, 3741312449515525905397447203360, 4141404587641132997207553302108, 4583684029121716418168255729616, 5072537136005860710087195353016, 5612799992430664398614166540560, 6209803873880806602959939406180, 6869425250046830836465851161136, 7598140767080950118942857759164, 8403087698282431914210384398992, 9292130399613767917796876373312, 10273933358343530177704882946696, 11358041479958528340666059854720, 12554968320752722176289546870344, 13876293041692695511969341102452, 15334766933835990161818898492360, 16944430447347422568069999187824, 18720741745684128467779336670192, 20680717904528381327147975736688, 22843089982331100208238398787488, 25228473306754409516700946740264, 27859554449814411690986584857872, 30761296505158275874877343408724]
theorem n_b_5_7 : b_5_7.length = 400 := by decide +kernel
theorem B_5_7 : tmLs b_5_6 sgL2 = b_5_7 := by decide +kernel
def b_5_8 : List Int := [1, 4, 10, 24, 51, 100, 190, 344, 601, 1024, 1702, 2768, 4422, 6948, 10752, 16424, 24782, 36972, 54602, 79872, 115805, 166540, 237664, 336720, 473856, 662596, 920934, 1272728, 1749407, 2392268, 3255410, 4409344, 5945730, 7983388, 10675712, 14220240, 18870672, 24951740, 32878114, 43177984, 56522222, 73761008, 95969280, 124502776, 161067776, 207807228, 267406514, 343224160, 439452431, 561313792, 715302240, 909478352, 1153828922, 1460706304, 1845363198, 2326602080, 2927564670, 3676689032, 4608867558, 5766848512, 7202928677, 8980993956, 11178979406, 13891829464, 17235054592, 21349003264, 26403984982, 32606405608, 40206111510, 49505168384, 60868342434, 74735606424, 91637043362, 112210587996, 137223132160, 167595603968, 204432738630, 249058393676, 303057398592, 368325100744, 447125981036, 542162934100, 656659080704, 794454309984, 960119103232, 1159088620824, 1397820547072, 1683980749400, 2026661480537, 2436637648896, 2926667564794, 3511845616136, 4210015558800, 5042254482800, 6033439134720, 7212908172880, 8615236062802, 10281136815104, 12258518673760, 14603714144256, 17382913574058, 20673834932492, 24567667462462, 29171332705632, 34610113143081, 41030706347668, 48604771391354, 57533044453640, 68050112176128, 80429944676352, 94992305513358, 112110173390848, 132218330496754, 155823295464248, 183514805205504, 215979080002328, 254014140754944, 298547486560720, 350656485753186, 411591884941312, 482804899058096, 565978412242452, 663062895658330, 776317735060688, 908358759837952, 1062212878021972, 1241380849843698, 1449909378323752, 1692473861474562, 1974473339212780, 2302139382530048, 2682660916244648, 3124327243137660, 3636691851358208, 4230759943561216, 4919203030315368, 5716604388761664, 6639739707351028, 7707897826055866, 8943247148406784, 10371254057122507, 12021160519602548, 13926529036754990, 16125864182896360, 18663321221133568, 21589513676876832, 24962433332361750, 28848497889324312, 33323743562201648, 38475182139406336, 44402344616842752, 51219036403722312, 59055332366905344, 68059843661250420, 78402292442867162, 90276435237615704, 103903381002152842, 119535355843678208, 137459973038714044, 158005074500397056, 181544218291936049, 208502896285402348, 239365576746028352, 274683678628024320, 315084597858667264, 361281921040057012, 414086979015087678, 474421911849496576, 543334438222899230, 622014546280475648, 711813349985144870, 814264385273024360, 931107654244406038, 1064316763651818452, 1216129546556563456, 1389082603758442816, 1586050255061573904, 1810288450289294236, 2065484256954548598, 2355811616461374600, 2685994144581828608, 3061375845758605540, 3488000715676846178, 3972702323805255064, 4523204598657033216, 5148235184950832128, 5857652905419960954, 6662591042692308576, 7575618360625225526, 8610920012148511744, 9784500734746906208, 11114413018196085304, 12621013245374419262, 14327249159610245008, 16258982405195344896, 18445350325949437760, 20919171695124553728, 23717401594105415292, 26881641263512750592, 30458709425369765888, 34501282326610501538, 39068610590880579584, 44227321896737062298, 50052319536435873792, 56627788062063359931, 64048318507655644316, 72420167101356625490, 81862662966309916672, 92509782070291865806, 104511906641352979456, 118037791441272948748, 133276760704084013512, 150441162229410792320, 169769108098806551356, 191527534789627742208, 216015619130637662312, 243568590615542127026, 274561985108267255164, 309416389984749953024, 348602736313080889344, 392648199835343734234, 442142779344835065508, 497746628622632756832, 560198226486269076536, 630323478797263243008, 709045856569161049608, 797397685719167090688, 896532716630984026112, 1007740115672645726551, 1132460036282803656704, 1272300944358509597698, 1429058891619473596048, 1604738951578239980656, 1801579055922305045500, 2022076494743854397440, 2269017372390093068288, 2545509342032497169636, 2855017976675593924428, 3201407172585327802030, 3588984023388323485696, 4022548649788842344448, 4507449521424052627404, 5049644864330149441226, 5655770810371792350632, 6333217014400455295744, 7090210541519314562796, 7935908911375433641792, 8880503279679603325512, 9935332840055773577598, 11113011642819078270976, 12427569152444268751712, 13894606003491179694080, 15531466566893193783296, 17357430106208878488260, 19393922488246312063762, 21664750616107874971968, 24196361977052783854848, 27018131944702268888116, 30162681747287266196790, 33666230313352073375744, 37568983536313921470192, 41915564862538551068596, 46755491507418468297634, 52143701043946139450720, 58141133592421729301248, 64815375372570731708240, 72241369965237625190554, 80502204275194050836616, 89689976895184294600086, 99906757350408479961088, 111265645559099421966898, 123891941786227548331632, 137924438401936815489024, 153516845893130392491008, 170839366825609972375552, 190080432826194054490488, 211448621161199307229450, 235174769142596815977436, 261514306410319031424706, 290749827134211837667184, 323193926369094669539303, 359192327200018969810872, 399127327952573750236550, 443421601637375994477376, 492542382973207168389120, 547006081816418248148992, 607383365644539034529280, 674304757931549686400968, 748466803846054036915136, 830638859739955507710976, 921670568416065795528406, 1022500088214157364110576, 1134163150586338040215014, 1257803028098953148752916, 1394681502759242313397248, 1546190933285951446810624, 1713867529495305906262254, 1899405952435038297057372, 2104675370354549609368134, 2331737113141593669533696, 2582864081586459199572346, 2860562082864115889496352, 3167593280073948836380174, 3507001961677321402601472, 3882142856369097880334578, 4296712240467345534618428, 4754782108476918890422272, 5260837703264260977267536, 5819818730476233229127613, 6437164612667258909641728, 7118864172308784879189214, 7871510169707169634863720, 8702359162138558204365390, 9619397194536018279076676, 10631411880177340436336128, 11748071482394342345365720, 12980011665762614120553456, 14338930647977158773515264, 15837693552156692843470848, 17490446834172955516848128, 19312743741343595965081600, 21321681848081437368406016, 23536053811537995931499062, 25976512596654235382543048, 28665752536141433708179712, 31628707717635829652618604, 34892769328556046396647968, 38488023740080098679806632, 42447513276278643865247744, 46807521794022183382411308, 51607887395159520419986816, 56892344806097884573354760, 62708900192884454123861482, 69110241433916045549172436, 76154187149360772233031168, 83904178088298532425010616, 92429814803690151889291422, 101807445903974897666231356, 112120811560989624283909194, 123461747379844427893372928, 135930954200470965667071484, 149638839906140460433530880, 164706439864979995063606142, 181266423230365219225198592, 199464192979345244346638336, 219459088279643663151759088, 241425698550364468229896512, 265555299424837391597137016, 292057421742063267750536118, 321161565692481283479548928, 353119073331350263364788224, 388205173856595498456590232, 426721217335858442120843566, 468997113968748961653044208, 515393997494761507613228032, 566307133015637912226836576, 622169091304708823739198554, 683453213637475309054562308, 750677393311020606619313984, 824408202339543665892554752, 905265394335407360533836062, 993926817326978080102734848, 1091133773245052373095684608, 1197696864049264944389533048, 1314502367986719387082375168, 1442519193301214770287190248, 1582806460868916135379852420, 1736521771753383431371253208, 1904930220580150809753418033, 2089414220961722813803793408, 2291484214993890994069178090, 2512790345132646960508583936, 2755135173589904594634829824, 3020487541801497301273005788, 3310997670572050923458957824, 3629013610242040265163335504, 3977099159710772107763248948, 4358053383448184751482158936, 4774931866806422558973487622, 5231069862072994127320041464, 5730107490870927381543891174, 6276017182794277469562435532, 6873133545663356011210854510, 7526185879594595244203206840, 8240333565314858091332831488, 9021204576928111381574038604, 9874937390792318975462016384, 10808226585425368058636986368, 11828372452581411991420146688, 12943334966986128181478548480, 14161792491867310717924713090, 15493205629556610365658762560, 16947886661275328046258699380, 18537075057975006379110882808, 20273019585023357300389273600, 22169067567868645609003959848, 24239761933863047933346223174, 26500946697482646449035160060, 28969881612578242760141225742, 31665366776383434403674677248]
theorem n_b_5_8 : b_5_8.length = 400 := by decide +kernel
theorem B_5_8 : tmLs b_5_7 sgL2 = b_5_8 := by decide +kernel
def b_5_9 : List Int := [1, 4, 9, 20, 40, 72, 129, 220, 360, 580, 912, 1404, 2129, 3180, 4680, 6812, 9808, 13968, 19720, 27600, 38313, 52808, 72280, 98280, 132840, 178524, 238608, 317308, 419920, 553140, 725465, 947512, 1232568, 1597320, 2062480, 2653776, 3403216, 4350268, 5543640, 7043420, 8923296, 11273616, 14205057, 17852620, 22380840, 27990068, 34923424, 43475616, 54003560, 66938260, 82799640, 102214224, 125935176, 154866960, 190094480, 232916512, 284886153, 347858516, 424045720, 516082680, 627104504, 760835836, 921696984, 1114928360, 1346734240, 1624452516, 1956753040, 2353866844, 2827855440, 3392924460, 4065786088, 4866082848, 5816879873, 6945233380, 8282852640, 9866867152, 11740711456, 13955151960, 16569474320, 19652850820, 23285922696, 27562625564, 32592288560, 38502057060, 45439681360, 53576718968, 63112221072, 74276967468, 87338322080, 102605809680, 120437510313, 141247378888, 165513634416, 193788361780, 226708485280, 265008321288, 309533919696, 361259429036, 421305782040, 490962007740, 571709514184, 665249765508, 773535798432, 898808078600, 1043635300920, 1210960777940, 1404155139128, 1627076201760, 1884136940280, 2180382593000, 2521578130137, 2914307409744, 3366085509128, 3885485967000, 4482284827280, 5167623605804, 5954193632160, 6856444453024, 7890819308120, 9076021135380, 10433312907552, 11986856556584, 13764095346600, 15796185056120, 18118479964400, 20771080458912, 23799449793808, 27255108415628, 31196415388320, 35689447460120, 40808987548352, 46639635932232, 53277058869233, 60829391057240, 69418810422360, 79183305709124, 90278659702464, 102880673709948, 117187661711120, 133423245816180, 151839488481696, 172720400775896, 196385870426304, 223196058548640, 253556319254480, 287922702413240, 326808106846128, 370789158508448, 420513896509680, 476710359301080, 540196173324776, 611889257699172, 692819771340960, 784143442511700, 887156436087960, 1003311931178304, 1134238600177537, 1281761201087496, 1447923518289000, 1635013911980780, 1845593764525272, 2082529143370656, 2349026034061608, 2648669534626060, 2985467444852040, 3363898729605892, 3788967386145712, 4266262302024888, 4802023751562680, 5403217247039740, 6077615536616616, 6833889623333368, 7681709770868752, 8631857563095600, 9696350194730640, 10888578292440180, 12223458700978032, 13717603816235540, 15389509209905200, 17259761470523040, 19351268382032288, 21689513777770204, 24302839647155409, 27222758333610540, 30484297950275080, 34126384457731248, 38192264194844576, 42729971035830208, 47792842767479160, 53440091740164020, 59737435351991120, 66757792481976456, 74582052596180744, 83299924919095220, 93010875797279520, 103825163185114696, 115864978064229152, 129265703576521920, 144177303708890640, 160765854528920780, 179215232245022376, 199728973756783648, 222532326887938496, 247874509168310520, 276031195859883640, 307307259925987868, 342039788838172152, 380601405513530428, 423403923301209560, 470902367812050720, 523599401525126785, 582050190540716076, 646867756608691608, 718728861665552500, 798380476601677760, 886646890888484976, 984437525051770400, 1092755513831983680, 1212707134270307880, 1345512159939876900, 1492515230166441360, 1655198331410969136, 1835194497069748768, 2034302841863848920, 2254505057814552480, 2497983510603145392, 2767141087990923696, 3064622966025037092, 3393340474067922680, 3756497256387318120, 4157617946253833448, 4600579588331693356, 5089646066773282600, 5629505819997647520, 6225313148800763560, 6882733452410743948, 7607992757566208832, 8407931938860256600, 9290066064708352960, 10262649342623819040, 11334746180277548865, 12516308925398569432, 13818262898267969328, 15252599385703318520, 16832477325428290760, 18572334474991821660, 20488008930370619440, 22596871936569916328, 24917973016463217720, 27472198535331298140, 30282444917721273680, 33373807841026008864, 36773788847284942920, 40512520941948427220, 44623014886589580720, 49141428042687906620, 54107357786682411920, 59564161693590811200, 65559306878759536920, 72144751096054372680, 79377358417407674856, 87319352564560986784, 96038811230732775320, 105610205019552244020, 116114984942781051040, 127642222759179361140, 140289308806576944672, 154162712380130029164, 169378810144508454000, 186064788539165171760, 204359626646862882336, 224415166549582460992, 246397278796348874913, 270487131258141020820, 296882570350072953160, 325799624364901563672, 357474139489377498528, 392163559971259999172, 430148864875575843360, 471736674919907090860, 517261544016740439928, 567088451383266817992, 621615511413030471584, 681276919947781947160, 746546157150670401480, 817939468873016258096, 896019650236741000496, 981400157134252647840, 1074749573489134096800, 1176796464437408325560, 1288334648094458661216, 1410228921281858549320, 1543421277517769746656, 1688937658741751286960, 1847895285668593530200, 2021510615366632899308, 2211107978655896393376, 2418128954243941575592, 2644142541188021221320, 2890856196318721719240, 3160127808712008210848, 3453978689185688729680, 3774607659157079170512, 4124406330068013492740, 4505975672001307504960, 4922143978122315052992, 5375986340226419273937, 5870845760008109378812, 6410356030743328525680, 6998466534951593486140, 7639469115340243839040, 8338027188996944616384, 9099207288460015754560, 9928513228036868634560, 10831923109642105385640, 11815929399578108863688, 12887582326178793769616, 14054536868185312833600, 15325103625232242164840, 16708303885014235367540, 18213929226705333692016, 19852606027154513414680, 21635865265430950719560, 23576218052601203397360, 25687237347360118389880, 27983646354493203249732, 30481414142319520832592, 33197859057464533928304, 36151760560771843079920, 39363480157128428042280, 42855092144714886905520, 46650524965985582712676, 50775714003839779936872, 55258766732292361528680, 60130141201845063152560, 65422838916075691266372, 71172613238110488500000, 77418194554061318477296, 84201533515664223743520, 91568063786752859035680, 99566985828380719894616, 108251573375950753766688, 117679504389242756294273, 127913218393417169245460, 139020302276636302480680, 151073906768650319118708, 164153195995372217535456, 178343832687999976921752, 193738501822585422037920, 210437475678118560266160, 228549223529287092470520, 248191069435256150148080, 269489901849351557698984, 292582939057770047738940, 317618554759827643442080, 344757168429343946720668, 374172205448207612525976, 406051132380758047266380, 440596573163260659651080, 478027512418494662060400, 518580592573506319956440, 562511511961257747493772, 610096531626740433236832, 661634099137821348143180, 717446598323539215246320, 777882234530866155565176, 843317065708411885065632, 914157190395727533233328, 990841104523569201278040, 1073842239817781759332000, 1163671697551725443168616, 1260881192414063928101184, 1366066222355264347516104, 1479869481452683558858060, 1602984534096364060925160, 1736159770151773290368368, 1880202662208261003820048, 2035984347580011239942352, 2204444559397250405566240, 2386596932917493145093600, 2583534715108277521859721, 2796436907613376719366300, 3026574875423738067899304, 3275319455942941070774640, 3544148605676067704603680, 3834655624492612080235464, 4148558000331332582121264, 4487706920341573420103860, 4854097497806320312463760, 5249879767782895405674420, 5677370508244619965734976, 6139065947629030619712856, 6637655424114622676604888, 7176036066679239211157100, 7757328573061179046019000, 8384894165172429685235088, 9062352808327331435874160, 9793602786876369271906856, 10582841735502438889136160, 11434589232576583119482860]
theorem n_b_5_9 : b_5_9.length = 400 := by decide +kernel
theorem B_5_9 : tmLs b_5_8 sgL2 = b_5_9 := by decide +kernel
def b_5_10 : List Int := [1, 4, 8, 16, 30, 48, 80, 128, 191, 288, 424, 608, 866, 1216, 1680, 2304, 3137, 4216, 5632, 7472, 9826, 12864, 16736, 21632, 27838, 35648, 45416, 57632, 72832, 91648, 114928, 143616, 178814, 221948, 274648, 338800, 416798, 511360, 625664, 763648, 929793, 1129376, 1368760, 1655264, 1997440, 2405504, 2891232, 3468288, 4152896, 4963720, 5922376, 7054336, 8388834, 9959680, 11806416, 13974400, 16515971, 19491904, 22971896, 27036096, 31777182, 37301248, 43729920, 51203328, 59881538, 69947652, 81611832, 95113648, 110726528, 128763296, 149579872, 173581568, 201230656, 233052160, 269642648, 311680704, 359935646, 415279680, 478702592, 551324416, 634412478, 729401736, 837912928, 961776608, 1103060992, 1264098048, 1447516944, 1656282112, 1893730624, 2163618176, 2470171608, 2818141408, 3212864926, 3660338688, 4167291456, 4741271296, 5390744319, 6125196024, 6955250688, 7892805840, 8951172224, 10145236736, 11491645024, 13008993920, 14718052930, 16642011808, 18806743552, 21241104384, 23977268834, 27051087232, 30502491200, 34375945472, 38720931774, 43592495616, 49051853328, 55167045200, 62013669986, 69675698176, 78246350848, 87829082880, 98538670337, 110502388160, 123861322728, 138771822112, 155407068642, 173958827008, 194639372560, 217683584768, 243351269376, 271929715192, 303736473600, 339122434160, 378475206370, 422222799824, 470837686704, 524841264512, 584808714366, 651374354016, 725237512704, 807168927744, 898017781406, 998719415616, 1110303732496, 1233904423168, 1370769074562, 1522270175352, 1689917190776, 1875369772864, 2080452146432, 2307168870912, 2557722070016, 2834530191488, 3140248536190, 3477791682560, 3850357894008, 4261455801408, 4714933525248, 5215010362368, 5766311394224, 6373905228032, 7043345048956, 7780713414660, 8592671068328, 9486510015504, 10470211386752, 11552508447616, 12742955083584, 14052000397952, 15491069891648, 17072653656544, 18810402366960, 20719231670656, 22815435546624, 25116809596544, 27642785035664, 30414574127104, 33455328247809, 36790309562880, 40447077276672, 44455689920112, 48848924920990, 53662516704768, 58935415124464, 64710065807232, 71032714012480, 77953734226816, 85527987504352, 93815208588416, 102880425570560, 112794414616576, 123634192357088, 135483549348096, 148433627788610, 162583546796288, 178041079446016, 194923385586928, 213357804608640, 233482713358944, 255448454259712, 279418338872832, 305569733359938, 334095232156192, 365203926464824, 399122775549472, 436098088723170, 476397126332416, 520309829599296, 568150689186304, 620260762881473, 677009854591880, 738798866951656, 806062340537008, 879271194750878, 958935685704704, 1045608597296880, 1139888684101120, 1242424385118208, 1353917828560192, 1475129150656512, 1606881152124928, 1750064317389026, 1905642224904704, 2074657377903616, 2258237486695936, 2457602237489026, 2674070584020492, 2909068600595440, 3164137939596288, 3440944938359424, 3741290423161600, 4067120263351632, 4420536731065728, 4803810725527808, 5219394927187680, 5669937950068384, 6158299565151424, 6687567075003038, 7261072923878656, 7882413633082368, 8555470160072704, 9284429784992448, 10073809635137144, 10928481968224616, 11853701341924320, 12855133805518750, 13938888261898240, 15111550156394336, 16380217659320192, 17752540523784640, 19236761810735104, 20841762685948232, 22577110511201184, 24453110464825758, 26480860942523392, 28672313010200816, 31040334196740864, 33598776933800770, 36362551974691080, 39347707144420440, 42571511796399440, 46052547381198848, 49810804557466672, 53867787303685680, 58246624525277824, 62972189681942396, 68071228994992096, 73572498837342208, 79506912946123808, 85907700140367872, 92810573277577280, 100253910228764144, 108278947703140608, 116929988815256832, 126254625343337984, 136303975690207912, 147132939632113664, 158800471009013022, 171369869585867648, 184909093403180032, 199491093018096768, 215194169129496255, 232102355186855296, 250305826683715592, 269901338948060576, 290992695369472482, 313691248125639680, 338116433605554288, 364396344879742208, 392668343716654016, 423079714807072000, 455788365041936704, 490963570869096448, 528786776950850402, 569452449564270592, 613168988403992400, 660159700683967872, 710663841698490816, 764937726265729376, 823255915762271232, 885912485773265632, 953222379699986304, 1025522854009905408, 1103175021193026608, 1186565496870528768, 1276108157914468352, 1372246018890795640, 1475453234598090792, 1586237236970274704, 1705141015154427422, 1832745548128140032, 1969672399816152144, 2116586487315525248, 2274199033503340802, 2443270716015063040, 2624615025358395392, 2819101845725415424, 3027661272921718340, 3251287684759733248, 3491044080220353536, 3748066704712115200, 4023569979866507841, 4318851757454612216, 4635298918237105496, 4974393337884485600, 5337718243477012224, 5726964985561182816, 6143940252320753664, 6590573754062336000, 7068926407969228096, 7581199054963298688, 8129741742477551176, 8717063609036201984, 9345843408787965026, 10018940716482659968, 10739407855880419328, 11510502597262734848, 12335701672512579198, 13218715159211376640, 14163501788392485376, 15174285233927727344, 16255571445075846370, 17412167087521154048, 18649199162207472176, 19972135875503450496, 21386808838755325694, 22899436680019529280, 24516650155803388872, 26245518856016594848, 28093579600973062144, 30068866635272769536, 32179943729780094848, 34435938309619369728, 36846577733228846656, 39422227855100200192, 42173934012798912696, 45113464587320091072, 48253357294839122018, 51606968377381179904, 55188524869976974704, 59013180132555366528, 63097072846058471424, 67457389684181682784, 72112431884808668200, 77081685958539543008, 82385898785841574942, 88047157369364304512, 94088973523762300688, 100536373802116019968, 107415994975822894848, 114756185403552859768, 122587112644698722816, 130940877693801682384, 139851636234601985182, 149355727335845922816, 159491810035885663552, 170301008289345311360, 181827064776906486462, 194116504108717936896, 207218805982965822976, 221186588893988304032, 236075805019126460032, 251945946950186169344, 268860266974202419792, 286886009649315624704, 306094658464906918398, 326562197420985969660, 348369388410370555552, 371602065338368343040, 396351445968791016192, 422714462542415848352, 450794112274397826432, 480699828900986438656, 512547876513463787520, 546461766988446781440, 582572702398987967512, 621020043870552712512, 661951808429914398848, 705525195483745230272, 751907144657515883520, 801274926824244462336]
theorem n_b_5_10 : b_5_10.length = 400 := by decide +kernel
theorem B_5_10 : tmLs b_5_9 sgL2 = b_5_10 := by decide +kernel
def b_5_11 : List Int := [1, 4, 7, 12, 21, 28, 42, 64, 81, 112, 154, 196, 259, 336, 421, 532, 679, 840, 1036, 1288, 1561, 1912, 2335, 2800, 3379, 4060, 4837, 5768, 6860, 8096, 9562, 11284, 13223, 15484, 18116, 21092, 24542, 28532, 33017, 38192, 44114, 50792, 58451, 67148, 76958, 88116, 100779, 114996, 131096, 149304, 169677, 192696, 218610, 247548, 280105, 316624, 357379, 403060, 454125, 511000, 574525, 645400, 724150, 811868, 909479, 1017716, 1138037, 1271564, 1419341, 1583204, 1764687, 1965212, 2187066, 2432232, 2702658, 3001236, 3330600, 3693292, 4092925, 4533004, 5016802, 5549012, 6134030, 6776168, 7481405, 8255300, 9103626, 10033784, 11052909, 12168492, 13389796, 14726104, 16186853, 17783752, 19528600, 21433412, 23513042, 25782288, 28256537, 30954312, 33894364, 37096288, 40583137, 44378488, 48507158, 52997912, 57880421, 63185864, 68950005, 75210100, 82005133, 89379808, 97380460, 106055828, 115461479, 125655012, 136697442, 148657348, 161606305, 175620320, 190784045, 207186392, 224921424, 244093584, 264812863, 287195608, 311370684, 337473480, 365647674, 396051696, 428852158, 464226224, 502368020, 543482304, 587786805, 635519192, 686930753, 742288176, 801882102, 866020008, 935028278, 1009261796, 1089095847, 1174929096, 1267193921, 1366347780, 1472876916, 1587307108, 1710194830, 1842131984, 1983756843, 2135745808, 2298817486, 2473745736, 2661351058, 2862504548, 3078143537, 3309260904, 3556911295, 3822227696, 4106410266, 4410734092, 4736566041, 5085354820, 5458639079, 5858066060, 6285381963, 6742440236, 7231223330, 7753832584, 8312497760, 8909601580, 9547668725, 10229377788, 10957588516, 11735330252, 12565816642, 13452474728, 14398934583, 15409046212, 16486911322, 17636874584, 18863541580, 20171815336, 21566888637, 23054264000, 24639795537, 26329681028, 28130486412, 30049192512, 32093187554, 34270297404, 36588835351, 39057598496, 41685902237, 44483635560, 47461261347, 50629853800, 54001162999, 57587617680, 61402368356, 65459360988, 69773341862, 74359909592, 79235597232, 84417881856, 89925245695, 95777266592, 101994635596, 108599226960, 115614200075, 123064025008, 130974562033, 139373178444, 148288782684, 157751915720, 167794884579, 178451804996, 189758708669, 201753694996, 214476984279, 227971044280, 242280759168, 257453499576, 273539268705, 290590892404, 308664109516, 327817736692, 348113887989, 369618084612, 392399445088, 416530936804, 442089506255, 469156302748, 497816962758, 528161768176, 560285905795, 594289788568, 630279248917, 668365837620, 708667189314, 751307255620, 796416647089, 844133052784, 894601517684, 947974836120, 1004414032179, 1064088685912, 1127177390202, 1193868298000, 1264359507684, 1338859591608, 1417588217140, 1500776604164, 1588668134200, 1681519057340, 1779599033142, 1883191828056, 1992596126038, 2108126162608, 2230112525471, 2358903083712, 2494863724790, 2638379279956, 2789854584216, 2949715335812, 3118409163384, 3296406830876, 3484203244991, 3682318679308, 3891300149520, 4111722588288, 4344190246452, 4589338268288, 4847834053526, 5120378866372, 5407709635842, 5710600530908, 6029864810956, 6366356880184, 6720974110442, 7094658965592, 7488401342667, 7903240683264, 8340268408521, 8800630588708, 9285530385558, 9796230836152, 10334057903377, 10900403293416, 11496727640156, 12124563990084, 12785521041293, 13481286794360, 14213632525363, 14984416511332, 15795588211263, 16649192788616, 17547375401717, 18492385981412, 19486584385072, 20532445328428, 21632563837446, 22789661129312, 24006590268958, 25286342394460, 26632053420805, 28047010518128, 29534659224915, 31098611080000, 32742651043025, 34470745613300, 36287051512404, 38195924183592, 40201927049200, 42309841389948, 44524676069663, 46851678080396, 49296343787979, 51864430044504, 54561966199412, 57395266894000, 60370944743514, 63495924020780, 66777455201184, 70223129432200, 73840894112405, 77639069413052, 81626364786204, 85811896686424, 90205207335560, 94816283543408, 99655576847583, 104734024831688, 110063072558453, 115654695455600, 121521423522400, 127676365712776, 134133235945170, 140906380565364, 148010806081292, 155462208701408, 163277005475052, 171472365832676, 180066245105263, 189077419832756, 198525523602463, 208431085066064, 218815567966114, 229701411830408, 241112075076803, 253072080366104, 265607060778381, 278743808675788, 292510327064179, 306935881966700, 322051057788516, 337887815449240, 354479551769416, 371861162164800, 390069106424733, 409141476013620, 429118065022045, 450040444585536, 471952039104721, 494898206516332, 518926322450753, 544085866498784, 570428513006373, 598008226193616, 626881357758600, 657106749525912, 688745840902458, 721862779273440, 756524535989979, 792801027728584, 830765241289879, 870493364595344, 912064923713546, 955562923861892, 1001073997308476, 1048688558019808, 1098500960889290, 1150609668673304, 1205117426448726, 1262131441356808, 1321763570939063, 1384130519859164, 1449354042732392, 1517561156510196, 1588884362233434, 1663461873810184, 1741437857412422, 1822962681370656, 1908193174098589, 1997292893842224, 2090432410179190, 2187789594666704, 2289549924696846, 2395906800464788]
theorem n_b_5_11 : b_5_11.length = 400 := by decide +kernel
theorem B_5_11 : tmLs b_5_10 sgL2 = b_5_11 := by decide +kernel
def b_5_12 : List Int := [1, 4, 6, 8, 13, 12, 14, 24, 18, 20, 32, 24, 31, 40, 30, 32, 48, 48, 38, 56, 42, 44, 78, 48, 57, 72, 54, 72, 80, 60, 62, 104, 84, 68, 96, 72, 74, 124, 96, 80, 121, 84, 108, 120, 90, 112, 128, 120, 98, 156, 102, 104, 192, 108, 110, 152, 114, 144, 182, 144, 133, 168, 156, 128, 176, 132, 160, 240, 138, 140, 192, 168, 180, 228, 150, 152, 234, 192, 158, 216, 192, 164, 288, 168, 183, 260, 174, 248, 240, 180, 182, 248, 228, 216, 320, 192, 194, 336, 198, 200, 272, 240, 252, 312, 240, 212, 288, 264, 256, 296, 252, 224, 403, 228, 230, 384, 234, 288, 320, 240, 242, 364, 342, 280, 336, 252, 288, 432, 258, 304, 390, 264, 324, 360, 270, 272, 448, 372, 278, 416, 282, 284, 480, 336, 307, 392, 294, 360, 480, 336, 352, 408, 372, 308, 416, 312, 314, 624, 318, 360, 432, 360, 434, 440, 384, 332, 494, 408, 338, 456, 384, 400, 576, 348, 350, 560, 354, 432, 576, 360, 381, 532, 444, 368, 546, 432, 374, 624, 420, 380, 512, 384, 576, 572, 390, 432, 528, 480, 398, 640, 402, 448, 726, 456, 410, 552, 480, 504, 560, 420, 422, 624, 558, 496, 672, 432, 434, 720, 480, 440, 741, 444, 540, 600, 450, 504, 608, 672, 458, 720, 462, 464, 768, 468, 544, 632, 528, 620, 702, 480, 532, 768, 588, 488, 656, 492, 540, 936, 576, 500, 672, 504, 612, 732, 510, 592, 800, 624, 576, 696, 522, 524, 992, 576, 553, 780, 588, 648, 720, 684, 542, 728, 660, 548, 806, 600, 640, 912, 558, 616, 864, 564, 684, 968, 570, 572, 768, 744, 578, 776, 672, 648, 1092, 588, 640, 792, 594, 864, 800, 600, 602, 884, 798, 608, 960, 672, 614, 1008, 618, 620, 960, 720, 781, 960, 684, 632, 848, 768, 798, 936, 642, 644, 1056, 648, 720, 1024, 654, 792, 962, 660, 662, 1008, 960, 720, 896, 744, 674, 1240, 678, 784, 912, 684, 828, 920, 756, 692, 1248, 840, 756, 936, 702, 760, 1152, 816, 710, 1040, 768, 1008, 960, 720, 832, 968, 930, 728, 1093, 792, 734, 1368, 816, 740, 1120, 744, 900, 1092, 864, 752, 1008, 912, 758, 1152, 762, 880, 1404, 840, 770, 1032, 774, 992, 1216, 840, 864, 1200, 948, 788, 1056, 912, 868, 1296, 798, 864]
theorem n_b_5_12 : b_5_12.length = 400 := by decide +kernel
theorem B_5_12 : tmLs b_5_11 sgL2 = b_5_12 := by decide +kernel
def b_5_13 : List Int := [1, 4, 5, 4, 6, 0, -5, 4, -9, -16, 1, -16, -13, 4, -19, -16, 7, 8, -9, 8, 2, -12, 47, 8, -2, 32, -8, 32, 24, -8, 3, 36, 34, -20, 4, -20, -19, 40, 15, -36, -13, -16, -14, -12, -52, 12, -32, -8, -10, -40, -11, -56, 57, -36, -54, -8, -46, 36, 14, 40, -3, -56, 21, 12, -45, 20, 60, 68, 13, -8, -17, 20, 98, 12, 22, -20, 27, 68, 12, -40, 57, 72, 3, 40, -36, 36, -11, 88, -59, -76, 51, -100, 68, 56, 40, -28, -52, -24, -61, -24, -82, -8, 35, -40, 54, -76, -153, 28, 33, -104, -15, 44, -72, 16, -84, 32, -71, -56, -31, -80, 53, -36, 123, 4, -76, -16, 85, -64, -33, 88, -15, -24, 14, -28, -48, 72, 104, 172, -27, 0, 6, 8, 18, 60, 64, -56, 41, 24, 115, 144, 20, -40, -75, 16, 8, 36, 87, 124, 120, 16, -22, -124, 125, -76, 45, -28, -79, 68, -99, 40, 18, 192, -82, -52, -106, 124, 22, -176, 59, -112, -12, 28, -134, -124, 72, -8, -49, -96, 46, -36, -83, -68, -21, 48, -52, -16, -116, -172, 25, 24, -54, 48, 76, -60, -138, -104, -28, -152, -67, 136, -73, 108, 1, 72, 171, -44, -98, -4, -106, -56, 119, 12, -183, 16, 102, 44, 89, -12, 144, 48, 121, -124, 83, -92, 80, 120, 30, 36, 10, 224, -11, 124, -238, 68, 12, -20, 254, 252, -48, -144, 76, -4, -82, 112, 160, -28, 283, -64, -26, 80, -154, 144, 10, 144, -19, -24, 48, -244, -28, 88, -60, -116, 39, 0, 182, 52, 103, -128, -49, 40, 164, -76, -359, 40, -44, -56, -118, -200, -111, 144, 34, 104, 7, -28, -44, -112, -303, 20, -109, -112, -35, 88, 59, -144, -28, 8, 92, -204, 31, -176, 19, -112, -195, 96, 117, -68, -148, -308, -29, 200, 17, -40, -155, 80, 196, -8, -165, -16, 23, 40, -27, 232, 2, -88, -44, -60, 86, -180, 92, -76, -58, 112, -119, 40, 176, 208, 165, 144, -64, 96, -182, 384, -143, -120, 160, -144, 222, 108, 130, -56, 61, -232, 228, -24, 141, 296, 208, -136, 55, 8, 89, 96, -268, 24, -156, 132, 95, 160, 184, 272, 97, -40, 87, 96, 8, 4, -247, -92, -73, 304, 140, -228, -52, 24, -224, -216, 389, 60, 13, 232]
theorem n_b_5_13 : b_5_13.length = 400 := by decide +kernel
theorem B_5_13 : tmLs b_5_12 sgL2 = b_5_13 := by decide +kernel
def b_5_14 : List Int := [1, 4, 4, 0, 0, -8, -16, 0, -10, -20, 16, 0, 0, 40, 0, 0, 39, 28, 0, 0, 0, -40, 32, 0, -70, 0, -64, 0, 0, -80, 0, 0, 49, -20, -40, 0, 0, 112, 80, 0, -22, 56, 64, 0, 0, 88, 0, 0, 110, -140, 0, 0, 0, 0, -160, 0, -128, 52, 0, 0, 0, -280, 0, 0, -130, 28, 156, 0, 0, 0, -112, 0, 182, 80, 0, 0, 0, 208, 0, 0, 121, 196, 0, 0, 0, -32, 160, 0, 0, -260, 128, 0, 0, 160, 0, 0, -320, -68, -280, 0, 0, -88, 0, 0, 170, -308, -256, 0, 0, 0, 0, 0, -69, 0, 0, 0, 0, -272, 320, 0, 38, 440, 0, 0, 0, 200, 0, 0, -190, 340, 196, 0, 0, 40, 80, 0, 640, 0, -160, 0, 0, -312, 0, 0, 0, 0, 0, 0, 0, 280, -448, 0, -442, -380, 320, 0, 0, 0, 0, 0, -418, -520, -88, 0, 0, 0, -224, 0, 0, 220, 256, 0, 0, -440, 0, 0, 448, -400, 0, 0, 0, 728, -352, 0, 230, 532, 0, 0, 0, 520, 0, 0, -33, 0, 440, 0, 0, -368, 560, 0, 0, 484, 0, 0, 0, -608, 0, 0, 50, 560, 0, 0, 0, -200, 0, 0, -390, -572, -640, 0, 0, 0, 0, 0, 350, 52, -512, 0, 0, -280, -208, 0, -598, -260, 0, 0, 0, 0, 0, 0, 361, -780, 0, 0, 0, 0, 1120, 0, -550, 0, 0, 0, 0, 760, 0, 0, 0, 748, -520, 0, 0, 680, -112, 0, 650, -572, 624, 0, 0, 280, 0, 0, 782, 700, 0, 0, 0, -392, 0, 0, -58, -276, -448, 0, 0, 232, 0, 0, 290, 0, 728, 0, 0, -800, -320, 0, -1280, 0, 0, 0, 0, 152, 0, 0, -850, 0, 0, 0, 0, -920, -832, 0, 0, 580, 0, 0, 0, -728, 0, 0, 700, -760, 484, 0, 0, -248, -784, 0, 640, 0, 0, 0, 0, 0, 0, 0, -320, 1012, 0, 0, 0, 1560, 128, 0, 0, 176, 640, 0, 0, -320, 0, 0, 529, -620, 0, 0, 0, 1400, 1040, 0, -682, 0, 512, 0, 0, 928, 0, 0, 0, -1100, 0, 0, 0, 0, -640, 0, 1792, 0, 0, 0, 0, -1768, 0, 0, -1150, 800, -1280, 0, 0, 0, 272, 0, 0, 340, -1120, 0, 0, 832, 0, 0]
theorem n_b_5_14 : b_5_14.length = 400 := by decide +kernel
theorem B_5_14 : tmLs b_5_13 sgL2 = b_5_14 := by decide +kernel
def b_5_15 : List Int := [1, 4, 4, 0, 1, -4, -12, 0, -8, -20, 8, 0, -7, 16, -4, 0, 24, 24, 4, 0, 16, -4, 28, 0, -31, 24, -20, 0, -8, -44, -4, 0, 16, -52, -48, 0, -8, 12, 16, 0, -23, 4, 8, 0, -24, 56, 40, 0, 56, -28, 28, 0, 48, 52, -36, 0, -16, 88, -12, 0, 33, -72, -8, 0, -56, -4, 72, 0, -48, -76, -48, 0, 16, -68, -4, 0, -56, -16, -68, 0, 32, 76, -48, 0, 9, -20, -20, 0, 24, -100, 116, 0, 64, 120, 32, 0, -72, 48, 20, 0, -24, 112, 80, 0, 56, 4, -48, 0, 48, 48, -32, 0, -7, -4, -44, 0, 40, -136, 56, 0, 40, -44, -68, 0, -24, -60, -24, 0, -160, 48, -28, 0, -176, -72, 60, 0, 112, 28, -84, 0, -40, -172, 96, 0, 33, -16, -28, 0, 96, 96, -112, 0, 0, 4, 24, 0, 144, 168, 100, 0, -72, -16, -36, 0, 16, 116, 4, 0, -16, 264, 120, 0, -16, -52, 76, 0, 32, -336, 144, 0, -63, 132, -56, 0, 112, -32, -76, 0, 0, 84, -184, 0, -80, -4, -20, 0, -24, -160, -100, 0, 24, -40, 4, 0, -64, -216, -120, 0, 8, 108, 84, 0, -24, -136, 96, 0, -152, -80, 40, 0, -31, -52, 16, 0, 88, 72, 88, 0, 16, 96, -116, 0, -96, 244, 96, 0, 40, 140, -140, 0, 128, 48, -152, 0, 280, -36, 248, 0, 16, -60, 96, 0, 80, 36, 108, 0, -32, 72, -104, 0, -96, 236, -56, 0, 33, -308, 88, 0, -216, 124, 100, 0, 96, 164, -4, 0, -144, -144, 84, 0, -160, -244, -296, 0, -96, 76, -96, 0, 240, -96, -8, 0, 112, -284, 32, 0, -176, -208, -232, 0, 216, -52, 132, 0, -96, -8, -44, 0, 40, 44, -192, 0, -111, 240, -56, 0, -232, 24, 204, 0, 8, 228, 96, 0, 88, -160, 108, 0, -8, 100, 68, 0, 16, -144, 120, 0, 168, 48, 60, 0, 24, 236, 56, 0, -48, 412, 112, 0, 112, -168, -108, 0, 272, -184, -172, 0, 208, 240, -96, 0, -96, -144, 28, 0, -119, 400, -52, 0, -72, -4, 112, 0, -256, 28, -256, 0, 264, 16, 244, 0, -48, -528, 8, 0, -168, -312, -12, 0, -96, -168, 200, 0, -64, -164, 0, 0, -48, 368, -212, 0]
theorem n_b_5_15 : b_5_15.length = 400 := by decide +kernel
theorem B_5_15 : tmLs b_5_15 sgL4 = b_5_14 := by decide +kernel
def b_5_16 : List Int := [1, 4, 4, 0, 2, 0, -8, 0, -5, -16, 4, 0, -10, 0, -8, 0, 9, 8, 0, 0, 14, 0, 16, 0, -10, 32, 4, 0, 0, 0, 8, 0, 14, -20, -20, 0, 2, 0, 0, 0, -11, -16, -20, 0, -32, 0, 16, 0, 0, -40, 4, 0, 14, 0, -8, 0, -9, 32, -20, 0, 26, 0, 0, 0, 2, 36, 28, 0, 0, 0, 16, 0, 16, 0, 28, 0, -22, 0, 0, 0, 14, 56, -16, 0, 0, 0, -40, 0, 0, -64, 28, 0, 26, 0, -32, 0, -17, -40, 0, 0, -32, 0, 16, 0, -22, -16, 0, 0, -10, 0, -32, 0, -34, 0, 8, 0, 14, 0, 0, 0, 45, -32, 4, 0, 38, 0, -8, 0, 0, 56, 0, 0, -34, 0, 8, 0, 38, 80, 0, 0, -22, 0, 56, 0, 2, 8, 28, 0, 0, 0, 0, 0, -10, 0, -20, 0, 64, 0, 40, 0, -20, -44, -44, 0, 0, 0, -32, 0, 0, 80, -40, 0, 0, 0, -8, 0, -23, -128, 0, 0, -46, 0, 40, 0, 16, -64, -16, 0, 0, 0, 16, 0, -46, 0, 0, 0, -32, 0, 0, 0, 26, -16, -20, 0, -10, 0, -32, 0, 25, 56, -44, 0, 18, 0, 40, 0, 0, 32, 0, 0, 38, 0, 0, 0, 50, -36, 56, 0, 0, 0, -8, 0, 0, 80, 80, 0, -22, 0, 0, 0, -80, 104, -44, 0, 50, 0, 16, 0, 0, 0, 52, 0, 26, 0, 8, 0, 2, 8, -20, 0, 0, 0, -56, 0, 28, -112, 0, 0, 0, 0, -56, 0, 64, 0, 52, 0, -46, 0, 0, 0, -29, -64, -44, 0, -58, 0, -56, 0, 0, 64, 32, 0, -34, 0, -8, 0, -80, -112, 0, 0, 0, 0, 40, 0, 0, -88, 52, 0, 50, 0, -72, 0, 26, 0, 0, 0, -20, 0, 0, 0, -15, 56, -20, 0, 64, 0, 0, 0, 0, 64, -44, 0, -10, 0, 0, 0, 62, 0, 0, 0, 14, 0, 8, 0, -58, 160, 52, 0, 0, 0, 64, 0, 16, 0, 28, 0, 62, 0, 40, 0, 0, -112, 4, 0, -22, 0, 56, 0, 0, 104, 0, 0, -46, 0, -32, 0, 38, 128, 0, 0, -32, 0, -40, 0, 62, -68, -112, 0, 0, 0, 64, 0, 0, 0, -36, 0, 0, 0, 0, 0]
theorem n_b_5_16 : b_5_16.length = 400 := by decide +kernel
theorem B_5_16 : tmLs b_5_16 sgL4 = b_5_15 := by decide +kernel
def b_5_17 : List Int := [1, 4, 4, 0, 3, 4, -4, 0, -1, -8, 4, 0, -8, -4, -8, 0, 0, -4, -4, 0, 5, -12, 0, 0, -8, 12, 4, 0, -3, 4, 4, 0, 8, -4, 0, 0, 8, 12, 4, 0, 8, 8, -8, 0, -8, 12, 12, 0, -1, -8, 8, 0, 8, 0, 4, 0, -8, 0, -12, 0, 3, -4, -4, 0, 0, 8, -12, 0, 0, -16, 4, 0, 0, -12, 0, 0, -16, -20, 8, 0, 0, 12, -8, 0, -8, 8, -8, 0, -7, -16, 4, 0, 8, 0, -8, 0, 8, -8, -8, 0, 8, 4, 12, 0, 1, 4, 4, 0, 0, 8, -4, 0, -16, 8, 8, 0, 0, 24, 4, 0, 8, -12, 12, 0, 8, 4, 4, 0, 8, 12, 8, 0, 0, -16, -16, 0, 16, 20, -4, 0, -5, 12, -4, 0, 8, 8, 12, 0, -8, -8, 0, 0, -16, 12, -4, 0, 16, -16, 8, 0, -9, -28, 16, 0, -8, -4, -12, 0, 0, 16, 4, 0, 0, 4, -16, 0, -8, -12, -12, 0, 0, -4, -12, 0, 0, -16, -4, 0, 8, 0, -8, 0, 0, -16, 8, 0, -16, -4, 8, 0, 8, -8, 4, 0, -3, -4, -4, 0, -8, -8, -8, 0, -16, 12, 8, 0, -8, 4, 0, 0, 0, 20, 0, 0, 8, 0, 0, 0, 5, -16, -12, 0, 24, 4, 16, 0, 16, -12, 4, 0, -16, 20, -20, 0, 8, -4, 8, 0, 0, 16, 8, 0, 16, 4, 12, 0, -8, 28, -4, 0, -8, 20, 12, 0, -8, -8, -4, 0, 0, 0, 4, 0, 16, 0, 16, 0, -16, 4, 20, 0, 7, -8, -12, 0, 16, -24, 0, 0, 16, 32, -4, 0, 0, 20, -8, 0, 0, -20, -20, 0, -8, 16, 4, 0, -8, -12, 0, 0, -5, 0, -12, 0, 8, -4, 0, 0, 8, 0, 8, 0, -16, -24, -4, 0, -8, 4, 24, 0, 0, -12, -16, 0, -8, -12, 16, 0, -8, -12, 4, 0, 0, -24, -20, 0, -16, -8, -8, 0, 0, 24, -8, 0, -8, 24, -16, 0, 8, -4, 0, 0, 0, -16, -8, 0, 16, -24, -8, 0, 1, 0, 4, 0, -16, -20, 0, 0, 16, 24, 4, 0, -8, -28, 4, 0, 8, -20, -8, 0, 0, 16, -4, 0, 0, 16, 16, 0, -16, 20, 12, 0]
theorem n_b_5_17 : b_5_17.length = 400 := by decide +kernel
theorem B_5_17 : tmLs b_5_17 sgL4 = b_5_16 := by decide +kernel
theorem B_5_18 : tmLs K5 sgL4 = b_5_17 := by decide +kernel
theorem F_5 {N : Nat} (hN : N ≤ 400) : Agree N (bfF N p_k5) K5 := by
  have h0 : Agree N dl lD := agree_of lD_eq hN
  have h1 := lapO (n := 0) (r := -4) sgL1_eq hN n_lD n_b_5_1 (by decide) B_5_1 (by decide) (show Agree N (itF (LP N (1, (-4))) 0 (dl)) lD from h0)
  have h2 := lapO (n := 1) (r := -4) sgL1_eq hN n_b_5_1 n_b_5_2 (by decide) B_5_2 (by decide) h1
  have h3 := lapO (n := 2) (r := -4) sgL1_eq hN n_b_5_2 n_b_5_3 (by decide) B_5_3 (by decide) h2
  have h4 := lapO (n := 3) (r := -4) sgL1_eq hN n_b_5_3 n_b_5_4 (by decide) B_5_4 (by decide) h3
  have h5 := lapT (n := 0) (r := 10) sgL2_eq hN n_b_5_4 (by decide) B_5_5 (by decide) (show Agree N (itF (LP N (2, 10)) 0 (itF (LP N (1, (-4))) 4 (dl))) b_5_4 from h4)
  have h6 := lapT (n := 1) (r := 10) sgL2_eq hN n_b_5_5 (by decide) B_5_6 (by decide) h5
  have h7 := lapT (n := 2) (r := 10) sgL2_eq hN n_b_5_6 (by decide) B_5_7 (by decide) h6
  have h8 := lapT (n := 3) (r := 10) sgL2_eq hN n_b_5_7 (by decide) B_5_8 (by decide) h7
  have h9 := lapT (n := 4) (r := 10) sgL2_eq hN n_b_5_8 (by decide) B_5_9 (by decide) h8
  have h10 := lapT (n := 5) (r := 10) sgL2_eq hN n_b_5_9 (by decide) B_5_10 (by decide) h9
  have h11 := lapT (n := 6) (r := 10) sgL2_eq hN n_b_5_10 (by decide) B_5_11 (by decide) h10
  have h12 := lapT (n := 7) (r := 10) sgL2_eq hN n_b_5_11 (by decide) B_5_12 (by decide) h11
  have h13 := lapT (n := 8) (r := 10) sgL2_eq hN n_b_5_12 (by decide) B_5_13 (by decide) h12
  have h14 := lapT (n := 9) (r := 10) sgL2_eq hN n_b_5_13 (by decide) B_5_14 (by decide) h13
  have h15 := lapO (n := 0) (r := -4) sgL4_eq hN n_b_5_14 n_b_5_15 (by decide) B_5_15 (by decide) (show Agree N (itF (LP N (4, (-4))) 0 (itF (LP N (2, 10)) 10 (itF (LP N (1, (-4))) 4 (dl)))) b_5_14 from h14)
  have h16 := lapO (n := 1) (r := -4) sgL4_eq hN n_b_5_15 n_b_5_16 (by decide) B_5_16 (by decide) h15
  have h17 := lapO (n := 2) (r := -4) sgL4_eq hN n_b_5_16 n_b_5_17 (by decide) B_5_17 (by decide) h16
  have h18 := lapO (n := 3) (r := -4) sgL4_eq hN n_b_5_17 n_K5 (by decide) B_5_18 (by decide) h17
  unfold p_k5
  rw [bf_3 (n1 := 4) rfl (n2 := 10) rfl (n3 := 4) rfl]
  exact h18
def b_6_1 : List Int := [1, -1, -1, 0, 0, 1, 0, 1, 0, 0, 0, 0, -1, 0, 0, -1, 0, 0, 0, 0, 0, 0, 1, 0, 0, 0, 1, 0, 0, 0, 0, 0, 0, 0, 0, -1, 0, 0, 0, 0, -1, 0, 0, 0, 0, 0, 0, 0, 0, 0, 0, 1, 0, 0, 0, 0, 0, 1, 0, 0, 0, 0, 0, 0, 0, 0, 0, 0, 0, 0, -1, 0, 0, 0, 0, 0, 0, -1, 0, 0, 0, 0, 0, 0, 0, 0, 0, 0, 0, 0, 0, 0, 1, 0, 0, 0, 0, 0, 0, 0, 1, 0, 0, 0, 0, 0, 0, 0, 0, 0, 0, 0, 0, 0, 0, 0, 0, -1, 0, 0, 0, 0, 0, 0, 0, 0, -1, 0, 0, 0, 0, 0, 0, 0, 0, 0, 0, 0, 0, 0, 0, 0, 0, 0, 0, 1, 0, 0, 0, 0, 0, 0, 0, 0, 0, 1, 0, 0, 0, 0, 0, 0, 0, 0, 0, 0, 0, 0, 0, 0, 0, 0, 0, 0, 0, 0, -1, 0, 0, 0, 0, 0, 0, 0, 0, 0, 0, -1, 0, 0, 0, 0, 0, 0, 0, 0, 0, 0, 0, 0, 0, 0, 0, 0, 0, 0, 0, 0, 0, 0, 1, 0, 0, 0, 0, 0, 0, 0, 0, 0, 0, 0, 1, 0, 0, 0, 0, 0, 0, 0, 0, 0, 0, 0, 0, 0, 0, 0, 0, 0, 0, 0, 0, 0, 0, 0, 0, -1, 0, 0, 0, 0, 0, 0, 0, 0, 0, 0, 0, 0, -1, 0, 0, 0, 0, 0, 0, 0, 0, 0, 0, 0, 0, 0, 0, 0, 0, 0, 0, 0, 0, 0, 0, 0, 0, 0, 0, 1, 0, 0, 0, 0, 0, 0, 0, 0, 0, 0, 0, 0, 0, 1, 0, 0, 0, 0, 0, 0, 0, 0, 0, 0, 0, 0, 0, 0, 0, 0, 0, 0, 0, 0, 0, 0, 0, 0, 0, 0, 0, 0, -1, 0, 0, 0, 0, 0, 0, 0, 0, 0, 0, 0, 0, 0, 0, -1, 0, 0, 0, 0, 0, 0, 0, 0, 0, 0, 0, 0, 0, 0, 0, 0, 0, 0, 0, 0, 0, 0, 0, 0, 0, 0, 0, 0, 0, 0, 1, 0, 0, 0, 0, 0, 0, 0, 0, 0, 0, 0, 0, 0, 0, 0, 1, 0, 0, 0, 0, 0, 0, 0]
theorem n_b_6_1 : b_6_1.length = 400 := by decide +kernel
theorem B_6_1 : tmLs lD sgL1 = b_6_1 := by decide +kernel
def b_6_2 : List Int := [1, -2, -1, 2, 1, 2, -2, 0, -2, -2, 1, 0, 0, 2, 3, -2, 2, 0, 0, -2, -2, 0, 0, -2, -1, 0, 2, 2, -2, 2, 1, 2, 0, 2, -2, -2, 2, 0, -2, 0, -4, 0, 0, 0, 1, -2, 0, 0, 2, 0, 2, 2, 1, -2, 0, 2, 2, 0, 0, -2, 0, -2, 0, -2, 2, 0, -4, 0, 0, -2, -1, 2, 0, 2, 0, 0, 0, -2, 2, 4, 1, 0, 0, 2, -2, 2, -2, 0, 0, 2, 0, -2, 0, -2, -2, 0, -2, 0, 0, 0, 2, -2, -1, -2, -2, 4, 0, 0, 2, 0, 2, 0, 0, 0, 3, -2, 0, 0, 4, 2, 0, -2, 0, 0, -2, 0, 0, -2, 0, 2, 0, -2, 0, -2, -2, -2, 0, 0, 2, -2, -1, 2, 0, 0, 0, 2, -2, 0, -2, 2, 2, 2, 2, 0, 1, 2, -2, 0, 0, 0, 0, 2, 0, 0, 0, 0, 2, 0, -2, -2, -4, 2, 0, 0, -2, 0, -2, 0, 2, 0, -2, 0, 0, -4, 1, -2, 0, 0, 4, 2, -2, 2, 0, 0, 0, -2, 4, 0, -2, 2, 1, 0, 2, 2, 0, 0, 2, 0, 0, -4, 2, 0, 0, -2, 0, 0, 2, 0, -2, 0, 0, 0, 0, -2, -2, -4, -2, 2, 0, 2, 0, 0, 0, -2, -1, 0, 2, 0, -2, 0, 0, 0, 0, 2, 0, 0, 2, 0, 4, 2, -2, 0, -1, 2, -2, 2, 0, 0, 0, 2, -2, 4, 0, 0, 2, -2, 0, 0, -2, -2, 0, -2, 0, 0, 0, 2, -2, 0, 0, 0, -2, -2, 0, 0, 0, 0, -2, 0, -2, -2, 1, 0, 0, 2, 2, 2, 0, 0, -2, -4, 4, 2, 0, -2, 0, 0, 2, 0, 2, 2, 3, -2, 0, 2, 2, 0, -2, 0, 0, 0, 0, -2, 0, 2, 2, 0, 0, -2, 0, 0, 0, 0, 0, 0, 0, -2, -4, 0, 2, -4, 0, -2, 0, 0, 2, 0, 2, 0, -2, 0, -2, 0, -3, 0, 0, 2, -2, 0, 2, 0, 0, 0, 0, 2, 0, 4, 0, 0, 0, 0, 2, -4, 0, 2, 1, 0, 2, 2, -4, 2, 2, 0, 0, 2, 0, 2, 0, 0, -2, 0, 0, -2, 0, 0, -2, 0, -2, 0, 0, 2]
theorem n_b_6_2 : b_6_2.length = 400 := by decide +kernel
theorem B_6_2 : tmLs b_6_1 sgL1 = b_6_2 := by decide +kernel
def b_6_3 : List Int := [1, -3, 0, 5, 0, 0, -7, 0, 0, 0, 9, 0, 0, 0, 0, -11, 0, 0, 0, 0, 0, 13, 0, 0, 0, 0, 0, 0, -15, 0, 0, 0, 0, 0, 0, 0, 17, 0, 0, 0, 0, 0, 0, 0, 0, -19, 0, 0, 0, 0, 0, 0, 0, 0, 0, 21, 0, 0, 0, 0, 0, 0, 0, 0, 0, 0, -23, 0, 0, 0, 0, 0, 0, 0, 0, 0, 0, 0, 25, 0, 0, 0, 0, 0, 0, 0, 0, 0, 0, 0, 0, -27, 0, 0, 0, 0, 0, 0, 0, 0, 0, 0, 0, 0, 0, 29, 0, 0, 0, 0, 0, 0, 0, 0, 0, 0, 0, 0, 0, 0, -31, 0, 0, 0, 0, 0, 0, 0, 0, 0, 0, 0, 0, 0, 0, 0, 33, 0, 0, 0, 0, 0, 0, 0, 0, 0, 0, 0, 0, 0, 0, 0, 0, -35, 0, 0, 0, 0, 0, 0, 0, 0, 0, 0, 0, 0, 0, 0, 0, 0, 0, 37, 0, 0, 0, 0, 0, 0, 0, 0, 0, 0, 0, 0, 0, 0, 0, 0, 0, 0, -39, 0, 0, 0, 0, 0, 0, 0, 0, 0, 0, 0, 0, 0, 0, 0, 0, 0, 0, 0, 41, 0, 0, 0, 0, 0, 0, 0, 0, 0, 0, 0, 0, 0, 0, 0, 0, 0, 0, 0, 0, -43, 0, 0, 0, 0, 0, 0, 0, 0, 0, 0, 0, 0, 0, 0, 0, 0, 0, 0, 0, 0, 0, 45, 0, 0, 0, 0, 0, 0, 0, 0, 0, 0, 0, 0, 0, 0, 0, 0, 0, 0, 0, 0, 0, 0, -47, 0, 0, 0, 0, 0, 0, 0, 0, 0, 0, 0, 0, 0, 0, 0, 0, 0, 0, 0, 0, 0, 0, 0, 49, 0, 0, 0, 0, 0, 0, 0, 0, 0, 0, 0, 0, 0, 0, 0, 0, 0, 0, 0, 0, 0, 0, 0, 0, -51, 0, 0, 0, 0, 0, 0, 0, 0, 0, 0, 0, 0, 0, 0, 0, 0, 0, 0, 0, 0, 0, 0, 0, 0, 0, 53, 0, 0, 0, 0, 0, 0, 0, 0, 0, 0, 0, 0, 0, 0, 0, 0, 0, 0, 0, 0, 0, 0, 0, 0, 0, 0, -55, 0, 0, 0, 0, 0, 0, 0, 0, 0, 0, 0, 0, 0, 0, 0, 0, 0, 0, 0, 0, 0]
theorem n_b_6_3 : b_6_3.length = 400 := by decide +kernel
theorem B_6_3 : tmLs b_6_2 sgL1 = b_6_3 := by decide +kernel
def b_6_4 : List Int := [1, -4, 2, 8, -5, -4, -10, 8, 9, 0, 14, -16, -10, -4, 0, -8, 14, 20, 2, 0, -11, 20, -32, -16, 0, -4, 14, 8, -9, 20, 26, 0, 2, -28, 0, -16, 16, -28, -22, 0, 14, 16, 0, 40, 0, -28, 26, 32, -17, 0, -32, -16, -22, 0, -10, 32, -34, -8, 14, 0, 45, -4, 38, 8, 0, 0, -34, -8, 38, 0, -22, -56, 2, -28, 0, 0, -10, 20, 64, -40, -20, 44, 0, 32, 0, 40, 0, 8, -23, 0, -46, -40, 16, 16, 0, -16, -46, 0, -32, 0, 26, 20, -10, 32, 25, 44, 18, -40, 0, 0, 38, 0, 50, -56, 0, 8, 0, -80, -22, 0, -80, 44, 50, -16, 0, -52, 26, -8, 2, 20, 0, 56, 28, 0, 0, 56, 64, -52, -46, 0, -29, 44, -58, 56, 0, -32, -34, 8, -80, 0, 0, -40, 0, -52, 50, 72, 26, 0, -20, 0, -15, 20, 64, 0, 0, 44, -10, 0, 62, 0, 14, -8, -58, -52, 0, -64, 16, -28, 62, -40, 0, -4, -22, -56, 0, 0, -46, 32, 38, 0, -32, 40, 62, 112, 0, -64, 0, 36, 0, 0, 2, 0, 50, 0, -45, 68, -70, 0, 14, 0, 28, -104, -128, -28, 0, 56, -46, 68, 0, 0, -22, -4, -32, 40, 0, -8, 0, 0, 63, 0, 74, -80, 112, 68, 0, 0, 4, 20, -58, 0, 0, -76, 2, 56, 0, -76, 64, -40, -34, 0, -32, 0, 0, -36, -70, -64, 0, -52, 62, 0, 112, 44, -22, 32, 0, -80, 50, 88, -58, 0, 26, 80, 0, 0, 0, 40, -70, 68, 74, 80, -41, -56, -82, -64, 0, 0, 0, -40, -64, 0, -34, 80, -10, -52, 0, 0, 14, -28, -82, 0, 74, -32, -90, 0, 50, 68, 0, 112, 21, 0, 86, 56, -82, -4, 0, -56, 112, 0, 0, 0, 0, 0, 62, -104, 0, -76, 160, -8, 0, 20, -128, -40, -70, -52, 0, -88, -34, 68, 2, 0, 28, 0, -10, 0, 0, 16, 64, -88, 38, 0, 0, 72, -82, 16, 0, 32, 74, 92, 64, 0, 62, 0, 0, -88, 0, 88, -44, 8, -47, 0, -94, 0, 0, 68, 0, -16, -140, 40, -82, 40, 86, 20, -58, -88, 0, -76, -128, 0, 0, 0, 74, -64, 52, 136, 0, 56, -10, -28, 38, 0]
theorem n_b_6_4 : b_6_4.length = 400 := by decide +kernel
theorem B_6_4 : tmLs b_6_3 sgL1 = b_6_4 := by decide +kernel
def b_6_5 : List Int := [1, -4, 3, 4, -1, -4, -8, 8, 0, 4, 5, 0, -8, -4, -3, -4, 8, 0, 8, -4, 8, 8, -8, -12, -1, -8, 8, -4, -8, 12, 3, 4, 0, 12, 0, -4, 0, 0, -16, -8, 0, 8, -8, 8, -7, -4, 8, 8, 8, 8, 8, -12, 1, -4, 0, 4, -16, -8, 0, -4, 8, -12, 8, -4, 8, -8, 0, 16, 16, 4, -5, 4, 8, -12, -8, 0, -16, 4, 16, -8, -9, -16, -8, 12, 0, -4, 0, 16, -8, 12, 0, 12, 0, 4, 8, 8, 0, -8, -16, -8, 8, -4, -3, 4, -8, 8, -16, -8, -8, 0, 0, 0, 8, 0, 5, 12, 24, -16, 16, -4, -16, 20, 8, -8, 0, -8, 16, -12, -8, 4, -8, -12, -8, 4, 0, -4, 16, -16, -16, -20, 7, 12, 16, 0, 16, 4, 0, 8, 0, 20, -8, -4, -8, 0, -5, 12, 8, 0, 8, -8, -16, 4, -8, -24, 0, 16, -8, -16, -8, -4, 0, 20, -16, 8, 0, 8, -8, 16, 8, 0, 0, 8, 16, 8, 1, -4, -16, 0, 16, -4, -8, -4, 8, 8, 0, 4, 0, -16, -16, -12, -7, -8, 0, -12, -8, 8, -8, 16, 16, 8, 0, -16, 8, -20, 24, 8, 0, 0, 24, 0, 0, -24, 16, 20, 0, 0, 0, 12, -16, 4, -16, -16, 24, -4, 3, 0, -8, -16, -8, -8, -16, -16, 0, 12, 8, -8, 8, -8, 0, -4, 8, 16, 15, 20, -24, 12, -8, -8, 0, -4, 16, 8, -16, 32, 8, 4, 8, 16, -16, -4, -8, -4, 8, -24, 0, 4, -24, 0, 0, 8, -16, -4, 8, -16, -8, 8, -8, -16, 0, 4, 5, 24, -24, 12, 8, 12, 0, 0, -8, 8, 16, 4, -16, -12, 16, 0, 32, 0, 8, -12, -3, 12, 16, 4, 0, -16, 8, 0, -16, -8, -16, -4, -8, -4, -16, -16, 0, -4, 24, 16, 0, -8, -8, -24, 0, -12, 16, 16, 8, -16, 0, 12, -8, -16, -8, 8, 40, -8, 24, 8, 8, 8, -9, -8, 8, 4, -8, -8, 0, 16, 8, 32, 0, -20, 0, 0, -16, 0, -24, -16, 8, -16, -16, 20, 3, -16, -8, -12, 0, 4, 16, 8, -16, -4, 16, 4, -16, 0, -8, 0, -8, -20, 24, 16, -16, 16, 0, 24, -16, 12]
theorem n_b_6_5 : b_6_5.length = 400 := by decide +kernel
theorem B_6_5 : tmLs b_6_5 sgL2 = b_6_4 := by decide +kernel
theorem B_6_6 : tmLs K6 sgL2 = b_6_5 := by decide +kernel
theorem F_6 {N : Nat} (hN : N ≤ 400) : Agree N (bfF N p_k6) K6 := by
  have h0 : Agree N dl lD := agree_of lD_eq hN
  have h1 := lapT (n := 0) (r := 4) sgL1_eq hN n_lD (by decide) B_6_1 (by decide) (show Agree N (itF (LP N (1, 4)) 0 (dl)) lD from h0)
  have h2 := lapT (n := 1) (r := 4) sgL1_eq hN n_b_6_1 (by decide) B_6_2 (by decide) h1
  have h3 := lapT (n := 2) (r := 4) sgL1_eq hN n_b_6_2 (by decide) B_6_3 (by decide) h2
  have h4 := lapT (n := 3) (r := 4) sgL1_eq hN n_b_6_3 (by decide) B_6_4 (by decide) h3
  have h5 := lapO (n := 0) (r := -2) sgL2_eq hN n_b_6_4 n_b_6_5 (by decide) B_6_5 (by decide) (show Agree N (itF (LP N (2, (-2))) 0 (itF (LP N (1, 4)) 4 (dl))) b_6_4 from h4)
  have h6 := lapO (n := 1) (r := -2) sgL2_eq hN n_b_6_5 n_K6 (by decide) B_6_6 (by decide) h5
  unfold p_k6
  rw [bf_2 (n1 := 4) rfl (n2 := 2) rfl]
  exact h6
end L2.MX.Lw
end
section
set_option Elab.async false
set_option linter.all false
set_option maxRecDepth 100000
namespace L2.MX.Lw
open PySem PySem.Spec PyProof.Rows
/-! ### what is known of a power row -/
theorem lfun_map (l : List Int) : (List.range l.length).map (lfun l) = l := by
  apply List.ext_getElem?
  intro i
  rw [List.getElem?_map]
  by_cases h : i < l.length
  · rw [List.getElem?_range h, lfun_get h]; rfl
  · rw [List.getElem?_eq_none (by rw [List.length_range]; omega), List.getElem?_eq_none (by omega)]; rfl
theorem map_lfun {F : Nat → Int} {l : List Int} {n : Nat} (h : (List.range 400).map F = l) (hn : n ≤ 400) : sqD n F = sqD n (lfun l) := sq_congr fun i hi => by
  unfold lfun
  rw [← h, List.getElem?_map, List.getElem?_range (by omega)]
  rfl
structure Kn (p : List (Nat × Int)) (S K : List Int) : Prop where
  S_eq : (List.range 399).map (fun j => Sf p (j + 1)) = S
  A : chkA S 0 [] K = true
  len : K.length = 400
  sm : S.all (fun x => Nat.ble x.natAbs 1000000000) = true
  ne : p ≠ []
  rise : Rise p
  pl : p.length ≤ 10
  ok : ∀ q ∈ p, 1 ≤ q.1 ∧ q.1 ≤ 10 ∧ -100 ≤ q.2 ∧ q.2 ≤ 100 ∧ q.2 ≠ 0
section
variable {p : List (Nat × Int)} {S K : List Int}
theorem Kn.key (h : Kn p S K) : ∀ i, i < 400 → alV (Sf p) (lfun K) i = lfun K i := fun i hi =>
  chkA_ok (M := 399) (fun j hj => by rw [← h.S_eq, List.getElem?_map, List.getElem?_range hj]; rfl) K [] (by rw [h.len]; simp) (fun j hj => by simp at hj) (fun j hj => by
    have := lfun_get hj
    simpa using this) h.A i (Nat.zero_le _) (by rw [h.len]; simpa using hi)
theorem Kn.spread (h : Kn p S K) {d n : Nat} (hd : 1 ≤ d) (hn : n ≤ 400) : sqD n (al (Sf (p.map (spq d))) n) = sqD n (spF d (lfun K)) := sq_congr fun i hi => al_is (spread_is hd h.key) n hn i hi
theorem Kn.plain (h : Kn p S K) {n : Nat} (hn : n ≤ 400) : sqD n (al (Sf p) n) = sqD n (lfun K) := sq_congr fun i hi => al_is h.key n hn i hi
theorem Sf_0 : ∀ (p : List (Nat × Int)) (F : Nat → Int), (∀ q ∈ p, 1 ≤ q.1) → F 0 = 0 → p.foldl stepS F 0 = 0
  | [], F, _, h0 => h0
  | q :: p, F, h, h0 => by
    refine Sf_0 p (stepS F q) (fun x hx => h x (List.mem_cons_of_mem _ hx)) ?_
    have := h q List.mem_cons_self
    show F 0 + (if q.1 ∣ 0 ∧ q.1 ≤ 0 then _ else 0) = 0
    rw [if_neg (by omega), h0]
    rfl
theorem Kn.Sb (h : Kn p S K) {j : Nat} (hj : j < 400) : (Sf p j).natAbs ≤ 1000000000 := by
  by_cases h0 : j = 0
  · subst h0
    unfold Sf
    rw [Sf_0 p (fun _ => 0) (fun q hq => (h.ok q hq).1) rfl]
    decide
  · have h1 : Sf p j ∈ S := by
      rw [← h.S_eq]
      exact List.mem_map.mpr ⟨j - 1, List.mem_range.mpr (by omega), by show Sf p (j - 1 + 1) = Sf p j; rw [show j - 1 + 1 = j by omega]⟩
    have h2 := List.all_eq_true.mp h.sm _ h1
    exact Nat.ble_eq.mp h2
theorem Kn.small (h : Kn p S K) {d : Nat} (hd : 1 ≤ d) (hd2 : d ≤ 6) : ∀ j, j < 400 → smallI (Sf (p.map (spq d)) j) = true := fun j hj => by
  by_cases hdj : d ∣ j
  · obtain ⟨m, rfl⟩ := hdj
    have hm : m < 400 := Nat.lt_of_le_of_lt (Nat.le_mul_of_pos_left m hd) hj
    have h1 := h.Sb hm
    unfold Sf at h1 ⊢
    rw [Sf_yes (m := m) hd p (fun _ => 0) (fun _ => 0) (by simp)]
    unfold smallI
    rw [Nat.ble_eq, Int.natAbs_mul, Int.natAbs_natCast]
    have := Nat.mul_le_mul hd2 h1
    omega
  · unfold Sf
    rw [Sf_no hdj p _ rfl]
    decide
theorem Kn.small1 (h : Kn p S K) : ∀ j, j < 400 → smallI (Sf p j) = true := fun j hj => by
  have h1 := h.Sb hj
  unfold smallI
  rw [Nat.ble_eq]
  omega
theorem spq_ok (h : Kn p S K) {d : Nat} (hd : 1 ≤ d) (hd2 : d ≤ 6) : ∀ q ∈ p.map (spq d), okI q := fun q hq => by
  obtain ⟨x, hx, rfl⟩ := List.mem_map.mp hq
  obtain ⟨a1, a2, a3, a4, a5⟩ := h.ok x hx
  have b1 : 1 * 1 ≤ d * x.1 := Nat.mul_le_mul hd a1
  have b2 : d * x.1 ≤ 6 * 10 := Nat.mul_le_mul hd2 a2
  exact ⟨⟨by show 1 ≤ d * x.1; omega, by show d * x.1 ≤ 1000; omega, by show -1000 ≤ x.2; omega, by show x.2 ≤ 1000; omega⟩, a5⟩
theorem spq_rise (h : Kn p S K) {d : Nat} (hd : 1 ≤ d) : Rise (p.map (spq d)) := by
  unfold Rise
  rw [List.pairwise_map]
  exact h.rise.imp fun {a b} e => by
    show d * a.1 < d * b.1
    exact Nat.mul_lt_mul_of_pos_left e hd
theorem okI_of (h : Kn p S K) : ∀ q ∈ p, okI q ∧ q.1 ≤ 100 := fun q hq => by
  obtain ⟨a1, a2, a3, a4, a5⟩ := h.ok q hq
  exact ⟨⟨⟨a1, by omega, by omega, by omega⟩, a5⟩, by omega⟩
end
/-! ### the parts' row -/
theorem sumF_filter (R : Nat → Int) (n : Nat) : ∀ L : List (Nat × Int), ((L.filter fun q => decide (q.1 ≤ n)).map fun q => q.2 * R (n - q.1)).sum = sumF L R n
  | [] => rfl
  | q :: L => by
    have ih := sumF_filter R n L
    show _ = (if q.1 ≤ n then q.2 * R (n - q.1) else 0) + sumF L R n
    by_cases h : q.1 ≤ n
    · rw [List.filter_cons_of_pos (by simpa using h), List.map_cons, List.sum_cons, ih, if_pos h]
    · rw [List.filter_cons_of_neg (by simpa using h), ih, if_neg h, Int.zero_add]
theorem pt_is {L : List (Nat × Int)} {k : Nat → Int} {M : Nat} (hL : ∀ q ∈ L, 1 ≤ q.1) (h : ∀ i, i < M → ptV L k i = k i) : ∀ n, n ≤ M → ∀ i, i < n → pt L n i = k i
  | 0, _, i, hi => by omega
  | n + 1, hn, i, hi => by
    have ih := pt_is hL h n (by omega)
    show updF (pt L n) n (ptV L (pt L n) n) i = k i
    unfold updF
    by_cases e : i = n
    · rw [if_pos e, e, ← h n (by omega)]
      unfold ptV
      by_cases hz : n = 0
      · rw [if_pos hz, if_pos hz]
      · rw [if_neg hz, if_neg hz, sumF_filter, sumF_filter, sumF_congr (G := k) L hL fun i hi => ih i hi]
    · rw [if_neg e]
      exact ih i (by omega)
theorem pt_row {n : Nat} (hn : n ≤ 400) : sqD n (pt (thL 400 EP) n) = sqD n (lfun K4) := by
  rw [thLL_eq]
  have hK : K4.length = 400 := by decide +kernel
  have hD : lD.length = 400 := by decide +kernel
  have hL : ∀ q ∈ thLL, 1 ≤ q.1 := by decide +kernel
  refine sq_congr fun i hi => pt_is (M := 400) hL (fun j hj => ?_) n hn i hi
  have h1 := tmLs_ok (F := lfun K4) (G := lfun lD) (fun n hn => lfun_get hn) (fun n hn => lfun_get hn) thLL_K4 j (by omega)
  unfold tmF at h1
  rw [tm_sum] at h1
  have h2 : lfun lD j = dl j := by
    unfold lfun
    rw [← lD_eq, List.getElem?_map, List.getElem?_range (by omega)]
    rfl
  rw [h2] at h1
  unfold ptV
  unfold dl at h1
  by_cases hz : j = 0
  · subst hz
    rw [if_pos rfl] at h1 ⊢
    rw [sum_late thLL fun q hq => hL q hq, Int.add_zero] at h1
    exact h1.symm
  · rw [if_neg hz] at h1 ⊢
    rw [sumF_filter]
    omega
theorem cF_more {N K : Nat} (h : isT3 N K) : ∀ s, ∀ i, i < N → cF (K + s) i = cF K i
  | 0, i, _ => rfl
  | s + 1, i, hi => by
    rw [← cF_more h s i hi]
    show updF (cF (K + s)) (t3 (K + s)) (cv (K + s)) i = _
    unfold updF
    rw [if_neg]
    intro e
    have h1 : t3 K ≤ t3 (K + s) := by
      unfold t3
      exact Nat.div_le_div_right (Nat.mul_le_mul (by omega) (by omega))
    have := h.2
    omega
theorem cF_agree {N K : Nat} (h : isT3 N K) (hN : N ≤ 400) : sqD N (cF K) = sqD N (cF 28) := sq_congr fun i hi => by
  have hK : K ≤ 28 := by
    by_cases e : K ≤ 28
    · exact e
    · have h1 : t3 28 < N := h.1 28 (by omega)
      have h2 : t3 28 = 406 := rfl
      omega
  have := cF_more h (28 - K) i hi
  rw [show K + (28 - K) = 28 by omega] at this
  exact this.symm
/-! ### == of tuples of ints -/
theorem pys_int : ∀ ns : List Int, toPys (ns.map D.int) = some (ns.map PyData.int)
  | [] => by unfold toPys; rfl
  | n :: ns => by
    have ih := pys_int ns
    show toPys (D.int n :: ns.map D.int) = _
    unfold toPys
    rw [ih]
    unfold toPy
    rfl
theorem int_lay : ∀ ns : List Int, PyData.canLayAll0 (ns.map PyData.int) = true
  | [] => by simp only [List.map_nil, PyData.canLayAll0]
  | n :: ns => by
    have ih := int_lay ns
    simp only [List.map_cons, PyData.canLayAll0, PyData.canLay0, ih, Bool.and_self]
theorem int_depth : ∀ ns : List Int, PyData.depthAll (ns.map PyData.int) ≤ 1
  | [] => by simp [PyData.depthAll]
  | n :: ns => by
    have ih := int_depth ns
    have h0 : PyData.depth (.int n) ≤ 1 := by simp [PyData.depth]
    simp only [List.map_cons, PyData.depthAll]
    omega
theorem int_eqv : ∀ ns : List Int, PyData.eqvAll (ns.map PyData.int) (ns.map PyData.int) = true
  | [] => by simp only [List.map_nil, PyData.eqvAll]
  | n :: ns => by
    have ih := int_eqv ns
    simp only [List.map_cons, PyData.eqvAll, PyData.eqv, ih, beq_self_eq_true, Bool.and_self]
theorem ne_tup {N : Nat} {f g : Nat → Int} (h : sqD N f = sqD N g) : dNe (.tup (sqD N f)) (.tup (sqD N g)) = some (.pl (.bl false)) := by
  rw [h]
  have e : sqD N g = ((List.range N).map g).map D.int := by unfold sqD; rw [List.map_map]; rfl
  have e1 : toPy (.tup (sqD N g)) = some (.tuple (((List.range N).map g).map PyData.int)) := by
    rw [e]
    unfold toPy
    rw [pys_int]
    rfl
  generalize (List.range N).map g = ns at e e1
  have h2 : SeqAt.shaped (.tuple (ns.map PyData.int)) = true := by
    have h1 := int_depth ns
    have h2 : PyData.depth (.tuple (ns.map PyData.int)) ≤ 64 := by
      simp only [PyData.depth]
      omega
    show (PyData.canLay0 (.tuple (ns.map PyData.int)) && decide (PyData.depth (.tuple (ns.map PyData.int)) ≤ 64)) = true
    rw [Bool.and_eq_true]
    exact ⟨by simp only [PyData.canLay0]; exact int_lay ns, decide_eq_true h2⟩
  have h3 : PyData.eqv (.tuple (ns.map PyData.int)) (.tuple (ns.map PyData.int)) = true := by
    simp only [PyData.eqv]
    exact int_eqv ns
  unfold dNe dEqB
  rw [e1]
  simp only [h2, h3, Bool.and_self, if_true]
  rfl
theorem min_ge : ∀ (l : List Int) (n : Int), 1 ≤ n → (∀ x ∈ l, 1 ≤ x) → 1 ≤ l.foldl (fun a y => if y < a then y else a) n
  | [], n, h, _ => h
  | x :: l, n, h, hl => by
    refine min_ge l _ ?_ fun y hy => hl y (List.mem_cons_of_mem _ hy)
    have := hl x List.mem_cons_self
    show 1 ≤ if x < n then x else n
    split <;> omega
theorem min_sq {N : Nat} {f : Nat → Int} (h1 : 1 ≤ N) (hf : ∀ i, i < N → 1 ≤ f i) : ∃ z, 1 ≤ z ∧ dMin [.tup (sqD N f)] = some (.pl (.int z)) := by
  have e : dMin [.tup (sqD N f)] = (intsOf (sqD N f)).bind fun ns => match ns with
    | n :: ns => pI (ns.foldl (fun a y => if y < a then y else a) n)
    | [] => none := rfl
  rw [e, ints_sq]
  have hm : ∀ x ∈ (List.range N).map f, 1 ≤ x := fun x hx => by
    obtain ⟨i, hi, rfl⟩ := List.mem_map.mp hx
    exact hf i (List.mem_range.mp hi)
  have hl : ((List.range N).map f).length = N := by simp
  cases q : (List.range N).map f with
  | nil => rw [q] at hl; simp at hl; omega
  | cons n ns =>
    rw [q] at hm
    exact ⟨_, min_ge ns n (hm n List.mem_cons_self) fun x hx => hm x (List.mem_cons_of_mem _ hx), rfl⟩
end L2.MX.Lw
end
section
set_option Elab.async false
set_option linter.all false
set_option maxRecDepth 100000
namespace L2.MX.Lw
open PySem PySem.Spec PyProof.Rows
theorem kn_0 : Kn p_k0 S_k0 K0 := ⟨S_k0_eq, A_k0, by decide +kernel, by decide +kernel, by decide, by unfold Rise; decide, by decide, by decide⟩
theorem kn_1 : Kn p_k1 S_k1 K1 := ⟨S_k1_eq, A_k1, by decide +kernel, by decide +kernel, by decide, by unfold Rise; decide, by decide, by decide⟩
theorem kn_2 : Kn p_k2 S_k2 K2 := ⟨S_k2_eq, A_k2, by decide +kernel, by decide +kernel, by decide, by unfold Rise; decide, by decide, by decide⟩
theorem kn_3 : Kn p_k3 S_k3 K3 := ⟨S_k3_eq, A_k3, by decide +kernel, by decide +kernel, by decide, by unfold Rise; decide, by decide, by decide⟩
theorem kn_4 : Kn p_k4 S_k4 K4 := ⟨S_k4_eq, A_k4, by decide +kernel, by decide +kernel, by decide, by unfold Rise; decide, by decide, by decide⟩
theorem kn_5 : Kn p_k5 S_k5 K5 := ⟨S_k5_eq, A_k5, by decide +kernel, by decide +kernel, by decide, by unfold Rise; decide, by decide, by decide⟩
theorem kn_6 : Kn p_k6 S_k6 K6 := ⟨S_k6_eq, A_k6, by decide +kernel, by decide +kernel, by decide, by unfold Rise; decide, by decide, by decide⟩
theorem kn_t : Kn p_t S_t Kt := ⟨S_t_eq, A_t, by decide +kernel, by decide +kernel, by decide, by unfold Rise; decide, by decide, by decide⟩
theorem kn_m : Kn p_m S_m Km := ⟨S_m_eq, A_m, by decide +kernel, by decide +kernel, by decide, by unfold Rise; decide, by decide, by decide⟩
theorem bf_row {p : List (Nat × Int)} {K : List Int} {N : Nat} (hl : K.length = 400) (hN : N ≤ 400) (h : Agree N (bfF N p) K) : sqD N (bfF N p) = sqD N (lfun K) := sq_congr fun i hi => (agree_len h (by omega) i hi).symm
def kn : List (List (Nat × Int) × List Int) := [(p_k0, K0), (p_k1, K1), (p_k2, K2), (p_k3, K3), (p_k4, K4), (p_k5, K5), (p_k6, K6)]
def knE (N : Nat) (x : List (Nat × Int) × List Int) : D := .tup [.tup (x.1.map prD), .lst (sqD N (lfun x.2))]
theorem kn_all {N : Nat} (hN : N ≤ 400) : ∀ x ∈ kn, (∃ S, Kn x.1 S x.2) ∧ sqD N (bfF N x.1) = sqD N (lfun x.2) := fun x hx => by
  rcases List.mem_cons.mp hx with rfl | hx
  · exact ⟨⟨_, kn_0⟩, bf_row kn_0.len hN (F_0 hN)⟩
  rcases List.mem_cons.mp hx with rfl | hx
  · exact ⟨⟨_, kn_1⟩, bf_row kn_1.len hN (F_1 hN)⟩
  rcases List.mem_cons.mp hx with rfl | hx
  · exact ⟨⟨_, kn_2⟩, bf_row kn_2.len hN (F_2 hN)⟩
  rcases List.mem_cons.mp hx with rfl | hx
  · exact ⟨⟨_, kn_3⟩, bf_row kn_3.len hN (F_3 hN)⟩
  rcases List.mem_cons.mp hx with rfl | hx
  · exact ⟨⟨_, kn_4⟩, bf_row kn_4.len hN (F_4 hN)⟩
  rcases List.mem_cons.mp hx with rfl | hx
  · exact ⟨⟨_, kn_5⟩, bf_row kn_5.len hN (F_5 hN)⟩
  rcases List.mem_cons.mp hx with rfl | hx
  · exact ⟨⟨_, kn_6⟩, bf_row kn_6.len hN (F_6 hN)⟩
  cases hx
theorem call1 {fm : MF} {N : Nat} {ρ : Env} {rv : RV} {outs : Env} (h2 : ρ[2]? = some (.pl (.int N))) (h : fm [.pl (.int N)] = .rt rv outs) : mCallP [] fm (mAc (oVal (mVar 2)) mA0) ρ = .ok rv ρ := by
  have e : mVar 2 ρ = .ok (.pl (.int N)) ρ := by unfold mVar; rw [h2]
  exact mCallP_of (os := [.val (.int N)]) (mAc_of (oVal_of e) rfl) rfl h
theorem mLst_of {args : MA} {ρ ρ1 : Env} {os : List Opd} {ds : List D} (h : args ρ = .ok os ρ1) (hv : vals os = some ds) (hl : ds.length ≤ 1000) : mLst args ρ = .ok (.fr (.lst ds)) ρ1 := by
  unfold mLst bindM
  rw [h]
  simp only [hv]
  rw [if_pos hl]
theorem tupOf {m : M} {ρ ρ1 : Env} {rv : RV} {l : List D} (h : m ρ = .ok rv ρ1) (hd : rv.d = .lst l) : mCall dTuple (mAc (oVal m) mA0) ρ = .ok (.pl (.tup l)) ρ1 := by
  refine mCall_of (os := [.val (.lst l)]) (ds := [.lst l]) (mAc_of ?_ rfl) rfl rfl
  rw [← hd]
  exact oVal_of h
theorem row_pent {N : Nat} (h1 : 1 ≤ N) (hN : N ≤ 400) : ∃ f, m_euler_row [.pl (.int N)] = .rt (.pl (.tup (sqD N f))) [.un] ∧ m__law_pentagons [.pl (.int N)] = .rt (.pl (.lst (sqD N f))) [.un] ∧ sqD N f = sqD N (lfun K0) ∧ m__law_parts [.pl (.int N)] = .rt (.pl (.lst (sqD N (lfun K4)))) [.un] := by
  obtain ⟨K, hK, e⟩ := f_euler_row (N := N) (by omega)
  refine ⟨eF K, e, f_pent h1 (by omega) hK, ?_, ?_⟩
  · rw [← map_lfun K0_eq hN]
    exact sq_congr fun i hi => eF_agree hK hN hi
  · rw [← pt_row hN]
    exact f_parts h1 hN hK
theorem row_tri {N : Nat} (hN : N ≤ 400) : m_cube_row [.pl (.int N)] = .rt (.pl (.tup (sqD N (lfun K1)))) [.un] ∧ m__law_triangles [.pl (.int N)] = .rt (.pl (.lst (sqD N (lfun K1)))) [.un] := by
  obtain ⟨K, hK, h⟩ := isT3_ex N
  rw [← map_lfun K1_eq hN, ← cF_agree h hN]
  exact ⟨f_cube (by omega) hK h, f_tri (by omega) hK h⟩
theorem row_sq {N : Nat} (hN : N ≤ 400) : ∃ rv, rv.d = .lst (sqD N (lfun K2)) ∧ m__law_squares [.pl (.int N)] = .rt rv [.un] := by
  rw [← map_lfun K2_eq hN]
  rcases f_squares hN with e | e
  · exact ⟨_, rfl, e⟩
  · exact ⟨_, rfl, e⟩
theorem sg_row {N : Nat} {F : Nat → Int} {l l' : List Int} (h : (List.range 400).map F = l) (h' : (List.range 400).map (sgF F) = l') (hN : N ≤ 400) : m__law_signed [.pl (.lst (sqD N (lfun l)))] = .rt (.fr (.lst (sqD N (lfun l')))) [.un] := by
  rw [← map_lfun h hN, ← map_lfun h' hN]
  exact f_signed (by unfold smallN; omega)
theorem row_two {N : Nat} (h1 : 1 ≤ N) (hN : N ≤ 400) : m__law_two_squares [.pl (.int N)] = .rt (.pl (.lst (sqD N (lfun K5)))) [.un] := by
  rw [← map_lfun K5_eq hN]
  exact f_two h1 hN
/-- signed(f(many)) -/
theorem call_sg {fm : MF} {N : Nat} {ρ : Env} {rv rv2 : RV} {outs outs2 : Env} {l : List D} (h2 : ρ[2]? = some (.pl (.int N))) (h : fm [.pl (.int N)] = .rt rv outs) (hd : rv.d = .lst l) (hs : m__law_signed [.pl (.lst l)] = .rt rv2 outs2) :
    mCallP [] m__law_signed (mAc (oVal (mCallP [] fm (mAc (oVal (mVar 2)) mA0))) mA0) ρ = .ok rv2 ρ := by
  refine mCallP_of (os := [.val (.lst l)]) (mAc_of ?_ rfl) rfl hs
  rw [← hd]
  exact oVal_of (call1 h2 h)
theorem kpair {m : M} {ρ : Env} {rv : RV} {pm : M} {p : List (Nat × Int)} {K : List Int} {N : Nat} (hp : pm ρ = .ok (.pl (.tup (p.map prD))) ρ) (h : m ρ = .ok rv ρ) (hd : rv.d = .lst (sqD N (lfun K))) : mTup (mAc (oVal pm) (mAc (oVal m) mA0)) ρ = .ok (.pl (knE N (p, K))) ρ := by
  refine tup2 (oVal_of hp) ?_
  rw [← hd]
  exact oVal_of h
end L2.MX.Lw
end
section
set_option Elab.async false
set_option linter.all false
set_option maxRecDepth 100000
namespace L2.MX.Lw
open PySem PySem.Spec PyProof.Rows
abbrev EL (S P : D) (N d : Nat) (c4 c5 c6 c7 c10 : Cell) : Env := [.pl S, .ow P, .pl (.int (N : Nat)), .pl (.int (d : Nat)), c4, c5, c6, c7, .un, .un, c10, .un]
section
variable {S P : D} {N d : Nat} {c4 c5 c6 c7 c10 : Cell}
theorem add_nat (a b : Nat) : dAdd (.int (a : Nat)) (.int (b : Nat)) = some (.pl (.int ((a + b : Nat) : Int))) := by
  show some (RV.pl (.int ((a : Int) + (b : Int)))) = _
  rw [Int.natCast_add]
theorem draw_at {c : Nat} {ρ : Env} {m : Nat} (h : Pen c P) (hc : c ≤ 1000000) (hm : 1 ≤ m) (hm2 : m ≤ 1000000) (h1 : ownedAt ρ 1 = some P) (hv : oVar 1 ρ = .ok (.slot 1) ρ) : ∃ r P', r < m ∧ Pen (c + 1) P' ∧ mCallQ (df__law_draw.drop 0) m__law_draw (mAc (oVar 1) (mAc (oVal (mK (.int (m : Nat)))) mA0)) ρ = .ok (.pl (.int (r : Nat))) (setOwn ρ 1 P') := by
  obtain ⟨r, P', e, hr, hp⟩ := f_draw h hc hm hm2
  exact ⟨r, P', hr, hp, mCallQ_of (i := 1) (os := [.val (.int (m : Nat))]) (mAc_of hv rfl) rfl h1 e⟩
/-- euler_row and cube_row -/
theorem l_rows (h1 : 1 ≤ N) (hN : N ≤ 400) : (mtOr (mtB (mOp dNe (oVal (mCallP (df_euler_row.drop 0) m_euler_row (mAc (oVal (mVar 2)) mA0))) (oVal (mCall dTuple (mAc (oVal (mCallP (df__law_pentagons.drop 0) m__law_pentagons (mAc (oVal (mVar 2)) mA0))) mA0))))) (mtB (mOp dNe (oVal (mCallP (df_cube_row.drop 0) m_cube_row (mAc (oVal (mVar 2)) mA0))) (oVal (mCall dTuple (mAc (oVal (mCallP (df__law_triangles.drop 0) m__law_triangles (mAc (oVal (mVar 2)) mA0))) mA0)))))) (EL S P N d c4 c5 c6 c7 c10) = .ok false (EL S P N d c4 c5 c6 c7 c10) := by
  obtain ⟨f, e1, e2, e3, e4⟩ := row_pent h1 hN
  obtain ⟨t1, t2⟩ := row_tri hN
  refine mtOr_f (ρ1 := EL S P N d c4 c5 c6 c7 c10) (mtB_of (mOp_of (oVal_of (call1 rfl e1)) (oVal_of (tupOf (call1 rfl e2) rfl)) rfl rfl (ne_tup rfl))) ?_
  exact mtB_of (mOp_of (oVal_of (call1 rfl t1)) (oVal_of (tupOf (call1 rfl t2) rfl)) rfl rfl (ne_tup rfl))
theorem l_known (h1 : 1 ≤ N) (hN : N ≤ 400) : (mLst (mAc (oVal (mTup (mAc (oVal (mTup (mAc (oVal (mTup (mAc (oVal (mK (.int 1))) (mAc (oVal (mK (.int 1))) mA0)))) mA0))) (mAc (oVal (mCallP (df__law_pentagons.drop 0) m__law_pentagons (mAc (oVal (mVar 2)) mA0))) mA0)))) (mAc (oVal (mTup (mAc (oVal (mTup (mAc (oVal (mTup (mAc (oVal (mK (.int 1))) (mAc (oVal (mK (.int 3))) mA0)))) mA0))) (mAc (oVal (mCallP (df__law_triangles.drop 0) m__law_triangles (mAc (oVal (mVar 2)) mA0))) mA0)))) (mAc (oVal (mTup (mAc (oVal (mTup (mAc (oVal (mTup (mAc (oVal (mK (.int 1))) (mAc (oVal (mUn dNeg (oVal (mK (.int 2))))) mA0)))) (mAc (oVal (mTup (mAc (oVal (mK (.int 2))) (mAc (oVal (mK (.int 5))) mA0)))) (mAc (oVal (mTup (mAc (oVal (mK (.int 4))) (mAc (oVal (mUn dNeg (oVal (mK (.int 2))))) mA0)))) mA0))))) (mAc (oVal (mCallP (df__law_squares.drop 0) m__law_squares (mAc (oVal (mVar 2)) mA0))) mA0)))) (mAc (oVal (mTup (mAc (oVal (mTup (mAc (oVal (mTup (mAc (oVal (mK (.int 1))) (mAc (oVal (mK (.int 2))) mA0)))) (mAc (oVal (mTup (mAc (oVal (mK (.int 2))) (mAc (oVal (mUn dNeg (oVal (mK (.int 1))))) mA0)))) mA0)))) (mAc (oVal (mCallP (df__law_signed.drop 0) m__law_signed (mAc (oVal (mCallP (df__law_squares.drop 0) m__law_squares (mAc (oVal (mVar 2)) mA0))) mA0))) mA0)))) (mAc (oVal (mTup (mAc (oVal (mTup (mAc (oVal (mTup (mAc (oVal (mK (.int 1))) (mAc (oVal (mUn dNeg (oVal (mK (.int 1))))) mA0)))) mA0))) (mAc (oVal (mCallP (df__law_parts.drop 0) m__law_parts (mAc (oVal (mVar 2)) mA0))) mA0)))) (mAc (oVal (mTup (mAc (oVal (mTup (mAc (oVal (mTup (mAc (oVal (mK (.int 1))) (mAc (oVal (mUn dNeg (oVal (mK (.int 4))))) mA0)))) (mAc (oVal (mTup (mAc (oVal (mK (.int 2))) (mAc (oVal (mK (.int 10))) mA0)))) (mAc (oVal (mTup (mAc (oVal (mK (.int 4))) (mAc (oVal (mUn dNeg (oVal (mK (.int 4))))) mA0)))) mA0))))) (mAc (oVal (mCallP (df__law_two_squares.drop 0) m__law_two_squares (mAc (oVal (mVar 2)) mA0))) mA0)))) (mAc (oVal (mTup (mAc (oVal (mTup (mAc (oVal (mTup (mAc (oVal (mK (.int 1))) (mAc (oVal (mK (.int 4))) mA0)))) (mAc (oVal (mTup (mAc (oVal (mK (.int 2))) (mAc (oVal (mUn dNeg (oVal (mK (.int 2))))) mA0)))) mA0)))) (mAc (oVal (mCallP (df__law_signed.drop 0) m__law_signed (mAc (oVal (mCallP (df__law_two_squares.drop 0) m__law_two_squares (mAc (oVal (mVar 2)) mA0))) mA0))) mA0)))) mA0)))))))) (EL S P N d c4 c5 c6 c7 c10) = .ok (.fr (.lst (kn.map (knE N)))) (EL S P N d c4 c5 c6 c7 c10) := by
  obtain ⟨f, e1, e2, e3, e4⟩ := row_pent h1 hN
  obtain ⟨t1, t2⟩ := row_tri hN
  obtain ⟨rq, q1, q2⟩ := row_sq hN
  have w := row_two h1 hN
  have g1 := sg_row K2_eq K3_eq hN
  have g2 := sg_row K5_eq K6_eq hN
  rw [e3] at e2
  refine mLst_of (ds := kn.map (knE N)) (mAc_of (oVal_of (kpair (p := p_k0) rfl (call1 rfl e2) rfl)) (mAc_of (oVal_of (kpair (p := p_k1) rfl (call1 rfl t2) rfl)) (mAc_of (oVal_of (kpair (p := p_k2) rfl (call1 rfl q2) q1)) (mAc_of (oVal_of (kpair (p := p_k3) rfl (call_sg rfl q2 q1 g1) rfl)) (mAc_of (oVal_of (kpair (p := p_k4) rfl (call1 rfl e4) rfl)) (mAc_of (oVal_of (kpair (p := p_k5) rfl (call1 rfl w) rfl)) (mAc_of (oVal_of (kpair (p := p_k6) rfl (call_sg rfl w rfl g2) rfl)) rfl))))))) rfl (by rw [List.length_map]; decide)
/-- tuple((d * place, r) for ..) -/
theorem l_spread {p : List (Nat × Int)} {R : D} (hd : d ≤ 100) (hl : p.length ≤ 10) : (mCall dTuple (mAc (oVal (mLc (iSeq (mVar 5)) (gTp [(gNm 8), (gNm 9)]) ([8, 9] : List Nat) mtYes (mTup (mAc (oVal (mOp dMul (oVar 3) (oVar 8))) (mAc (oVal (mVar 9)) mA0))))) mA0)) (EL S P N d c4 (.pl (.tup (p.map prD))) c6 c7 c10) = .ok (.pl (.tup ((p.map (spq d)).map prD))) (EL S P N d c4 (.pl (.tup (p.map prD))) c6 c7 c10) := by
  let F : D → Option D := fun x => match x with
    | .tup [.int a, .int b] => some (.tup [.int ((d : Int) * a), .int b])
    | _ => none
  have hF : ∀ q, F (prD q) = some (prD (spq d q)) := fun q => by
    show some (D.tup [.int ((d : Int) * (q.1 : Int)), .int q.2]) = some (D.tup [.int ((d * q.1 : Nat) : Int), .int q.2])
    rw [Int.natCast_mul]
  have e1 : (p.map prD).filterMap F = (p.map (spq d)).map prD := by
    rw [List.filterMap_map, List.map_map, ← List.filterMap_eq_map]
    congr 1
  have hl3 : lineN = 16777216 := rfl
  have hc := mLc_pure (mi := iSeq (mVar 5)) (g := gTp [(gNm 8), (gNm 9)]) (vs := [8, 9]) (t := mtYes) (e := mTup (mAc (oVal (mOp dMul (oVar 3) (oVar 8))) (mAc (oVal (mVar 9)) mA0))) (ρ := EL S P N d c4 (.pl (.tup (p.map prD))) c6 c7 c10) (ρ1 := EL S P N d c4 (.pl (.tup (p.map prD))) c6 c7 c10) F (iSeq_of (r := .pl (.tup (p.map prD))) rfl rfl) rfl (by rw [List.length_map]; omega) (fun x hx => by
    obtain ⟨q, _, rfl⟩ := List.mem_map.mp hx
    rw [hF]
    refine ⟨[.pl S, .ow P, .pl (.int (N : Nat)), .pl (.int (d : Nat)), c4, .pl (.tup (p.map prD)), c6, c7, .pl (.int (q.1 : Nat)), .pl (.int q.2), c10, .un], _, rfl, rfl, _, _, tup2 (oVal_of (mOp_of (f := dMul) (oVar_pl rfl) (oVar_pl rfl) (get_slot rfl) (get_slot rfl) (mul_int (smallI_iff.mpr (by omega))))) rfl, ?_, rfl⟩
    show D.tup [.int ((d : Int) * (q.1 : Int)), .int q.2] = D.tup [.int ((d * q.1 : Nat) : Int), .int q.2]
    rw [Int.natCast_mul])
  rw [e1] at hc
  exact tupOf hc rfl
/-- product_row(p_given(..), many) against the spread row -/
theorem l_prod {c : Nat} {p : List (Nat × Int)} {Sx K : List Int} (h : Pen c P) (hc : c ≤ 100000) (k : Kn p Sx K) (h1 : 1 ≤ N) (hN : N ≤ 400) (hd : 1 ≤ d) (hd2 : d ≤ 6) : ∃ P' c', Pen c' P' ∧ c' ≤ c + 100 ∧
    mtB (mOp dNe (oVal (mCallP (df_product_row.drop 0) m_product_row (mAc (oVal (mCallQ (df__law_p_given.drop 0) m__law_p_given (mAc (oVar 1) (mAc (oVal (mVar 7)) mA0)))) (mAc (oVal (mVar 2)) mA0)))) (oVal (mCall dTuple (mAc (oVal (mCallP (df__law_spread.drop 0) m__law_spread (mAc (oVal (mVar 6)) (mAc (oVal (mVar 3)) (mAc (oVal (mVar 2)) mA0))))) mA0)))) (EL S P N d c4 c5 (.pl (.lst (sqD N (lfun K)))) (.pl (.tup ((p.map (spq d)).map prD))) c10) = .ok false (EL S P' N d c4 c5 (.pl (.lst (sqD N (lfun K)))) (.pl (.tup ((p.map (spq d)).map prD))) c10) := by
  have hl := k.pl
  obtain ⟨P', its, b', rv, hp, hpm, hrv, e⟩ := f_given (b := false) (ps := p.map (spq d)) h (by rw [List.length_map]; omega) (by rw [List.length_map]; omega)
  rw [List.length_map] at hp
  refine ⟨P', _, hp, by omega, ?_⟩
  have a1 : mCallQ (df__law_p_given.drop 0) m__law_p_given (mAc (oVar 1) (mAc (oVal (mVar 7)) mA0)) (EL S P N d c4 c5 (.pl (.lst (sqD N (lfun K)))) (.pl (.tup ((p.map (spq d)).map prD))) c10) = .ok rv (EL S P' N d c4 c5 (.pl (.lst (sqD N (lfun K)))) (.pl (.tup ((p.map (spq d)).map prD))) c10) :=
    mCallQ_of (i := 1) (os := [.val (.tup ((p.map (spq d)).map prD))]) rfl rfl rfl e
  have pr := f_product_row (N := N) (c := b') (its := its) (ps := p.map (spq d)) (by omega) h1 hpm (spq_rise k hd) (spq_ok k hd hd2) (fun z => k.ne (List.map_eq_nil_iff.mp z)) (by rw [List.length_map]; omega) (fun j hj => k.small hd hd2 j (by omega))
  rw [k.spread hd hN] at pr
  have a2 := mCallP_of (dfl := df_product_row.drop 0) (fm := m_product_row) (args := mAc (oVal (mCallQ (df__law_p_given.drop 0) m__law_p_given (mAc (oVar 1) (mAc (oVal (mVar 7)) mA0)))) (mAc (oVal (mVar 2)) mA0)) (os := [.val (seqD b' (itsD its)), .val (.int (N : Nat))]) (mAc_of (by rw [← hrv]; exact oVal_of a1) rfl) rfl pr
  have a3 := tupOf (mCallP_of (dfl := df__law_spread.drop 0) (fm := m__law_spread) (args := mAc (oVal (mVar 6)) (mAc (oVal (mVar 3)) (mAc (oVal (mVar 2)) mA0))) (ρ := EL S P' N d c4 c5 (.pl (.lst (sqD N (lfun K)))) (.pl (.tup ((p.map (spq d)).map prD))) c10) (os := [.val (.lst (sqD N (lfun K))), .val (.int (d : Nat)), .val (.int (N : Nat))]) rfl rfl (f_spread (by unfold smallN; omega) hd (by omega))) rfl
  exact mtB_of (mOp_of (oVal_of a2) (oVal_of a3) rfl rfl (ne_tup rfl))
theorem l_fact {c : Nat} {p : List (Nat × Int)} {Sx K : List Int} (h : Pen c P) (hc : c ≤ 100000) (k : Kn p Sx K) (kb : sqD N (bfF N p) = sqD N (lfun K)) (h1 : 1 ≤ N) (hN : N ≤ 400) : ∃ P' c', Pen c' P' ∧ c' ≤ c + 100 ∧
    mtB (mOp dNe (oVal (mCallP (df_row_by_factors.drop 0) m_row_by_factors (mAc (oVal (mCallQ (df__law_p_given.drop 0) m__law_p_given (mAc (oVar 1) (mAc (oVal (mVar 5)) mA0)))) (mAc (oVal (mVar 2)) mA0)))) (oVal (mCall dTuple (mAc (oVar 6) mA0)))) (EL S P N d c4 (.pl (.tup (p.map prD))) (.pl (.lst (sqD N (lfun K)))) c7 c10) = .ok false (EL S P' N d c4 (.pl (.tup (p.map prD))) (.pl (.lst (sqD N (lfun K)))) c7 c10) := by
  have hl := k.pl
  obtain ⟨P', its, b', rv, hp, hpm, hrv, e⟩ := f_given (b := false) (ps := p) h (by omega) (by omega)
  refine ⟨P', _, hp, by omega, ?_⟩
  have a1 : mCallQ (df__law_p_given.drop 0) m__law_p_given (mAc (oVar 1) (mAc (oVal (mVar 5)) mA0)) (EL S P N d c4 (.pl (.tup (p.map prD))) (.pl (.lst (sqD N (lfun K)))) c7 c10) = .ok rv (EL S P' N d c4 (.pl (.tup (p.map prD))) (.pl (.lst (sqD N (lfun K)))) c7 c10) :=
    mCallQ_of (i := 1) (os := [.val (.tup (p.map prD))]) rfl rfl rfl e
  have pr := f_row_by_factors (N := N) (c := b') (its := its) (ps := p) hN h1 hpm k.rise (okI_of k) k.ne (by omega)
  rw [kb] at pr
  have a2 := mCallP_of (dfl := df_row_by_factors.drop 0) (fm := m_row_by_factors) (args := mAc (oVal (mCallQ (df__law_p_given.drop 0) m__law_p_given (mAc (oVar 1) (mAc (oVal (mVar 5)) mA0)))) (mAc (oVal (mVar 2)) mA0)) (os := [.val (seqD b' (itsD its)), .val (.int (N : Nat))]) (mAc_of (by rw [← hrv]; exact oVal_of a1) rfl) rfl pr
  have a3 : mCall dTuple (mAc (oVar 6) mA0) (EL S P' N d c4 (.pl (.tup (p.map prD))) (.pl (.lst (sqD N (lfun K)))) c7 c10) = .ok (.pl (.tup (sqD N (lfun K)))) (EL S P' N d c4 (.pl (.tup (p.map prD))) (.pl (.lst (sqD N (lfun K)))) c7 c10) := mCall_of (os := [.slot 6]) (ds := [.lst (sqD N (lfun K))]) rfl rfl rfl
  exact mtB_of (mOp_of (oVal_of a2) (oVal_of a3) rfl rfl (ne_tup rfl))
end
end L2.MX.Lw
end
section
set_option Elab.async false
set_option linter.all false
set_option maxRecDepth 100000
namespace L2.MX.Lw
open PySem PySem.Spec PyProof.Rows
section
variable {S P : D} {N d : Nat} {c4 c5 c6 c7 : Cell}
def tF (n : Nat) : Int := if sqB (8 * n + 1) = true then 1 else 0
theorem tF_list : (List.range 400).map tF = Kt := by decide +kernel
abbrev trM : M := mLc (iRangeN 1 (mAc (oVar 2) mA0)) (gNm 11) ([11] : List Nat) mtYes (mIf (mtB (mOp dNotN (oVal (mCallP (df__law_root.drop 0) m__law_root (mAc (oVal (mOp dAdd (oVal (mOp dMul (oVal (mK (.int 8))) (oVar 11))) (oVal (mK (.int 1))))) mA0))) (oVal (mK .non)))) (mK (.int 1)) (mK (.int 0)))
theorem l_tri {c10 : Cell} (hN : N ≤ 400) : trM (EL S P N d c4 c5 c6 c7 c10) = .ok (.fr (.lst (sqD N (lfun Kt)))) (EL S P N d c4 c5 c6 c7 c10) := by
  have sN : smallN N := by unfold smallN; omega
  rw [← map_lfun tF_list hN]
  refine mLc_rg (lo := 0) (n := N) (iR1_of (j := N) (os := [.slot 2]) rfl rfl (smallR_nat sN)) rfl (Nat.le_of_lt (small_line sN (Nat.le_refl _))) fun i hi => ?_
  rw [zero_mul1]
  let ρ1 : Env := [.pl S, .ow P, .pl (.int (N : Nat)), .pl (.int (d : Nat)), c4, c5, c6, c7, .un, .un, c10, .pl (.int (i : Nat))]
  refine ⟨ρ1, ρ1, rfl, rfl, .pl (.int (tF i)), ρ1, ?_, rfl, rfl⟩
  obtain ⟨x, e1, e2⟩ := chkR_ok (rt_8 (n := i) (by omega))
  have a1 := mOp_of (f := dMul) (a := oVal (mK (.int 8))) (b := oVar 11) (ρ := ρ1) rfl (oVar_pl rfl) rfl (get_slot rfl) (mul_int (i := 8) (by decide))
  have a2 := mOp_of (f := dAdd) (b := oVal (mK (.int 1))) (oVal_of a1) rfl rfl rfl (r := .pl (.int ((8 * i + 1 : Nat) : Int))) (by
    show some (RV.pl (.int ((8 : Int) * (i : Int) + 1))) = _
    rw [Int.natCast_add, Int.natCast_mul]
    rfl)
  have e3 := mtB_of (mOp_of (f := dNotN) (a := oVal (mCallP (df__law_root.drop 0) m__law_root (mAc (oVal (mOp dAdd (oVal (mOp dMul (oVal (mK (.int 8))) (oVar 11))) (oVal (mK (.int 1))))) mA0))) (b := oVal (mK .non)) (ρ := ρ1) (oVal_of (mCallP_of (os := [.val (.int ((8 * i + 1 : Nat) : Int))]) (mAc_of (oVal_of a2) rfl) rfl e1)) rfl rfl rfl (show dNotN x .non = some (.pl (.bl (!isNon x))) from by cases x <;> rfl))
  rw [e2, Bool.not_not] at e3
  unfold tF
  by_cases hs : sqB (8 * i + 1) = true
  · rw [hs] at e3
    rw [if_pos hs]
    exact mIf_t e3 rfl
  · have hs' : sqB (8 * i + 1) = false := by simpa using hs
    rw [hs'] at e3
    rw [if_neg hs]
    exact mIf_f e3 rfl
/-- product_row of a written tuple of two pairs -/
theorem l_two {p : List (Nat × Int)} {Sx K : List Int} {pm : M} {ρ : Env} (its : Its) (k : Kn p Sx K) (hp : its.map (·.2) = p) (h1 : 1 ≤ N) (hN : N ≤ 400) (h2 : ρ[2]? = some (.pl (.int (N : Nat)))) (hm : pm ρ = .ok (.pl (seqD false (itsD its))) ρ) : mCallP (df_product_row.drop 0) m_product_row (mAc (oVal pm) (mAc (oVal (mVar 2)) mA0)) ρ = .ok (.pl (.tup (sqD N (lfun K)))) ρ := by
  have hl := k.pl
  have e : mVar 2 ρ = .ok (.pl (.int N)) ρ := by unfold mVar; rw [h2]
  have pr := f_product_row (N := N) (c := false) (its := its) (ps := p) (by omega) h1 (by rw [hp]) k.rise (fun q hq => (okI_of k q hq).1) k.ne (by omega) (fun j hj => k.small1 j (by omega))
  rw [k.plain hN] at pr
  exact mCallP_of (os := [.val (seqD false (itsD its)), .val (.int (N : Nat))]) (mAc_of (oVal_of hm) (mAc_of (oVal_of e) rfl)) rfl pr
theorem Km_pos : (List.range 400).all (fun i => decide (1 ≤ lfun Km i)) = true := by decide +kernel
theorem law_true (ns : List Int) (h : ns.length ≤ 63) : ∃ outs, m_law [.pl (.flst (ns.map .int))] = .rt (.pl (.bl true)) outs := by
  obtain ⟨P0, p0, e0⟩ := f_pen ns
  generalize hS : D.flst (ns.map D.int) = S at e0 ⊢
  obtain ⟨r1, P1, hr1, p1, e1⟩ := draw_at (m := 300) (ρ := [.pl S, .ow P0, .un, .un, .un, .un, .un, .un, .un, .un, .un, .un]) p0 (by decide) (by decide) (by decide) rfl rfl
  obtain ⟨r2, P2, hr2, p2, e2⟩ := draw_at (m := 6) (ρ := [.pl S, .ow P1, .un, .un, .un, .un, .un, .un, .un, .un, .un, .un]) p1 (by decide) (by decide) (by decide) rfl rfl
  have hN1 : 1 ≤ 100 + r1 := by omega
  have hN : 100 + r1 ≤ 400 := by omega
  have hd1 : 1 ≤ 1 + r2 := by omega
  have hd : 1 + r2 ≤ 6 := by omega
  have q1 := mOp_of (f := dAdd) (a := oVal (mK (.int (100 : Nat)))) rfl (oVal_of e1) rfl rfl (add_nat 100 r1)
  have q2 := mOp_of (f := dAdd) (a := oVal (mK (.int (1 : Nat)))) rfl (oVal_of e2) rfl rfl (add_nat 1 r2)
  generalize 100 + r1 = N at hN1 hN q1
  generalize 1 + r2 = d at hd1 hd q2
  obtain ⟨x, P3, hx, p3, e3⟩ := f_pick (xs := kn.map (knE N)) p2 (by decide) (by rw [List.length_map]; decide) (by rw [List.length_map]; decide)
  obtain ⟨⟨p, K⟩, hkm, rfl⟩ := List.mem_map.mp hx
  obtain ⟨⟨Sx, k⟩, kb⟩ := kn_all hN _ hkm
  dsimp only at k kb
  obtain ⟨P4, c4', p4, hc4, e4⟩ := l_prod (S := S) (c4 := .pl (.lst (kn.map (knE N)))) (c5 := .pl (.tup (p.map prD))) (c10 := .un) p3 (by decide) k hN1 hN hd1 hd
  obtain ⟨P5, c5', p5, hc5, e5⟩ := l_fact (S := S) (d := d) (c4 := .pl (.lst (kn.map (knE N)))) (c7 := .pl (.tup ((p.map (spq d)).map prD))) (c10 := .un) p4 (by omega) k kb hN1 hN
  have hmin := min_sq (f := lfun Km) hN1 fun i hi => of_decide_eq_true (List.all_eq_true.mp Km_pos i (List.mem_range.mpr (by omega)))
  obtain ⟨z, hz, e6⟩ := hmin
  let ρ0 : Env := [.pl S, .un, .un, .un, .un, .un, .un, .un, .un, .un, .un, .un]
  let cK : Cell := .pl (.lst (kn.map (knE N)))
  let cp : Cell := .pl (.tup (p.map prD))
  let cr : Cell := .pl (.lst (sqD N (lfun K)))
  let cs : Cell := .pl (.tup ((p.map (spq d)).map prD))
  let ct : Cell := .pl (.tup (sqD N (lfun Kt)))
  refine ⟨_, mDef_rt (ρ := EL S P5 N d cK cp cr cs ct) ?_⟩
  refine sSeq_nx (ρ1 := [.pl S, .ow P0, .un, .un, .un, .un, .un, .un, .un, .un, .un, .un]) (sSet_of (r := .fr P0) (mCallP_of (os := [.val S]) rfl rfl e0) rfl) ?_
  refine sSeq_nx (ρ1 := EL S P2 N d .un .un .un .un .un) (sPar_of (mRc_of q1 (mRc_of q2 rfl)) rfl) ?_
  refine sSeq_nx (ρ1 := EL S P2 N d .un .un .un .un .un) (sIf_of (l_rows hN1 hN) (fun z => by cases z) fun _ => rfl) ?_
  refine sSeq_nx (ρ1 := EL S P2 N d (.ow (.lst (kn.map (knE N)))) .un .un .un .un) (sSet_of (l_known hN1 hN) rfl) ?_
  refine sSeq_nx (ρ1 := EL S P3 N d cK cp cr .un .un) ?_ ?_
  · have a := mCallQ_of (dfl := df__law_pick.drop 0) (fm := m__law_pick) (args := mAc (oVar 1) (mAc (oVal (mVar 4)) mA0)) (ρ := EL S P2 N d (.ow (.lst (kn.map (knE N)))) .un .un .un .un) (ρ1 := EL S P2 N d cK .un .un .un .un) (i := 1) (os := [.val (.lst (kn.map (knE N)))]) rfl rfl rfl e3
    unfold sAsg ofE
    rw [a]
    rfl
  refine sSeq_nx (ρ1 := EL S P3 N d cK cp cr cs .un) (sSet_of (l_spread (by omega) k.pl (R := .non)) rfl) ?_
  refine sSeq_nx (ρ1 := EL S P4 N d cK cp cr cs .un) (sIf_of e4 (fun z => by cases z) fun _ => rfl) ?_
  refine sSeq_nx (ρ1 := EL S P5 N d cK cp cr cs .un) (sIf_of e5 (fun z => by cases z) fun _ => rfl) ?_
  refine sSeq_nx (ρ1 := EL S P5 N d cK cp cr cs ct) (sSet_of (l_two [(false, (1, -1)), (false, (2, 2))] kn_t rfl hN1 hN rfl rfl) rfl) ?_
  refine sSeq_nx (ρ1 := EL S P5 N d cK cp cr cs ct) (sIf_of (k := false) (mtB_of (mOp_of (oVar_pl rfl) (oVal_of (tupOf (l_tri hN) rfl)) (get_slot rfl) rfl (ne_tup rfl))) (fun z => by cases z) fun _ => rfl) ?_
  refine sSeq_rt (sRet_of ?_)
  have a1 := l_two (pm := mTup (mAc (oVal (mTup (mAc (oVal (mK (.int 1))) (mAc (oVal (mUn dNeg (oVal (mK (.int 3))))) mA0)))) (mAc (oVal (mTup (mAc (oVal (mK (.int 2))) (mAc (oVal (mK (.int 6))) mA0)))) mA0))) (ρ := EL S P5 N d cK cp cr cs ct) [(false, (1, -3)), (false, (2, 6))] kn_m rfl hN1 hN rfl rfl
  have a2 := mCall_of (f := dMin) (args := mAc (oVal _) mA0) (mAc_of (oVal_of a1) rfl) rfl e6
  refine mOp_of (f := dGe) (b := oVal (mK (.int 1))) (oVal_of a2) rfl rfl rfl ?_
  show some (RV.pl (.bl (decide (z ≥ 1)))) = _
  rw [decide_eq_true hz]
end
end L2.MX.Lw
end
set_option maxRecDepth 100000
set_option maxHeartbeats 4000000
open PySem PySem.W PySem.Calls PyProof.Rows
theorem PySem.Challenge.cw_productrows_k12_whole_rows_far_out_holds : PySem.Challenge.rw_productrows_k12_whole_rows_far_out.Holds := by
  w_on; o_law
  refine HandSHeadRun.head_any (r := L2.MX.Lw.R) (q := view L2.MX.Lw.R.prog [42]) (H := L2.MX.Lw.hk) (ob := L2.MX.Lw.ob) (M := 2980) (loose := L2.MX.Lw.ls0 ++ L2.MX.Lw.ls1) (d := HandSHeadRun.topDef L2.MX.Lw.R.prog 42) (kwd := []) L2.MX.Lw.ob_eq
    (by kernel_rfl) (fun s => by kernel_rfl) L2.MX.Lw.run (by kernel_rfl) (by kernel_rfl) (by kernel_rfl) (by rfl) (by first | assumption | decide +kernel) (by decide +kernel) ⟨rfl, rfl, rfl, rfl, rfl, by decide +kernel⟩ ?hw ?hc
  case hw => w_witness2
  case hc =>
    refine L2.walk_ofE (l := PySem.Challenge.rw_productrows_k12_whole_rows_far_out) (n := 63) (k := 6) (x := "script") (CX := L2.MX.CXany PySem.Challenge.pw_productrows_k12_whole_rows_far_out) rfl (by decide) (by kernel_rfl) ⟨rfl, by decide, by decide⟩ ?F L2.MX.CXany_no
    intro w mg fa h Y G hmg0
    obtain ⟨K, KX, c⟩ := Y
    have hmg : mg ("law" : PySem.Str) = some (.ref fa) := by
      have e : (HandSHeadRun.topDef L2.MX.Lw.R.prog 42).name = ("law" : PySem.Str) := by kernel_rfl
      rw [← e]
      exact hmg0
    exact L2.MX.law_at (h := h) KX (hmg := hmg) (fun base => (L2.MX.Lw.ok_law (P := PySem.Challenge.pw_productrows_k12_whole_rows_far_out) (w := w) (base := base) (L2.MX.Lw.facts KX G c))) (((L2.MX.Lw.facts KX G c).d_law)) (fun F => L2.FunD.bindsA (ps := ["script"]) F fun _ _ _ _ _ _ us hl => match us, hl with | [_], _ => rfl) L2.MX.Lw.law_true
